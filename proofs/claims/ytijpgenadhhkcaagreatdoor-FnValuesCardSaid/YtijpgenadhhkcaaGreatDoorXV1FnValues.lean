import Derived.Test.YtijpgenadhhkcaaGreatDoorXBFnValues
import Derived.Test.YtijpgenadhhkcaaGreatDoorXP2FnValues
import Derived.Test.YtijpgenadhhkcaaGreatDoorXP3FnValues
import Derived.Test.YtijpgenadhhkcaaGreatDoorXP4FnValues
import Derived.Test.YtijpgenadhhkcaaGreatDoorXP5FnValues
import Derived.Test.YtijpgenadhhkcaaGreatDoorXP6FnValues
import Derived.Test.YtijpgenadhhkcaaGreatDoorXP7FnValues
import Derived.Test.YtijpgenadhhkcaaGreatDoorXP8FnValues
import Derived.Lib.ItoaNum
import Derived.Test.YtijpgenadhhkcaaGreatDoorXLFnValues
import Derived.Lib.Join
import Derived.Lib.ParseIntBCases
import Derived.Lib.SplitLaws
import Derived.Laws.Bits64
import Derived.Test.YtijpgenadhhkcaaGreatDoorXP1FnValues
section
namespace Go.Proofs.YtijpgenadhhkcaaGreatDoor.Q
open Go.RowKit Go.Proofs.YtijpgenadhhkcaaGreatDoorW.PrintWords Go.Proofs.YtijpgenadhhkcaaGreatDoorW.PrintLast Go.Proofs.YtijpgenadhhkcaaGreatDoor.P Go.Proofs.YtijpgenadhhkcaaGreatDoor.B
set_option linter.unusedVariables false
set_option linter.unusedSimpArgs false
theorem within_eq (a b c : Int) : impl_within.f a b c = some (decide (b ≤ a ∧ a ≤ c)) := by
  unfold impl_within.f
  by_cases h : b ≤ a <;> simp [h]
theorem floor_eq {a b : Int} (hb : 1 ≤ b) (h1 : -4611686018427387904 ≤ a) (h2 : a ≤ 4611686018427387904) : impl_floor.f a b = some (a / b) := by
  have hd := ediv_bounds (a := a) hb (by omega) h1 h2
  have hm := Int.emod_nonneg a (show b ≠ 0 by omega)
  have hl := Int.emod_lt_of_pos a (show 0 < b by omega)
  unfold impl_floor.f
  rw [if_neg (by omega), tdiv_pos hb, tmod_pos hb]
  by_cases c : 0 ≤ a ∨ b ∣ a
  · simp only [if_pos c]
    rw [if_neg (by omega), w64 (by omega) (by omega)]
    congr 1; omega
  · simp only [if_neg c]
    rw [if_pos (by omega), w64 (x := a / b + 1) (by omega) (by omega), w64 (by omega) (by omega)]
    congr 1; omega
theorem l01Floor_eq {a b : Int} (hb : 1 ≤ b) (h1 : -1000000000000000 ≤ a) (h2 : a ≤ 1000000000000000) (hb2 : b ≤ 1000000000000000) : spec_l01Floor.f a b = some (a / b) := by
  have hd := ediv_bounds (a := a) hb (M := 1000000000000000) (by omega) h1 h2
  have hq := ediv_mul_le (a := a) hb
  have hm := Int.emod_nonneg a (show b ≠ 0 by omega)
  have he := Int.emod_add_mul_ediv a b
  rw [Int.mul_comm] at he
  unfold spec_l01Floor.f
  rw [if_neg (by omega), tdiv_pos hb]
  by_cases c : 0 ≤ a ∨ b ∣ a
  · simp only [if_pos c, Int.add_zero]
    rw [w64 (x := a / b) (by omega) (by omega), w64 (x := a / b * b) (by omega) (by omega), if_neg (by omega)]
  · simp only [if_neg c]
    have hm0 : a % b ≠ 0 := fun e => c (.inr (Int.dvd_of_emod_eq_zero e))
    rw [w64 (x := a / b + 1) (by omega) (by omega), Int.add_mul, Int.one_mul, w64 (x := a / b * b + b) (by omega) (by omega), if_pos (by omega), w64 (by omega) (by omega)]
    congr 1; omega
theorem ceiling_eq {a b : Int} (hb : 1 ≤ b) (h1 : -4611686018427387904 ≤ a) (h2 : a ≤ 4611686018427387904) : impl_ceiling.f a b = some (cl a b) := by
  have hd := ediv_bounds (a := -a) hb (M := 4611686018427387904) (by omega) (by omega) (by omega)
  unfold impl_ceiling.f
  rw [w64 (by omega) (by omega), floor_eq hb (by omega) (by omega)]
  simp only [Option.bind_some]
  rw [w64 (by omega) (by omega)]; rfl
theorem l01Ceil_eq {a b : Int} (hb : 1 ≤ b) (h1 : -1000000000000000 ≤ a) (h2 : a ≤ 1000000000000000) (hb2 : b ≤ 1000000000000000) : spec_l01Ceil.f a b = some (cl a b) := by
  have hd := ediv_bounds (a := -a) hb (M := 1000000000000000) (by omega) (by omega) (by omega)
  unfold spec_l01Ceil.f
  rw [w64 (by omega) (by omega), l01Floor_eq hb (by omega) (by omega) hb2]
  simp only [Option.bind_some]
  rw [w64 (by omega) (by omega)]; rfl
theorem near_aux {a b : Int} (hb : 1 ≤ b) (h1 : -1000000000000000 ≤ a) (h2 : a ≤ 1000000000000000) (hb2 : b ≤ 1000000000000000) :
    (if (wrap64 (2 * (wrap64 (a - (wrap64 (a / b * b)))))) > b then (some (wrap64 (a / b + 1))) else (if (wrap64 (2 * (wrap64 (a - (wrap64 (a / b * b)))))) = b then (if (Int.tmod (a / b) 2) = 0 then (some (a / b)) else (some (wrap64 (a / b + 1)))) else (some (a / b)))) = some (nr a b) := by
  have hd := ediv_bounds (a := a) hb (M := 1000000000000000) (by omega) h1 h2
  have hq := ediv_mul_le (a := a) hb
  rw [w64 (x := a / b * b) (by omega) (by omega), w64 (x := a - a / b * b) (by omega) (by omega), w64 (x := 2 * (a - a / b * b)) (by omega) (by omega), w64 (x := a / b + 1) (by omega) (by omega)]
  unfold nr
  simp only [tmod2]
  split
  · rfl
  · split
    · split <;> rfl
    · rfl
theorem nearest_eq {a b : Int} (hb : 1 ≤ b) (h1 : -1000000000000000 ≤ a) (h2 : a ≤ 1000000000000000) (hb2 : b ≤ 1000000000000000) : impl_nearest.f a b = some (nr a b) := by
  unfold impl_nearest.f
  rw [floor_eq hb (by omega) (by omega)]
  simp only [Option.bind_some]
  exact near_aux hb h1 h2 hb2
def allIn (l : List Int) (a b : Int) : Bool := l.all fun x => decide (a ≤ x ∧ x ≤ b)
theorem allIn_iff {l : List Int} {a b : Int} : allIn l a b = true ↔ ∀ x ∈ l, a ≤ x ∧ x ≤ b := by simp [allIn]
theorem indexFunc_eq {l : List Int} (hl : l.length ≤ 4611686018427387904) (a b : Int) (k : Nat) (hk : l.length < k) : Za1.f k l a b = some (!allIn l a b) := by
  have h : ∀ d n k, l.length - n = d → n ≤ l.length → d < k → ∃ r, Zaq.l0 k l (l.length : Int) (n : Int) a b = some r ∧ decide (r ≥ 0) = !allIn (l.drop n) a b := by
    intro d
    induction d with
    | zero =>
      intro n k hd hn hk
      obtain ⟨k, rfl, _⟩ := succ_of_lt hk
      obtain rfl : n = l.length := by omega
      refine ⟨-1, ?_, by simp [allIn]⟩
      simp only [Zaq.l0]
      rw [if_neg (by omega)]
    | succ d ih =>
      intro n k hd hn hk
      obtain ⟨k, rfl, hk'⟩ := succ_of_lt hk
      have h : n < l.length := by omega
      simp only [Zaq.l0, impl_areWithin_1_v.f]
      rw [if_pos (by omega), if_pos (by omega), if_pos (by omega), within_eq, rd_nat h, wrap_nat (by omega)]
      simp only [Option.bind_some]
      by_cases c : a ≤ l[n] ∧ l[n] ≤ b
      · obtain ⟨r, h1, h2⟩ := ih (n + 1) k (by omega) (by omega) (by omega)
        refine ⟨r, ?_, ?_⟩
        · simp only [c, and_self, decide_true, Bool.not_true]
          exact h1
        · rw [h2, List.drop_eq_getElem_cons h]
          simp only [allIn, List.all_cons, c, and_self, decide_true, Bool.true_and]
      · refine ⟨n, by simp [c], ?_⟩
        rw [List.drop_eq_getElem_cons h]
        simp only [allIn, List.all_cons, c, decide_false, Bool.false_and, Bool.not_false, decide_eq_true_eq]
        omega
  obtain ⟨r, h1, h2⟩ := h l.length 0 k (by omega) (by omega) hk
  unfold Za1.f Zaq.f
  rw [show Zaq.l0 k l (l.length : Int) 0 a b = some r from h1]
  simp only [Option.bind_some]
  rw [h2, List.drop_zero]
theorem areWithin_eq {l : List Int} (hl : l.length ≤ 4611686018427387904) (a b : Int) {k : Nat} (hk : l.length < k) : impl_areWithin.f k l a b = some (allIn l a b) := by
  unfold impl_areWithin.f
  rw [indexFunc_eq hl a b k hk]
  simp
theorem sumS : ∀ (l : List Int) (s M : Int), (∀ x ∈ l, -M ≤ x ∧ x ≤ M) → 0 ≤ M → -(l.length * M) ≤ l.sum ∧ l.sum ≤ l.length * M
  | [], _, M, _, _ => by simp
  | x :: xs, s, M, h, hM => by
    have h1 := sumS xs s M (fun y hy => h y (List.mem_cons_of_mem _ hy)) hM
    have h2 := h x (List.mem_cons_self ..)
    rw [List.sum_cons, List.length_cons, Int.natCast_add, Int.add_mul]
    omega
theorem sum_run (D : Int → Option Int) : ∀ (l : List Int) (s M : Int), (∀ x ∈ l, -M ≤ x ∧ x ≤ M) → 0 ≤ M → -9223372036854775808 ≤ s - l.length * M → s + l.length * M ≤ 9223372036854775807 →
    runL (fun x s => .inl (wrap64 (s + x))) D l s = D (s + l.sum)
  | [], s, M, _, _, _, _ => by simp [runL]
  | x :: xs, s, M, h, hM, h1, h2 => by
    have h3 := h x (List.mem_cons_self ..)
    rw [List.length_cons, Int.natCast_add, Int.add_mul] at h1 h2
    have h4 : 0 ≤ (xs.length : Int) * M := Int.mul_nonneg (by omega) hM
    simp only [runL]
    rw [w64 (by omega) (by omega), sum_run D xs (s + x) M (fun y hy => h y (List.mem_cons_of_mem _ hy)) hM (by omega) (by omega), List.sum_cons]
    congr 1; omega
theorem sum_eq {l : List Int} (hl : l.length ≤ 1000000) (h : ∀ x ∈ l, -1000000000000 ≤ x ∧ x ≤ 1000000000000) {k : Nat} (hk : l.length < k) : impl_sum.f k l = some l.sum := by
  have h1 := loopL0 (l := l) (F := fun k i s => impl_sum.l0 k s l (l.length : Int) i) (S := fun x s => .inl (wrap64 (s + x))) (D := fun s => some s) (by omega)
    (fun k s => by simp only [impl_sum.l0]; rw [if_neg (by omega)])
    (fun k n hn s => by
      simp only [impl_sum.l0]
      rw [if_pos (by omega), if_pos (by omega), if_pos (by omega), rd_nat hn, wrap_nat (by omega)]) k hk 0
  unfold impl_sum.f
  rw [h1, sum_run _ l 0 1000000000000 h (by omega) (by omega) (by omega)]
  simp
end Go.Proofs.YtijpgenadhhkcaaGreatDoor.Q
end
section
namespace Go.Proofs.YtijpgenadhhkcaaGreatDoor.Q
open Go.RowKit Go.Proofs.YtijpgenadhhkcaaGreatDoorW.PrintWords Go.Proofs.YtijpgenadhhkcaaGreatDoorW.PrintLast Go.Proofs.YtijpgenadhhkcaaGreatDoor.P Go.Proofs.YtijpgenadhhkcaaGreatDoor.B
set_option linter.unusedVariables false
set_option linter.unusedSimpArgs false
def vv (den : Int) (l : List Int) : Bool := decide (1 ≤ den ∧ den ≤ 1000) && decide (l.length ≤ 40) && allIn l (-1000000) 1000000
theorem vv_iff {den : Int} {l : List Int} : vv den l = true ↔ (1 ≤ den ∧ den ≤ 1000) ∧ l.length ≤ 40 ∧ ∀ x ∈ l, -1000000 ≤ x ∧ x ≤ 1000000 := by
  simp only [vv, Bool.and_eq_true, decide_eq_true_eq, allIn_iff, and_assoc]
theorem validValues_eq {l : List Int} (hl : l.length ≤ 4611686018427387904) (den : Int) {k : Nat} (hk : l.length < k) : Zau.f k den l = some (vv den l) := by
  unfold Zau.f
  rw [within_eq, areWithin_eq hl _ _ hk]
  simp only [Option.bind_some, vv]
  by_cases c : 1 ≤ den ∧ den ≤ 1000
  · by_cases c2 : l.length ≤ 40
    · have c3 : (l.length : Int) ≤ 40 := by omega
      simp [c, c2, c3]
    · have c3 : ¬ (l.length : Int) ≤ 40 := by omega
      simp [c, c2, c3]
  · simp [c]
end Go.Proofs.YtijpgenadhhkcaaGreatDoor.Q
end
section
namespace Go.Proofs.YtijpgenadhhkcaaGreatDoor.Q
open Go.RowKit Go.Proofs.YtijpgenadhhkcaaGreatDoorW.PrintWords Go.Proofs.YtijpgenadhhkcaaGreatDoorW.PrintLast Go.Proofs.YtijpgenadhhkcaaGreatDoor.P Go.Proofs.YtijpgenadhhkcaaGreatDoor.B
set_option linter.unusedVariables false
set_option linter.unusedSimpArgs false
def ap {α ρ : Type} (f : α → Int) (x : α) (acc : List Int) : List Int ⊕ Option ρ := if acc.length < 17592186044416 then .inl (acc ++ [f x]) else .inr none
theorem ap_run {α ρ : Type} (f : α → Int) (D : List Int → Option ρ) : ∀ (l : List α) (acc : List Int), acc.length + l.length ≤ 17592186044416 → runL (ap f) D l acc = D (acc ++ l.map f)
  | [], acc, _ => by simp [runL]
  | x :: xs, acc, h => by
    rw [List.length_cons] at h
    simp only [runL, ap]
    rw [if_pos (by omega)]
    simp only
    rw [ap_run f D xs _ (by simp; omega)]
    simp
end Go.Proofs.YtijpgenadhhkcaaGreatDoor.Q
end
section
namespace Go.Proofs.YtijpgenadhhkcaaGreatDoor.Q
open Go.RowKit Go.Proofs.YtijpgenadhhkcaaGreatDoorW.PrintWords Go.Proofs.YtijpgenadhhkcaaGreatDoorW.PrintLast Go.Proofs.YtijpgenadhhkcaaGreatDoor.P Go.Proofs.YtijpgenadhhkcaaGreatDoor.B
set_option linter.unusedVariables false
set_option linter.unusedSimpArgs false
def ll (l : List Int) : Bool := decide (l.length ≤ 40) && allIn l (-1000000000) 1000000000
theorem ll_iff {l : List Int} : ll l = true ↔ l.length ≤ 40 ∧ ∀ x ∈ l, -1000000000 ≤ x ∧ x ≤ 1000000000 := by
  simp only [ll, Bool.and_eq_true, decide_eq_true_eq, allIn_iff]
theorem isList_eq {l : List Int} (hl : l.length ≤ 4611686018427387904) {k : Nat} (hk : l.length < k) : impl_isList.f k l = some (ll l) := by
  unfold impl_isList.f
  rw [areWithin_eq hl _ _ hk]
  simp only [Option.bind_some, ll]
  by_cases c2 : l.length ≤ 40
  · have c3 : (l.length : Int) ≤ 40 := by omega
    simp [c2, c3]
  · have c3 : ¬ (l.length : Int) ≤ 40 := by omega
    simp [c2, c3]
end Go.Proofs.YtijpgenadhhkcaaGreatDoor.Q
end
section
namespace Go.Proofs.YtijpgenadhhkcaaGreatDoor.Q
open Go.RowKit Go.Proofs.YtijpgenadhhkcaaGreatDoorW.PrintWords Go.Proofs.YtijpgenadhhkcaaGreatDoorW.PrintLast Go.Proofs.YtijpgenadhhkcaaGreatDoor.P Go.Proofs.YtijpgenadhhkcaaGreatDoor.B
set_option linter.unusedVariables false
set_option linter.unusedSimpArgs false
theorem b10Sum_eq {l : List Int} (hl : l.length ≤ 1000000) (h : ∀ x ∈ l, -1000000000000 ≤ x ∧ x ≤ 1000000000000) {k : Nat} (hk : l.length < k) : laws_b10Sum.f k l = some l.sum := by
  have h1 := loopL0 (l := l) (F := fun k i s => laws_b10Sum.l0 k l s i) (S := fun x s => .inl (wrap64 (s + x))) (D := fun s => some s) (by omega)
    (fun k s => by simp only [laws_b10Sum.l0]; rw [if_neg (by omega)])
    (fun k n hn s => by
      simp only [laws_b10Sum.l0]
      rw [if_pos (by omega), if_pos (by omega), rd_nat hn, wrap_nat (by omega)]) k hk 0
  unfold laws_b10Sum.f
  rw [h1, sum_run _ l 0 1000000000000 h (by omega) (by omega) (by omega)]
  simp
def okd (den : Int) (l : List Int) : Prop := 1 ≤ den ∧ den ≤ 1000000000 ∧ l.length ≤ 1000000 ∧ ∀ x ∈ l, -100000000000 ≤ x ∧ x ≤ 100000000000
theorem okd_vv {den : Int} {l : List Int} (h : vv den l = true) : okd den l := by
  have h := vv_iff.1 h
  exact ⟨h.1.1, by omega, by omega, fun x hx => by have := h.2.2 x hx; omega⟩
theorem okd.get {den : Int} {l : List Int} (h : okd den l) {n : Nat} (hn : n < l.length) : -100000000000 ≤ l[n] ∧ l[n] ≤ 100000000000 := h.2.2.2 _ (List.getElem_mem hn)
def fls (den : Int) (l : List Int) : List Int := l.map (· / den)
def cls (den : Int) (l : List Int) : List Int := l.map (cl · den)
def nrs (den : Int) (l : List Int) : List Int := l.map (nr · den)
theorem fls_length (den : Int) (l : List Int) : (fls den l).length = l.length := List.length_map ..
theorem cls_length (den : Int) (l : List Int) : (cls den l).length = l.length := List.length_map ..
theorem nrs_length (den : Int) (l : List Int) : (nrs den l).length = l.length := List.length_map ..
theorem floors_eq {den : Int} {l : List Int} (h : okd den l) {k : Nat} (hk : l.length < k) : impl_Values_floors.f k den l = some (fls den l) := by
  have hl := h.2.2.1
  have h1 := loopL0 (l := l) (F := fun k i acc => Zav.l0 k acc l (l.length : Int) i den l) (S := ap (· / den)) (D := fun s => some s) (by omega)
    (fun k s => by simp only [Zav.l0]; rw [if_neg (by omega)])
    (fun k n hn s => by
      have hx := h.get hn
      simp only [Zav.l0, impl_Values_floors_1_v.f]
      rw [if_pos (by omega), if_pos (by omega), if_pos (by omega), rd_nat hn, wrap_nat (by omega), floor_eq h.1 (by omega) (by omega)]
      simp only [Option.bind_some, ap]
      split <;> rfl) k hk []
  unfold impl_Values_floors.f Zav.f
  rw [h1, ap_run _ _ _ _ (by simp; omega)]
  rfl
theorem ceilings_eq {den : Int} {l : List Int} (h : okd den l) {k : Nat} (hk : l.length < k) : impl_Values_ceilings.f k den l = some (cls den l) := by
  have hl := h.2.2.1
  have h1 := loopL0 (l := l) (F := fun k i acc => Zat.l0 k acc l (l.length : Int) i den l) (S := ap (cl · den)) (D := fun s => some s) (by omega)
    (fun k s => by simp only [Zat.l0]; rw [if_neg (by omega)])
    (fun k n hn s => by
      have hx := h.get hn
      simp only [Zat.l0, impl_Values_ceilings_1_v.f]
      rw [if_pos (by omega), if_pos (by omega), if_pos (by omega), rd_nat hn, wrap_nat (by omega), ceiling_eq h.1 (by omega) (by omega)]
      simp only [Option.bind_some, ap]
      split <;> rfl) k hk []
  unfold impl_Values_ceilings.f Zat.f
  rw [h1, ap_run _ _ _ _ (by simp; omega)]
  rfl
theorem eachNearest_eq {den : Int} {l : List Int} (h : okd den l) {k : Nat} (hk : l.length < k) : Zaw.f k den l den l = some (nrs den l) := by
  have hl := h.2.2.1
  have h1 := loopL0 (l := l) (F := fun k i acc => Zaw.l0 k acc l (l.length : Int) i den l) (S := ap (nr · den)) (D := fun s => some s) (by omega)
    (fun k s => by simp only [Zaw.l0]; rw [if_neg (by omega)])
    (fun k n hn s => by
      have hx := h.get hn
      have hd := h.2.1
      simp only [Zaw.l0, impl_NearestOf_1_v.f]
      rw [if_pos (by omega), if_pos (by omega), if_pos (by omega), rd_nat hn, wrap_nat (by omega), nearest_eq h.1 (by omega) (by omega) (by omega)]
      simp only [Option.bind_some, ap]
      split <;> rfl) k hk []
  unfold Zaw.f
  rw [h1, ap_run _ _ _ _ (by simp; omega)]
  rfl
def ps : Int → List Int → List Int
  | _, [] => []
  | s, x :: xs => (s + x) :: ps (s + x) xs
def rs {ρ : Type} (x : Int) (s : List Int × Int) : (List Int × Int) ⊕ Option ρ := if s.1.length < 17592186044416 then .inl (s.1 ++ [wrap64 (s.2 + x)], wrap64 (s.2 + x)) else .inr none
def ers (den : Int) (nums list : List Int) : List Int := (list.zip nums).map fun p => den * p.1 - p.2
theorem ers_length {den : Int} {nums list : List Int} (h : list.length = nums.length) : (ers den nums list).length = nums.length := by simp [ers, h]
theorem mul_in {a b A B : Int} (ha : 0 ≤ a ∧ a ≤ A) (hb : -B ≤ b ∧ b ≤ B) (hB : 0 ≤ B) : -(A * B) ≤ a * b ∧ a * b ≤ A * B := by
  have x1 := Int.mul_le_mul_of_nonneg_left hb.1 ha.1
  have x2 := Int.mul_le_mul_of_nonneg_left hb.2 ha.1
  have x3 := Int.mul_le_mul_of_nonneg_right ha.2 hB
  rw [Int.mul_neg] at x1
  omega
def oke (den : Int) (nums list : List Int) : Prop := (0 ≤ den ∧ den ≤ 1000) ∧ nums.length ≤ 1000 ∧ list.length = nums.length ∧ (∀ x ∈ nums, -1000000 ≤ x ∧ x ≤ 1000000) ∧ ∀ x ∈ list, -1000000000 ≤ x ∧ x ≤ 1000000000
theorem oke_of {den : Int} {nums list : List Int} (h : vv den nums = true) (hl : list.length = nums.length) (h2 : ∀ x ∈ list, -1000000000 ≤ x ∧ x ≤ 1000000000) : oke den nums list := by
  have h := vv_iff.1 h
  exact ⟨by omega, by omega, hl, h.2.2, h2⟩
theorem oke.wrap {den : Int} {nums list : List Int} (h : oke den nums list) {n : Nat} (hn : n < (list.zip nums).length) : wrap64 (wrap64 (den * (list.zip nums)[n].1) - (list.zip nums)[n].2) = den * (list.zip nums)[n].1 - (list.zip nums)[n].2 ∧ -1000001000000 ≤ den * (list.zip nums)[n].1 - (list.zip nums)[n].2 ∧ den * (list.zip nums)[n].1 - (list.zip nums)[n].2 ≤ 1000001000000 := by
  have hm : (list.zip nums)[n] ∈ list.zip nums := List.getElem_mem hn
  generalize (list.zip nums)[n] = p at hm ⊢
  obtain ⟨a, b⟩ := p
  have h1 := h.2.2.2.2 a (List.of_mem_zip hm).1
  have h2 := h.2.2.2.1 b (List.of_mem_zip hm).2
  have h3 := mul_in h.1 h1 (by omega)
  simp only
  rw [w64 (x := den * a) (by omega) (by omega), w64 (by omega) (by omega)]
  omega
theorem zip_get1 {l m : List Int} {n : Nat} (hn : n < (l.zip m).length) : ∃ (h1 : n < l.length) (h2 : n < m.length), (l.zip m)[n].1 = l[n] ∧ (l.zip m)[n].2 = m[n] := by
  have h := hn
  rw [List.length_zip] at h
  exact ⟨by omega, by omega, by rw [List.getElem_zip], by rw [List.getElem_zip]⟩
theorem errors_eq {den : Int} {nums list : List Int} (h : oke den nums list) {k : Nat} (hk : nums.length < k) : Zax.f k den nums list = some (ers den nums list) := by
  have hz : (list.zip nums).length = nums.length := by rw [List.length_zip, h.2.2.1]; omega
  have hz2 := h.2.2.1
  have hl := h.2.1
  have h1 := loopL0 (l := list.zip nums) (F := fun k i acc => Zax.l0 k acc list (list.length : Int) i den nums) (S := ap fun p => den * p.1 - p.2) (D := fun s => some s) (by omega)
    (fun k s => by simp only [Zax.l0]; rw [if_neg (by omega)])
    (fun k n hn s => by
      obtain ⟨g1, g2, e1, e2⟩ := zip_get1 hn
      have hw := (h.wrap hn).1
      rw [e1, e2] at hw
      simp only [Zax.l0, ap]
      rw [if_pos (by omega), if_pos (by omega), if_pos (by omega), if_pos (by omega), rd_nat g1, rd_nat g2, wrap_nat (by omega), hw, e1, e2]
      split <;> rfl) k (by omega) []
  unfold Zax.f
  rw [h1, ap_run _ _ _ _ (by simp; omega)]
  rfl
def FloorsOf_res (den : Int) (l : List Int) : List Int × Bool := if vv den l = true then (fls den l, true) else ([], false)
theorem FloorsOf_impl {den : Int} {l : List Int} (_ : -9223372036854775808 ≤ den ∧ den ≤ 9223372036854775807) (_ : ∀ x ∈ l, -9223372036854775808 ≤ x ∧ x ≤ 9223372036854775807) (hl : l.length ≤ 1048576) {k : Nat} (hk : l.length + 200 < k) : impl_FloorsOf.f k den l = some (FloorsOf_res den l) := by
  unfold impl_FloorsOf.f FloorsOf_res
  rw [validValues_eq (by omega) den (by omega), Option.bind_some]
  by_cases h : vv den l = true
  · rw [if_pos h, if_pos h, floors_eq (okd_vv h) (by omega)]; rfl
  · rw [if_neg h, if_neg h]
end Go.Proofs.YtijpgenadhhkcaaGreatDoor.Q
end
section
namespace Go.Proofs.YtijpgenadhhkcaaGreatDoor.Q
open Go.RowKit Go.Proofs.YtijpgenadhhkcaaGreatDoorW.PrintWords Go.Proofs.YtijpgenadhhkcaaGreatDoorW.PrintLast Go.Proofs.YtijpgenadhhkcaaGreatDoor.P Go.Proofs.YtijpgenadhhkcaaGreatDoor.B
set_option linter.unusedVariables false
set_option linter.unusedSimpArgs false
end Go.Proofs.YtijpgenadhhkcaaGreatDoor.Q
end
section
namespace Go.Proofs.YtijpgenadhhkcaaGreatDoor.Q
open Go.RowKit Go.Proofs.YtijpgenadhhkcaaGreatDoorW.PrintWords Go.Proofs.YtijpgenadhhkcaaGreatDoorW.PrintLast Go.Proofs.YtijpgenadhhkcaaGreatDoor.P Go.Proofs.YtijpgenadhhkcaaGreatDoor.B
set_option linter.unusedVariables false
set_option linter.unusedSimpArgs false
abbrev i64 (a : Int) : Prop := -9223372036854775808 ≤ a ∧ a ≤ 9223372036854775807
theorem vv_sum {den : Int} {l : List Int} (h : vv den l = true) : l.length ≤ 1000000 ∧ ∀ x ∈ l, -1000000000000 ≤ x ∧ x ≤ 1000000000000 := by
  have h := vv_iff.1 h
  exact ⟨by omega, fun x hx => by have := h.2.2 x hx; omega⟩
theorem first_bad {α : Type} {l : List α} {p : α → Bool} (h : ¬ l.all p = true) : ∃ j, ∃ h : j < l.length, p l[j] = false := by
  apply Classical.byContradiction; intro hc
  refine h (List.all_eq_true.2 fun x hx => ?_)
  obtain ⟨j, hj, rfl⟩ := List.getElem_of_mem hx
  cases hp : p l[j]
  · exact absurd ⟨j, hj, hp⟩ hc
  · rfl
theorem loopAll {α ρ : Type} {l : List α} {m : Nat} (hm : l.length = m) {F : Nat → Int → Option ρ} (p : α → Bool) (T E : Option ρ)
    (hD : ∀ k, F (k + 1) (m : Int) = T)
    (hS : ∀ k (n : Nat) (h : n < l.length), F (k + 1) (n : Int) = if p l[n] = true then F k ((n + 1 : Nat) : Int) else E)
    {k : Nat} (hk : m < k) : F k 0 = if l.all p = true then T else E := by
  subst hm
  by_cases h : l.all p = true
  · rw [if_pos h]
    exact loopI0 (m := l.length) (F := fun k i (_ : Unit) => F k i) (fun _ _ => True) (fun r => r = T) (fun k s _ => hD k)
      (fun k n s hn _ => .inl ⟨(), trivial, by rw [hS k n hn, if_pos (List.all_eq_true.1 h _ (List.getElem_mem hn))]⟩) hk (s := ()) trivial
  · rw [if_neg h]
    obtain ⟨j, hj, hx⟩ := first_bad h
    refine loopI0 (m := l.length) (F := fun k i (_ : Unit) => F k i) (fun n _ => n ≤ j) (fun r => r = E) (fun k s hi => by omega) ?_ hk (s := ()) (by omega)
    intro k n s hn hi
    rw [hS k n hn]
    by_cases hb : p l[n] = true
    · refine .inl ⟨(), ?_, by rw [if_pos hb]⟩
      rcases Nat.lt_or_ge n j with h | h
      · omega
      · obtain rfl : n = j := by omega
        rw [hx] at hb; exact absurd hb (by simp)
    · exact .inr (by rw [if_neg hb])
def rnd (den : Int) (l list : List Int) : Bool := (list.zip l).all fun p => decide (p.1 = p.2 / den) || decide (p.1 = cl p.2 den)
def SumOf_res (den : Int) (l : List Int) : Int × Bool := if vv den l = true then (l.sum, true) else (0, false)
theorem SumOf_impl {den : Int} {l : List Int} (_ : i64 den) (_ : ∀ x ∈ l, i64 x) (hl : l.length ≤ 1048576) {k : Nat} (hk : l.length + 200 < k) : impl_SumOf.f k den l = some (SumOf_res den l) := by
  unfold impl_SumOf.f SumOf_res
  rw [validValues_eq (by omega) den (by omega), Option.bind_some]
  by_cases h : vv den l = true
  · rw [if_pos h, if_pos h, sum_eq (vv_sum h).1 (vv_sum h).2 (by omega)]; rfl
  · rw [if_neg h, if_neg h]
def CeilingsOf_res (den : Int) (l : List Int) : List Int × Bool := if vv den l = true then (cls den l, true) else ([], false)
theorem CeilingsOf_impl {den : Int} {l : List Int} (_ : i64 den) (_ : ∀ x ∈ l, i64 x) (hl : l.length ≤ 1048576) {k : Nat} (hk : l.length + 200 < k) : impl_CeilingsOf.f k den l = some (CeilingsOf_res den l) := by
  unfold impl_CeilingsOf.f CeilingsOf_res
  rw [validValues_eq (by omega) den (by omega), Option.bind_some]
  by_cases h : vv den l = true
  · rw [if_pos h, if_pos h, ceilings_eq (okd_vv h) (by omega)]; rfl
  · rw [if_neg h, if_neg h]
def ErrorsOf_res (den : Int) (l list : List Int) : List Int × Bool := if vv den l = true ∧ list.length = l.length ∧ ll list = true then (ers den l list, true) else ([], false)
theorem ErrorsOf_impl {den : Int} {l list : List Int} (_ : i64 den) (_ : ∀ x ∈ l, i64 x) (_ : ∀ x ∈ list, i64 x) (hl : l.length ≤ 1048576) (hl2 : list.length ≤ 1048576) {k : Nat} (hk : l.length + list.length + 200 < k) : impl_ErrorsOf.f k den l list = some (ErrorsOf_res den l list) := by
  unfold impl_ErrorsOf.f ErrorsOf_res
  rw [validValues_eq (by omega) den (by omega), Option.bind_some]
  by_cases h : vv den l = true
  · rw [if_pos h]
    by_cases h2 : list.length = l.length
    · rw [if_pos (by omega), areWithin_eq (by omega) _ _ (by omega), Option.bind_some]
      have hv := (vv_iff.1 h).2.1
      have he : ll list = allIn list (-1000000000) 1000000000 := by unfold ll; rw [decide_eq_true (show list.length ≤ 40 by omega)]; rfl
      rw [← he]
      by_cases h3 : ll list = true
      · rw [if_pos h3, if_pos ⟨h, h2, h3⟩, errors_eq (oke_of h h2 fun x hx => (ll_iff.1 h3).2 x hx) (by omega)]; rfl
      · rw [if_neg h3, if_neg (by simp [h3])]
    · rw [if_neg (by omega), if_neg (by simp [h2])]
  · rw [if_neg h, if_neg (by simp [h])]
def IsRounding_res (den : Int) (l list : List Int) : Bool := vv den l && (decide (list.length = l.length) && rnd den l list)
theorem IsRounding_impl {den : Int} {l list : List Int} (_ : i64 den) (_ : ∀ x ∈ l, i64 x) (_ : ∀ x ∈ list, i64 x) (hl : l.length ≤ 1048576) (hl2 : list.length ≤ 1048576) {k : Nat} (hk : l.length + list.length + 200 < k) : Zal.f k den l list = some (IsRounding_res den l list) := by
  obtain ⟨k, rfl, _⟩ := succ_of_lt hk
  unfold Zal.f IsRounding_res
  rw [validValues_eq (by omega) den (by omega), Option.bind_some]
  by_cases h : vv den l = true
  · rw [if_pos h, h, Bool.true_and]
    simp only [Zal.j0]
    by_cases h2 : list.length = l.length
    · have hz : (list.zip l).length = l.length := by rw [List.length_zip]; omega
      have hf := fls_length den l
      have hc := cls_length den l
      rw [if_neg (by simp [h2]), floors_eq (okd_vv h) (by omega), Option.bind_some, ceilings_eq (okd_vv h) (by omega), Option.bind_some, decide_eq_true h2, Bool.true_and,
       h2, loopAll hz (F := fun k i => Zal.l0 k (fls den l) (cls den l) list (l.length : Int) i) (fun p => decide (p.1 = p.2 / den) || decide (p.1 = cl p.2 den)) (some true) (some false) (fun k => by simp only [Zal.l0]; rw [if_neg (by omega)])
        (fun k n hn => by
          obtain ⟨g1, g2, e1, e2⟩ := zip_get1 hn
          have g3 : n < (fls den l).length := by omega
          have g4 : n < (cls den l).length := by omega
          have hf2 : (fls den l)[n] = l[n] / den := by simp [fls]
          have hc2 : (cls den l)[n] = cl l[n] den := by simp [cls]
          simp only [Zal.l0]
          rw [if_pos (by omega), if_pos (by omega), if_pos (by omega), if_pos (by omega), rd_nat g1, rd_nat g3, hf2, wrap_nat (by omega), e1, e2]
          by_cases c1 : list[n] = l[n] / den
          · rw [if_pos c1, if_pos (by simp [c1])]
          · rw [if_neg c1, if_pos (by omega), rd_nat g4, hc2]
            by_cases c2 : list[n] = cl l[n] den
            · rw [if_pos c2, if_pos (by simp [c2])]
            · rw [if_neg c2, if_neg (by simp [c1, c2])]) (by omega)]
      unfold rnd
      split
      · rename_i h; rw [h]
      · rename_i h; simp only [Bool.not_eq_true] at h; rw [h]
    · rw [if_pos (by simp only [bne_iff_ne]; omega), decide_eq_false h2]; rfl
  · rw [if_neg h]
    simp only [Zal.j0]
    rw [if_pos trivial]; simp only [Bool.not_eq_true] at h; rw [h]; rfl
end Go.Proofs.YtijpgenadhhkcaaGreatDoor.Q
end
section
namespace Go.Proofs.YtijpgenadhhkcaaGreatDoor.Q
open Go.RowKit Go.Proofs.YtijpgenadhhkcaaGreatDoorW.PrintWords Go.Proofs.YtijpgenadhhkcaaGreatDoorW.PrintLast Go.Proofs.YtijpgenadhhkcaaGreatDoor.P Go.Proofs.YtijpgenadhhkcaaGreatDoor.B
set_option linter.unusedVariables false
set_option linter.unusedSimpArgs false
def NearestOf_res (den : Int) (l : List Int) : List Int × Bool := if vv den l = true then (nrs den l, true) else ([], false)
theorem NearestOf_impl {den : Int} {l : List Int} (_ : i64 den) (_ : ∀ x ∈ l, i64 x) (hl : l.length ≤ 1048576) {k : Nat} (hk : l.length + 200 < k) : impl_NearestOf.f k den l = some (NearestOf_res den l) := by
  unfold impl_NearestOf.f NearestOf_res
  rw [validValues_eq (by omega) den (by omega), Option.bind_some]
  by_cases h : vv den l = true
  · rw [if_pos h, if_pos h, eachNearest_eq (okd_vv h) (by omega)]; rfl
  · rw [if_neg h, if_neg h]
theorem IsRounding_iff {den : Int} {l list : List Int} : IsRounding_res den l list = true ↔ vv den l = true ∧ list.length = l.length ∧ rnd den l list = true := by
  simp only [IsRounding_res, Bool.and_eq_true, decide_eq_true_eq]
end Go.Proofs.YtijpgenadhhkcaaGreatDoor.Q
end
section
namespace Go.Proofs.YtijpgenadhhkcaaGreatDoor.Q
open Go.RowKit Go.Proofs.YtijpgenadhhkcaaGreatDoorW.PrintWords Go.Proofs.YtijpgenadhhkcaaGreatDoorW.PrintLast Go.Proofs.YtijpgenadhhkcaaGreatDoor.P Go.Proofs.YtijpgenadhhkcaaGreatDoor.B
set_option linter.unusedVariables false
set_option linter.unusedSimpArgs false
def itx (x : Int) : ByteArray := ⟨(Lib.itoa x).toArray⟩
theorem mk_size (a : List UInt8) : (⟨a.toArray⟩ : ByteArray).size = a.length := rfl
theorem dec_step (u : Nat) : Lib.decDigits u = if u < 10 then [UInt8.ofNat (48 + u)] else Lib.decDigits (u / 10) ++ [UInt8.ofNat (48 + u % 10)] := by
  rw [Lib.decDigits]
  by_cases h : u < 10
  · rw [dif_pos h, if_pos h]
  · rw [dif_neg h, if_neg h]
theorem Decimal_eq {a0 : Int} (hx : -9223372036854775808 ≤ a0 ∧ a0 ≤ 9223372036854775807) : impl_Decimal.f a0 = some (itx a0) := by
  unfold impl_Decimal.f strconv_FormatInt.f itx
  rw [if_pos ⟨rfl, hx.1, hx.2⟩, Option.bind_some]
theorem dec_len : ∀ (j u : Nat), u < 10 ^ (j + 1) → (Lib.decDigits u).length ≤ j + 1 := by
  intro j
  induction j with
  | zero => intro u h; rw [dec_step, if_pos (by simpa using h)]; simp
  | succ j ih =>
    intro u h
    rw [dec_step]
    by_cases c : u < 10
    · rw [if_pos c]; simp
    · rw [if_neg c, List.length_append, List.length_singleton]
      have hp : 10 ^ (j + 1 + 1) = 10 ^ (j + 1) * 10 := Nat.pow_succ ..
      have := ih (u / 10) (by omega)
      omega
theorem itoa_len {x : Int} (h : -1000000000 ≤ x ∧ x ≤ 1000000000) : (Lib.itoa x).length ≤ 11 := by
  have hp : (10 : Nat) ^ (9 + 1) = 10000000000 := by decide
  unfold Lib.itoa
  by_cases c : x < 0
  · rw [if_pos c]
    have := dec_len 9 x.natAbs (by omega)
    simp only [List.length_cons]; omega
  · rw [if_neg c]
    have := dec_len 9 x.toNat (by omega)
    omega
theorem itx_size {x : Int} (h : -1000000000 ≤ x ∧ x ≤ 1000000000) : (itx x).size ≤ 11 := itoa_len h
end Go.Proofs.YtijpgenadhhkcaaGreatDoor.Q
end
section
namespace Go.Proofs.YtijpgenadhhkcaaGreatDoor.Q
open Go.RowKit Go.Proofs.YtijpgenadhhkcaaGreatDoorW.PrintWords Go.Proofs.YtijpgenadhhkcaaGreatDoorW.PrintLast Go.Proofs.YtijpgenadhhkcaaGreatDoor.P Go.Proofs.YtijpgenadhhkcaaGreatDoor.B
set_option linter.unusedVariables false
set_option linter.unusedSimpArgs false
def jn (l : List Int) : List UInt8 := Lib.join (l.map Lib.itoa) [44]
def txt (l : List Int) : ByteArray := if l = [] then ⟨#[45]⟩ else ⟨(jn l).toArray⟩
theorem jn_one (x : Int) : jn [x] = Lib.itoa x := Lib.join_one _ _
theorem jn_len : ∀ {l : List Int}, (∀ x ∈ l, -1000000000 ≤ x ∧ x ≤ 1000000000) → (jn l).length ≤ 12 * l.length := by
  intro l h
  cases l with
  | nil => simp [jn, Lib.join_nil]
  | cons y r =>
    unfold jn
    rw [List.map_cons, Lib.join_cons]
    have h1 := itoa_len (h y List.mem_cons_self)
    have h2 : ∀ r : List Int, (∀ x ∈ r, -1000000000 ≤ x ∧ x ≤ 1000000000) → (Lib.joinTail [44] (r.map Lib.itoa)).length ≤ 12 * r.length := by
      intro r
      induction r with
      | nil => intro _; simp [Lib.joinTail]
      | cons z r ih =>
        intro h
        have h3 := itoa_len (h z List.mem_cons_self)
        have h4 := ih (fun x hx => h x (List.mem_cons_of_mem _ hx))
        simp only [Lib.joinTail, List.map_cons, List.flatten_cons, List.length_append, List.length_cons, List.length_nil] at h4 ⊢
        omega
    have h5 := h2 r (fun x hx => h x (List.mem_cons_of_mem _ hx))
    simp only [List.length_append, List.length_cons] at h5 ⊢
    omega
theorem impl_loop {l : List Int} (hl : l.length ≤ 40) (hb : ∀ x ∈ l, -1000000000 ≤ x ∧ x ≤ 1000000000) {k : Nat} (hk : l.length + 5 < k) : impl_ListText.l0 k [] l (l.length : Int) 0 = some (⟨(jn l).toArray⟩, true) := by
  have bd : ∀ n (h : n < l.length), -1000000000 ≤ l[n] ∧ l[n] ≤ 1000000000 := fun n h => hb _ (List.getElem_mem h)
  refine loopI0 (m := l.length) (F := fun k i s => impl_ListText.l0 k s l (l.length : Int) i) (fun n s => s = (l.take n).map itx) (fun r => r = some (⟨(jn l).toArray⟩, true)) ?_ ?_ (by omega) rfl
  · rintro k s rfl
    have e : ((l.take l.length).map itx).map (fun x : ByteArray => x.data.toList) = l.map Lib.itoa := by
      rw [List.take_length, List.map_map]
      rfl
    have hj : (jn l).length ≤ 12 * l.length := jn_len hb
    simp only [impl_ListText.l0]
    rw [if_neg (by omega)]
    unfold strings_Join.f
    rw [e, if_pos ⟨by rw [List.length_map, List.length_take]; omega, by have : (jn l).length ≤ 140737488355328 := by omega
                                                                        exact this⟩, Option.bind_some]
    rfl
  · rintro k n s hn rfl
    refine .inl ⟨_, rfl, ?_⟩
    simp only [impl_ListText.l0]
    rw [if_pos (by omega), if_pos (by omega), if_pos (by omega), rd_nat hn, Decimal_eq (by have := bd n hn; omega), Option.bind_some, if_pos (by rw [List.length_map, List.length_take]; omega), wrap_nat (by omega), List.take_succ_eq_append_getElem hn, List.map_append]
    rfl
def ListText_res (l : List Int) : ByteArray × Bool := if ll l = true then (txt l, true) else (⟨#[]⟩, false)
theorem ListText_impl {l : List Int} (hw : ∀ x ∈ l, -9223372036854775808 ≤ x ∧ x ≤ 9223372036854775807) (hl : l.length ≤ 1048576) {k : Nat} (hk : l.length + 3000 < k) : impl_ListText.f k l = some (ListText_res l) := by
  unfold impl_ListText.f ListText_res
  rw [isList_eq (by omega) (by omega), Option.bind_some]
  by_cases c : ll l = true
  · have c' := ll_iff.1 c
    rw [if_pos c, if_pos c]
    unfold txt
    by_cases c2 : l = []
    · subst c2; simp
    · have hp : l.length ≠ 0 := fun h => c2 (List.eq_nil_of_length_eq_zero h)
      rw [if_neg (by omega), if_neg c2, impl_loop c'.1 c'.2 (by omega)]
  · rw [if_neg c, if_neg c]
end Go.Proofs.YtijpgenadhhkcaaGreatDoor.Q
end
section
namespace Go.Proofs.YtijpgenadhhkcaaGreatDoor.Q
open Go.RowKit Go.Proofs.YtijpgenadhhkcaaGreatDoorW.PrintWords Go.Proofs.YtijpgenadhhkcaaGreatDoorW.PrintLast Go.Proofs.YtijpgenadhhkcaaGreatDoor.P Go.Proofs.YtijpgenadhhkcaaGreatDoor.B
set_option linter.unusedVariables false
set_option linter.unusedSimpArgs false
def vtx (d : Int) (l : List Int) : ByteArray := (itx d ++ (⟨#[58]⟩ : ByteArray)) ++ txt l
theorem txt_size {l : List Int} (hl : l.length ≤ 40) (hb : ∀ x ∈ l, -1000000000 ≤ x ∧ x ≤ 1000000000) : (txt l).size ≤ 481 := by
  unfold txt
  split
  · decide
  · have := jn_len hb
    rw [mk_size]; omega
def ValuesText_res (d : Int) (l : List Int) : ByteArray × Bool := if vv d l = true then (vtx d l, true) else (⟨#[]⟩, false)
theorem vtx_sizes {d : Int} {l : List Int} (hd : 1 ≤ d ∧ d ≤ 1000) (hl : l.length ≤ 40) (hb : ∀ x ∈ l, -1000000 ≤ x ∧ x ≤ 1000000) : (itx d).size + 1 ≤ 9223372036854775807 ∧ (itx d ++ (⟨#[58]⟩ : ByteArray)).size + (txt l).size ≤ 9223372036854775807 := by
  have h1 := itx_size (x := d) (by omega)
  have h2 := txt_size hl (fun x hx => by have := hb x hx; omega)
  rw [ByteArray.size_append, show (⟨#[58]⟩ : ByteArray).size = 1 from rfl]
  omega
theorem ValuesText_impl {d : Int} {l : List Int} (hd : -9223372036854775808 ≤ d ∧ d ≤ 9223372036854775807) (hw : ∀ x ∈ l, -9223372036854775808 ≤ x ∧ x ≤ 9223372036854775807) (hl : l.length ≤ 1048576) {k : Nat} (hk : l.length + 3000 < k) : impl_ValuesText.f k d l = some (ValuesText_res d l) := by
  unfold impl_ValuesText.f ValuesText_res
  rw [validValues_eq (by omega) d (by omega), Option.bind_some]
  by_cases c : vv d l = true
  · have c' := vv_iff.1 c
    have hz := vtx_sizes c'.1 c'.2.1 c'.2.2
    have hll : ll l = true := ll_iff.2 ⟨c'.2.1, fun x hx => by have := c'.2.2 x hx; omega⟩
    rw [if_pos c, if_pos c, ListText_impl hw hl (by omega)]
    unfold ListText_res
    rw [if_pos hll, Option.bind_some, Decimal_eq hd, Option.bind_some, if_pos hz.1, if_pos hz.2]
    rfl
  · rw [if_neg c, if_neg c]
end Go.Proofs.YtijpgenadhhkcaaGreatDoor.Q
end
section
namespace Go.Proofs.YtijpgenadhhkcaaGreatDoor.Q
open Go.RowKit Go.Proofs.YtijpgenadhhkcaaGreatDoorW.PrintWords Go.Proofs.YtijpgenadhhkcaaGreatDoorW.PrintLast Go.Proofs.YtijpgenadhhkcaaGreatDoor.P Go.Proofs.YtijpgenadhhkcaaGreatDoor.B
set_option linter.unusedVariables false
set_option linter.unusedSimpArgs false
def fold10 (acc : Nat) (l : List UInt8) : Nat := l.foldl (fun a c => a * 10 + (c.toNat - 48)) acc
def dg (c : UInt8) : Bool := decide (48 ≤ c.toNat ∧ c.toNat ≤ 57)
theorem dg_iff {c : UInt8} : dg c = true ↔ 48 ≤ c.toNat ∧ c.toNat ≤ 57 := decide_eq_true_iff
theorem fold_ge : ∀ (l : List UInt8) (acc : Nat), acc ≤ fold10 acc l
  | [], acc => Nat.le_refl _
  | c :: r, acc => by
    have := fold_ge r (acc * 10 + (c.toNat - 48))
    show acc ≤ fold10 (acc * 10 + (c.toNat - 48)) r
    omega
theorem fold_snoc (l : List UInt8) (acc : Nat) (c : UInt8) : fold10 acc (l ++ [c]) = fold10 acc l * 10 + (c.toNat - 48) := by
  unfold fold10
  rw [List.foldl_append]
  rfl
theorem u8d {d : Nat} (h : d < 10) : (UInt8.ofNat (48 + d)).toNat = 48 + d := by
  rw [UInt8.toNat_ofNat']
  omega
theorem dec_read (u : Nat) : (Lib.decDigits u).all dg = true ∧ fold10 0 (Lib.decDigits u) = u ∧ Lib.decDigits u ≠ [] := by
  induction u using Nat.strongRecOn with
  | _ u ih =>
    rw [dec_step]
    by_cases c : u < 10
    · rw [if_pos c]
      refine ⟨?_, ?_, by simp⟩
      · rw [List.all_cons, List.all_nil, Bool.and_true, dg_iff, u8d c]; omega
      · show 0 * 10 + ((UInt8.ofNat (48 + u)).toNat - 48) = u
        rw [u8d c]; omega
    · rw [if_neg c]
      obtain ⟨h1, h2, h3⟩ := ih (u / 10) (by omega)
      have h10 : u % 10 < 10 := Nat.mod_lt _ (by omega)
      refine ⟨?_, ?_, by simp⟩
      · rw [List.all_append, h1, List.all_cons, List.all_nil, Bool.and_true, Bool.true_and, dg_iff, u8d h10]; omega
      · rw [fold_snoc, h2, u8d h10]; omega
theorem parseUintM_dg : ∀ (l : List UInt8) (acc : Nat), l.all dg = true → fold10 acc l ≤ 18446744073709551615 → Lib.parseUintM 18446744073709551615 acc l = .ok (fold10 acc l)
  | [], acc, _, _ => rfl
  | c :: r, acc, h, hb => by
    rw [List.all_cons, Bool.and_eq_true, dg_iff] at h
    have hb' : fold10 (acc * 10 + (c.toNat - 48)) r ≤ 18446744073709551615 := hb
    have hg := fold_ge r (acc * 10 + (c.toNat - 48))
    simp only [Lib.parseUintM]
    rw [if_pos h.1, if_neg (by omega), if_neg (by omega), parseUintM_dg r _ h.2 hb']
    rfl
theorem parse_dec {u : Nat} (h : u ≤ 1000000000) : Lib.parseUintB 64 (Lib.decDigits u) = .ok u := by
  obtain ⟨h1, h2, h3⟩ := dec_read u
  unfold Lib.parseUintB
  rw [if_neg h3, show (2 ^ 64 - 1 : Nat) = 18446744073709551615 by decide, parseUintM_dg _ _ h1 (by rw [h2]; omega), h2]
theorem parse_itoa {v : Int} (h : -1000000000 ≤ v ∧ v ≤ 1000000000) : Lib.parseIntB 64 (Lib.itoa v) = .ok v := by
  have e63 : (2 ^ (64 - 1) : Nat) = 9223372036854775808 := by decide
  unfold Lib.itoa
  by_cases c : v < 0
  · rw [if_pos c, Lib.parseIntB_minus, parse_dec (by omega), e63]
    simp only [Lib.signedC]
    rw [if_neg (by omega)]
    congr 1
    omega
  · rw [if_neg c]
    obtain ⟨h1, h2, h3⟩ := dec_read v.toNat
    have hp := parse_dec (u := v.toNat) (by omega)
    cases hd : Lib.decDigits v.toNat with
    | nil => exact absurd hd h3
    | cons b r =>
      rw [hd] at h1 hp
      rw [List.all_cons, Bool.and_eq_true, dg_iff] at h1
      rw [Lib.parseIntB_plain _ _ _ (by omega) (by omega), hp, e63]
      simp only [Lib.signlessC]
      rw [if_neg (by omega)]
      congr 1
      omega
theorem readDec_itoa {v : Int} (h : -1000000000 ≤ v ∧ v ≤ 1000000000) : readDec (Lib.itoa v) = (v, true) := by
  rw [readDec_ok (parse_itoa h), if_pos ⟨rfl, h⟩]
def sg (l : List UInt8) : Nat := if l.head? = some 45 then 1 else 0
theorem itoa_parts {v : Int} (h : -1000000000 ≤ v ∧ v ≤ 1000000000) : ((Lib.itoa v).drop (sg (Lib.itoa v))).all dg = true ∧ (if sg (Lib.itoa v) = 1 then -(fold10 0 ((Lib.itoa v).drop (sg (Lib.itoa v))) : Int) else (fold10 0 ((Lib.itoa v).drop (sg (Lib.itoa v))) : Int)) = v ∧ 1 ≤ (Lib.itoa v).length - sg (Lib.itoa v) ∧ (Lib.itoa v).length - sg (Lib.itoa v) ≤ 10 := by
  have hp : (10 : Nat) ^ (9 + 1) = 10000000000 := by decide
  unfold Lib.itoa
  by_cases c : v < 0
  · obtain ⟨h1, h2, h3⟩ := dec_read v.natAbs
    have h4 := dec_len 9 v.natAbs (by omega)
    have h5 : (Lib.decDigits v.natAbs).length ≠ 0 := fun z => h3 (List.eq_nil_of_length_eq_zero z)
    rw [if_pos c, show sg (45 :: Lib.decDigits v.natAbs) = 1 from rfl, List.drop_succ_cons, List.drop_zero, if_pos rfl, h2]
    refine ⟨h1, by omega, ?_, ?_⟩ <;> simp only [List.length_cons] <;> omega
  · obtain ⟨h1, h2, h3⟩ := dec_read v.toNat
    have h4 := dec_len 9 v.toNat (by omega)
    have h5 : (Lib.decDigits v.toNat).length ≠ 0 := fun z => h3 (List.eq_nil_of_length_eq_zero z)
    have hs : sg (Lib.decDigits v.toNat) = 0 := by
      unfold sg
      rw [if_neg]
      intro z
      cases hd : Lib.decDigits v.toNat with
      | nil => exact h3 hd
      | cons b r =>
        rw [hd] at z h1
        rw [List.all_cons, Bool.and_eq_true, dg_iff] at h1
        simp only [List.head?_cons, Option.some.injEq] at z
        subst z
        have : (45 : UInt8).toNat = 45 := rfl
        omega
    rw [if_neg c, hs, List.drop_zero, if_neg (by omega), h2]
    exact ⟨h1, by omega, by omega, by omega⟩
theorem readDec_eq_f {s : ByteArray} (hs : s.size ≤ 281474976710656) : impl_ReadDecimal.f s = some (readDec s.data.toList) := by
  unfold impl_ReadDecimal.f
  rw [if_pos hs]
end Go.Proofs.YtijpgenadhhkcaaGreatDoor.Q
end
section
namespace Go.Proofs.YtijpgenadhhkcaaGreatDoor.Q
open Go.RowKit Go.Proofs.YtijpgenadhhkcaaGreatDoorW.PrintWords Go.Proofs.YtijpgenadhhkcaaGreatDoorW.PrintLast Go.Proofs.YtijpgenadhhkcaaGreatDoor.P Go.Proofs.YtijpgenadhhkcaaGreatDoor.B
set_option linter.unusedVariables false
set_option linter.unusedSimpArgs false
def cutc : List UInt8 → List UInt8 → List (List UInt8)
  | cur, [] => [cur]
  | cur, c :: r => if c = 44 then cur :: cutc [] r else cutc (cur ++ [c]) r
theorem cutc_no : ∀ (a cur : List UInt8), 44 ∉ a → cutc cur a = [cur ++ a]
  | [], cur, _ => by simp [cutc]
  | c :: r, cur, h => by
    simp only [cutc]
    rw [if_neg (fun e => h (by rw [e]; exact List.mem_cons_self)), cutc_no r _ (fun e => h (List.mem_cons_of_mem _ e)), List.append_assoc]
    rfl
theorem cutc_at : ∀ (a cur b : List UInt8), 44 ∉ a → cutc cur (a ++ 44 :: b) = (cur ++ a) :: cutc [] b
  | [], cur, b, _ => by simp [cutc]
  | c :: r, cur, b, h => by
    rw [List.cons_append]
    simp only [cutc]
    rw [if_neg (fun e => h (by rw [e]; exact List.mem_cons_self)), cutc_at r _ b (fun e => h (List.mem_cons_of_mem _ e)), List.append_assoc]
    rfl
theorem cutc_len : ∀ (l cur : List UInt8), (cutc cur l).length ≤ l.length + 1 ∧ ∀ p ∈ cutc cur l, p.length ≤ cur.length + l.length
  | [], cur => by simp [cutc]
  | c :: r, cur => by
    simp only [cutc]
    split
    · have h := cutc_len r []
      refine ⟨by simp only [List.length_cons]; omega, fun p hp => ?_⟩
      rcases List.mem_cons.1 hp with rfl | hp
      · omega
      · have := h.2 p hp
        simp only [List.length_nil, List.length_cons] at this ⊢
        omega
    · have h := cutc_len r (cur ++ [c])
      refine ⟨by simp only [List.length_cons]; omega, fun p hp => ?_⟩
      have := h.2 p hp
      simp only [List.length_append, List.length_cons, List.length_nil] at this ⊢
      omega
theorem ext_list (s : ByteArray) (a b : Nat) : (s.extract a b).data.toList = (s.data.toList.drop a).take (b - a) := by
  rw [Lib.extract_eq]
def comma : ByteArray := ⟨#[44]⟩
theorem split_cut : ∀ (k : Nat) (s : ByteArray), Lib.countB s comma = k → (Lib.splitB comma 0 k s).map (fun p : ByteArray => p.data.toList) = cutc [] s.data.toList := by
  intro k
  induction k with
  | zero =>
    intro s hk
    rcases Lib.indexB_cases s comma with h | ⟨i, h, hr⟩
    · have h' : Lib.indexByte s.data.toList 44 = -1 := by rw [← Lib.index_one]; exact h
      have hn : 44 ∉ s.data.toList := fun hm => by
        obtain ⟨j, hj⟩ := List.getElem?_of_mem hm
        exact Lib.indexByte_none h' j hj
      rw [Lib.splitB_zero, cutc_no _ _ hn]
      rfl
    · rw [Lib.countB_hit s comma i (by decide) h] at hk
      omega
  | succ k ih =>
    intro s hk
    rcases Lib.indexB_cases s comma with h | ⟨i, h, hr⟩
    · rw [Lib.countB_miss s comma h] at hk
      omega
    · have h' : Lib.indexByte s.data.toList 44 = (i : Int) := by rw [← Lib.index_one]; exact h
      obtain ⟨hi, hb⟩ := Lib.indexByte_some h'
      have hc1 : comma.size = 1 := rfl
      rw [Lib.countB_hit s comma i (by decide) h] at hk
      rw [Lib.splitB_hit comma 0 k s i h, List.map_cons, ih _ (by omega), ext_list, ext_list, hc1]
      obtain ⟨hlt, he⟩ := List.getElem?_eq_some_iff.1 hi
      have hsz : s.size = s.data.toList.length := by simp
      have e : s.data.toList = s.data.toList.take i ++ 44 :: s.data.toList.drop (i + 1) := by
        rw [← he, List.getElem_cons_drop, List.take_append_drop]
      have hn : 44 ∉ s.data.toList.take i := fun hm => by
        obtain ⟨j, hj⟩ := List.getElem?_of_mem hm
        rw [List.getElem?_take] at hj
        split at hj
        · exact hb j (by assumption) hj
        · cases hj
      conv => rhs; rw [e]
      rw [cutc_at _ _ _ hn, List.nil_append, List.drop_zero]
      congr 2
      exact List.take_of_length_le (by rw [List.length_drop]; omega)
def goS : List Int → List (List UInt8) → List Int × Bool
  | acc, [] => (acc, true)
  | acc, p :: r => if (readDec p).2 = true then (if (acc.length : Int) = 40 then ([], false) else goS (acc ++ [(readDec p).1]) r) else ([], false)
def goI : List Int → List (List UInt8) → List Int × Bool
  | acc, [] => if ll acc = true then (acc, true) else ([], false)
  | acc, p :: r => if (readDec p).2 = true then goI (acc ++ [(readDec p).1]) r else ([], false)
theorem readDec_bd {l : List UInt8} (h : (readDec l).2 = true) : -1000000000 ≤ (readDec l).1 ∧ (readDec l).1 ≤ 1000000000 := by
  cases hp : Lib.parseIntB 64 l with
  | ok v =>
    rw [readDec_ok hp] at h ⊢
    split at h
    · rename_i c; rw [if_pos c]; exact c.2
    · cases h
  | «syntax» => rw [readDec_no (fun v z => by rw [hp] at z; cases z)] at h; cases h
  | range => rw [readDec_no (fun v z => by rw [hp] at z; cases z)] at h; cases h
theorem go_eq : ∀ (ps : List (List UInt8)) (acc : List Int), acc.length ≤ 40 → (∀ x ∈ acc, -1000000000 ≤ x ∧ x ≤ 1000000000) → goI acc ps = goS acc ps
  | [], acc, hl, hb => by
    simp only [goI, goS]
    rw [if_pos (ll_iff.2 ⟨hl, hb⟩)]
  | p :: r, acc, hl, hb => by
    simp only [goI, goS]
    by_cases c : (readDec p).2 = true
    · rw [if_pos c, if_pos c]
      by_cases c2 : (acc.length : Int) = 40
      · rw [if_pos c2]
        have h41 : ∀ (ps : List (List UInt8)) (a : List Int), 40 < a.length → goI a ps = ([], false) := by
          intro ps
          induction ps with
          | nil =>
            intro a ha
            simp only [goI]
            rw [if_neg (fun z => by have := (ll_iff.1 z).1; omega)]
          | cons q ps ih =>
            intro a ha
            simp only [goI]
            split
            · exact ih _ (by rw [List.length_append]; omega)
            · rfl
        exact h41 r _ (by rw [List.length_append, List.length_singleton]; omega)
      · rw [if_neg c2]
        exact go_eq r _ (by rw [List.length_append, List.length_singleton]; omega) (fun x hx => by
          rcases List.mem_append.1 hx with hx | hx
          · exact hb x hx
          · rw [List.mem_singleton.1 hx]; exact readDec_bd c)
    · rw [if_neg c, if_neg c]
theorem goS_len : ∀ (ps : List (List UInt8)) (acc : List Int), acc.length ≤ 40 → (goS acc ps).1.length ≤ 40
  | [], acc, h => h
  | p :: r, acc, h => by
    simp only [goS]
    split
    · split
      · simp
      · exact goS_len r _ (by rw [List.length_append, List.length_singleton]; omega)
    · simp
theorem readList_loop (t : List ByteArray) (ht : t.length ≤ 1048577) (hp : ∀ p ∈ t, p.size ≤ 281474976710656) : ∀ (d i : Nat) (acc : List Int) (k : Nat), i + d = t.length → acc.length = i → 2 * t.length + 10 < k + i →
    impl_ReadList.l0 k acc t (t.length : Int) (i : Int) = some (goI acc ((t.drop i).map fun p : ByteArray => p.data.toList)) := by
  intro d
  induction d with
  | zero =>
    intro i acc k hi ha hk
    obtain ⟨k, rfl, hk'⟩ := succ_of_lt (show 2 * t.length + 10 - i < k by omega)
    simp only [impl_ReadList.l0]
    rw [if_neg (by omega), List.drop_eq_nil_of_le (by omega), isList_eq (by omega) (by omega), Option.bind_some]
    simp only [List.map_nil, goI]
    split <;> rfl
  | succ d ih =>
    intro i acc k hi ha hk
    obtain ⟨k, rfl, hk'⟩ := succ_of_lt (show 2 * t.length + 10 - i < k by omega)
    have hlt : i < t.length := by omega
    have hr : rdOf ByteArray.empty t (i : Int) = t[i] := by
      unfold rdOf
      rw [Int.toNat_natCast, List.getD_eq_getElem?_getD, List.getElem?_eq_getElem hlt]
      rfl
    simp only [impl_ReadList.l0]
    rw [if_pos (by omega), if_pos (by omega), if_pos (by omega), hr, readDec_eq_f (hp _ (List.getElem_mem hlt)), Option.bind_some, (List.getElem_cons_drop (h := hlt)).symm, List.map_cons]
    simp only [goI]
    split
    · rw [if_pos (by omega), wrap_nat (by omega)]
      exact ih (i + 1) _ k (by omega) (by rw [List.length_append, List.length_singleton, ha]) (by omega)
    · rfl
def ReadList_res (s : ByteArray) : List Int × Bool := if s.data.toList = [45] then ([], true) else goS [] (cutc [] s.data.toList)
theorem ReadList_len (s : ByteArray) : (ReadList_res s).1.length ≤ 40 := by
  unfold ReadList_res
  split
  · simp
  · exact goS_len (cutc [] s.data.toList) [] (by simp)
theorem ReadList_impl {s : ByteArray} (hs : s.size ≤ 1048576) {k : Nat} (hk : 3 * s.size + 3000 < k) : impl_ReadList.f k s = some (ReadList_res s) := by
  have hsz : s.size = s.data.toList.length := by simp
  unfold impl_ReadList.f ReadList_res
  rw [toList_data]
  by_cases c : s.data.toList = [45]
  · rw [if_pos c, if_pos c]
  · rw [if_neg c, if_neg c]
    have hsp : strings_Split.f s (⟨#[44]⟩ : ByteArray) = some (Lib.splitB comma 0 (Lib.countB s comma) s) := by
      unfold strings_Split.f
      rw [if_pos ⟨by omega, by decide⟩]
      rfl
    have hc := split_cut _ s rfl
    have hl := cutc_len s.data.toList []
    have hln : (Lib.splitB comma 0 (Lib.countB s comma) s).length = (cutc [] s.data.toList).length := by rw [← hc, List.length_map]
    rw [hsp, Option.bind_some]
    generalize Lib.splitB comma 0 (Lib.countB s comma) s = t at hc hln
    have hp : ∀ p ∈ t, p.size ≤ 281474976710656 := fun p hp => by
      have := hl.2 p.data.toList (by rw [← hc]; exact List.mem_map_of_mem hp)
      have hps : p.size = p.data.toList.length := by simp
      simp only [List.length_nil] at this
      omega
    have := readList_loop t (by omega) hp t.length 0 [] k (by omega) rfl (by omega)
    rw [List.drop_zero, hc, go_eq _ _ (by simp) (by simp)] at this
    exact this
end Go.Proofs.YtijpgenadhhkcaaGreatDoor.Q
end
section
namespace Go.Proofs.YtijpgenadhhkcaaGreatDoor.Q
open Go.RowKit Go.Proofs.YtijpgenadhhkcaaGreatDoorW.PrintWords Go.Proofs.YtijpgenadhhkcaaGreatDoorW.PrintLast Go.Proofs.YtijpgenadhhkcaaGreatDoor.P Go.Proofs.YtijpgenadhhkcaaGreatDoor.B
set_option linter.unusedVariables false
set_option linter.unusedSimpArgs false
def rl (l : List UInt8) : List Int × Bool := if l = [45] then ([], true) else goS [] (cutc [] l)
theorem rl_res (s : ByteArray) : ReadList_res s = rl s.data.toList := rfl
theorem rl_len (l : List UInt8) : (rl l).1.length ≤ 40 := ReadList_len ⟨l.toArray⟩
def two (a b : List UInt8) : Int × List Int × Bool := if (readDec a).2 = true then (if (rl b).2 = true then (if vv (readDec a).1 (rl b).1 = true then ((readDec a).1, (rl b).1, true) else (0, [], false)) else (0, [], false)) else (0, [], false)
def rv (l : List UInt8) : Int × List Int × Bool := if (Lib.cut l [58]).2.2 = true then two (Lib.cut l [58]).1 (Lib.cut l [58]).2.1 else (0, [], false)
def ReadValues_res (s : ByteArray) : Int × List Int × Bool := rv s.data.toList
theorem cut_hit {l : List UInt8} {i : Nat} (hi : l[i]? = some 58) (hn : ∀ j, j < i → l[j]? ≠ some 58) : Lib.cut l [58] = (l.take i, l.drop (i + 1), true) := by
  have h : Lib.indexByte l 58 = (i : Int) := by
    have hg := Lib.indexByte_ge l 58
    by_cases c : Lib.indexByte l 58 = -1
    · exact absurd hi (Lib.indexByte_none c i)
    · have ho : Lib.indexByte l 58 = ((Lib.indexByte l 58).toNat : Int) := by omega
      obtain ⟨h1, h2⟩ := Lib.indexByte_some ho
      rcases Nat.lt_trichotomy (Lib.indexByte l 58).toNat i with h3 | h3 | h3
      · exact absurd h1 (hn _ h3)
      · omega
      · exact absurd hi (h2 _ h3)
  unfold Lib.cut
  rw [Lib.index_one, h, if_pos (by omega)]
  rfl
theorem cut_lens (l : List UInt8) : (Lib.cut l [58]).1.length ≤ l.length ∧ (Lib.cut l [58]).2.1.length ≤ l.length := by
  unfold Lib.cut
  split
  · refine ⟨?_, ?_⟩
    · simp only [List.length_take]; omega
    · simp only [List.length_drop]; omega
  · simp
set_option maxRecDepth 100000 in
theorem ReadValues_impl {s : ByteArray} (hs : s.size ≤ 1048576) {k : Nat} (hk : 4 * s.size + 3000 < k) : impl_ReadValues.f k s = some (ReadValues_res s) := by
  have hsz : s.size = s.data.toList.length := by simp
  have hc := cut_lens s.data.toList
  unfold impl_ReadValues.f ReadValues_res rv two strings_Cut.f
  rw [if_pos (by omega), Option.bind_some, show (⟨#[58]⟩ : ByteArray).data.toList = [58] from rfl]
  generalize Lib.cut s.data.toList [58] = c at hc
  obtain ⟨a, b, f⟩ := c
  simp only at hc ⊢
  rw [readDec_eq_f (by rw [mk_size]; omega), Option.bind_some, ReadList_impl (by rw [mk_size]; omega) (by rw [mk_size]; omega), Option.bind_some, rl_res]
  have hl := rl_len b
  simp only []
  rw [validValues_eq (by omega) _ (by omega)]
  simp only [Option.bind_some]
  split
  · split
    · split
      · split <;> rfl
      · rfl
    · rfl
  · rfl
end Go.Proofs.YtijpgenadhhkcaaGreatDoor.Q
end
section
namespace Go.Proofs.YtijpgenadhhkcaaGreatDoor.Q
open Go.RowKit Go.Proofs.YtijpgenadhhkcaaGreatDoorW.PrintWords Go.Proofs.YtijpgenadhhkcaaGreatDoorW.PrintLast Go.Proofs.YtijpgenadhhkcaaGreatDoor.P Go.Proofs.YtijpgenadhhkcaaGreatDoor.B
set_option linter.unusedVariables false
set_option linter.unusedSimpArgs false
theorem itoa_chars {v : Int} (h : -1000000000 ≤ v ∧ v ≤ 1000000000) : ∀ c ∈ Lib.itoa v, c = 45 ∨ (48 ≤ c.toNat ∧ c.toNat ≤ 57) := by
  intro c hc
  unfold Lib.itoa at hc
  split at hc
  · rcases List.mem_cons.1 hc with rfl | hc
    · exact .inl rfl
    · exact .inr (dg_iff.1 (List.all_eq_true.1 (dec_read _).1 c hc))
  · exact .inr (dg_iff.1 (List.all_eq_true.1 (dec_read _).1 c hc))
theorem itoa_no44 {v : Int} (h : -1000000000 ≤ v ∧ v ≤ 1000000000) : 44 ∉ Lib.itoa v := fun hc => by
  rcases itoa_chars h _ hc with e | e
  · exact absurd e (by decide)
  · have : (44 : UInt8).toNat = 44 := rfl
    omega
theorem cutc_jn : ∀ (l : List Int), l ≠ [] → (∀ x ∈ l, -1000000000 ≤ x ∧ x ≤ 1000000000) → cutc [] (jn l) = l.map Lib.itoa
  | [], h, _ => absurd rfl h
  | [x], _, hb => by
    rw [jn_one, cutc_no _ _ (itoa_no44 (hb x List.mem_cons_self))]
    rfl
  | x :: y :: r, _, hb => by
    have e : jn (x :: y :: r) = Lib.itoa x ++ 44 :: jn (y :: r) := by
      unfold jn
      rw [List.map_cons, List.map_cons, Lib.join_cons, Lib.join_cons]
      simp [Lib.joinTail]
    rw [e, cutc_at _ _ _ (itoa_no44 (hb x List.mem_cons_self)), cutc_jn (y :: r) (by simp) (fun z hz => hb z (List.mem_cons_of_mem _ hz))]
    rfl
theorem goS_itoa : ∀ (l acc : List Int), acc.length + l.length ≤ 40 → (∀ x ∈ l, -1000000000 ≤ x ∧ x ≤ 1000000000) → goS acc (l.map Lib.itoa) = (acc ++ l, true)
  | [], acc, _, _ => by simp [goS]
  | x :: r, acc, hl, hb => by
    rw [List.map_cons]
    simp only [goS]
    rw [readDec_itoa (hb x List.mem_cons_self)]
    simp only [if_true]
    rw [List.length_cons] at hl
    rw [if_neg (by omega), goS_itoa r (acc ++ [x]) (by rw [List.length_append, List.length_singleton]; omega) (fun z hz => hb z (List.mem_cons_of_mem _ hz)), List.append_assoc]
    rfl
theorem jn_ne {l : List Int} (hl : l ≠ []) (hb : ∀ x ∈ l, -1000000000 ≤ x ∧ x ≤ 1000000000) : jn l ≠ [45] := fun e => by
  have h := cutc_jn l hl hb
  rw [e, show cutc [] [45] = [[45]] from rfl] at h
  cases l with
  | nil => exact hl rfl
  | cons x r =>
    rw [List.map_cons] at h
    have h1 : [45] = Lib.itoa x := (List.cons.inj h).1
    have := itoa_parts (hb x List.mem_cons_self)
    rw [← h1] at this
    exact absurd this.2.2.1 (by decide)
theorem rl_txt {l : List Int} (hl : l.length ≤ 40) (hb : ∀ x ∈ l, -1000000000 ≤ x ∧ x ≤ 1000000000) : ReadList_res (txt l) = (l, true) := by
  unfold ReadList_res txt
  by_cases c : l = []
  · subst c; rfl
  · rw [if_neg c]
    show (if jn l = [45] then (([] : List Int), true) else goS [] (cutc [] (jn l))) = (l, true)
    rw [if_neg (jn_ne c hb), cutc_jn l c hb, goS_itoa l [] (by simpa using hl) hb]
    rfl
end Go.Proofs.YtijpgenadhhkcaaGreatDoor.Q
end
section
namespace Go.Proofs.YtijpgenadhhkcaaGreatDoor.Q
open Go.RowKit Go.Proofs.YtijpgenadhhkcaaGreatDoorW.PrintWords Go.Proofs.YtijpgenadhhkcaaGreatDoorW.PrintLast Go.Proofs.YtijpgenadhhkcaaGreatDoor.P Go.Proofs.YtijpgenadhhkcaaGreatDoor.B
set_option linter.unusedVariables false
set_option linter.unusedSimpArgs false
abbrev by8 (l : List Int) : Prop := ∀ x ∈ l, 0 ≤ x ∧ x ≤ 255
theorem and255 {x : Int} (h : 0 ≤ x) (h2 : x < 18446744073709551616) : Go.bits .and .u64 x 255 = x % 256 :=
  bits_mask .u64 64 (by decide) (fun n h₀ h₁ => by rw [IntKind.wrap_u64]; omega) 8 (by decide) x h h2
theorem top_byte (z : Int) : 0 ≤ wrap64 (Go.bits .and .u64 (IntKind.u64.wrap z / 1099511627776) 255) ∧ wrap64 (Go.bits .and .u64 (IntKind.u64.wrap z / 1099511627776) 255) ≤ 255 := by
  have h : 0 ≤ IntKind.u64.wrap z ∧ IntKind.u64.wrap z < 18446744073709551616 := by rw [IntKind.wrap_u64]; omega
  generalize IntKind.u64.wrap z = y at h ⊢
  rw [and255 (by omega) (by omega), w64 (by omega) (by omega)]
  omega
theorem next_ok {l : List Int} {at' seed : Int} (hl : by8 l) (h : 0 ≤ at' ∧ at' ≤ 1000000000000000000) : ∃ x s, spec_l00Src_next.f l at' seed = some (x, at' + 1, s) ∧ 0 ≤ x ∧ x ≤ 255 := by
  obtain ⟨n, rfl⟩ : ∃ n : Nat, at' = n := ⟨at'.toNat, by omega⟩
  unfold spec_l00Src_next.f
  rw [w64 (x := (n : Int) + 1) (by omega) (by omega)]
  by_cases c : (n : Int) < (l.length : Int)
  · rw [if_pos c, if_pos (by omega), if_pos (by omega)]
    have hx := hl _ (rd_mem (l := l) (n := n) (by omega))
    exact ⟨_, _, rfl, by rw [w64 (by omega) (by omega)]; omega, by rw [w64 (by omega) (by omega)]; omega⟩
  · rw [if_neg c, if_neg (by omega)]
    exact ⟨_, _, rfl, top_byte _⟩
theorem pick_ok {l : List Int} {at' seed n : Int} (hl : by8 l) (h : 0 ≤ at' ∧ at' ≤ 100000000000000000) (hn : n ≤ 60000) : ∃ x a s, spec_l00Src_pick.f l at' seed n = some (x, a, s) ∧ (0 ≤ x ∧ (x < n ∨ x = 0)) ∧ at' ≤ a ∧ a ≤ at' + 2 := by
  unfold spec_l00Src_pick.f
  by_cases c : n ≤ 1
  · rw [if_pos c]; exact ⟨0, at', seed, rfl, by omega, by omega, by omega⟩
  · obtain ⟨x, s, e, hx⟩ := next_ok (seed := seed) hl (show 0 ≤ at' ∧ at' ≤ 1000000000000000000 by omega)
    rw [if_neg c, e, Option.bind_some]
    by_cases c2 : n > 200
    · obtain ⟨y, s2, e2, hy⟩ := next_ok (seed := s) hl (show 0 ≤ at' + 1 ∧ at' + 1 ≤ 1000000000000000000 by omega)
      rw [if_pos c2, e2, Option.bind_some, if_neg (by omega), w64 (x := x * 256) (by omega) (by omega), w64 (x := x * 256 + y) (by omega) (by omega), Int.tmod_eq_emod_of_nonneg (by omega)]
      exact ⟨_, _, _, rfl, ⟨Int.emod_nonneg _ (by omega), .inl (Int.emod_lt_of_pos _ (by omega))⟩, by simp only; omega, by simp only; omega⟩
    · rw [if_neg c2, if_neg (by omega), Int.tmod_eq_emod_of_nonneg (by omega)]
      exact ⟨_, _, _, rfl, ⟨Int.emod_nonneg _ (by omega), .inl (Int.emod_lt_of_pos _ (by omega))⟩, by simp only; omega, by simp only; omega⟩
theorem one_ok {l : List Int} {at' seed n : Int} (hl : by8 l) (h : 0 ≤ at' ∧ at' ≤ 100000000000000000) (hn : n ≤ 60000) : ∃ b a s, spec_l00Src_one.f l at' seed n = some (b, a, s) ∧ at' ≤ a ∧ a ≤ at' + 2 := by
  obtain ⟨x, a, s, e, _, h1, h2⟩ := pick_ok (seed := seed) hl h hn
  unfold spec_l00Src_one.f
  rw [e, Option.bind_some]
  exact ⟨_, _, _, rfl, h1, h2⟩
theorem b10Long_ok (l m : List Int) : ∃ b, laws_b10Long.f l m = some b := by
  unfold laws_b10Long.f
  split
  · exact ⟨_, rfl⟩
  · exact ⟨_, rfl⟩
theorem b10Values_loop {l : List Int} (hl : by8 l) (low V : Int) (hlow : low = 20 ∨ low = 0) : ∀ (n k : Nat) (at' seed : Int) (r : List Int), n < k → (∀ x ∈ r, -20 ≤ x ∧ x ≤ 39) → r.length + n ≤ 40 → 0 ≤ at' ∧ at' + 2 * n ≤ 10000 →
    ∃ nums a s, Zas.l0 k low n l at' seed V r = some (V, nums, a, s) ∧ nums.length ≤ 40 ∧ ∀ x ∈ nums, -20 ≤ x ∧ x ≤ 39
  | 0, k, at', seed, r, hk, hr, hn, hat => by
    obtain ⟨k, rfl, _⟩ := succ_of_lt hk
    simp only [Zas.l0]
    rw [if_neg (by omega)]
    exact ⟨_, _, _, rfl, by omega, hr⟩
  | n + 1, k, at', seed, r, hk, hr, hn, hat => by
    obtain ⟨k, rfl, _⟩ := succ_of_lt hk
    obtain ⟨z, b, s, e, hz, hb⟩ := pick_ok (seed := seed) (n := 40) hl (show 0 ≤ at' ∧ at' ≤ 100000000000000000 by omega) (by omega)
    simp only [Zas.l0]
    rw [if_pos (by omega), e, Option.bind_some, if_pos (by omega), w64 (x := ((n + 1 : Nat) : Int) - 1) (by omega) (by omega), w64 (x := z - low) (by omega) (by omega), show ((n + 1 : Nat) : Int) - 1 = (n : Int) by omega]
    exact b10Values_loop hl low V hlow n k b s (r ++ [z - low]) (by omega) (fun y hy => by
      rcases List.mem_append.1 hy with h | h
      · exact hr y h
      · rw [List.mem_singleton.1 h]; omega) (by simp; omega) (by omega)
theorem drawOk_j0 {l : List Int} (hl : by8 l) (low V : Int) (hlow : low = 20 ∨ low = 0) {k : Nat} {at' seed : Int} (hk : 50 < k) (hat : 0 ≤ at' ∧ at' ≤ 100) : ∃ nums a s, Zas.j0 k low l at' seed V [] = some (V, nums, a, s) ∧ nums.length ≤ 40 ∧ ∀ x ∈ nums, -20 ≤ x ∧ x ≤ 39 := by
  obtain ⟨k, rfl, hk1⟩ := succ_of_lt hk
  obtain ⟨k, rfl, hk2⟩ := succ_of_lt (show 45 < k by omega)
  obtain ⟨y, b, s, e, hy, hb⟩ := pick_ok (at' := at') (seed := seed) (n := 8) hl (by omega) (by omega)
  obtain ⟨o, b2, s2, e2, hb2⟩ := one_ok (at' := b) (seed := s) (n := 24) hl (by omega) (by omega)
  obtain ⟨n, rfl⟩ : ∃ n : Nat, y = n := ⟨y.toNat, by omega⟩
  simp only [Zas.j0]
  rw [e, Option.bind_some, e2, Option.bind_some]
  simp only [Zas.j1]
  split
  · exact b10Values_loop hl low V hlow 40 k b2 s2 [] (by omega) (by simp) (by simp) (by omega)
  · exact b10Values_loop hl low V hlow n k b2 s2 [] (by omega) (by simp) (by simp; omega) (by omega)
theorem b10Values_ok {l : List Int} (hl : by8 l) {k : Nat} (hk : 50 < k) : ∃ V nums, spec_B10Values.f k l = some (V, nums) ∧ (1 ≤ V ∧ V ≤ 12) ∧ nums.length ≤ 40 ∧ ∀ x ∈ nums, -20 ≤ x ∧ x ≤ 39 := by
  unfold spec_B10Values.f spec_l00From.f Zas.f
  obtain ⟨x, b, s, e, hx, hb⟩ := pick_ok (at' := 0) (seed := 0) (n := 12) hl (by omega) (by omega)
  obtain ⟨o, b2, s2, e2, hb2⟩ := one_ok (at' := b) (seed := s) (n := 6) hl (by omega) (by omega)
  simp only [Option.bind_some]
  rw [e, Option.bind_some, e2, Option.bind_some, w64 (x := 1 + x) (by omega) (by omega)]
  split
  · obtain ⟨nums, a, s3, e3, h1, h2⟩ := drawOk_j0 hl 20 (1 + x) (.inl rfl) hk (at' := b2) (seed := s2) (by omega)
    rw [e3]
    exact ⟨_, nums, rfl, by omega, h1, h2⟩
  · obtain ⟨nums, a, s3, e3, h1, h2⟩ := drawOk_j0 hl 0 (1 + x) (.inr rfl) hk (at' := b2) (seed := s2) (by omega)
    rw [e3]
    exact ⟨_, nums, rfl, by omega, h1, h2⟩
theorem b10Nums_self {l : List Int} (hl : l.length ≤ 1000000) {k : Nat} (hk : l.length < k) : Za0.f k l l = some true := by
  unfold Za0.f
  rw [if_pos rfl]
  refine loopI0 (m := l.length) (F := fun k i (_ : Unit) => Za0.l0 k l l i) (fun _ _ => True) (fun r => r = some true) ?_ ?_ (s := ()) hk trivial
  · intro k _ _
    simp only [Za0.l0]
    rw [if_neg (by omega)]
  · intro k n _ hn _
    simp only [Za0.l0]
    rw [if_pos (by omega), if_pos (by omega), if_pos (by omega), if_pos trivial, wrap_nat (by omega)]
    exact .inl ⟨(), trivial, rfl⟩
end Go.Proofs.YtijpgenadhhkcaaGreatDoor.Q
end
