import Derived.Test.YtgmmfdilfpkbmaaXBFnCountedBest
import Derived.Test.YtgmmfdilfpkbmaaXP1FnCountedBest
import Derived.Test.YtgmmfdilfpkbmaaXP2FnCountedBest
import Derived.Test.YtgmmfdilfpkbmaaXP10FnCountedBest
import Derived.Test.YtgmmfdilfpkbmaaXP12FnCountedBest
import Derived.Test.YtgmmfdilfpkbmaaXP23FnCountedBest
import Derived.Test.YtgmmfdilfpkbmaaXP5FnCountedBest
import Derived.Test.YtgmmfdilfpkbmaaXP6FnCountedBest
import Derived.Test.YtgmmfdilfpkbmaaXP19FnCountedBest
import Derived.Test.YtgmmfdilfpkbmaaXP26FnCountedBest
import Derived.Test.YtgmmfdilfpkbmaaXP7FnCountedBest
import Derived.Test.YtgmmfdilfpkbmaaXP24FnCountedBest
import Derived.Test.YtgmmfdilfpkbmaaXP13FnCountedBest
import Derived.Test.YtgmmfdilfpkbmaaXP14FnCountedBest
import Derived.Test.YtgmmfdilfpkbmaaXP16FnCountedBest
import Derived.Test.YtgmmfdilfpkbmaaXP17FnCountedBest
import Derived.Test.YtgmmfdilfpkbmaaXP18FnCountedBest
section
namespace Go.Proofs.Ytgmmfdilfpkbmaa.Q
open Go.RowKit Go.Proofs.YtgmmfdilfpkbmaaW.PrintWords Go.Proofs.YtgmmfdilfpkbmaaW.PrintLast Go.Proofs.Ytgmmfdilfpkbmaa.P Go.Proofs.Ytgmmfdilfpkbmaa.B
set_option linter.unusedVariables false
set_option linter.unusedSimpArgs false
theorem within_eq (a b c : Int) : impl_within.f a b c = some (decide (b ≤ a ∧ a ≤ c)) := by
  unfold impl_within.f
  by_cases h : b ≤ a <;> simp [h]
theorem floor_eq {a b : Int} (hb : 1 ≤ b) (h1 : -4611686018427387904 ≤ a) (h2 : a ≤ 4611686018427387904) : impl_floor.f a b = some (a / b) := by
  have hd := ediv_bounds (a := a) hb (by omega) h1 h2
  have hm := Int.emod_nonneg a (show b ≠ 0 by omega)
  have hl := Int.emod_lt_of_pos a (show 0 < b by omega)
  unfold impl_floor.f
  rw [if_neg (by omega), tdiv_pos hb, tmod_pos hb]
  by_cases c : 0 ≤ a ∨ b ∣ a
  · simp only [if_pos c]
    rw [if_neg (by omega), w64 (by omega) (by omega)]
    congr 1; omega
  · simp only [if_neg c]
    rw [if_pos (by omega), w64 (x := a / b + 1) (by omega) (by omega), w64 (by omega) (by omega)]
    congr 1; omega
theorem l01Floor_eq {a b : Int} (hb : 1 ≤ b) (h1 : -1000000000000000 ≤ a) (h2 : a ≤ 1000000000000000) (hb2 : b ≤ 1000000000000000) : spec_l01Floor.f a b = some (a / b) := by
  have hd := ediv_bounds (a := a) hb (M := 1000000000000000) (by omega) h1 h2
  have hq := ediv_mul_le (a := a) hb
  have hm := Int.emod_nonneg a (show b ≠ 0 by omega)
  have he := Int.emod_add_mul_ediv a b
  rw [Int.mul_comm] at he
  unfold spec_l01Floor.f
  rw [if_neg (by omega), tdiv_pos hb]
  by_cases c : 0 ≤ a ∨ b ∣ a
  · simp only [if_pos c, Int.add_zero]
    rw [w64 (x := a / b) (by omega) (by omega), w64 (x := a / b * b) (by omega) (by omega), if_neg (by omega)]
  · simp only [if_neg c]
    have hm0 : a % b ≠ 0 := fun e => c (.inr (Int.dvd_of_emod_eq_zero e))
    rw [w64 (x := a / b + 1) (by omega) (by omega), Int.add_mul, Int.one_mul, w64 (x := a / b * b + b) (by omega) (by omega), if_pos (by omega), w64 (by omega) (by omega)]
    congr 1; omega
theorem ceiling_eq {a b : Int} (hb : 1 ≤ b) (h1 : -4611686018427387904 ≤ a) (h2 : a ≤ 4611686018427387904) : impl_ceiling.f a b = some (cl a b) := by
  have hd := ediv_bounds (a := -a) hb (M := 4611686018427387904) (by omega) (by omega) (by omega)
  unfold impl_ceiling.f
  rw [w64 (by omega) (by omega), floor_eq hb (by omega) (by omega)]
  simp only [Option.bind_some]
  rw [w64 (by omega) (by omega)]; rfl
theorem l01Ceil_eq {a b : Int} (hb : 1 ≤ b) (h1 : -1000000000000000 ≤ a) (h2 : a ≤ 1000000000000000) (hb2 : b ≤ 1000000000000000) : spec_l01Ceil.f a b = some (cl a b) := by
  have hd := ediv_bounds (a := -a) hb (M := 1000000000000000) (by omega) (by omega) (by omega)
  unfold spec_l01Ceil.f
  rw [w64 (by omega) (by omega), l01Floor_eq hb (by omega) (by omega) hb2]
  simp only [Option.bind_some]
  rw [w64 (by omega) (by omega)]; rfl
theorem sign_cases' (x : Int) : (x < 0 ∧ x.sign = -1) ∨ (x = 0 ∧ x.sign = 0) ∨ (0 < x ∧ x.sign = 1) := by
  rcases Int.lt_trichotomy x 0 with h | h | h
  · exact .inl ⟨h, Int.sign_eq_neg_one_of_neg h⟩
  · exact .inr (.inl ⟨h, by rw [h]; rfl⟩)
  · exact .inr (.inr ⟨h, Int.sign_eq_one_of_pos h⟩)
theorem compare_eq (a b : Int) : impl_compare.f a b = some (a - b).sign := by
  unfold impl_compare.f
  split
  · rw [Int.sign_eq_neg_one_of_neg (by omega)]
  · split
    · rw [Int.sign_eq_one_of_pos (by omega)]
    · have : a - b = 0 := by omega
      rw [this]; rfl
def allIn (l : List Int) (a b : Int) : Bool := l.all fun x => decide (a ≤ x ∧ x ≤ b)
theorem allIn_iff {l : List Int} {a b : Int} : allIn l a b = true ↔ ∀ x ∈ l, a ≤ x ∧ x ≤ b := by simp [allIn]
theorem indexFunc_eq {l : List Int} (hl : l.length ≤ 4611686018427387904) (a b : Int) (k : Nat) (hk : l.length < k) : Za8.f k l a b = some (!allIn l a b) := by
  have h : ∀ d n k, l.length - n = d → n ≤ l.length → d < k → ∃ r, Zat.l0 k l (l.length : Int) (n : Int) a b = some r ∧ decide (r ≥ 0) = !allIn (l.drop n) a b := by
    intro d
    induction d with
    | zero =>
      intro n k hd hn hk
      obtain ⟨k, rfl, _⟩ := succ_of_lt hk
      obtain rfl : n = l.length := by omega
      refine ⟨-1, ?_, by simp [allIn]⟩
      simp only [Zat.l0]
      rw [if_neg (by omega)]
    | succ d ih =>
      intro n k hd hn hk
      obtain ⟨k, rfl, hk'⟩ := succ_of_lt hk
      have h : n < l.length := by omega
      simp only [Zat.l0, impl_areWithin_1_v.f]
      rw [if_pos (by omega), if_pos (by omega), if_pos (by omega), within_eq, rd_nat h, wrap_nat (by omega)]
      simp only [Option.bind_some]
      by_cases c : a ≤ l[n] ∧ l[n] ≤ b
      · obtain ⟨r, h1, h2⟩ := ih (n + 1) k (by omega) (by omega) (by omega)
        refine ⟨r, ?_, ?_⟩
        · simp only [c, and_self, decide_true, Bool.not_true]
          exact h1
        · rw [h2, List.drop_eq_getElem_cons h]
          simp only [allIn, List.all_cons, c, and_self, decide_true, Bool.true_and]
      · refine ⟨n, by simp [c], ?_⟩
        rw [List.drop_eq_getElem_cons h]
        simp only [allIn, List.all_cons, c, decide_false, Bool.false_and, Bool.not_false, decide_eq_true_eq]
        omega
  obtain ⟨r, h1, h2⟩ := h l.length 0 k (by omega) (by omega) hk
  unfold Za8.f Zat.f
  rw [show Zat.l0 k l (l.length : Int) 0 a b = some r from h1]
  simp only [Option.bind_some]
  rw [h2, List.drop_zero]
theorem areWithin_eq {l : List Int} (hl : l.length ≤ 4611686018427387904) (a b : Int) {k : Nat} (hk : l.length < k) : impl_areWithin.f k l a b = some (allIn l a b) := by
  unfold impl_areWithin.f
  rw [indexFunc_eq hl a b k hk]
  simp
theorem sum_run (D : Int → Option Int) : ∀ (l : List Int) (s M : Int), (∀ x ∈ l, -M ≤ x ∧ x ≤ M) → 0 ≤ M → -9223372036854775808 ≤ s - l.length * M → s + l.length * M ≤ 9223372036854775807 →
    runL (fun x s => .inl (wrap64 (s + x))) D l s = D (s + l.sum)
  | [], s, M, _, _, _, _ => by simp [runL]
  | x :: xs, s, M, h, hM, h1, h2 => by
    have h3 := h x (List.mem_cons_self ..)
    rw [List.length_cons, Int.natCast_add, Int.add_mul] at h1 h2
    have h4 : 0 ≤ (xs.length : Int) * M := Int.mul_nonneg (by omega) hM
    simp only [runL]
    rw [w64 (by omega) (by omega), sum_run D xs (s + x) M (fun y hy => h y (List.mem_cons_of_mem _ hy)) hM (by omega) (by omega), List.sum_cons]
    congr 1; omega
theorem sum_eq {l : List Int} (hl : l.length ≤ 1000000) (h : ∀ x ∈ l, -1000000000000 ≤ x ∧ x ≤ 1000000000000) {k : Nat} (hk : l.length < k) : impl_sum.f k l = some l.sum := by
  have h1 := loopL0 (l := l) (F := fun k i s => impl_sum.l0 k s l (l.length : Int) i) (S := fun x s => .inl (wrap64 (s + x))) (D := fun s => some s) (by omega)
    (fun k s => by simp only [impl_sum.l0]; rw [if_neg (by omega)])
    (fun k n hn s => by
      simp only [impl_sum.l0]
      rw [if_pos (by omega), if_pos (by omega), if_pos (by omega), rd_nat hn, wrap_nat (by omega)]) k hk 0
  unfold impl_sum.f
  rw [h1, sum_run _ l 0 1000000000000 h (by omega) (by omega) (by omega)]
  simp
end Go.Proofs.Ytgmmfdilfpkbmaa.Q
end
section
namespace Go.Proofs.Ytgmmfdilfpkbmaa.Q
open Go.RowKit Go.Proofs.YtgmmfdilfpkbmaaW.PrintWords Go.Proofs.YtgmmfdilfpkbmaaW.PrintLast Go.Proofs.Ytgmmfdilfpkbmaa.P Go.Proofs.Ytgmmfdilfpkbmaa.B
set_option linter.unusedVariables false
set_option linter.unusedSimpArgs false
def vv (den : Int) (l : List Int) : Bool := decide (1 ≤ den ∧ den ≤ 1000) && decide (l.length ≤ 40) && allIn l (-1000000) 1000000
theorem vv_iff {den : Int} {l : List Int} : vv den l = true ↔ (1 ≤ den ∧ den ≤ 1000) ∧ l.length ≤ 40 ∧ ∀ x ∈ l, -1000000 ≤ x ∧ x ≤ 1000000 := by
  simp only [vv, Bool.and_eq_true, decide_eq_true_eq, allIn_iff, and_assoc]
theorem validValues_eq {l : List Int} (hl : l.length ≤ 4611686018427387904) (den : Int) {k : Nat} (hk : l.length < k) : impl_ValidValues.f k den l = some (vv den l) := by
  unfold impl_ValidValues.f
  rw [within_eq, areWithin_eq hl _ _ hk]
  simp only [Option.bind_some, vv]
  by_cases c : 1 ≤ den ∧ den ≤ 1000
  · by_cases c2 : l.length ≤ 40
    · have c3 : (l.length : Int) ≤ 40 := by omega
      simp [c, c2, c3]
    · have c3 : ¬ (l.length : Int) ≤ 40 := by omega
      simp [c, c2, c3]
  · simp [c]
end Go.Proofs.Ytgmmfdilfpkbmaa.Q
end
section
namespace Go.Proofs.Ytgmmfdilfpkbmaa.Q
open Go.RowKit Go.Proofs.YtgmmfdilfpkbmaaW.PrintWords Go.Proofs.YtgmmfdilfpkbmaaW.PrintLast Go.Proofs.Ytgmmfdilfpkbmaa.P Go.Proofs.Ytgmmfdilfpkbmaa.B
set_option linter.unusedVariables false
set_option linter.unusedSimpArgs false
def ap {α ρ : Type} (f : α → Int) (x : α) (acc : List Int) : List Int ⊕ Option ρ := if acc.length < 17592186044416 then .inl (acc ++ [f x]) else .inr none
theorem ap_run {α ρ : Type} (f : α → Int) (D : List Int → Option ρ) : ∀ (l : List α) (acc : List Int), acc.length + l.length ≤ 17592186044416 → runL (ap f) D l acc = D (acc ++ l.map f)
  | [], acc, _ => by simp [runL]
  | x :: xs, acc, h => by
    rw [List.length_cons] at h
    simp only [runL, ap]
    rw [if_pos (by omega)]
    simp only
    rw [ap_run f D xs _ (by simp; omega)]
    simp
end Go.Proofs.Ytgmmfdilfpkbmaa.Q
end
section
namespace Go.Proofs.Ytgmmfdilfpkbmaa.Q
open Go.RowKit Go.Proofs.YtgmmfdilfpkbmaaW.PrintWords Go.Proofs.YtgmmfdilfpkbmaaW.PrintLast Go.Proofs.Ytgmmfdilfpkbmaa.P Go.Proofs.Ytgmmfdilfpkbmaa.B
set_option linter.unusedVariables false
set_option linter.unusedSimpArgs false
def gr : Int → List Int → Int
  | s, [] => s
  | s, x :: xs => gr (max s (x.natAbs : Int)) xs
theorem gr_run (D : Int → Option Int) : ∀ (l : List Int) (s : Int), runL (fun x s => .inl (max s (x.natAbs : Int))) D l s = D (gr s l)
  | [], s => rfl
  | x :: xs, s => by simp only [runL, gr]; exact gr_run D xs _
theorem mx_eq (a b : Int) : mx a b = max a b := by unfold mx; omega
theorem greatest_eq {l : List Int} (hl : l.length ≤ 4611686018427387904) (h : ∀ x ∈ l, -4611686018427387904 ≤ x ∧ x ≤ 4611686018427387904) {k : Nat} (hk : l.length < k) : impl_greatest.f k l = some (gr 0 l) := by
  have h1 := loopL0 (l := l) (F := fun k i s => impl_greatest.l0 k s l (l.length : Int) i) (S := fun x s => .inl (max s (x.natAbs : Int))) (D := fun s => some s) hl
    (fun k s => by simp only [impl_greatest.l0]; rw [if_neg (by omega)])
    (fun k n hn s => by
      have hx := h _ (List.getElem_mem hn)
      simp only [impl_greatest.l0]
      rw [if_pos (by omega), if_pos (by omega), if_pos (by omega), rd_nat hn, wrap_nat (by omega), w64 (by omega) (by omega), mx_eq, mx_eq, show max (max s l[n]) (-l[n]) = max s (l[n].natAbs : Int) by omega]) k hk 0
  unfold impl_greatest.f
  rw [h1, gr_run]
end Go.Proofs.Ytgmmfdilfpkbmaa.Q
end
section
namespace Go.Proofs.Ytgmmfdilfpkbmaa.Q
open Go.RowKit Go.Proofs.YtgmmfdilfpkbmaaW.PrintWords Go.Proofs.YtgmmfdilfpkbmaaW.PrintLast Go.Proofs.Ytgmmfdilfpkbmaa.P Go.Proofs.Ytgmmfdilfpkbmaa.B
set_option linter.unusedVariables false
set_option linter.unusedSimpArgs false
theorem r8Sum_eq {l : List Int} (hl : l.length ≤ 1000000) (h : ∀ x ∈ l, -1000000000000 ≤ x ∧ x ≤ 1000000000000) {k : Nat} (hk : l.length < k) : laws_r8Sum.f k l = some l.sum := by
  have h1 := loopL0 (l := l) (F := fun k i s => laws_r8Sum.l0 k l s i) (S := fun x s => .inl (wrap64 (s + x))) (D := fun s => some s) (by omega)
    (fun k s => by simp only [laws_r8Sum.l0]; rw [if_neg (by omega)])
    (fun k n hn s => by
      simp only [laws_r8Sum.l0]
      rw [if_pos (by omega), if_pos (by omega), rd_nat hn, wrap_nat (by omega)]) k hk 0
  unfold laws_r8Sum.f
  rw [h1, sum_run _ l 0 1000000000000 h (by omega) (by omega) (by omega)]
  simp
def okd (den : Int) (l : List Int) : Prop := 1 ≤ den ∧ den ≤ 1000000000 ∧ l.length ≤ 1000000 ∧ ∀ x ∈ l, -100000000000 ≤ x ∧ x ≤ 100000000000
theorem okd_vv {den : Int} {l : List Int} (h : vv den l = true) : okd den l := by
  have h := vv_iff.1 h
  exact ⟨h.1.1, by omega, by omega, fun x hx => by have := h.2.2 x hx; omega⟩
theorem okd.get {den : Int} {l : List Int} (h : okd den l) {n : Nat} (hn : n < l.length) : -100000000000 ≤ l[n] ∧ l[n] ≤ 100000000000 := h.2.2.2 _ (List.getElem_mem hn)
def fls (den : Int) (l : List Int) : List Int := l.map (· / den)
def cls (den : Int) (l : List Int) : List Int := l.map (cl · den)
theorem fls_in {den : Int} {l : List Int} (h : okd den l) : ∀ x ∈ fls den l, -100000000000 ≤ x ∧ x ≤ 100000000000 := by
  intro x hx
  simp only [fls, List.mem_map] at hx
  obtain ⟨y, hy, rfl⟩ := hx
  have := h.2.2.2 y hy
  exact ediv_bounds h.1 (by omega) this.1 this.2
theorem cls_in {den : Int} {l : List Int} (h : okd den l) : ∀ x ∈ cls den l, -100000000000 ≤ x ∧ x ≤ 100000000000 := by
  intro x hx
  simp only [cls, List.mem_map] at hx
  obtain ⟨y, hy, rfl⟩ := hx
  have := h.2.2.2 y hy
  exact cl_bounds h.1 (by omega) this.1 this.2
theorem fls_length (den : Int) (l : List Int) : (fls den l).length = l.length := List.length_map ..
theorem cls_length (den : Int) (l : List Int) : (cls den l).length = l.length := List.length_map ..
theorem floors_eq {den : Int} {l : List Int} (h : okd den l) {k : Nat} (hk : l.length < k) : Zaz.f k den l = some (fls den l) := by
  have hl := h.2.2.1
  have h1 := loopL0 (l := l) (F := fun k i acc => Zax.l0 k acc l (l.length : Int) i den l) (S := ap (· / den)) (D := fun s => some s) (by omega)
    (fun k s => by simp only [Zax.l0]; rw [if_neg (by omega)])
    (fun k n hn s => by
      have hx := h.get hn
      simp only [Zax.l0, impl_Values_floors_1_v.f]
      rw [if_pos (by omega), if_pos (by omega), if_pos (by omega), rd_nat hn, wrap_nat (by omega), floor_eq h.1 (by omega) (by omega)]
      simp only [Option.bind_some, ap]
      split <;> rfl) k hk []
  unfold Zaz.f Zax.f
  rw [h1, ap_run _ _ _ _ (by simp; omega)]
  rfl
theorem ceilings_eq {den : Int} {l : List Int} (h : okd den l) {k : Nat} (hk : l.length < k) : impl_Values_ceilings.f k den l = some (cls den l) := by
  have hl := h.2.2.1
  have h1 := loopL0 (l := l) (F := fun k i acc => Zav.l0 k acc l (l.length : Int) i den l) (S := ap (cl · den)) (D := fun s => some s) (by omega)
    (fun k s => by simp only [Zav.l0]; rw [if_neg (by omega)])
    (fun k n hn s => by
      have hx := h.get hn
      simp only [Zav.l0, impl_Values_ceilings_1_v.f]
      rw [if_pos (by omega), if_pos (by omega), if_pos (by omega), rd_nat hn, wrap_nat (by omega), ceiling_eq h.1 (by omega) (by omega)]
      simp only [Option.bind_some, ap]
      split <;> rfl) k hk []
  unfold impl_Values_ceilings.f Zav.f
  rw [h1, ap_run _ _ _ _ (by simp; omega)]
  rfl
def ps : Int → List Int → List Int
  | _, [] => []
  | s, x :: xs => (s + x) :: ps (s + x) xs
def rs {ρ : Type} (x : Int) (s : List Int × Int) : (List Int × Int) ⊕ Option ρ := if s.1.length < 17592186044416 then .inl (s.1 ++ [wrap64 (s.2 + x)], wrap64 (s.2 + x)) else .inr none
def ers (den : Int) (nums list : List Int) : List Int := (list.zip nums).map fun p => den * p.1 - p.2
theorem ers_length {den : Int} {nums list : List Int} (h : list.length = nums.length) : (ers den nums list).length = nums.length := by simp [ers, h]
theorem mul_in {a b A B : Int} (ha : 0 ≤ a ∧ a ≤ A) (hb : -B ≤ b ∧ b ≤ B) (hB : 0 ≤ B) : -(A * B) ≤ a * b ∧ a * b ≤ A * B := by
  have x1 := Int.mul_le_mul_of_nonneg_left hb.1 ha.1
  have x2 := Int.mul_le_mul_of_nonneg_left hb.2 ha.1
  have x3 := Int.mul_le_mul_of_nonneg_right ha.2 hB
  rw [Int.mul_neg] at x1
  omega
def oke (den : Int) (nums list : List Int) : Prop := (0 ≤ den ∧ den ≤ 1000) ∧ nums.length ≤ 1000 ∧ list.length = nums.length ∧ (∀ x ∈ nums, -1000000 ≤ x ∧ x ≤ 1000000) ∧ ∀ x ∈ list, -1000000000 ≤ x ∧ x ≤ 1000000000
theorem oke_of {den : Int} {nums list : List Int} (h : vv den nums = true) (hl : list.length = nums.length) (h2 : ∀ x ∈ list, -1000000000 ≤ x ∧ x ≤ 1000000000) : oke den nums list := by
  have h := vv_iff.1 h
  exact ⟨by omega, by omega, hl, h.2.2, h2⟩
theorem oke.wrap {den : Int} {nums list : List Int} (h : oke den nums list) {n : Nat} (hn : n < (list.zip nums).length) : wrap64 (wrap64 (den * (list.zip nums)[n].1) - (list.zip nums)[n].2) = den * (list.zip nums)[n].1 - (list.zip nums)[n].2 ∧ -1000001000000 ≤ den * (list.zip nums)[n].1 - (list.zip nums)[n].2 ∧ den * (list.zip nums)[n].1 - (list.zip nums)[n].2 ≤ 1000001000000 := by
  have hm : (list.zip nums)[n] ∈ list.zip nums := List.getElem_mem hn
  generalize (list.zip nums)[n] = p at hm ⊢
  obtain ⟨a, b⟩ := p
  have h1 := h.2.2.2.2 a (List.of_mem_zip hm).1
  have h2 := h.2.2.2.1 b (List.of_mem_zip hm).2
  have h3 := mul_in h.1 h1 (by omega)
  simp only
  rw [w64 (x := den * a) (by omega) (by omega), w64 (by omega) (by omega)]
  omega
theorem zip_get1 {l m : List Int} {n : Nat} (hn : n < (l.zip m).length) : ∃ (h1 : n < l.length) (h2 : n < m.length), (l.zip m)[n].1 = l[n] ∧ (l.zip m)[n].2 = m[n] := by
  have h := hn
  rw [List.length_zip] at h
  exact ⟨by omega, by omega, by rw [List.getElem_zip], by rw [List.getElem_zip]⟩
theorem errors_eq {den : Int} {nums list : List Int} (h : oke den nums list) {k : Nat} (hk : nums.length < k) : Za4.f k den nums list = some (ers den nums list) := by
  have hz : (list.zip nums).length = nums.length := by rw [List.length_zip, h.2.2.1]; omega
  have hz2 := h.2.2.1
  have hl := h.2.1
  have h1 := loopL0 (l := list.zip nums) (F := fun k i acc => Za4.l0 k acc list (list.length : Int) i den nums) (S := ap fun p => den * p.1 - p.2) (D := fun s => some s) (by omega)
    (fun k s => by simp only [Za4.l0]; rw [if_neg (by omega)])
    (fun k n hn s => by
      obtain ⟨g1, g2, e1, e2⟩ := zip_get1 hn
      have hw := (h.wrap hn).1
      rw [e1, e2] at hw
      simp only [Za4.l0, ap]
      rw [if_pos (by omega), if_pos (by omega), if_pos (by omega), if_pos (by omega), rd_nat g1, rd_nat g2, wrap_nat (by omega), hw, e1, e2]
      split <;> rfl) k (by omega) []
  unfold Za4.f
  rw [h1, ap_run _ _ _ _ (by simp; omega)]
  rfl
def FloorsOf_res (den : Int) (l : List Int) : List Int × Bool := if vv den l = true then (fls den l, true) else ([], false)
theorem FloorsOf_impl {den : Int} {l : List Int} (_ : -9223372036854775808 ≤ den ∧ den ≤ 9223372036854775807) (_ : ∀ x ∈ l, -9223372036854775808 ≤ x ∧ x ≤ 9223372036854775807) (hl : l.length ≤ 1048576) {k : Nat} (hk : l.length + 200 < k) : impl_FloorsOf.f k den l = some (FloorsOf_res den l) := by
  unfold impl_FloorsOf.f FloorsOf_res
  rw [validValues_eq (by omega) den (by omega), Option.bind_some]
  by_cases h : vv den l = true
  · rw [if_pos h, if_pos h, floors_eq (okd_vv h) (by omega)]; rfl
  · rw [if_neg h, if_neg h]
end Go.Proofs.Ytgmmfdilfpkbmaa.Q
end
section
namespace Go.Proofs.Ytgmmfdilfpkbmaa.Q
open Go.RowKit Go.Proofs.YtgmmfdilfpkbmaaW.PrintWords Go.Proofs.YtgmmfdilfpkbmaaW.PrintLast Go.Proofs.Ytgmmfdilfpkbmaa.P Go.Proofs.Ytgmmfdilfpkbmaa.B
set_option linter.unusedVariables false
set_option linter.unusedSimpArgs false
def vt (l : List Int) : Bool := decide (1 ≤ l.length ∧ l.length ≤ 12) && (allIn l 0 1000000 && decide (0 < l.sum))
theorem sum_nonneg : ∀ {l : List Int}, (∀ x ∈ l, 0 ≤ x) → 0 ≤ l.sum
  | [], _ => by simp
  | x :: xs, h => by
    have h1 := sum_nonneg (l := xs) (fun y hy => h y (List.mem_cons_of_mem _ hy))
    have h2 := h x (List.mem_cons_self ..)
    rw [List.sum_cons]; omega
end Go.Proofs.Ytgmmfdilfpkbmaa.Q
end
section
namespace Go.Proofs.Ytgmmfdilfpkbmaa.Q
open Go.RowKit Go.Proofs.YtgmmfdilfpkbmaaW.PrintWords Go.Proofs.YtgmmfdilfpkbmaaW.PrintLast Go.Proofs.Ytgmmfdilfpkbmaa.P Go.Proofs.Ytgmmfdilfpkbmaa.B
set_option linter.unusedVariables false
set_option linter.unusedSimpArgs false
abbrev i64 (a : Int) : Prop := -9223372036854775808 ≤ a ∧ a ≤ 9223372036854775807
theorem okd_sum {den : Int} {l : List Int} (h : okd den l) : (fls den l).length ≤ 1000000 ∧ (cls den l).length ≤ 1000000 ∧ (∀ x ∈ fls den l, -1000000000000 ≤ x ∧ x ≤ 1000000000000) ∧ (∀ x ∈ cls den l, -1000000000000 ≤ x ∧ x ≤ 1000000000000) :=
  ⟨by rw [fls_length]; exact h.2.2.1, by rw [cls_length]; exact h.2.2.1, fun x hx => by have := fls_in h x hx; omega, fun x hx => by have := cls_in h x hx; omega⟩
theorem rd_set {a : List Int} {b : Nat} (hb : b < a.length) (x : Int) (i : Nat) : rd (a.set b x) (i : Int) = if i = b then x else rd a i := by
  by_cases hi : i < a.length
  · rw [rd_nat (by simpa using hi), List.getElem_set]
    by_cases h : i = b
    · rw [if_pos h.symm, if_pos h]
    · rw [if_neg (fun h' => h h'.symm), if_neg h, rd_nat hi]
  · have h : i ≠ b := by omega
    rw [if_neg h]
    unfold rd
    simp only [Int.toNat_natCast]
    rw [List.getD_eq_getElem?_getD, List.getD_eq_getElem?_getD, List.getElem?_eq_none (by simp; omega), List.getElem?_eq_none (by omega)]
theorem sum_set : ∀ {a : List Int} {b : Nat} (hb : b < a.length) (x : Int), (a.set b x).sum = a.sum - a[b] + x
  | y :: ys, 0, _, x => by simp; omega
  | y :: ys, b + 1, h, x => by
    simp only [List.set_cons_succ, List.sum_cons, List.getElem_cons_succ]
    rw [sum_set (by simpa using h)]
    omega
theorem take_snoc {l : List Int} {n : Nat} (h : n < l.length) : l.take (n + 1) = l.take n ++ [l[n]] := by
  rw [List.take_add_one, List.getElem?_eq_getElem h, Option.toList_some]
theorem first_bad {α : Type} {l : List α} {p : α → Bool} (h : ¬ l.all p = true) : ∃ j, ∃ h : j < l.length, p l[j] = false := by
  apply Classical.byContradiction; intro hc
  refine h (List.all_eq_true.2 fun x hx => ?_)
  obtain ⟨j, hj, rfl⟩ := List.getElem_of_mem hx
  cases hp : p l[j]
  · exact absurd ⟨j, hj, hp⟩ hc
  · rfl
theorem loopAll {α ρ : Type} {l : List α} {m : Nat} (hm : l.length = m) {F : Nat → Int → Option ρ} (p : α → Bool) (T E : Option ρ)
    (hD : ∀ k, F (k + 1) (m : Int) = T)
    (hS : ∀ k (n : Nat) (h : n < l.length), F (k + 1) (n : Int) = if p l[n] = true then F k ((n + 1 : Nat) : Int) else E)
    {k : Nat} (hk : m < k) : F k 0 = if l.all p = true then T else E := by
  subst hm
  by_cases h : l.all p = true
  · rw [if_pos h]
    exact loopI0 (m := l.length) (F := fun k i (_ : Unit) => F k i) (fun _ _ => True) (fun r => r = T) (fun k s _ => hD k)
      (fun k n s hn _ => .inl ⟨(), trivial, by rw [hS k n hn, if_pos (List.all_eq_true.1 h _ (List.getElem_mem hn))]⟩) hk (s := ()) trivial
  · rw [if_neg h]
    obtain ⟨j, hj, hx⟩ := first_bad h
    refine loopI0 (m := l.length) (F := fun k i (_ : Unit) => F k i) (fun n _ => n ≤ j) (fun r => r = E) (fun k s hi => by omega) ?_ hk (s := ()) (by omega)
    intro k n s hn hi
    rw [hS k n hn]
    by_cases hb : p l[n] = true
    · refine .inl ⟨(), ?_, by rw [if_pos hb]⟩
      rcases Nat.lt_or_ge n j with h | h
      · omega
      · obtain rfl : n = j := by omega
        rw [hx] at hb; exact absurd hb (by simp)
    · exact .inr (by rw [if_neg hb])
def rnd (den : Int) (l list : List Int) : Bool := (list.zip l).all fun p => decide (p.1 = p.2 / den) || decide (p.1 = cl p.2 den)
def SumBounds_res (den : Int) (l : List Int) : Int × Int × Bool := if vv den l = true then ((fls den l).sum, (cls den l).sum, true) else (0, 0, false)
theorem SumBounds_impl {den : Int} {l : List Int} (_ : i64 den) (_ : ∀ x ∈ l, i64 x) (hl : l.length ≤ 1048576) {k : Nat} (hk : l.length + 200 < k) : impl_SumBounds.f k den l = some (SumBounds_res den l) := by
  unfold impl_SumBounds.f SumBounds_res
  rw [validValues_eq (by omega) den (by omega), Option.bind_some]
  by_cases h : vv den l = true
  · have o := okd_sum (okd_vv h)
    rw [if_pos h, if_pos h, floors_eq (okd_vv h) (by omega), Option.bind_some, sum_eq o.1 o.2.2.1 (by rw [fls_length]; omega), Option.bind_some, ceilings_eq (okd_vv h) (by omega), Option.bind_some, sum_eq o.2.1 o.2.2.2 (by rw [cls_length]; omega)]; rfl
  · rw [if_neg h, if_neg h]
def IsRounding_res (den : Int) (l list : List Int) : Bool := vv den l && (decide (list.length = l.length) && rnd den l list)
theorem IsRounding_impl {den : Int} {l list : List Int} (_ : i64 den) (_ : ∀ x ∈ l, i64 x) (_ : ∀ x ∈ list, i64 x) (hl : l.length ≤ 1048576) (hl2 : list.length ≤ 1048576) {k : Nat} (hk : l.length + list.length + 200 < k) : Za0.f k den l list = some (IsRounding_res den l list) := by
  obtain ⟨k, rfl, _⟩ := succ_of_lt hk
  unfold Za0.f IsRounding_res
  rw [validValues_eq (by omega) den (by omega), Option.bind_some]
  by_cases h : vv den l = true
  · rw [if_pos h, h, Bool.true_and]
    simp only [Za0.j0]
    by_cases h2 : list.length = l.length
    · have hz : (list.zip l).length = l.length := by rw [List.length_zip]; omega
      have hf := fls_length den l
      have hc := cls_length den l
      rw [if_neg (by simp [h2]), floors_eq (okd_vv h) (by omega), Option.bind_some, ceilings_eq (okd_vv h) (by omega), Option.bind_some, decide_eq_true h2, Bool.true_and,
       h2, loopAll hz (F := fun k i => Za0.l0 k (fls den l) (cls den l) list (l.length : Int) i) (fun p => decide (p.1 = p.2 / den) || decide (p.1 = cl p.2 den)) (some true) (some false) (fun k => by simp only [Za0.l0]; rw [if_neg (by omega)])
        (fun k n hn => by
          obtain ⟨g1, g2, e1, e2⟩ := zip_get1 hn
          have g3 : n < (fls den l).length := by omega
          have g4 : n < (cls den l).length := by omega
          have hf2 : (fls den l)[n] = l[n] / den := by simp [fls]
          have hc2 : (cls den l)[n] = cl l[n] den := by simp [cls]
          simp only [Za0.l0]
          rw [if_pos (by omega), if_pos (by omega), if_pos (by omega), if_pos (by omega), rd_nat g1, rd_nat g3, hf2, wrap_nat (by omega), e1, e2]
          by_cases c1 : list[n] = l[n] / den
          · rw [if_pos c1, if_pos (by simp [c1])]
          · rw [if_neg c1, if_pos (by omega), rd_nat g4, hc2]
            by_cases c2 : list[n] = cl l[n] den
            · rw [if_pos c2, if_pos (by simp [c2])]
            · rw [if_neg c2, if_neg (by simp [c1, c2])]) (by omega)]
      unfold rnd
      split
      · rename_i h; rw [h]
      · rename_i h; simp only [Bool.not_eq_true] at h; rw [h]
    · rw [if_pos (by simp only [bne_iff_ne]; omega), decide_eq_false h2]; rfl
  · rw [if_neg h]
    simp only [Za0.j0]
    rw [if_pos trivial]; simp only [Bool.not_eq_true] at h; rw [h]; rfl
end Go.Proofs.Ytgmmfdilfpkbmaa.Q
end
section
namespace Go.Proofs.Ytgmmfdilfpkbmaa.Q
open Go.RowKit Go.Proofs.YtgmmfdilfpkbmaaW.PrintWords Go.Proofs.YtgmmfdilfpkbmaaW.PrintLast Go.Proofs.Ytgmmfdilfpkbmaa.P Go.Proofs.Ytgmmfdilfpkbmaa.B
set_option linter.unusedVariables false
set_option linter.unusedSimpArgs false
theorem rnd_get {den : Int} {l list : List Int} (hd : 1 ≤ den) (hl : list.length = l.length) (h : rnd den l list = true) : ∀ e ∈ ers den l list, -den < e ∧ e < den := by
  intro e he
  simp only [ers, List.mem_map] at he
  obtain ⟨⟨a, b⟩, hp, rfl⟩ := he
  have h1 := List.all_eq_true.1 h (a, b) hp
  simp only [Bool.or_eq_true, decide_eq_true_eq] at h1
  have h2 := ediv_mul_le (a := b) hd
  have h3 := cl_mul (a := b) hd
  simp only
  rw [Int.mul_comm]
  rcases h1 with rfl | rfl <;> omega
theorem rnd_in {den : Int} {l list : List Int} (h : okd den l) (hl : list.length = l.length) (hr : rnd den l list = true) {M : Int} (hM : 0 ≤ M) (hb : ∀ x ∈ l, -M ≤ x ∧ x ≤ M) : ∀ x ∈ list, -M ≤ x ∧ x ≤ M := by
  intro x hx
  obtain ⟨n, hn, rfl⟩ := List.getElem_of_mem hx
  have hz : n < (list.zip l).length := by rw [List.length_zip]; omega
  have h1 := List.all_eq_true.1 hr _ (List.getElem_mem hz)
  obtain ⟨g1, g2, e1, e2⟩ := zip_get1 hz
  rw [e1, e2] at h1
  simp only [Bool.or_eq_true, decide_eq_true_eq] at h1
  have h2 := hb _ (List.getElem_mem g2)
  rcases h1 with h1 | h1 <;> rw [h1]
  · exact ediv_bounds h.1 hM h2.1 h2.2
  · exact cl_bounds h.1 hM h2.1 h2.2
theorem rnd_oke {den : Int} {l list : List Int} (h : vv den l = true) (hl : list.length = l.length) (hr : rnd den l list = true) : oke den l list :=
  oke_of h hl fun x hx => by have := rnd_in (okd_vv h) hl hr (M := 1000000) (by omega) (vv_iff.1 h).2.2 x hx; omega
theorem IsRounding_iff {den : Int} {l list : List Int} : IsRounding_res den l list = true ↔ vv den l = true ∧ list.length = l.length ∧ rnd den l list = true := by
  simp only [IsRounding_res, Bool.and_eq_true, decide_eq_true_eq]
def nf (a : Int) (s e : Int) : Int := if a = 0 then s + (e.natAbs : Int) else if a = 1 then s + e * e else max s (e.natAbs : Int)
def nrm (a : Int) (es : List Int) : Int := es.foldl (nf a) 0
theorem nrm_succ (a : Int) {es : List Int} {n : Nat} (h : n < es.length) : nrm a (es.take (n + 1)) = nf a (nrm a (es.take n)) es[n] := by
  unfold nrm
  rw [take_snoc h, List.foldl_append]; rfl
theorem nf_in {a s e M : Int} (hs : 0 ≤ s ∧ s ≤ M) (he : -1000 ≤ e ∧ e ≤ 1000) : 0 ≤ nf a s e ∧ nf a s e ≤ M + 1000000 := by
  unfold nf
  have h1 : 0 ≤ e * e := by rcases Int.le_total 0 e with h | h; exact Int.mul_nonneg h h; exact Int.mul_nonneg_of_nonpos_of_nonpos h h
  have h2 : e * e ≤ 1000 * 1000 := by
    rcases Int.le_total 0 e with h | h
    · exact Int.mul_le_mul he.2 he.2 h (by omega)
    · have := Int.mul_le_mul (a := -e) (b := -e) (c := 1000) (d := 1000) (by omega) (by omega) (by omega) (by omega)
      rwa [Int.neg_mul_neg] at this
  split
  · omega
  · split <;> omega
theorem nrm_in {a : Int} {es : List Int} (h : ∀ e ∈ es, -1000 ≤ e ∧ e ≤ 1000) : ∀ n, n ≤ es.length → 0 ≤ nrm a (es.take n) ∧ nrm a (es.take n) ≤ n * 1000000
  | 0, _ => by simp [nrm]
  | n + 1, hn => by
    have h1 := nrm_in (a := a) h n (by omega)
    rw [nrm_succ a (by omega)]
    have h2 := nf_in (a := a) h1 (h _ (List.getElem_mem (show n < es.length by omega)))
    omega
theorem gr_nrm : ∀ (es : List Int) (s : Int), gr s es = es.foldl (nf 2) s
  | [], _ => rfl
  | e :: es, s => by
    simp only [gr, List.foldl_cons]
    rw [gr_nrm es]
    rfl
theorem mx_abs {e : Int} (h : -4611686018427387904 ≤ e ∧ e ≤ 4611686018427387904) : mx e (wrap64 (-e)) = (e.natAbs : Int) := by
  rw [w64 (by omega) (by omega), mx_eq]; omega
theorem normOf_eq {a : Int} {es : List Int} (ha : 0 ≤ a ∧ a ≤ 2) (hl : es.length ≤ 1000) (h : ∀ e ∈ es, -1000 ≤ e ∧ e ≤ 1000) {k : Nat} (hk : es.length < k) : impl_normOf.f k es a = some (nrm a es) := by
  unfold impl_normOf.f
  by_cases h2 : a = 2
  · subst h2
    rw [if_pos rfl, greatest_eq (by omega) (fun x hx => by have := h x hx; omega) (by omega), gr_nrm]; rfl
  · rw [if_neg h2]
    refine loopI0 (m := es.length) (F := fun k i (s : Int) => impl_normOf.l0 k a s es (es.length : Int) i) (fun n s => s = nrm a (es.take n)) (fun r => r = some (nrm a es)) ?_ ?_ (k := k) (s := 0) (by omega) (by simp [nrm])
    · rintro k s rfl
      simp only [impl_normOf.l0]
      rw [if_neg (by omega), List.take_length]
    · rintro k n s hn rfl
      have he := h _ (List.getElem_mem hn)
      have hb := nrm_in (a := a) h n (by omega)
      have hb2 := nrm_in (a := a) h (n + 1) (by omega)
      have hs := nrm_succ a hn
      have hq : -1000000 ≤ es[n] * es[n] ∧ es[n] * es[n] ≤ 1000000 := by
        have := nf_in (a := 1) (s := 0) (M := 0) (by omega) he
        unfold nf at this
        rw [if_neg (by omega), if_pos rfl] at this
        omega
      refine .inl ⟨_, rfl, ?_⟩
      simp only [impl_normOf.l0]
      rw [if_pos (by omega), if_pos (by omega), if_pos (by omega), rd_nat hn, wrap_nat (by omega)]
      by_cases h0 : a = 0
      · subst h0
        rw [if_pos rfl, mx_abs (by omega), hs]
        unfold nf
        rw [if_pos rfl, w64 (by omega) (by omega)]
      · rw [if_neg h0, w64 (x := es[n] * es[n]) (by omega) (by omega), hs]
        unfold nf
        rw [if_neg h0, if_pos (by omega), w64 (by omega) (by omega)]
def ErrorOf_res (den : Int) (l list : List Int) (a : Int) : Int × Bool := if IsRounding_res den l list = true ∧ 0 ≤ a ∧ a ≤ 2 then (nrm a (ers den l list), true) else (0, false)
theorem rnd_small {den : Int} {l list : List Int} (h : vv den l = true) (hl : list.length = l.length) (hr : rnd den l list = true) : ∀ e ∈ ers den l list, -1000 ≤ e ∧ e ≤ 1000 := fun e he => by
  have h1 := rnd_get (vv_iff.1 h).1.1 hl hr e he
  have := (vv_iff.1 h).1
  omega
theorem ErrorOf_impl {den : Int} {l list : List Int} {a : Int} (g1 : i64 den) (g2 : ∀ x ∈ l, i64 x) (g3 : ∀ x ∈ list, i64 x) (_ : i64 a) (hl : l.length ≤ 1048576) (hl2 : list.length ≤ 1048576) {k : Nat} (hk : l.length + list.length + 200 < k) : Za9.f k den l list a = some (ErrorOf_res den l list a) := by
  obtain ⟨k, rfl, hk'⟩ := succ_of_lt hk
  unfold Za9.f ErrorOf_res
  rw [IsRounding_impl g1 g2 g3 hl hl2 hk, Option.bind_some]
  by_cases h : IsRounding_res den l list = true
  · have hi := IsRounding_iff.1 h
    have hv := vv_iff.1 hi.1
    have hle := ers_length (den := den) hi.2.1
    rw [if_pos h, within_eq, Option.bind_some]
    simp only [Za9.j0]
    by_cases h3 : 0 ≤ a ∧ a ≤ 2
    · rw [if_neg (by simp [h3]), if_pos ⟨h, h3⟩, errors_eq (rnd_oke hi.1 hi.2.1 hi.2.2) (by omega), Option.bind_some, normOf_eq h3 (by omega) (rnd_small hi.1 hi.2.1 hi.2.2) (by omega)]; rfl
    · rw [if_pos (by simp only [Bool.not_eq_true', decide_eq_false_iff_not]; exact h3), if_neg (fun h' => h3 h'.2)]
  · rw [if_neg h, if_neg (fun h' => h h'.1)]
    simp only [Za9.j0]
    rw [if_pos trivial]
end Go.Proofs.Ytgmmfdilfpkbmaa.Q
end
section
namespace Go.Proofs.Ytgmmfdilfpkbmaa.Q
open Go.RowKit Go.Proofs.YtgmmfdilfpkbmaaW.PrintWords Go.Proofs.YtgmmfdilfpkbmaaW.PrintLast Go.Proofs.Ytgmmfdilfpkbmaa.P Go.Proofs.Ytgmmfdilfpkbmaa.B
set_option linter.unusedVariables false
set_option linter.unusedSimpArgs false
def rst (V : Int) (nums : List Int) (i : Nat) : Int := rd nums i - V * (rd nums i / V)
def lq (V : Int) (nums : List Int) (a b : Nat) : Prop := rst V nums a > rst V nums b ∨ rst V nums a = rst V nums b ∧ a < b
theorem lq_trans {V : Int} {nums : List Int} {a b c : Nat} (h1 : lq V nums a b) (h2 : lq V nums b c) : lq V nums a c := by unfold lq at *; omega
theorem lq_asymm {V : Int} {nums : List Int} {a b : Nat} (h : lq V nums a b) : ¬ lq V nums b a := by unfold lq at *; omega
def upto (i n : Nat) : List Nat := (List.range (n - i)).map (i + ·)
abbrev ofn (l : List Nat) : List Int := l.map Int.ofNat
theorem rd_ofn {l : List Nat} {i : Nat} (h : i < l.length) : rd (ofn l) (i : Int) = (l[i] : Int) := by
  rw [rd_nat (by simpa using h), List.getElem_map]; rfl
theorem sorted_unique {V : Int} {nums : List Int} : ∀ {σ τ : List Nat}, σ.Pairwise (lq V nums) → τ.Pairwise (lq V nums) → (∀ q, q ∈ σ ↔ q ∈ τ) → σ = τ
  | [], [], _, _, _ => rfl
  | [], b :: τ, _, _, h => by simpa using (h b).2 (List.mem_cons_self ..)
  | a :: σ, [], _, _, h => by simpa using (h a).1 (List.mem_cons_self ..)
  | a :: σ, b :: τ, h1, h2, h => by
    rw [List.pairwise_cons] at h1 h2
    have hab : a = b := by
      rcases List.mem_cons.1 ((h a).1 (List.mem_cons_self ..)) with e | ha
      · exact e
      · rcases List.mem_cons.1 ((h b).2 (List.mem_cons_self ..)) with e | hb
        · exact e.symm
        · exact absurd (h2.1 a ha) (lq_asymm (h1.1 b hb))
    subst hab
    congr 1
    refine sorted_unique h1.2 h2.2 fun q => ⟨fun hq => ?_, fun hq => ?_⟩
    · rcases List.mem_cons.1 ((h q).1 (List.mem_cons_of_mem _ hq)) with e | hq'
      · subst e; exact absurd (h1.1 q hq) (lq_asymm (h1.1 q hq))
      · exact hq'
    · rcases List.mem_cons.1 ((h q).2 (List.mem_cons_of_mem _ hq)) with e | hq'
      · subst e; exact absurd (h2.1 q hq) (lq_asymm (h2.1 q hq))
      · exact hq'
def incs : List Int → List Nat → List Int
  | out, [] => out
  | out, i :: r => incs (out.set i (rd out i + 1)) r
theorem incs_length : ∀ (T : List Nat) (out : List Int), (incs out T).length = out.length
  | [], _ => rfl
  | i :: r, out => by simp only [incs]; rw [incs_length r, List.length_set]
theorem incs_append : ∀ (T : List Nat) (out : List Int) (i : Nat), incs out (T ++ [i]) = (incs out T).set i (rd (incs out T) i + 1)
  | [], _, _ => rfl
  | j :: r, out, i => by simp only [List.cons_append, incs]; exact incs_append r _ i
theorem incs_rd : ∀ (T : List Nat) (out : List Int), T.Nodup → (∀ q ∈ T, q < out.length) → ∀ i : Nat, rd (incs out T) i = rd out i + if i ∈ T then 1 else 0
  | [], out, _, _, i => by simp [incs]
  | j :: r, out, hn, hT, i => by
    rw [List.nodup_cons] at hn
    have hj := hT j (List.mem_cons_self ..)
    simp only [incs]
    rw [incs_rd r _ hn.2 (fun q hq => by rw [List.length_set]; exact hT q (List.mem_cons_of_mem _ hq)) i, rd_set hj]
    by_cases c : i = j
    · subst c
      rw [if_pos rfl, if_neg hn.1, if_pos (by simp)]; omega
    · rw [if_neg c]
      by_cases c2 : i ∈ r
      · rw [if_pos c2, if_pos (by simp [c2])]
      · rw [if_neg c2, if_neg (by simp [c, c2])]
theorem incs_sum : ∀ (T : List Nat) (out : List Int), (∀ q ∈ T, q < out.length) → (incs out T).sum = out.sum + T.length
  | [], out, _ => by simp [incs]
  | j :: r, out, hT => by
    have hj := hT j (List.mem_cons_self ..)
    simp only [incs]
    rw [incs_sum r _ (fun q hq => by rw [List.length_set]; exact hT q (List.mem_cons_of_mem _ hq)), sum_set hj, rd_nat hj, List.length_cons]
    omega
end Go.Proofs.Ytgmmfdilfpkbmaa.Q
end
section
namespace Go.Proofs.Ytgmmfdilfpkbmaa.Q
open Go.RowKit Go.Proofs.YtgmmfdilfpkbmaaW.PrintWords Go.Proofs.YtgmmfdilfpkbmaaW.PrintLast Go.Proofs.Ytgmmfdilfpkbmaa.P Go.Proofs.Ytgmmfdilfpkbmaa.B
set_option linter.unusedVariables false
set_option linter.unusedSimpArgs false
theorem rest_eq {V : Int} {nums : List Int} (h : okd V nums) {a : Nat} (ha : a < nums.length) : Za3.f V nums (a : Int) = some (rst V nums a) := by
  have hx := h.get ha
  unfold Za3.f rst
  have hb := ediv_mul_le (a := nums[a]) h.1
  have hc := Int.mul_comm V (nums[a] / V)
  rw [if_pos (by omega), if_pos (by omega), rd_nat ha, floor_eq h.1 (by omega) (by omega), Option.bind_some, w64 (x := V * (nums[a] / V)) (by have := h.2.1; omega) (by have := h.2.1; omega), w64 (by have := h.2.1; omega) (by have := h.2.1; omega)]
theorem cmpP_eq {V : Int} {nums : List Int} (h : okd V nums) {a b : Nat} (ha : a < nums.length) (hb : b < nums.length) : impl_planFor_1_v.f (a : Int) (b : Int) V nums = some (rst V nums b - rst V nums a).sign := by
  unfold impl_planFor_1_v.f
  rw [rest_eq h hb, Option.bind_some, rest_eq h ha, Option.bind_some, compare_eq]; rfl
theorem lt_iff {V : Int} {nums : List Int} {a b : Nat} (hab : a < b) : (rst V nums a - rst V nums b).sign < 0 ↔ lq V nums b a := by
  have := sign_cases' (rst V nums a - rst V nums b)
  unfold lq
  omega
theorem nlt_iff {V : Int} {nums : List Int} {a b : Nat} (hab : a < b) : ¬ (rst V nums a - rst V nums b).sign < 0 ↔ lq V nums a b := by
  have := sign_cases' (rst V nums a - rst V nums b)
  unfold lq
  omega
theorem rd_mid (X R : List Nat) (x : Nat) {i : Int} (h : i = (X.length : Int)) : rd (ofn (X ++ x :: R)) i = (x : Int) := by
  subst h
  rw [rd_ofn (by simp)]
  simp
theorem set_mid (X R : List Nat) (x y : Nat) {i : Nat} (h : i = X.length) : (ofn (X ++ x :: R)).set i (y : Int) = ofn (X ++ y :: R) := by
  subst h
  simp [ofn, List.set_append_right]
theorem ofn_len (l : List Nat) : (ofn l).length = l.length := List.length_map ..
theorem ins_in {V : Int} {nums : List Int} (h : okd V nums) {A B T : List Nat} {b x8 : Int} {x : Nat} (hx : x < nums.length) (hT : ∀ y ∈ T, y < x) (hlen : A.length + T.length + 1 + B.length ≤ 1000000) {Q : Option (List Int) → Prop} {C : Nat}
    (next : ∀ k τ, C < k → τ.Pairwise (lq V nums) → τ.Perm (x :: T) → Q (Zai.l0 k (ofn (A ++ τ ++ B)) (A.length : Int) b (wrap64 (x8 + 1)) V nums)) :
    ∀ j k τ1 τ2, τ1.length = j → (τ1 ++ τ2).Pairwise (lq V nums) → (τ1 ++ τ2).Perm T → (∀ q ∈ τ2, lq V nums x q) → j + 1 + C < k →
      Q (Zai.l1 k (ofn (A ++ (τ1 ++ x :: τ2) ++ B)) (A.length : Int) b x8 ((A.length + j : Nat) : Int) V nums) := by
  intro j
  have fin : ∀ k τ1 τ2, (τ1 ++ τ2).Pairwise (lq V nums) → (τ1 ++ τ2).Perm T → (∀ q ∈ τ2, lq V nums x q) → (∀ q ∈ τ1, lq V nums q x) → C < k →
      Q (Zai.l0 k (ofn (A ++ (τ1 ++ x :: τ2) ++ B)) (A.length : Int) b (wrap64 (x8 + 1)) V nums) := by
    intro k τ1 τ2 hp hq h2 h1 hk
    refine next k _ hk ?_ ?_
    · rw [List.pairwise_append] at hp ⊢
      refine ⟨hp.1, List.pairwise_cons.2 ⟨h2, hp.2.1⟩, fun a ha b hb => ?_⟩
      rcases List.mem_cons.1 hb with rfl | hb
      · exact h1 a ha
      · exact hp.2.2 a ha b hb
    · exact List.perm_middle.trans (hq.cons x)
  induction j with
  | zero =>
    intro k τ1 τ2 hj hp hq h2 hk
    obtain ⟨k, rfl, _⟩ := succ_of_lt hk
    obtain rfl : τ1 = [] := List.eq_nil_of_length_eq_zero hj
    simp only [Zai.l1]
    rw [if_neg (by omega)]
    exact fin k [] τ2 hp hq h2 (by simp) (by omega)
  | succ j ih =>
    intro k τ1 τ2 hj hp hq h2 hk
    obtain ⟨k, rfl, _⟩ := succ_of_lt hk
    obtain ⟨D, p, rfl⟩ : ∃ D p, τ1 = D ++ [p] := by
      rcases List.eq_nil_or_concat τ1 with rfl | ⟨D, p, rfl⟩
      · simp at hj
      · exact ⟨D, p, by simp⟩
    have hD : D.length = j := by simpa using hj
    have hpT : p ∈ T := hq.mem_iff.1 (by simp)
    have hpx := hT p hpT
    have hTl := hq.length_eq
    simp only [List.length_append, List.length_cons, List.length_nil] at hTl
    have e1 : A ++ (D ++ [p] ++ x :: τ2) ++ B = (A ++ D) ++ p :: (x :: (τ2 ++ B)) := by simp
    have e2 : A ++ (D ++ [p] ++ x :: τ2) ++ B = (A ++ D ++ [p]) ++ x :: (τ2 ++ B) := by simp
    have hl : (A ++ (D ++ [p] ++ x :: τ2) ++ B).length = A.length + (j + 1) + 1 + τ2.length + B.length := by simp [hD]; omega
    have g1 : rd (ofn (A ++ (D ++ [p] ++ x :: τ2) ++ B)) ((A.length + j : Nat) : Int) = (p : Int) := by rw [e1]; exact rd_mid _ _ _ (by simp [hD])
    have g2 : rd (ofn (A ++ (D ++ [p] ++ x :: τ2) ++ B)) ((A.length + (j + 1) : Nat) : Int) = (x : Int) := by rw [e2]; exact rd_mid _ _ _ (by simp [hD] <;> omega)
    have hl2 : (ofn (A ++ (D ++ [p] ++ x :: τ2) ++ B)).length = A.length + (j + 1) + 1 + τ2.length + B.length := by rw [ofn_len, hl]
    simp only [Zai.l1]
    rw [w64 (x := ((A.length + (j + 1) : Nat) : Int) - 1) (by omega) (by omega), show ((A.length + (j + 1) : Nat) : Int) - 1 = ((A.length + j : Nat) : Int) by omega, g1, g2, if_pos (by omega), if_pos (by omega), if_pos (by omega), if_pos (by omega), if_pos (by omega), cmpP_eq h hx (by omega), Option.bind_some, Int.toNat_natCast, Int.toNat_natCast]
    by_cases c : (rst V nums p - rst V nums x).sign < 0
    · rw [if_pos c]
      have hli := (lt_iff hpx).1 c
      have e3 : ((ofn (A ++ (D ++ [p] ++ x :: τ2) ++ B)).set (A.length + (j + 1)) (p : Int)).set (A.length + j) (x : Int) = ofn (A ++ (D ++ x :: (p :: τ2)) ++ B) := by
        rw [e2, set_mid _ _ _ _ (by simp [hD] <;> omega), show (A ++ D ++ [p]) ++ p :: (τ2 ++ B) = (A ++ D) ++ p :: (p :: (τ2 ++ B)) by simp, set_mid _ _ _ _ (by simp [hD])]
        simp
      rw [e3]
      refine ih k D (p :: τ2) hD (by simpa using hp) (by simpa using hq) ?_ (by omega)
      intro q hq'
      rcases List.mem_cons.1 hq' with rfl | hq'
      · exact hli
      · exact h2 q hq'
    · rw [if_neg c]
      have hpl := (nlt_iff hpx).1 c
      refine fin k (D ++ [p]) τ2 hp hq h2 ?_ (by omega)
      intro q hq'
      rcases List.mem_append.1 hq' with hq' | hq'
      · rw [List.append_assoc, List.pairwise_append] at hp
        exact lq_trans (hp.2.2 q hq' p (by simp)) hpl
      · rw [List.mem_singleton.1 hq']; exact hpl
theorem ins_out {V : Int} {nums : List Int} (h : okd V nums) {A B : List Nat} {n : Nat} (hlen : A.length + n + B.length ≤ 1000000) : ∀ (S τ : List Nat) (k : Nat), τ.length + S.length = n → τ.Pairwise (lq V nums) → S.Pairwise (· < ·) → (∀ x ∈ τ, ∀ y ∈ S, x < y) → (∀ y ∈ S, y < nums.length) → S.length * (n + 3) + 2 < k →
    ∃ σ, Zai.l0 k (ofn (A ++ τ ++ (S ++ B))) (A.length : Int) ((A.length + n : Nat) : Int) ((A.length + τ.length : Nat) : Int) V nums = some (ofn (A ++ σ ++ B)) ∧ σ.Pairwise (lq V nums) ∧ σ.Perm (τ ++ S)
  | [], τ, k, hn, hp, hS, hc, hb, hk => by
    obtain ⟨k, rfl, _⟩ := succ_of_lt hk
    simp only [List.length_nil] at hn
    simp only [Zai.l0]
    rw [if_neg (by omega)]
    exact ⟨τ, by simp, hp, by simp⟩
  | x :: S, τ, k, hn, hp, hS, hc, hb, hk => by
    obtain ⟨k, rfl, _⟩ := succ_of_lt hk
    simp only [List.length_cons, Nat.succ_mul] at hn hk
    rw [List.pairwise_cons] at hS
    simp only [Zai.l0]
    rw [if_pos (by omega)]
    have := ins_in h (A := A) (B := S ++ B) (T := τ) (b := ((A.length + n : Nat) : Int)) (x8 := ((A.length + τ.length : Nat) : Int)) (x := x) (hb x (by simp)) (fun y hy => hc y hy x (by simp)) (by simp; omega)
      (Q := fun r => ∃ σ, r = some (ofn (A ++ σ ++ B)) ∧ σ.Pairwise (lq V nums) ∧ σ.Perm (τ ++ x :: S)) (C := S.length * (n + 3) + 2) (fun k τ' hk hp' hq' => by
        have hl := hq'.length_eq
        simp only [List.length_cons] at hl
        obtain ⟨σ, e, h1, h2⟩ := ins_out h hlen S τ' k (by omega) hp' hS.2 (fun y hy z hz => by
          rcases List.mem_cons.1 (hq'.mem_iff.1 hy) with rfl | hy
          · exact hS.1 z hz
          · exact hc y hy z (List.mem_cons_of_mem _ hz)) (fun y hy => hb y (List.mem_cons_of_mem _ hy)) hk
        rw [wrap_nat (by omega), show A.length + τ.length + 1 = A.length + τ'.length by omega]
        exact ⟨σ, e, h1, h2.trans ((hq'.append_right S).trans (by simpa using (List.perm_middle (a := x) (l₁ := τ) (l₂ := S)).symm))⟩) τ.length k τ [] rfl (by simpa using hp) (by simp) (by simp) (by omega)
    simpa using this
theorem insSeg_eq {V : Int} {nums : List Int} (h : okd V nums) {A S B : List Nat} (hlen : A.length + S.length + B.length ≤ 1000000) (hS : S.Pairwise (· < ·)) (hb : ∀ y ∈ S, y < nums.length) {k : Nat} (hk : S.length * (S.length + 3) + 4 < k) :
    ∃ σ, Zai.f k (ofn (A ++ S ++ B)) (A.length : Int) ((A.length + S.length : Nat) : Int) V nums = some (ofn (A ++ σ ++ B)) ∧ σ.Pairwise (lq V nums) ∧ σ.Perm S := by
  unfold Zai.f
  match S, hS, hb, hk, hlen with
  | [], _, _, hk, hlen =>
    obtain ⟨k, rfl, _⟩ := succ_of_lt hk
    simp only [List.length_nil] at hlen
    simp only [Zai.l0]
    rw [if_neg (by rw [wrap_nat (by omega)]; simp only [List.length_nil]; omega)]
    exact ⟨[], by simp, List.Pairwise.nil, List.Perm.refl _⟩
  | x :: S, hS, hb, hk, hlen =>
    rw [List.pairwise_cons] at hS
    simp only [List.length_cons, Nat.succ_mul] at hk hlen
    obtain ⟨σ, e, h1, h2⟩ := ins_out h (A := A) (B := B) (n := S.length + 1) (by omega) S [x] k (by simp; omega) (by simp) hS.2 (by simpa using hS.1) (fun y hy => hb y (List.mem_cons_of_mem _ hy)) (by
      have : S.length * (S.length + 1 + 3) = S.length * (S.length + 1 + 3) := rfl
      omega)
    rw [wrap_nat (by omega)]
    refine ⟨σ, ?_, h1, by simpa using h2⟩
    have e2 : A ++ x :: S ++ B = A ++ [x] ++ (S ++ B) := by simp
    rw [e2, List.length_cons]
    simpa using e
end Go.Proofs.Ytgmmfdilfpkbmaa.Q
end
section
namespace Go.Proofs.Ytgmmfdilfpkbmaa.Q
open Go.RowKit Go.Proofs.YtgmmfdilfpkbmaaW.PrintWords Go.Proofs.YtgmmfdilfpkbmaaW.PrintLast Go.Proofs.Ytgmmfdilfpkbmaa.P Go.Proofs.Ytgmmfdilfpkbmaa.B
set_option linter.unusedVariables false
set_option linter.unusedSimpArgs false
theorem pw_get {V : Int} {nums : List Int} {R : List Nat} (h : R.Pairwise (lq V nums)) {i j : Nat} (hi : i < R.length) (hj : j < R.length) (hij : i < j) : lq V nums R[i] R[j] := List.pairwise_iff_getElem.1 h i j hi hj hij
theorem insTop {V : Int} {nums : List Int} (h : okd V nums) {A S B : List Nat} (hl : A.length + S.length + B.length ≤ 100) (hS : S.Pairwise (· < ·)) (hb : ∀ y ∈ S, y < nums.length) {a b : Int} (ha : a = A.length) (hb2 : b = (A.length + S.length : Nat)) {k : Nat} (hk : 10500 < k) :
    ∃ σ, Zai.f k (ofn (A ++ S ++ B)) a b V nums = some (ofn (A ++ σ ++ B)) ∧ σ.Pairwise (lq V nums) ∧ σ.Perm S := by
  subst ha hb2
  have h2 : S.length * (S.length + 3) ≤ 100 * 103 := Nat.mul_le_mul (by omega) (by omega)
  exact insSeg_eq h (by omega) hS hb (by omega)
set_option maxRecDepth 100000 in
theorem stable40 {V : Int} {nums : List Int} (h : okd V nums) {S : List Nat} (hS : S.Pairwise (· < ·)) (hb : ∀ y ∈ S, y < nums.length) (hl : S.length ≤ 19) {k : Nat} (hk : 20000 < k) :
    ∃ M, slices_SortStableFunc_int_int_planFor_1.f k (ofn S) V nums = some (ofn M) ∧ M.Pairwise (lq V nums) ∧ M.Perm S := by
  unfold slices_SortStableFunc_int_int_planFor_1.f Zao.f
  rw [ofn_len]
  have w1 : wrap64 (20 + 20) = 40 := by unfold wrap64; omega
  have w2 : wrap64 (40 + 20) = 60 := by unfold wrap64; omega
  have w3 : wrap64 (2 * 20) = 40 := by unfold wrap64; omega
  have w4 : wrap64 (20 * 2) = 40 := by unfold wrap64; omega
  have w5 : wrap64 (0 + 20) = 20 := by unfold wrap64; omega
  have w6 : wrap64 (40 + 40) = 80 := by unfold wrap64; omega
  obtain ⟨k, rfl, _⟩ := succ_of_lt hk
  by_cases c : S.length < 20
  · have n1 : ¬ (20 : Int) ≤ (S.length : Int) := by clear w1 w2 w3 w4 w5 w6; omega
    have n2 : ¬ (20 : Int) < (S.length : Int) := by clear w1 w2 w3 w4 w5 w6; omega
    obtain ⟨σ, e, p1, p2⟩ := insTop h (A := []) (S := S) (B := []) (a := 0) (b := (S.length : Int)) (by clear w1 w2 w3 w4 w5 w6; simp; omega) hS hb rfl (by simp) (k := k) (by clear w1 w2 w3 w4 w5 w6; omega)
    simp only [List.nil_append, List.append_nil] at e
    simp only [Zao.l0]
    rw [if_neg n1, e, Option.bind_some]
    obtain ⟨k, rfl, _⟩ := succ_of_lt (show 100 < k by clear w1 w2 w3 w4 w5 w6 e; omega)
    simp only [Zao.l1]
    rw [if_neg n2]
    exact ⟨σ, rfl, p1, p2⟩
  · exact absurd hl (by omega)
end Go.Proofs.Ytgmmfdilfpkbmaa.Q
end
section
namespace Go.Proofs.Ytgmmfdilfpkbmaa.Q
open Go.RowKit Go.Proofs.YtgmmfdilfpkbmaaW.PrintWords Go.Proofs.YtgmmfdilfpkbmaaW.PrintLast Go.Proofs.Ytgmmfdilfpkbmaa.P Go.Proofs.Ytgmmfdilfpkbmaa.B
set_option linter.unusedVariables false
set_option linter.unusedSimpArgs false
theorem rst_in {V : Int} (hV : 1 ≤ V) (nums : List Int) (i : Nat) : 0 ≤ rst V nums i ∧ rst V nums i < V := by
  unfold rst
  have := ediv_mul_le (a := rd nums i) hV
  have hc := Int.mul_comm V (rd nums i / V)
  omega
abbrev above (V : Int) (nums : List Int) (e : Int) (n : Nat) : List Nat := (List.range n).filter fun i => decide (e < rst V nums i)
abbrev equal (V : Int) (nums : List Int) (e : Int) (n : Nat) : List Nat := (List.range n).filter fun i => decide (rst V nums i = e)
theorem range_lt (n : Nat) : (List.range n).Pairwise (· < ·) := List.pairwise_lt_range
theorem above_lt {V : Int} {nums : List Int} {e : Int} {n : Nat} : (above V nums e n).Pairwise (· < ·) := (range_lt n).filter _
theorem above_mem {V : Int} {nums : List Int} {e : Int} {n i : Nat} : i ∈ above V nums e n ↔ i < n ∧ e < rst V nums i := by simp [above]
theorem equal_mem {V : Int} {nums : List Int} {e : Int} {n i : Nat} : i ∈ equal V nums e n ↔ i < n ∧ rst V nums i = e := by simp [equal]
theorem equal_pw {V : Int} {nums : List Int} {e : Int} {n : Nat} : (equal V nums e n).Pairwise (lq V nums) := by
  have h : (equal V nums e n).Pairwise (· < ·) := (range_lt n).filter _
  refine List.Pairwise.imp_of_mem (fun {a b} ha hb hab => ?_) h
  exact .inr ⟨(equal_mem.1 ha).2.trans (equal_mem.1 hb).2.symm, hab⟩
def PL (V : Int) (nums : List Int) (m : Nat) (up may : List Nat) (left : Nat) : Prop :=
  (m = 0 ∧ up = [] ∧ may = [] ∧ left = 0) ∨ ∃ e, 0 < e ∧ up.Perm (above V nums e nums.length) ∧ may = equal V nums e nums.length ∧ left + up.length = m ∧ up.length < m ∧ m ≤ up.length + may.length
theorem edge_counts {V : Int} {nums : List Int} {M : List Nat} (hM : M.Pairwise (lq V nums)) {m : Nat} (h1 : 1 ≤ m) (h2 : m ≤ M.length) {e : Int} (he : e = rst V nums (M[m - 1]'(by omega))) :
    (M.filter fun i => decide (e < rst V nums i)).length < m ∧ m ≤ (M.filter fun i => decide (e < rst V nums i)).length + (M.filter fun i => decide (rst V nums i = e)).length := by
  have hlow : ∀ x ∈ M.drop (m - 1), ¬ e < rst V nums x := by
    intro x hx
    obtain ⟨t, ht, rfl⟩ := List.mem_iff_getElem.1 hx
    rw [List.length_drop] at ht
    rw [List.getElem_drop]
    rcases Nat.eq_zero_or_pos t with h | h
    · have : m - 1 + t = m - 1 := by omega
      simp only [this]; omega
    · have := pw_get hM (i := m - 1) (j := m - 1 + t) (by omega) (by omega) (by omega)
      unfold lq at this; omega
  have hhigh : ∀ x ∈ M.take m, e < rst V nums x ∨ rst V nums x = e := by
    intro x hx
    obtain ⟨t, ht, rfl⟩ := List.mem_iff_getElem.1 hx
    rw [List.length_take] at ht
    rw [List.getElem_take]
    rcases Nat.lt_or_ge t (m - 1) with h | h
    · have := pw_get hM (i := t) (j := m - 1) (by omega) (by omega) h
      unfold lq at this; omega
    · have : t = m - 1 := by omega
      simp only [this]; omega
  constructor
  · have e1 : M.filter (fun i => decide (e < rst V nums i)) = (M.take (m - 1)).filter fun i => decide (e < rst V nums i) := by
      conv => lhs; rw [← List.take_append_drop (m - 1) M]
      have hnil : (M.drop (m - 1)).filter (fun i => decide (e < rst V nums i)) = [] := List.filter_eq_nil_iff.2 (fun x hx => by simpa using hlow x hx)
      rw [List.filter_append, hnil, List.append_nil]
    rw [e1]
    have := List.length_filter_le (fun i => decide (e < rst V nums i)) (M.take (m - 1))
    rw [List.length_take] at this
    omega
  · have e2 : ∀ l : List Nat, (∀ x ∈ l, e < rst V nums x ∨ rst V nums x = e) → l.length = (l.filter fun i => decide (e < rst V nums i)).length + (l.filter fun i => decide (rst V nums i = e)).length := by
      intro l
      induction l with
      | nil => intro _; rfl
      | cons x xs ih =>
        intro hx
        have h0 := hx x (List.mem_cons_self ..)
        have := ih (fun y hy => hx y (List.mem_cons_of_mem _ hy))
        by_cases c : e < rst V nums x
        · rw [List.filter_cons_of_pos (by simpa using c), List.filter_cons_of_neg (by simp; omega), List.length_cons, List.length_cons]; omega
        · rw [List.filter_cons_of_neg (by simpa using c), List.filter_cons_of_pos (by simp; omega), List.length_cons, List.length_cons]; omega
    have h3 := e2 _ hhigh
    rw [List.length_take, Nat.min_eq_left h2] at h3
    have h4 := ((List.take_sublist m M).filter fun i => decide (e < rst V nums i)).length_le
    have h5 := ((List.take_sublist m M).filter fun i => decide (rst V nums i = e)).length_le
    omega
theorem filt_step {M : List Nat} (p : Nat → Bool) {i : Nat} (hi : i < M.length) : (M.take (i + 1)).filter p = if p M[i] = true then (M.take i).filter p ++ [M[i]] else (M.take i).filter p := by
  rw [List.take_add_one, List.getElem?_eq_getElem hi, Option.toList_some, List.filter_append]
  by_cases c : p M[i] = true
  · rw [if_pos c, List.filter_cons_of_pos c]; rfl
  · rw [if_neg c, List.filter_cons_of_neg c]; simp
theorem ofn_app (l : List Nat) (x : Nat) : ofn l ++ [(x : Int)] = ofn (l ++ [x]) := by simp [ofn]
theorem planLoop {V : Int} {nums : List Int} (h : okd V nums) {M : List Nat} (hb : ∀ y ∈ M, y < nums.length) (hl : M.length ≤ 1000) (e : Int) {m : Nat} (hm : m ≤ 1000) {k : Nat} (hk : M.length + 10 < k) (hlt : (M.filter fun i => decide (e < rst V nums i)).length ≤ m) :
    Zau.l1 k e (ofn M) (M.length : Int) 0 V nums [] [] (m : Int) = some (ofn (M.filter fun i => decide (e < rst V nums i)), ofn (M.filter fun i => decide (rst V nums i = e)), ((m - (M.filter fun i => decide (e < rst V nums i)).length : Nat) : Int)) := by
  refine loopI0 (m := M.length) (F := fun k i (s : List Int × List Int × Int) => Zau.l1 k e (ofn M) (M.length : Int) i V nums s.1 s.2.1 s.2.2)
    (fun i s => s = (ofn ((M.take i).filter fun i => decide (e < rst V nums i)), ofn ((M.take i).filter fun i => decide (rst V nums i = e)), (m : Int) - (((M.take i).filter fun i => decide (e < rst V nums i)).length : Int)))
    (fun r => r = some (ofn (M.filter fun i => decide (e < rst V nums i)), ofn (M.filter fun i => decide (rst V nums i = e)), ((m - (M.filter fun i => decide (e < rst V nums i)).length : Nat) : Int))) ?_ ?_ (k := k) (s := ([], [], (m : Int))) (by omega) (by simp)
  · rintro k s rfl
    simp only [Zau.l1]
    rw [if_neg (by omega), List.take_length]
    congr 3
    omega
  · rintro k i s hi rfl
    have hMi := hb _ (List.getElem_mem hi)
    have g : rd (ofn M) (i : Int) = (M[i] : Int) := rd_ofn hi
    have r1 := rest_eq h hMi
    have f1 := filt_step (M := M) (fun i => decide (e < rst V nums i)) hi
    have f2 := filt_step (M := M) (fun i => decide (rst V nums i = e)) hi
    have q1 := List.length_filter_le (fun i => decide (e < rst V nums i)) (M.take i)
    have q2 := List.length_filter_le (fun i => decide (rst V nums i = e)) (M.take i)
    rw [List.length_take] at q1 q2
    have b1 : (ofn ((M.take i).filter fun i => decide (e < rst V nums i))).length < 17592186044416 := by rw [ofn_len]; omega
    have b2 : (ofn ((M.take i).filter fun i => decide (rst V nums i = e))).length < 17592186044416 := by rw [ofn_len]; omega
    have b3 : (i : Int) < ((ofn M).length : Int) := by rw [ofn_len]; omega
    refine .inl ⟨_, rfl, ?_⟩
    simp only [Zau.l1]
    rw [if_pos (by omega), if_pos (Int.natCast_nonneg _), if_pos b3, g, r1, Option.bind_some, f1, f2]
    by_cases c : rst V nums M[i] > e
    · have c1 : decide (e < rst V nums M[i]) = true := decide_eq_true c
      have c2 : ¬ decide (rst V nums M[i] = e) = true := by simp; omega
      rw [if_pos c, if_pos b1, if_pos c1, if_neg c2, ofn_app, wrap_nat (by clear g r1 f1 f2; omega)]
      have : wrap64 ((m : Int) - ((List.filter (fun i => decide (e < rst V nums i)) (M.take i)).length : Int) - 1) = (m : Int) - ((List.filter (fun i => decide (e < rst V nums i)) (M.take i) ++ [M[i]]).length : Int) := by
        clear g r1 f1 f2
        rw [List.length_append, List.length_cons, List.length_nil, w64 (by omega) (by omega)]; omega
      rw [this]
    · have c1 : ¬ decide (e < rst V nums M[i]) = true := by simpa using c
      rw [if_neg c, Option.bind_some, if_neg c1]
      by_cases c3 : rst V nums M[i] = e
      · rw [if_pos c3, if_pos b2, if_pos (decide_eq_true c3), ofn_app, wrap_nat (by clear g r1 f1 f2; omega)]
      · rw [if_neg c3, if_neg (by simpa using c3), wrap_nat (by clear g r1 f1 f2; omega)]
theorem planFor_eq {V : Int} {nums : List Int} (h : okd V nums) (hn : nums.length ≤ 19) {m : Nat} (hm : m ≤ (above V nums 0 nums.length).length) {nm : Int} (hnm : nm ≠ 2) {k : Nat} (hk : 30000 < k) :
    ∃ (up may : List Nat) (left : Nat), Zau.f k V nums (m : Int) nm = some (ofn up, ofn may, (left : Int)) ∧ PL V nums m up may left := by
  unfold Zau.f
  rw [if_neg hnm]
  have hpl : (above V nums 0 nums.length).length ≤ nums.length := by
    have := List.length_filter_le (fun i => decide (0 < rst V nums i)) (List.range nums.length)
    rwa [List.length_range] at this
  refine loopIc0 (m := nums.length) 25000 (F := fun k i (s : List Int) => Zau.l0 k (m : Int) s (nums.length : Int) i V nums) (fun i s => s = ofn (above V nums 0 i)) (fun r => ∃ (up may : List Nat) (left : Nat), r = some (ofn up, ofn may, (left : Int)) ∧ PL V nums m up may left) ?_ ?_ (k := k) (s := []) (by omega) (by simp [above])
  · rintro k s hk rfl
    obtain ⟨M, e, p1, p2⟩ := stable40 h (S := above V nums 0 nums.length) above_lt (fun y hy => (above_mem.1 hy).1) (by omega) (k := k) (by omega)
    have hMl := p2.length_eq
    simp only [Zau.l0]
    rw [if_neg (by omega), e, Option.bind_some]
    by_cases c0 : m = 0
    · subst c0
      rw [if_pos (show ((0 : Nat) : Int) = 0 from rfl)]
      exact ⟨[], [], 0, rfl, .inl ⟨rfl, rfl, rfl, rfl⟩⟩
    · have b0 : ¬ (m : Int) = 0 := by clear e; omega
      have b1 : (m : Int) - 1 = ((m - 1 : Nat) : Int) := by clear e; omega
      have b2 : wrap64 ((m : Int) - 1) = ((m - 1 : Nat) : Int) := by clear e; rw [w64 (by omega) (by omega)]; exact b1
      have b3 : ((m - 1 : Nat) : Int) < ((ofn (above V nums 0 nums.length)).length : Int) := by clear e b2; rw [ofn_len]; omega
      have b4 : m - 1 < M.length := by clear e b2; omega
      have hMb : ∀ y ∈ M, y < nums.length := fun y hy => (above_mem.1 (p2.mem_iff.1 hy)).1
      have g : rd (ofn M) ((m - 1 : Nat) : Int) = (M[m - 1] : Int) := rd_ofn b4
      have r1 := rest_eq h (hMb _ (List.getElem_mem b4))
      have cnt := edge_counts p1 (m := m) (by clear e b2 g; omega) (by clear e b2 g; omega) rfl
      have hpos : 0 < rst V nums M[m - 1] := (above_mem.1 (p2.mem_iff.1 (List.getElem_mem b4))).2
      generalize rst V nums M[m - 1] = ed at cnt r1 hpos
      have pl := planLoop h hMb (by clear e b2 g; omega) ed (m := m) (by clear e b2 g; omega) (k := k) (by clear e b2 g; omega) (Nat.le_of_lt cnt.1)
      rw [if_neg b0, b2, if_pos (Int.natCast_nonneg _), if_pos b3, g, r1, Option.bind_some, ofn_len, ← hMl, pl]
      clear e b2 g pl r1
      refine ⟨_, _, _, rfl, .inr ⟨ed, hpos, ?_, ?_, by omega, cnt.1, cnt.2⟩⟩
      · refine (p2.filter _).trans ?_
        rw [List.filter_filter]
        refine List.Perm.of_eq (List.filter_congr fun x _ => ?_)
        rw [← Bool.decide_and]
        exact decide_eq_decide.2 (by omega)
      · refine sorted_unique (p1.filter _) equal_pw fun q => ?_
        rw [List.mem_filter, p2.mem_iff, above_mem, equal_mem, decide_eq_true_eq]
        constructor
        · rintro ⟨⟨h1, _⟩, h2⟩; exact ⟨h1, h2⟩
        · rintro ⟨h1, h2⟩; exact ⟨⟨h1, by omega⟩, h2⟩
  · rintro k i s hk hi rfl
    have r1 := rest_eq h hi
    have q1 : (above V nums 0 i).length ≤ i := by
      have := List.length_filter_le (fun i => decide (0 < rst V nums i)) (List.range i)
      rwa [List.length_range] at this
    have e : above V nums 0 (i + 1) = if 0 < rst V nums i then above V nums 0 i ++ [i] else above V nums 0 i := by
      unfold above
      rw [List.range_succ, List.filter_append]
      by_cases c : 0 < rst V nums i
      · rw [if_pos c, List.filter_cons_of_pos (by simpa using c)]; rfl
      · rw [if_neg c, List.filter_cons_of_neg (by simpa using c)]; simp
    have b1 : (ofn (above V nums 0 i)).length < 17592186044416 := by rw [ofn_len]; omega
    refine .inl ⟨_, rfl, ?_⟩
    simp only [Zau.l0]
    rw [if_pos (by omega), r1, Option.bind_some, e, wrap_nat (by clear r1 e; omega)]
    by_cases c : 0 < rst V nums i
    · rw [if_pos c, if_pos b1, if_pos c, ofn_app]
    · rw [if_neg c, if_neg c]
theorem cloneI_eq {l : List Int} (h : l.length ≤ 1000000) : slices_Clone_int_int.f l = some l := by
  unfold slices_Clone_int_int.f
  rw [Option.bind_some, if_pos (by simp; omega), List.nil_append]
theorem rounding_eq {V : Int} {nums : List Int} (h : okd V nums) (hn : nums.length ≤ 19) {up may : List Nat} {left : Nat} (hu : ∀ i ∈ up, i < nums.length) (hm : ∀ i ∈ may, i < nums.length) (hul : up.length ≤ 40) (hml : may.length ≤ 40) (hleft : left ≤ may.length) {k : Nat} (hk : 1000 < k) :
    Zaw.f k (ofn up) (ofn may) (left : Int) V nums = some (incs (fls V nums) (up ++ may.drop (may.length - left))) := by
  unfold Zaw.f impl_size_int.f
  have hwr : wrap64 (((ofn may).length : Int) - (left : Int)) = ((may.length - left : Nat) : Int) := by rw [ofn_len, w64 (by omega) (by omega)]; omega
  have hfin : ∀ x ∈ fls V nums, -100000000000 ≤ x ∧ x ≤ 100000000000 := fls_in h
  have hfl : (fls V nums).length = nums.length := fls_length V nums
  have b1 : ((may.length - left : Nat) : Int) ≤ ((ofn may).length : Int) := by clear hwr; rw [ofn_len]; omega
  have hd : (ofn may).drop (may.length - left) = ofn (may.drop (may.length - left)) := List.map_drop.symm
  rw [floors_eq h (by omega), Option.bind_some, cloneI_eq (by rw [ofn_len]; omega), Option.bind_some, Option.bind_some, hwr, if_pos (Int.natCast_nonneg _), if_pos b1, Int.toNat_natCast, hd, if_pos (by clear hwr; rw [ofn_len, ofn_len, List.length_drop]; omega), Option.bind_some, show ofn up ++ ofn (may.drop (may.length - left)) = ofn (up ++ may.drop (may.length - left)) from List.map_append.symm]
  clear hwr hd
  have hT : ∀ i ∈ up ++ may.drop (may.length - left), i < nums.length := fun i hi => by
    rcases List.mem_append.1 hi with h | h
    · exact hu i h
    · exact hm i (List.mem_of_mem_drop h)
  have hTl : (up ++ may.drop (may.length - left)).length ≤ 100 := by rw [List.length_append, List.length_drop]; omega
  generalize up ++ may.drop (may.length - left) = T at hT hTl
  rw [ofn_len]
  refine loopI0 (m := T.length) (F := fun k i (a : List Int) => Zaw.l0 k a (ofn T) (T.length : Int) i) (fun i a => a = incs (fls V nums) (T.take i)) (fun r => r = some (incs (fls V nums) T)) ?_ ?_ (k := k) (s := fls V nums) (by omega) (by simp [incs])
  · rintro k a rfl
    simp only [Zaw.l0]
    rw [if_neg (by omega), List.take_length]
  · rintro k i a hi rfl
    have hal : (incs (fls V nums) (T.take i)).length = nums.length := by rw [incs_length, hfl]
    have hti := hT _ (List.getElem_mem hi)
    have hin : ∀ (T : List Nat) (out : List Int), (∀ x ∈ out, -100000000000 ≤ x ∧ x ≤ 100000000000) → ∀ x ∈ incs out T, -100000000000 ≤ x ∧ x ≤ 100000000000 + T.length := by
      intro T
      induction T with
      | nil => intro out ho x hx; have := ho x hx; simp only [List.length_nil]; omega
      | cons j r ih =>
        intro out ho x hx
        have gen : ∀ (r : List Nat) (c : Int) (out : List Int), (∀ x ∈ out, -100000000000 ≤ x ∧ x ≤ c) → ∀ x ∈ incs out r, -100000000000 ≤ x ∧ x ≤ c + r.length := by
          intro r
          induction r with
          | nil => intro c out ho x hx; have := ho x hx; simp only [List.length_nil]; omega
          | cons q r ih2 =>
            intro c out ho x hx
            simp only [incs] at hx
            have := ih2 (c + 1) (out.set q (rd out q + 1)) (fun y hy => by
              rcases List.mem_or_eq_of_mem_set hy with hy' | hy'
              · have := ho y hy'; omega
              · by_cases hq : q < out.length
                · rw [rd_nat hq] at hy'
                  have := ho _ (List.getElem_mem hq); omega
                · rw [List.set_eq_of_length_le (by omega)] at hy
                  have := ho y hy; omega) x hx
            simp only [List.length_cons]; omega
        exact gen (j :: r) _ out ho x hx
    have hain := hin (T.take i) _ hfin _ (List.getElem_mem (show T[i] < (incs (fls V nums) (T.take i)).length by omega))
    have htl : (T.take i).length ≤ 100 := by rw [List.length_take]; omega
    have etk : T.take (i + 1) = T.take i ++ [T[i]] := by rw [List.take_add_one, List.getElem?_eq_getElem hi, Option.toList_some]
    rw [← rd_nat (by omega)] at hain
    have b2 : (i : Int) < ((ofn T).length : Int) := by rw [ofn_len]; omega
    have b3 : ((T[i] : Nat) : Int) < ((incs (fls V nums) (T.take i)).length : Int) := by omega
    have g := rd_ofn hi
    have w := w64 (x := rd (incs (fls V nums) (T.take i)) (T[i] : Int) + 1) (by clear g; omega) (by clear g; omega)
    refine .inl ⟨_, rfl, ?_⟩
    simp only [Zaw.l0]
    rw [if_pos (by clear g w; omega), if_pos (Int.natCast_nonneg _), if_pos b2, g, if_pos (Int.natCast_nonneg _), if_pos b3, Int.toNat_natCast, w, wrap_nat (by clear g w; omega), etk, incs_append]
end Go.Proofs.Ytgmmfdilfpkbmaa.Q
end
section
namespace Go.Proofs.Ytgmmfdilfpkbmaa.Q
open Go.RowKit Go.Proofs.YtgmmfdilfpkbmaaW.PrintWords Go.Proofs.YtgmmfdilfpkbmaaW.PrintLast Go.Proofs.Ytgmmfdilfpkbmaa.P Go.Proofs.Ytgmmfdilfpkbmaa.B
set_option linter.unusedVariables false
set_option linter.unusedSimpArgs false
def cz (V nm b r : Int) : Int := if r = 0 then -1 else if nm = 2 then (if r > b then 1 else if V - r > b then -1 else 0) else if r > V - b then 1 else if r < V - b then -1 else 0
abbrev onesL (V : Int) (nums : List Int) (nm b : Int) (n : Nat) : List Nat := (List.range n).filter fun i => decide (cz V nm b (rst V nums i) = 1)
abbrev zerosL (V : Int) (nums : List Int) (nm b : Int) (n : Nat) : List Nat := (List.range n).filter fun i => decide (cz V nm b (rst V nums i) = 0)
def okb (V : Int) (nums : List Int) (nm : Int) (m : Nat) (b : Int) : Prop :=
  (nm = 2 → ∀ i, i < nums.length → ¬ (b < rst V nums i ∧ b < V - rst V nums i)) ∧ (onesL V nums nm b nums.length).length ≤ m ∧ m ≤ (onesL V nums nm b nums.length).length + (zerosL V nums nm b nums.length).length
theorem onesL_succ (V : Int) (nums : List Int) (nm b : Int) (n : Nat) : onesL V nums nm b (n + 1) = if cz V nm b (rst V nums n) = 1 then onesL V nums nm b n ++ [n] else onesL V nums nm b n := by
  unfold onesL
  rw [List.range_succ, List.filter_append]
  by_cases c : cz V nm b (rst V nums n) = 1
  · rw [if_pos c, List.filter_cons_of_pos (by simpa using c)]; rfl
  · rw [if_neg c, List.filter_cons_of_neg (by simpa using c)]; simp
theorem zerosL_succ (V : Int) (nums : List Int) (nm b : Int) (n : Nat) : zerosL V nums nm b (n + 1) = if cz V nm b (rst V nums n) = 0 then zerosL V nums nm b n ++ [n] else zerosL V nums nm b n := by
  unfold zerosL
  rw [List.range_succ, List.filter_append]
  by_cases c : cz V nm b (rst V nums n) = 0
  · rw [if_pos c, List.filter_cons_of_pos (by simpa using c)]; rfl
  · rw [if_neg c, List.filter_cons_of_neg (by simpa using c)]; simp
theorem onesL_le (V : Int) (nums : List Int) (nm b : Int) (n : Nat) : (onesL V nums nm b n).length ≤ n := by
  have := List.length_filter_le (fun i => decide (cz V nm b (rst V nums i) = 1)) (List.range n)
  rwa [List.length_range] at this
theorem zerosL_le (V : Int) (nums : List Int) (nm b : Int) (n : Nat) : (zerosL V nums nm b n).length ≤ n := by
  have := List.length_filter_le (fun i => decide (cz V nm b (rst V nums i) = 0)) (List.range n)
  rwa [List.length_range] at this
theorem onesL_mem {V : Int} {nums : List Int} {nm b : Int} {n i : Nat} : i ∈ onesL V nums nm b n ↔ i < n ∧ cz V nm b (rst V nums i) = 1 := by simp [onesL]
theorem zerosL_mem {V : Int} {nums : List Int} {nm b : Int} {n i : Nat} : i ∈ zerosL V nums nm b n ↔ i < n ∧ cz V nm b (rst V nums i) = 0 := by simp [zerosL]
theorem pick_nodup (V : Int) (nums : List Int) (nm b : Int) (n d : Nat) : (onesL V nums nm b n ++ (zerosL V nums nm b n).drop d).Nodup := by
  rw [List.nodup_append]
  refine ⟨List.nodup_range.filter _, (List.nodup_range.filter _).sublist (List.drop_sublist ..), fun a ha b' hb => ?_⟩
  have h1 := (onesL_mem.1 ha).2
  have h2 := (zerosL_mem.1 (List.mem_of_mem_drop hb)).2
  rintro rfl
  omega
theorem pick_lt {V : Int} {nums : List Int} {nm b : Int} {n d i : Nat} (h : i ∈ onesL V nums nm b n ++ (zerosL V nums nm b n).drop d) : i < n := by
  rcases List.mem_append.1 h with h | h
  · exact (onesL_mem.1 h).1
  · exact (zerosL_mem.1 (List.mem_of_mem_drop h)).1
theorem incs_perm {T T' : List Nat} {out : List Int} (hp : T.Perm T') (hn : T.Nodup) (hb : ∀ q ∈ T, q < out.length) : incs out T = incs out T' := by
  apply List.ext_getElem (by rw [incs_length, incs_length])
  intro i h1 h2
  rw [← rd_nat h1, ← rd_nat h2, incs_rd T out hn hb, incs_rd T' out (hp.nodup_iff.1 hn) (fun q hq => hb q (hp.mem_iff.2 hq))]
  have hm := hp.mem_iff (a := i)
  congr 1
  by_cases c : i ∈ T
  · rw [if_pos c, if_pos (hm.1 c)]
  · rw [if_neg c, if_neg (fun h => c (hm.2 h))]
end Go.Proofs.Ytgmmfdilfpkbmaa.Q
end
