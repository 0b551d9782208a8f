import Derived.Test.YtgmmfdilfpkbmaaXBFnLeastError
import Derived.Test.YtgmmfdilfpkbmaaXP1FnLeastError
import Derived.Test.YtgmmfdilfpkbmaaXP2FnLeastError
import Derived.Test.YtgmmfdilfpkbmaaXP10FnLeastError
import Derived.Test.YtgmmfdilfpkbmaaXP12FnLeastError
import Derived.Test.YtgmmfdilfpkbmaaXP23FnLeastError
import Derived.Test.YtgmmfdilfpkbmaaXP5FnLeastError
import Derived.Test.YtgmmfdilfpkbmaaXP6FnLeastError
import Derived.Test.YtgmmfdilfpkbmaaXP19FnLeastError
import Derived.Test.YtgmmfdilfpkbmaaXP7FnLeastError
import Derived.Test.YtgmmfdilfpkbmaaXP24FnLeastError
import Derived.Test.YtgmmfdilfpkbmaaXP13FnLeastError
import Derived.Test.YtgmmfdilfpkbmaaXP14FnLeastError
import Derived.Test.YtgmmfdilfpkbmaaXP15FnLeastError
section
namespace Go.Proofs.Ytgmmfdilfpkbmaa.Q
open Go.RowKit Go.Proofs.YtgmmfdilfpkbmaaW.PrintWords Go.Proofs.YtgmmfdilfpkbmaaW.PrintLast Go.Proofs.Ytgmmfdilfpkbmaa.P Go.Proofs.Ytgmmfdilfpkbmaa.B
set_option linter.unusedVariables false
set_option linter.unusedSimpArgs false
theorem within_eq (a b c : Int) : impl_within.f a b c = some (decide (b ≤ a ∧ a ≤ c)) := by
  unfold impl_within.f
  by_cases h : b ≤ a <;> simp [h]
theorem floor_eq {a b : Int} (hb : 1 ≤ b) (h1 : -4611686018427387904 ≤ a) (h2 : a ≤ 4611686018427387904) : impl_floor.f a b = some (a / b) := by
  have hd := ediv_bounds (a := a) hb (by omega) h1 h2
  have hm := Int.emod_nonneg a (show b ≠ 0 by omega)
  have hl := Int.emod_lt_of_pos a (show 0 < b by omega)
  unfold impl_floor.f
  rw [if_neg (by omega), tdiv_pos hb, tmod_pos hb]
  by_cases c : 0 ≤ a ∨ b ∣ a
  · simp only [if_pos c]
    rw [if_neg (by omega), w64 (by omega) (by omega)]
    congr 1; omega
  · simp only [if_neg c]
    rw [if_pos (by omega), w64 (x := a / b + 1) (by omega) (by omega), w64 (by omega) (by omega)]
    congr 1; omega
theorem l01Floor_eq {a b : Int} (hb : 1 ≤ b) (h1 : -1000000000000000 ≤ a) (h2 : a ≤ 1000000000000000) (hb2 : b ≤ 1000000000000000) : spec_l01Floor.f a b = some (a / b) := by
  have hd := ediv_bounds (a := a) hb (M := 1000000000000000) (by omega) h1 h2
  have hq := ediv_mul_le (a := a) hb
  have hm := Int.emod_nonneg a (show b ≠ 0 by omega)
  have he := Int.emod_add_mul_ediv a b
  rw [Int.mul_comm] at he
  unfold spec_l01Floor.f
  rw [if_neg (by omega), tdiv_pos hb]
  by_cases c : 0 ≤ a ∨ b ∣ a
  · simp only [if_pos c, Int.add_zero]
    rw [w64 (x := a / b) (by omega) (by omega), w64 (x := a / b * b) (by omega) (by omega), if_neg (by omega)]
  · simp only [if_neg c]
    have hm0 : a % b ≠ 0 := fun e => c (.inr (Int.dvd_of_emod_eq_zero e))
    rw [w64 (x := a / b + 1) (by omega) (by omega), Int.add_mul, Int.one_mul, w64 (x := a / b * b + b) (by omega) (by omega), if_pos (by omega), w64 (by omega) (by omega)]
    congr 1; omega
theorem ceiling_eq {a b : Int} (hb : 1 ≤ b) (h1 : -4611686018427387904 ≤ a) (h2 : a ≤ 4611686018427387904) : impl_ceiling.f a b = some (cl a b) := by
  have hd := ediv_bounds (a := -a) hb (M := 4611686018427387904) (by omega) (by omega) (by omega)
  unfold impl_ceiling.f
  rw [w64 (by omega) (by omega), floor_eq hb (by omega) (by omega)]
  simp only [Option.bind_some]
  rw [w64 (by omega) (by omega)]; rfl
theorem l01Ceil_eq {a b : Int} (hb : 1 ≤ b) (h1 : -1000000000000000 ≤ a) (h2 : a ≤ 1000000000000000) (hb2 : b ≤ 1000000000000000) : spec_l01Ceil.f a b = some (cl a b) := by
  have hd := ediv_bounds (a := -a) hb (M := 1000000000000000) (by omega) (by omega) (by omega)
  unfold spec_l01Ceil.f
  rw [w64 (by omega) (by omega), l01Floor_eq hb (by omega) (by omega) hb2]
  simp only [Option.bind_some]
  rw [w64 (by omega) (by omega)]; rfl
theorem sign_cases' (x : Int) : (x < 0 ∧ x.sign = -1) ∨ (x = 0 ∧ x.sign = 0) ∨ (0 < x ∧ x.sign = 1) := by
  rcases Int.lt_trichotomy x 0 with h | h | h
  · exact .inl ⟨h, Int.sign_eq_neg_one_of_neg h⟩
  · exact .inr (.inl ⟨h, by rw [h]; rfl⟩)
  · exact .inr (.inr ⟨h, Int.sign_eq_one_of_pos h⟩)
theorem compare_eq (a b : Int) : impl_compare.f a b = some (a - b).sign := by
  unfold impl_compare.f
  split
  · rw [Int.sign_eq_neg_one_of_neg (by omega)]
  · split
    · rw [Int.sign_eq_one_of_pos (by omega)]
    · have : a - b = 0 := by omega
      rw [this]; rfl
def allIn (l : List Int) (a b : Int) : Bool := l.all fun x => decide (a ≤ x ∧ x ≤ b)
theorem allIn_iff {l : List Int} {a b : Int} : allIn l a b = true ↔ ∀ x ∈ l, a ≤ x ∧ x ≤ b := by simp [allIn]
theorem indexFunc_eq {l : List Int} (hl : l.length ≤ 4611686018427387904) (a b : Int) (k : Nat) (hk : l.length < k) : Zbc.f k l a b = some (!allIn l a b) := by
  have h : ∀ d n k, l.length - n = d → n ≤ l.length → d < k → ∃ r, Zaw.l0 k l (l.length : Int) (n : Int) a b = some r ∧ decide (r ≥ 0) = !allIn (l.drop n) a b := by
    intro d
    induction d with
    | zero =>
      intro n k hd hn hk
      obtain ⟨k, rfl, _⟩ := Zbb hk
      obtain rfl : n = l.length := by omega
      refine ⟨-1, ?_, by simp [allIn]⟩
      simp only [Zaw.l0]
      rw [if_neg (by omega)]
    | succ d ih =>
      intro n k hd hn hk
      obtain ⟨k, rfl, hk'⟩ := Zbb hk
      have h : n < l.length := by omega
      simp only [Zaw.l0, impl_areWithin_1_v.f]
      rw [if_pos (by omega), if_pos (by omega), if_pos (by omega), within_eq, rd_nat h, wrap_nat (by omega)]
      simp only [Option.bind_some]
      by_cases c : a ≤ l[n] ∧ l[n] ≤ b
      · obtain ⟨r, h1, h2⟩ := ih (n + 1) k (by omega) (by omega) (by omega)
        refine ⟨r, ?_, ?_⟩
        · simp only [c, and_self, decide_true, Bool.not_true]
          exact h1
        · rw [h2, List.drop_eq_getElem_cons h]
          simp only [allIn, List.all_cons, c, and_self, decide_true, Bool.true_and]
      · refine ⟨n, by simp [c], ?_⟩
        rw [List.drop_eq_getElem_cons h]
        simp only [allIn, List.all_cons, c, decide_false, Bool.false_and, Bool.not_false, decide_eq_true_eq]
        omega
  obtain ⟨r, h1, h2⟩ := h l.length 0 k (by omega) (by omega) hk
  unfold Zbc.f Zaw.f
  rw [show Zaw.l0 k l (l.length : Int) 0 a b = some r from h1]
  simp only [Option.bind_some]
  rw [h2, List.drop_zero]
theorem areWithin_eq {l : List Int} (hl : l.length ≤ 4611686018427387904) (a b : Int) {k : Nat} (hk : l.length < k) : impl_areWithin.f k l a b = some (allIn l a b) := by
  unfold impl_areWithin.f
  rw [indexFunc_eq hl a b k hk]
  simp
theorem sum_run (D : Int → Option Int) : ∀ (l : List Int) (s M : Int), (∀ x ∈ l, -M ≤ x ∧ x ≤ M) → 0 ≤ M → -9223372036854775808 ≤ s - l.length * M → s + l.length * M ≤ 9223372036854775807 →
    runL (fun x s => .inl (wrap64 (s + x))) D l s = D (s + l.sum)
  | [], s, M, _, _, _, _ => by simp [runL]
  | x :: xs, s, M, h, hM, h1, h2 => by
    have h3 := h x (List.mem_cons_self ..)
    rw [List.length_cons, Int.natCast_add, Int.add_mul] at h1 h2
    have h4 : 0 ≤ (xs.length : Int) * M := Int.mul_nonneg (by omega) hM
    simp only [runL]
    rw [w64 (by omega) (by omega), sum_run D xs (s + x) M (fun y hy => h y (List.mem_cons_of_mem _ hy)) hM (by omega) (by omega), List.sum_cons]
    congr 1; omega
theorem sum_eq {l : List Int} (hl : l.length ≤ 1000000) (h : ∀ x ∈ l, -1000000000000 ≤ x ∧ x ≤ 1000000000000) {k : Nat} (hk : l.length < k) : impl_sum.f k l = some l.sum := by
  have h1 := loopL0 (l := l) (F := fun k i s => impl_sum.l0 k s l (l.length : Int) i) (S := fun x s => .inl (wrap64 (s + x))) (D := fun s => some s) (by omega)
    (fun k s => by simp only [impl_sum.l0]; rw [if_neg (by omega)])
    (fun k n hn s => by
      simp only [impl_sum.l0]
      rw [if_pos (by omega), if_pos (by omega), if_pos (by omega), rd_nat hn, wrap_nat (by omega)]) k hk 0
  unfold impl_sum.f
  rw [h1, sum_run _ l 0 1000000000000 h (by omega) (by omega) (by omega)]
  simp
end Go.Proofs.Ytgmmfdilfpkbmaa.Q
end
section
namespace Go.Proofs.Ytgmmfdilfpkbmaa.Q
open Go.RowKit Go.Proofs.YtgmmfdilfpkbmaaW.PrintWords Go.Proofs.YtgmmfdilfpkbmaaW.PrintLast Go.Proofs.Ytgmmfdilfpkbmaa.P Go.Proofs.Ytgmmfdilfpkbmaa.B
set_option linter.unusedVariables false
set_option linter.unusedSimpArgs false
def vv (den : Int) (l : List Int) : Bool := decide (1 ≤ den ∧ den ≤ 1000) && decide (l.length ≤ 40) && allIn l (-1000000) 1000000
theorem vv_iff {den : Int} {l : List Int} : vv den l = true ↔ (1 ≤ den ∧ den ≤ 1000) ∧ l.length ≤ 40 ∧ ∀ x ∈ l, -1000000 ≤ x ∧ x ≤ 1000000 := by
  simp only [vv, Bool.and_eq_true, decide_eq_true_eq, allIn_iff, and_assoc]
theorem validValues_eq {l : List Int} (hl : l.length ≤ 4611686018427387904) (den : Int) {k : Nat} (hk : l.length < k) : impl_ValidValues.f k den l = some (vv den l) := by
  unfold impl_ValidValues.f
  rw [within_eq, areWithin_eq hl _ _ hk]
  simp only [Option.bind_some, vv]
  by_cases c : 1 ≤ den ∧ den ≤ 1000
  · by_cases c2 : l.length ≤ 40
    · have c3 : (l.length : Int) ≤ 40 := by omega
      simp [c, c2, c3]
    · have c3 : ¬ (l.length : Int) ≤ 40 := by omega
      simp [c, c2, c3]
  · simp [c]
end Go.Proofs.Ytgmmfdilfpkbmaa.Q
end
section
namespace Go.Proofs.Ytgmmfdilfpkbmaa.Q
open Go.RowKit Go.Proofs.YtgmmfdilfpkbmaaW.PrintWords Go.Proofs.YtgmmfdilfpkbmaaW.PrintLast Go.Proofs.Ytgmmfdilfpkbmaa.P Go.Proofs.Ytgmmfdilfpkbmaa.B
set_option linter.unusedVariables false
set_option linter.unusedSimpArgs false
def ap {α ρ : Type} (f : α → Int) (x : α) (acc : List Int) : List Int ⊕ Option ρ := if acc.length < 17592186044416 then .inl (acc ++ [f x]) else .inr none
theorem ap_run {α ρ : Type} (f : α → Int) (D : List Int → Option ρ) : ∀ (l : List α) (acc : List Int), acc.length + l.length ≤ 17592186044416 → runL (ap f) D l acc = D (acc ++ l.map f)
  | [], acc, _ => by simp [runL]
  | x :: xs, acc, h => by
    rw [List.length_cons] at h
    simp only [runL, ap]
    rw [if_pos (by omega)]
    simp only
    rw [ap_run f D xs _ (by simp; omega)]
    simp
end Go.Proofs.Ytgmmfdilfpkbmaa.Q
end
section
namespace Go.Proofs.Ytgmmfdilfpkbmaa.Q
open Go.RowKit Go.Proofs.YtgmmfdilfpkbmaaW.PrintWords Go.Proofs.YtgmmfdilfpkbmaaW.PrintLast Go.Proofs.Ytgmmfdilfpkbmaa.P Go.Proofs.Ytgmmfdilfpkbmaa.B
set_option linter.unusedVariables false
set_option linter.unusedSimpArgs false
def gr : Int → List Int → Int
  | s, [] => s
  | s, x :: xs => gr (max s (x.natAbs : Int)) xs
theorem gr_run (D : Int → Option Int) : ∀ (l : List Int) (s : Int), runL (fun x s => .inl (max s (x.natAbs : Int))) D l s = D (gr s l)
  | [], s => rfl
  | x :: xs, s => by simp only [runL, gr]; exact gr_run D xs _
theorem mx_eq (a b : Int) : mx a b = max a b := by unfold mx; omega
theorem greatest_eq {l : List Int} (hl : l.length ≤ 4611686018427387904) (h : ∀ x ∈ l, -4611686018427387904 ≤ x ∧ x ≤ 4611686018427387904) {k : Nat} (hk : l.length < k) : impl_greatest.f k l = some (gr 0 l) := by
  have h1 := loopL0 (l := l) (F := fun k i s => impl_greatest.l0 k s l (l.length : Int) i) (S := fun x s => .inl (max s (x.natAbs : Int))) (D := fun s => some s) hl
    (fun k s => by simp only [impl_greatest.l0]; rw [if_neg (by omega)])
    (fun k n hn s => by
      have hx := h _ (List.getElem_mem hn)
      simp only [impl_greatest.l0]
      rw [if_pos (by omega), if_pos (by omega), if_pos (by omega), rd_nat hn, wrap_nat (by omega), w64 (by omega) (by omega), mx_eq, mx_eq, show max (max s l[n]) (-l[n]) = max s (l[n].natAbs : Int) by omega]) k hk 0
  unfold impl_greatest.f
  rw [h1, gr_run]
end Go.Proofs.Ytgmmfdilfpkbmaa.Q
end
section
namespace Go.Proofs.Ytgmmfdilfpkbmaa.Q
open Go.RowKit Go.Proofs.YtgmmfdilfpkbmaaW.PrintWords Go.Proofs.YtgmmfdilfpkbmaaW.PrintLast Go.Proofs.Ytgmmfdilfpkbmaa.P Go.Proofs.Ytgmmfdilfpkbmaa.B
set_option linter.unusedVariables false
set_option linter.unusedSimpArgs false
theorem r8Sum_eq {l : List Int} (hl : l.length ≤ 1000000) (h : ∀ x ∈ l, -1000000000000 ≤ x ∧ x ≤ 1000000000000) {k : Nat} (hk : l.length < k) : laws_r8Sum.f k l = some l.sum := by
  have h1 := loopL0 (l := l) (F := fun k i s => laws_r8Sum.l0 k l s i) (S := fun x s => .inl (wrap64 (s + x))) (D := fun s => some s) (by omega)
    (fun k s => by simp only [laws_r8Sum.l0]; rw [if_neg (by omega)])
    (fun k n hn s => by
      simp only [laws_r8Sum.l0]
      rw [if_pos (by omega), if_pos (by omega), rd_nat hn, wrap_nat (by omega)]) k hk 0
  unfold laws_r8Sum.f
  rw [h1, sum_run _ l 0 1000000000000 h (by omega) (by omega) (by omega)]
  simp
def okd (den : Int) (l : List Int) : Prop := 1 ≤ den ∧ den ≤ 1000000000 ∧ l.length ≤ 1000000 ∧ ∀ x ∈ l, -100000000000 ≤ x ∧ x ≤ 100000000000
theorem okd_vv {den : Int} {l : List Int} (h : vv den l = true) : okd den l := by
  have h := vv_iff.1 h
  exact ⟨h.1.1, by omega, by omega, fun x hx => by have := h.2.2 x hx; omega⟩
theorem okd.get {den : Int} {l : List Int} (h : okd den l) {n : Nat} (hn : n < l.length) : -100000000000 ≤ l[n] ∧ l[n] ≤ 100000000000 := h.2.2.2 _ (List.getElem_mem hn)
def fls (den : Int) (l : List Int) : List Int := l.map (· / den)
def cls (den : Int) (l : List Int) : List Int := l.map (cl · den)
theorem fls_in {den : Int} {l : List Int} (h : okd den l) : ∀ x ∈ fls den l, -100000000000 ≤ x ∧ x ≤ 100000000000 := by
  intro x hx
  simp only [fls, List.mem_map] at hx
  obtain ⟨y, hy, rfl⟩ := hx
  have := h.2.2.2 y hy
  exact ediv_bounds h.1 (by omega) this.1 this.2
theorem cls_in {den : Int} {l : List Int} (h : okd den l) : ∀ x ∈ cls den l, -100000000000 ≤ x ∧ x ≤ 100000000000 := by
  intro x hx
  simp only [cls, List.mem_map] at hx
  obtain ⟨y, hy, rfl⟩ := hx
  have := h.2.2.2 y hy
  exact cl_bounds h.1 (by omega) this.1 this.2
theorem fls_length (den : Int) (l : List Int) : (fls den l).length = l.length := List.length_map ..
theorem cls_length (den : Int) (l : List Int) : (cls den l).length = l.length := List.length_map ..
theorem floors_eq {den : Int} {l : List Int} (h : okd den l) {k : Nat} (hk : l.length < k) : Zbd.f k den l = some (fls den l) := by
  have hl := h.2.2.1
  have h1 := loopL0 (l := l) (F := fun k i acc => Za1.l0 k acc l (l.length : Int) i den l) (S := ap (· / den)) (D := fun s => some s) (by omega)
    (fun k s => by simp only [Za1.l0]; rw [if_neg (by omega)])
    (fun k n hn s => by
      have hx := h.get hn
      simp only [Za1.l0, impl_Values_floors_1_v.f]
      rw [if_pos (by omega), if_pos (by omega), if_pos (by omega), rd_nat hn, wrap_nat (by omega), floor_eq h.1 (by omega) (by omega)]
      simp only [Option.bind_some, ap]
      split <;> rfl) k hk []
  unfold Zbd.f Za1.f
  rw [h1, ap_run _ _ _ _ (by simp; omega)]
  rfl
theorem ceilings_eq {den : Int} {l : List Int} (h : okd den l) {k : Nat} (hk : l.length < k) : impl_Values_ceilings.f k den l = some (cls den l) := by
  have hl := h.2.2.1
  have h1 := loopL0 (l := l) (F := fun k i acc => Zay.l0 k acc l (l.length : Int) i den l) (S := ap (cl · den)) (D := fun s => some s) (by omega)
    (fun k s => by simp only [Zay.l0]; rw [if_neg (by omega)])
    (fun k n hn s => by
      have hx := h.get hn
      simp only [Zay.l0, impl_Values_ceilings_1_v.f]
      rw [if_pos (by omega), if_pos (by omega), if_pos (by omega), rd_nat hn, wrap_nat (by omega), ceiling_eq h.1 (by omega) (by omega)]
      simp only [Option.bind_some, ap]
      split <;> rfl) k hk []
  unfold impl_Values_ceilings.f Zay.f
  rw [h1, ap_run _ _ _ _ (by simp; omega)]
  rfl
def ps : Int → List Int → List Int
  | _, [] => []
  | s, x :: xs => (s + x) :: ps (s + x) xs
def rs {ρ : Type} (x : Int) (s : List Int × Int) : (List Int × Int) ⊕ Option ρ := if s.1.length < 17592186044416 then .inl (s.1 ++ [wrap64 (s.2 + x)], wrap64 (s.2 + x)) else .inr none
def ers (den : Int) (nums list : List Int) : List Int := (list.zip nums).map fun p => den * p.1 - p.2
theorem ers_length {den : Int} {nums list : List Int} (h : list.length = nums.length) : (ers den nums list).length = nums.length := by simp [ers, h]
theorem mul_in {a b A B : Int} (ha : 0 ≤ a ∧ a ≤ A) (hb : -B ≤ b ∧ b ≤ B) (hB : 0 ≤ B) : -(A * B) ≤ a * b ∧ a * b ≤ A * B := by
  have x1 := Int.mul_le_mul_of_nonneg_left hb.1 ha.1
  have x2 := Int.mul_le_mul_of_nonneg_left hb.2 ha.1
  have x3 := Int.mul_le_mul_of_nonneg_right ha.2 hB
  rw [Int.mul_neg] at x1
  omega
def oke (den : Int) (nums list : List Int) : Prop := (0 ≤ den ∧ den ≤ 1000) ∧ nums.length ≤ 1000 ∧ list.length = nums.length ∧ (∀ x ∈ nums, -1000000 ≤ x ∧ x ≤ 1000000) ∧ ∀ x ∈ list, -1000000000 ≤ x ∧ x ≤ 1000000000
theorem oke_of {den : Int} {nums list : List Int} (h : vv den nums = true) (hl : list.length = nums.length) (h2 : ∀ x ∈ list, -1000000000 ≤ x ∧ x ≤ 1000000000) : oke den nums list := by
  have h := vv_iff.1 h
  exact ⟨by omega, by omega, hl, h.2.2, h2⟩
theorem oke.wrap {den : Int} {nums list : List Int} (h : oke den nums list) {n : Nat} (hn : n < (list.zip nums).length) : wrap64 (wrap64 (den * (list.zip nums)[n].1) - (list.zip nums)[n].2) = den * (list.zip nums)[n].1 - (list.zip nums)[n].2 ∧ -1000001000000 ≤ den * (list.zip nums)[n].1 - (list.zip nums)[n].2 ∧ den * (list.zip nums)[n].1 - (list.zip nums)[n].2 ≤ 1000001000000 := by
  have hm : (list.zip nums)[n] ∈ list.zip nums := List.getElem_mem hn
  generalize (list.zip nums)[n] = p at hm ⊢
  obtain ⟨a, b⟩ := p
  have h1 := h.2.2.2.2 a (List.of_mem_zip hm).1
  have h2 := h.2.2.2.1 b (List.of_mem_zip hm).2
  have h3 := mul_in h.1 h1 (by omega)
  simp only
  rw [w64 (x := den * a) (by omega) (by omega), w64 (by omega) (by omega)]
  omega
theorem zip_get1 {l m : List Int} {n : Nat} (hn : n < (l.zip m).length) : ∃ (h1 : n < l.length) (h2 : n < m.length), (l.zip m)[n].1 = l[n] ∧ (l.zip m)[n].2 = m[n] := by
  have h := hn
  rw [List.length_zip] at h
  exact ⟨by omega, by omega, by rw [List.getElem_zip], by rw [List.getElem_zip]⟩
theorem errors_eq {den : Int} {nums list : List Int} (h : oke den nums list) {k : Nat} (hk : nums.length < k) : Za5.f k den nums list = some (ers den nums list) := by
  have hz : (list.zip nums).length = nums.length := by rw [List.length_zip, h.2.2.1]; omega
  have hz2 := h.2.2.1
  have hl := h.2.1
  have h1 := loopL0 (l := list.zip nums) (F := fun k i acc => Za5.l0 k acc list (list.length : Int) i den nums) (S := ap fun p => den * p.1 - p.2) (D := fun s => some s) (by omega)
    (fun k s => by simp only [Za5.l0]; rw [if_neg (by omega)])
    (fun k n hn s => by
      obtain ⟨g1, g2, e1, e2⟩ := zip_get1 hn
      have hw := (h.wrap hn).1
      rw [e1, e2] at hw
      simp only [Za5.l0, ap]
      rw [if_pos (by omega), if_pos (by omega), if_pos (by omega), if_pos (by omega), rd_nat g1, rd_nat g2, wrap_nat (by omega), hw, e1, e2]
      split <;> rfl) k (by omega) []
  unfold Za5.f
  rw [h1, ap_run _ _ _ _ (by simp; omega)]
  rfl
end Go.Proofs.Ytgmmfdilfpkbmaa.Q
end
section
namespace Go.Proofs.Ytgmmfdilfpkbmaa.Q
open Go.RowKit Go.Proofs.YtgmmfdilfpkbmaaW.PrintWords Go.Proofs.YtgmmfdilfpkbmaaW.PrintLast Go.Proofs.Ytgmmfdilfpkbmaa.P Go.Proofs.Ytgmmfdilfpkbmaa.B
set_option linter.unusedVariables false
set_option linter.unusedSimpArgs false
def vt (l : List Int) : Bool := decide (1 ≤ l.length ∧ l.length ≤ 12) && (allIn l 0 1000000 && decide (0 < l.sum))
end Go.Proofs.Ytgmmfdilfpkbmaa.Q
end
section
namespace Go.Proofs.Ytgmmfdilfpkbmaa.Q
open Go.RowKit Go.Proofs.YtgmmfdilfpkbmaaW.PrintWords Go.Proofs.YtgmmfdilfpkbmaaW.PrintLast Go.Proofs.Ytgmmfdilfpkbmaa.P Go.Proofs.Ytgmmfdilfpkbmaa.B
set_option linter.unusedVariables false
set_option linter.unusedSimpArgs false
abbrev i64 (a : Int) : Prop := -9223372036854775808 ≤ a ∧ a ≤ 9223372036854775807
theorem okd_sum {den : Int} {l : List Int} (h : okd den l) : (fls den l).length ≤ 1000000 ∧ (cls den l).length ≤ 1000000 ∧ (∀ x ∈ fls den l, -1000000000000 ≤ x ∧ x ≤ 1000000000000) ∧ (∀ x ∈ cls den l, -1000000000000 ≤ x ∧ x ≤ 1000000000000) :=
  ⟨by rw [fls_length]; exact h.2.2.1, by rw [cls_length]; exact h.2.2.1, fun x hx => by have := fls_in h x hx; omega, fun x hx => by have := cls_in h x hx; omega⟩
theorem rd_set {a : List Int} {b : Nat} (hb : b < a.length) (x : Int) (i : Nat) : rd (a.set b x) (i : Int) = if i = b then x else rd a i := by
  by_cases hi : i < a.length
  · rw [rd_nat (by simpa using hi), List.getElem_set]
    by_cases h : i = b
    · rw [if_pos h.symm, if_pos h]
    · rw [if_neg (fun h' => h h'.symm), if_neg h, rd_nat hi]
  · have h : i ≠ b := by omega
    rw [if_neg h]
    unfold rd
    simp only [Int.toNat_natCast]
    rw [List.getD_eq_getElem?_getD, List.getD_eq_getElem?_getD, List.getElem?_eq_none (by simp; omega), List.getElem?_eq_none (by omega)]
theorem sum_set : ∀ {a : List Int} {b : Nat} (hb : b < a.length) (x : Int), (a.set b x).sum = a.sum - a[b] + x
  | y :: ys, 0, _, x => by simp; omega
  | y :: ys, b + 1, h, x => by
    simp only [List.set_cons_succ, List.sum_cons, List.getElem_cons_succ]
    rw [sum_set (by simpa using h)]
    omega
theorem take_snoc {l : List Int} {n : Nat} (h : n < l.length) : l.take (n + 1) = l.take n ++ [l[n]] := by
  rw [List.take_add_one, List.getElem?_eq_getElem h, Option.toList_some]
theorem first_bad {α : Type} {l : List α} {p : α → Bool} (h : ¬ l.all p = true) : ∃ j, ∃ h : j < l.length, p l[j] = false := by
  apply Classical.byContradiction; intro hc
  refine h (List.all_eq_true.2 fun x hx => ?_)
  obtain ⟨j, hj, rfl⟩ := List.getElem_of_mem hx
  cases hp : p l[j]
  · exact absurd ⟨j, hj, hp⟩ hc
  · rfl
theorem loopAll {α ρ : Type} {l : List α} {m : Nat} (hm : l.length = m) {F : Nat → Int → Option ρ} (p : α → Bool) (T E : Option ρ)
    (hD : ∀ k, F (k + 1) (m : Int) = T)
    (hS : ∀ k (n : Nat) (h : n < l.length), F (k + 1) (n : Int) = if p l[n] = true then F k ((n + 1 : Nat) : Int) else E)
    {k : Nat} (hk : m < k) : F k 0 = if l.all p = true then T else E := by
  subst hm
  by_cases h : l.all p = true
  · rw [if_pos h]
    exact loopI0 (m := l.length) (F := fun k i (_ : Unit) => F k i) (fun _ _ => True) (fun r => r = T) (fun k s _ => hD k)
      (fun k n s hn _ => .inl ⟨(), trivial, by rw [hS k n hn, if_pos (List.all_eq_true.1 h _ (List.getElem_mem hn))]⟩) hk (s := ()) trivial
  · rw [if_neg h]
    obtain ⟨j, hj, hx⟩ := first_bad h
    refine loopI0 (m := l.length) (F := fun k i (_ : Unit) => F k i) (fun n _ => n ≤ j) (fun r => r = E) (fun k s hi => by omega) ?_ hk (s := ()) (by omega)
    intro k n s hn hi
    rw [hS k n hn]
    by_cases hb : p l[n] = true
    · refine .inl ⟨(), ?_, by rw [if_pos hb]⟩
      rcases Nat.lt_or_ge n j with h | h
      · omega
      · obtain rfl : n = j := by omega
        rw [hx] at hb; exact absurd hb (by simp)
    · exact .inr (by rw [if_neg hb])
def rnd (den : Int) (l list : List Int) : Bool := (list.zip l).all fun p => decide (p.1 = p.2 / den) || decide (p.1 = cl p.2 den)
def SumBounds_res (den : Int) (l : List Int) : Int × Int × Bool := if vv den l = true then ((fls den l).sum, (cls den l).sum, true) else (0, 0, false)
theorem SumBounds_impl {den : Int} {l : List Int} (_ : i64 den) (_ : ∀ x ∈ l, i64 x) (hl : l.length ≤ 1048576) {k : Nat} (hk : l.length + 200 < k) : impl_SumBounds.f k den l = some (SumBounds_res den l) := by
  unfold impl_SumBounds.f SumBounds_res
  rw [validValues_eq (by omega) den (by omega), Option.bind_some]
  by_cases h : vv den l = true
  · have o := okd_sum (okd_vv h)
    rw [if_pos h, if_pos h, floors_eq (okd_vv h) (by omega), Option.bind_some, sum_eq o.1 o.2.2.1 (by rw [fls_length]; omega), Option.bind_some, ceilings_eq (okd_vv h) (by omega), Option.bind_some, sum_eq o.2.1 o.2.2.2 (by rw [cls_length]; omega)]; rfl
  · rw [if_neg h, if_neg h]
def IsRounding_res (den : Int) (l list : List Int) : Bool := vv den l && (decide (list.length = l.length) && rnd den l list)
theorem IsRounding_impl {den : Int} {l list : List Int} (_ : i64 den) (_ : ∀ x ∈ l, i64 x) (_ : ∀ x ∈ list, i64 x) (hl : l.length ≤ 1048576) (hl2 : list.length ≤ 1048576) {k : Nat} (hk : l.length + list.length + 200 < k) : Za2.f k den l list = some (IsRounding_res den l list) := by
  obtain ⟨k, rfl, _⟩ := Zbb hk
  unfold Za2.f IsRounding_res
  rw [validValues_eq (by omega) den (by omega), Option.bind_some]
  by_cases h : vv den l = true
  · rw [if_pos h, h, Bool.true_and]
    simp only [Za2.j0]
    by_cases h2 : list.length = l.length
    · have hz : (list.zip l).length = l.length := by rw [List.length_zip]; omega
      have hf := fls_length den l
      have hc := cls_length den l
      rw [if_neg (by simp [h2]), floors_eq (okd_vv h) (by omega), Option.bind_some, ceilings_eq (okd_vv h) (by omega), Option.bind_some, decide_eq_true h2, Bool.true_and,
       h2, loopAll hz (F := fun k i => Za2.l0 k (fls den l) (cls den l) list (l.length : Int) i) (fun p => decide (p.1 = p.2 / den) || decide (p.1 = cl p.2 den)) (some true) (some false) (fun k => by simp only [Za2.l0]; rw [if_neg (by omega)])
        (fun k n hn => by
          obtain ⟨g1, g2, e1, e2⟩ := zip_get1 hn
          have g3 : n < (fls den l).length := by omega
          have g4 : n < (cls den l).length := by omega
          have hf2 : (fls den l)[n] = l[n] / den := by simp [fls]
          have hc2 : (cls den l)[n] = cl l[n] den := by simp [cls]
          simp only [Za2.l0]
          rw [if_pos (by omega), if_pos (by omega), if_pos (by omega), if_pos (by omega), rd_nat g1, rd_nat g3, hf2, wrap_nat (by omega), e1, e2]
          by_cases c1 : list[n] = l[n] / den
          · rw [if_pos c1, if_pos (by simp [c1])]
          · rw [if_neg c1, if_pos (by omega), rd_nat g4, hc2]
            by_cases c2 : list[n] = cl l[n] den
            · rw [if_pos c2, if_pos (by simp [c2])]
            · rw [if_neg c2, if_neg (by simp [c1, c2])]) (by omega)]
      unfold rnd
      split
      · rename_i h; rw [h]
      · rename_i h; simp only [Bool.not_eq_true] at h; rw [h]
    · rw [if_pos (by simp only [bne_iff_ne]; omega), decide_eq_false h2]; rfl
  · rw [if_neg h]
    simp only [Za2.j0]
    rw [if_pos trivial]; simp only [Bool.not_eq_true] at h; rw [h]; rfl
end Go.Proofs.Ytgmmfdilfpkbmaa.Q
end
section
namespace Go.Proofs.Ytgmmfdilfpkbmaa.Q
open Go.RowKit Go.Proofs.YtgmmfdilfpkbmaaW.PrintWords Go.Proofs.YtgmmfdilfpkbmaaW.PrintLast Go.Proofs.Ytgmmfdilfpkbmaa.P Go.Proofs.Ytgmmfdilfpkbmaa.B
set_option linter.unusedVariables false
set_option linter.unusedSimpArgs false
theorem rnd_get {den : Int} {l list : List Int} (hd : 1 ≤ den) (hl : list.length = l.length) (h : rnd den l list = true) : ∀ e ∈ ers den l list, -den < e ∧ e < den := by
  intro e he
  simp only [ers, List.mem_map] at he
  obtain ⟨⟨a, b⟩, hp, rfl⟩ := he
  have h1 := List.all_eq_true.1 h (a, b) hp
  simp only [Bool.or_eq_true, decide_eq_true_eq] at h1
  have h2 := ediv_mul_le (a := b) hd
  have h3 := cl_mul (a := b) hd
  simp only
  rw [Int.mul_comm]
  rcases h1 with rfl | rfl <;> omega
theorem rnd_in {den : Int} {l list : List Int} (h : okd den l) (hl : list.length = l.length) (hr : rnd den l list = true) {M : Int} (hM : 0 ≤ M) (hb : ∀ x ∈ l, -M ≤ x ∧ x ≤ M) : ∀ x ∈ list, -M ≤ x ∧ x ≤ M := by
  intro x hx
  obtain ⟨n, hn, rfl⟩ := List.getElem_of_mem hx
  have hz : n < (list.zip l).length := by rw [List.length_zip]; omega
  have h1 := List.all_eq_true.1 hr _ (List.getElem_mem hz)
  obtain ⟨g1, g2, e1, e2⟩ := zip_get1 hz
  rw [e1, e2] at h1
  simp only [Bool.or_eq_true, decide_eq_true_eq] at h1
  have h2 := hb _ (List.getElem_mem g2)
  rcases h1 with h1 | h1 <;> rw [h1]
  · exact ediv_bounds h.1 hM h2.1 h2.2
  · exact cl_bounds h.1 hM h2.1 h2.2
theorem rnd_oke {den : Int} {l list : List Int} (h : vv den l = true) (hl : list.length = l.length) (hr : rnd den l list = true) : oke den l list :=
  oke_of h hl fun x hx => by have := rnd_in (okd_vv h) hl hr (M := 1000000) (by omega) (vv_iff.1 h).2.2 x hx; omega
theorem IsRounding_iff {den : Int} {l list : List Int} : IsRounding_res den l list = true ↔ vv den l = true ∧ list.length = l.length ∧ rnd den l list = true := by
  simp only [IsRounding_res, Bool.and_eq_true, decide_eq_true_eq]
def nf (a : Int) (s e : Int) : Int := if a = 0 then s + (e.natAbs : Int) else if a = 1 then s + e * e else max s (e.natAbs : Int)
def nrm (a : Int) (es : List Int) : Int := es.foldl (nf a) 0
theorem nrm_succ (a : Int) {es : List Int} {n : Nat} (h : n < es.length) : nrm a (es.take (n + 1)) = nf a (nrm a (es.take n)) es[n] := by
  unfold nrm
  rw [take_snoc h, List.foldl_append]; rfl
theorem nf_in {a s e M : Int} (hs : 0 ≤ s ∧ s ≤ M) (he : -1000 ≤ e ∧ e ≤ 1000) : 0 ≤ nf a s e ∧ nf a s e ≤ M + 1000000 := by
  unfold nf
  have h1 : 0 ≤ e * e := by rcases Int.le_total 0 e with h | h; exact Int.mul_nonneg h h; exact Int.mul_nonneg_of_nonpos_of_nonpos h h
  have h2 : e * e ≤ 1000 * 1000 := by
    rcases Int.le_total 0 e with h | h
    · exact Int.mul_le_mul he.2 he.2 h (by omega)
    · have := Int.mul_le_mul (a := -e) (b := -e) (c := 1000) (d := 1000) (by omega) (by omega) (by omega) (by omega)
      rwa [Int.neg_mul_neg] at this
  split
  · omega
  · split <;> omega
theorem nrm_in {a : Int} {es : List Int} (h : ∀ e ∈ es, -1000 ≤ e ∧ e ≤ 1000) : ∀ n, n ≤ es.length → 0 ≤ nrm a (es.take n) ∧ nrm a (es.take n) ≤ n * 1000000
  | 0, _ => by simp [nrm]
  | n + 1, hn => by
    have h1 := nrm_in (a := a) h n (by omega)
    rw [nrm_succ a (by omega)]
    have h2 := nf_in (a := a) h1 (h _ (List.getElem_mem (show n < es.length by omega)))
    omega
theorem gr_nrm : ∀ (es : List Int) (s : Int), gr s es = es.foldl (nf 2) s
  | [], _ => rfl
  | e :: es, s => by
    simp only [gr, List.foldl_cons]
    rw [gr_nrm es]
    rfl
theorem mx_abs {e : Int} (h : -4611686018427387904 ≤ e ∧ e ≤ 4611686018427387904) : mx e (wrap64 (-e)) = (e.natAbs : Int) := by
  rw [w64 (by omega) (by omega), mx_eq]; omega
theorem normOf_eq {a : Int} {es : List Int} (ha : 0 ≤ a ∧ a ≤ 2) (hl : es.length ≤ 1000) (h : ∀ e ∈ es, -1000 ≤ e ∧ e ≤ 1000) {k : Nat} (hk : es.length < k) : impl_normOf.f k es a = some (nrm a es) := by
  unfold impl_normOf.f
  by_cases h2 : a = 2
  · subst h2
    rw [if_pos rfl, greatest_eq (by omega) (fun x hx => by have := h x hx; omega) (by omega), gr_nrm]; rfl
  · rw [if_neg h2]
    refine loopI0 (m := es.length) (F := fun k i (s : Int) => impl_normOf.l0 k a s es (es.length : Int) i) (fun n s => s = nrm a (es.take n)) (fun r => r = some (nrm a es)) ?_ ?_ (k := k) (s := 0) (by omega) (by simp [nrm])
    · rintro k s rfl
      simp only [impl_normOf.l0]
      rw [if_neg (by omega), List.take_length]
    · rintro k n s hn rfl
      have he := h _ (List.getElem_mem hn)
      have hb := nrm_in (a := a) h n (by omega)
      have hb2 := nrm_in (a := a) h (n + 1) (by omega)
      have hs := nrm_succ a hn
      have hq : -1000000 ≤ es[n] * es[n] ∧ es[n] * es[n] ≤ 1000000 := by
        have := nf_in (a := 1) (s := 0) (M := 0) (by omega) he
        unfold nf at this
        rw [if_neg (by omega), if_pos rfl] at this
        omega
      refine .inl ⟨_, rfl, ?_⟩
      simp only [impl_normOf.l0]
      rw [if_pos (by omega), if_pos (by omega), if_pos (by omega), rd_nat hn, wrap_nat (by omega)]
      by_cases h0 : a = 0
      · subst h0
        rw [if_pos rfl, mx_abs (by omega), hs]
        unfold nf
        rw [if_pos rfl, w64 (by omega) (by omega)]
      · rw [if_neg h0, w64 (x := es[n] * es[n]) (by omega) (by omega), hs]
        unfold nf
        rw [if_neg h0, if_pos (by omega), w64 (by omega) (by omega)]
def ErrorOf_res (den : Int) (l list : List Int) (a : Int) : Int × Bool := if IsRounding_res den l list = true ∧ 0 ≤ a ∧ a ≤ 2 then (nrm a (ers den l list), true) else (0, false)
theorem rnd_small {den : Int} {l list : List Int} (h : vv den l = true) (hl : list.length = l.length) (hr : rnd den l list = true) : ∀ e ∈ ers den l list, -1000 ≤ e ∧ e ≤ 1000 := fun e he => by
  have h1 := rnd_get (vv_iff.1 h).1.1 hl hr e he
  have := (vv_iff.1 h).1
  omega
theorem ErrorOf_impl {den : Int} {l list : List Int} {a : Int} (g1 : i64 den) (g2 : ∀ x ∈ l, i64 x) (g3 : ∀ x ∈ list, i64 x) (_ : i64 a) (hl : l.length ≤ 1048576) (hl2 : list.length ≤ 1048576) {k : Nat} (hk : l.length + list.length + 200 < k) : Za8.f k den l list a = some (ErrorOf_res den l list a) := by
  obtain ⟨k, rfl, hk'⟩ := Zbb hk
  unfold Za8.f ErrorOf_res
  rw [IsRounding_impl g1 g2 g3 hl hl2 hk, Option.bind_some]
  by_cases h : IsRounding_res den l list = true
  · have hi := IsRounding_iff.1 h
    have hv := vv_iff.1 hi.1
    have hle := ers_length (den := den) hi.2.1
    rw [if_pos h, within_eq, Option.bind_some]
    simp only [Za8.j0]
    by_cases h3 : 0 ≤ a ∧ a ≤ 2
    · rw [if_neg (by simp [h3]), if_pos ⟨h, h3⟩, errors_eq (rnd_oke hi.1 hi.2.1 hi.2.2) (by omega), Option.bind_some, normOf_eq h3 (by omega) (rnd_small hi.1 hi.2.1 hi.2.2) (by omega)]; rfl
    · rw [if_pos (by simp only [Bool.not_eq_true', decide_eq_false_iff_not]; exact h3), if_neg (fun h' => h3 h'.2)]
  · rw [if_neg h, if_neg (fun h' => h h'.1)]
    simp only [Za8.j0]
    rw [if_pos trivial]
end Go.Proofs.Ytgmmfdilfpkbmaa.Q
end
section
namespace Go.Proofs.Ytgmmfdilfpkbmaa.Q
open Go.RowKit Go.Proofs.YtgmmfdilfpkbmaaW.PrintWords Go.Proofs.YtgmmfdilfpkbmaaW.PrintLast Go.Proofs.Ytgmmfdilfpkbmaa.P Go.Proofs.Ytgmmfdilfpkbmaa.B
set_option linter.unusedVariables false
set_option linter.unusedSimpArgs false
def rst (V : Int) (nums : List Int) (i : Nat) : Int := rd nums i - V * (rd nums i / V)
def lq (V : Int) (nums : List Int) (a b : Nat) : Prop := rst V nums a > rst V nums b ∨ rst V nums a = rst V nums b ∧ a < b
theorem lq_trans {V : Int} {nums : List Int} {a b c : Nat} (h1 : lq V nums a b) (h2 : lq V nums b c) : lq V nums a c := by unfold lq at *; omega
theorem lq_asymm {V : Int} {nums : List Int} {a b : Nat} (h : lq V nums a b) : ¬ lq V nums b a := by unfold lq at *; omega
def upto (i n : Nat) : List Nat := (List.range (n - i)).map (i + ·)
abbrev ofn (l : List Nat) : List Int := l.map Int.ofNat
theorem rd_ofn {l : List Nat} {i : Nat} (h : i < l.length) : rd (ofn l) (i : Int) = (l[i] : Int) := by
  rw [rd_nat (by simpa using h), List.getElem_map]; rfl
theorem sorted_unique {V : Int} {nums : List Int} : ∀ {σ τ : List Nat}, σ.Pairwise (lq V nums) → τ.Pairwise (lq V nums) → (∀ q, q ∈ σ ↔ q ∈ τ) → σ = τ
  | [], [], _, _, _ => rfl
  | [], b :: τ, _, _, h => by simpa using (h b).2 (List.mem_cons_self ..)
  | a :: σ, [], _, _, h => by simpa using (h a).1 (List.mem_cons_self ..)
  | a :: σ, b :: τ, h1, h2, h => by
    rw [List.pairwise_cons] at h1 h2
    have hab : a = b := by
      rcases List.mem_cons.1 ((h a).1 (List.mem_cons_self ..)) with e | ha
      · exact e
      · rcases List.mem_cons.1 ((h b).2 (List.mem_cons_self ..)) with e | hb
        · exact e.symm
        · exact absurd (h2.1 a ha) (lq_asymm (h1.1 b hb))
    subst hab
    congr 1
    refine sorted_unique h1.2 h2.2 fun q => ⟨fun hq => ?_, fun hq => ?_⟩
    · rcases List.mem_cons.1 ((h q).1 (List.mem_cons_of_mem _ hq)) with e | hq'
      · subst e; exact absurd (h1.1 q hq) (lq_asymm (h1.1 q hq))
      · exact hq'
    · rcases List.mem_cons.1 ((h q).2 (List.mem_cons_of_mem _ hq)) with e | hq'
      · subst e; exact absurd (h2.1 q hq) (lq_asymm (h2.1 q hq))
      · exact hq'
def incs : List Int → List Nat → List Int
  | out, [] => out
  | out, i :: r => incs (out.set i (rd out i + 1)) r
theorem incs_length : ∀ (T : List Nat) (out : List Int), (incs out T).length = out.length
  | [], _ => rfl
  | i :: r, out => by simp only [incs]; rw [incs_length r, List.length_set]
theorem incs_append : ∀ (T : List Nat) (out : List Int) (i : Nat), incs out (T ++ [i]) = (incs out T).set i (rd (incs out T) i + 1)
  | [], _, _ => rfl
  | j :: r, out, i => by simp only [List.cons_append, incs]; exact incs_append r _ i
theorem incs_rd : ∀ (T : List Nat) (out : List Int), T.Nodup → (∀ q ∈ T, q < out.length) → ∀ i : Nat, rd (incs out T) i = rd out i + if i ∈ T then 1 else 0
  | [], out, _, _, i => by simp [incs]
  | j :: r, out, hn, hT, i => by
    rw [List.nodup_cons] at hn
    have hj := hT j (List.mem_cons_self ..)
    simp only [incs]
    rw [incs_rd r _ hn.2 (fun q hq => by rw [List.length_set]; exact hT q (List.mem_cons_of_mem _ hq)) i, rd_set hj]
    by_cases c : i = j
    · subst c
      rw [if_pos rfl, if_neg hn.1, if_pos (by simp)]; omega
    · rw [if_neg c]
      by_cases c2 : i ∈ r
      · rw [if_pos c2, if_pos (by simp [c2])]
      · rw [if_neg c2, if_neg (by simp [c, c2])]
theorem incs_sum : ∀ (T : List Nat) (out : List Int), (∀ q ∈ T, q < out.length) → (incs out T).sum = out.sum + T.length
  | [], out, _ => by simp [incs]
  | j :: r, out, hT => by
    have hj := hT j (List.mem_cons_self ..)
    simp only [incs]
    rw [incs_sum r _ (fun q hq => by rw [List.length_set]; exact hT q (List.mem_cons_of_mem _ hq)), sum_set hj, rd_nat hj, List.length_cons]
    omega
end Go.Proofs.Ytgmmfdilfpkbmaa.Q
end
section
namespace Go.Proofs.Ytgmmfdilfpkbmaa.Q
open Go.RowKit Go.Proofs.YtgmmfdilfpkbmaaW.PrintWords Go.Proofs.YtgmmfdilfpkbmaaW.PrintLast Go.Proofs.Ytgmmfdilfpkbmaa.P Go.Proofs.Ytgmmfdilfpkbmaa.B
set_option linter.unusedVariables false
set_option linter.unusedSimpArgs false
theorem rest_eq {V : Int} {nums : List Int} (h : okd V nums) {a : Nat} (ha : a < nums.length) : Za4.f V nums (a : Int) = some (rst V nums a) := by
  have hx := h.get ha
  unfold Za4.f rst
  have hb := ediv_mul_le (a := nums[a]) h.1
  have hc := Int.mul_comm V (nums[a] / V)
  rw [if_pos (by omega), if_pos (by omega), rd_nat ha, floor_eq h.1 (by omega) (by omega), Option.bind_some, w64 (x := V * (nums[a] / V)) (by have := h.2.1; omega) (by have := h.2.1; omega), w64 (by have := h.2.1; omega) (by have := h.2.1; omega)]
theorem cmpP_eq {V : Int} {nums : List Int} (h : okd V nums) {a b : Nat} (ha : a < nums.length) (hb : b < nums.length) : Za6.f (a : Int) (b : Int) V nums = some (rst V nums b - rst V nums a).sign := by
  unfold Za6.f
  rw [rest_eq h hb, Option.bind_some, rest_eq h ha, Option.bind_some, compare_eq]; rfl
theorem lt_iff {V : Int} {nums : List Int} {a b : Nat} (hab : a < b) : (rst V nums a - rst V nums b).sign < 0 ↔ lq V nums b a := by
  have := sign_cases' (rst V nums a - rst V nums b)
  unfold lq
  omega
theorem nlt_iff {V : Int} {nums : List Int} {a b : Nat} (hab : a < b) : ¬ (rst V nums a - rst V nums b).sign < 0 ↔ lq V nums a b := by
  have := sign_cases' (rst V nums a - rst V nums b)
  unfold lq
  omega
theorem rd_mid (X R : List Nat) (x : Nat) {i : Int} (h : i = (X.length : Int)) : rd (ofn (X ++ x :: R)) i = (x : Int) := by
  subst h
  rw [rd_ofn (by simp)]
  simp
theorem set_mid (X R : List Nat) (x y : Nat) {i : Nat} (h : i = X.length) : (ofn (X ++ x :: R)).set i (y : Int) = ofn (X ++ y :: R) := by
  subst h
  simp [ofn, List.set_append_right]
theorem half64 {x y : Nat} (h : x + y ≤ 1000000) : wrap64 (IntKind.u64.wrap (wrap64 ((x : Int) + (y : Int))) / 2) = (((x + y) / 2 : Nat) : Int) := by
  rw [w64 (x := (x : Int) + y) (by omega) (by omega), IntKind.wrap_u64, w64 (by omega) (by omega)]
  omega
theorem ofn_len (l : List Nat) : (ofn l).length = l.length := List.length_map ..
theorem ins_in {V : Int} {nums : List Int} (h : okd V nums) {A B T : List Nat} {b x8 : Int} {x : Nat} (hx : x < nums.length) (hT : ∀ y ∈ T, y < x) (hlen : A.length + T.length + 1 + B.length ≤ 1000000) {Q : Option (List Int) → Prop} {C : Nat}
    (next : ∀ k τ, C < k → τ.Pairwise (lq V nums) → τ.Perm (x :: T) → Q (Zaj.l0 k (ofn (A ++ τ ++ B)) (A.length : Int) b (wrap64 (x8 + 1)) V nums)) :
    ∀ j k τ1 τ2, τ1.length = j → (τ1 ++ τ2).Pairwise (lq V nums) → (τ1 ++ τ2).Perm T → (∀ q ∈ τ2, lq V nums x q) → j + 1 + C < k →
      Q (Zaj.l1 k (ofn (A ++ (τ1 ++ x :: τ2) ++ B)) (A.length : Int) b x8 ((A.length + j : Nat) : Int) V nums) := by
  intro j
  have fin : ∀ k τ1 τ2, (τ1 ++ τ2).Pairwise (lq V nums) → (τ1 ++ τ2).Perm T → (∀ q ∈ τ2, lq V nums x q) → (∀ q ∈ τ1, lq V nums q x) → C < k →
      Q (Zaj.l0 k (ofn (A ++ (τ1 ++ x :: τ2) ++ B)) (A.length : Int) b (wrap64 (x8 + 1)) V nums) := by
    intro k τ1 τ2 hp hq h2 h1 hk
    refine next k _ hk ?_ ?_
    · rw [List.pairwise_append] at hp ⊢
      refine ⟨hp.1, List.pairwise_cons.2 ⟨h2, hp.2.1⟩, fun a ha b hb => ?_⟩
      rcases List.mem_cons.1 hb with rfl | hb
      · exact h1 a ha
      · exact hp.2.2 a ha b hb
    · exact List.perm_middle.trans (hq.cons x)
  induction j with
  | zero =>
    intro k τ1 τ2 hj hp hq h2 hk
    obtain ⟨k, rfl, _⟩ := Zbb hk
    obtain rfl : τ1 = [] := List.eq_nil_of_length_eq_zero hj
    simp only [Zaj.l1]
    rw [if_neg (by omega)]
    exact fin k [] τ2 hp hq h2 (by simp) (by omega)
  | succ j ih =>
    intro k τ1 τ2 hj hp hq h2 hk
    obtain ⟨k, rfl, _⟩ := Zbb hk
    obtain ⟨D, p, rfl⟩ : ∃ D p, τ1 = D ++ [p] := by
      rcases List.eq_nil_or_concat τ1 with rfl | ⟨D, p, rfl⟩
      · simp at hj
      · exact ⟨D, p, by simp⟩
    have hD : D.length = j := by simpa using hj
    have hpT : p ∈ T := hq.mem_iff.1 (by simp)
    have hpx := hT p hpT
    have hTl := hq.length_eq
    simp only [List.length_append, List.length_cons, List.length_nil] at hTl
    have e1 : A ++ (D ++ [p] ++ x :: τ2) ++ B = (A ++ D) ++ p :: (x :: (τ2 ++ B)) := by simp
    have e2 : A ++ (D ++ [p] ++ x :: τ2) ++ B = (A ++ D ++ [p]) ++ x :: (τ2 ++ B) := by simp
    have hl : (A ++ (D ++ [p] ++ x :: τ2) ++ B).length = A.length + (j + 1) + 1 + τ2.length + B.length := by simp [hD]; omega
    have g1 : rd (ofn (A ++ (D ++ [p] ++ x :: τ2) ++ B)) ((A.length + j : Nat) : Int) = (p : Int) := by rw [e1]; exact rd_mid _ _ _ (by simp [hD])
    have g2 : rd (ofn (A ++ (D ++ [p] ++ x :: τ2) ++ B)) ((A.length + (j + 1) : Nat) : Int) = (x : Int) := by rw [e2]; exact rd_mid _ _ _ (by simp [hD] <;> omega)
    have hl2 : (ofn (A ++ (D ++ [p] ++ x :: τ2) ++ B)).length = A.length + (j + 1) + 1 + τ2.length + B.length := by rw [ofn_len, hl]
    simp only [Zaj.l1]
    rw [w64 (x := ((A.length + (j + 1) : Nat) : Int) - 1) (by omega) (by omega), show ((A.length + (j + 1) : Nat) : Int) - 1 = ((A.length + j : Nat) : Int) by omega, g1, g2, if_pos (by omega), if_pos (by omega), if_pos (by omega), if_pos (by omega), if_pos (by omega), cmpP_eq h hx (by omega), Option.bind_some, Int.toNat_natCast, Int.toNat_natCast]
    by_cases c : (rst V nums p - rst V nums x).sign < 0
    · rw [if_pos c]
      have hli := (lt_iff hpx).1 c
      have e3 : ((ofn (A ++ (D ++ [p] ++ x :: τ2) ++ B)).set (A.length + (j + 1)) (p : Int)).set (A.length + j) (x : Int) = ofn (A ++ (D ++ x :: (p :: τ2)) ++ B) := by
        rw [e2, set_mid _ _ _ _ (by simp [hD] <;> omega), show (A ++ D ++ [p]) ++ p :: (τ2 ++ B) = (A ++ D) ++ p :: (p :: (τ2 ++ B)) by simp, set_mid _ _ _ _ (by simp [hD])]
        simp
      rw [e3]
      refine ih k D (p :: τ2) hD (by simpa using hp) (by simpa using hq) ?_ (by omega)
      intro q hq'
      rcases List.mem_cons.1 hq' with rfl | hq'
      · exact hli
      · exact h2 q hq'
    · rw [if_neg c]
      have hpl := (nlt_iff hpx).1 c
      refine fin k (D ++ [p]) τ2 hp hq h2 ?_ (by omega)
      intro q hq'
      rcases List.mem_append.1 hq' with hq' | hq'
      · rw [List.append_assoc, List.pairwise_append] at hp
        exact lq_trans (hp.2.2 q hq' p (by simp)) hpl
      · rw [List.mem_singleton.1 hq']; exact hpl
theorem ins_out {V : Int} {nums : List Int} (h : okd V nums) {A B : List Nat} {n : Nat} (hlen : A.length + n + B.length ≤ 1000000) : ∀ (S τ : List Nat) (k : Nat), τ.length + S.length = n → τ.Pairwise (lq V nums) → S.Pairwise (· < ·) → (∀ x ∈ τ, ∀ y ∈ S, x < y) → (∀ y ∈ S, y < nums.length) → S.length * (n + 3) + 2 < k →
    ∃ σ, Zaj.l0 k (ofn (A ++ τ ++ (S ++ B))) (A.length : Int) ((A.length + n : Nat) : Int) ((A.length + τ.length : Nat) : Int) V nums = some (ofn (A ++ σ ++ B)) ∧ σ.Pairwise (lq V nums) ∧ σ.Perm (τ ++ S)
  | [], τ, k, hn, hp, hS, hc, hb, hk => by
    obtain ⟨k, rfl, _⟩ := Zbb hk
    simp only [List.length_nil] at hn
    simp only [Zaj.l0]
    rw [if_neg (by omega)]
    exact ⟨τ, by simp, hp, by simp⟩
  | x :: S, τ, k, hn, hp, hS, hc, hb, hk => by
    obtain ⟨k, rfl, _⟩ := Zbb hk
    simp only [List.length_cons, Nat.succ_mul] at hn hk
    rw [List.pairwise_cons] at hS
    simp only [Zaj.l0]
    rw [if_pos (by omega)]
    have := ins_in h (A := A) (B := S ++ B) (T := τ) (b := ((A.length + n : Nat) : Int)) (x8 := ((A.length + τ.length : Nat) : Int)) (x := x) (hb x (by simp)) (fun y hy => hc y hy x (by simp)) (by simp; omega)
      (Q := fun r => ∃ σ, r = some (ofn (A ++ σ ++ B)) ∧ σ.Pairwise (lq V nums) ∧ σ.Perm (τ ++ x :: S)) (C := S.length * (n + 3) + 2) (fun k τ' hk hp' hq' => by
        have hl := hq'.length_eq
        simp only [List.length_cons] at hl
        obtain ⟨σ, e, h1, h2⟩ := ins_out h hlen S τ' k (by omega) hp' hS.2 (fun y hy z hz => by
          rcases List.mem_cons.1 (hq'.mem_iff.1 hy) with rfl | hy
          · exact hS.1 z hz
          · exact hc y hy z (List.mem_cons_of_mem _ hz)) (fun y hy => hb y (List.mem_cons_of_mem _ hy)) hk
        rw [wrap_nat (by omega), show A.length + τ.length + 1 = A.length + τ'.length by omega]
        exact ⟨σ, e, h1, h2.trans ((hq'.append_right S).trans (by simpa using (List.perm_middle (a := x) (l₁ := τ) (l₂ := S)).symm))⟩) τ.length k τ [] rfl (by simpa using hp) (by simp) (by simp) (by omega)
    simpa using this
theorem insSeg_eq {V : Int} {nums : List Int} (h : okd V nums) {A S B : List Nat} (hlen : A.length + S.length + B.length ≤ 1000000) (hS : S.Pairwise (· < ·)) (hb : ∀ y ∈ S, y < nums.length) {k : Nat} (hk : S.length * (S.length + 3) + 4 < k) :
    ∃ σ, Zaj.f k (ofn (A ++ S ++ B)) (A.length : Int) ((A.length + S.length : Nat) : Int) V nums = some (ofn (A ++ σ ++ B)) ∧ σ.Pairwise (lq V nums) ∧ σ.Perm S := by
  unfold Zaj.f
  match S, hS, hb, hk, hlen with
  | [], _, _, hk, hlen =>
    obtain ⟨k, rfl, _⟩ := Zbb hk
    simp only [List.length_nil] at hlen
    simp only [Zaj.l0]
    rw [if_neg (by rw [wrap_nat (by omega)]; simp only [List.length_nil]; omega)]
    exact ⟨[], by simp, List.Pairwise.nil, List.Perm.refl _⟩
  | x :: S, hS, hb, hk, hlen =>
    rw [List.pairwise_cons] at hS
    simp only [List.length_cons, Nat.succ_mul] at hk hlen
    obtain ⟨σ, e, h1, h2⟩ := ins_out h (A := A) (B := B) (n := S.length + 1) (by omega) S [x] k (by simp; omega) (by simp) hS.2 (by simpa using hS.1) (fun y hy => hb y (List.mem_cons_of_mem _ hy)) (by
      have : S.length * (S.length + 1 + 3) = S.length * (S.length + 1 + 3) := rfl
      omega)
    rw [wrap_nat (by omega)]
    refine ⟨σ, ?_, h1, by simpa using h2⟩
    have e2 : A ++ x :: S ++ B = A ++ [x] ++ (S ++ B) := by simp
    rw [e2, List.length_cons]
    simpa using e
theorem five_len (X U Y W Z : List Nat) (u w : Nat) : (ofn (X ++ u :: U ++ Y ++ w :: W ++ Z)).length = X.length + (U.length + 1) + Y.length + (W.length + 1) + Z.length := by rw [ofn_len]; simp; omega
theorem five_a (X U Y W Z : List Nat) (u w : Nat) : rd (ofn (X ++ u :: U ++ Y ++ w :: W ++ Z)) ((X.length : Nat) : Int) = (u : Int) := by
  rw [show X ++ u :: U ++ Y ++ w :: W ++ Z = X ++ u :: (U ++ Y ++ w :: W ++ Z) by simp]
  exact rd_mid X _ u rfl
theorem five_b (X U Y W Z : List Nat) (u w : Nat) : rd (ofn (X ++ u :: U ++ Y ++ w :: W ++ Z)) ((X.length + (U.length + 1) + Y.length : Nat) : Int) = (w : Int) := by
  rw [show X ++ u :: U ++ Y ++ w :: W ++ Z = (X ++ u :: U ++ Y) ++ w :: (W ++ Z) by simp]
  exact rd_mid (X ++ u :: U ++ Y) (W ++ Z) w (by simp; omega)
theorem five_set (X U Y W Z : List Nat) (u w : Nat) : ((ofn (X ++ u :: U ++ Y ++ w :: W ++ Z)).set X.length (w : Int)).set (X.length + (U.length + 1) + Y.length) (u : Int) = ofn ((X ++ [w]) ++ U ++ (Y ++ [u]) ++ W ++ Z) := by
  rw [show X ++ u :: U ++ Y ++ w :: W ++ Z = X ++ u :: (U ++ Y ++ w :: W ++ Z) by simp, set_mid X _ u w rfl, show X ++ w :: (U ++ Y ++ w :: W ++ Z) = (X ++ w :: (U ++ Y)) ++ w :: (W ++ Z) by simp, set_mid (X ++ w :: (U ++ Y)) (W ++ Z) w u (by simp; omega)]
  simp
theorem swapStep {D D2 : List Int} {k pa pb : Nat} {a b i n : Int} {u w : Int} (w1 : wrap64 (a + i) = (pa : Int)) (w2 : wrap64 (b + i) = (pb : Int)) (g1 : rd D (pa : Int) = u) (g2 : rd D (pb : Int) = w) (hi : i < n) (ha : pa < D.length) (hb : pb < D.length) (e : (D.set pa w).set pb u = D2) :
    Zap.l0 (k + 1) D a b n i = Zap.l0 k D2 a b n (wrap64 (i + 1)) := by
  simp only [Zap.l0]
  rw [w1, w2, g1, g2, if_pos hi, if_pos (by omega), if_pos (by omega), if_pos (by omega), if_pos (by omega), Int.toNat_natCast, Int.toNat_natCast, e]
theorem swapR_eq (U : List Nat) : ∀ (W X Y Z : List Nat) (i k a b n : Nat), U.length = W.length → a + i = X.length → b + i = X.length + U.length + Y.length → n = i + U.length → X.length + U.length + Y.length + W.length + Z.length ≤ 1000000 → U.length < k →
    Zap.l0 k (ofn (X ++ U ++ Y ++ W ++ Z)) (a : Int) (b : Int) (n : Int) (i : Int) = some (ofn (X ++ W ++ Y ++ U ++ Z)) := by
  induction U with
  | nil =>
    intro W X Y Z i k a b n hU ha hb hn hl hk
    obtain ⟨k, rfl, _⟩ := Zbb hk
    obtain rfl : W = [] := List.eq_nil_of_length_eq_zero hU.symm
    simp only [List.length_nil] at hn
    simp only [Zap.l0]
    rw [if_neg (by omega)]
  | cons u U ih =>
    intro W X Y Z i k a b n hU ha hb hn hl hk
    cases W with
    | nil => simp at hU
    | cons w W =>
    obtain ⟨k, rfl, _⟩ := Zbb hk
    simp only [List.length_cons] at hU hb hn hl hk
    have h3 := ih W (X ++ [w]) (Y ++ [u]) Z (i + 1) k a b n (by omega) (by simp only [List.length_append, List.length_cons, List.length_nil]; omega) (by simp only [List.length_append, List.length_cons, List.length_nil]; omega) (by omega) (by simp only [List.length_append, List.length_cons, List.length_nil]; omega) (by omega)
    have hfl := five_len X U Y W Z u w
    have s := swapStep (k := k) (n := (n : Int)) (pa := X.length) (pb := X.length + (U.length + 1) + Y.length) (a := (a : Int)) (b := (b : Int)) (i := (i : Int)) (by rw [w64 (by omega) (by omega)]; omega) (by rw [w64 (by omega) (by omega)]; omega) (five_a X U Y W Z u w) (five_b X U Y W Z u w) (by omega) (by omega) (by omega) (five_set X U Y W Z u w)
    rw [s, wrap_nat (by omega), h3]
    simp
theorem swapRange_eq {V : Int} {nums : List Int} {U W X Y Z : List Nat} {k : Nat} {a b n : Int} (hU : U.length = W.length) (ha : a = X.length) (hb : b = (X.length + U.length + Y.length : Nat)) (hn : n = U.length) (hl : X.length + U.length + Y.length + W.length + Z.length ≤ 1000000) (hk : U.length < k) :
    Zap.f k (ofn (X ++ U ++ Y ++ W ++ Z)) a b n V nums = some (ofn (X ++ W ++ Y ++ U ++ Z)) := by
  subst ha hb hn
  unfold Zap.f
  exact swapR_eq U W X Y Z 0 k X.length (X.length + U.length + Y.length) U.length hU rfl rfl (by omega) hl hk
theorem rot_eq {V : Int} {nums : List Int} : ∀ (N : Nat) (U W X Z : List Nat) (k : Nat) (m : Int), U.length + W.length ≤ N → 0 < U.length → 0 < W.length → m = (X.length + U.length : Nat) → X.length + U.length + W.length + Z.length ≤ 1000 → N + 1100 < k →
    Zaz.l0 k (ofn (X ++ U ++ W ++ Z)) m (U.length : Int) (W.length : Int) V nums = some (ofn (X ++ W ++ U ++ Z)) := by
  intro N
  induction N with
  | zero => intro U W X Z k m h1 h2 h3; omega
  | succ N ih =>
    intro U W X Z k m h1 h2 h3 hm hl hk
    obtain ⟨k, rfl, _⟩ := Zbb hk
    simp only [Zaz.l0]
    by_cases c : U.length = W.length
    · have e := swapRange_eq (V := V) (nums := nums) (U := U) (W := W) (X := X) (Y := []) (Z := Z) (k := k) (a := wrap64 (m - (U.length : Int))) (b := m) (n := (U.length : Int)) c (by rw [w64 (by omega) (by omega)]; omega) (by simp; omega) rfl (by simp; omega) (by omega)
      simp only [List.append_nil] at e
      rw [if_pos (by omega), e, Option.bind_some]
    · rw [if_neg (by omega)]
      by_cases c2 : W.length < U.length
      ·
        have hU : U = U.take W.length ++ U.drop W.length := (List.take_append_drop ..).symm
        have l1 : (U.take W.length).length = W.length := by rw [List.length_take]; omega
        have l2 : (U.drop W.length).length = U.length - W.length := List.length_drop ..
        generalize U.take W.length = U1 at hU l1
        generalize U.drop W.length = U2 at hU l2
        subst hU
        simp only [List.length_append] at h1 h2 hm hl c c2 l2 ⊢
        have e := swapRange_eq (V := V) (nums := nums) (U := U1) (W := W) (X := X) (Y := U2) (Z := Z) (k := k) (a := wrap64 (m - ((U1.length + U2.length : Nat) : Int))) (b := m) (n := (W.length : Int)) l1 (by rw [w64 (by omega) (by omega)]; omega) (by omega) (by omega) (by omega) (by omega)
        rw [if_pos (by omega), show X ++ (U1 ++ U2) ++ W ++ Z = X ++ U1 ++ U2 ++ W ++ Z by simp, e, Option.bind_some]
        have e2 := ih U2 U1 (X ++ W) Z k m (by omega) (by omega) (by omega) (by simp; omega) (by simp; omega) (by omega)
        rw [w64 (x := ((U1.length + U2.length : Nat) : Int) - (W.length : Int)) (by omega) (by omega), show ((U1.length + U2.length : Nat) : Int) - (W.length : Int) = (U2.length : Int) by omega, show (W.length : Int) = (U1.length : Int) by omega, e2]
        simp
      · have hW : W = W.take (W.length - U.length) ++ W.drop (W.length - U.length) := (List.take_append_drop ..).symm
        have l1 : (W.take (W.length - U.length)).length = W.length - U.length := by rw [List.length_take]; omega
        have l2 : (W.drop (W.length - U.length)).length = U.length := by rw [List.length_drop]; omega
        generalize W.take (W.length - U.length) = W1 at hW l1
        generalize W.drop (W.length - U.length) = W2 at hW l2
        subst hW
        simp only [List.length_append] at h1 h3 hl c c2 l1 ⊢
        have e := swapRange_eq (V := V) (nums := nums) (U := U) (W := W2) (X := X) (Y := W1) (Z := Z) (k := k) (a := wrap64 (m - (U.length : Int))) (b := wrap64 (wrap64 (m + ((W1.length + W2.length : Nat) : Int)) - (U.length : Int))) (n := (U.length : Int)) l2.symm (by rw [w64 (by omega) (by omega)]; omega) (by rw [w64 (x := m + ((W1.length + W2.length : Nat) : Int)) (by omega) (by omega), w64 (by omega) (by omega)]; omega) rfl (by omega) (by omega)
        rw [if_neg (by omega), show X ++ U ++ (W1 ++ W2) ++ Z = X ++ U ++ W1 ++ W2 ++ Z by simp, e, Option.bind_some]
        have e2 := ih W2 W1 X (U ++ Z) k m (by omega) (by omega) (by omega) (by omega) (by simp; omega) (by omega)
        rw [w64 (x := ((W1.length + W2.length : Nat) : Int) - (U.length : Int)) (by omega) (by omega), show ((W1.length + W2.length : Nat) : Int) - (U.length : Int) = (W1.length : Int) by omega, show (U.length : Int) = (W2.length : Int) by omega, show X ++ W2 ++ W1 ++ U ++ Z = X ++ W2 ++ W1 ++ (U ++ Z) by simp, e2]
        simp
theorem rotate_eq {V : Int} {nums : List Int} {U W X Z : List Nat} {k : Nat} {a m b : Int} (hU : 0 < U.length) (hW : 0 < W.length) (ha : a = X.length) (hm : m = (X.length + U.length : Nat)) (hb : b = (X.length + U.length + W.length : Nat)) (hl : X.length + U.length + W.length + Z.length ≤ 1000) (hk : 2200 < k) :
    Zaz.f k (ofn (X ++ U ++ W ++ Z)) a m b V nums = some (ofn (X ++ W ++ U ++ Z)) := by
  unfold Zaz.f
  rw [w64 (x := m - a) (by omega) (by omega), w64 (x := b - m) (by omega) (by omega), show m - a = (U.length : Int) by omega, show b - m = (W.length : Int) by omega]
  exact rot_eq (U.length + W.length) U W X Z k m (Nat.le_refl _) hU hW hm hl (by omega)
end Go.Proofs.Ytgmmfdilfpkbmaa.Q
end
section
namespace Go.Proofs.Ytgmmfdilfpkbmaa.Q
open Go.RowKit Go.Proofs.YtgmmfdilfpkbmaaW.PrintWords Go.Proofs.YtgmmfdilfpkbmaaW.PrintLast Go.Proofs.Ytgmmfdilfpkbmaa.P Go.Proofs.Ytgmmfdilfpkbmaa.B
set_option linter.unusedVariables false
set_option linter.unusedSimpArgs false
theorem two_a (A R : List Nat) (x y : Nat) : rd (ofn (A ++ x :: y :: R)) ((A.length : Nat) : Int) = (x : Int) := rd_mid A (y :: R) x rfl
theorem two_b (A R : List Nat) (x y : Nat) : rd (ofn (A ++ x :: y :: R)) ((A.length + 1 : Nat) : Int) = (y : Int) := by
  rw [show A ++ x :: y :: R = (A ++ [x]) ++ y :: R by simp]
  exact rd_mid (A ++ [x]) R y (by simp)
theorem two_set (A R : List Nat) (x y : Nat) : ((ofn (A ++ x :: y :: R)).set A.length (y : Int)).set (A.length + 1) (x : Int) = ofn (A ++ y :: x :: R) := by
  rw [set_mid A (y :: R) x y rfl, show A ++ y :: y :: R = (A ++ [y]) ++ y :: R by simp, set_mid (A ++ [y]) R y x (by simp)]
  simp
theorem two_set' (A R : List Nat) (x y : Nat) : ((ofn (A ++ x :: y :: R)).set (A.length + 1) (x : Int)).set A.length (y : Int) = ofn (A ++ y :: x :: R) := by
  rw [show A ++ x :: y :: R = (A ++ [x]) ++ y :: R by simp, set_mid (A ++ [x]) R y x (by simp), show (A ++ [x]) ++ x :: R = A ++ x :: (x :: R) by simp, set_mid A (x :: R) x y rfl]
theorem two_len (A R : List Nat) (x y : Nat) : (ofn (A ++ x :: y :: R)).length = A.length + 2 + R.length := by rw [ofn_len]; simp; omega
theorem shiftF (x : Nat) (Z : List Nat) : ∀ (R1 A : List Nat) (k : Nat), A.length + R1.length + Z.length + 1 ≤ 1000000 → R1.length < k →
    Zaa.l1 k (ofn (A ++ x :: (R1 ++ Z))) ((A.length + 1 + R1.length : Nat) : Int) (A.length : Int) = some (ofn (A ++ (R1 ++ x :: Z))) := by
  intro R1
  induction R1 with
  | nil =>
    intro A k hl hk
    obtain ⟨k, rfl, _⟩ := Zbb hk
    simp only [List.length_nil] at hl ⊢
    simp only [Zaa.l1]
    rw [if_neg (by rw [w64 (by omega) (by omega)]; omega)]
    rfl
  | cons r R1 ih =>
    intro A k hl hk
    obtain ⟨k, rfl, _⟩ := Zbb hk
    simp only [List.length_cons] at hl hk
    have e := ih (A ++ [r]) k (by simp only [List.length_append, List.length_cons, List.length_nil]; omega) (by omega)
    have hlen := two_len A (R1 ++ Z) x r
    have c1 : ((A.length : Nat) : Int) < ((A.length + 1 + (R1.length + 1) : Nat) : Int) - 1 := by omega
    have c2 : ((A.length + 1 : Nat) : Int) < ((ofn (A ++ x :: r :: (R1 ++ Z))).length : Int) := by omega
    have c3 : ((A.length : Nat) : Int) < ((ofn (A ++ x :: r :: (R1 ++ Z))).length : Int) := by omega
    have c4 : wrap64 (((A.length + 1 + (R1.length + 1) : Nat) : Int) - 1) = ((A.length + 1 + (R1.length + 1) : Nat) : Int) - 1 := w64 (by omega) (by omega)
    have c5 : wrap64 ((A.length : Int) + 1) = ((A.length + 1 : Nat) : Int) := wrap_nat (by omega)
    simp only [Zaa.l1, List.cons_append, List.length_cons]
    rw [c4, if_pos c1, c5, if_pos (by omega), if_pos c2, if_pos (by omega), if_pos c3, two_a, two_b, Int.toNat_natCast, Int.toNat_natCast, two_set]
    simpa [Nat.add_comm, Nat.add_left_comm, Nat.add_assoc] using e
theorem shiftB (y : Nat) : ∀ (n : Nat) (L2 A Z : List Nat) (k : Nat), L2.length = n → A.length + L2.length + Z.length + 1 ≤ 1000000 → L2.length < k →
    Zaa.l3 k (ofn (A ++ (L2 ++ y :: Z))) (A.length : Int) ((A.length + L2.length : Nat) : Int) = some (ofn (A ++ y :: (L2 ++ Z))) := by
  intro n
  induction n with
  | zero =>
    intro L2 A Z k hn hl hk
    obtain ⟨k, rfl, _⟩ := Zbb hk
    obtain rfl : L2 = [] := List.eq_nil_of_length_eq_zero hn
    simp only [Zaa.l3]
    rw [if_neg (by simp)]
    rfl
  | succ n ih =>
    intro L2 A Z k hn hl hk
    obtain ⟨k, rfl, _⟩ := Zbb hk
    obtain ⟨D, p, rfl⟩ : ∃ D p, L2 = D ++ [p] := by
      rcases List.eq_nil_or_concat L2 with rfl | ⟨D, p, rfl⟩
      · simp at hn
      · exact ⟨D, p, by simp⟩
    have hD : D.length = n := by simpa using hn
    simp only [List.length_append, List.length_cons, List.length_nil] at hl hk ⊢
    have e := ih D A (p :: Z) k hD (by simp only [List.length_cons]; omega) (by omega)
    have hlen := two_len (A ++ D) Z p y
    simp only [List.length_append] at hlen
    have c1 : ((A.length + (D.length + (0 + 1)) : Nat) : Int) > (A.length : Int) := by omega
    have c4 : wrap64 (((A.length + (D.length + (0 + 1)) : Nat) : Int) - 1) = (((A ++ D).length : Nat) : Int) := by rw [w64 (by omega) (by omega), List.length_append]; omega
    have c2 : (((A ++ D).length : Nat) : Int) < ((ofn ((A ++ D) ++ p :: y :: Z)).length : Int) := by rw [List.length_append]; omega
    have c6 : ((A.length + (D.length + (0 + 1)) : Nat) : Int) = (((A ++ D).length + 1 : Nat) : Int) := by rw [List.length_append]; omega
    have c3 : (((A ++ D).length + 1 : Nat) : Int) < ((ofn ((A ++ D) ++ p :: y :: Z)).length : Int) := by rw [List.length_append]; omega
    have eD : A ++ (D ++ [p] ++ y :: Z) = (A ++ D) ++ p :: y :: Z := by simp
    simp only [Zaa.l3]
    rw [if_pos c1, c4, eD, c6, if_pos (by omega), if_pos c2, if_pos (by omega), if_pos c3, two_a, two_b, Int.toNat_natCast, Int.toNat_natCast, two_set']
    rw [show (A ++ D).length = A.length + D.length from List.length_append]
    simpa using e
theorem at_in (A R B : List Nat) {h : Nat} (hh : h < R.length) {i : Int} (hi : i = ((A.length + h : Nat) : Int)) : rd (ofn (A ++ (R ++ B))) i = (R[h] : Int) := by
  subst hi
  rw [rd_ofn (by simp; omega), List.getElem_append_right (by omega)]
  simp [List.getElem_append_left hh]
theorem pw_get {V : Int} {nums : List Int} {R : List Nat} (h : R.Pairwise (lq V nums)) {i j : Nat} (hi : i < R.length) (hj : j < R.length) (hij : i < j) : lq V nums R[i] R[j] := List.pairwise_iff_getElem.1 h i j hi hj hij
theorem search1 {V : Int} {nums : List Int} (h : okd V nums) {A R B : List Nat} {x : Nat} (hx : x < nums.length) (hR : ∀ y ∈ R, x < y ∧ y < nums.length) (hs : R.Pairwise (lq V nums)) (hl : A.length + R.length + B.length + 1 ≤ 100000) {Q : Option (List Int) → Prop} {C : Nat}
    (next : ∀ k p, C < k → p ≤ R.length → (∀ t (ht : t < R.length), t < p → lq V nums R[t] x) → (∀ t (ht : t < R.length), p ≤ t → lq V nums x R[t]) → Q (Zaa.l1 k (ofn (A ++ x :: (R ++ B))) ((A.length + 1 + p : Nat) : Int) (A.length : Int))) :
    ∀ d p q k, q - p ≤ d → p ≤ q → q ≤ R.length → (∀ t (ht : t < R.length), t < p → lq V nums R[t] x) → (∀ t (ht : t < R.length), q ≤ t → lq V nums x R[t]) → d + C + 1 < k →
      Q (Zaa.l0 k (ofn (A ++ x :: (R ++ B))) (A.length : Int) ((A.length + 1 + p : Nat) : Int) ((A.length + 1 + q : Nat) : Int) V nums) := by
  have hll : (ofn (A ++ x :: (R ++ B))).length = A.length + R.length + B.length + 1 := by rw [ofn_len]; simp; omega
  intro d
  induction d with
  | zero =>
    intro p q k h1 h2 h3 h4 h5 hk
    obtain ⟨k, rfl, _⟩ := Zbb hk
    obtain rfl : p = q := by omega
    simp only [Zaa.l0]
    rw [if_neg (by omega)]
    exact next k p (by omega) h3 h4 h5
  | succ d ih =>
    intro p q k h1 h2 h3 h4 h5 hk
    obtain ⟨k, rfl, _⟩ := Zbb hk
    rcases Nat.lt_or_ge p q with c | c
    · obtain ⟨m, hm⟩ : ∃ m, (A.length + 1 + p + (A.length + 1 + q)) / 2 = A.length + 1 + m := ⟨(p + q) / 2, by omega⟩
      have hpq : p ≤ m ∧ m < q := by omega
      have hmR : m < R.length := by omega
      have hRm := hR _ (List.getElem_mem hmR)
      have c2 : ((A.length + 1 + p : Nat) : Int) < ((A.length + 1 + q : Nat) : Int) := by omega
      have c3 : ((A.length + 1 + m : Nat) : Int) < ((ofn (A ++ x :: (R ++ B))).length : Int) := by omega
      have c4 : ((A.length : Nat) : Int) < ((ofn (A ++ x :: (R ++ B))).length : Int) := by omega
      have b1 : A.length + 1 + p + (A.length + 1 + q) ≤ 1000000 := by omega
      have b5 : A.length + 1 + m < 9223372036854775807 := by omega
      have g : rd (ofn (A ++ x :: (R ++ B))) ((A.length + 1 + m : Nat) : Int) = (R[m] : Int) := by
        have := at_in (A ++ [x]) R B hmR (i := ((A.length + 1 + m : Nat) : Int)) (by simp)
        simpa using this
      have g0 : rd (ofn (A ++ x :: (R ++ B))) (A.length : Int) = (x : Int) := rd_mid A (R ++ B) x rfl
      have c5 : wrap64 (((A.length + 1 + m : Nat) : Int) + 1) = ((A.length + 1 + (m + 1) : Nat) : Int) := wrap_nat b5
      have e1 := half64 (x := A.length + 1 + p) (y := A.length + 1 + q) b1
      rw [hm] at e1
      simp only [Zaa.l0]
      rw [if_pos c2, e1, if_pos (Int.natCast_nonneg _), if_pos c3, if_pos (Int.natCast_nonneg _), if_pos c4, g, g0, cmpP_eq h hRm.2 hx, Option.bind_some, c5]
      clear e1 g g0 c5
      by_cases c6 : (rst V nums x - rst V nums R[m]).sign < 0
      · rw [if_pos c6]
        have hlt := (lt_iff hRm.1).1 c6
        refine ih (m + 1) q k (by omega) (by omega) h3 (fun t ht htm => ?_) h5 (by omega)
        rcases Nat.lt_or_ge t m with h7 | h7
        · exact lq_trans (pw_get hs ht hmR h7) hlt
        · obtain rfl : t = m := by omega
          exact hlt
      · rw [if_neg c6]
        have hlt := (nlt_iff hRm.1).1 c6
        refine ih p m k (by omega) (by omega) (by omega) h4 (fun t ht htm => ?_) (by omega)
        rcases Nat.lt_or_ge m t with h7 | h7
        · exact lq_trans hlt (pw_get hs hmR ht h7)
        · obtain rfl : t = m := by omega
          exact hlt
    · obtain rfl : p = q := by omega
      simp only [Zaa.l0]
      rw [if_neg (by omega)]
      exact next k p (by omega) h3 h4 h5
theorem search2 {V : Int} {nums : List Int} (h : okd V nums) {A L B : List Nat} {y : Nat} (hy : y < nums.length) (hL : ∀ x ∈ L, x < y) (hs : L.Pairwise (lq V nums)) (hl : A.length + L.length + B.length + 1 ≤ 100000) {Q : Option (List Int) → Prop} {C : Nat}
    (next : ∀ k p, C < k → p ≤ L.length → (∀ t (ht : t < L.length), t < p → lq V nums L[t] y) → (∀ t (ht : t < L.length), p ≤ t → lq V nums y L[t]) → Q (Zaa.l3 k (ofn (A ++ (L ++ y :: B))) ((A.length + p : Nat) : Int) ((A.length + L.length : Nat) : Int))) :
    ∀ d p q k, q - p ≤ d → p ≤ q → q ≤ L.length → (∀ t (ht : t < L.length), t < p → lq V nums L[t] y) → (∀ t (ht : t < L.length), q ≤ t → lq V nums y L[t]) → d + C + 1 < k →
      Q (Zaa.l2 k (ofn (A ++ (L ++ y :: B))) ((A.length + L.length : Nat) : Int) ((A.length + p : Nat) : Int) ((A.length + q : Nat) : Int) V nums) := by
  have hll : (ofn (A ++ (L ++ y :: B))).length = A.length + L.length + B.length + 1 := by rw [ofn_len]; simp; omega
  intro d
  induction d with
  | zero =>
    intro p q k h1 h2 h3 h4 h5 hk
    obtain ⟨k, rfl, _⟩ := Zbb hk
    obtain rfl : p = q := by omega
    simp only [Zaa.l2]
    rw [if_neg (by omega)]
    exact next k p (by omega) h3 h4 h5
  | succ d ih =>
    intro p q k h1 h2 h3 h4 h5 hk
    obtain ⟨k, rfl, _⟩ := Zbb hk
    rcases Nat.lt_or_ge p q with c | c
    · obtain ⟨m, hm⟩ : ∃ m, (A.length + p + (A.length + q)) / 2 = A.length + m := ⟨(p + q) / 2, by omega⟩
      have hpq : p ≤ m ∧ m < q := by omega
      have hmL : m < L.length := by omega
      have hLm := hL _ (List.getElem_mem hmL)
      have c2 : ((A.length + p : Nat) : Int) < ((A.length + q : Nat) : Int) := by omega
      have c3 : ((A.length + m : Nat) : Int) < ((ofn (A ++ (L ++ y :: B))).length : Int) := by omega
      have c4 : ((A.length + L.length : Nat) : Int) < ((ofn (A ++ (L ++ y :: B))).length : Int) := by omega
      have b1 : A.length + p + (A.length + q) ≤ 1000000 := by omega
      have b5 : A.length + m < 9223372036854775807 := by omega
      have g : rd (ofn (A ++ (L ++ y :: B))) ((A.length + m : Nat) : Int) = (L[m] : Int) := at_in A L (y :: B) hmL rfl
      have g0 : rd (ofn (A ++ (L ++ y :: B))) ((A.length + L.length : Nat) : Int) = (y : Int) := by
        rw [show A ++ (L ++ y :: B) = (A ++ L) ++ y :: B by simp]
        exact rd_mid (A ++ L) B y (by simp)
      have c5 : wrap64 (((A.length + m : Nat) : Int) + 1) = ((A.length + (m + 1) : Nat) : Int) := wrap_nat b5
      have e1 := half64 (x := A.length + p) (y := A.length + q) b1
      rw [hm] at e1
      simp only [Zaa.l2]
      rw [if_pos c2, e1, if_pos (Int.natCast_nonneg _), if_pos c4, if_pos (Int.natCast_nonneg _), if_pos c3, g, g0, cmpP_eq h hy (Nat.lt_trans hLm hy), Option.bind_some, c5]
      clear e1 g g0 c5
      by_cases c6 : (rst V nums L[m] - rst V nums y).sign < 0
      · rw [if_pos c6]
        have hlt := (lt_iff hLm).1 c6
        refine ih p m k (by omega) (by omega) (by omega) h4 (fun t ht htm => ?_) (by omega)
        rcases Nat.lt_or_ge m t with h7 | h7
        · exact lq_trans hlt (pw_get hs hmL ht h7)
        · obtain rfl : t = m := by omega
          exact hlt
      · rw [if_neg c6]
        have hlt := (nlt_iff hLm).1 c6
        refine ih (m + 1) q k (by omega) (by omega) h3 (fun t ht htm => ?_) h5 (by omega)
        rcases Nat.lt_or_ge t m with h7 | h7
        · exact lq_trans (pw_get hs ht hmL h7) hlt
        · obtain rfl : t = m := by omega
          exact hlt
    · obtain rfl : p = q := by omega
      simp only [Zaa.l2]
      rw [if_neg (by omega)]
      exact next k p (by omega) h3 h4 h5
theorem search3 {V : Int} {nums : List Int} (h : okd V nums) {A L R B : List Nat} (hLR : ∀ x ∈ L, ∀ y ∈ R, x < y) (hR : ∀ y ∈ R, y < nums.length) (hl : A.length + L.length + R.length + B.length ≤ 100000) {H : Nat} (hH : 2 * H ≤ L.length + R.length) (hH2 : L.length + R.length ≤ 2 * H + 1) {b mid : Int} {Q : Option (List Int) → Prop} {C : Nat}
    (next : ∀ k i, C < k → H - R.length ≤ i → i ≤ min H L.length → (∀ (h1 : i - 1 < L.length) (h2 : H - i < R.length), H - R.length < i → lq V nums L[i - 1] R[H - i]) → (∀ (h1 : i < L.length) (h2 : H - 1 - i < R.length), i < min H L.length → lq V nums R[H - 1 - i] L[i]) →
      Q (if ((A.length + i : Nat) : Int) < ((A.length + L.length : Nat) : Int) then Zaa.j6 k (ofn (A ++ (L ++ (R ++ B)))) (A.length : Int) ((A.length + L.length : Nat) : Int) b mid ((A.length + i : Nat) : Int) ((A.length + L.length + (H - i) : Nat) : Int) (decide (((A.length + L.length : Nat) : Int) < ((A.length + L.length + (H - i) : Nat) : Int))) V nums
        else Zaa.j6 k (ofn (A ++ (L ++ (R ++ B)))) (A.length : Int) ((A.length + L.length : Nat) : Int) b mid ((A.length + i : Nat) : Int) ((A.length + L.length + (H - i) : Nat) : Int) false V nums)) :
    ∀ d s t k, t - s ≤ d → s ≤ t → H - R.length ≤ s → t ≤ min H L.length → (∀ (h1 : s - 1 < L.length) (h2 : H - s < R.length), H - R.length < s → lq V nums L[s - 1] R[H - s]) → (∀ (h1 : t < L.length) (h2 : H - 1 - t < R.length), t < min H L.length → lq V nums R[H - 1 - t] L[t]) → d + C + 1 < k →
      Q (Zaa.l4 k (ofn (A ++ (L ++ (R ++ B)))) (A.length : Int) ((A.length + L.length : Nat) : Int) b mid ((A.length + H + (A.length + L.length) : Nat) : Int) ((A.length + s : Nat) : Int) ((A.length + t : Nat) : Int) ((A.length + H + (A.length + L.length) - 1 : Nat) : Int) V nums) := by
  have hll : (ofn (A ++ (L ++ (R ++ B)))).length = A.length + L.length + R.length + B.length := by rw [ofn_len]; simp; omega
  intro d
  have stop : ∀ s k, s ≤ min H L.length → H - R.length ≤ s → (∀ (h1 : s - 1 < L.length) (h2 : H - s < R.length), H - R.length < s → lq V nums L[s - 1] R[H - s]) → (∀ (h1 : s < L.length) (h2 : H - 1 - s < R.length), s < min H L.length → lq V nums R[H - 1 - s] L[s]) → C < k →
      Q (Zaa.l4 (k + 1) (ofn (A ++ (L ++ (R ++ B)))) (A.length : Int) ((A.length + L.length : Nat) : Int) b mid ((A.length + H + (A.length + L.length) : Nat) : Int) ((A.length + s : Nat) : Int) ((A.length + s : Nat) : Int) ((A.length + H + (A.length + L.length) - 1 : Nat) : Int) V nums) := by
    intro s k h2 h3 h4 h5 hk
    have := next k s hk h3 h2 h4 h5
    have e : wrap64 (((A.length + H + (A.length + L.length) : Nat) : Int) - ((A.length + s : Nat) : Int)) = ((A.length + L.length + (H - s) : Nat) : Int) := by rw [w64 (by omega) (by omega)]; omega
    simp only [Zaa.l4]
    rw [if_neg (by omega), e]
    exact this
  induction d with
  | zero =>
    intro s t k h1 h2 h3 h4 h5 h6 hk
    obtain ⟨k, rfl, _⟩ := Zbb hk
    obtain rfl : s = t := by omega
    exact stop s k h4 h3 h5 h6 (by omega)
  | succ d ih =>
    intro s t k h1 h2 h3 h4 h5 h6 hk
    obtain ⟨k, rfl, _⟩ := Zbb hk
    rcases Nat.lt_or_ge s t with c | c
    · obtain ⟨m, hm⟩ : ∃ m, (A.length + s + (A.length + t)) / 2 = A.length + m := ⟨(s + t) / 2, by omega⟩
      have hst : s ≤ m ∧ m < t := by omega
      have hmL : m < L.length := by omega
      have hqR : H - 1 - m < R.length := by omega
      have hmR := List.getElem_mem hqR
      have hlt0 := hLR _ (List.getElem_mem hmL) _ hmR
      have hRn := hR _ hmR
      have c2 : ((A.length + s : Nat) : Int) < ((A.length + t : Nat) : Int) := by omega
      have c3 : ((A.length + m : Nat) : Int) < ((ofn (A ++ (L ++ (R ++ B)))).length : Int) := by omega
      have c4 : ((A.length + L.length + (H - 1 - m) : Nat) : Int) < ((ofn (A ++ (L ++ (R ++ B)))).length : Int) := by omega
      have b1 : A.length + s + (A.length + t) ≤ 1000000 := by omega
      have b5 : A.length + m < 9223372036854775807 := by omega
      have b6 : -9223372036854775808 ≤ ((A.length + H + (A.length + L.length) - 1 : Nat) : Int) - ((A.length + m : Nat) : Int) := by omega
      have b7 : ((A.length + H + (A.length + L.length) - 1 : Nat) : Int) - ((A.length + m : Nat) : Int) ≤ 9223372036854775807 := by omega
      have b8 : ((A.length + H + (A.length + L.length) - 1 : Nat) : Int) - ((A.length + m : Nat) : Int) = ((A.length + L.length + (H - 1 - m) : Nat) : Int) := by omega
      have hLn : L[m] < nums.length := by omega
      have g : rd (ofn (A ++ (L ++ (R ++ B)))) ((A.length + m : Nat) : Int) = (L[m] : Int) := at_in A L (R ++ B) hmL rfl
      have e2 : wrap64 (((A.length + H + (A.length + L.length) - 1 : Nat) : Int) - ((A.length + m : Nat) : Int)) = ((A.length + L.length + (H - 1 - m) : Nat) : Int) := (w64 b6 b7).trans b8
      have g0 : rd (ofn (A ++ (L ++ (R ++ B)))) ((A.length + L.length + (H - 1 - m) : Nat) : Int) = (R[H - 1 - m] : Int) := by
        rw [show A ++ (L ++ (R ++ B)) = (A ++ L) ++ (R ++ B) by simp]
        exact at_in (A ++ L) R B hqR (by simp)
      have c5 : wrap64 (((A.length + m : Nat) : Int) + 1) = ((A.length + (m + 1) : Nat) : Int) := wrap_nat b5
      have e1 := half64 (x := A.length + s) (y := A.length + t) b1
      rw [hm] at e1
      simp only [Zaa.l4]
      rw [if_pos c2, e1, e2, if_pos (Int.natCast_nonneg _), if_pos c4, if_pos (Int.natCast_nonneg _), if_pos c3, g, g0, cmpP_eq h hRn hLn, Option.bind_some, c5]
      clear e1 e2 g g0 c5
      by_cases c6 : (rst V nums L[m] - rst V nums R[H - 1 - m]).sign < 0
      · rw [if_pos c6]
        have hlt := (lt_iff hlt0).1 c6
        exact ih s m k (by omega) (by omega) h3 (by omega) h5 (fun _ _ _ => hlt) (by omega)
      · rw [if_neg c6]
        have hlt := (nlt_iff hlt0).1 c6
        refine ih (m + 1) t k (by omega) (by omega) (by omega) h4 (fun h7 h8 _ => ?_) h6 (by omega)
        simp only [Nat.add_sub_cancel]
        have : H - (m + 1) = H - 1 - m := by omega
        simp only [this]
        exact hlt
    · obtain rfl : s = t := by omega
      exact stop s k h4 h3 h5 h6 (by omega)
end Go.Proofs.Ytgmmfdilfpkbmaa.Q
end
