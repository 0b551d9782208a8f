import Derived.Test.YtoelhfbmeegbdaaXBFnExactIsGroupRounding
import Derived.Test.YtoelhfbmeegbdaaXP1FnExactIsGroupRounding
import Derived.Test.YtoelhfbmeegbdaaXP2FnExactIsGroupRounding
import Derived.Test.YtoelhfbmeegbdaaXP5FnExactIsGroupRounding
import Derived.Test.YtoelhfbmeegbdaaXP7FnExactIsGroupRounding
import Derived.Test.YtoelhfbmeegbdaaXP8FnExactIsGroupRounding
import Derived.Test.YtoelhfbmeegbdaaXP10FnExactIsGroupRounding
import Derived.Test.YtoelhfbmeegbdaaXP11FnExactIsGroupRounding
import Derived.Test.YtoelhfbmeegbdaaXP6FnExactIsGroupRounding
import Derived.Test.YtoelhfbmeegbdaaXP12FnExactIsGroupRounding
import Derived.Test.YtoelhfbmeegbdaaXP3FnExactIsGroupRounding
import Derived.Test.YtoelhfbmeegbdaaXP4FnExactIsGroupRounding
import Derived.Test.YtoelhfbmeegbdaaXP9FnExactIsGroupRounding
import Derived.Test.YtoelhfbmeegbdaaXP13FnExactIsGroupRounding
import Derived.Test.YtoelhfbmeegbdaaXP14FnExactIsGroupRounding
import Derived.Test.YtoelhfbmeegbdaaXP15FnExactIsGroupRounding
section
namespace Go.Proofs.Ytoelhfbmeegbdaa.Q
open Go.RowKit Go.Proofs.YtoelhfbmeegbdaaW.PrintWords Go.Proofs.YtoelhfbmeegbdaaW.PrintLast Go.Proofs.Ytoelhfbmeegbdaa.P Go.Proofs.Ytoelhfbmeegbdaa.B
set_option linter.unusedVariables false
set_option linter.unusedSimpArgs false
theorem within_eq (a b c : Int) : impl_within.f a b c = some (decide (b ≤ a ∧ a ≤ c)) := by
  unfold impl_within.f
  by_cases h : b ≤ a <;> simp [h]
theorem l00In_eq (a b c : Int) : spec_l00In.f a b c = some (decide (b ≤ a ∧ a ≤ c)) := by
  unfold spec_l00In.f
  by_cases h : b ≤ a <;> simp [h]
theorem floor_eq {a b : Int} (hb : 1 ≤ b) (h1 : -4611686018427387904 ≤ a) (h2 : a ≤ 4611686018427387904) : impl_floor.f a b = some (a / b) := by
  have hd := ediv_bounds (a := a) hb (by omega) h1 h2
  have hm := Int.emod_nonneg a (show b ≠ 0 by omega)
  have hl := Int.emod_lt_of_pos a (show 0 < b by omega)
  unfold impl_floor.f
  rw [if_neg (by omega), tdiv_pos hb, tmod_pos hb]
  by_cases c : 0 ≤ a ∨ b ∣ a
  · simp only [if_pos c]
    rw [if_neg (by omega), w64 (by omega) (by omega)]
    congr 1; omega
  · simp only [if_neg c]
    rw [if_pos (by omega), w64 (x := a / b + 1) (by omega) (by omega), w64 (by omega) (by omega)]
    congr 1; omega
theorem l01Floor_eq {a b : Int} (hb : 1 ≤ b) (h1 : -1000000000000000 ≤ a) (h2 : a ≤ 1000000000000000) (hb2 : b ≤ 1000000000000000) : spec_l01Floor.f a b = some (a / b) := by
  have hd := ediv_bounds (a := a) hb (M := 1000000000000000) (by omega) h1 h2
  have hq := ediv_mul_le (a := a) hb
  have hm := Int.emod_nonneg a (show b ≠ 0 by omega)
  have he := Int.emod_add_mul_ediv a b
  rw [Int.mul_comm] at he
  unfold spec_l01Floor.f
  rw [if_neg (by omega), tdiv_pos hb]
  by_cases c : 0 ≤ a ∨ b ∣ a
  · simp only [if_pos c, Int.add_zero]
    rw [w64 (x := a / b) (by omega) (by omega), w64 (x := a / b * b) (by omega) (by omega), if_neg (by omega)]
  · simp only [if_neg c]
    have hm0 : a % b ≠ 0 := fun e => c (.inr (Int.dvd_of_emod_eq_zero e))
    rw [w64 (x := a / b + 1) (by omega) (by omega), Int.add_mul, Int.one_mul, w64 (x := a / b * b + b) (by omega) (by omega), if_pos (by omega), w64 (by omega) (by omega)]
    congr 1; omega
theorem ceiling_eq {a b : Int} (hb : 1 ≤ b) (h1 : -4611686018427387904 ≤ a) (h2 : a ≤ 4611686018427387904) : impl_ceiling.f a b = some (cl a b) := by
  have hd := ediv_bounds (a := -a) hb (M := 4611686018427387904) (by omega) (by omega) (by omega)
  unfold impl_ceiling.f
  rw [w64 (by omega) (by omega), floor_eq hb (by omega) (by omega)]
  simp only [Option.bind_some]
  rw [w64 (by omega) (by omega)]; rfl
theorem l01Ceil_eq {a b : Int} (hb : 1 ≤ b) (h1 : -1000000000000000 ≤ a) (h2 : a ≤ 1000000000000000) (hb2 : b ≤ 1000000000000000) : spec_l01Ceil.f a b = some (cl a b) := by
  have hd := ediv_bounds (a := -a) hb (M := 1000000000000000) (by omega) (by omega) (by omega)
  unfold spec_l01Ceil.f
  rw [w64 (by omega) (by omega), l01Floor_eq hb (by omega) (by omega) hb2]
  simp only [Option.bind_some]
  rw [w64 (by omega) (by omega)]; rfl
def allIn (l : List Int) (a b : Int) : Bool := l.all fun x => decide (a ≤ x ∧ x ≤ b)
theorem allIn_iff {l : List Int} {a b : Int} : allIn l a b = true ↔ ∀ x ∈ l, a ≤ x ∧ x ≤ b := by simp [allIn]
theorem indexFunc_eq {l : List Int} (hl : l.length ≤ 4611686018427387904) (a b : Int) (k : Nat) (hk : l.length < k) : Zbb.f k l a b = some (!allIn l a b) := by
  have h : ∀ d n k, l.length - n = d → n ≤ l.length → d < k → ∃ r, Zau.l0 k l (l.length : Int) (n : Int) a b = some r ∧ decide (r ≥ 0) = !allIn (l.drop n) a b := by
    intro d
    induction d with
    | zero =>
      intro n k hd hn hk
      obtain ⟨k, rfl, _⟩ := succ_of_lt hk
      obtain rfl : n = l.length := by omega
      refine ⟨-1, ?_, by simp [allIn]⟩
      simp only [Zau.l0]
      rw [if_neg (by omega)]
    | succ d ih =>
      intro n k hd hn hk
      obtain ⟨k, rfl, hk'⟩ := succ_of_lt hk
      have h : n < l.length := by omega
      simp only [Zau.l0, impl_areWithin_1_v.f]
      rw [if_pos (by omega), if_pos (by omega), if_pos (by omega), within_eq, rd_nat h, wrap_nat (by omega)]
      simp only [Option.bind_some]
      by_cases c : a ≤ l[n] ∧ l[n] ≤ b
      · obtain ⟨r, h1, h2⟩ := ih (n + 1) k (by omega) (by omega) (by omega)
        refine ⟨r, ?_, ?_⟩
        · simp only [c, and_self, decide_true, Bool.not_true]
          exact h1
        · rw [h2, List.drop_eq_getElem_cons h]
          simp only [allIn, List.all_cons, c, and_self, decide_true, Bool.true_and]
      · refine ⟨n, by simp [c], ?_⟩
        rw [List.drop_eq_getElem_cons h]
        simp only [allIn, List.all_cons, c, decide_false, Bool.false_and, Bool.not_false, decide_eq_true_eq]
        omega
  obtain ⟨r, h1, h2⟩ := h l.length 0 k (by omega) (by omega) hk
  unfold Zbb.f Zau.f
  rw [show Zau.l0 k l (l.length : Int) 0 a b = some r from h1]
  simp only [Option.bind_some]
  rw [h2, List.drop_zero]
theorem areWithin_eq {l : List Int} (hl : l.length ≤ 4611686018427387904) (a b : Int) {k : Nat} (hk : l.length < k) : impl_areWithin.f k l a b = some (allIn l a b) := by
  unfold impl_areWithin.f
  rw [indexFunc_eq hl a b k hk]
  simp
theorem toInt64S_aux {l : List Int} (hl : l.length ≤ 4611686018427387904) : ∀ d n k (ys : List Int), l.length - n = d → n ≤ l.length → d < k → ys.length = l.length → ys.take n = l.take n → Zav.l0 k l ys (n : Int) = some l := by
  intro d
  induction d with
  | zero =>
    intro n k ys hd hn hk hy ht
    obtain ⟨k, rfl, _⟩ := succ_of_lt hk
    obtain rfl : n = l.length := by omega
    simp only [Zav.l0]
    rw [if_neg (by omega)]
    rw [List.take_of_length_le (by omega), List.take_length] at ht
    rw [ht]
  | succ d ih =>
    intro n k ys hd hn hk hy ht
    obtain ⟨k, rfl, hk'⟩ := succ_of_lt hk
    have h : n < l.length := by omega
    simp only [Zav.l0]
    rw [if_pos (by omega), if_pos (by omega), if_pos (by omega), rd_nat h, wrap_nat (by omega), Int.toNat_natCast]
    refine ih (n + 1) k _ (by omega) (by omega) (by omega) (by simpa using hy) ?_
    rw [List.take_succ_eq_append_getElem (by simpa using (by omega : n < ys.length)), List.take_succ_eq_append_getElem h, List.take_set_of_le (Nat.le_refl _), ht, List.getElem_set_self]
theorem toInt64S_eq {l : List Int} (hl : l.length ≤ 1048576) {k : Nat} (hk : l.length < k) : Zav.f k l = some l := by
  unfold Zav.f
  rw [if_pos (by omega), Int.toNat_natCast, if_pos (by omega)]
  exact toInt64S_aux (by omega) l.length 0 k _ (by omega) (by omega) hk (by simp) (by simp)
theorem eqInt64S_self {l : List Int} (hl : l.length ≤ 4611686018427387904) {k : Nat} (hk : l.length < k) : Za2.f k l l = some true := by
  have h : ∀ d n k, l.length - n = d → n ≤ l.length → d < k → Za2.l0 k l l (n : Int) = some true := by
    intro d
    induction d with
    | zero =>
      intro n k hd hn hk
      obtain ⟨k, rfl, _⟩ := succ_of_lt hk
      obtain rfl : n = l.length := by omega
      simp only [Za2.l0]
      rw [if_neg (by omega)]
    | succ d ih =>
      intro n k hd hn hk
      obtain ⟨k, rfl, hk'⟩ := succ_of_lt hk
      simp only [Za2.l0]
      rw [if_pos (by omega), if_pos (by omega), if_pos (by omega), if_pos (by first | rfl | trivial), wrap_nat (by omega)]
      exact ih (n + 1) k (by omega) (by omega) (by omega)
  unfold Za2.f
  rw [if_pos (by rfl)]
  exact h l.length 0 k (by omega) (by omega) hk
end Go.Proofs.Ytoelhfbmeegbdaa.Q
end
section
namespace Go.Proofs.Ytoelhfbmeegbdaa.Q
open Go.RowKit Go.Proofs.YtoelhfbmeegbdaaW.PrintWords Go.Proofs.YtoelhfbmeegbdaaW.PrintLast Go.Proofs.Ytoelhfbmeegbdaa.P Go.Proofs.Ytoelhfbmeegbdaa.B
set_option linter.unusedVariables false
set_option linter.unusedSimpArgs false
theorem all_run (p : Int → Bool) (D : Unit → Option Bool) : ∀ l : List Int, runL (fun x (_ : Unit) => if p x = true then .inl () else .inr (some false)) D l () = if l.all p = true then D () else some false
  | [] => by simp [runL]
  | x :: xs => by
    simp only [runL, List.all_cons]
    by_cases h : p x = true
    · simp only [h, if_true, Bool.true_and]; exact all_run p D xs
    · simp [h]
def vv (den : Int) (l : List Int) : Bool := decide (1 ≤ den ∧ den ≤ 1000) && decide (l.length ≤ 40) && allIn l (-1000000) 1000000
theorem vv_iff {den : Int} {l : List Int} : vv den l = true ↔ (1 ≤ den ∧ den ≤ 1000) ∧ l.length ≤ 40 ∧ ∀ x ∈ l, -1000000 ≤ x ∧ x ≤ 1000000 := by
  simp only [vv, Bool.and_eq_true, decide_eq_true_eq, allIn_iff, and_assoc]
theorem l01Is_eq {l : List Int} (hl : l.length ≤ 4611686018427387904) (den : Int) {k : Nat} (hk : l.length < k) : spec_l01Is.f k den l = some (vv den l) := by
  have h := loopL0 (l := l) (F := fun k i (_ : Unit) => spec_l01Is.l0 k i den l) (S := fun x _ => if decide (-1000000 ≤ x ∧ x ≤ 1000000) = true then .inl () else .inr (some false))
    (D := fun _ => some (decide (1 ≤ den ∧ den ≤ 1000) && decide (l.length ≤ 40))) hl
    (fun k s => by
      simp only [spec_l01Is.l0]; rw [if_neg (by omega), l00In_eq]
      simp only [Option.bind_some]
      by_cases c : 1 ≤ den ∧ den ≤ 1000
      · simp only [c, and_self, decide_true, if_true, Bool.true_and]
        congr 1
        exact decide_eq_decide.2 (by omega)
      · simp [c])
    (fun k n hn s => by
      simp only [spec_l01Is.l0]
      rw [if_pos (by omega), if_pos (by omega), rd_nat hn, wrap_nat (by omega), l00In_eq]
      simp only [Option.bind_some]
      split <;> simp_all) k hk ()
  unfold spec_l01Is.f
  rw [h, all_run]
  simp only [vv, allIn]
  cases l.all fun x => decide (-1000000 ≤ x ∧ x ≤ 1000000) with
  | true => simp
  | false => simp
theorem validValues_eq {l : List Int} (hl : l.length ≤ 4611686018427387904) (den : Int) {k : Nat} (hk : l.length < k) : impl_ValidValues.f k den l = some (vv den l) := by
  unfold impl_ValidValues.f
  rw [within_eq, areWithin_eq hl _ _ hk]
  simp only [Option.bind_some, vv]
  by_cases c : 1 ≤ den ∧ den ≤ 1000
  · by_cases c2 : l.length ≤ 40
    · have c3 : (l.length : Int) ≤ 40 := by omega
      simp [c, c2, c3]
    · have c3 : ¬ (l.length : Int) ≤ 40 := by omega
      simp [c, c2, c3]
  · simp [c]
theorem toValues_eq {l : List Int} (hl : l.length ≤ 1048576) (den : Int) {k : Nat} (hk : l.length < k) : Za4.f k den l = some (den, l) := by
  unfold Za4.f
  rw [toInt64S_eq hl hk]; rfl
theorem eqValues_self {l : List Int} (hl : l.length ≤ 4611686018427387904) (den : Int) {k : Nat} (hk : l.length < k) : laws_eqValues.f k den l den l = some true := by
  unfold laws_eqValues.f
  rw [if_pos rfl, eqInt64S_self hl hk]; rfl
end Go.Proofs.Ytoelhfbmeegbdaa.Q
end
section
namespace Go.Proofs.Ytoelhfbmeegbdaa.Q
open Go.RowKit Go.Proofs.YtoelhfbmeegbdaaW.PrintWords Go.Proofs.YtoelhfbmeegbdaaW.PrintLast Go.Proofs.Ytoelhfbmeegbdaa.P Go.Proofs.Ytoelhfbmeegbdaa.B
set_option linter.unusedVariables false
set_option linter.unusedSimpArgs false
def ap {α ρ : Type} (f : α → Int) (x : α) (acc : List Int) : List Int ⊕ Option ρ := if acc.length < 17592186044416 then .inl (acc ++ [f x]) else .inr none
theorem ap_run {α ρ : Type} (f : α → Int) (D : List Int → Option ρ) : ∀ (l : List α) (acc : List Int), acc.length + l.length ≤ 17592186044416 → runL (ap f) D l acc = D (acc ++ l.map f)
  | [], acc, _ => by simp [runL]
  | x :: xs, acc, h => by
    rw [List.length_cons] at h
    simp only [runL, ap]
    rw [if_pos (by omega)]
    simp only
    rw [ap_run f D xs _ (by simp; omega)]
    simp
end Go.Proofs.Ytoelhfbmeegbdaa.Q
end
section
namespace Go.Proofs.Ytoelhfbmeegbdaa.Q
open Go.RowKit Go.Proofs.YtoelhfbmeegbdaaW.PrintWords Go.Proofs.YtoelhfbmeegbdaaW.PrintLast Go.Proofs.Ytoelhfbmeegbdaa.P Go.Proofs.Ytoelhfbmeegbdaa.B
set_option linter.unusedVariables false
set_option linter.unusedSimpArgs false
end Go.Proofs.Ytoelhfbmeegbdaa.Q
end
section
namespace Go.Proofs.Ytoelhfbmeegbdaa.Q
open Go.RowKit Go.Proofs.YtoelhfbmeegbdaaW.PrintWords Go.Proofs.YtoelhfbmeegbdaaW.PrintLast Go.Proofs.Ytoelhfbmeegbdaa.P Go.Proofs.Ytoelhfbmeegbdaa.B
set_option linter.unusedVariables false
set_option linter.unusedSimpArgs false
def okd (den : Int) (l : List Int) : Prop := 1 ≤ den ∧ den ≤ 1000000000 ∧ l.length ≤ 1000000 ∧ ∀ x ∈ l, -100000000000 ≤ x ∧ x ≤ 100000000000
theorem okd_vv {den : Int} {l : List Int} (h : vv den l = true) : okd den l := by
  have h := vv_iff.1 h
  exact ⟨h.1.1, by omega, by omega, fun x hx => by have := h.2.2 x hx; omega⟩
theorem okd.get {den : Int} {l : List Int} (h : okd den l) {n : Nat} (hn : n < l.length) : -100000000000 ≤ l[n] ∧ l[n] ≤ 100000000000 := h.2.2.2 _ (List.getElem_mem hn)
def fls (den : Int) (l : List Int) : List Int := l.map (· / den)
def cls (den : Int) (l : List Int) : List Int := l.map (cl · den)
theorem fls_length (den : Int) (l : List Int) : (fls den l).length = l.length := List.length_map ..
theorem cls_length (den : Int) (l : List Int) : (cls den l).length = l.length := List.length_map ..
theorem floors_eq {den : Int} {l : List Int} (h : okd den l) {k : Nat} (hk : l.length < k) : impl_Values_floors.f k den l = some (fls den l) := by
  have hl := h.2.2.1
  have h1 := loopL0 (l := l) (F := fun k i acc => Za0.l0 k acc l (l.length : Int) i den l) (S := ap (· / den)) (D := fun s => some s) (by omega)
    (fun k s => by simp only [Za0.l0]; rw [if_neg (by omega)])
    (fun k n hn s => by
      have hx := h.get hn
      simp only [Za0.l0, impl_Values_floors_1_v.f]
      rw [if_pos (by omega), if_pos (by omega), if_pos (by omega), rd_nat hn, wrap_nat (by omega), floor_eq h.1 (by omega) (by omega)]
      simp only [Option.bind_some, ap]
      split <;> rfl) k hk []
  unfold impl_Values_floors.f Za0.f
  rw [h1, ap_run _ _ _ _ (by simp; omega)]
  rfl
theorem ceilings_eq {den : Int} {l : List Int} (h : okd den l) {k : Nat} (hk : l.length < k) : impl_Values_ceilings.f k den l = some (cls den l) := by
  have hl := h.2.2.1
  have h1 := loopL0 (l := l) (F := fun k i acc => Zaz.l0 k acc l (l.length : Int) i den l) (S := ap (cl · den)) (D := fun s => some s) (by omega)
    (fun k s => by simp only [Zaz.l0]; rw [if_neg (by omega)])
    (fun k n hn s => by
      have hx := h.get hn
      simp only [Zaz.l0, impl_Values_ceilings_1_v.f]
      rw [if_pos (by omega), if_pos (by omega), if_pos (by omega), rd_nat hn, wrap_nat (by omega), ceiling_eq h.1 (by omega) (by omega)]
      simp only [Option.bind_some, ap]
      split <;> rfl) k hk []
  unfold impl_Values_ceilings.f Zaz.f
  rw [h1, ap_run _ _ _ _ (by simp; omega)]
  rfl
def ps : Int → List Int → List Int
  | _, [] => []
  | s, x :: xs => (s + x) :: ps (s + x) xs
def rs {ρ : Type} (x : Int) (s : List Int × Int) : (List Int × Int) ⊕ Option ρ := if s.1.length < 17592186044416 then .inl (s.1 ++ [wrap64 (s.2 + x)], wrap64 (s.2 + x)) else .inr none
theorem mul_in {a b A B : Int} (ha : 0 ≤ a ∧ a ≤ A) (hb : -B ≤ b ∧ b ≤ B) (hB : 0 ≤ B) : -(A * B) ≤ a * b ∧ a * b ≤ A * B := by
  have x1 := Int.mul_le_mul_of_nonneg_left hb.1 ha.1
  have x2 := Int.mul_le_mul_of_nonneg_left hb.2 ha.1
  have x3 := Int.mul_le_mul_of_nonneg_right ha.2 hB
  rw [Int.mul_neg] at x1
  omega
def oke (den : Int) (nums list : List Int) : Prop := (0 ≤ den ∧ den ≤ 1000) ∧ nums.length ≤ 1000 ∧ list.length = nums.length ∧ (∀ x ∈ nums, -1000000 ≤ x ∧ x ≤ 1000000) ∧ ∀ x ∈ list, -1000000000 ≤ x ∧ x ≤ 1000000000
theorem oke.wrap {den : Int} {nums list : List Int} (h : oke den nums list) {n : Nat} (hn : n < (list.zip nums).length) : wrap64 (wrap64 (den * (list.zip nums)[n].1) - (list.zip nums)[n].2) = den * (list.zip nums)[n].1 - (list.zip nums)[n].2 ∧ -1000001000000 ≤ den * (list.zip nums)[n].1 - (list.zip nums)[n].2 ∧ den * (list.zip nums)[n].1 - (list.zip nums)[n].2 ≤ 1000001000000 := by
  have hm : (list.zip nums)[n] ∈ list.zip nums := List.getElem_mem hn
  generalize (list.zip nums)[n] = p at hm ⊢
  obtain ⟨a, b⟩ := p
  have h1 := h.2.2.2.2 a (List.of_mem_zip hm).1
  have h2 := h.2.2.2.1 b (List.of_mem_zip hm).2
  have h3 := mul_in h.1 h1 (by omega)
  simp only
  rw [w64 (x := den * a) (by omega) (by omega), w64 (by omega) (by omega)]
  omega
theorem zip_get1 {l m : List Int} {n : Nat} (hn : n < (l.zip m).length) : ∃ (h1 : n < l.length) (h2 : n < m.length), (l.zip m)[n].1 = l[n] ∧ (l.zip m)[n].2 = m[n] := by
  have h := hn
  rw [List.length_zip] at h
  exact ⟨by omega, by omega, by rw [List.getElem_zip], by rw [List.getElem_zip]⟩
end Go.Proofs.Ytoelhfbmeegbdaa.Q
end
section
namespace Go.Proofs.Ytoelhfbmeegbdaa.Q
open Go.RowKit Go.Proofs.YtoelhfbmeegbdaaW.PrintWords Go.Proofs.YtoelhfbmeegbdaaW.PrintLast Go.Proofs.Ytoelhfbmeegbdaa.P Go.Proofs.Ytoelhfbmeegbdaa.B
set_option linter.unusedVariables false
set_option linter.unusedSimpArgs false
end Go.Proofs.Ytoelhfbmeegbdaa.Q
end
section
namespace Go.Proofs.Ytoelhfbmeegbdaa.Q
open Go.RowKit Go.Proofs.YtoelhfbmeegbdaaW.PrintWords Go.Proofs.YtoelhfbmeegbdaaW.PrintLast Go.Proofs.Ytoelhfbmeegbdaa.P Go.Proofs.Ytoelhfbmeegbdaa.B
set_option linter.unusedVariables false
set_option linter.unusedSimpArgs false
abbrev i64 (a : Int) : Prop := -9223372036854775808 ≤ a ∧ a ≤ 9223372036854775807
theorem take_snoc {l : List Int} {n : Nat} (h : n < l.length) : l.take (n + 1) = l.take n ++ [l[n]] := by
  rw [List.take_add_one, List.getElem?_eq_getElem h, Option.toList_some]
theorem first_bad {α : Type} {l : List α} {p : α → Bool} (h : ¬ l.all p = true) : ∃ j, ∃ h : j < l.length, p l[j] = false := by
  apply Classical.byContradiction; intro hc
  refine h (List.all_eq_true.2 fun x hx => ?_)
  obtain ⟨j, hj, rfl⟩ := List.getElem_of_mem hx
  cases hp : p l[j]
  · exact absurd ⟨j, hj, hp⟩ hc
  · rfl
theorem loopAll {α ρ : Type} {l : List α} {m : Nat} (hm : l.length = m) {F : Nat → Int → Option ρ} (p : α → Bool) (T E : Option ρ)
    (hD : ∀ k, F (k + 1) (m : Int) = T)
    (hS : ∀ k (n : Nat) (h : n < l.length), F (k + 1) (n : Int) = if p l[n] = true then F k ((n + 1 : Nat) : Int) else E)
    {k : Nat} (hk : m < k) : F k 0 = if l.all p = true then T else E := by
  subst hm
  by_cases h : l.all p = true
  · rw [if_pos h]
    exact loopI0 (m := l.length) (F := fun k i (_ : Unit) => F k i) (fun _ _ => True) (fun r => r = T) (fun k s _ => hD k)
      (fun k n s hn _ => .inl ⟨(), trivial, by rw [hS k n hn, if_pos (List.all_eq_true.1 h _ (List.getElem_mem hn))]⟩) hk (s := ()) trivial
  · rw [if_neg h]
    obtain ⟨j, hj, hx⟩ := first_bad h
    refine loopI0 (m := l.length) (F := fun k i (_ : Unit) => F k i) (fun n _ => n ≤ j) (fun r => r = E) (fun k s hi => by omega) ?_ hk (s := ()) (by omega)
    intro k n s hn hi
    rw [hS k n hn]
    by_cases hb : p l[n] = true
    · refine .inl ⟨(), ?_, by rw [if_pos hb]⟩
      rcases Nat.lt_or_ge n j with h | h
      · omega
      · obtain rfl : n = j := by omega
        rw [hx] at hb; exact absurd hb (by simp)
    · exact .inr (by rw [if_neg hb])
def rnd (den : Int) (l list : List Int) : Bool := (list.zip l).all fun p => decide (p.1 = p.2 / den) || decide (p.1 = cl p.2 den)
def IsRounding_res (den : Int) (l list : List Int) : Bool := vv den l && (decide (list.length = l.length) && rnd den l list)
theorem l01Rounds_eq {den : Int} {l list : List Int} (h : okd den l) {k : Nat} (hk : l.length < k) : Za5.f k den l list = some (decide (list.length = l.length) && rnd den l list) := by
  unfold Za5.f
  have hl := h.2.2.1
  have hd := h.2.1
  by_cases h2 : list.length = l.length
  · rw [if_pos (by omega), decide_eq_true h2, Bool.true_and]
    have hz : (list.zip l).length = l.length := by rw [List.length_zip]; omega
    rw [loopAll hz (F := fun k i => Za5.l0 k list i den l) (fun p => decide (p.1 = p.2 / den) || decide (p.1 = cl p.2 den)) (some true) (some false) (fun k => by simp only [Za5.l0]; rw [if_neg (by omega)])
      (fun k n hn => by
        obtain ⟨g1, g2, e1, e2⟩ := zip_get1 hn
        have hx := h.get g2
        simp only [Za5.l0]
        rw [if_pos (by omega), if_pos (by omega), if_pos (by omega), rd_nat g1, rd_nat g2, wrap_nat (by omega), l01Floor_eq h.1 (by omega) (by omega) (by omega), Option.bind_some, l01Ceil_eq h.1 (by omega) (by omega) (by omega), Option.bind_some, e1, e2]
        by_cases c1 : list[n] = l[n] / den
        · rw [if_pos c1, if_pos (by simp [c1])]
        · rw [if_neg c1]
          by_cases c2 : list[n] = cl l[n] den
          · rw [if_pos c2, if_pos (by simp [c2])]
          · rw [if_neg c2, if_neg (by simp [c1, c2])]) hk]
    unfold rnd
    split
    · rename_i h; rw [h]
    · rename_i h; simp only [Bool.not_eq_true] at h; rw [h]
  · rw [if_neg (by omega), decide_eq_false h2]; rfl
theorem IsRounding_impl {den : Int} {l list : List Int} (_ : i64 den) (_ : ∀ x ∈ l, i64 x) (_ : ∀ x ∈ list, i64 x) (hl : l.length ≤ 1048576) (hl2 : list.length ≤ 1048576) {k : Nat} (hk : l.length + list.length + 200 < k) : Za3.f k den l list = some (IsRounding_res den l list) := by
  obtain ⟨k, rfl, _⟩ := succ_of_lt hk
  unfold Za3.f IsRounding_res
  rw [validValues_eq (by omega) den (by omega), Option.bind_some]
  by_cases h : vv den l = true
  · rw [if_pos h, h, Bool.true_and]
    simp only [Za3.j0]
    by_cases h2 : list.length = l.length
    · have hz : (list.zip l).length = l.length := by rw [List.length_zip]; omega
      have hf := fls_length den l
      have hc := cls_length den l
      rw [if_neg (by simp [h2]), floors_eq (okd_vv h) (by omega), Option.bind_some, ceilings_eq (okd_vv h) (by omega), Option.bind_some, decide_eq_true h2, Bool.true_and,
       h2, loopAll hz (F := fun k i => Za3.l0 k (fls den l) (cls den l) list (l.length : Int) i) (fun p => decide (p.1 = p.2 / den) || decide (p.1 = cl p.2 den)) (some true) (some false) (fun k => by simp only [Za3.l0]; rw [if_neg (by omega)])
        (fun k n hn => by
          obtain ⟨g1, g2, e1, e2⟩ := zip_get1 hn
          have g3 : n < (fls den l).length := by omega
          have g4 : n < (cls den l).length := by omega
          have hf2 : (fls den l)[n] = l[n] / den := by simp [fls]
          have hc2 : (cls den l)[n] = cl l[n] den := by simp [cls]
          simp only [Za3.l0]
          rw [if_pos (by omega), if_pos (by omega), if_pos (by omega), if_pos (by omega), rd_nat g1, rd_nat g3, hf2, wrap_nat (by omega), e1, e2]
          by_cases c1 : list[n] = l[n] / den
          · rw [if_pos c1, if_pos (by simp [c1])]
          · rw [if_neg c1, if_pos (by omega), rd_nat g4, hc2]
            by_cases c2 : list[n] = cl l[n] den
            · rw [if_pos c2, if_pos (by simp [c2])]
            · rw [if_neg c2, if_neg (by simp [c1, c2])]) (by omega)]
      unfold rnd
      split
      · rename_i h; rw [h]
      · rename_i h; simp only [Bool.not_eq_true] at h; rw [h]
    · rw [if_pos (by simp only [bne_iff_ne]; omega), decide_eq_false h2]; rfl
  · rw [if_neg h]
    simp only [Za3.j0]
    rw [if_pos trivial]; simp only [Bool.not_eq_true] at h; rw [h]; rfl
end Go.Proofs.Ytoelhfbmeegbdaa.Q
end
section
namespace Go.Proofs.Ytoelhfbmeegbdaa.Q
open Go.RowKit Go.Proofs.YtoelhfbmeegbdaaW.PrintWords Go.Proofs.YtoelhfbmeegbdaaW.PrintLast Go.Proofs.Ytoelhfbmeegbdaa.P Go.Proofs.Ytoelhfbmeegbdaa.B
set_option linter.unusedVariables false
set_option linter.unusedSimpArgs false
theorem rnd_in {den : Int} {l list : List Int} (h : okd den l) (hl : list.length = l.length) (hr : rnd den l list = true) {M : Int} (hM : 0 ≤ M) (hb : ∀ x ∈ l, -M ≤ x ∧ x ≤ M) : ∀ x ∈ list, -M ≤ x ∧ x ≤ M := by
  intro x hx
  obtain ⟨n, hn, rfl⟩ := List.getElem_of_mem hx
  have hz : n < (list.zip l).length := by rw [List.length_zip]; omega
  have h1 := List.all_eq_true.1 hr _ (List.getElem_mem hz)
  obtain ⟨g1, g2, e1, e2⟩ := zip_get1 hz
  rw [e1, e2] at h1
  simp only [Bool.or_eq_true, decide_eq_true_eq] at h1
  have h2 := hb _ (List.getElem_mem g2)
  rcases h1 with h1 | h1 <;> rw [h1]
  · exact ediv_bounds h.1 hM h2.1 h2.2
  · exact cl_bounds h.1 hM h2.1 h2.2
theorem IsRounding_iff {den : Int} {l list : List Int} : IsRounding_res den l list = true ↔ vv den l = true ∧ list.length = l.length ∧ rnd den l list = true := by
  simp only [IsRounding_res, Bool.and_eq_true, decide_eq_true_eq]
end Go.Proofs.Ytoelhfbmeegbdaa.Q
end
section
namespace Go.Proofs.Ytoelhfbmeegbdaa.Q
open Go.RowKit Go.Proofs.YtoelhfbmeegbdaaW.PrintWords Go.Proofs.YtoelhfbmeegbdaaW.PrintLast Go.Proofs.Ytoelhfbmeegbdaa.P Go.Proofs.Ytoelhfbmeegbdaa.B
set_option linter.unusedVariables false
set_option linter.unusedSimpArgs false
theorem mem_rd {g : List Int} {x : Int} : x ∈ g ↔ ∃ i : Nat, i < g.length ∧ rd g i = x := by
  constructor
  · intro h
    obtain ⟨i, hi, e⟩ := List.getElem_of_mem h
    exact ⟨i, hi, by rw [rd_nat hi]; exact e⟩
  · rintro ⟨i, hi, rfl⟩
    exact rd_mem hi
theorem wrap_pred {j : Nat} (h : 1 ≤ j) (h2 : j ≤ 4611686018427387904) : wrap64 ((j : Int) - 1) = ((j - 1 : Nat) : Int) := by rw [w64 (by omega) (by omega)]; omega
def RSat (n : Int) (g : List Int) (i : Nat) : Prop := (0 ≤ rd g i ∧ rd g i ≤ n - 1) ∧ (1 ≤ i → rd g ((i - 1 : Nat) : Int) < rd g i)
def RS (n : Int) (g : List Int) : Prop := ∀ i : Nat, i < g.length → RSat n g i
open Classical in
theorem isSet_eq {g : List Int} (hl : g.length ≤ 4611686018427387904) {n : Int} (hn : 0 ≤ n ∧ n ≤ 4611686018427387904) {k : Nat} (hk : g.length < k) : impl_isSet.f k g n = some (decide (RS n g)) := by
  unfold impl_isSet.f
  refine loopI0 (m := g.length) (F := fun k i (_ : Unit) => impl_isSet.l0 k g n g (g.length : Int) i) (fun j _ => ∀ i : Nat, i < j → RSat n g i) (fun r => r = some (decide (RS n g))) ?_ ?_ (k := k) (s := ()) hk (fun i hi => by omega)
  · intro k _ h
    simp only [impl_isSet.l0]
    rw [if_neg (by omega), decide_eq_true (show RS n g from h)]
  · intro k j _ hj h
    simp only [impl_isSet.l0]
    rw [if_pos (by omega), if_pos (by omega), if_pos (by omega), within_eq, Option.bind_some, w64 (x := n - 1) (by omega) (by omega)]
    by_cases c : 0 ≤ rd g j ∧ rd g j ≤ n - 1
    · rw [if_pos (decide_eq_true c)]
      by_cases c2 : (j : Int) > 0
      · rw [if_pos c2, wrap_pred (by omega) (by omega), if_pos (by omega), if_pos (by omega)]
        by_cases c3 : rd g j ≤ rd g ((j - 1 : Nat) : Int)
        · rw [if_pos c3]
          exact .inr (by rw [decide_eq_false (fun z => by have := (z j hj).2 (by omega); omega)])
        · rw [if_neg c3, wrap_nat (by omega)]
          refine .inl ⟨(), fun i hi => ?_, rfl⟩
          by_cases e : i = j
          · subst e; exact ⟨c, fun _ => by omega⟩
          · exact h i (by omega)
      · rw [if_neg c2, wrap_nat (by omega)]
        refine .inl ⟨(), fun i hi => ?_, rfl⟩
        by_cases e : i = j
        · subst e; exact ⟨c, fun _ => by omega⟩
        · exact h i (by omega)
    · rw [if_neg (by simpa using c)]
      exact .inr (by rw [decide_eq_false (fun z => c (z j hj).1)])
open Classical in
theorem rises_eq {g : List Int} (hl : g.length ≤ 4611686018427387904) {n : Int} {k : Nat} (hk : g.length < k) : spec_l00Rises.f k g 0 (n - 1) = some (decide (RS n g)) := by
  unfold spec_l00Rises.f
  refine loopI0 (m := g.length) (F := fun k i (_ : Unit) => spec_l00Rises.l0 k g 0 (n - 1) i) (fun j _ => ∀ i : Nat, i < j → RSat n g i) (fun r => r = some (decide (RS n g))) ?_ ?_ (k := k) (s := ()) hk (fun i hi => by omega)
  · intro k _ h
    simp only [spec_l00Rises.l0]
    rw [if_neg (by omega), decide_eq_true (show RS n g from h)]
  · intro k j _ hj h
    simp only [spec_l00Rises.l0]
    rw [if_pos (by omega), if_pos (by omega), l00In_eq, Option.bind_some]
    by_cases c : 0 ≤ rd g j ∧ rd g j ≤ n - 1
    · rw [if_pos (decide_eq_true c)]
      by_cases c2 : (j : Int) > 0
      · rw [if_pos c2, wrap_pred (by omega) (by omega), if_pos (by omega), if_pos (by omega)]
        by_cases c3 : rd g ((j - 1 : Nat) : Int) ≥ rd g j
        · rw [if_pos c3]
          exact .inr (by rw [decide_eq_false (fun z => by have := (z j hj).2 (by omega); omega)])
        · rw [if_neg c3, wrap_nat (by omega)]
          refine .inl ⟨(), fun i hi => ?_, rfl⟩
          by_cases e : i = j
          · subst e; exact ⟨c, fun _ => by omega⟩
          · exact h i (by omega)
      · rw [if_neg c2, wrap_nat (by omega)]
        refine .inl ⟨(), fun i hi => ?_, rfl⟩
        by_cases e : i = j
        · subst e; exact ⟨c, fun _ => by omega⟩
        · exact h i (by omega)
    · rw [if_neg (by simpa using c)]
      exact .inr (by rw [decide_eq_false (fun z => c (z j hj).1)])
open Classical in
theorem has_eq {g : List Int} (hl : g.length ≤ 4611686018427387904) (x : Int) {k : Nat} (hk : g.length < k) : spec_l00Has.f k g x = some (decide (x ∈ g)) := by
  unfold spec_l00Has.f
  refine loopI0 (m := g.length) (F := fun k i (_ : Unit) => spec_l00Has.l0 k g x i) (fun j _ => ∀ i : Nat, i < j → rd g i ≠ x) (fun r => r = some (decide (x ∈ g))) ?_ ?_ (k := k) (s := ()) hk (fun i hi => by omega)
  · intro k _ h
    simp only [spec_l00Has.l0]
    rw [if_neg (by omega), decide_eq_false (fun z => by obtain ⟨i, hi, e⟩ := mem_rd.1 z; exact h i hi e)]
  · intro k j _ hj h
    simp only [spec_l00Has.l0]
    rw [if_pos (by omega), if_pos (by omega)]
    by_cases c : rd g j = x
    · rw [if_pos c]
      exact .inr (by rw [decide_eq_true (mem_rd.2 ⟨j, hj, c⟩)])
    · rw [if_neg c, wrap_nat (by omega)]
      refine .inl ⟨(), fun i hi => ?_, rfl⟩
      by_cases e : i = j
      · subst e; exact c
      · exact h i (by omega)
open Classical in
theorem contains_eq {g : List Int} (hl : g.length ≤ 4611686018427387904) (x : Int) {k : Nat} (hk : g.length < k) : slices_Contains_int64_int64.f k g x = some (decide (x ∈ g)) := by
  have h : ∃ t, Za7.f k g x = some t ∧ (t ≥ 0 ↔ x ∈ g) := by
    unfold Za7.f
    refine loopI0 (m := g.length) (F := fun k i (_ : Unit) => Za7.l0 k g x (g.length : Int) i) (fun j _ => ∀ i : Nat, i < j → rd g i ≠ x) (fun r => ∃ t, r = some t ∧ (t ≥ 0 ↔ x ∈ g)) ?_ ?_ (k := k) (s := ()) hk (fun i hi => by omega)
    · intro k _ h
      simp only [Za7.l0]
      rw [if_neg (by omega)]
      exact ⟨_, rfl, fun z => by omega, fun z => by obtain ⟨i, hi, e⟩ := mem_rd.1 z; exact absurd e (h i hi)⟩
    · intro k j _ hj h
      simp only [Za7.l0]
      rw [if_pos (by omega), if_pos (by omega), if_pos (by omega)]
      by_cases c : x = rd g j
      · rw [if_pos c]
        exact .inr ⟨_, rfl, fun _ => mem_rd.2 ⟨j, hj, c.symm⟩, fun _ => by omega⟩
      · rw [if_neg c, wrap_nat (by omega)]
        refine .inl ⟨(), fun i hi => ?_, rfl⟩
        by_cases e : i = j
        · subst e; exact fun z => c z.symm
        · exact h i (by omega)
  obtain ⟨t, e, ht⟩ := h
  unfold slices_Contains_int64_int64.f
  rw [e, Option.bind_some]
  congr 1
  exact decide_eq_decide.2 ht
open Classical in
theorem meet_eq {a b : List Int} (ha : a.length ≤ 4611686018427387904) (hb : b.length ≤ 4611686018427387904) {k : Nat} (hk : a.length + b.length + 5 < k) : impl_meet.f k a b = some (decide (∃ x ∈ a, x ∈ b)) := by
  have h : ∃ t, Zay.f k a b = some t ∧ (t ≥ 0 ↔ ∃ x ∈ a, x ∈ b) := by
    unfold Zay.f
    refine loopIc0 (m := a.length) (b.length + 1) (F := fun k i (_ : Unit) => Zay.l0 k a (a.length : Int) i b) (fun j _ => ∀ i : Nat, i < j → ¬ rd a i ∈ b) (fun r => ∃ t, r = some t ∧ (t ≥ 0 ↔ ∃ x ∈ a, x ∈ b)) ?_ ?_ (k := k) (s := ()) (by omega) (fun i hi => by omega)
    · intro k _ _ h
      simp only [Zay.l0]
      rw [if_neg (by omega)]
      exact ⟨_, rfl, fun z => by omega, fun ⟨x, hx, hxb⟩ => by obtain ⟨i, hi, e⟩ := mem_rd.1 hx; exact absurd (by rw [e]; exact hxb) (h i hi)⟩
    · intro k j _ hkk hj h
      simp only [Zay.l0, impl_meet_1_v.f]
      rw [if_pos (by omega), if_pos (by omega), if_pos (by omega), contains_eq hb _ (by omega), Option.bind_some, Option.bind_some]
      by_cases c : rd a j ∈ b
      · rw [if_pos (decide_eq_true c)]
        exact .inr ⟨_, rfl, fun _ => ⟨_, rd_mem hj, c⟩, fun _ => by omega⟩
      · rw [if_neg (by simpa using c), wrap_nat (by omega)]
        refine .inl ⟨(), fun i hi => ?_, rfl⟩
        by_cases e : i = j
        · subst e; exact c
        · exact h i (by omega)
  obtain ⟨t, e, ht⟩ := h
  unfold impl_meet.f slices_ContainsFunc_int64_int64_meet_1.f
  rw [e, Option.bind_some, Option.bind_some]
  congr 1
  exact decide_eq_decide.2 ht
open Classical in
theorem isPart_eq {a b : List Int} (ha : a.length ≤ 4611686018427387904) (hb : b.length ≤ 4611686018427387904) {k : Nat} (hk : a.length + b.length + 5 < k) : impl_isPart.f k a b = some (decide (∀ x ∈ a, x ∈ b)) := by
  have h : ∃ t, Zaw.f k a b = some t ∧ (t ≥ 0 ↔ ∃ x ∈ a, ¬ x ∈ b) := by
    unfold Zaw.f
    refine loopIc0 (m := a.length) (b.length + 1) (F := fun k i (_ : Unit) => Zaw.l0 k a (a.length : Int) i b) (fun j _ => ∀ i : Nat, i < j → rd a i ∈ b) (fun r => ∃ t, r = some t ∧ (t ≥ 0 ↔ ∃ x ∈ a, ¬ x ∈ b)) ?_ ?_ (k := k) (s := ()) (by omega) (fun i hi => by omega)
    · intro k _ _ h
      simp only [Zaw.l0]
      rw [if_neg (by omega)]
      exact ⟨_, rfl, fun z => by omega, fun ⟨x, hx, hxb⟩ => by obtain ⟨i, hi, e⟩ := mem_rd.1 hx; exact absurd (by rw [← e]; exact h i hi) hxb⟩
    · intro k j _ hkk hj h
      simp only [Zaw.l0, impl_isPart_1_v.f]
      rw [if_pos (by omega), if_pos (by omega), if_pos (by omega), contains_eq hb _ (by omega), Option.bind_some, Option.bind_some]
      by_cases c : rd a j ∈ b
      · rw [decide_eq_true c, if_neg (by decide), wrap_nat (by omega)]
        refine .inl ⟨(), fun i hi => ?_, rfl⟩
        by_cases e : i = j
        · subst e; exact c
        · exact h i (by omega)
      · rw [decide_eq_false c, if_pos (by decide)]
        exact .inr ⟨_, rfl, fun _ => ⟨_, rd_mem hj, c⟩, fun _ => by omega⟩
  obtain ⟨t, e, ht⟩ := h
  unfold impl_isPart.f slices_ContainsFunc_int64_int64_isPart_1.f
  rw [e, Option.bind_some, Option.bind_some]
  congr 1
  by_cases c : ∀ x ∈ a, x ∈ b
  · rw [decide_eq_true c, decide_eq_false (fun z => by obtain ⟨x, h1, h2⟩ := ht.1 z; exact h2 (c x h1))]; rfl
  · rw [decide_eq_false c, decide_eq_true (ht.2 (by
      apply Classical.byContradiction
      intro z
      exact c (fun x hx => Classical.byContradiction fun hn => z ⟨x, hx, hn⟩)))]; rfl
def bad (g h : List Int) : Prop := (∃ x ∈ g, x ∈ h) ∧ (¬ ∀ x ∈ g, x ∈ h) ∧ ¬ ∀ x ∈ h, x ∈ g
def grp (gs : List (List Int)) (k : Nat) : List Int := rd_L1 gs (k : Int)
theorem grp_get {gs : List (List Int)} {k : Nat} (h : k < gs.length) : grp gs k = gs[k] := by
  unfold grp rd_L1
  rw [Int.toNat_natCast, List.getD_eq_getElem?_getD, List.getElem?_eq_getElem h]
  rfl
theorem grp_take {gs : List (List Int)} {k i : Nat} (h : k < i) (hi : i ≤ gs.length) : rd_L1 (gs.take i) (k : Int) = grp gs k := by
  rw [grp_get (by omega)]
  unfold rd_L1
  rw [Int.toNat_natCast, List.getD_eq_getElem?_getD, List.getElem?_eq_getElem (by rw [List.length_take]; omega)]
  simp
def OKG (n : Int) (gs : List (List Int)) (j : Nat) : Prop := ∀ k, k < j → (RS n (grp gs k) ∧ (grp gs k).length ≠ 0) ∧ ∀ m, m < k → ¬ bad (grp gs k) (grp gs m)
theorem OKG_succ {n : Int} {gs : List (List Int)} {j : Nat} (h : OKG n gs j) (h1 : RS n (grp gs j)) (h2 : (grp gs j).length ≠ 0) (h3 : ∀ m, m < j → ¬ bad (grp gs j) (grp gs m)) : OKG n gs (j + 1) := fun k hk => by
  by_cases e : k = j
  · subst e; exact ⟨⟨h1, h2⟩, h3⟩
  · exact h k (by omega)
def small (gs : List (List Int)) : Prop := gs.length ≤ 1048576 ∧ ∀ k, k < gs.length → (grp gs k).length ≤ 1048576
open Classical in
theorem implLam_l1 {gs : List (List Int)} (hs : small gs) {den : Int} {l : List Int} {i : Nat} (hi : i < gs.length) {ans : Bool} {Bd : Nat} (hB : 3000000 ≤ Bd)
    (hbad : ∀ m, m < i → bad (grp gs i) (grp gs m) → ans = false) (hnext : (∀ m, m < i → ¬ bad (grp gs i) (grp gs m)) → ∀ k, Bd < k → Zar.l0 k gs gs (gs.length : Int) ((i + 1 : Nat) : Int) den l = some ans) :
    ∀ e m k, m + e = i → (∀ m', m' < m → ¬ bad (grp gs i) (grp gs m')) → Bd + e + 1 < k → Zar.l1 k gs (grp gs i) gs (gs.length : Int) (i : Int) (gs.take i) ((gs.take i).length : Int) (m : Int) den l = some ans := by
  have ht : (gs.take i).length = i := by rw [List.length_take]; omega
  have hs1 := hs.1
  intro e
  induction e with
  | zero =>
    intro m k hm hn hk
    obtain ⟨k, rfl, _⟩ := succ_of_lt hk
    obtain rfl : m = i := by omega
    simp only [Zar.l1]
    rw [if_neg (by omega), wrap_nat (by omega)]
    exact hnext hn k (by omega)
  | succ e ih =>
    intro m k hm hn hk
    obtain ⟨k, rfl, hk'⟩ := succ_of_lt hk
    have g1 := hs.2 i hi
    have g2 := hs.2 m (by omega)
    simp only [Zar.l1]
    rw [if_pos (by omega), if_pos (by omega), if_pos (by omega), grp_take (by omega) (by omega), meet_eq (by omega) (by omega) (by omega), Option.bind_some, isPart_eq (by omega) (by omega) (by omega), Option.bind_some, isPart_eq (by omega) (by omega) (by omega), Option.bind_some, wrap_nat (by omega)]
    have go : ¬ bad (grp gs i) (grp gs m) → Zar.l1 k gs (grp gs i) gs (gs.length : Int) (i : Int) (gs.take i) ((gs.take i).length : Int) ((m + 1 : Nat) : Int) den l = some ans := fun hb => by
      refine ih (m + 1) k (by omega) (fun m' hm' => ?_) (by omega)
      by_cases e : m' = m
      · subst e; exact hb
      · exact hn m' (by omega)
    by_cases c1 : ∃ x ∈ grp gs i, x ∈ grp gs m
    · rw [if_pos (decide_eq_true c1)]
      by_cases c2 : ∀ x ∈ grp gs i, x ∈ grp gs m
      · rw [if_pos (decide_eq_true c2)]
        exact go (fun z => z.2.1 c2)
      · rw [if_neg (by rw [decide_eq_false c2]; decide)]
        by_cases c3 : ∀ x ∈ grp gs m, x ∈ grp gs i
        · rw [if_pos (decide_eq_true c3)]
          exact go (fun z => z.2.2 c3)
        · rw [if_neg (by rw [decide_eq_false c3]; decide), hbad m (by omega) ⟨c1, c2, c3⟩]
    · rw [if_neg (by rw [decide_eq_false c1]; decide)]
      exact go (fun z => c1 z.1)
open Classical in
theorem implLam_l0 {gs : List (List Int)} (hs : small gs) {den : Int} {l : List Int} (hl : l.length ≤ 1048576) : ∀ d i k, i + d = gs.length → OKG (l.length : Int) gs i → 3000000 + d * (gs.length + 10) < k →
    Zar.l0 k gs gs (gs.length : Int) (i : Int) den l = some (decide (OKG (l.length : Int) gs gs.length)) := by
  have hs1 := hs.1
  intro d
  induction d with
  | zero =>
    intro i k hi ho hk
    obtain ⟨k, rfl, _⟩ := succ_of_lt hk
    obtain rfl : i = gs.length := by omega
    simp only [Zar.l0]
    rw [if_neg (by omega), decide_eq_true ho]
  | succ d ih =>
    intro i k hi ho hk
    have hd : (d + 1) * (gs.length + 10) = d * (gs.length + 10) + (gs.length + 10) := Nat.succ_mul ..
    obtain ⟨k, rfl, hk'⟩ := succ_of_lt hk
    obtain ⟨k, rfl, hk''⟩ := succ_of_lt (show 3000000 + d * (gs.length + 10) + gs.length + 5 < k by omega)
    have hig : i < gs.length := by omega
    have g1 := hs.2 i hig
    simp only [Zar.l0]
    rw [if_pos (by omega), if_pos (by omega), if_pos (by omega)]
    change (if ((grp gs i).length : Int) = 0 then _ else _) = _
    by_cases c1 : (grp gs i).length = 0
    · rw [if_pos (by omega)]
      simp only [Zar.j2]
      rw [if_pos trivial, decide_eq_false (fun z => (z i hig).1.2 c1)]
    · rw [if_neg (by omega)]
      unfold impl_size_int64.f
      rw [Option.bind_some]
      change ((impl_isSet.f (k + 1) (grp gs i) (l.length : Int)).bind _) = _
      rw [isSet_eq (by omega) (by omega) (by omega), Option.bind_some]
      simp only [Zar.j2]
      by_cases c2 : RS (l.length : Int) (grp gs i)
      · rw [decide_eq_true c2, if_neg (by decide), if_pos (by omega), if_pos (by omega), Option.bind_some, Int.toNat_natCast]
        refine implLam_l1 hs hig (Bd := 3000000 + d * (gs.length + 10)) (by omega) (fun m hm hb => decide_eq_false fun z => (z i hig).2 m hm hb) (fun hn k2 hk2 => ih (i + 1) k2 (by omega) (OKG_succ ho c2 c1 hn) hk2) i 0 k (by omega) (fun m' h => by omega) (by omega)
      · rw [decide_eq_false c2, if_pos (by decide), decide_eq_false (fun z => c2 (z i hig).1.1)]
theorem nodup_leL : ∀ {T L : List Int}, T.Nodup → (∀ x ∈ T, x ∈ L) → T.length ≤ L.length
  | [], L, _, _ => by simp
  | a :: T, L, hd, hm => by
    have h1 := List.nodup_cons.1 hd
    have := nodup_leL (L := L.erase a) h1.2 (fun x hx => (List.mem_erase_of_ne (fun z => h1.1 (by rw [← z]; exact hx))).2 (hm x (List.mem_cons_of_mem _ hx)))
    rw [List.length_erase_of_mem (hm a List.mem_cons_self)] at this
    have h3 := List.length_pos_of_mem (hm a List.mem_cons_self)
    rw [List.length_cons]
    omega
theorem RS_lt {n : Int} {g : List Int} (h : RS n g) : ∀ d i : Nat, i + d + 1 < g.length → rd g i < rd g ((i + d + 1 : Nat) : Int)
  | 0, i, hi => by
    have := (h (i + 1) (by omega)).2 (by omega)
    rw [show i + 1 - 1 = i by omega] at this
    exact this
  | d + 1, i, hi => by
    have h1 := RS_lt h d i (by omega)
    have h2 := (h (i + (d + 1) + 1) (by omega)).2 (by omega)
    rw [show i + (d + 1) + 1 - 1 = i + d + 1 by omega] at h2
    omega
theorem RS_nodup {n : Int} {g : List Int} (h : RS n g) : g.Nodup := by
  rw [List.Nodup, List.pairwise_iff_getElem]
  intro i j hi hj hij
  have := RS_lt h (j - i - 1) i (by omega)
  rw [show i + (j - i - 1) + 1 = j by omega, rd_nat hi, rd_nat hj] at this
  omega
noncomputable def cm (g h : List Int) : Nat := by classical exact (h.filter fun x => decide (x ∈ g)).length
open Classical in
theorem cm_take {g h : List Int} {j : Nat} (hj : j < h.length) : cm g (h.take (j + 1)) = cm g (h.take j) + if rd h j ∈ g then 1 else 0 := by
  unfold cm
  rw [List.take_succ_eq_append_getElem hj, List.filter_append, List.length_append, rd_nat hj]
  congr 1
  by_cases c : h[j] ∈ g
  · rw [if_pos c]; simp [c]
  · rw [if_neg c]; simp [c]
open Classical in
theorem cm_bad {n : Int} {g h : List Int} (hg : RS n g) (hh : RS n h) : (0 < cm g h ∧ cm g h < g.length ∧ cm g h < h.length) ↔ bad g h := by
  have e1 : 0 < cm g h ↔ ∃ x ∈ g, x ∈ h := by
    unfold cm
    rw [List.length_pos_iff_exists_mem]
    constructor
    · rintro ⟨x, hx⟩
      have := List.mem_filter.1 hx
      exact ⟨x, by simpa using this.2, this.1⟩
    · rintro ⟨x, h1, h2⟩
      exact ⟨x, List.mem_filter.2 ⟨h2, by simpa using h1⟩⟩
  have e2 : cm g h < h.length ↔ ¬ ∀ x ∈ h, x ∈ g := by
    unfold cm
    have hle := List.length_filter_le (fun x => decide (x ∈ g)) h
    constructor
    · intro hlt z
      rw [List.filter_eq_self.2 (fun x hx => by simpa using z x hx)] at hlt
      omega
    · intro z
      rcases Nat.lt_or_ge ((h.filter fun x => decide (x ∈ g)).length) h.length with c | c
      · exact c
      · exfalso
        apply z
        have hx := List.filter_sublist (p := fun x => decide (x ∈ g)) (l := h)
        have he := hx.eq_of_length (by omega)
        intro x hxh
        rw [← he] at hxh
        simpa using (List.mem_filter.1 hxh).2
  have e3 : cm g h < g.length ↔ ¬ ∀ x ∈ g, x ∈ h := by
    unfold cm
    have hnd : (h.filter fun x => decide (x ∈ g)).Nodup := (RS_nodup hh).filter _
    have hle : (h.filter fun x => decide (x ∈ g)).length ≤ g.length := nodup_leL hnd (fun x hx => by simpa using (List.mem_filter.1 hx).2)
    constructor
    · intro hlt z
      have := nodup_leL (RS_nodup hg) (L := h.filter fun x => decide (x ∈ g)) (fun x hx => List.mem_filter.2 ⟨z x hx, by simpa using hx⟩)
      omega
    · intro z
      rcases Nat.lt_or_ge ((h.filter fun x => decide (x ∈ g)).length) g.length with c | c
      · exact c
      · exfalso
        apply z
        intro x hx
        apply Classical.byContradiction
        intro hxh
        have hn : (x :: (h.filter fun x => decide (x ∈ g))).Nodup := List.nodup_cons.2 ⟨fun hm => hxh (List.mem_filter.1 hm).1, hnd⟩
        have := nodup_leL hn (L := g) (fun y hy => by
          rcases List.mem_cons.1 hy with rfl | hy
          · exact hx
          · simpa using (List.mem_filter.1 hy).2)
        rw [List.length_cons] at this
        omega
  unfold bad
  rw [e1, e2, e3]
open Classical in
theorem specLam_l2 {gs : List (List Int)} (hs : small gs) {n : Int} {i m : Nat} (hi : i < gs.length) (hm : m < i) {ans : Bool} {Bd : Nat} (hB : 3000000 ≤ Bd)
    (hbad : (0 < cm (grp gs i) (grp gs m) ∧ cm (grp gs i) (grp gs m) < (grp gs i).length ∧ cm (grp gs i) (grp gs m) < (grp gs m).length) → ans = false)
    (hnext : ¬ (0 < cm (grp gs i) (grp gs m) ∧ cm (grp gs i) (grp gs m) < (grp gs i).length ∧ cm (grp gs i) (grp gs m) < (grp gs m).length) → ∀ k, Bd < k → Zaq.l1 k n gs (i : Int) ((m + 1 : Nat) : Int) = some ans) :
    ∀ e j k, j + e = (grp gs m).length → Bd + e + 1 < k → Zaq.l2 k n gs (i : Int) (m : Int) (cm (grp gs i) ((grp gs m).take j) : Int) (j : Int) = some ans := by
  have hs1 := hs.1
  have g1 := hs.2 i hi
  have g2 := hs.2 m (by omega)
  intro e
  induction e with
  | zero =>
    intro j k hj hk
    obtain ⟨k, rfl, _⟩ := succ_of_lt hk
    have ej : j = (grp gs m).length := by omega
    rw [List.take_of_length_le (by omega)]
    simp only [Zaq.l2]
    rw [if_pos (by omega), if_pos (by omega)]
    change (if (j : Int) < ((grp gs m).length : Int) then _ else _) = _
    rw [if_neg (by omega)]
    change (if (cm (grp gs i) (grp gs m) : Int) > 0 then (if 0 ≤ (i : Int) then (if (i : Int) < (gs.length : Int) then (if (cm (grp gs i) (grp gs m) : Int) < ((grp gs i).length : Int) then (if (cm (grp gs i) (grp gs m) : Int) < ((grp gs m).length : Int) then _ else _) else _) else _) else _) else _) = _
    rw [wrap_nat (by omega)]
    by_cases c1 : 0 < cm (grp gs i) (grp gs m)
    · rw [if_pos (by omega), if_pos (by omega), if_pos (by omega)]
      by_cases c2 : cm (grp gs i) (grp gs m) < (grp gs i).length
      · rw [if_pos (by omega)]
        by_cases c3 : cm (grp gs i) (grp gs m) < (grp gs m).length
        · rw [if_pos (by omega), hbad ⟨c1, c2, c3⟩]
        · rw [if_neg (by omega)]
          exact hnext (fun z => c3 z.2.2) k (by omega)
      · rw [if_neg (by omega)]
        exact hnext (fun z => c2 z.2.1) k (by omega)
    · rw [if_neg (by omega)]
      exact hnext (fun z => c1 z.1) k (by omega)
  | succ e ih =>
    intro j k hj hk
    obtain ⟨k, rfl, hk'⟩ := succ_of_lt hk
    have hjl : j < (grp gs m).length := by omega
    have hcm : cm (grp gs i) ((grp gs m).take j) ≤ j := by
      unfold cm
      refine Nat.le_trans (List.length_filter_le _ _) ?_
      rw [List.length_take]; omega
    have hct := cm_take (g := grp gs i) hjl
    simp only [Zaq.l2]
    rw [if_pos (by omega), if_pos (by omega)]
    change (if (j : Int) < ((grp gs m).length : Int) then (if 0 ≤ (i : Int) then (if (i : Int) < (gs.length : Int) then (if 0 ≤ (j : Int) then ((spec_l00Has.f k (grp gs i) (rd (grp gs m) (j : Int))).bind _) else _) else _) else _) else _) = _
    rw [if_pos (by omega), if_pos (by omega), if_pos (by omega), if_pos (by omega), has_eq (by omega) _ (by omega), Option.bind_some, wrap_nat (by omega), wrap_nat (by omega)]
    by_cases c : rd (grp gs m) j ∈ grp gs i
    · rw [if_pos (decide_eq_true c)]
      rw [if_pos c] at hct
      have := ih (j + 1) k (by omega) (by omega)
      rw [hct] at this
      exact this
    · rw [if_neg (by rw [decide_eq_false c]; decide)]
      rw [if_neg c] at hct
      have := ih (j + 1) k (by omega) (by omega)
      rw [hct] at this
      exact this
open Classical in
theorem specLam_l1 {gs : List (List Int)} (hs : small gs) (h12 : gs.length ≤ 12) {n : Int} {i : Nat} (hi : i < gs.length) (ho : OKG n gs i) (hri : RS n (grp gs i)) {ans : Bool} {Bd : Nat} (hB : 3000000 ≤ Bd)
    (hbad : ∀ m, m < i → bad (grp gs i) (grp gs m) → ans = false) (hnext : (∀ m, m < i → ¬ bad (grp gs i) (grp gs m)) → ∀ k, Bd < k → Zaq.l0 k n gs ((i + 1 : Nat) : Int) = some ans) :
    ∀ e m k, m + e = i → (∀ m', m' < m → ¬ bad (grp gs i) (grp gs m')) → Bd + e * 1048600 + 3 < k → Zaq.l1 k n gs (i : Int) (m : Int) = some ans := by
  have hs1 := hs.1
  intro e
  induction e with
  | zero =>
    intro m k hm hn hk
    obtain ⟨k, rfl, _⟩ := succ_of_lt hk
    obtain ⟨k, rfl, _⟩ := succ_of_lt (show Bd + 1 < k by omega)
    obtain rfl : m = i := by omega
    simp only [Zaq.l1]
    rw [if_neg (by omega)]
    simp only [Zaq.j3]
    rw [if_neg (by decide), wrap_nat (by omega)]
    exact hnext hn k (by omega)
  | succ e ih =>
    intro m k hm hn hk
    obtain ⟨k, rfl, _⟩ := succ_of_lt hk
    obtain ⟨k, rfl, _⟩ := succ_of_lt (show Bd + e * 1048600 + 1048600 < k by omega)
    have hmi : m < i := by omega
    have g2 := hs.2 m (by omega)
    have hb := cm_bad hri (ho m hmi).1.1
    simp only [Zaq.l1]
    rw [if_pos (by omega), decide_eq_true (by omega)]
    simp only [Zaq.j3]
    rw [if_pos trivial]
    have hz : ((0 : Nat) : Int) = (cm (grp gs i) ((grp gs m).take 0) : Int) := by simp [cm]
    have := specLam_l2 hs hi hmi (n := n) (ans := ans) (Bd := Bd + e * 1048600 + 3) (by omega) (fun z => hbad m hmi (hb.1 z)) (fun z k2 hk2 => ih (m + 1) k2 (by omega) (fun m' hm' => by
      by_cases e : m' = m
      · subst e; exact fun y => z (hb.2 y)
      · exact hn m' (by omega)) hk2) (grp gs m).length 0 k (by omega) (by omega)
    rw [← hz] at this
    exact this
open Classical in
theorem specLam_l0 {gs : List (List Int)} (hs : small gs) (h12 : gs.length ≤ 12) {n : Int} (hn : 0 ≤ n ∧ n ≤ 4611686018427387904) : ∀ d i k, i + d = gs.length → OKG n gs i → 3000000 + d * 20000000 < k →
    Zaq.l0 k n gs (i : Int) = some (decide (OKG n gs gs.length)) := by
  have hs1 := hs.1
  intro d
  induction d with
  | zero =>
    intro i k hi ho hk
    obtain ⟨k, rfl, _⟩ := succ_of_lt hk
    obtain rfl : i = gs.length := by omega
    simp only [Zaq.l0]
    rw [if_neg (by omega), decide_eq_true ho, decide_eq_true (by omega)]
  | succ d ih =>
    intro i k hi ho hk
    obtain ⟨k, rfl, hk'⟩ := succ_of_lt hk
    obtain ⟨k, rfl, hk''⟩ := succ_of_lt (show 3000000 + d * 20000000 + 19000000 < k by omega)
    have hig : i < gs.length := by omega
    have g1 := hs.2 i hig
    simp only [Zaq.l0]
    rw [if_pos (by omega), if_pos (by omega), w64 (x := n - 1) (by omega) (by omega)]
    change ((spec_l00Rises.f (k + 1) (grp gs i) 0 (n - 1)).bind fun t => if t = true then (Zaq.j1 (k + 1) n gs (i : Int) (((grp gs i).length : Int) == 0)) else (Zaq.j1 (k + 1) n gs (i : Int) true)) = _
    rw [rises_eq (by omega) (by omega), Option.bind_some]
    simp only [Zaq.j1]
    by_cases c2 : RS n (grp gs i)
    · rw [if_pos (decide_eq_true c2)]
      by_cases c1 : (grp gs i).length = 0
      · rw [if_pos (by rw [beq_iff_eq]; omega), decide_eq_false (fun z => (z i hig).1.2 c1)]
      · rw [if_neg (by rw [beq_iff_eq]; omega)]
        exact specLam_l1 hs h12 hig ho c2 (Bd := 3000000 + d * 20000000) (by omega) (fun m hm hb => decide_eq_false fun z => (z i hig).2 m hm hb) (fun hn k2 hk2 => ih (i + 1) k2 (by omega) (OKG_succ ho c2 c1 hn) hk2) i 0 k (by omega) (fun m' h => by omega) (by omega)
    · rw [if_neg (by rw [decide_eq_false c2]; decide), if_pos trivial, decide_eq_false (fun z => c2 (z i hig).1.1)]
open Classical in
theorem specLam_many {gs : List (List Int)} (hs : small gs) (h12 : ¬ gs.length ≤ 12) {n : Int} (hn : 0 ≤ n ∧ n ≤ 4611686018427387904) : ∀ d i k, i + d = gs.length → 3000000 + d * 10 < k →
    Zaq.l0 k n gs (i : Int) = some false := by
  have hs1 := hs.1
  intro d
  induction d with
  | zero =>
    intro i k hi hk
    obtain ⟨k, rfl, _⟩ := succ_of_lt hk
    simp only [Zaq.l0]
    rw [if_neg (by omega), decide_eq_false (by omega)]
  | succ d ih =>
    intro i k hi hk
    obtain ⟨k, rfl, hk'⟩ := succ_of_lt hk
    obtain ⟨k, rfl, hk''⟩ := succ_of_lt (show 3000000 + d * 10 + 8 < k by omega)
    obtain ⟨k, rfl, hk3⟩ := succ_of_lt (show 3000000 + d * 10 + 7 < k by omega)
    obtain ⟨k, rfl, hk4⟩ := succ_of_lt (show 3000000 + d * 10 + 6 < k by omega)
    have g1 := hs.2 i (by omega)
    have fin : Zaq.l1 (k + 1 + 1) n gs (i : Int) 0 = some false := by
      have hj : Zaq.j3 (k + 1) n gs (i : Int) 0 false = some false := by
        simp only [Zaq.j3]
        rw [if_neg (by decide), wrap_nat (by omega)]
        exact ih (i + 1) k (by omega) (by omega)
      simp only [Zaq.l1]
      rw [decide_eq_false (show ¬ (gs.length : Int) ≤ 12 by omega), hj]
      split <;> rfl
    simp only [Zaq.l0]
    rw [if_pos (by omega), if_pos (by omega), w64 (x := n - 1) (by omega) (by omega)]
    change ((spec_l00Rises.f (k + 1 + 1 + 1) (grp gs i) 0 (n - 1)).bind fun t => if t = true then (Zaq.j1 (k + 1 + 1 + 1) n gs (i : Int) (((grp gs i).length : Int) == 0)) else (Zaq.j1 (k + 1 + 1 + 1) n gs (i : Int) true)) = _
    rw [rises_eq (by omega) (by omega), Option.bind_some]
    simp only [Zaq.j1]
    rw [fin, if_pos trivial]
    split
    · split <;> rfl
    · rfl
open Classical in
noncomputable def IsLaminar_res (den : Int) (l : List Int) (gs : List (List Int)) : Bool := vv den l && (decide (gs.length ≤ 12) && decide (OKG (l.length : Int) gs gs.length))
open Classical in
theorem l04Laminar_eq {den : Int} {l : List Int} {gs : List (List Int)} (hs : small gs) (hl : l.length ≤ 1048576) {k : Nat} (hk : 300000000 < k) : spec_l04Laminar.f k den l gs = some (IsLaminar_res den l gs) := by
  have hs1 := hs.1
  unfold spec_l04Laminar.f IsLaminar_res
  rw [l01Is_eq (by omega) den (by omega), Option.bind_some]
  by_cases c : vv den l = true
  · rw [if_pos c, c, Bool.true_and]
    unfold Zaq.f
    by_cases c2 : gs.length ≤ 12
    · rw [show (0 : Int) = ((0 : Nat) : Int) from rfl, specLam_l0 hs c2 (by omega) gs.length 0 k (by omega) (fun k h => by omega) (by omega), Option.bind_some, decide_eq_true c2, Bool.true_and]
    · rw [show (0 : Int) = ((0 : Nat) : Int) from rfl, specLam_many hs c2 (by omega) gs.length 0 k (by omega) (by omega), Option.bind_some, decide_eq_false c2, Bool.false_and]
  · rw [if_neg c]
    simp only [Bool.not_eq_true] at c
    rw [c, Bool.false_and]
open Classical in
theorem IsLaminar_impl {den : Int} {l : List Int} {gs : List (List Int)} (hs : small gs) (hl : l.length ≤ 1048576) {k : Nat} (hk : 300000000 < k) : Zar.f k den l gs = some (IsLaminar_res den l gs) := by
  have hs1 := hs.1
  obtain ⟨k, rfl, hk'⟩ := succ_of_lt hk
  unfold Zar.f IsLaminar_res
  rw [validValues_eq (by omega) den (by omega), Option.bind_some]
  simp only [Zar.j0]
  by_cases c : vv den l = true
  · rw [if_pos c, c, Bool.true_and]
    by_cases c2 : gs.length ≤ 12
    · rw [if_neg (by rw [decide_eq_false (by omega)]; decide), decide_eq_true c2, Bool.true_and, show (0 : Int) = ((0 : Nat) : Int) from rfl]
      have hm : gs.length * (gs.length + 10) ≤ 12 * 22 := Nat.mul_le_mul c2 (by omega)
      exact implLam_l0 hs hl gs.length 0 k (by omega) (fun k h => by omega) (by omega)
    · rw [if_pos (decide_eq_true (by omega)), decide_eq_false c2, Bool.false_and]
  · rw [if_neg c, if_pos trivial]
    simp only [Bool.not_eq_true] at c
    rw [c, Bool.false_and]
end Go.Proofs.Ytoelhfbmeegbdaa.Q
end
section
namespace Go.Proofs.Ytoelhfbmeegbdaa.Q
open Go.RowKit Go.Proofs.YtoelhfbmeegbdaaW.PrintWords Go.Proofs.YtoelhfbmeegbdaaW.PrintLast Go.Proofs.Ytoelhfbmeegbdaa.P Go.Proofs.Ytoelhfbmeegbdaa.B
set_option linter.unusedVariables false
set_option linter.unusedSimpArgs false
theorem szInt64S_eq {l : List Int} (hl : l.length ≤ 9223372036854775807) {a : Int} (ha : 0 ≤ a ∧ a ≤ 1048576) : laws_szInt64S.f l a = some (if a - (l.length : Int) < 0 then -1 else a - (l.length : Int)) := by
  unfold laws_szInt64S.f
  rw [w64 (by omega) (by omega)]
  split <;> rfl
theorem szValues_at {l : List Int} (hl : l.length ≤ 9223372036854775807) (den : Int) {a : Int} (ha : 0 ≤ a ∧ a ≤ 1048576) : ∃ r, laws_szValues.f den l a = some r ∧ (0 ≤ r → r ≤ 1048576 ∧ l.length ≤ 1048576) := by
  unfold laws_szValues.f
  rw [szInt64S_eq hl ha, Option.bind_some]
  by_cases c : a - (l.length : Int) < 0
  · rw [if_pos c]
    exact ⟨_, by rw [if_pos (by omega)], fun h => by omega⟩
  · rw [if_neg c]
    exact ⟨_, by rw [if_neg c], fun h => by omega⟩
theorem szInt64SS_at {gs : List (List Int)} (hg : gs.length ≤ 9223372036854775807) (hy : ∀ y ∈ gs, y.length ≤ 9223372036854775807) {a : Int} (ha : 0 ≤ a ∧ a ≤ 1048576) {k : Nat} (hk : 1048576 + 10 < k) : ∃ r, laws_szInt64SS.f k gs a = some r ∧ (0 ≤ r → r ≤ 1048576 ∧ small gs) := by
  unfold laws_szInt64SS.f
  rw [w64 (by omega) (by omega)]
  by_cases c : a - (gs.length : Int) < 0
  · rw [if_pos c]
    exact ⟨_, rfl, fun h => by omega⟩
  · rw [if_neg c]
    refine loopI0 (m := gs.length) (F := fun k i (x : Int) => laws_szInt64SS.l0 k gs x i) (fun j x => (0 ≤ x ∧ x ≤ 1048576) ∧ ∀ m, m < j → (grp gs m).length ≤ 1048576) (fun r => ∃ r', r = some r' ∧ (0 ≤ r' → r' ≤ 1048576 ∧ small gs)) ?_ ?_ (k := k) (by omega) ⟨by omega, fun m hm => by omega⟩
    · intro k x h
      simp only [laws_szInt64SS.l0]
      rw [if_neg (by omega)]
      exact ⟨_, rfl, fun _ => ⟨h.1.2, by omega, h.2⟩⟩
    · intro k j x hj h
      have hl : (grp gs j).length ≤ 9223372036854775807 := by rw [grp_get hj]; exact hy _ (List.getElem_mem hj)
      simp only [laws_szInt64SS.l0]
      rw [if_pos (by omega), if_pos (by omega)]
      change (∃ s', _ ∧ ((laws_szInt64S.f (grp gs j) x).bind _) = _) ∨ (∃ r', ((laws_szInt64S.f (grp gs j) x).bind _) = _ ∧ _)
      rw [szInt64S_eq hl h.1, Option.bind_some]
      by_cases c2 : x - ((grp gs j).length : Int) < 0
      · rw [if_pos c2, if_pos (by omega)]
        exact .inr ⟨_, rfl, fun h => by omega⟩
      · rw [if_neg c2, if_neg (by omega), wrap_nat (by omega)]
        refine .inl ⟨_, ⟨by omega, fun m hm => ?_⟩, rfl⟩
        by_cases e : m = j
        · subst e; omega
        · exact h.2 m (by omega)
theorem toInt64SS_eq {gs : List (List Int)} (hs : small gs) {k : Nat} (hk : 3000000 < k) : Zax.f k gs = some gs := by
  have hs1 := hs.1
  unfold Zax.f
  rw [if_pos (by omega), Int.toNat_natCast, if_pos (by omega)]
  refine loopIc0 (m := gs.length) 1048600 (F := fun k i (x : List (List Int)) => Zax.l0 k gs x i) (fun j x => x = gs.take j ++ List.replicate (gs.length - j) []) (fun r => r = some gs) ?_ ?_ (k := k) (by omega) (by simp)
  · rintro k x _ rfl
    simp only [Zax.l0]
    rw [if_neg (by omega)]
    simp
  · rintro k j x hkk hj rfl
    have g1 := hs.2 j hj
    simp only [Zax.l0]
    rw [if_pos (by omega), if_pos (by omega)]
    change (∃ s', _ ∧ ((Zav.f k (grp gs j)).bind _) = _) ∨ ((Zav.f k (grp gs j)).bind _) = _
    rw [toInt64S_eq g1 (by omega), Option.bind_some, if_pos (by rw [List.length_append, List.length_take, List.length_replicate]; omega), wrap_nat (by omega)]
    refine .inl ⟨_, ?_, rfl⟩
    rw [Int.toNat_natCast, List.set_append_right _ _ (by rw [List.length_take]; omega), List.length_take, show j - min j gs.length = 0 by omega, show gs.length - j = (gs.length - (j + 1)) + 1 by omega, List.replicate_succ, List.set_cons_zero, List.take_succ_eq_append_getElem hj, grp_get hj, List.append_assoc]
    rfl
theorem eqInt64SS_self {gs : List (List Int)} (hs : small gs) {k : Nat} (hk : 3000000 < k) : Za6.f k gs gs = some true := by
  have hs1 := hs.1
  unfold Za6.f
  rw [if_pos rfl]
  refine loopIc0 (m := gs.length) 1048600 (F := fun k i (_ : Unit) => Za6.l0 k gs gs i) (fun _ _ => True) (fun r => r = some true) ?_ ?_ (k := k) (s := ()) (by omega) trivial
  · intro k _ _ _
    simp only [Za6.l0]
    rw [if_neg (by omega)]
  · intro k j _ hkk hj _
    have g1 := hs.2 j hj
    simp only [Za6.l0]
    rw [if_pos (by omega), if_pos (by omega), if_pos (by omega)]
    change (∃ s', _ ∧ ((Za2.f k (grp gs j) (grp gs j)).bind _) = _) ∨ ((Za2.f k (grp gs j) (grp gs j)).bind _) = _
    rw [eqInt64S_self (by omega) (by omega), Option.bind_some, if_pos rfl, wrap_nat (by omega)]
    exact .inl ⟨(), trivial, rfl⟩
end Go.Proofs.Ytoelhfbmeegbdaa.Q
end
section
namespace Go.Proofs.Ytoelhfbmeegbdaa.Q
open Go.RowKit Go.Proofs.YtoelhfbmeegbdaaW.PrintWords Go.Proofs.YtoelhfbmeegbdaaW.PrintLast Go.Proofs.Ytoelhfbmeegbdaa.P Go.Proofs.Ytoelhfbmeegbdaa.B
set_option linter.unusedVariables false
set_option linter.unusedSimpArgs false
def pt (list set : List Int) : Int := (set.map fun i => rd list i).sum
theorem pt_take {list set : List Int} {j : Nat} (h : j < set.length) : pt list (set.take (j + 1)) = pt list (set.take j) + rd list (rd set j) := by
  unfold pt
  rw [take_snoc h, List.map_append, List.sum_append, rd_nat h]
  simp
def ixs (n : Nat) (set : List Int) : Prop := set.length ≤ 1000 ∧ ∀ j : Nat, j < set.length → 0 ≤ rd set j ∧ rd set j < n
theorem rd_in {l : List Int} {M i : Int} (h : ∀ x ∈ l, -M ≤ x ∧ x ≤ M) (h0 : 0 ≤ i) (h1 : i < l.length) : -M ≤ rd l i ∧ rd l i ≤ M := by
  obtain ⟨n, rfl⟩ : ∃ n : Nat, i = n := ⟨i.toNat, by omega⟩
  exact h _ (rd_mem (by omega))
theorem pt_in {list set : List Int} {M : Int} (hM : 0 ≤ M) (h : ∀ x ∈ list, -M ≤ x ∧ x ≤ M) (hs : ixs list.length set) : ∀ j : Nat, j ≤ set.length → -(j * M) ≤ pt list (set.take j) ∧ pt list (set.take j) ≤ j * M
  | 0, _ => by simp [pt]
  | j + 1, hj => by
    have h1 := pt_in hM h hs j (by omega)
    have h2 := hs.2 j (by omega)
    have h3 := rd_in h h2.1 h2.2
    rw [pt_take (by omega)]
    have e : ((j + 1 : Nat) : Int) * M = j * M + M := by rw [Int.natCast_add, Int.add_mul, Int.natCast_one, Int.one_mul]
    omega
theorem pt_in6 {list set : List Int} (h : ∀ x ∈ list, -1000000 ≤ x ∧ x ≤ 1000000) (hs : ixs list.length set) {j : Nat} (hj : j ≤ set.length) : -1000000000 ≤ pt list (set.take j) ∧ pt list (set.take j) ≤ 1000000000 := by
  have h1 := pt_in (M := 1000000) (by omega) h hs j hj
  have h2 := hs.1
  omega
theorem pt_all {list set : List Int} (h : ∀ x ∈ list, -1000000 ≤ x ∧ x ≤ 1000000) (hs : ixs list.length set) : -1000000000 ≤ pt list set ∧ pt list set ≤ 1000000000 := by
  have := pt_in6 h hs (j := set.length) (Nat.le_refl _)
  rwa [List.take_length] at this
theorem l04Part_eq {list set : List Int} (h : ∀ x ∈ list, -1000000 ≤ x ∧ x ≤ 1000000) (hs : ixs list.length set) {k : Nat} (hk : 1000 < k) : Zba.f k list set = some (pt list set) := by
  have h1 := hs.1
  unfold Zba.f
  refine loopI0 (m := set.length) (F := fun k i (s : Int) => Zba.l0 k list set s i) (fun j s => s = pt list (set.take j)) (fun r => r = some (pt list set)) ?_ ?_ (k := k) (by omega) (by simp [pt])
  · rintro k s rfl
    simp only [Zba.l0]
    rw [if_neg (by omega), List.take_length]
  · rintro k j s hj rfl
    have h2 := hs.2 j hj
    have h3 := pt_in6 h hs (j := j + 1) (by omega)
    rw [pt_take hj] at h3
    simp only [Zba.l0]
    rw [if_pos (by omega), if_pos (by omega), if_pos (by omega), if_pos (by omega), wrap_nat (by omega)]
    exact .inl ⟨_, by rw [pt_take hj, w64 (by omega) (by omega)], rfl⟩
theorem sumOf_eq {den : Int} {list set : List Int} (hd : 1 ≤ den) (h : ∀ x ∈ list, -1000000 ≤ x ∧ x ≤ 1000000) (hs : ixs list.length set) {k : Nat} (hk : 1000 < k) : impl_sumOf.f k den list set = some (pt list set / den, cl (pt list set) den) := by
  have h1 := hs.1
  unfold impl_sumOf.f
  refine loopI0 (m := set.length) (F := fun k i (s : Int) => impl_sumOf.l0 k s set (set.length : Int) i den list) (fun j s => s = pt list (set.take j)) (fun r => r = some (pt list set / den, cl (pt list set) den)) ?_ ?_ (k := k) (by omega) (by simp [pt])
  · rintro k s rfl
    have h4 := pt_all h hs
    simp only [impl_sumOf.l0]
    rw [if_neg (by omega), List.take_length, floor_eq hd (by omega) (by omega), Option.bind_some, ceiling_eq hd (by omega) (by omega), Option.bind_some]
  · rintro k j s hj rfl
    have h2 := hs.2 j hj
    have h3 := pt_in6 h hs (j := j + 1) (by omega)
    rw [pt_take hj] at h3
    simp only [impl_sumOf.l0]
    rw [if_pos (by omega), if_pos (by omega), if_pos (by omega), if_pos (by omega), if_pos (by omega), wrap_nat (by omega)]
    exact .inl ⟨_, by rw [pt_take hj, w64 (by omega) (by omega)], rfl⟩
def ioz (n : Nat) : List Int := (List.range n).map Int.ofNat
theorem ioz_len (n : Nat) : (ioz n).length = n := by simp [ioz]
theorem ioz_succ (n : Nat) : ioz (n + 1) = ioz n ++ [(n : Int)] := by simp [ioz, List.range_succ]
theorem ioz_rd {n j : Nat} (h : j < n) : rd (ioz n) j = j := by
  rw [rd_nat (by rw [ioz_len]; exact h)]
  simp [ioz]
theorem ioz_ixs {n : Nat} (h : n ≤ 1000) : ixs n (ioz n) := by
  refine ⟨by rw [ioz_len]; exact h, fun j hj => ?_⟩
  rw [ioz_len] at hj
  rw [ioz_rd hj]
  omega
theorem l04All_eq {n : Nat} (hn : n ≤ 1000000) {k : Nat} (hk : n < k) : spec_l04All.f k (n : Int) = some (ioz n) := by
  unfold spec_l04All.f
  refine loopI0 (m := n) (F := fun k i (s : List Int) => spec_l04All.l0 k (n : Int) s i) (fun j s => s = ioz j) (fun r => r = some (ioz n)) ?_ ?_ (k := k) hk rfl
  · rintro k s rfl
    simp only [spec_l04All.l0]
    rw [if_neg (by omega)]
  · rintro k j s hj rfl
    simp only [spec_l04All.l0]
    rw [if_pos (by omega), ioz_len, if_pos (by omega), wrap_nat (by omega)]
    exact .inl ⟨_, (ioz_succ j).symm, rfl⟩
theorem RS_ge {n : Int} {g : List Int} (h : RS n g) : ∀ i : Nat, i < g.length → (i : Int) ≤ rd g i
  | 0, hi => (h 0 hi).1.1
  | i + 1, hi => by
    have h1 := RS_ge h i (by omega)
    have h2 := (h (i + 1) hi).2 (by omega)
    rw [show i + 1 - 1 = i by omega] at h2
    omega
theorem RS_len {n : Nat} {g : List Int} (h : RS (n : Int) g) : g.length ≤ n := by
  rcases Nat.eq_zero_or_pos g.length with c | c
  · omega
  · have h1 := RS_ge h (g.length - 1) (by omega)
    have h2 := (h (g.length - 1) (by omega)).1
    omega
theorem RS_ixs {n : Nat} (hn : n ≤ 1000) {g : List Int} (h : RS (n : Int) g) : ixs n g :=
  ⟨by have := RS_len h; omega, fun j hj => by have := (h j hj).1; omega⟩
def gall (gs : List (List Int)) (n : Nat) : List (List Int) := gs ++ [ioz n]
theorem gall_ixs {gs : List (List Int)} {n : Nat} (hn : n ≤ 1000) (h : OKG (n : Int) gs gs.length) : ∀ g ∈ gall gs n, ixs n g := by
  intro g hg
  rcases List.mem_append.1 hg with hg | hg
  · obtain ⟨i, hi, rfl⟩ := List.getElem_of_mem hg
    have := (h i hi).1.1
    rw [grp_get hi] at this
    exact RS_ixs hn this
  · rw [List.mem_singleton.1 hg]
    exact ioz_ixs hn
def gok (den : Int) (l list g : List Int) : Bool := decide (pt list g = pt l g / den) || decide (pt list g = cl (pt l g) den)
theorem gok_within {den : Int} (hd : 1 ≤ den) (l list g : List Int) : decide (pt l g / den ≤ pt list g ∧ pt list g ≤ cl (pt l g) den) = gok den l list g := by
  have h1 := ediv_mul_le (a := pt l g) hd
  have h2 := cl_mul (a := pt l g) hd
  have h3 : pt l g / den ≤ cl (pt l g) den ∧ cl (pt l g) den ≤ pt l g / den + 1 := by
    constructor
    · apply Classical.byContradiction
      intro c
      have : (cl (pt l g) den + 1) * den ≤ pt l g / den * den := Int.mul_le_mul_of_nonneg_right (by omega) (by omega)
      rw [Int.add_mul, Int.one_mul] at this
      omega
    · apply Classical.byContradiction
      intro c
      have : (pt l g / den + 2) * den ≤ cl (pt l g) den * den := Int.mul_le_mul_of_nonneg_right (by omega) (by omega)
      rw [Int.add_mul] at this
      omega
  unfold gok
  rw [← Bool.decide_or]
  exact decide_eq_decide.2 (by omega)
theorem grp_mem {L : List (List Int)} {n : Nat} (h : n < L.length) : rd_L1 L (n : Int) ∈ L := by
  have := grp_get h
  unfold grp at this
  rw [this]
  exact List.getElem_mem h
theorem grp_rd {L : List (List Int)} {n : Nat} (h : n < L.length) : rd_L1 L (n : Int) = L[n] := grp_get h
structure GO (den : Int) (l list : List Int) : Prop where
  d : 1 ≤ den ∧ den ≤ 1000
  n : l.length ≤ 40
  v : ∀ x ∈ l, -1000000 ≤ x ∧ x ≤ 1000000
  e : list.length = l.length
  w : ∀ x ∈ list, -1000000 ≤ x ∧ x ≤ 1000000
theorem specGroup_l0 {den : Int} {l list : List Int} (H : GO den l list) {L : List (List Int)} (hL : L.length ≤ 1000) (hx : ∀ g ∈ L, ixs l.length g) {k : Nat} (hk : 3000 < k) : Zao.l0 k list L 0 den l = some (L.all (gok den l list)) := by
  have e : ∀ x : Option Bool, x = (if L.all (gok den l list) = true then some true else some false) → x = some (L.all (gok den l list)) := fun x h => by
    rw [h]; cases L.all (gok den l list) <;> rfl
  refine e _ ?_
  by_cases c : L.all (gok den l list) = true
  · rw [if_pos c]
    refine loopIc0 (m := L.length) 1500 (F := fun k i (_ : Unit) => Zao.l0 k list L i den l) (fun _ _ => True) (fun r => r = some true) ?_ ?_ (k := k) (s := ()) (by omega) trivial
    · intro k _ _ _
      simp only [Zao.l0]
      rw [if_neg (by omega)]
    · intro k j _ hkk hj _
      have hm := grp_mem hj
      have hi := hx _ hm
      have h1 := pt_all H.v hi
      have hg := List.all_eq_true.1 c _ hm
      simp only [Zao.l0]
      rw [if_pos (by omega), if_pos (by omega), l04Part_eq H.v hi (by omega), Option.bind_some, l04Part_eq H.w (by rw [H.e]; exact hi) (by omega), Option.bind_some, l01Floor_eq H.d.1 (by omega) (by omega) (by have := H.d; omega), Option.bind_some, l01Ceil_eq H.d.1 (by omega) (by omega) (by have := H.d; omega), Option.bind_some, wrap_nat (by omega)]
      refine .inl ⟨(), trivial, ?_⟩
      unfold gok at hg
      by_cases c1 : pt list (rd_L1 L j) = pt l (rd_L1 L j) / den
      · rw [if_pos c1]
      · rw [if_neg c1, if_pos (by simpa [c1] using hg)]
  · rw [if_neg c]
    obtain ⟨b, hb, hx2⟩ := first_bad c
    refine loopIc0 (m := L.length) 1500 (F := fun k i (_ : Unit) => Zao.l0 k list L i den l) (fun n _ => n ≤ b) (fun r => r = some false) (fun k s _ hi => by omega) ?_ (k := k) (s := ()) (by omega) (by omega)
    intro k j _ hkk hj hjb
    have hm := grp_mem hj
    have hi := hx _ hm
    have h1 := pt_all H.v hi
    have hrd := grp_rd hj
    simp only [Zao.l0]
    rw [if_pos (by omega), if_pos (by omega), l04Part_eq H.v hi (by omega), Option.bind_some, l04Part_eq H.w (by rw [H.e]; exact hi) (by omega), Option.bind_some, l01Floor_eq H.d.1 (by omega) (by omega) (by have := H.d; omega), Option.bind_some, l01Ceil_eq H.d.1 (by omega) (by omega) (by have := H.d; omega), Option.bind_some, wrap_nat (by omega)]
    by_cases hg : gok den l list (rd_L1 L j) = true
    · refine .inl ⟨(), ?_, ?_⟩
      · rcases Nat.lt_or_ge j b with h | h
        · omega
        · obtain rfl : j = b := by omega
          rw [hrd, hx2] at hg; exact absurd hg (by simp)
      · unfold gok at hg
        by_cases c1 : pt list (rd_L1 L j) = pt l (rd_L1 L j) / den
        · rw [if_pos c1]
        · rw [if_neg c1, if_pos (by simpa [c1] using hg)]
    · refine .inr ?_
      unfold gok at hg
      rw [if_neg (fun z => hg (by simp [z])), if_neg (fun z => hg (by simp [z]))]
def gsums (den : Int) (l : List Int) (L : List (List Int)) : List S55 := L.map fun g => ⟨pt l g / den, cl (pt l g) den⟩
theorem frame_l1 {den : Int} {l : List Int} (hd : 1 ≤ den) (hv : ∀ x ∈ l, -1000000 ≤ x ∧ x ≤ 1000000) {L : List (List Int)} (hL : L.length ≤ 1000) (hx : ∀ g ∈ L, ixs l.length g) (nums : List S55) {k : Nat} (hk : 3000 < k) : Za8.l1 k nums L [] L (L.length : Int) 0 den l = some (nums, L, gsums den l L) := by
  refine loopIc0 (m := L.length) 1500 (F := fun k i (s : List S55) => Za8.l1 k nums L s L (L.length : Int) i den l) (fun j s => s = gsums den l (L.take j)) (fun r => r = some (nums, L, gsums den l L)) ?_ ?_ (k := k) (by omega) rfl
  · rintro k s _ rfl
    simp only [Za8.l1]
    rw [if_neg (by omega), List.take_length]
  · rintro k j s hkk hj rfl
    have hi := hx _ (grp_mem hj)
    simp only [Za8.l1]
    rw [if_pos (by omega), if_pos (by omega), if_pos (by omega), sumOf_eq hd hv hi (by omega), Option.bind_some, if_pos (by unfold gsums; rw [List.length_map, List.length_take]; omega), wrap_nat (by omega)]
    refine .inl ⟨_, ?_, rfl⟩
    unfold gsums
    rw [List.take_succ_eq_append_getElem hj, List.map_append, grp_rd hj]
    rfl
theorem frame_eq {den : Int} {l : List Int} (h : vv den l = true) {gs : List (List Int)} (hg : gs.length ≤ 12) (ho : OKG (l.length : Int) gs gs.length) {k : Nat} (hk : 6000 < k) : ∃ nums, Za8.f k den l gs = some (nums, gall gs l.length, gsums den l (gall gs l.length)) := by
  have hv := vv_iff.1 h
  have hok := okd_vv h
  unfold Za8.f
  rw [floors_eq hok (by omega), Option.bind_some, ceilings_eq hok (by omega), Option.bind_some]
  refine loopIc0 (m := l.length) 3500 (F := fun k i (s : List S55 × List Int) => Za8.l0 k gs s.1 s.2 (fls den l) (cls den l) (l.length : Int) i den l) (fun j s => s.1.length = j ∧ s.2 = ioz j) (fun r => ∃ nums, r = some (nums, gall gs l.length, gsums den l (gall gs l.length))) ?_ ?_ (k := k) (s := ([], [])) (by omega) ⟨rfl, rfl⟩
  · rintro k ⟨s1, s2⟩ hkk ⟨h1, rfl⟩
    have hcl : slices_Clone_int64_int64.f gs = some gs := by
      unfold slices_Clone_int64_int64.f
      rw [Option.bind_some, if_pos (by simp; omega), List.nil_append]
    simp only [Za8.l0]
    rw [if_neg (by omega), hcl, Option.bind_some, if_pos (by omega), Option.bind_some]
    exact ⟨_, frame_l1 hv.1.1 hv.2.2 (L := gall gs l.length) (by unfold gall; rw [List.length_append, List.length_singleton]; omega) (gall_ixs (by omega) ho) s1 (by omega)⟩
  · rintro k j ⟨s1, s2⟩ hkk hj ⟨h1, rfl⟩
    have h1' : s1.length = j := h1
    simp only [Za8.l0]
    rw [if_pos (by omega), if_pos (by omega), fls_length, cls_length, if_pos (by omega), if_pos (by omega), if_pos (by omega), ioz_len, if_pos (by omega), wrap_nat (by omega)]
    exact .inl ⟨(_, _), ⟨by rw [List.length_append, h1']; rfl, (ioz_succ j).symm⟩, rfl⟩
set_option maxRecDepth 100000 in
theorem implGroup_l1 {den : Int} {l list : List Int} (H : GO den l list) {L : List (List Int)} (hL : L.length ≤ 1000) {n : Nat} (hn : n < L.length) (hi : ixs l.length (rd_L1 L (n : Int))) {ans : Option Bool} {c : Nat}
    (hnext : gok den l list (rd_L1 L (n : Int)) = true → ∀ k, c ≤ k → Zan.l0 k list (gsums den l L) L (L.length : Int) ((n + 1 : Nat) : Int) = ans) (hbad : ¬ gok den l list (rd_L1 L (n : Int)) = true → ans = some false) {k : Nat} (hk : (rd_L1 L (n : Int)).length + c < k) :
    Zan.l1 k list (gsums den l L) (n : Int) 0 L (L.length : Int) (n : Int) (rd_L1 L (n : Int)) ((rd_L1 L (n : Int)).length : Int) 0 = ans := by
  have hi2 := hi.1
  have hgl : (gsums den l L).length = L.length := by unfold gsums; rw [List.length_map]
  have hrd : rd_T55 (gsums den l L) (n : Int) = ⟨pt l (rd_L1 L (n : Int)) / den, cl (pt l (rd_L1 L (n : Int))) den⟩ := by
    unfold rd_T55
    rw [Int.toNat_natCast, List.getD_eq_getElem?_getD, List.getElem?_eq_getElem (by omega), grp_rd hn]
    simp [gsums]
  refine loopIc0 (m := (rd_L1 L (n : Int)).length) c (F := fun k i (s : Int) => Zan.l1 k list (gsums den l L) (n : Int) s L (L.length : Int) (n : Int) (rd_L1 L (n : Int)) ((rd_L1 L (n : Int)).length : Int) i) (fun j s => s = pt list ((rd_L1 L (n : Int)).take j)) (fun r => r = ans) ?_ ?_ (k := k) (by omega) (by simp [pt])
  · rintro k s hkk rfl
    simp only [Zan.l1]
    rw [if_neg (by omega), if_pos (by omega), hgl, if_pos (by omega), hrd, within_eq, Option.bind_some, List.take_length, gok_within H.d.1, wrap_nat (by omega)]
    by_cases c : gok den l list (rd_L1 L (n : Int)) = true
    · rw [if_pos c]; exact hnext c _ hkk
    · rw [if_neg c]; exact (hbad c).symm
  · rintro k j s hkk hj rfl
    have h2 := hi.2 j hj
    have h3 := pt_in6 H.w (by rw [H.e]; exact hi) (j := j + 1) (by omega)
    have he := H.e
    rw [pt_take hj] at h3
    simp only [Zan.l1]
    rw [if_pos (by omega), if_pos (by omega), if_pos (by omega), if_pos (by omega), if_pos (by omega), wrap_nat (by omega)]
    exact .inl ⟨_, by rw [pt_take hj, w64 (by omega) (by omega)], rfl⟩
set_option maxRecDepth 100000 in
theorem implGroup_l0 {den : Int} {l list : List Int} (H : GO den l list) {L : List (List Int)} (hL : L.length ≤ 1000) (hx : ∀ g ∈ L, ixs l.length g) : ∀ d n k, n + d = L.length → d * 1100 < k →
    Zan.l0 k list (gsums den l L) L (L.length : Int) (n : Int) = some ((L.drop n).all (gok den l list)) := by
  intro d
  induction d with
  | zero =>
    intro n k hn hk
    obtain ⟨k, rfl, _⟩ := succ_of_lt hk
    simp only [Zan.l0]
    rw [if_neg (by omega), List.drop_of_length_le (by omega)]
    rfl
  | succ d ih =>
    intro n k hn hk
    obtain ⟨k, rfl, hk'⟩ := succ_of_lt hk
    have hnl : n < L.length := by omega
    have hi := hx _ (grp_mem hnl)
    have hi1 := hi.1
    simp only [Zan.l0]
    rw [if_pos (by omega), if_pos (by omega), if_pos (by omega)]
    refine implGroup_l1 H hL hnl hi (c := d * 1100 + 1) ?_ ?_ (by omega)
    · intro c k2 hk2
      rw [ih (n + 1) k2 (by omega) (by omega), List.drop_eq_getElem_cons hnl, List.all_cons, ← grp_rd hnl, c, Bool.true_and]
    · intro c
      rw [List.drop_eq_getElem_cons hnl, List.all_cons, ← grp_rd hnl]
      simp only [Bool.not_eq_true] at c
      rw [c, Bool.false_and]
open Classical in
noncomputable def IsGroupRounding_res (den : Int) (l : List Int) (gs : List (List Int)) (list : List Int) : Bool := IsLaminar_res den l gs && (IsRounding_res den l list && (gall gs l.length).all (gok den l list))
open Classical in
theorem IsLaminar_iff {den : Int} {l : List Int} {gs : List (List Int)} : IsLaminar_res den l gs = true ↔ vv den l = true ∧ gs.length ≤ 12 ∧ OKG (l.length : Int) gs gs.length := by
  unfold IsLaminar_res
  simp [Bool.and_eq_true]
theorem GO_of {den : Int} {l list : List Int} (h : IsRounding_res den l list = true) : GO den l list := by
  obtain ⟨h1, h2, h3⟩ := IsRounding_iff.1 h
  have hv := vv_iff.1 h1
  exact ⟨hv.1, hv.2.1, hv.2.2, h2, rnd_in (okd_vv h1) h2 h3 (by omega) hv.2.2⟩
theorem IsGroupRounding_spec {den : Int} {l list : List Int} {gs : List (List Int)} (hs : small gs) (hl : l.length ≤ 1048576) (hl2 : list.length ≤ 1048576) {k : Nat} (hk : 300001000 < k) : Zao.f k den l gs list = some (IsGroupRounding_res den l gs list) := by
  obtain ⟨k, rfl, hk'⟩ := succ_of_lt hk
  unfold Zao.f IsGroupRounding_res
  rw [l04Laminar_eq hs hl (by omega), Option.bind_some]
  simp only [Zao.j0]
  by_cases c : IsLaminar_res den l gs = true
  · rw [if_pos c, c, Bool.true_and]
    obtain ⟨h1, h2, h3⟩ := IsLaminar_iff.1 c
    have hn := (vv_iff.1 h1).2.1
    rw [l01Rounds_eq (okd_vv h1) (by omega), Option.bind_some]
    have e : IsRounding_res den l list = (decide (list.length = l.length) && rnd den l list) := by unfold IsRounding_res; rw [h1, Bool.true_and]
    rw [← e]
    by_cases c2 : IsRounding_res den l list = true
    · have H := GO_of c2
      rw [c2, if_neg (by decide), Option.bind_some, if_pos (by simp; omega), Option.bind_some, H.e, l04All_eq (by omega) (by omega), Option.bind_some, List.nil_append, if_pos (by omega), Bool.true_and]
      exact specGroup_l0 H (L := gall gs l.length) (by unfold gall; rw [List.length_append, List.length_singleton]; omega) (gall_ixs (by omega) h3) (by omega)
    · simp only [Bool.not_eq_true] at c2
      rw [c2, if_pos (by decide), Bool.false_and]
  · rw [if_neg c, if_pos trivial]
    simp only [Bool.not_eq_true] at c
    rw [c, Bool.false_and]
theorem IsGroupRounding_impl {den : Int} {l list : List Int} {gs : List (List Int)} (g1 : i64 den) (g2 : ∀ x ∈ l, i64 x) (g3 : ∀ x ∈ list, i64 x) (hs : small gs) (hl : l.length ≤ 1048576) (hl2 : list.length ≤ 1048576) {k : Nat} (hk : 300001000 < k) : Zan.f k den l gs list = some (IsGroupRounding_res den l gs list) := by
  obtain ⟨k, rfl, hk'⟩ := succ_of_lt hk
  unfold Zan.f IsGroupRounding_res
  rw [IsLaminar_impl hs hl (by omega), Option.bind_some]
  simp only [Zan.j0]
  by_cases c : IsLaminar_res den l gs = true
  · rw [if_pos c, c, Bool.true_and]
    obtain ⟨h1, h2, h3⟩ := IsLaminar_iff.1 c
    have hn := (vv_iff.1 h1).2.1
    rw [IsRounding_impl g1 g2 g3 hl hl2 (by omega), Option.bind_some]
    by_cases c2 : IsRounding_res den l list = true
    · have H := GO_of c2
      obtain ⟨nums, hf⟩ := frame_eq h1 h2 h3 (k := k) (by omega)
      rw [c2, if_neg (by decide), hf, Option.bind_some, Bool.true_and]
      have hgl : (gall gs l.length).length ≤ 1000 := by unfold gall; rw [List.length_append, List.length_singleton]; omega
      have := implGroup_l0 H hgl (gall_ixs (by omega) h3) (gall gs l.length).length 0 k (by omega) (by omega)
      rw [List.drop_zero] at this
      exact this
    · simp only [Bool.not_eq_true] at c2
      rw [c2, if_pos (by decide), Bool.false_and]
  · rw [if_neg c, if_pos trivial]
    simp only [Bool.not_eq_true] at c
    rw [c, Bool.false_and]
end Go.Proofs.Ytoelhfbmeegbdaa.Q
end
