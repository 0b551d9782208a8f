import Derived.Test.YtebofadnefkacaaXBFnQuotas
import Derived.Test.YtebofadnefkacaaXP2FnQuotas
import Derived.Test.YtebofadnefkacaaXP3FnQuotas
import Derived.Test.YtebofadnefkacaaXP11FnQuotas
import Derived.Test.YtebofadnefkacaaXP17FnQuotas
import Derived.Test.YtebofadnefkacaaXP12FnQuotas
import Derived.Test.YtebofadnefkacaaXP20FnQuotas
import Derived.Test.YtebofadnefkacaaXP18FnQuotas
import Derived.Test.YtebofadnefkacaaXP19FnQuotas
import Derived.Test.YtebofadnefkacaaXP4FnQuotas
import Derived.Laws.Bits64
import Derived.Test.YtebofadnefkacaaXP15FnQuotas
section
namespace Go.Proofs.Ytebofadnefkacaa.Q
open Go.RowKit Go.Proofs.YtebofadnefkacaaW.PrintWords Go.Proofs.YtebofadnefkacaaW.PrintLast Go.Proofs.Ytebofadnefkacaa.P Go.Proofs.Ytebofadnefkacaa.B
set_option linter.unusedVariables false
set_option linter.unusedSimpArgs false
theorem within_eq (a b c : Int) : Zaz.f a b c = some (decide (b ≤ a ∧ a ≤ c)) := by
  unfold Zaz.f
  by_cases h : b ≤ a <;> simp [h]
theorem floor_eq {a b : Int} (hb : 1 ≤ b) (h1 : -4611686018427387904 ≤ a) (h2 : a ≤ 4611686018427387904) : impl_floor.f a b = some (a / b) := by
  have hd := ediv_bounds (a := a) hb (by omega) h1 h2
  have hm := Int.emod_nonneg a (show b ≠ 0 by omega)
  have hl := Int.emod_lt_of_pos a (show 0 < b by omega)
  unfold impl_floor.f
  rw [if_neg (by omega), tdiv_pos hb, tmod_pos hb]
  by_cases c : 0 ≤ a ∨ b ∣ a
  · simp only [if_pos c]
    rw [if_neg (by omega), w64 (by omega) (by omega)]
    congr 1; omega
  · simp only [if_neg c]
    rw [if_pos (by omega), w64 (x := a / b + 1) (by omega) (by omega), w64 (by omega) (by omega)]
    congr 1; omega
theorem ceiling_eq {a b : Int} (hb : 1 ≤ b) (h1 : -4611686018427387904 ≤ a) (h2 : a ≤ 4611686018427387904) : impl_ceiling.f a b = some (cl a b) := by
  have hd := ediv_bounds (a := -a) hb (M := 4611686018427387904) (by omega) (by omega) (by omega)
  unfold impl_ceiling.f
  rw [w64 (by omega) (by omega), floor_eq hb (by omega) (by omega)]
  simp only [Option.bind_some]
  rw [w64 (by omega) (by omega)]; rfl
theorem sign_cases' (x : Int) : (x < 0 ∧ x.sign = -1) ∨ (x = 0 ∧ x.sign = 0) ∨ (0 < x ∧ x.sign = 1) := by
  rcases Int.lt_trichotomy x 0 with h | h | h
  · exact .inl ⟨h, Int.sign_eq_neg_one_of_neg h⟩
  · exact .inr (.inl ⟨h, by rw [h]; rfl⟩)
  · exact .inr (.inr ⟨h, Int.sign_eq_one_of_pos h⟩)
theorem compare_eq (a b : Int) : impl_compare.f a b = some (a - b).sign := by
  unfold impl_compare.f
  split
  · rw [Int.sign_eq_neg_one_of_neg (by omega)]
  · split
    · rw [Int.sign_eq_one_of_pos (by omega)]
    · have : a - b = 0 := by omega
      rw [this]; rfl
def allIn (l : List Int) (a b : Int) : Bool := l.all fun x => decide (a ≤ x ∧ x ≤ b)
theorem allIn_iff {l : List Int} {a b : Int} : allIn l a b = true ↔ ∀ x ∈ l, a ≤ x ∧ x ≤ b := by simp [allIn]
theorem indexFunc_eq {l : List Int} (hl : l.length ≤ 4611686018427387904) (a b : Int) (k : Nat) (hk : l.length < k) : Zay.f k l a b = some (!allIn l a b) := by
  have h : ∀ d n k, l.length - n = d → n ≤ l.length → d < k → ∃ r, Zan.l0 k l (l.length : Int) (n : Int) a b = some r ∧ decide (r ≥ 0) = !allIn (l.drop n) a b := by
    intro d
    induction d with
    | zero =>
      intro n k hd hn hk
      obtain ⟨k, rfl, _⟩ := succ_of_lt hk
      obtain rfl : n = l.length := by omega
      refine ⟨-1, ?_, by simp [allIn]⟩
      simp only [Zan.l0]
      rw [if_neg (by omega)]
    | succ d ih =>
      intro n k hd hn hk
      obtain ⟨k, rfl, hk'⟩ := succ_of_lt hk
      have h : n < l.length := by omega
      simp only [Zan.l0, impl_areWithin_1_v.f]
      rw [if_pos (by omega), if_pos (by omega), if_pos (by omega), within_eq, rd_nat h, wrap_nat (by omega)]
      simp only [Option.bind_some]
      by_cases c : a ≤ l[n] ∧ l[n] ≤ b
      · obtain ⟨r, h1, h2⟩ := ih (n + 1) k (by omega) (by omega) (by omega)
        refine ⟨r, ?_, ?_⟩
        · simp only [c, and_self, decide_true, Bool.not_true]
          exact h1
        · rw [h2, List.drop_eq_getElem_cons h]
          simp only [allIn, List.all_cons, c, and_self, decide_true, Bool.true_and]
      · refine ⟨n, by simp [c], ?_⟩
        rw [List.drop_eq_getElem_cons h]
        simp only [allIn, List.all_cons, c, decide_false, Bool.false_and, Bool.not_false, decide_eq_true_eq]
        omega
  obtain ⟨r, h1, h2⟩ := h l.length 0 k (by omega) (by omega) hk
  unfold Zay.f Zan.f
  rw [show Zan.l0 k l (l.length : Int) 0 a b = some r from h1]
  simp only [Option.bind_some]
  rw [h2, List.drop_zero]
theorem areWithin_eq {l : List Int} (hl : l.length ≤ 4611686018427387904) (a b : Int) {k : Nat} (hk : l.length < k) : impl_areWithin.f k l a b = some (allIn l a b) := by
  unfold impl_areWithin.f
  rw [indexFunc_eq hl a b k hk]
  simp
theorem sumS : ∀ (l : List Int) (s M : Int), (∀ x ∈ l, -M ≤ x ∧ x ≤ M) → 0 ≤ M → -(l.length * M) ≤ l.sum ∧ l.sum ≤ l.length * M
  | [], _, M, _, _ => by simp
  | x :: xs, s, M, h, hM => by
    have h1 := sumS xs s M (fun y hy => h y (List.mem_cons_of_mem _ hy)) hM
    have h2 := h x (List.mem_cons_self ..)
    rw [List.sum_cons, List.length_cons, Int.natCast_add, Int.add_mul]
    omega
theorem sum_run (D : Int → Option Int) : ∀ (l : List Int) (s M : Int), (∀ x ∈ l, -M ≤ x ∧ x ≤ M) → 0 ≤ M → -9223372036854775808 ≤ s - l.length * M → s + l.length * M ≤ 9223372036854775807 →
    runL (fun x s => .inl (wrap64 (s + x))) D l s = D (s + l.sum)
  | [], s, M, _, _, _, _ => by simp [runL]
  | x :: xs, s, M, h, hM, h1, h2 => by
    have h3 := h x (List.mem_cons_self ..)
    rw [List.length_cons, Int.natCast_add, Int.add_mul] at h1 h2
    have h4 : 0 ≤ (xs.length : Int) * M := Int.mul_nonneg (by omega) hM
    simp only [runL]
    rw [w64 (by omega) (by omega), sum_run D xs (s + x) M (fun y hy => h y (List.mem_cons_of_mem _ hy)) hM (by omega) (by omega), List.sum_cons]
    congr 1; omega
theorem sum_eq {l : List Int} (hl : l.length ≤ 1000000) (h : ∀ x ∈ l, -1000000000000 ≤ x ∧ x ≤ 1000000000000) {k : Nat} (hk : l.length < k) : impl_sum.f k l = some l.sum := by
  have h1 := loopL0 (l := l) (F := fun k i s => impl_sum.l0 k s l (l.length : Int) i) (S := fun x s => .inl (wrap64 (s + x))) (D := fun s => some s) (by omega)
    (fun k s => by simp only [impl_sum.l0]; rw [if_neg (by omega)])
    (fun k n hn s => by
      simp only [impl_sum.l0]
      rw [if_pos (by omega), if_pos (by omega), if_pos (by omega), rd_nat hn, wrap_nat (by omega)]) k hk 0
  unfold impl_sum.f
  rw [h1, sum_run _ l 0 1000000000000 h (by omega) (by omega) (by omega)]
  simp
end Go.Proofs.Ytebofadnefkacaa.Q
end
section
namespace Go.Proofs.Ytebofadnefkacaa.Q
open Go.RowKit Go.Proofs.YtebofadnefkacaaW.PrintWords Go.Proofs.YtebofadnefkacaaW.PrintLast Go.Proofs.Ytebofadnefkacaa.P Go.Proofs.Ytebofadnefkacaa.B
set_option linter.unusedVariables false
set_option linter.unusedSimpArgs false
end Go.Proofs.Ytebofadnefkacaa.Q
end
section
namespace Go.Proofs.Ytebofadnefkacaa.Q
open Go.RowKit Go.Proofs.YtebofadnefkacaaW.PrintWords Go.Proofs.YtebofadnefkacaaW.PrintLast Go.Proofs.Ytebofadnefkacaa.P Go.Proofs.Ytebofadnefkacaa.B
set_option linter.unusedVariables false
set_option linter.unusedSimpArgs false
def ap {α ρ : Type} (f : α → Int) (x : α) (acc : List Int) : List Int ⊕ Option ρ := if acc.length < 17592186044416 then .inl (acc ++ [f x]) else .inr none
theorem ap_run {α ρ : Type} (f : α → Int) (D : List Int → Option ρ) : ∀ (l : List α) (acc : List Int), acc.length + l.length ≤ 17592186044416 → runL (ap f) D l acc = D (acc ++ l.map f)
  | [], acc, _ => by simp [runL]
  | x :: xs, acc, h => by
    rw [List.length_cons] at h
    simp only [runL, ap]
    rw [if_pos (by omega)]
    simp only
    rw [ap_run f D xs _ (by simp; omega)]
    simp
end Go.Proofs.Ytebofadnefkacaa.Q
end
section
namespace Go.Proofs.Ytebofadnefkacaa.Q
open Go.RowKit Go.Proofs.YtebofadnefkacaaW.PrintWords Go.Proofs.YtebofadnefkacaaW.PrintLast Go.Proofs.Ytebofadnefkacaa.P Go.Proofs.Ytebofadnefkacaa.B
set_option linter.unusedVariables false
set_option linter.unusedSimpArgs false
end Go.Proofs.Ytebofadnefkacaa.Q
end
section
namespace Go.Proofs.Ytebofadnefkacaa.Q
open Go.RowKit Go.Proofs.YtebofadnefkacaaW.PrintWords Go.Proofs.YtebofadnefkacaaW.PrintLast Go.Proofs.Ytebofadnefkacaa.P Go.Proofs.Ytebofadnefkacaa.B
set_option linter.unusedVariables false
set_option linter.unusedSimpArgs false
theorem r8Sum_eq {l : List Int} (hl : l.length ≤ 1000000) (h : ∀ x ∈ l, -1000000000000 ≤ x ∧ x ≤ 1000000000000) {k : Nat} (hk : l.length < k) : laws_r8Sum.f k l = some l.sum := by
  have h1 := loopL0 (l := l) (F := fun k i s => laws_r8Sum.l0 k l s i) (S := fun x s => .inl (wrap64 (s + x))) (D := fun s => some s) (by omega)
    (fun k s => by simp only [laws_r8Sum.l0]; rw [if_neg (by omega)])
    (fun k n hn s => by
      simp only [laws_r8Sum.l0]
      rw [if_pos (by omega), if_pos (by omega), rd_nat hn, wrap_nat (by omega)]) k hk 0
  unfold laws_r8Sum.f
  rw [h1, sum_run _ l 0 1000000000000 h (by omega) (by omega) (by omega)]
  simp
def okd (den : Int) (l : List Int) : Prop := 1 ≤ den ∧ den ≤ 1000000000 ∧ l.length ≤ 1000000 ∧ ∀ x ∈ l, -100000000000 ≤ x ∧ x ≤ 100000000000
theorem okd.get {den : Int} {l : List Int} (h : okd den l) {n : Nat} (hn : n < l.length) : -100000000000 ≤ l[n] ∧ l[n] ≤ 100000000000 := h.2.2.2 _ (List.getElem_mem hn)
def fls (den : Int) (l : List Int) : List Int := l.map (· / den)
def cls (den : Int) (l : List Int) : List Int := l.map (cl · den)
theorem fls_length (den : Int) (l : List Int) : (fls den l).length = l.length := List.length_map ..
theorem cls_length (den : Int) (l : List Int) : (cls den l).length = l.length := List.length_map ..
theorem floors_eq {den : Int} {l : List Int} (h : okd den l) {k : Nat} (hk : l.length < k) : impl_Values_floors.f k den l = some (fls den l) := by
  have hl := h.2.2.1
  have h1 := loopL0 (l := l) (F := fun k i acc => Zas.l0 k acc l (l.length : Int) i den l) (S := ap (· / den)) (D := fun s => some s) (by omega)
    (fun k s => by simp only [Zas.l0]; rw [if_neg (by omega)])
    (fun k n hn s => by
      have hx := h.get hn
      simp only [Zas.l0, impl_Values_floors_1_v.f]
      rw [if_pos (by omega), if_pos (by omega), if_pos (by omega), rd_nat hn, wrap_nat (by omega), floor_eq h.1 (by omega) (by omega)]
      simp only [Option.bind_some, ap]
      split <;> rfl) k hk []
  unfold impl_Values_floors.f Zas.f
  rw [h1, ap_run _ _ _ _ (by simp; omega)]
  rfl
theorem ceilings_eq {den : Int} {l : List Int} (h : okd den l) {k : Nat} (hk : l.length < k) : impl_Values_ceilings.f k den l = some (cls den l) := by
  have hl := h.2.2.1
  have h1 := loopL0 (l := l) (F := fun k i acc => Zar.l0 k acc l (l.length : Int) i den l) (S := ap (cl · den)) (D := fun s => some s) (by omega)
    (fun k s => by simp only [Zar.l0]; rw [if_neg (by omega)])
    (fun k n hn s => by
      have hx := h.get hn
      simp only [Zar.l0, impl_Values_ceilings_1_v.f]
      rw [if_pos (by omega), if_pos (by omega), if_pos (by omega), rd_nat hn, wrap_nat (by omega), ceiling_eq h.1 (by omega) (by omega)]
      simp only [Option.bind_some, ap]
      split <;> rfl) k hk []
  unfold impl_Values_ceilings.f Zar.f
  rw [h1, ap_run _ _ _ _ (by simp; omega)]
  rfl
def ps : Int → List Int → List Int
  | _, [] => []
  | s, x :: xs => (s + x) :: ps (s + x) xs
def rs {ρ : Type} (x : Int) (s : List Int × Int) : (List Int × Int) ⊕ Option ρ := if s.1.length < 17592186044416 then .inl (s.1 ++ [wrap64 (s.2 + x)], wrap64 (s.2 + x)) else .inr none
theorem mul_in {a b A B : Int} (ha : 0 ≤ a ∧ a ≤ A) (hb : -B ≤ b ∧ b ≤ B) (hB : 0 ≤ B) : -(A * B) ≤ a * b ∧ a * b ≤ A * B := by
  have x1 := Int.mul_le_mul_of_nonneg_left hb.1 ha.1
  have x2 := Int.mul_le_mul_of_nonneg_left hb.2 ha.1
  have x3 := Int.mul_le_mul_of_nonneg_right ha.2 hB
  rw [Int.mul_neg] at x1
  omega
def oke (den : Int) (nums list : List Int) : Prop := (0 ≤ den ∧ den ≤ 1000) ∧ nums.length ≤ 1000 ∧ list.length = nums.length ∧ (∀ x ∈ nums, -1000000 ≤ x ∧ x ≤ 1000000) ∧ ∀ x ∈ list, -1000000000 ≤ x ∧ x ≤ 1000000000
theorem oke.wrap {den : Int} {nums list : List Int} (h : oke den nums list) {n : Nat} (hn : n < (list.zip nums).length) : wrap64 (wrap64 (den * (list.zip nums)[n].1) - (list.zip nums)[n].2) = den * (list.zip nums)[n].1 - (list.zip nums)[n].2 ∧ -1000001000000 ≤ den * (list.zip nums)[n].1 - (list.zip nums)[n].2 ∧ den * (list.zip nums)[n].1 - (list.zip nums)[n].2 ≤ 1000001000000 := by
  have hm : (list.zip nums)[n] ∈ list.zip nums := List.getElem_mem hn
  generalize (list.zip nums)[n] = p at hm ⊢
  obtain ⟨a, b⟩ := p
  have h1 := h.2.2.2.2 a (List.of_mem_zip hm).1
  have h2 := h.2.2.2.1 b (List.of_mem_zip hm).2
  have h3 := mul_in h.1 h1 (by omega)
  simp only
  rw [w64 (x := den * a) (by omega) (by omega), w64 (by omega) (by omega)]
  omega
end Go.Proofs.Ytebofadnefkacaa.Q
end
section
namespace Go.Proofs.Ytebofadnefkacaa.Q
open Go.RowKit Go.Proofs.YtebofadnefkacaaW.PrintWords Go.Proofs.YtebofadnefkacaaW.PrintLast Go.Proofs.Ytebofadnefkacaa.P Go.Proofs.Ytebofadnefkacaa.B
set_option linter.unusedVariables false
set_option linter.unusedSimpArgs false
def vt (l : List Int) : Bool := decide (1 ≤ l.length ∧ l.length ≤ 12) && (allIn l 0 1000000 && decide (0 < l.sum))
theorem vt_iff {l : List Int} : vt l = true ↔ (1 ≤ l.length ∧ l.length ≤ 12) ∧ (∀ x ∈ l, 0 ≤ x ∧ x ≤ 1000000) ∧ 0 < l.sum := by
  simp only [vt, Bool.and_eq_true, decide_eq_true_eq, allIn_iff]
theorem sum_nonneg : ∀ {l : List Int}, (∀ x ∈ l, 0 ≤ x) → 0 ≤ l.sum
  | [], _ => by simp
  | x :: xs, h => by
    have h1 := sum_nonneg (l := xs) (fun y hy => h y (List.mem_cons_of_mem _ hy))
    have h2 := h x (List.mem_cons_self ..)
    rw [List.sum_cons]; omega
theorem validVotes_eq {l : List Int} (hl : l.length ≤ 4611686018427387904) {k : Nat} (hk : l.length < k) : impl_ValidVotes.f k l = some (vt l) := by
  unfold impl_ValidVotes.f impl_size_int64.f
  simp only [Option.bind_some]
  rw [within_eq, areWithin_eq hl _ _ hk]
  simp only [Option.bind_some]
  have e : decide (1 ≤ (l.length : Int) ∧ (l.length : Int) ≤ 12) = decide (1 ≤ l.length ∧ l.length ≤ 12) := decide_eq_decide.2 (by omega)
  rw [e]
  simp only [vt]
  by_cases c : 1 ≤ l.length ∧ l.length ≤ 12
  · simp only [c, and_self, decide_true, if_true, Bool.true_and]
    cases h : allIn l 0 1000000 with
    | false => simp
    | true =>
      simp only [if_true, Bool.true_and]
      rw [sum_eq (by omega) (fun x hx => by have := allIn_iff.1 h x hx; omega) hk]
      rfl
  · simp only [c, decide_false]
    simp
end Go.Proofs.Ytebofadnefkacaa.Q
end
section
namespace Go.Proofs.Ytebofadnefkacaa.Q
open Go.RowKit Go.Proofs.YtebofadnefkacaaW.PrintWords Go.Proofs.YtebofadnefkacaaW.PrintLast Go.Proofs.Ytebofadnefkacaa.P Go.Proofs.Ytebofadnefkacaa.B
set_option linter.unusedVariables false
set_option linter.unusedSimpArgs false
abbrev i64 (a : Int) : Prop := -9223372036854775808 ≤ a ∧ a ≤ 9223372036854775807
theorem rd_set {a : List Int} {b : Nat} (hb : b < a.length) (x : Int) (i : Nat) : rd (a.set b x) (i : Int) = if i = b then x else rd a i := by
  by_cases hi : i < a.length
  · rw [rd_nat (by simpa using hi), List.getElem_set]
    by_cases h : i = b
    · rw [if_pos h.symm, if_pos h]
    · rw [if_neg (fun h' => h h'.symm), if_neg h, rd_nat hi]
  · have h : i ≠ b := by omega
    rw [if_neg h]
    unfold rd
    simp only [Int.toNat_natCast]
    rw [List.getD_eq_getElem?_getD, List.getD_eq_getElem?_getD, List.getElem?_eq_none (by simp; omega), List.getElem?_eq_none (by omega)]
theorem sum_set : ∀ {a : List Int} {b : Nat} (hb : b < a.length) (x : Int), (a.set b x).sum = a.sum - a[b] + x
  | y :: ys, 0, _, x => by simp; omega
  | y :: ys, b + 1, h, x => by
    simp only [List.set_cons_succ, List.sum_cons, List.getElem_cons_succ]
    rw [sum_set (by simpa using h)]
    omega
theorem vt_sum {l : List Int} (h : vt l = true) : 1 ≤ l.sum ∧ l.sum ≤ 12000000 := by
  have h := vt_iff.1 h
  have h1 := sumS l 0 1000000 (fun x hx => by have := h.2.1 x hx; omega) (by omega)
  omega
theorem vt_sums {l : List Int} (h : vt l = true) : l.length ≤ 1000000 ∧ ∀ x ∈ l, -1000000000000 ≤ x ∧ x ≤ 1000000000000 := by
  have h := vt_iff.1 h
  exact ⟨by omega, fun x hx => by have := h.2.1 x hx; omega⟩
theorem quotas_eq {l : List Int} (h : vt l = true) {a : Int} (ha : 0 ≤ a ∧ a ≤ 100) {k : Nat} (hk : l.length < k) : impl_quotas.f k l a = some (l.sum, l.map (a * ·)) := by
  have hs := vt_sums h
  have hv := vt_iff.1 h
  unfold impl_quotas.f
  rw [sum_eq hs.1 hs.2 (by omega), Option.bind_some]
  have h1 := loopL0 (l := l) (F := fun k i acc => impl_quotas.l0 k a l (l.length : Int) i l.sum acc) (S := ap (a * ·)) (D := fun s => some (l.sum, s)) (by omega)
    (fun k s => by simp only [impl_quotas.l0]; rw [if_neg (by omega)])
    (fun k n hn s => by
      have hx := hv.2.1 _ (List.getElem_mem hn)
      have hm := mul_in (a := a) (b := l[n]) (A := 100) (B := 1000000) ha (by omega) (by omega)
      simp only [impl_quotas.l0, ap]
      rw [if_pos (by omega), if_pos (by omega), if_pos (by omega), rd_nat hn, wrap_nat (by omega), w64 (by omega) (by omega)]
      split <;> rfl) k hk []
  rw [h1, ap_run _ _ _ _ (by simp; omega)]
  rfl
theorem okd_quotas {l : List Int} (h : vt l = true) {a : Int} (ha : 0 ≤ a ∧ a ≤ 100) : okd l.sum (l.map (a * ·)) := by
  have hs := vt_sum h
  have hv := vt_iff.1 h
  refine ⟨hs.1, by omega, by rw [List.length_map]; omega, fun x hx => ?_⟩
  rw [List.mem_map] at hx
  obtain ⟨y, hy, rfl⟩ := hx
  have := hv.2.1 y hy
  have hm := mul_in (a := a) (b := y) (A := 100) (B := 1000000) ha (by omega) (by omega)
  omega
def QuotasOf_res (l : List Int) (a : Int) : List Int × List Int × Bool := if vt l = true ∧ 0 ≤ a ∧ a ≤ 100 then (fls l.sum (l.map (a * ·)), cls l.sum (l.map (a * ·)), true) else ([], [], false)
theorem QuotasOf_impl {l : List Int} {a : Int} (_ : ∀ x ∈ l, i64 x) (_ : i64 a) (hl : l.length ≤ 1048576) {k : Nat} (hk : l.length + 200 < k) : impl_QuotasOf.f k l a = some (QuotasOf_res l a) := by
  obtain ⟨k, rfl, _⟩ := succ_of_lt hk
  unfold impl_QuotasOf.f QuotasOf_res
  rw [validVotes_eq (by omega) (by omega), Option.bind_some]
  by_cases h : vt l = true
  · rw [if_pos h, within_eq, Option.bind_some]
    simp only [impl_QuotasOf.j0]
    by_cases h2 : 0 ≤ a ∧ a ≤ 100
    · have hm : (l.map (a * ·)).length = l.length := List.length_map ..
      rw [if_neg (by simp [h2]), if_pos ⟨h, h2⟩, quotas_eq h h2 (by omega), Option.bind_some, floors_eq (okd_quotas h h2) (by rw [hm]; omega), Option.bind_some, ceilings_eq (okd_quotas h h2) (by rw [hm]; omega)]; rfl
    · rw [if_pos (by simp only [Bool.not_eq_true', decide_eq_false_iff_not]; exact h2), if_neg (fun h => h2 h.2)]
  · rw [if_neg h, if_neg (fun h' => h h'.1)]
    simp only [impl_QuotasOf.j0]
    rw [if_pos trivial]
end Go.Proofs.Ytebofadnefkacaa.Q
end
section
namespace Go.Proofs.Ytebofadnefkacaa.Q
open Go.RowKit Go.Proofs.YtebofadnefkacaaW.PrintWords Go.Proofs.YtebofadnefkacaaW.PrintLast Go.Proofs.Ytebofadnefkacaa.P Go.Proofs.Ytebofadnefkacaa.B
set_option linter.unusedVariables false
set_option linter.unusedSimpArgs false
def sl (votes list : List Int) : Bool := decide (list.length = votes.length) && (allIn list 0 100 && decide (list.sum ≤ 100))
theorem sl_iff {votes list : List Int} : sl votes list = true ↔ list.length = votes.length ∧ (∀ x ∈ list, 0 ≤ x ∧ x ≤ 100) ∧ list.sum ≤ 100 := by
  simp only [sl, Bool.and_eq_true, decide_eq_true_eq, allIn_iff]
theorem isSeats_eq {votes list : List Int} (hv : votes.length ≤ 1000000) {k : Nat} (hk : votes.length < k) : impl_isSeats.f k votes list = some (sl votes list) := by
  unfold impl_isSeats.f sl
  by_cases h : list.length = votes.length
  · rw [if_pos (by omega), areWithin_eq (by omega) _ _ (by omega), Option.bind_some, decide_eq_true h, Bool.true_and]
    by_cases h2 : allIn list 0 100 = true
    · rw [if_pos h2, sum_eq (by omega) (fun x hx => by have := allIn_iff.1 h2 x hx; omega) (by omega), h2]; rfl
    · rw [if_neg h2]; simp only [Bool.not_eq_true] at h2; rw [h2]; rfl
  · rw [if_neg (by omega), decide_eq_false h]; rfl
def oq (lo hi l : List Int) (n : Nat) : List Int := ((List.range n).filter fun (i : Nat) => decide (rd l (i : Int) < rd lo (i : Int)) || decide (rd l (i : Int) > rd hi (i : Int))).map Int.ofNat
theorem oq_length (lo hi l : List Int) (n : Nat) : (oq lo hi l n).length ≤ n := by
  unfold oq
  rw [List.length_map]
  have := List.length_filter_le (fun (i : Nat) => decide (rd l (i : Int) < rd lo (i : Int)) || decide (rd l (i : Int) > rd hi (i : Int))) (List.range n)
  rw [List.length_range] at this
  exact this
theorem oq_succ (lo hi l : List Int) (n : Nat) : oq lo hi l (n + 1) = if rd l n < rd lo n ∨ rd l n > rd hi n then oq lo hi l n ++ [(n : Int)] else oq lo hi l n := by
  unfold oq
  rw [List.range_succ, List.filter_append, List.map_append]
  by_cases h : rd l n < rd lo n ∨ rd l n > rd hi n
  · rw [if_pos h]
    simp only [List.filter_cons, List.filter_nil]
    rw [if_pos (by simpa using h)]
    rfl
  · rw [if_neg h]
    simp only [List.filter_cons, List.filter_nil]
    rw [if_neg (by simpa using h)]
    simp
def OutsideQuotas_res (votes list : List Int) : List Int × Bool := if vt votes = true ∧ sl votes list = true then (oq (fls votes.sum (votes.map (list.sum * ·))) (cls votes.sum (votes.map (list.sum * ·))) list list.length, true) else ([], false)
theorem sl_sum {votes list : List Int} (h : sl votes list = true) : 0 ≤ list.sum ∧ list.sum ≤ 100 := by
  have h := sl_iff.1 h
  exact ⟨sum_nonneg fun x hx => (h.2.1 x hx).1, h.2.2⟩
theorem sl_sums {votes list : List Int} (hv : vt votes = true) (h : sl votes list = true) : list.length ≤ 1000000 ∧ ∀ x ∈ list, -1000000000000 ≤ x ∧ x ≤ 1000000000000 := by
  have h := sl_iff.1 h
  have hv := vt_iff.1 hv
  exact ⟨by omega, fun x hx => by have := h.2.1 x hx; omega⟩
theorem OutsideQuotas_impl {votes list : List Int} (_ : ∀ x ∈ votes, i64 x) (_ : ∀ x ∈ list, i64 x) (hl : votes.length ≤ 1048576) (hl2 : list.length ≤ 1048576) {k : Nat} (hk : votes.length + list.length + 200 < k) : Zak.f k votes list = some (OutsideQuotas_res votes list) := by
  obtain ⟨k, rfl, _⟩ := succ_of_lt hk
  unfold Zak.f OutsideQuotas_res
  rw [validVotes_eq (by omega) (by omega), Option.bind_some]
  by_cases h : vt votes = true
  · have hv := vt_iff.1 h
    rw [if_pos h, isSeats_eq (by omega) (by omega), Option.bind_some]
    simp only [Zak.j0]
    by_cases h2 : sl votes list = true
    · have hs := sl_iff.1 h2
      have hm : (votes.map (list.sum * ·)).length = votes.length := List.length_map ..
      rw [if_neg (by simp [h2]), if_pos ⟨h, h2⟩, sum_eq (sl_sums h h2).1 (sl_sums h h2).2 (by omega), Option.bind_some, quotas_eq h (sl_sum h2) (by omega), Option.bind_some, floors_eq (okd_quotas h (sl_sum h2)) (by rw [hm]; omega), Option.bind_some, ceilings_eq (okd_quotas h (sl_sum h2)) (by rw [hm]; omega), Option.bind_some]
      have g1 : (fls votes.sum (votes.map (list.sum * ·))).length = list.length := by rw [fls_length, List.length_map]; omega
      have g2 : (cls votes.sum (votes.map (list.sum * ·))).length = list.length := by rw [cls_length, List.length_map]; omega
      generalize fls votes.sum (votes.map (list.sum * ·)) = lo at g1 ⊢
      generalize cls votes.sum (votes.map (list.sum * ·)) = hi at g2 ⊢
      refine loopI0 (m := list.length) (F := fun k i (s : List Int) => Zak.l0 k lo hi s list (list.length : Int) i) (fun n s => s = oq lo hi list n) (fun r => r = some (oq lo hi list list.length, true)) ?_ ?_ (k := k) (s := []) (by omega) (by rfl)
      · rintro k s rfl
        simp only [Zak.l0]
        rw [if_neg (by omega)]
      · rintro k n s hn rfl
        have ho := oq_length lo hi list n
        refine .inl ⟨_, rfl, ?_⟩
        simp only [Zak.l0]
        rw [if_pos (by omega), if_pos (by omega), if_pos (by omega), if_pos (by omega), if_pos (by omega), within_eq, Option.bind_some, wrap_nat (by omega), oq_succ]
        by_cases c1 : rd lo n ≤ rd list n ∧ rd list n ≤ rd hi n
        · rw [if_pos (decide_eq_true c1), if_neg (by omega)]
        · rw [if_neg (by simp only [decide_eq_true_eq]; exact c1), if_pos (by omega), if_pos (by omega)]
    · rw [if_pos (by simp [h2]), if_neg (by simp [h2])]
  · rw [if_neg h, if_neg (fun h' => h h'.1)]
    simp only [Zak.j0]
    rw [if_pos trivial]
def fd (den lo hi c d : Int) : List Int → List Int → Int → Int → List Int → List Int × List Int × Bool
  | lv, lf, _, _, [] => (lv, lf, true)
  | lv, lf, one, two, x :: xs =>
    if -1000000000 ≤ x + c * one + d * two - den * max lo (min hi (nr (x + c * one + d * two) den)) ∧ x + c * one + d * two - den * max lo (min hi (nr (x + c * one + d * two) den)) ≤ 1000000000 then
      fd den lo hi c d (lv ++ [max lo (min hi (nr (x + c * one + d * two) den))]) (lf ++ [x + c * one + d * two - den * max lo (min hi (nr (x + c * one + d * two) den))]) (x + c * one + d * two - den * max lo (min hi (nr (x + c * one + d * two) den))) one xs
    else ([], [], false)
end Go.Proofs.Ytebofadnefkacaa.Q
end
section
namespace Go.Proofs.Ytebofadnefkacaa.Q
open Go.RowKit Go.Proofs.YtebofadnefkacaaW.PrintWords Go.Proofs.YtebofadnefkacaaW.PrintLast Go.Proofs.Ytebofadnefkacaa.P Go.Proofs.Ytebofadnefkacaa.B
set_option linter.unusedVariables false
set_option linter.unusedSimpArgs false
def wo (m v k : Int) : Int × Int := if v = 0 then (0, 1) else if m = 0 then (v, k) else if m = 1 then (v * v, k * (k + 1)) else if m = 2 then (2 * v, 2 * k + 1) else (v, k + 1)
def ag (p q : Int × Int) : Int := if p.2 = 0 ∧ q.2 = 0 then (p.1 - q.1).sign else if p.2 = 0 then 1 else if q.2 = 0 then -1 else (p.1 * q.2 - q.1 * p.2).sign
def wk (p : Int × Int) : Prop := (0 ≤ p.1 ∧ p.1 ≤ 1000000000000) ∧ (0 ≤ p.2 ∧ p.2 ≤ 20000) ∧ (p.2 = 0 → 1 ≤ p.1)
theorem mul_nn {a b A B : Int} (ha : 0 ≤ a ∧ a ≤ A) (hb : 0 ≤ b ∧ b ≤ B) : 0 ≤ a * b ∧ a * b ≤ A * B := ⟨Int.mul_nonneg ha.1 hb.1, Int.mul_le_mul ha.2 hb.2 hb.1 (by omega)⟩
theorem wo_wk {m v k : Int} (hv : 0 ≤ v ∧ v ≤ 1000000) (hk : 0 ≤ k ∧ k ≤ 102) : wk (wo m v k) := by
  have h1 := mul_nn hv hv
  have h2 := mul_nn (a := k) (b := k + 1) (A := 102) (B := 103) hk (by omega)
  have h3 : v ≠ 0 → 1 ≤ v * v := fun h => by
    have := Int.mul_le_mul (a := 1) (b := 1) (c := v) (d := v) (by omega) (by omega) (by omega) (by omega)
    omega
  unfold wk wo
  split
  · simp
  · split
    · simp only; omega
    · split
      · simp only; omega
      · split <;> (simp only; omega)
theorem worthOf_eq {m v k : Int} (hv : 0 ≤ v ∧ v ≤ 1000000) (hk : 0 ≤ k ∧ k ≤ 102) : impl_worthOf.f m v k = some (wo m v k) := by
  have h1 := mul_nn hv hv
  have h2 := mul_nn (a := k) (b := k + 1) (A := 102) (B := 103) hk (by omega)
  unfold impl_worthOf.f wo
  by_cases c0 : v = 0
  · rw [if_pos c0, if_pos c0]
  · rw [if_neg c0, if_neg c0]
    by_cases c1 : m = 0
    · rw [if_pos c1, if_pos c1]
    · rw [if_neg c1, if_neg c1]
      by_cases c2 : m = 1
      · rw [if_pos c2, if_pos c2, w64 (x := v * v) (by omega) (by omega), w64 (x := k + 1) (by omega) (by omega), w64 (x := k * (k + 1)) (by omega) (by omega)]
      · rw [if_neg c2, if_neg c2]
        by_cases c3 : m = 2
        · rw [if_pos c3, if_pos c3, w64 (x := 2 * v) (by omega) (by omega), w64 (x := 2 * k) (by omega) (by omega), w64 (x := 2 * k + 1) (by omega) (by omega)]
        · rw [if_neg c3, if_neg c3, w64 (x := k + 1) (by omega) (by omega)]
theorem against_eq {p q : Int × Int} (hp : wk p) (hq : wk q) {k : Nat} (hk : 0 < k) : impl_worth_against.f k p.1 p.2 q.1 q.2 = some (ag p q) := by
  obtain ⟨k, rfl, _⟩ := succ_of_lt hk
  have h1 := mul_nn hp.1 hq.2.1
  have h2 := mul_nn hq.1 hp.2.1
  unfold impl_worth_against.f ag
  by_cases c1 : p.2 = 0
  · rw [if_pos c1]
    simp only [impl_worth_against.j0]
    by_cases c2 : q.2 = 0
    · rw [if_pos (by simp [c2]), if_pos ⟨c1, c2⟩, compare_eq]; rfl
    · rw [if_neg (by simp [c2]), if_pos c1, if_neg (fun h => c2 h.2), if_pos c1]
  · rw [if_neg c1, if_neg (fun h => c1 h.1), if_neg c1]
    simp only [impl_worth_against.j0]
    rw [if_neg (by simp), if_neg c1]
    by_cases c2 : q.2 = 0
    · rw [if_pos c2, if_pos c2]
    · rw [if_neg c2, if_neg c2, w64 (x := p.1 * q.2) (by omega) (by omega), w64 (x := q.1 * p.2) (by omega) (by omega), compare_eq]; rfl
theorem ag_swap {p q : Int × Int} : ag q p = -(ag p q) := by
  unfold ag
  by_cases c1 : p.2 = 0 <;> by_cases c2 : q.2 = 0 <;> simp only [c1, c2, and_self, and_true, true_and, and_false, false_and, if_true, if_false]
  · rw [← Int.sign_neg]; congr 1; omega
  · simp
  · rw [← Int.sign_neg]; congr 1; omega
theorem sign_cases (x : Int) : (x < 0 ∧ x.sign = -1) ∨ (x = 0 ∧ x.sign = 0) ∨ (0 < x ∧ x.sign = 1) := by
  rcases Int.lt_trichotomy x 0 with h | h | h
  · exact .inl ⟨h, Int.sign_eq_neg_one_of_neg h⟩
  · exact .inr (.inl ⟨h, by rw [h]; rfl⟩)
  · exact .inr (.inr ⟨h, Int.sign_eq_one_of_pos h⟩)
theorem sign_le {x : Int} : x.sign ≤ 0 ↔ x ≤ 0 := by rcases sign_cases x with h | h | h <;> omega
theorem ag_refl (p : Int × Int) : ag p p = 0 := by have := ag_swap (p := p) (q := p); omega
theorem ag_le {p q : Int × Int} (hp : wk p) (hq : wk q) : ag p q ≤ 0 ↔ (if q.2 = 0 then (p.2 = 0 → p.1 ≤ q.1) else p.2 ≠ 0 ∧ p.1 * q.2 ≤ q.1 * p.2) := by
  unfold ag
  by_cases c1 : p.2 = 0 <;> by_cases c2 : q.2 = 0 <;> simp only [c1, c2, and_self, and_true, true_and, and_false, false_and, if_true, if_false, not_true_eq_false, not_false_eq_true, ne_eq, false_implies, true_implies, sign_le, eq_self]
  · first | omega | simp
  · first | omega | simp
  · first | omega | simp
  · first | omega | simp
theorem mul_le_cancel {a b c : Int} (hc : 0 < c) (h : a * c ≤ b * c) : a ≤ b := Int.le_of_mul_le_mul_right h hc
theorem ag_trans {p q r : Int × Int} (hp : wk p) (hq : wk q) (hr : wk r) (h1 : ag p q ≤ 0) (h2 : ag q r ≤ 0) : ag p r ≤ 0 := by
  rw [ag_le hp hq] at h1
  rw [ag_le hq hr] at h2
  rw [ag_le hp hr]
  by_cases c3 : r.2 = 0
  · rw [if_pos c3] at h2 ⊢
    intro hp2
    by_cases c2 : q.2 = 0
    · rw [if_pos c2] at h1
      have := h1 hp2
      have := h2 c2
      omega
    · rw [if_neg c2] at h1
      exact absurd hp2 h1.1
  · rw [if_neg c3] at h2 ⊢
    rw [if_neg h2.1] at h1
    refine ⟨h1.1, mul_le_cancel (c := q.2) (by have := hq.2.1; have := h2.1; omega) ?_⟩
    have e1 : p.1 * q.2 * r.2 ≤ q.1 * p.2 * r.2 := Int.mul_le_mul_of_nonneg_right h1.2 hr.2.1.1
    have e2 : q.1 * r.2 * p.2 ≤ r.1 * q.2 * p.2 := Int.mul_le_mul_of_nonneg_right h2.2 hp.2.1.1
    have r1 : p.1 * r.2 * q.2 = p.1 * q.2 * r.2 := Int.mul_right_comm ..
    have r2 : q.1 * p.2 * r.2 = q.1 * r.2 * p.2 := Int.mul_right_comm ..
    have r3 : r.1 * p.2 * q.2 = r.1 * q.2 * p.2 := Int.mul_right_comm ..
    omega
def dv (m k : Int) : Int := if m = 0 then 4 * k * k else if m = 1 then 4 * k * (k + 1) else if m = 2 then (2 * k + 1) * (2 * k + 1) else 4 * (k + 1) * (k + 1)
def cs (m v k w l : Int) : Int := if v = 0 ∨ w = 0 then (v - w).sign else if dv m k = 0 ∧ dv m l = 0 then (v - w).sign else if dv m k = 0 ∨ dv m l = 0 then (dv m l - dv m k).sign else (v * v * dv m l - w * w * dv m k).sign
end Go.Proofs.Ytebofadnefkacaa.Q
end
section
namespace Go.Proofs.Ytebofadnefkacaa.Q
open Go.RowKit Go.Proofs.YtebofadnefkacaaW.PrintWords Go.Proofs.YtebofadnefkacaaW.PrintLast Go.Proofs.Ytebofadnefkacaa.P Go.Proofs.Ytebofadnefkacaa.B
set_option linter.unusedVariables false
set_option linter.unusedSimpArgs false
def cc (m v : Int) : Int := if m = 0 then v else if m = 1 then v * v else if m = 2 then 2 * v else v
def dd (m k : Int) : Int := if m = 0 then k else if m = 1 then k * (k + 1) else if m = 2 then 2 * k + 1 else k + 1
theorem wo_parts {m v k : Int} (h : v ≠ 0) : wo m v k = (cc m v, dd m k) := by
  unfold wo cc dd
  rw [if_neg h]
  split
  · rfl
  · split
    · rfl
    · split <;> rfl
theorem cc_pos {m v : Int} (h : 1 ≤ v) : 1 ≤ cc m v := by
  unfold cc
  have := Int.mul_le_mul (a := 1) (b := 1) (c := v) (d := v) (by omega) (by omega) (by omega) (by omega)
  split
  · omega
  · split
    · omega
    · split <;> omega
theorem dd_nn {m k : Int} (h : 0 ≤ k) : 0 ≤ dd m k := by
  unfold dd
  have := Int.mul_nonneg h (show 0 ≤ k + 1 by omega)
  split
  · omega
  · split
    · omega
    · split <;> omega
theorem dd_lt {m k k' : Int} (h : 0 ≤ k) (h2 : k < k') : dd m k < dd m k' := by
  unfold dd
  have := Int.mul_lt_mul' (a := k) (b := k + 1) (c := k') (d := k' + 1) (by omega) (by omega) (by omega) (by omega)
  split
  · omega
  · split
    · omega
    · split <;> omega
theorem ag_lt {p q : Int × Int} (hp : wk p) (hq : wk q) (h : ¬ (if p.2 = 0 then (q.2 = 0 → q.1 ≤ p.1) else q.2 ≠ 0 ∧ q.1 * p.2 ≤ p.1 * q.2)) : ag p q < 0 := by
  have h1 : ¬ ag q p ≤ 0 := fun h2 => h ((ag_le hq hp).1 h2)
  have := ag_swap (p := p) (q := q)
  omega
abbrev vin (v : Int) : Prop := 0 ≤ v ∧ v ≤ 1000000
abbrev kin (k : Int) : Prop := 0 ≤ k ∧ k ≤ 102
theorem wo_anti {m v k k' : Int} (hv : vin v) (hk : kin k) (hk' : kin k') (h : k ≤ k') : ag (wo m v k') (wo m v k) ≤ 0 := by
  by_cases v0 : v = 0
  · subst v0
    have e : ∀ k, wo m 0 k = (0, 1) := fun k => by unfold wo; rw [if_pos rfl]
    rw [e, e, ag_refl]; omega
  · rcases Int.lt_or_le k k' with h2 | h2
    · have := dd_lt (m := m) hk.1 h2
      have := dd_nn (m := m) hk.1
      have hc := cc_pos (m := m) (v := v) (by omega)
      rw [ag_le (wo_wk hv hk') (wo_wk hv hk), wo_parts v0, wo_parts v0]
      simp only
      split
      · omega
      · exact ⟨by omega, Int.mul_le_mul_of_nonneg_left (by omega) (by omega)⟩
    · obtain rfl : k = k' := by omega
      rw [ag_refl]; omega
theorem wo_zero_lt {m v k l : Int} (hv : vin v) (hk : kin k) (hl : kin l) (h : v ≠ 0) : ag (wo m 0 l) (wo m v k) < 0 := by
  apply ag_lt (wo_wk (by omega) hl) (wo_wk hv hk)
  rw [wo_parts h]
  have hc := cc_pos (m := m) (v := v) (by omega)
  have e : wo m 0 l = (0, 1) := by unfold wo; rw [if_pos rfl]
  rw [e]
  simp only
  rw [if_neg (by omega)]
  omega
def Wt (m : Int) (votes a : List Int) (i : Nat) : Int × Int := wo m (rd votes i) (rd a i)
def bst (m : Int) (votes a : List Int) : Nat → Nat
  | 0 => 0
  | n + 1 => if ag (Wt m votes a n) (Wt m votes a (bst m votes a n)) > 0 then n else bst m votes a n
theorem bst_lt (m : Int) (votes a : List Int) : ∀ n, 0 < n → bst m votes a n < n
  | 0, h => by omega
  | n + 1, _ => by
    simp only [bst]
    split
    · omega
    · cases n with
      | zero => simp [bst]
      | succ n => have := bst_lt m votes a (n + 1) (by omega); omega
def aok (votes a : List Int) : Prop := a.length = votes.length ∧ ∀ x ∈ a, kin x
theorem aok.rd {votes a : List Int} (h : aok votes a) {i : Nat} (hi : i < votes.length) : kin (rd a i) := by
  rw [rd_nat (by rw [h.1]; exact hi)]
  exact h.2 _ (List.getElem_mem _)
theorem vt_rd {votes : List Int} (h : vt votes = true) {i : Nat} (hi : i < votes.length) : vin (rd votes i) := by
  rw [rd_nat hi]
  exact (vt_iff.1 h).2.1 _ (List.getElem_mem _)
theorem Wt_wk {m : Int} {votes a : List Int} (hv : vt votes = true) (ha : aok votes a) {i : Nat} (hi : i < votes.length) : wk (Wt m votes a i) := wo_wk (vt_rd hv hi) (ha.rd hi)
theorem bst_max {m : Int} {votes a : List Int} (hv : vt votes = true) (ha : aok votes a) : ∀ n, n ≤ votes.length → ∀ i, i < n → ag (Wt m votes a i) (Wt m votes a (bst m votes a n)) ≤ 0
  | 0, _, i, h => by omega
  | n + 1, hn, i, hi => by
    have ih := bst_max (m := m) hv ha n (by omega)
    have hb : bst m votes a n < n + 1 := by
      cases n with
      | zero => simp [bst]
      | succ n => have := bst_lt m votes a (n + 1) (by omega); omega
    simp only [bst]
    split
    · rename_i h
      rcases Nat.lt_or_ge i n with h2 | h2
      · have hs := ag_swap (p := Wt m votes a n) (q := Wt m votes a (bst m votes a n))
        exact ag_trans (Wt_wk hv ha (by omega)) (Wt_wk hv ha (by omega)) (Wt_wk hv ha (by omega)) (ih i h2) (by omega)
      · obtain rfl : i = n := by omega
        rw [ag_refl]; omega
    · rename_i h
      rcases Nat.lt_or_ge i n with h2 | h2
      · exact ih i h2
      · obtain rfl : i = n := by omega
        omega
def stp (m : Int) (votes a : List Int) : List Int := a.set (bst m votes a votes.length) (rd a (bst m votes a votes.length) + 1)
def gv (m : Int) (votes : List Int) : Nat → List Int
  | 0 => List.replicate votes.length 0
  | s + 1 => stp m votes (gv m votes s)
theorem gv_length (m : Int) (votes : List Int) : ∀ s, (gv m votes s).length = votes.length
  | 0 => by simp [gv]
  | s + 1 => by simp [gv, stp, gv_length m votes s]
theorem vt_len {votes : List Int} (h : vt votes = true) : 0 < votes.length ∧ votes.length ≤ 12 := by have := (vt_iff.1 h).1; omega
theorem gv_in {m : Int} {votes : List Int} (hv : vt votes = true) : ∀ s, ∀ x ∈ gv m votes s, 0 ≤ x ∧ x ≤ s
  | 0, x, hx => by simp only [gv, List.mem_replicate] at hx; omega
  | s + 1, x, hx => by
    have ih := gv_in (m := m) hv s
    have hb := bst_lt m votes (gv m votes s) votes.length (vt_len hv).1
    simp only [gv, stp] at hx
    rcases List.mem_or_eq_of_mem_set hx with h | h
    · have := ih x h; omega
    · have h2 : bst m votes (gv m votes s) votes.length < (gv m votes s).length := by rw [gv_length]; exact hb
      rw [rd_nat h2] at h
      have := ih _ (List.getElem_mem h2)
      omega
theorem gv_aok {m : Int} {votes : List Int} (hv : vt votes = true) {s : Nat} (hs : s ≤ 102) : aok votes (gv m votes s) :=
  ⟨gv_length .., fun x hx => by have := gv_in hv s x hx; exact ⟨by omega, by omega⟩⟩
theorem gv_sum {m : Int} {votes : List Int} (hv : vt votes = true) : ∀ s : Nat, (gv m votes s).sum = s
  | 0 => by
    simp only [gv]
    generalize votes.length = n
    induction n with
    | zero => rfl
    | succ n ih => rw [List.replicate_succ, List.sum_cons, ih]; rfl
  | s + 1 => by
    have hb : bst m votes (gv m votes s) votes.length < (gv m votes s).length := by rw [gv_length]; exact bst_lt m votes _ votes.length (vt_len hv).1
    simp only [gv, stp]
    rw [sum_set hb, gv_sum hv s, rd_nat hb]
    omega
theorem stp_rd {m : Int} {votes a : List Int} (hv : vt votes = true) (ha : a.length = votes.length) (i : Nat) : rd (stp m votes a) i = if i = bst m votes a votes.length then rd a i + 1 else rd a i := by
  have hb : bst m votes a votes.length < a.length := by rw [ha]; exact bst_lt m votes _ votes.length (vt_len hv).1
  unfold stp
  rw [rd_set hb]
  split
  · rename_i h; rw [h]
  · rfl
theorem stp_W {m : Int} {votes a : List Int} (hv : vt votes = true) (ha : aok votes a) (ha' : aok votes (stp m votes a)) {i : Nat} (hi : i < votes.length) : ag (Wt m votes (stp m votes a) i) (Wt m votes a i) ≤ 0 := by
  have h1 := ha'.rd hi
  have h2 := ha.rd hi
  have h3 := vt_rd hv hi
  unfold Wt
  have h4 := stp_rd (m := m) hv ha.1 i
  refine wo_anti h3 h2 h1 ?_
  rw [h4]
  split <;> omega
def INV (m : Int) (votes a : List Int) : Prop := ∀ i j, i < votes.length → j < votes.length → 0 < rd a i → ag (Wt m votes a j) (wo m (rd votes i) (rd a i - 1)) ≤ 0
theorem stp_INV {m : Int} {votes a : List Int} (hv : vt votes = true) (ha : aok votes a) (ha' : aok votes (stp m votes a)) (h : INV m votes a) : INV m votes (stp m votes a) := by
  intro i j hi hj hp
  have hW := stp_W (m := m) hv ha ha' hj
  have h4 := stp_rd (m := m) hv ha.1 i
  have hb := bst_lt m votes a votes.length (vt_len hv).1
  have k1 := ha'.rd hi
  have k2 := ha.rd hi
  refine ag_trans (Wt_wk hv ha' hj) (Wt_wk hv ha hj) (wo_wk (vt_rd hv hi) (by omega)) hW ?_
  by_cases c : i = bst m votes a votes.length
  · rw [if_pos c] at h4
    rw [h4, show rd a i + 1 - 1 = rd a i by omega, c]
    exact bst_max hv ha votes.length (Nat.le_refl _) j hj
  · rw [if_neg c] at h4
    rw [h4] at hp ⊢
    exact h i j hi hj hp
theorem rd_replicate (n i : Nat) : rd (List.replicate n 0) (i : Int) = 0 := by
  unfold rd
  simp only [Int.toNat_natCast]
  rw [List.getD_eq_getElem?_getD]
  by_cases h : i < n
  · rw [List.getElem?_eq_getElem (by simpa using h)]; simp
  · rw [List.getElem?_eq_none (by simp; omega)]; rfl
theorem gv_INV {m : Int} {votes : List Int} (hv : vt votes = true) : ∀ s, s ≤ 102 → INV m votes (gv m votes s)
  | 0, _ => by
    intro i j _ _ h
    simp only [gv] at h
    rw [rd_replicate] at h
    omega
  | s + 1, hs => stp_INV hv (gv_aok hv (by omega)) (gv_aok hv (s := s + 1) hs) (gv_INV hv s (by omega))
theorem vt_some {votes : List Int} (h : vt votes = true) : ∃ j, j < votes.length ∧ rd votes j ≠ 0 := by
  apply Classical.byContradiction; intro hc
  have h0 : ∀ x ∈ votes, x = 0 := by
    intro x hx
    obtain ⟨j, hj, rfl⟩ := List.getElem_of_mem hx
    apply Classical.byContradiction; intro h0
    exact hc ⟨j, hj, by rw [rd_nat hj]; exact h0⟩
  have h1 := (vt_iff.1 h).2.2
  have h2 : ∀ l : List Int, (∀ x ∈ l, x = 0) → l.sum = 0 := by
    intro l
    induction l with
    | nil => intro _; rfl
    | cons y ys ih => intro h; rw [List.sum_cons, ih fun x hx => h x (List.mem_cons_of_mem _ hx), h y (List.mem_cons_self ..)]; rfl
  rw [h2 votes h0] at h1
  omega
theorem bst_votes {m : Int} {votes a : List Int} (hv : vt votes = true) (ha : aok votes a) : rd votes (bst m votes a votes.length) ≠ 0 := by
  intro h0
  obtain ⟨j, hj, hj0⟩ := vt_some hv
  have hb := bst_lt m votes a votes.length (vt_len hv).1
  have h1 := bst_max (m := m) hv ha votes.length (Nat.le_refl _) j hj
  have h2 := wo_zero_lt (m := m) (vt_rd hv hj) (ha.rd hj) (ha.rd hb) hj0
  unfold Wt at h1
  rw [h0] at h1
  have := ag_swap (p := wo m 0 (rd a (bst m votes a votes.length))) (q := wo m (rd votes j) (rd a j))
  omega
theorem gv_zero {m : Int} {votes : List Int} (hv : vt votes = true) {i : Nat} (hz : rd votes i = 0) : ∀ s, s ≤ 102 → rd (gv m votes s) i = 0
  | 0, _ => by simp only [gv]; exact rd_replicate ..
  | s + 1, hs => by
    simp only [gv]
    rw [stp_rd hv (gv_length ..), if_neg, gv_zero hv hz s (by omega)]
    intro h
    exact bst_votes hv (gv_aok hv (by omega)) (h ▸ hz)
def gw (m : Int) (votes : List Int) (s : Nat) : Int × Int := Wt m votes (gv m votes s) (bst m votes (gv m votes s) votes.length)
theorem isMethod_eq {m : Int} {votes : List Int} (hl : votes.length ≤ 4611686018427387904) {k : Nat} (hk : votes.length < k) : impl_isMethod.f k m votes = some (decide (0 ≤ m ∧ m ≤ 3) && vt votes) := by
  unfold impl_isMethod.f
  rw [within_eq, Option.bind_some]
  by_cases h : 0 ≤ m ∧ m ≤ 3
  · rw [if_pos (decide_eq_true h), validVotes_eq hl hk, decide_eq_true h]; rfl
  · rw [if_neg (by simp only [decide_eq_true_eq]; exact h), decide_eq_false h]; rfl
def gs (m : Int) (votes : List Int) (s : Nat) : List S76 := (List.range s).map fun t => ⟨(bst m votes (gv m votes t) votes.length : Nat), ⟨(gw m votes t).1, (gw m votes t).2⟩⟩
theorem gs_length (m : Int) (votes : List Int) (s : Nat) : (gs m votes s).length = s := by simp [gs]
theorem giveRound_eq {m : Int} {votes a : List Int} (hv : vt votes = true) (ha : aok votes a) (gl : List S76) (hg : gl.length ≤ 1000) (x18 x19 : Int) {k : Nat} (hk : votes.length + 5 < k) :
    ∃ k', k = k' + votes.length + 1 ∧ impl_give.l1 k m votes a gl x18 x19 votes (votes.length : Int) 0 (-1) 0 0 =
      impl_give.l0 k' m votes (a.set (bst m votes a votes.length) (wrap64 (rd a (bst m votes a votes.length) + 1))) (gl ++ [⟨(bst m votes a votes.length : Nat), ⟨(Wt m votes a (bst m votes a votes.length)).1, (Wt m votes a (bst m votes a votes.length)).2⟩⟩]) x18 (wrap64 (x19 + 1)) := by
  have hn := vt_len hv
  have g1 := ha.1
  obtain ⟨k', hk'⟩ : ∃ k', k = k' + votes.length + 1 := ⟨k - votes.length - 1, by omega⟩
  refine ⟨k', hk', ?_⟩
  suffices h : ∀ d n k (s : Int × Int × Int), votes.length - n = d → n ≤ votes.length → k = k' + d + 1 → 2 < k' → (n = 0 ∧ s = (-1, 0, 0) ∨ 0 < n ∧ s = (((bst m votes a n : Nat) : Int), (Wt m votes a (bst m votes a n)).1, (Wt m votes a (bst m votes a n)).2)) →
      impl_give.l1 k m votes a gl x18 x19 votes (votes.length : Int) (n : Int) s.1 s.2.1 s.2.2 = impl_give.l0 k' m votes (a.set (bst m votes a votes.length) (wrap64 (rd a (bst m votes a votes.length) + 1))) (gl ++ [⟨(bst m votes a votes.length : Nat), ⟨(Wt m votes a (bst m votes a votes.length)).1, (Wt m votes a (bst m votes a votes.length)).2⟩⟩]) x18 (wrap64 (x19 + 1)) by
    exact h votes.length 0 k (-1, 0, 0) (by omega) (by omega) hk' (by omega) (.inl ⟨rfl, rfl⟩)
  intro d
  induction d with
  | zero =>
    intro n k s hd hn2 hk2 h3 hs
    obtain rfl : n = votes.length := by omega
    rcases hs with ⟨h, _⟩ | ⟨_, rfl⟩
    · omega
    · have hb := bst_lt m votes a votes.length hn.1
      rw [hk2]
      simp only [impl_give.l1]
      rw [if_neg (by omega), if_pos (by omega), if_pos (by omega), if_pos (by omega), Int.toNat_natCast]
  | succ d ih =>
    intro n k s hd hn2 hk2 h3 hs
    have hn3 : n < votes.length := by omega
    obtain ⟨q, hq⟩ : ∃ q, q = k' + d + 1 := ⟨_, rfl⟩
    rw [show k = q + 1 by omega]
    simp only [impl_give.l1]
    rw [if_pos (by omega), if_pos (by omega), if_pos (by omega), if_pos (by omega), worthOf_eq (vt_rd hv hn3) (ha.rd hn3), Option.bind_some, wrap_nat (by omega)]
    rcases hs with ⟨rfl, rfl⟩ | ⟨h0, rfl⟩
    · rw [if_pos (by omega)]
      exact ih 1 q ((0 : Nat), (Wt m votes a 0).1, (Wt m votes a 0).2) (by omega) (by omega) hq h3 (.inr ⟨by omega, by simp [bst, ag_refl]⟩)
    · have hb := bst_lt m votes a n h0
      rw [if_neg (by simp only; omega)]
      have e := against_eq (p := Wt m votes a n) (q := Wt m votes a (bst m votes a n)) (Wt_wk hv ha hn3) (Wt_wk hv ha (by omega)) (k := q) (by omega)
      rw [show impl_worth_against.f q (wo m (rd votes n) (rd a n)).1 (wo m (rd votes n) (rd a n)).2 (Wt m votes a (bst m votes a n)).1 (Wt m votes a (bst m votes a n)).2 = _ from e, Option.bind_some]
      by_cases c : ag (Wt m votes a n) (Wt m votes a (bst m votes a n)) > 0
      · rw [if_pos c]
        have e2 : bst m votes a (n + 1) = n := by simp only [bst]; rw [if_pos c]
        exact ih (n + 1) q ((n : Nat), (Wt m votes a n).1, (Wt m votes a n).2) (by omega) (by omega) hq h3 (.inr ⟨by omega, by rw [e2]⟩)
      · rw [if_neg c]
        have e2 : bst m votes a (n + 1) = bst m votes a n := by simp only [bst]; rw [if_neg c]
        exact ih (n + 1) q ((bst m votes a n : Nat), (Wt m votes a (bst m votes a n)).1, (Wt m votes a (bst m votes a n)).2) (by omega) (by omega) hq h3 (.inr ⟨by omega, by rw [e2]⟩)
theorem give_eq {m : Int} {votes : List Int} (hv : vt votes = true) {s : Nat} (hs : s ≤ 101) {k : Nat} (hk : 15 * s + 30 < k) : impl_give.f k m votes (s : Int) = some (gv m votes s, gs m votes s) := by
  have hn := vt_len hv
  unfold impl_give.f
  rw [if_pos (by omega), if_pos (by omega), Int.toNat_natCast]
  suffices h : ∀ d n k, s - n = d → n ≤ s → 15 * d + 30 < k → impl_give.l0 k m votes (gv m votes n) (gs m votes n) s (n : Int) = some (gv m votes s, gs m votes s) by
    exact h s 0 k (by omega) (by omega) hk
  intro d
  induction d with
  | zero =>
    intro n k hd hn2 hk2
    obtain rfl : n = s := by omega
    obtain ⟨k, rfl, _⟩ := succ_of_lt hk2
    simp only [impl_give.l0]
    rw [if_neg (by omega)]
  | succ d ih =>
    intro n k hd hn2 hk2
    obtain ⟨k, rfl, _⟩ := succ_of_lt hk2
    have hok := gv_aok (m := m) hv (s := n) (by omega)
    have hb := bst_lt m votes (gv m votes n) votes.length hn.1
    have hr := hok.rd hb
    simp only [impl_give.l0]
    obtain ⟨k', hk', e⟩ := giveRound_eq (m := m) hv hok (gs m votes n) (by rw [gs_length]; omega) s n (k := k) (by omega)
    rw [if_pos (by omega), e, wrap_nat (by omega), w64 (by omega) (by omega)]
    have e2 : gs m votes (n + 1) = gs m votes n ++ [⟨(bst m votes (gv m votes n) votes.length : Nat), ⟨(gw m votes n).1, (gw m votes n).2⟩⟩] := by
      unfold gs
      rw [List.range_succ, List.map_append]; rfl
    have h := ih (n + 1) k' (by omega) (by omega) (by omega)
    rw [e2] at h
    exact h
def SeatsBy_res (m : Int) (votes : List Int) (s : Int) : List Int × Bool := if (0 ≤ m ∧ m ≤ 3) ∧ vt votes = true ∧ 0 ≤ s ∧ s ≤ 100 then (gv m votes s.toNat, true) else ([], false)
theorem SeatsBy_impl' {m : Int} {votes : List Int} {s : Int} (hl : votes.length ≤ 1048576) {k : Nat} (hk : votes.length + 1600 < k) : impl_SeatsBy.f k m votes s = some (SeatsBy_res m votes s) := by
  unfold impl_SeatsBy.f SeatsBy_res
  rw [isMethod_eq (by omega) (by omega), Option.bind_some]
  by_cases h1 : (0 ≤ m ∧ m ≤ 3) ∧ vt votes = true
  · rw [if_pos (by rw [decide_eq_true h1.1, h1.2]; rfl), within_eq, Option.bind_some]
    by_cases h3 : 0 ≤ s ∧ s ≤ 100
    · have e := give_eq (m := m) h1.2 (s := s.toNat) (by omega) (k := k) (by omega)
      rw [show ((s.toNat : Nat) : Int) = s by omega] at e
      rw [if_pos (decide_eq_true h3), if_pos ⟨h1.1, h1.2, h3⟩, e]; rfl
    · rw [if_neg (by simp only [decide_eq_true_eq]; exact h3), if_neg (fun h => h3 h.2.2)]
  · rw [if_neg (by simp only [Bool.and_eq_true, decide_eq_true_eq]; exact h1), if_neg (fun h => h1 ⟨h.1, h.2.1⟩)]
end Go.Proofs.Ytebofadnefkacaa.Q
end
section
namespace Go.Proofs.Ytebofadnefkacaa.Q
open Go.RowKit Go.Proofs.YtebofadnefkacaaW.PrintWords Go.Proofs.YtebofadnefkacaaW.PrintLast Go.Proofs.Ytebofadnefkacaa.P Go.Proofs.Ytebofadnefkacaa.B
set_option linter.unusedVariables false
set_option linter.unusedSimpArgs false
abbrev by8 (l : List Int) : Prop := ∀ x ∈ l, 0 ≤ x ∧ x ≤ 255
theorem and255 {x : Int} (h : 0 ≤ x) (h2 : x < 18446744073709551616) : Go.bits .and .u64 x 255 = x % 256 :=
  bits_mask .u64 64 (by decide) (fun n h₀ h₁ => by rw [IntKind.wrap_u64]; omega) 8 (by decide) x h h2
theorem top_byte (z : Int) : 0 ≤ wrap64 (Go.bits .and .u64 (IntKind.u64.wrap z / 1099511627776) 255) ∧ wrap64 (Go.bits .and .u64 (IntKind.u64.wrap z / 1099511627776) 255) ≤ 255 := by
  have h : 0 ≤ IntKind.u64.wrap z ∧ IntKind.u64.wrap z < 18446744073709551616 := by rw [IntKind.wrap_u64]; omega
  generalize IntKind.u64.wrap z = y at h ⊢
  rw [and255 (by omega) (by omega), w64 (by omega) (by omega)]
  omega
theorem next_ok {l : List Int} {at' seed : Int} (hl : by8 l) (h : 0 ≤ at' ∧ at' ≤ 1000000000000000000) : ∃ x s, spec_l00Src_next.f l at' seed = some (x, at' + 1, s) ∧ 0 ≤ x ∧ x ≤ 255 := by
  obtain ⟨n, rfl⟩ : ∃ n : Nat, at' = n := ⟨at'.toNat, by omega⟩
  unfold spec_l00Src_next.f
  rw [w64 (x := (n : Int) + 1) (by omega) (by omega)]
  by_cases c : (n : Int) < (l.length : Int)
  · rw [if_pos c, if_pos (by omega), if_pos (by omega)]
    have hx := hl _ (rd_mem (l := l) (n := n) (by omega))
    exact ⟨_, _, rfl, by rw [w64 (by omega) (by omega)]; omega, by rw [w64 (by omega) (by omega)]; omega⟩
  · rw [if_neg c, if_neg (by omega)]
    exact ⟨_, _, rfl, top_byte _⟩
theorem pick_ok {l : List Int} {at' seed n : Int} (hl : by8 l) (h : 0 ≤ at' ∧ at' ≤ 100000000000000000) (hn : n ≤ 60000) : ∃ x a s, spec_l00Src_pick.f l at' seed n = some (x, a, s) ∧ (0 ≤ x ∧ (x < n ∨ x = 0)) ∧ at' ≤ a ∧ a ≤ at' + 2 := by
  unfold spec_l00Src_pick.f
  by_cases c : n ≤ 1
  · rw [if_pos c]; exact ⟨0, at', seed, rfl, by omega, by omega, by omega⟩
  · obtain ⟨x, s, e, hx⟩ := next_ok (seed := seed) hl (show 0 ≤ at' ∧ at' ≤ 1000000000000000000 by omega)
    rw [if_neg c, e, Option.bind_some]
    by_cases c2 : n > 200
    · obtain ⟨y, s2, e2, hy⟩ := next_ok (seed := s) hl (show 0 ≤ at' + 1 ∧ at' + 1 ≤ 1000000000000000000 by omega)
      rw [if_pos c2, e2, Option.bind_some, if_neg (by omega), w64 (x := x * 256) (by omega) (by omega), w64 (x := x * 256 + y) (by omega) (by omega), Int.tmod_eq_emod_of_nonneg (by omega)]
      exact ⟨_, _, _, rfl, ⟨Int.emod_nonneg _ (by omega), .inl (Int.emod_lt_of_pos _ (by omega))⟩, by simp only; omega, by simp only; omega⟩
    · rw [if_neg c2, if_neg (by omega), Int.tmod_eq_emod_of_nonneg (by omega)]
      exact ⟨_, _, _, rfl, ⟨Int.emod_nonneg _ (by omega), .inl (Int.emod_lt_of_pos _ (by omega))⟩, by simp only; omega, by simp only; omega⟩
theorem r8At_ok {l : List Int} {i n : Int} (hl : by8 l) (hi : 0 ≤ i) (hn : 1 ≤ n) : ∃ x, laws_r8At.f l i n = some x ∧ 0 ≤ x ∧ x < n := by
  unfold laws_r8At.f
  by_cases c : n ≤ 1
  · rw [if_pos c]; exact ⟨0, rfl, by omega, by omega⟩
  · rw [if_neg c]
    by_cases c2 : i ≥ (l.length : Int)
    · rw [if_pos c2]; exact ⟨0, rfl, by omega, by omega⟩
    · obtain ⟨j, rfl⟩ : ∃ j : Nat, i = j := ⟨i.toNat, by omega⟩
      have hx := hl _ (rd_mem (l := l) (n := j) (by omega))
      rw [if_neg c2, if_pos hi, if_pos (by omega), if_neg (by omega), w64 (by omega) (by omega), Int.tmod_eq_emod_of_nonneg (by omega)]
      exact ⟨_, rfl, Int.emod_nonneg _ (by omega), Int.emod_lt_of_pos _ (by omega)⟩
theorem r8Long_ok (l m : List Int) : ∃ b, laws_r8Long.f l m = some b := by
  unfold laws_r8Long.f
  split
  · exact ⟨_, rfl⟩
  · exact ⟨_, rfl⟩
def vd (votes : List Int) : Prop := vt votes = true ∧ ∀ x ∈ votes, x ≤ 30
theorem vd_cons {a : Int} {r : List Int} (ha : 1 ≤ a ∧ a ≤ 30) (hr : ∀ x ∈ r, 0 ≤ x ∧ x ≤ 30) (hl : r.length ≤ 11) : vd (a :: r) := by
  refine ⟨vt_iff.2 ⟨by rw [List.length_cons]; omega, fun x hx => ?_, ?_⟩, fun x hx => ?_⟩
  · rcases List.mem_cons.1 hx with rfl | h
    · omega
    · have := hr x h; omega
  · have := sum_nonneg fun x hx => (hr x hx).1
    rw [List.sum_cons]; omega
  · rcases List.mem_cons.1 hx with rfl | h
    · omega
    · have := hr x h; omega
theorem r8Votes_loop {l : List Int} (hl : by8 l) : ∀ (n k : Nat) (a at' seed : Int) (r : List Int), n < k → 1 ≤ a ∧ a ≤ 30 → (∀ x ∈ r, 0 ≤ x ∧ x ≤ 30) → r.length + n ≤ 11 → 0 ≤ at' ∧ at' + 2 * n ≤ 10000 →
    ∃ votes, spec_R8Votes.l0 k (a :: r) n l at' seed = some votes ∧ vd votes
  | 0, k, a, at', seed, r, hk, ha, hr, hn, hat => by
    obtain ⟨k, rfl, _⟩ := succ_of_lt hk
    simp only [spec_R8Votes.l0]
    rw [if_neg (by omega)]
    exact ⟨_, rfl, vd_cons ha hr (by omega)⟩
  | n + 1, k, a, at', seed, r, hk, ha, hr, hn, hat => by
    obtain ⟨k, rfl, _⟩ := succ_of_lt hk
    obtain ⟨x, b, s, e, hx, hb⟩ := pick_ok (seed := seed) (n := 30) hl (show 0 ≤ at' ∧ at' ≤ 100000000000000000 by omega) (by omega)
    simp only [spec_R8Votes.l0]
    rw [if_pos (by omega), e, Option.bind_some, if_pos (by simp only [List.length_cons]; omega), w64 (by omega) (by omega), show ((n + 1 : Nat) : Int) - 1 = (n : Int) by omega]
    exact r8Votes_loop hl n k a b s (r ++ [x]) (by omega) ha (fun y hy => by
      rcases List.mem_append.1 hy with h | h
      · exact hr y h
      · rw [List.mem_singleton.1 h]; omega) (by simp; omega) (by omega)
theorem r8Votes_ok {l : List Int} (hl : by8 l) {k : Nat} (hk : 20 < k) : ∃ votes, spec_R8Votes.f k l = some votes ∧ vd votes := by
  unfold spec_R8Votes.f spec_l00From.f
  obtain ⟨x, b, s, e, hx, hb⟩ := pick_ok (at' := 0) (seed := 0) (n := 30) hl (by omega) (by omega)
  obtain ⟨y, b2, s2, e2, hy, hb2⟩ := pick_ok (at' := b) (seed := s) (n := 5) hl (by omega) (by omega)
  rw [Option.bind_some, e, Option.bind_some, e2, Option.bind_some, w64 (by omega) (by omega)]
  obtain ⟨n, rfl⟩ : ∃ n : Nat, y = n := ⟨y.toNat, by omega⟩
  exact r8Votes_loop hl n k (1 + x) b2 s2 [] (by omega) (by omega) (by simp) (by simp; omega) (by omega)
end Go.Proofs.Ytebofadnefkacaa.Q
end
