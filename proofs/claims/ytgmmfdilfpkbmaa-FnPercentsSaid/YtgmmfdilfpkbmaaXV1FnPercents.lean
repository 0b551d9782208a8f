import Derived.Test.YtgmmfdilfpkbmaaXBFnPercents
import Derived.Test.YtgmmfdilfpkbmaaXP1FnPercents
import Derived.Test.YtgmmfdilfpkbmaaXP2FnPercents
import Derived.Test.YtgmmfdilfpkbmaaXP10FnPercents
import Derived.Test.YtgmmfdilfpkbmaaXP12FnPercents
import Derived.Test.YtgmmfdilfpkbmaaXP6FnPercents
import Derived.Test.YtgmmfdilfpkbmaaXP19FnPercents
import Derived.Test.YtgmmfdilfpkbmaaXP13FnPercents
import Derived.Test.YtgmmfdilfpkbmaaXP14FnPercents
import Derived.Test.YtgmmfdilfpkbmaaXP15FnPercents
section
namespace Go.Proofs.Ytgmmfdilfpkbmaa.Q
open Go.RowKit Go.Proofs.YtgmmfdilfpkbmaaW.PrintWords Go.Proofs.YtgmmfdilfpkbmaaW.PrintLast Go.Proofs.Ytgmmfdilfpkbmaa.P Go.Proofs.Ytgmmfdilfpkbmaa.B
set_option linter.unusedVariables false
set_option linter.unusedSimpArgs false
theorem within_eq (a b c : Int) : impl_within.f a b c = some (decide (b ≤ a ∧ a ≤ c)) := by
  unfold impl_within.f
  by_cases h : b ≤ a <;> simp [h]
theorem floor_eq {a b : Int} (hb : 1 ≤ b) (h1 : -4611686018427387904 ≤ a) (h2 : a ≤ 4611686018427387904) : impl_floor.f a b = some (a / b) := by
  have hd := ediv_bounds (a := a) hb (by omega) h1 h2
  have hm := Int.emod_nonneg a (show b ≠ 0 by omega)
  have hl := Int.emod_lt_of_pos a (show 0 < b by omega)
  unfold impl_floor.f
  rw [if_neg (by omega), tdiv_pos hb, tmod_pos hb]
  by_cases c : 0 ≤ a ∨ b ∣ a
  · simp only [if_pos c]
    rw [if_neg (by omega), w64 (by omega) (by omega)]
    congr 1; omega
  · simp only [if_neg c]
    rw [if_pos (by omega), w64 (x := a / b + 1) (by omega) (by omega), w64 (by omega) (by omega)]
    congr 1; omega
theorem sign_cases' (x : Int) : (x < 0 ∧ x.sign = -1) ∨ (x = 0 ∧ x.sign = 0) ∨ (0 < x ∧ x.sign = 1) := by
  rcases Int.lt_trichotomy x 0 with h | h | h
  · exact .inl ⟨h, Int.sign_eq_neg_one_of_neg h⟩
  · exact .inr (.inl ⟨h, by rw [h]; rfl⟩)
  · exact .inr (.inr ⟨h, Int.sign_eq_one_of_pos h⟩)
theorem compare_eq (a b : Int) : impl_compare.f a b = some (a - b).sign := by
  unfold impl_compare.f
  split
  · rw [Int.sign_eq_neg_one_of_neg (by omega)]
  · split
    · rw [Int.sign_eq_one_of_pos (by omega)]
    · have : a - b = 0 := by omega
      rw [this]; rfl
def allIn (l : List Int) (a b : Int) : Bool := l.all fun x => decide (a ≤ x ∧ x ≤ b)
theorem allIn_iff {l : List Int} {a b : Int} : allIn l a b = true ↔ ∀ x ∈ l, a ≤ x ∧ x ≤ b := by simp [allIn]
theorem indexFunc_eq {l : List Int} (hl : l.length ≤ 4611686018427387904) (a b : Int) (k : Nat) (hk : l.length < k) : Za7.f k l a b = some (!allIn l a b) := by
  have h : ∀ d n k, l.length - n = d → n ≤ l.length → d < k → ∃ r, Zaq.l0 k l (l.length : Int) (n : Int) a b = some r ∧ decide (r ≥ 0) = !allIn (l.drop n) a b := by
    intro d
    induction d with
    | zero =>
      intro n k hd hn hk
      obtain ⟨k, rfl, _⟩ := Za6 hk
      obtain rfl : n = l.length := by omega
      refine ⟨-1, ?_, by simp [allIn]⟩
      simp only [Zaq.l0]
      rw [if_neg (by omega)]
    | succ d ih =>
      intro n k hd hn hk
      obtain ⟨k, rfl, hk'⟩ := Za6 hk
      have h : n < l.length := by omega
      simp only [Zaq.l0, impl_areWithin_1_v.f]
      rw [if_pos (by omega), if_pos (by omega), if_pos (by omega), within_eq, rd_nat h, wrap_nat (by omega)]
      simp only [Option.bind_some]
      by_cases c : a ≤ l[n] ∧ l[n] ≤ b
      · obtain ⟨r, h1, h2⟩ := ih (n + 1) k (by omega) (by omega) (by omega)
        refine ⟨r, ?_, ?_⟩
        · simp only [c, and_self, decide_true, Bool.not_true]
          exact h1
        · rw [h2, List.drop_eq_getElem_cons h]
          simp only [allIn, List.all_cons, c, and_self, decide_true, Bool.true_and]
      · refine ⟨n, by simp [c], ?_⟩
        rw [List.drop_eq_getElem_cons h]
        simp only [allIn, List.all_cons, c, decide_false, Bool.false_and, Bool.not_false, decide_eq_true_eq]
        omega
  obtain ⟨r, h1, h2⟩ := h l.length 0 k (by omega) (by omega) hk
  unfold Za7.f Zaq.f
  rw [show Zaq.l0 k l (l.length : Int) 0 a b = some r from h1]
  simp only [Option.bind_some]
  rw [h2, List.drop_zero]
theorem areWithin_eq {l : List Int} (hl : l.length ≤ 4611686018427387904) (a b : Int) {k : Nat} (hk : l.length < k) : impl_areWithin.f k l a b = some (allIn l a b) := by
  unfold impl_areWithin.f
  rw [indexFunc_eq hl a b k hk]
  simp
theorem sum_run (D : Int → Option Int) : ∀ (l : List Int) (s M : Int), (∀ x ∈ l, -M ≤ x ∧ x ≤ M) → 0 ≤ M → -9223372036854775808 ≤ s - l.length * M → s + l.length * M ≤ 9223372036854775807 →
    runL (fun x s => .inl (wrap64 (s + x))) D l s = D (s + l.sum)
  | [], s, M, _, _, _, _ => by simp [runL]
  | x :: xs, s, M, h, hM, h1, h2 => by
    have h3 := h x (List.mem_cons_self ..)
    rw [List.length_cons, Int.natCast_add, Int.add_mul] at h1 h2
    have h4 : 0 ≤ (xs.length : Int) * M := Int.mul_nonneg (by omega) hM
    simp only [runL]
    rw [w64 (by omega) (by omega), sum_run D xs (s + x) M (fun y hy => h y (List.mem_cons_of_mem _ hy)) hM (by omega) (by omega), List.sum_cons]
    congr 1; omega
theorem sum_eq {l : List Int} (hl : l.length ≤ 1000000) (h : ∀ x ∈ l, -1000000000000 ≤ x ∧ x ≤ 1000000000000) {k : Nat} (hk : l.length < k) : impl_sum.f k l = some l.sum := by
  have h1 := loopL0 (l := l) (F := fun k i s => impl_sum.l0 k s l (l.length : Int) i) (S := fun x s => .inl (wrap64 (s + x))) (D := fun s => some s) (by omega)
    (fun k s => by simp only [impl_sum.l0]; rw [if_neg (by omega)])
    (fun k n hn s => by
      simp only [impl_sum.l0]
      rw [if_pos (by omega), if_pos (by omega), if_pos (by omega), rd_nat hn, wrap_nat (by omega)]) k hk 0
  unfold impl_sum.f
  rw [h1, sum_run _ l 0 1000000000000 h (by omega) (by omega) (by omega)]
  simp
end Go.Proofs.Ytgmmfdilfpkbmaa.Q
end
section
namespace Go.Proofs.Ytgmmfdilfpkbmaa.Q
open Go.RowKit Go.Proofs.YtgmmfdilfpkbmaaW.PrintWords Go.Proofs.YtgmmfdilfpkbmaaW.PrintLast Go.Proofs.Ytgmmfdilfpkbmaa.P Go.Proofs.Ytgmmfdilfpkbmaa.B
set_option linter.unusedVariables false
set_option linter.unusedSimpArgs false
end Go.Proofs.Ytgmmfdilfpkbmaa.Q
end
section
namespace Go.Proofs.Ytgmmfdilfpkbmaa.Q
open Go.RowKit Go.Proofs.YtgmmfdilfpkbmaaW.PrintWords Go.Proofs.YtgmmfdilfpkbmaaW.PrintLast Go.Proofs.Ytgmmfdilfpkbmaa.P Go.Proofs.Ytgmmfdilfpkbmaa.B
set_option linter.unusedVariables false
set_option linter.unusedSimpArgs false
def ap {α ρ : Type} (f : α → Int) (x : α) (acc : List Int) : List Int ⊕ Option ρ := if acc.length < 17592186044416 then .inl (acc ++ [f x]) else .inr none
theorem ap_run {α ρ : Type} (f : α → Int) (D : List Int → Option ρ) : ∀ (l : List α) (acc : List Int), acc.length + l.length ≤ 17592186044416 → runL (ap f) D l acc = D (acc ++ l.map f)
  | [], acc, _ => by simp [runL]
  | x :: xs, acc, h => by
    rw [List.length_cons] at h
    simp only [runL, ap]
    rw [if_pos (by omega)]
    simp only
    rw [ap_run f D xs _ (by simp; omega)]
    simp
end Go.Proofs.Ytgmmfdilfpkbmaa.Q
end
section
namespace Go.Proofs.Ytgmmfdilfpkbmaa.Q
open Go.RowKit Go.Proofs.YtgmmfdilfpkbmaaW.PrintWords Go.Proofs.YtgmmfdilfpkbmaaW.PrintLast Go.Proofs.Ytgmmfdilfpkbmaa.P Go.Proofs.Ytgmmfdilfpkbmaa.B
set_option linter.unusedVariables false
set_option linter.unusedSimpArgs false
end Go.Proofs.Ytgmmfdilfpkbmaa.Q
end
section
namespace Go.Proofs.Ytgmmfdilfpkbmaa.Q
open Go.RowKit Go.Proofs.YtgmmfdilfpkbmaaW.PrintWords Go.Proofs.YtgmmfdilfpkbmaaW.PrintLast Go.Proofs.Ytgmmfdilfpkbmaa.P Go.Proofs.Ytgmmfdilfpkbmaa.B
set_option linter.unusedVariables false
set_option linter.unusedSimpArgs false
theorem r8Sum_eq {l : List Int} (hl : l.length ≤ 1000000) (h : ∀ x ∈ l, -1000000000000 ≤ x ∧ x ≤ 1000000000000) {k : Nat} (hk : l.length < k) : laws_r8Sum.f k l = some l.sum := by
  have h1 := loopL0 (l := l) (F := fun k i s => laws_r8Sum.l0 k l s i) (S := fun x s => .inl (wrap64 (s + x))) (D := fun s => some s) (by omega)
    (fun k s => by simp only [laws_r8Sum.l0]; rw [if_neg (by omega)])
    (fun k n hn s => by
      simp only [laws_r8Sum.l0]
      rw [if_pos (by omega), if_pos (by omega), rd_nat hn, wrap_nat (by omega)]) k hk 0
  unfold laws_r8Sum.f
  rw [h1, sum_run _ l 0 1000000000000 h (by omega) (by omega) (by omega)]
  simp
def okd (den : Int) (l : List Int) : Prop := 1 ≤ den ∧ den ≤ 1000000000 ∧ l.length ≤ 1000000 ∧ ∀ x ∈ l, -100000000000 ≤ x ∧ x ≤ 100000000000
theorem okd.get {den : Int} {l : List Int} (h : okd den l) {n : Nat} (hn : n < l.length) : -100000000000 ≤ l[n] ∧ l[n] ≤ 100000000000 := h.2.2.2 _ (List.getElem_mem hn)
def fls (den : Int) (l : List Int) : List Int := l.map (· / den)
def cls (den : Int) (l : List Int) : List Int := l.map (cl · den)
theorem fls_in {den : Int} {l : List Int} (h : okd den l) : ∀ x ∈ fls den l, -100000000000 ≤ x ∧ x ≤ 100000000000 := by
  intro x hx
  simp only [fls, List.mem_map] at hx
  obtain ⟨y, hy, rfl⟩ := hx
  have := h.2.2.2 y hy
  exact ediv_bounds h.1 (by omega) this.1 this.2
theorem cls_in {den : Int} {l : List Int} (h : okd den l) : ∀ x ∈ cls den l, -100000000000 ≤ x ∧ x ≤ 100000000000 := by
  intro x hx
  simp only [cls, List.mem_map] at hx
  obtain ⟨y, hy, rfl⟩ := hx
  have := h.2.2.2 y hy
  exact cl_bounds h.1 (by omega) this.1 this.2
theorem fls_length (den : Int) (l : List Int) : (fls den l).length = l.length := List.length_map ..
theorem cls_length (den : Int) (l : List Int) : (cls den l).length = l.length := List.length_map ..
theorem floors_eq {den : Int} {l : List Int} (h : okd den l) {k : Nat} (hk : l.length < k) : impl_Values_floors.f k den l = some (fls den l) := by
  have hl := h.2.2.1
  have h1 := loopL0 (l := l) (F := fun k i acc => Zat.l0 k acc l (l.length : Int) i den l) (S := ap (· / den)) (D := fun s => some s) (by omega)
    (fun k s => by simp only [Zat.l0]; rw [if_neg (by omega)])
    (fun k n hn s => by
      have hx := h.get hn
      simp only [Zat.l0, impl_Values_floors_1_v.f]
      rw [if_pos (by omega), if_pos (by omega), if_pos (by omega), rd_nat hn, wrap_nat (by omega), floor_eq h.1 (by omega) (by omega)]
      simp only [Option.bind_some, ap]
      split <;> rfl) k hk []
  unfold impl_Values_floors.f Zat.f
  rw [h1, ap_run _ _ _ _ (by simp; omega)]
  rfl
def ps : Int → List Int → List Int
  | _, [] => []
  | s, x :: xs => (s + x) :: ps (s + x) xs
def rs {ρ : Type} (x : Int) (s : List Int × Int) : (List Int × Int) ⊕ Option ρ := if s.1.length < 17592186044416 then .inl (s.1 ++ [wrap64 (s.2 + x)], wrap64 (s.2 + x)) else .inr none
theorem mul_in {a b A B : Int} (ha : 0 ≤ a ∧ a ≤ A) (hb : -B ≤ b ∧ b ≤ B) (hB : 0 ≤ B) : -(A * B) ≤ a * b ∧ a * b ≤ A * B := by
  have x1 := Int.mul_le_mul_of_nonneg_left hb.1 ha.1
  have x2 := Int.mul_le_mul_of_nonneg_left hb.2 ha.1
  have x3 := Int.mul_le_mul_of_nonneg_right ha.2 hB
  rw [Int.mul_neg] at x1
  omega
def oke (den : Int) (nums list : List Int) : Prop := (0 ≤ den ∧ den ≤ 1000) ∧ nums.length ≤ 1000 ∧ list.length = nums.length ∧ (∀ x ∈ nums, -1000000 ≤ x ∧ x ≤ 1000000) ∧ ∀ x ∈ list, -1000000000 ≤ x ∧ x ≤ 1000000000
theorem oke.wrap {den : Int} {nums list : List Int} (h : oke den nums list) {n : Nat} (hn : n < (list.zip nums).length) : wrap64 (wrap64 (den * (list.zip nums)[n].1) - (list.zip nums)[n].2) = den * (list.zip nums)[n].1 - (list.zip nums)[n].2 ∧ -1000001000000 ≤ den * (list.zip nums)[n].1 - (list.zip nums)[n].2 ∧ den * (list.zip nums)[n].1 - (list.zip nums)[n].2 ≤ 1000001000000 := by
  have hm : (list.zip nums)[n] ∈ list.zip nums := List.getElem_mem hn
  generalize (list.zip nums)[n] = p at hm ⊢
  obtain ⟨a, b⟩ := p
  have h1 := h.2.2.2.2 a (List.of_mem_zip hm).1
  have h2 := h.2.2.2.1 b (List.of_mem_zip hm).2
  have h3 := mul_in h.1 h1 (by omega)
  simp only
  rw [w64 (x := den * a) (by omega) (by omega), w64 (by omega) (by omega)]
  omega
end Go.Proofs.Ytgmmfdilfpkbmaa.Q
end
section
namespace Go.Proofs.Ytgmmfdilfpkbmaa.Q
open Go.RowKit Go.Proofs.YtgmmfdilfpkbmaaW.PrintWords Go.Proofs.YtgmmfdilfpkbmaaW.PrintLast Go.Proofs.Ytgmmfdilfpkbmaa.P Go.Proofs.Ytgmmfdilfpkbmaa.B
set_option linter.unusedVariables false
set_option linter.unusedSimpArgs false
def vt (l : List Int) : Bool := decide (1 ≤ l.length ∧ l.length ≤ 12) && (allIn l 0 1000000 && decide (0 < l.sum))
theorem vt_iff {l : List Int} : vt l = true ↔ (1 ≤ l.length ∧ l.length ≤ 12) ∧ (∀ x ∈ l, 0 ≤ x ∧ x ≤ 1000000) ∧ 0 < l.sum := by
  simp only [vt, Bool.and_eq_true, decide_eq_true_eq, allIn_iff]
theorem sum_nonneg : ∀ {l : List Int}, (∀ x ∈ l, 0 ≤ x) → 0 ≤ l.sum
  | [], _ => by simp
  | x :: xs, h => by
    have h1 := sum_nonneg (l := xs) (fun y hy => h y (List.mem_cons_of_mem _ hy))
    have h2 := h x (List.mem_cons_self ..)
    rw [List.sum_cons]; omega
end Go.Proofs.Ytgmmfdilfpkbmaa.Q
end
section
namespace Go.Proofs.Ytgmmfdilfpkbmaa.Q
open Go.RowKit Go.Proofs.YtgmmfdilfpkbmaaW.PrintWords Go.Proofs.YtgmmfdilfpkbmaaW.PrintLast Go.Proofs.Ytgmmfdilfpkbmaa.P Go.Proofs.Ytgmmfdilfpkbmaa.B
set_option linter.unusedVariables false
set_option linter.unusedSimpArgs false
abbrev i64 (a : Int) : Prop := -9223372036854775808 ≤ a ∧ a ≤ 9223372036854775807
theorem okd_sum {den : Int} {l : List Int} (h : okd den l) : (fls den l).length ≤ 1000000 ∧ (cls den l).length ≤ 1000000 ∧ (∀ x ∈ fls den l, -1000000000000 ≤ x ∧ x ≤ 1000000000000) ∧ (∀ x ∈ cls den l, -1000000000000 ≤ x ∧ x ≤ 1000000000000) :=
  ⟨by rw [fls_length]; exact h.2.2.1, by rw [cls_length]; exact h.2.2.1, fun x hx => by have := fls_in h x hx; omega, fun x hx => by have := cls_in h x hx; omega⟩
theorem rd_set {a : List Int} {b : Nat} (hb : b < a.length) (x : Int) (i : Nat) : rd (a.set b x) (i : Int) = if i = b then x else rd a i := by
  by_cases hi : i < a.length
  · rw [rd_nat (by simpa using hi), List.getElem_set]
    by_cases h : i = b
    · rw [if_pos h.symm, if_pos h]
    · rw [if_neg (fun h' => h h'.symm), if_neg h, rd_nat hi]
  · have h : i ≠ b := by omega
    rw [if_neg h]
    unfold rd
    simp only [Int.toNat_natCast]
    rw [List.getD_eq_getElem?_getD, List.getD_eq_getElem?_getD, List.getElem?_eq_none (by simp; omega), List.getElem?_eq_none (by omega)]
theorem sum_set : ∀ {a : List Int} {b : Nat} (hb : b < a.length) (x : Int), (a.set b x).sum = a.sum - a[b] + x
  | y :: ys, 0, _, x => by simp; omega
  | y :: ys, b + 1, h, x => by
    simp only [List.set_cons_succ, List.sum_cons, List.getElem_cons_succ]
    rw [sum_set (by simpa using h)]
    omega
def pf (f : Int → Int) : Int → List Int → List Int
  | _, [] => []
  | s, x :: xs => (f (s + x) - f s) :: pf f (s + x) xs
end Go.Proofs.Ytgmmfdilfpkbmaa.Q
end
section
namespace Go.Proofs.Ytgmmfdilfpkbmaa.Q
open Go.RowKit Go.Proofs.YtgmmfdilfpkbmaaW.PrintWords Go.Proofs.YtgmmfdilfpkbmaaW.PrintLast Go.Proofs.Ytgmmfdilfpkbmaa.P Go.Proofs.Ytgmmfdilfpkbmaa.B
set_option linter.unusedVariables false
set_option linter.unusedSimpArgs false
end Go.Proofs.Ytgmmfdilfpkbmaa.Q
end
section
namespace Go.Proofs.Ytgmmfdilfpkbmaa.Q
open Go.RowKit Go.Proofs.YtgmmfdilfpkbmaaW.PrintWords Go.Proofs.YtgmmfdilfpkbmaaW.PrintLast Go.Proofs.Ytgmmfdilfpkbmaa.P Go.Proofs.Ytgmmfdilfpkbmaa.B
set_option linter.unusedVariables false
set_option linter.unusedSimpArgs false
def rst (V : Int) (nums : List Int) (i : Nat) : Int := rd nums i - V * (rd nums i / V)
def lq (V : Int) (nums : List Int) (a b : Nat) : Prop := rst V nums a > rst V nums b ∨ rst V nums a = rst V nums b ∧ a < b
theorem lq_trans {V : Int} {nums : List Int} {a b c : Nat} (h1 : lq V nums a b) (h2 : lq V nums b c) : lq V nums a c := by unfold lq at *; omega
theorem lq_asymm {V : Int} {nums : List Int} {a b : Nat} (h : lq V nums a b) : ¬ lq V nums b a := by unfold lq at *; omega
def upto (i n : Nat) : List Nat := (List.range (n - i)).map (i + ·)
abbrev ofn (l : List Nat) : List Int := l.map Int.ofNat
theorem rd_ofn {l : List Nat} {i : Nat} (h : i < l.length) : rd (ofn l) (i : Int) = (l[i] : Int) := by
  rw [rd_nat (by simpa using h), List.getElem_map]; rfl
theorem sorted_unique {V : Int} {nums : List Int} : ∀ {σ τ : List Nat}, σ.Pairwise (lq V nums) → τ.Pairwise (lq V nums) → (∀ q, q ∈ σ ↔ q ∈ τ) → σ = τ
  | [], [], _, _, _ => rfl
  | [], b :: τ, _, _, h => by simpa using (h b).2 (List.mem_cons_self ..)
  | a :: σ, [], _, _, h => by simpa using (h a).1 (List.mem_cons_self ..)
  | a :: σ, b :: τ, h1, h2, h => by
    rw [List.pairwise_cons] at h1 h2
    have hab : a = b := by
      rcases List.mem_cons.1 ((h a).1 (List.mem_cons_self ..)) with e | ha
      · exact e
      · rcases List.mem_cons.1 ((h b).2 (List.mem_cons_self ..)) with e | hb
        · exact e.symm
        · exact absurd (h2.1 a ha) (lq_asymm (h1.1 b hb))
    subst hab
    congr 1
    refine sorted_unique h1.2 h2.2 fun q => ⟨fun hq => ?_, fun hq => ?_⟩
    · rcases List.mem_cons.1 ((h q).1 (List.mem_cons_of_mem _ hq)) with e | hq'
      · subst e; exact absurd (h1.1 q hq) (lq_asymm (h1.1 q hq))
      · exact hq'
    · rcases List.mem_cons.1 ((h q).2 (List.mem_cons_of_mem _ hq)) with e | hq'
      · subst e; exact absurd (h2.1 q hq) (lq_asymm (h2.1 q hq))
      · exact hq'
def incs : List Int → List Nat → List Int
  | out, [] => out
  | out, i :: r => incs (out.set i (rd out i + 1)) r
theorem incs_length : ∀ (T : List Nat) (out : List Int), (incs out T).length = out.length
  | [], _ => rfl
  | i :: r, out => by simp only [incs]; rw [incs_length r, List.length_set]
theorem incs_append : ∀ (T : List Nat) (out : List Int) (i : Nat), incs out (T ++ [i]) = (incs out T).set i (rd (incs out T) i + 1)
  | [], _, _ => rfl
  | j :: r, out, i => by simp only [List.cons_append, incs]; exact incs_append r _ i
theorem incs_rd : ∀ (T : List Nat) (out : List Int), T.Nodup → (∀ q ∈ T, q < out.length) → ∀ i : Nat, rd (incs out T) i = rd out i + if i ∈ T then 1 else 0
  | [], out, _, _, i => by simp [incs]
  | j :: r, out, hn, hT, i => by
    rw [List.nodup_cons] at hn
    have hj := hT j (List.mem_cons_self ..)
    simp only [incs]
    rw [incs_rd r _ hn.2 (fun q hq => by rw [List.length_set]; exact hT q (List.mem_cons_of_mem _ hq)) i, rd_set hj]
    by_cases c : i = j
    · subst c
      rw [if_pos rfl, if_neg hn.1, if_pos (by simp)]; omega
    · rw [if_neg c]
      by_cases c2 : i ∈ r
      · rw [if_pos c2, if_pos (by simp [c2])]
      · rw [if_neg c2, if_neg (by simp [c, c2])]
theorem incs_sum : ∀ (T : List Nat) (out : List Int), (∀ q ∈ T, q < out.length) → (incs out T).sum = out.sum + T.length
  | [], out, _ => by simp [incs]
  | j :: r, out, hT => by
    have hj := hT j (List.mem_cons_self ..)
    simp only [incs]
    rw [incs_sum r _ (fun q hq => by rw [List.length_set]; exact hT q (List.mem_cons_of_mem _ hq)), sum_set hj, rd_nat hj, List.length_cons]
    omega
theorem fls_sum {V : Int} (hV : 1 ≤ V) : ∀ l : List Int, V * (fls V l).sum ≤ l.sum ∧ l.sum ≤ V * (fls V l).sum + (V - 1) * l.length
  | [] => by simp [fls]
  | x :: xs => by
    have ih := fls_sum hV xs
    have h := ediv_mul_le (a := x) hV
    have e : (fls V (x :: xs)).sum = x / V + (fls V xs).sum := by simp [fls]
    rw [e, List.sum_cons, List.length_cons, Int.mul_add, Int.natCast_add, Int.mul_add, Int.mul_comm V (x / V)]
    omega
end Go.Proofs.Ytgmmfdilfpkbmaa.Q
end
section
namespace Go.Proofs.Ytgmmfdilfpkbmaa.Q
open Go.RowKit Go.Proofs.YtgmmfdilfpkbmaaW.PrintWords Go.Proofs.YtgmmfdilfpkbmaaW.PrintLast Go.Proofs.Ytgmmfdilfpkbmaa.P Go.Proofs.Ytgmmfdilfpkbmaa.B
set_option linter.unusedVariables false
set_option linter.unusedSimpArgs false
theorem rest_eq {V : Int} {nums : List Int} (h : okd V nums) {a : Nat} (ha : a < nums.length) : Za2.f V nums (a : Int) = some (rst V nums a) := by
  have hx := h.get ha
  unfold Za2.f rst
  have hb := ediv_mul_le (a := nums[a]) h.1
  have hc := Int.mul_comm V (nums[a] / V)
  rw [if_pos (by omega), if_pos (by omega), rd_nat ha, floor_eq h.1 (by omega) (by omega), Option.bind_some, w64 (x := V * (nums[a] / V)) (by have := h.2.1; omega) (by have := h.2.1; omega), w64 (by have := h.2.1; omega) (by have := h.2.1; omega)]
theorem cmpP_eq {V : Int} {nums : List Int} (h : okd V nums) {a b : Nat} (ha : a < nums.length) (hb : b < nums.length) : Za3.f (a : Int) (b : Int) V nums = some (rst V nums b - rst V nums a).sign := by
  unfold Za3.f
  rw [rest_eq h hb, Option.bind_some, rest_eq h ha, Option.bind_some, compare_eq]; rfl
theorem lt_iff {V : Int} {nums : List Int} {a b : Nat} (hab : a < b) : (rst V nums a - rst V nums b).sign < 0 ↔ lq V nums b a := by
  have := sign_cases' (rst V nums a - rst V nums b)
  unfold lq
  omega
theorem nlt_iff {V : Int} {nums : List Int} {a b : Nat} (hab : a < b) : ¬ (rst V nums a - rst V nums b).sign < 0 ↔ lq V nums a b := by
  have := sign_cases' (rst V nums a - rst V nums b)
  unfold lq
  omega
theorem rd_mid (X R : List Nat) (x : Nat) {i : Int} (h : i = (X.length : Int)) : rd (ofn (X ++ x :: R)) i = (x : Int) := by
  subst h
  rw [rd_ofn (by simp)]
  simp
theorem set_mid (X R : List Nat) (x y : Nat) {i : Nat} (h : i = X.length) : (ofn (X ++ x :: R)).set i (y : Int) = ofn (X ++ y :: R) := by
  subst h
  simp [ofn, List.set_append_right]
theorem half64 {x y : Nat} (h : x + y ≤ 1000000) : wrap64 (IntKind.u64.wrap (wrap64 ((x : Int) + (y : Int))) / 2) = (((x + y) / 2 : Nat) : Int) := by
  rw [w64 (x := (x : Int) + y) (by omega) (by omega), IntKind.wrap_u64, w64 (by omega) (by omega)]
  omega
theorem ofn_len (l : List Nat) : (ofn l).length = l.length := List.length_map ..
theorem ins_in {V : Int} {nums : List Int} (h : okd V nums) {A B T : List Nat} {b x8 : Int} {x : Nat} (hx : x < nums.length) (hT : ∀ y ∈ T, y < x) (hlen : A.length + T.length + 1 + B.length ≤ 1000000) {Q : Option (List Int) → Prop} {C : Nat}
    (next : ∀ k τ, C < k → τ.Pairwise (lq V nums) → τ.Perm (x :: T) → Q (Zaf.l0 k (ofn (A ++ τ ++ B)) (A.length : Int) b (wrap64 (x8 + 1)) V nums)) :
    ∀ j k τ1 τ2, τ1.length = j → (τ1 ++ τ2).Pairwise (lq V nums) → (τ1 ++ τ2).Perm T → (∀ q ∈ τ2, lq V nums x q) → j + 1 + C < k →
      Q (Zaf.l1 k (ofn (A ++ (τ1 ++ x :: τ2) ++ B)) (A.length : Int) b x8 ((A.length + j : Nat) : Int) V nums) := by
  intro j
  have fin : ∀ k τ1 τ2, (τ1 ++ τ2).Pairwise (lq V nums) → (τ1 ++ τ2).Perm T → (∀ q ∈ τ2, lq V nums x q) → (∀ q ∈ τ1, lq V nums q x) → C < k →
      Q (Zaf.l0 k (ofn (A ++ (τ1 ++ x :: τ2) ++ B)) (A.length : Int) b (wrap64 (x8 + 1)) V nums) := by
    intro k τ1 τ2 hp hq h2 h1 hk
    refine next k _ hk ?_ ?_
    · rw [List.pairwise_append] at hp ⊢
      refine ⟨hp.1, List.pairwise_cons.2 ⟨h2, hp.2.1⟩, fun a ha b hb => ?_⟩
      rcases List.mem_cons.1 hb with rfl | hb
      · exact h1 a ha
      · exact hp.2.2 a ha b hb
    · exact List.perm_middle.trans (hq.cons x)
  induction j with
  | zero =>
    intro k τ1 τ2 hj hp hq h2 hk
    obtain ⟨k, rfl, _⟩ := Za6 hk
    obtain rfl : τ1 = [] := List.eq_nil_of_length_eq_zero hj
    simp only [Zaf.l1]
    rw [if_neg (by omega)]
    exact fin k [] τ2 hp hq h2 (by simp) (by omega)
  | succ j ih =>
    intro k τ1 τ2 hj hp hq h2 hk
    obtain ⟨k, rfl, _⟩ := Za6 hk
    obtain ⟨D, p, rfl⟩ : ∃ D p, τ1 = D ++ [p] := by
      rcases List.eq_nil_or_concat τ1 with rfl | ⟨D, p, rfl⟩
      · simp at hj
      · exact ⟨D, p, by simp⟩
    have hD : D.length = j := by simpa using hj
    have hpT : p ∈ T := hq.mem_iff.1 (by simp)
    have hpx := hT p hpT
    have hTl := hq.length_eq
    simp only [List.length_append, List.length_cons, List.length_nil] at hTl
    have e1 : A ++ (D ++ [p] ++ x :: τ2) ++ B = (A ++ D) ++ p :: (x :: (τ2 ++ B)) := by simp
    have e2 : A ++ (D ++ [p] ++ x :: τ2) ++ B = (A ++ D ++ [p]) ++ x :: (τ2 ++ B) := by simp
    have hl : (A ++ (D ++ [p] ++ x :: τ2) ++ B).length = A.length + (j + 1) + 1 + τ2.length + B.length := by simp [hD]; omega
    have g1 : rd (ofn (A ++ (D ++ [p] ++ x :: τ2) ++ B)) ((A.length + j : Nat) : Int) = (p : Int) := by rw [e1]; exact rd_mid _ _ _ (by simp [hD])
    have g2 : rd (ofn (A ++ (D ++ [p] ++ x :: τ2) ++ B)) ((A.length + (j + 1) : Nat) : Int) = (x : Int) := by rw [e2]; exact rd_mid _ _ _ (by simp [hD] <;> omega)
    have hl2 : (ofn (A ++ (D ++ [p] ++ x :: τ2) ++ B)).length = A.length + (j + 1) + 1 + τ2.length + B.length := by rw [ofn_len, hl]
    simp only [Zaf.l1]
    rw [w64 (x := ((A.length + (j + 1) : Nat) : Int) - 1) (by omega) (by omega), show ((A.length + (j + 1) : Nat) : Int) - 1 = ((A.length + j : Nat) : Int) by omega, g1, g2, if_pos (by omega), if_pos (by omega), if_pos (by omega), if_pos (by omega), if_pos (by omega), cmpP_eq h hx (by omega), Option.bind_some, Int.toNat_natCast, Int.toNat_natCast]
    by_cases c : (rst V nums p - rst V nums x).sign < 0
    · rw [if_pos c]
      have hli := (lt_iff hpx).1 c
      have e3 : ((ofn (A ++ (D ++ [p] ++ x :: τ2) ++ B)).set (A.length + (j + 1)) (p : Int)).set (A.length + j) (x : Int) = ofn (A ++ (D ++ x :: (p :: τ2)) ++ B) := by
        rw [e2, set_mid _ _ _ _ (by simp [hD] <;> omega), show (A ++ D ++ [p]) ++ p :: (τ2 ++ B) = (A ++ D) ++ p :: (p :: (τ2 ++ B)) by simp, set_mid _ _ _ _ (by simp [hD])]
        simp
      rw [e3]
      refine ih k D (p :: τ2) hD (by simpa using hp) (by simpa using hq) ?_ (by omega)
      intro q hq'
      rcases List.mem_cons.1 hq' with rfl | hq'
      · exact hli
      · exact h2 q hq'
    · rw [if_neg c]
      have hpl := (nlt_iff hpx).1 c
      refine fin k (D ++ [p]) τ2 hp hq h2 ?_ (by omega)
      intro q hq'
      rcases List.mem_append.1 hq' with hq' | hq'
      · rw [List.append_assoc, List.pairwise_append] at hp
        exact lq_trans (hp.2.2 q hq' p (by simp)) hpl
      · rw [List.mem_singleton.1 hq']; exact hpl
theorem ins_out {V : Int} {nums : List Int} (h : okd V nums) {A B : List Nat} {n : Nat} (hlen : A.length + n + B.length ≤ 1000000) : ∀ (S τ : List Nat) (k : Nat), τ.length + S.length = n → τ.Pairwise (lq V nums) → S.Pairwise (· < ·) → (∀ x ∈ τ, ∀ y ∈ S, x < y) → (∀ y ∈ S, y < nums.length) → S.length * (n + 3) + 2 < k →
    ∃ σ, Zaf.l0 k (ofn (A ++ τ ++ (S ++ B))) (A.length : Int) ((A.length + n : Nat) : Int) ((A.length + τ.length : Nat) : Int) V nums = some (ofn (A ++ σ ++ B)) ∧ σ.Pairwise (lq V nums) ∧ σ.Perm (τ ++ S)
  | [], τ, k, hn, hp, hS, hc, hb, hk => by
    obtain ⟨k, rfl, _⟩ := Za6 hk
    simp only [List.length_nil] at hn
    simp only [Zaf.l0]
    rw [if_neg (by omega)]
    exact ⟨τ, by simp, hp, by simp⟩
  | x :: S, τ, k, hn, hp, hS, hc, hb, hk => by
    obtain ⟨k, rfl, _⟩ := Za6 hk
    simp only [List.length_cons, Nat.succ_mul] at hn hk
    rw [List.pairwise_cons] at hS
    simp only [Zaf.l0]
    rw [if_pos (by omega)]
    have := ins_in h (A := A) (B := S ++ B) (T := τ) (b := ((A.length + n : Nat) : Int)) (x8 := ((A.length + τ.length : Nat) : Int)) (x := x) (hb x (by simp)) (fun y hy => hc y hy x (by simp)) (by simp; omega)
      (Q := fun r => ∃ σ, r = some (ofn (A ++ σ ++ B)) ∧ σ.Pairwise (lq V nums) ∧ σ.Perm (τ ++ x :: S)) (C := S.length * (n + 3) + 2) (fun k τ' hk hp' hq' => by
        have hl := hq'.length_eq
        simp only [List.length_cons] at hl
        obtain ⟨σ, e, h1, h2⟩ := ins_out h hlen S τ' k (by omega) hp' hS.2 (fun y hy z hz => by
          rcases List.mem_cons.1 (hq'.mem_iff.1 hy) with rfl | hy
          · exact hS.1 z hz
          · exact hc y hy z (List.mem_cons_of_mem _ hz)) (fun y hy => hb y (List.mem_cons_of_mem _ hy)) hk
        rw [wrap_nat (by omega), show A.length + τ.length + 1 = A.length + τ'.length by omega]
        exact ⟨σ, e, h1, h2.trans ((hq'.append_right S).trans (by simpa using (List.perm_middle (a := x) (l₁ := τ) (l₂ := S)).symm))⟩) τ.length k τ [] rfl (by simpa using hp) (by simp) (by simp) (by omega)
    simpa using this
theorem insSeg_eq {V : Int} {nums : List Int} (h : okd V nums) {A S B : List Nat} (hlen : A.length + S.length + B.length ≤ 1000000) (hS : S.Pairwise (· < ·)) (hb : ∀ y ∈ S, y < nums.length) {k : Nat} (hk : S.length * (S.length + 3) + 4 < k) :
    ∃ σ, Zaf.f k (ofn (A ++ S ++ B)) (A.length : Int) ((A.length + S.length : Nat) : Int) V nums = some (ofn (A ++ σ ++ B)) ∧ σ.Pairwise (lq V nums) ∧ σ.Perm S := by
  unfold Zaf.f
  match S, hS, hb, hk, hlen with
  | [], _, _, hk, hlen =>
    obtain ⟨k, rfl, _⟩ := Za6 hk
    simp only [List.length_nil] at hlen
    simp only [Zaf.l0]
    rw [if_neg (by rw [wrap_nat (by omega)]; simp only [List.length_nil]; omega)]
    exact ⟨[], by simp, List.Pairwise.nil, List.Perm.refl _⟩
  | x :: S, hS, hb, hk, hlen =>
    rw [List.pairwise_cons] at hS
    simp only [List.length_cons, Nat.succ_mul] at hk hlen
    obtain ⟨σ, e, h1, h2⟩ := ins_out h (A := A) (B := B) (n := S.length + 1) (by omega) S [x] k (by simp; omega) (by simp) hS.2 (by simpa using hS.1) (fun y hy => hb y (List.mem_cons_of_mem _ hy)) (by
      have : S.length * (S.length + 1 + 3) = S.length * (S.length + 1 + 3) := rfl
      omega)
    rw [wrap_nat (by omega)]
    refine ⟨σ, ?_, h1, by simpa using h2⟩
    have e2 : A ++ x :: S ++ B = A ++ [x] ++ (S ++ B) := by simp
    rw [e2, List.length_cons]
    simpa using e
theorem five_len (X U Y W Z : List Nat) (u w : Nat) : (ofn (X ++ u :: U ++ Y ++ w :: W ++ Z)).length = X.length + (U.length + 1) + Y.length + (W.length + 1) + Z.length := by rw [ofn_len]; simp; omega
theorem five_a (X U Y W Z : List Nat) (u w : Nat) : rd (ofn (X ++ u :: U ++ Y ++ w :: W ++ Z)) ((X.length : Nat) : Int) = (u : Int) := by
  rw [show X ++ u :: U ++ Y ++ w :: W ++ Z = X ++ u :: (U ++ Y ++ w :: W ++ Z) by simp]
  exact rd_mid X _ u rfl
theorem five_b (X U Y W Z : List Nat) (u w : Nat) : rd (ofn (X ++ u :: U ++ Y ++ w :: W ++ Z)) ((X.length + (U.length + 1) + Y.length : Nat) : Int) = (w : Int) := by
  rw [show X ++ u :: U ++ Y ++ w :: W ++ Z = (X ++ u :: U ++ Y) ++ w :: (W ++ Z) by simp]
  exact rd_mid (X ++ u :: U ++ Y) (W ++ Z) w (by simp; omega)
theorem five_set (X U Y W Z : List Nat) (u w : Nat) : ((ofn (X ++ u :: U ++ Y ++ w :: W ++ Z)).set X.length (w : Int)).set (X.length + (U.length + 1) + Y.length) (u : Int) = ofn ((X ++ [w]) ++ U ++ (Y ++ [u]) ++ W ++ Z) := by
  rw [show X ++ u :: U ++ Y ++ w :: W ++ Z = X ++ u :: (U ++ Y ++ w :: W ++ Z) by simp, set_mid X _ u w rfl, show X ++ w :: (U ++ Y ++ w :: W ++ Z) = (X ++ w :: (U ++ Y)) ++ w :: (W ++ Z) by simp, set_mid (X ++ w :: (U ++ Y)) (W ++ Z) w u (by simp; omega)]
  simp
theorem swapStep {D D2 : List Int} {k pa pb : Nat} {a b i n : Int} {u w : Int} (w1 : wrap64 (a + i) = (pa : Int)) (w2 : wrap64 (b + i) = (pb : Int)) (g1 : rd D (pa : Int) = u) (g2 : rd D (pb : Int) = w) (hi : i < n) (ha : pa < D.length) (hb : pb < D.length) (e : (D.set pa w).set pb u = D2) :
    Zam.l0 (k + 1) D a b n i = Zam.l0 k D2 a b n (wrap64 (i + 1)) := by
  simp only [Zam.l0]
  rw [w1, w2, g1, g2, if_pos hi, if_pos (by omega), if_pos (by omega), if_pos (by omega), if_pos (by omega), Int.toNat_natCast, Int.toNat_natCast, e]
theorem swapR_eq (U : List Nat) : ∀ (W X Y Z : List Nat) (i k a b n : Nat), U.length = W.length → a + i = X.length → b + i = X.length + U.length + Y.length → n = i + U.length → X.length + U.length + Y.length + W.length + Z.length ≤ 1000000 → U.length < k →
    Zam.l0 k (ofn (X ++ U ++ Y ++ W ++ Z)) (a : Int) (b : Int) (n : Int) (i : Int) = some (ofn (X ++ W ++ Y ++ U ++ Z)) := by
  induction U with
  | nil =>
    intro W X Y Z i k a b n hU ha hb hn hl hk
    obtain ⟨k, rfl, _⟩ := Za6 hk
    obtain rfl : W = [] := List.eq_nil_of_length_eq_zero hU.symm
    simp only [List.length_nil] at hn
    simp only [Zam.l0]
    rw [if_neg (by omega)]
  | cons u U ih =>
    intro W X Y Z i k a b n hU ha hb hn hl hk
    cases W with
    | nil => simp at hU
    | cons w W =>
    obtain ⟨k, rfl, _⟩ := Za6 hk
    simp only [List.length_cons] at hU hb hn hl hk
    have h3 := ih W (X ++ [w]) (Y ++ [u]) Z (i + 1) k a b n (by omega) (by simp only [List.length_append, List.length_cons, List.length_nil]; omega) (by simp only [List.length_append, List.length_cons, List.length_nil]; omega) (by omega) (by simp only [List.length_append, List.length_cons, List.length_nil]; omega) (by omega)
    have hfl := five_len X U Y W Z u w
    have s := swapStep (k := k) (n := (n : Int)) (pa := X.length) (pb := X.length + (U.length + 1) + Y.length) (a := (a : Int)) (b := (b : Int)) (i := (i : Int)) (by rw [w64 (by omega) (by omega)]; omega) (by rw [w64 (by omega) (by omega)]; omega) (five_a X U Y W Z u w) (five_b X U Y W Z u w) (by omega) (by omega) (by omega) (five_set X U Y W Z u w)
    rw [s, wrap_nat (by omega), h3]
    simp
theorem swapRange_eq {V : Int} {nums : List Int} {U W X Y Z : List Nat} {k : Nat} {a b n : Int} (hU : U.length = W.length) (ha : a = X.length) (hb : b = (X.length + U.length + Y.length : Nat)) (hn : n = U.length) (hl : X.length + U.length + Y.length + W.length + Z.length ≤ 1000000) (hk : U.length < k) :
    Zam.f k (ofn (X ++ U ++ Y ++ W ++ Z)) a b n V nums = some (ofn (X ++ W ++ Y ++ U ++ Z)) := by
  subst ha hb hn
  unfold Zam.f
  exact swapR_eq U W X Y Z 0 k X.length (X.length + U.length + Y.length) U.length hU rfl rfl (by omega) hl hk
theorem rot_eq {V : Int} {nums : List Int} : ∀ (N : Nat) (U W X Z : List Nat) (k : Nat) (m : Int), U.length + W.length ≤ N → 0 < U.length → 0 < W.length → m = (X.length + U.length : Nat) → X.length + U.length + W.length + Z.length ≤ 1000 → N + 1100 < k →
    Zas.l0 k (ofn (X ++ U ++ W ++ Z)) m (U.length : Int) (W.length : Int) V nums = some (ofn (X ++ W ++ U ++ Z)) := by
  intro N
  induction N with
  | zero => intro U W X Z k m h1 h2 h3; omega
  | succ N ih =>
    intro U W X Z k m h1 h2 h3 hm hl hk
    obtain ⟨k, rfl, _⟩ := Za6 hk
    simp only [Zas.l0]
    by_cases c : U.length = W.length
    · have e := swapRange_eq (V := V) (nums := nums) (U := U) (W := W) (X := X) (Y := []) (Z := Z) (k := k) (a := wrap64 (m - (U.length : Int))) (b := m) (n := (U.length : Int)) c (by rw [w64 (by omega) (by omega)]; omega) (by simp; omega) rfl (by simp; omega) (by omega)
      simp only [List.append_nil] at e
      rw [if_pos (by omega), e, Option.bind_some]
    · rw [if_neg (by omega)]
      by_cases c2 : W.length < U.length
      ·
        have hU : U = U.take W.length ++ U.drop W.length := (List.take_append_drop ..).symm
        have l1 : (U.take W.length).length = W.length := by rw [List.length_take]; omega
        have l2 : (U.drop W.length).length = U.length - W.length := List.length_drop ..
        generalize U.take W.length = U1 at hU l1
        generalize U.drop W.length = U2 at hU l2
        subst hU
        simp only [List.length_append] at h1 h2 hm hl c c2 l2 ⊢
        have e := swapRange_eq (V := V) (nums := nums) (U := U1) (W := W) (X := X) (Y := U2) (Z := Z) (k := k) (a := wrap64 (m - ((U1.length + U2.length : Nat) : Int))) (b := m) (n := (W.length : Int)) l1 (by rw [w64 (by omega) (by omega)]; omega) (by omega) (by omega) (by omega) (by omega)
        rw [if_pos (by omega), show X ++ (U1 ++ U2) ++ W ++ Z = X ++ U1 ++ U2 ++ W ++ Z by simp, e, Option.bind_some]
        have e2 := ih U2 U1 (X ++ W) Z k m (by omega) (by omega) (by omega) (by simp; omega) (by simp; omega) (by omega)
        rw [w64 (x := ((U1.length + U2.length : Nat) : Int) - (W.length : Int)) (by omega) (by omega), show ((U1.length + U2.length : Nat) : Int) - (W.length : Int) = (U2.length : Int) by omega, show (W.length : Int) = (U1.length : Int) by omega, e2]
        simp
      · have hW : W = W.take (W.length - U.length) ++ W.drop (W.length - U.length) := (List.take_append_drop ..).symm
        have l1 : (W.take (W.length - U.length)).length = W.length - U.length := by rw [List.length_take]; omega
        have l2 : (W.drop (W.length - U.length)).length = U.length := by rw [List.length_drop]; omega
        generalize W.take (W.length - U.length) = W1 at hW l1
        generalize W.drop (W.length - U.length) = W2 at hW l2
        subst hW
        simp only [List.length_append] at h1 h3 hl c c2 l1 ⊢
        have e := swapRange_eq (V := V) (nums := nums) (U := U) (W := W2) (X := X) (Y := W1) (Z := Z) (k := k) (a := wrap64 (m - (U.length : Int))) (b := wrap64 (wrap64 (m + ((W1.length + W2.length : Nat) : Int)) - (U.length : Int))) (n := (U.length : Int)) l2.symm (by rw [w64 (by omega) (by omega)]; omega) (by rw [w64 (x := m + ((W1.length + W2.length : Nat) : Int)) (by omega) (by omega), w64 (by omega) (by omega)]; omega) rfl (by omega) (by omega)
        rw [if_neg (by omega), show X ++ U ++ (W1 ++ W2) ++ Z = X ++ U ++ W1 ++ W2 ++ Z by simp, e, Option.bind_some]
        have e2 := ih W2 W1 X (U ++ Z) k m (by omega) (by omega) (by omega) (by omega) (by simp; omega) (by omega)
        rw [w64 (x := ((W1.length + W2.length : Nat) : Int) - (U.length : Int)) (by omega) (by omega), show ((W1.length + W2.length : Nat) : Int) - (U.length : Int) = (W1.length : Int) by omega, show (U.length : Int) = (W2.length : Int) by omega, show X ++ W2 ++ W1 ++ U ++ Z = X ++ W2 ++ W1 ++ (U ++ Z) by simp, e2]
        simp
theorem rotate_eq {V : Int} {nums : List Int} {U W X Z : List Nat} {k : Nat} {a m b : Int} (hU : 0 < U.length) (hW : 0 < W.length) (ha : a = X.length) (hm : m = (X.length + U.length : Nat)) (hb : b = (X.length + U.length + W.length : Nat)) (hl : X.length + U.length + W.length + Z.length ≤ 1000) (hk : 2200 < k) :
    Zas.f k (ofn (X ++ U ++ W ++ Z)) a m b V nums = some (ofn (X ++ W ++ U ++ Z)) := by
  unfold Zas.f
  rw [w64 (x := m - a) (by omega) (by omega), w64 (x := b - m) (by omega) (by omega), show m - a = (U.length : Int) by omega, show b - m = (W.length : Int) by omega]
  exact rot_eq (U.length + W.length) U W X Z k m (Nat.le_refl _) hU hW hm hl (by omega)
end Go.Proofs.Ytgmmfdilfpkbmaa.Q
end
section
namespace Go.Proofs.Ytgmmfdilfpkbmaa.Q
open Go.RowKit Go.Proofs.YtgmmfdilfpkbmaaW.PrintWords Go.Proofs.YtgmmfdilfpkbmaaW.PrintLast Go.Proofs.Ytgmmfdilfpkbmaa.P Go.Proofs.Ytgmmfdilfpkbmaa.B
set_option linter.unusedVariables false
set_option linter.unusedSimpArgs false
theorem two_a (A R : List Nat) (x y : Nat) : rd (ofn (A ++ x :: y :: R)) ((A.length : Nat) : Int) = (x : Int) := rd_mid A (y :: R) x rfl
theorem two_b (A R : List Nat) (x y : Nat) : rd (ofn (A ++ x :: y :: R)) ((A.length + 1 : Nat) : Int) = (y : Int) := by
  rw [show A ++ x :: y :: R = (A ++ [x]) ++ y :: R by simp]
  exact rd_mid (A ++ [x]) R y (by simp)
theorem two_set (A R : List Nat) (x y : Nat) : ((ofn (A ++ x :: y :: R)).set A.length (y : Int)).set (A.length + 1) (x : Int) = ofn (A ++ y :: x :: R) := by
  rw [set_mid A (y :: R) x y rfl, show A ++ y :: y :: R = (A ++ [y]) ++ y :: R by simp, set_mid (A ++ [y]) R y x (by simp)]
  simp
theorem two_set' (A R : List Nat) (x y : Nat) : ((ofn (A ++ x :: y :: R)).set (A.length + 1) (x : Int)).set A.length (y : Int) = ofn (A ++ y :: x :: R) := by
  rw [show A ++ x :: y :: R = (A ++ [x]) ++ y :: R by simp, set_mid (A ++ [x]) R y x (by simp), show (A ++ [x]) ++ x :: R = A ++ x :: (x :: R) by simp, set_mid A (x :: R) x y rfl]
theorem two_len (A R : List Nat) (x y : Nat) : (ofn (A ++ x :: y :: R)).length = A.length + 2 + R.length := by rw [ofn_len]; simp; omega
theorem shiftF (x : Nat) (Z : List Nat) : ∀ (R1 A : List Nat) (k : Nat), A.length + R1.length + Z.length + 1 ≤ 1000000 → R1.length < k →
    Zaa.l1 k (ofn (A ++ x :: (R1 ++ Z))) ((A.length + 1 + R1.length : Nat) : Int) (A.length : Int) = some (ofn (A ++ (R1 ++ x :: Z))) := by
  intro R1
  induction R1 with
  | nil =>
    intro A k hl hk
    obtain ⟨k, rfl, _⟩ := Za6 hk
    simp only [List.length_nil] at hl ⊢
    simp only [Zaa.l1]
    rw [if_neg (by rw [w64 (by omega) (by omega)]; omega)]
    rfl
  | cons r R1 ih =>
    intro A k hl hk
    obtain ⟨k, rfl, _⟩ := Za6 hk
    simp only [List.length_cons] at hl hk
    have e := ih (A ++ [r]) k (by simp only [List.length_append, List.length_cons, List.length_nil]; omega) (by omega)
    have hlen := two_len A (R1 ++ Z) x r
    have c1 : ((A.length : Nat) : Int) < ((A.length + 1 + (R1.length + 1) : Nat) : Int) - 1 := by omega
    have c2 : ((A.length + 1 : Nat) : Int) < ((ofn (A ++ x :: r :: (R1 ++ Z))).length : Int) := by omega
    have c3 : ((A.length : Nat) : Int) < ((ofn (A ++ x :: r :: (R1 ++ Z))).length : Int) := by omega
    have c4 : wrap64 (((A.length + 1 + (R1.length + 1) : Nat) : Int) - 1) = ((A.length + 1 + (R1.length + 1) : Nat) : Int) - 1 := w64 (by omega) (by omega)
    have c5 : wrap64 ((A.length : Int) + 1) = ((A.length + 1 : Nat) : Int) := wrap_nat (by omega)
    simp only [Zaa.l1, List.cons_append, List.length_cons]
    rw [c4, if_pos c1, c5, if_pos (by omega), if_pos c2, if_pos (by omega), if_pos c3, two_a, two_b, Int.toNat_natCast, Int.toNat_natCast, two_set]
    simpa [Nat.add_comm, Nat.add_left_comm, Nat.add_assoc] using e
theorem shiftB (y : Nat) : ∀ (n : Nat) (L2 A Z : List Nat) (k : Nat), L2.length = n → A.length + L2.length + Z.length + 1 ≤ 1000000 → L2.length < k →
    Zaa.l3 k (ofn (A ++ (L2 ++ y :: Z))) (A.length : Int) ((A.length + L2.length : Nat) : Int) = some (ofn (A ++ y :: (L2 ++ Z))) := by
  intro n
  induction n with
  | zero =>
    intro L2 A Z k hn hl hk
    obtain ⟨k, rfl, _⟩ := Za6 hk
    obtain rfl : L2 = [] := List.eq_nil_of_length_eq_zero hn
    simp only [Zaa.l3]
    rw [if_neg (by simp)]
    rfl
  | succ n ih =>
    intro L2 A Z k hn hl hk
    obtain ⟨k, rfl, _⟩ := Za6 hk
    obtain ⟨D, p, rfl⟩ : ∃ D p, L2 = D ++ [p] := by
      rcases List.eq_nil_or_concat L2 with rfl | ⟨D, p, rfl⟩
      · simp at hn
      · exact ⟨D, p, by simp⟩
    have hD : D.length = n := by simpa using hn
    simp only [List.length_append, List.length_cons, List.length_nil] at hl hk ⊢
    have e := ih D A (p :: Z) k hD (by simp only [List.length_cons]; omega) (by omega)
    have hlen := two_len (A ++ D) Z p y
    simp only [List.length_append] at hlen
    have c1 : ((A.length + (D.length + (0 + 1)) : Nat) : Int) > (A.length : Int) := by omega
    have c4 : wrap64 (((A.length + (D.length + (0 + 1)) : Nat) : Int) - 1) = (((A ++ D).length : Nat) : Int) := by rw [w64 (by omega) (by omega), List.length_append]; omega
    have c2 : (((A ++ D).length : Nat) : Int) < ((ofn ((A ++ D) ++ p :: y :: Z)).length : Int) := by rw [List.length_append]; omega
    have c6 : ((A.length + (D.length + (0 + 1)) : Nat) : Int) = (((A ++ D).length + 1 : Nat) : Int) := by rw [List.length_append]; omega
    have c3 : (((A ++ D).length + 1 : Nat) : Int) < ((ofn ((A ++ D) ++ p :: y :: Z)).length : Int) := by rw [List.length_append]; omega
    have eD : A ++ (D ++ [p] ++ y :: Z) = (A ++ D) ++ p :: y :: Z := by simp
    simp only [Zaa.l3]
    rw [if_pos c1, c4, eD, c6, if_pos (by omega), if_pos c2, if_pos (by omega), if_pos c3, two_a, two_b, Int.toNat_natCast, Int.toNat_natCast, two_set']
    rw [show (A ++ D).length = A.length + D.length from List.length_append]
    simpa using e
theorem at_in (A R B : List Nat) {h : Nat} (hh : h < R.length) {i : Int} (hi : i = ((A.length + h : Nat) : Int)) : rd (ofn (A ++ (R ++ B))) i = (R[h] : Int) := by
  subst hi
  rw [rd_ofn (by simp; omega), List.getElem_append_right (by omega)]
  simp [List.getElem_append_left hh]
theorem pw_get {V : Int} {nums : List Int} {R : List Nat} (h : R.Pairwise (lq V nums)) {i j : Nat} (hi : i < R.length) (hj : j < R.length) (hij : i < j) : lq V nums R[i] R[j] := List.pairwise_iff_getElem.1 h i j hi hj hij
theorem search1 {V : Int} {nums : List Int} (h : okd V nums) {A R B : List Nat} {x : Nat} (hx : x < nums.length) (hR : ∀ y ∈ R, x < y ∧ y < nums.length) (hs : R.Pairwise (lq V nums)) (hl : A.length + R.length + B.length + 1 ≤ 100000) {Q : Option (List Int) → Prop} {C : Nat}
    (next : ∀ k p, C < k → p ≤ R.length → (∀ t (ht : t < R.length), t < p → lq V nums R[t] x) → (∀ t (ht : t < R.length), p ≤ t → lq V nums x R[t]) → Q (Zaa.l1 k (ofn (A ++ x :: (R ++ B))) ((A.length + 1 + p : Nat) : Int) (A.length : Int))) :
    ∀ d p q k, q - p ≤ d → p ≤ q → q ≤ R.length → (∀ t (ht : t < R.length), t < p → lq V nums R[t] x) → (∀ t (ht : t < R.length), q ≤ t → lq V nums x R[t]) → d + C + 1 < k →
      Q (Zaa.l0 k (ofn (A ++ x :: (R ++ B))) (A.length : Int) ((A.length + 1 + p : Nat) : Int) ((A.length + 1 + q : Nat) : Int) V nums) := by
  have hll : (ofn (A ++ x :: (R ++ B))).length = A.length + R.length + B.length + 1 := by rw [ofn_len]; simp; omega
  intro d
  induction d with
  | zero =>
    intro p q k h1 h2 h3 h4 h5 hk
    obtain ⟨k, rfl, _⟩ := Za6 hk
    obtain rfl : p = q := by omega
    simp only [Zaa.l0]
    rw [if_neg (by omega)]
    exact next k p (by omega) h3 h4 h5
  | succ d ih =>
    intro p q k h1 h2 h3 h4 h5 hk
    obtain ⟨k, rfl, _⟩ := Za6 hk
    rcases Nat.lt_or_ge p q with c | c
    · obtain ⟨m, hm⟩ : ∃ m, (A.length + 1 + p + (A.length + 1 + q)) / 2 = A.length + 1 + m := ⟨(p + q) / 2, by omega⟩
      have hpq : p ≤ m ∧ m < q := by omega
      have hmR : m < R.length := by omega
      have hRm := hR _ (List.getElem_mem hmR)
      have c2 : ((A.length + 1 + p : Nat) : Int) < ((A.length + 1 + q : Nat) : Int) := by omega
      have c3 : ((A.length + 1 + m : Nat) : Int) < ((ofn (A ++ x :: (R ++ B))).length : Int) := by omega
      have c4 : ((A.length : Nat) : Int) < ((ofn (A ++ x :: (R ++ B))).length : Int) := by omega
      have b1 : A.length + 1 + p + (A.length + 1 + q) ≤ 1000000 := by omega
      have b5 : A.length + 1 + m < 9223372036854775807 := by omega
      have g : rd (ofn (A ++ x :: (R ++ B))) ((A.length + 1 + m : Nat) : Int) = (R[m] : Int) := by
        have := at_in (A ++ [x]) R B hmR (i := ((A.length + 1 + m : Nat) : Int)) (by simp)
        simpa using this
      have g0 : rd (ofn (A ++ x :: (R ++ B))) (A.length : Int) = (x : Int) := rd_mid A (R ++ B) x rfl
      have c5 : wrap64 (((A.length + 1 + m : Nat) : Int) + 1) = ((A.length + 1 + (m + 1) : Nat) : Int) := wrap_nat b5
      have e1 := half64 (x := A.length + 1 + p) (y := A.length + 1 + q) b1
      rw [hm] at e1
      simp only [Zaa.l0]
      rw [if_pos c2, e1, if_pos (Int.natCast_nonneg _), if_pos c3, if_pos (Int.natCast_nonneg _), if_pos c4, g, g0, cmpP_eq h hRm.2 hx, Option.bind_some, c5]
      clear e1 g g0 c5
      by_cases c6 : (rst V nums x - rst V nums R[m]).sign < 0
      · rw [if_pos c6]
        have hlt := (lt_iff hRm.1).1 c6
        refine ih (m + 1) q k (by omega) (by omega) h3 (fun t ht htm => ?_) h5 (by omega)
        rcases Nat.lt_or_ge t m with h7 | h7
        · exact lq_trans (pw_get hs ht hmR h7) hlt
        · obtain rfl : t = m := by omega
          exact hlt
      · rw [if_neg c6]
        have hlt := (nlt_iff hRm.1).1 c6
        refine ih p m k (by omega) (by omega) (by omega) h4 (fun t ht htm => ?_) (by omega)
        rcases Nat.lt_or_ge m t with h7 | h7
        · exact lq_trans hlt (pw_get hs hmR ht h7)
        · obtain rfl : t = m := by omega
          exact hlt
    · obtain rfl : p = q := by omega
      simp only [Zaa.l0]
      rw [if_neg (by omega)]
      exact next k p (by omega) h3 h4 h5
theorem search2 {V : Int} {nums : List Int} (h : okd V nums) {A L B : List Nat} {y : Nat} (hy : y < nums.length) (hL : ∀ x ∈ L, x < y) (hs : L.Pairwise (lq V nums)) (hl : A.length + L.length + B.length + 1 ≤ 100000) {Q : Option (List Int) → Prop} {C : Nat}
    (next : ∀ k p, C < k → p ≤ L.length → (∀ t (ht : t < L.length), t < p → lq V nums L[t] y) → (∀ t (ht : t < L.length), p ≤ t → lq V nums y L[t]) → Q (Zaa.l3 k (ofn (A ++ (L ++ y :: B))) ((A.length + p : Nat) : Int) ((A.length + L.length : Nat) : Int))) :
    ∀ d p q k, q - p ≤ d → p ≤ q → q ≤ L.length → (∀ t (ht : t < L.length), t < p → lq V nums L[t] y) → (∀ t (ht : t < L.length), q ≤ t → lq V nums y L[t]) → d + C + 1 < k →
      Q (Zaa.l2 k (ofn (A ++ (L ++ y :: B))) ((A.length + L.length : Nat) : Int) ((A.length + p : Nat) : Int) ((A.length + q : Nat) : Int) V nums) := by
  have hll : (ofn (A ++ (L ++ y :: B))).length = A.length + L.length + B.length + 1 := by rw [ofn_len]; simp; omega
  intro d
  induction d with
  | zero =>
    intro p q k h1 h2 h3 h4 h5 hk
    obtain ⟨k, rfl, _⟩ := Za6 hk
    obtain rfl : p = q := by omega
    simp only [Zaa.l2]
    rw [if_neg (by omega)]
    exact next k p (by omega) h3 h4 h5
  | succ d ih =>
    intro p q k h1 h2 h3 h4 h5 hk
    obtain ⟨k, rfl, _⟩ := Za6 hk
    rcases Nat.lt_or_ge p q with c | c
    · obtain ⟨m, hm⟩ : ∃ m, (A.length + p + (A.length + q)) / 2 = A.length + m := ⟨(p + q) / 2, by omega⟩
      have hpq : p ≤ m ∧ m < q := by omega
      have hmL : m < L.length := by omega
      have hLm := hL _ (List.getElem_mem hmL)
      have c2 : ((A.length + p : Nat) : Int) < ((A.length + q : Nat) : Int) := by omega
      have c3 : ((A.length + m : Nat) : Int) < ((ofn (A ++ (L ++ y :: B))).length : Int) := by omega
      have c4 : ((A.length + L.length : Nat) : Int) < ((ofn (A ++ (L ++ y :: B))).length : Int) := by omega
      have b1 : A.length + p + (A.length + q) ≤ 1000000 := by omega
      have b5 : A.length + m < 9223372036854775807 := by omega
      have g : rd (ofn (A ++ (L ++ y :: B))) ((A.length + m : Nat) : Int) = (L[m] : Int) := at_in A L (y :: B) hmL rfl
      have g0 : rd (ofn (A ++ (L ++ y :: B))) ((A.length + L.length : Nat) : Int) = (y : Int) := by
        rw [show A ++ (L ++ y :: B) = (A ++ L) ++ y :: B by simp]
        exact rd_mid (A ++ L) B y (by simp)
      have c5 : wrap64 (((A.length + m : Nat) : Int) + 1) = ((A.length + (m + 1) : Nat) : Int) := wrap_nat b5
      have e1 := half64 (x := A.length + p) (y := A.length + q) b1
      rw [hm] at e1
      simp only [Zaa.l2]
      rw [if_pos c2, e1, if_pos (Int.natCast_nonneg _), if_pos c4, if_pos (Int.natCast_nonneg _), if_pos c3, g, g0, cmpP_eq h hy (Nat.lt_trans hLm hy), Option.bind_some, c5]
      clear e1 g g0 c5
      by_cases c6 : (rst V nums L[m] - rst V nums y).sign < 0
      · rw [if_pos c6]
        have hlt := (lt_iff hLm).1 c6
        refine ih p m k (by omega) (by omega) (by omega) h4 (fun t ht htm => ?_) (by omega)
        rcases Nat.lt_or_ge m t with h7 | h7
        · exact lq_trans hlt (pw_get hs hmL ht h7)
        · obtain rfl : t = m := by omega
          exact hlt
      · rw [if_neg c6]
        have hlt := (nlt_iff hLm).1 c6
        refine ih (m + 1) q k (by omega) (by omega) h3 (fun t ht htm => ?_) h5 (by omega)
        rcases Nat.lt_or_ge t m with h7 | h7
        · exact lq_trans (pw_get hs ht hmL h7) hlt
        · obtain rfl : t = m := by omega
          exact hlt
    · obtain rfl : p = q := by omega
      simp only [Zaa.l2]
      rw [if_neg (by omega)]
      exact next k p (by omega) h3 h4 h5
theorem search3 {V : Int} {nums : List Int} (h : okd V nums) {A L R B : List Nat} (hLR : ∀ x ∈ L, ∀ y ∈ R, x < y) (hR : ∀ y ∈ R, y < nums.length) (hl : A.length + L.length + R.length + B.length ≤ 100000) {H : Nat} (hH : 2 * H ≤ L.length + R.length) (hH2 : L.length + R.length ≤ 2 * H + 1) {b mid : Int} {Q : Option (List Int) → Prop} {C : Nat}
    (next : ∀ k i, C < k → H - R.length ≤ i → i ≤ min H L.length → (∀ (h1 : i - 1 < L.length) (h2 : H - i < R.length), H - R.length < i → lq V nums L[i - 1] R[H - i]) → (∀ (h1 : i < L.length) (h2 : H - 1 - i < R.length), i < min H L.length → lq V nums R[H - 1 - i] L[i]) →
      Q (if ((A.length + i : Nat) : Int) < ((A.length + L.length : Nat) : Int) then Zaa.j6 k (ofn (A ++ (L ++ (R ++ B)))) (A.length : Int) ((A.length + L.length : Nat) : Int) b mid ((A.length + i : Nat) : Int) ((A.length + L.length + (H - i) : Nat) : Int) (decide (((A.length + L.length : Nat) : Int) < ((A.length + L.length + (H - i) : Nat) : Int))) V nums
        else Zaa.j6 k (ofn (A ++ (L ++ (R ++ B)))) (A.length : Int) ((A.length + L.length : Nat) : Int) b mid ((A.length + i : Nat) : Int) ((A.length + L.length + (H - i) : Nat) : Int) false V nums)) :
    ∀ d s t k, t - s ≤ d → s ≤ t → H - R.length ≤ s → t ≤ min H L.length → (∀ (h1 : s - 1 < L.length) (h2 : H - s < R.length), H - R.length < s → lq V nums L[s - 1] R[H - s]) → (∀ (h1 : t < L.length) (h2 : H - 1 - t < R.length), t < min H L.length → lq V nums R[H - 1 - t] L[t]) → d + C + 1 < k →
      Q (Zaa.l4 k (ofn (A ++ (L ++ (R ++ B)))) (A.length : Int) ((A.length + L.length : Nat) : Int) b mid ((A.length + H + (A.length + L.length) : Nat) : Int) ((A.length + s : Nat) : Int) ((A.length + t : Nat) : Int) ((A.length + H + (A.length + L.length) - 1 : Nat) : Int) V nums) := by
  have hll : (ofn (A ++ (L ++ (R ++ B)))).length = A.length + L.length + R.length + B.length := by rw [ofn_len]; simp; omega
  intro d
  have stop : ∀ s k, s ≤ min H L.length → H - R.length ≤ s → (∀ (h1 : s - 1 < L.length) (h2 : H - s < R.length), H - R.length < s → lq V nums L[s - 1] R[H - s]) → (∀ (h1 : s < L.length) (h2 : H - 1 - s < R.length), s < min H L.length → lq V nums R[H - 1 - s] L[s]) → C < k →
      Q (Zaa.l4 (k + 1) (ofn (A ++ (L ++ (R ++ B)))) (A.length : Int) ((A.length + L.length : Nat) : Int) b mid ((A.length + H + (A.length + L.length) : Nat) : Int) ((A.length + s : Nat) : Int) ((A.length + s : Nat) : Int) ((A.length + H + (A.length + L.length) - 1 : Nat) : Int) V nums) := by
    intro s k h2 h3 h4 h5 hk
    have := next k s hk h3 h2 h4 h5
    have e : wrap64 (((A.length + H + (A.length + L.length) : Nat) : Int) - ((A.length + s : Nat) : Int)) = ((A.length + L.length + (H - s) : Nat) : Int) := by rw [w64 (by omega) (by omega)]; omega
    simp only [Zaa.l4]
    rw [if_neg (by omega), e]
    exact this
  induction d with
  | zero =>
    intro s t k h1 h2 h3 h4 h5 h6 hk
    obtain ⟨k, rfl, _⟩ := Za6 hk
    obtain rfl : s = t := by omega
    exact stop s k h4 h3 h5 h6 (by omega)
  | succ d ih =>
    intro s t k h1 h2 h3 h4 h5 h6 hk
    obtain ⟨k, rfl, _⟩ := Za6 hk
    rcases Nat.lt_or_ge s t with c | c
    · obtain ⟨m, hm⟩ : ∃ m, (A.length + s + (A.length + t)) / 2 = A.length + m := ⟨(s + t) / 2, by omega⟩
      have hst : s ≤ m ∧ m < t := by omega
      have hmL : m < L.length := by omega
      have hqR : H - 1 - m < R.length := by omega
      have hmR := List.getElem_mem hqR
      have hlt0 := hLR _ (List.getElem_mem hmL) _ hmR
      have hRn := hR _ hmR
      have c2 : ((A.length + s : Nat) : Int) < ((A.length + t : Nat) : Int) := by omega
      have c3 : ((A.length + m : Nat) : Int) < ((ofn (A ++ (L ++ (R ++ B)))).length : Int) := by omega
      have c4 : ((A.length + L.length + (H - 1 - m) : Nat) : Int) < ((ofn (A ++ (L ++ (R ++ B)))).length : Int) := by omega
      have b1 : A.length + s + (A.length + t) ≤ 1000000 := by omega
      have b5 : A.length + m < 9223372036854775807 := by omega
      have b6 : -9223372036854775808 ≤ ((A.length + H + (A.length + L.length) - 1 : Nat) : Int) - ((A.length + m : Nat) : Int) := by omega
      have b7 : ((A.length + H + (A.length + L.length) - 1 : Nat) : Int) - ((A.length + m : Nat) : Int) ≤ 9223372036854775807 := by omega
      have b8 : ((A.length + H + (A.length + L.length) - 1 : Nat) : Int) - ((A.length + m : Nat) : Int) = ((A.length + L.length + (H - 1 - m) : Nat) : Int) := by omega
      have hLn : L[m] < nums.length := by omega
      have g : rd (ofn (A ++ (L ++ (R ++ B)))) ((A.length + m : Nat) : Int) = (L[m] : Int) := at_in A L (R ++ B) hmL rfl
      have e2 : wrap64 (((A.length + H + (A.length + L.length) - 1 : Nat) : Int) - ((A.length + m : Nat) : Int)) = ((A.length + L.length + (H - 1 - m) : Nat) : Int) := (w64 b6 b7).trans b8
      have g0 : rd (ofn (A ++ (L ++ (R ++ B)))) ((A.length + L.length + (H - 1 - m) : Nat) : Int) = (R[H - 1 - m] : Int) := by
        rw [show A ++ (L ++ (R ++ B)) = (A ++ L) ++ (R ++ B) by simp]
        exact at_in (A ++ L) R B hqR (by simp)
      have c5 : wrap64 (((A.length + m : Nat) : Int) + 1) = ((A.length + (m + 1) : Nat) : Int) := wrap_nat b5
      have e1 := half64 (x := A.length + s) (y := A.length + t) b1
      rw [hm] at e1
      simp only [Zaa.l4]
      rw [if_pos c2, e1, e2, if_pos (Int.natCast_nonneg _), if_pos c4, if_pos (Int.natCast_nonneg _), if_pos c3, g, g0, cmpP_eq h hRn hLn, Option.bind_some, c5]
      clear e1 e2 g g0 c5
      by_cases c6 : (rst V nums L[m] - rst V nums R[H - 1 - m]).sign < 0
      · rw [if_pos c6]
        have hlt := (lt_iff hlt0).1 c6
        exact ih s m k (by omega) (by omega) h3 (by omega) h5 (fun _ _ _ => hlt) (by omega)
      · rw [if_neg c6]
        have hlt := (nlt_iff hlt0).1 c6
        refine ih (m + 1) t k (by omega) (by omega) (by omega) h4 (fun h7 h8 _ => ?_) h6 (by omega)
        simp only [Nat.add_sub_cancel]
        have : H - (m + 1) = H - 1 - m := by omega
        simp only [this]
        exact hlt
    · obtain rfl : s = t := by omega
      exact stop s k h4 h3 h5 h6 (by omega)
end Go.Proofs.Ytgmmfdilfpkbmaa.Q
end
section
namespace Go.Proofs.Ytgmmfdilfpkbmaa.Q
open Go.RowKit Go.Proofs.YtgmmfdilfpkbmaaW.PrintWords Go.Proofs.YtgmmfdilfpkbmaaW.PrintLast Go.Proofs.Ytgmmfdilfpkbmaa.P Go.Proofs.Ytgmmfdilfpkbmaa.B
set_option linter.unusedVariables false
set_option linter.unusedSimpArgs false
theorem take_all {P : Nat → Prop} {R : List Nat} {p : Nat} (h : ∀ t (ht : t < R.length), t < p → P R[t]) : ∀ y ∈ R.take p, P y := by
  intro y hy
  obtain ⟨t, ht, rfl⟩ := List.mem_iff_getElem.1 hy
  rw [List.length_take] at ht
  rw [List.getElem_take]
  exact h t (by omega) (by omega)
theorem drop_all {P : Nat → Prop} {R : List Nat} {p : Nat} (h : ∀ t (ht : t < R.length), p ≤ t → P R[t]) : ∀ y ∈ R.drop p, P y := by
  intro y hy
  obtain ⟨t, ht, rfl⟩ := List.mem_iff_getElem.1 hy
  rw [List.length_drop] at ht
  rw [List.getElem_drop]
  exact h (p + t) (by omega) (by omega)
theorem pw_put {V : Int} {nums : List Int} {R : List Nat} {x p : Nat} (hs : R.Pairwise (lq V nums)) (h1 : ∀ y ∈ R.take p, lq V nums y x) (h2 : ∀ y ∈ R.drop p, lq V nums x y) : (R.take p ++ x :: R.drop p).Pairwise (lq V nums) ∧ (R.take p ++ x :: R.drop p).Perm (x :: R) := by
  have hp := hs
  rw [← List.take_append_drop p R, List.pairwise_append] at hp
  constructor
  · rw [List.pairwise_append]
    refine ⟨hp.1, List.pairwise_cons.2 ⟨h2, hp.2.1⟩, fun a ha b hb => ?_⟩
    rcases List.mem_cons.1 hb with rfl | hb
    · exact h1 a ha
    · exact hp.2.2 a ha b hb
  · exact List.perm_middle.trans (by rw [List.take_append_drop])
theorem afterCut {V : Int} {nums : List Int} {A L1 L2 R1 R2 B : List Nat} {a m b mid st en : Int} (hl : A.length + L1.length + L2.length + R1.length + R2.length + B.length ≤ 100) (ha : a = A.length) (hst : st = (A.length + L1.length : Nat)) (hm : m = (A.length + L1.length + L2.length : Nat)) (hen : en = (A.length + L1.length + L2.length + R1.length : Nat)) {k : Nat} (hk : 2300 < k) :
    (if st < m then Zaa.j6 (k + 1) (ofn (A ++ ((L1 ++ L2) ++ ((R1 ++ R2) ++ B)))) a m b mid st en (decide (m < en)) V nums else Zaa.j6 (k + 1) (ofn (A ++ ((L1 ++ L2) ++ ((R1 ++ R2) ++ B)))) a m b mid st en false V nums) =
      Zaa.j7 k (ofn (A ++ ((L1 ++ R1) ++ ((L2 ++ R2) ++ B)))) a b mid st en V nums := by
  by_cases c : 0 < L2.length ∧ 0 < R1.length
  · have e := rotate_eq (V := V) (nums := nums) (U := L2) (W := R1) (X := A ++ L1) (Z := R2 ++ B) (k := k) (a := st) (m := m) (b := en) c.1 c.2 (by rw [List.length_append]; exact hst) (by rw [List.length_append]; exact hm) (by rw [List.length_append]; exact hen) (by simp only [List.length_append]; omega) (by omega)
    rw [if_pos (by omega), decide_eq_true (by omega : m < en)]
    simp only [Zaa.j6]
    rw [if_pos trivial, show A ++ (L1 ++ L2 ++ (R1 ++ R2 ++ B)) = A ++ L1 ++ L2 ++ R1 ++ (R2 ++ B) by simp, e, Option.bind_some]
    simp
  · have e0 : A ++ ((L1 ++ L2) ++ ((R1 ++ R2) ++ B)) = A ++ ((L1 ++ R1) ++ ((L2 ++ R2) ++ B)) := by
      rcases Nat.eq_zero_or_pos L2.length with h0 | h0
      · obtain rfl := List.eq_nil_of_length_eq_zero h0
        simp
      · have h1 : R1.length = 0 := by omega
        obtain rfl := List.eq_nil_of_length_eq_zero h1
        simp
    rw [e0]
    by_cases c2 : st < m
    · rw [if_pos c2, decide_eq_false (by omega)]
      simp only [Zaa.j6]
      rw [if_neg (by simp)]
    · rw [if_neg c2]
      simp only [Zaa.j6]
      rw [if_neg (by simp)]
theorem j7_eq {V : Int} {nums : List Int} {D : List Int} {a b mid st en : Int} {k : Nat} : Zaa.j7 (k + 1) D a b mid st en V nums = Zaa.j8 k D a b mid st en (decide (a < st ∧ st < mid)) V nums := by
  simp only [Zaa.j7]
  by_cases c : a < st
  · rw [if_pos c]
    congr 1
    exact decide_eq_decide.2 ⟨fun h => ⟨c, h⟩, fun h => h.2⟩
  · rw [if_neg c, decide_eq_false (fun h => c h.1)]
theorem halves {V : Int} {nums : List Int} {A L1 L2 R1 R2 B : List Nat} {N : Nat} {a b mid st en : Int} {k : Nat}
    (ih : ∀ (L R A B : List Nat), L.length + R.length ≤ N → 1 ≤ L.length → 1 ≤ R.length → L.Pairwise (lq V nums) → R.Pairwise (lq V nums) → (∀ x ∈ L, ∀ y ∈ R, x < y) → (∀ y ∈ R, y < nums.length) → A.length + L.length + R.length + B.length ≤ 100 →
      ∃ M, Zaa.f k (ofn (A ++ (L ++ (R ++ B)))) (A.length : Int) ((A.length + L.length : Nat) : Int) ((A.length + L.length + R.length : Nat) : Int) V nums = some (ofn (A ++ (M ++ B))) ∧ M.Pairwise (lq V nums) ∧ M.Perm (L ++ R))
    (hN1 : L1.length + R1.length ≤ N) (hN2 : L2.length + R2.length ≤ N) (hL1 : L1.Pairwise (lq V nums)) (hL2 : L2.Pairwise (lq V nums)) (hR1 : R1.Pairwise (lq V nums)) (hR2 : R2.Pairwise (lq V nums)) (h1 : ∀ x ∈ L1, ∀ y ∈ R1, x < y) (h2 : ∀ x ∈ L2, ∀ y ∈ R2, x < y) (hb1 : ∀ y ∈ R1, y < nums.length) (hb2 : ∀ y ∈ R2, y < nums.length)
    (hl : A.length + L1.length + L2.length + R1.length + R2.length + B.length ≤ 100) (ha : a = A.length) (hst : st = (A.length + L1.length : Nat)) (hmid : mid = (A.length + L1.length + R1.length : Nat)) (hen : en = (A.length + L1.length + R1.length + L2.length : Nat)) (hb : b = (A.length + L1.length + R1.length + L2.length + R2.length : Nat)) :
    ∃ M1 M2, Zaa.j8 (k + 1) (ofn (A ++ ((L1 ++ R1) ++ ((L2 ++ R2) ++ B)))) a b mid st en (decide (a < st ∧ st < mid)) V nums = some (ofn (A ++ ((M1 ++ M2) ++ B))) ∧ M1.Pairwise (lq V nums) ∧ M1.Perm (L1 ++ R1) ∧ M2.Pairwise (lq V nums) ∧ M2.Perm (L2 ++ R2) := by
  have second : ∀ M1 : List Nat, M1.length = L1.length + R1.length → ∃ M2, (if mid < en then (if en < b then (Zaa.f k (ofn (A ++ (M1 ++ ((L2 ++ R2) ++ B)))) mid en b V nums).bind (fun t => some t) else some (ofn (A ++ (M1 ++ ((L2 ++ R2) ++ B))))) else some (ofn (A ++ (M1 ++ ((L2 ++ R2) ++ B))))) = some (ofn (A ++ ((M1 ++ M2) ++ B))) ∧ M2.Pairwise (lq V nums) ∧ M2.Perm (L2 ++ R2) := by
    intro M1 hM1
    rcases Nat.eq_zero_or_pos L2.length with h0 | h0
    · obtain rfl := List.eq_nil_of_length_eq_zero h0
      simp only [List.length_nil] at hen
      rw [if_neg (by omega)]
      exact ⟨R2, by simp, hR2, by simp⟩
    · rw [if_pos (by omega)]
      rcases Nat.eq_zero_or_pos R2.length with h0' | h0'
      · obtain rfl := List.eq_nil_of_length_eq_zero h0'
        simp only [List.length_nil] at hb
        rw [if_neg (by omega)]
        exact ⟨L2, by simp, hL2, by simp⟩
      · rw [if_pos (by omega)]
        obtain ⟨M2, e, p1, p2⟩ := ih L2 R2 (A ++ M1) B hN2 h0 h0' hL2 hR2 h2 hb2 (by rw [List.length_append]; omega)
        refine ⟨M2, ?_, p1, p2⟩
        have q1 : mid = ((A ++ M1).length : Int) := by rw [List.length_append]; omega
        have q2 : en = (((A ++ M1).length + L2.length : Nat) : Int) := by rw [List.length_append]; omega
        have q3 : b = (((A ++ M1).length + L2.length + R2.length : Nat) : Int) := by rw [List.length_append]; omega
        rw [q1, q2, q3, show A ++ (M1 ++ ((L2 ++ R2) ++ B)) = (A ++ M1) ++ (L2 ++ (R2 ++ B)) by simp, e, Option.bind_some]
        simp
  simp only [Zaa.j8]
  by_cases c : a < st ∧ st < mid
  · rw [decide_eq_true c, if_pos rfl]
    obtain ⟨M1, e, p1, p2⟩ := ih L1 R1 A ((L2 ++ R2) ++ B) hN1 (by omega) (by omega) hL1 hR1 h1 hb1 (by simp only [List.length_append]; omega)
    have hM1 := p2.length_eq
    rw [List.length_append] at hM1
    obtain ⟨M2, e2, p3, p4⟩ := second M1 hM1
    refine ⟨M1, M2, ?_, p1, p2, p3, p4⟩
    rw [ha, hst, hmid, show A ++ ((L1 ++ R1) ++ ((L2 ++ R2) ++ B)) = A ++ (L1 ++ (R1 ++ ((L2 ++ R2) ++ B))) by simp, e, Option.bind_some, ← hmid]
    exact e2
  · rw [decide_eq_false c, if_neg (by simp)]
    obtain ⟨M2, e2, p3, p4⟩ := second (L1 ++ R1) List.length_append
    refine ⟨L1 ++ R1, M2, e2, ?_, List.Perm.refl _, p3, p4⟩
    rcases Nat.eq_zero_or_pos L1.length with h0 | h0
    · obtain rfl := List.eq_nil_of_length_eq_zero h0
      simpa using hR1
    · have h1' : R1.length = 0 := by omega
      obtain rfl := List.eq_nil_of_length_eq_zero h1'
      simpa using hL1
theorem pw_split {V : Int} {nums : List Int} {L : List Nat} (h : L.Pairwise (lq V nums)) (i : Nat) : (L.take i).Pairwise (lq V nums) ∧ (L.drop i).Pairwise (lq V nums) := by
  rw [← List.take_append_drop i L, List.pairwise_append] at h
  exact ⟨h.1, h.2.1⟩
theorem kw1_aux {H l r : Nat} (h2 : 2 * H ≤ l + r) : H - r ≤ min H l := by rw [Nat.le_min]; omega
set_option maxRecDepth 100000 in
theorem kw2_aux {A B l r N k : Nat} (H : Nat) (hk : 130 * (N + 1) + 2600 < k + 1) (hl : A + l + r + B ≤ 100) : min H l - (H - r) + (130 * N + 2610) + 1 < k - 1 := by
  have h0 := Nat.min_le_right H l
  have h1 : min H l - (H - r) ≤ 100 := Nat.le_trans (Nat.sub_le ..) (by omega)
  generalize min H l - (H - r) = z at h1
  clear h0
  obtain ⟨m, rfl⟩ : ∃ m, k = m + 1 := ⟨k - 1, by omega⟩
  rw [Nat.add_sub_cancel]
  rw [Nat.mul_succ] at hk
  generalize 130 * N = y at hk ⊢
  clear hl
  omega
set_option maxRecDepth 100000 in
theorem kw3_aux {N k : Nat} (hk : 130 * (N + 1) + 2600 < k + 1) : 2000 < k := by omega
set_option maxRecDepth 100000 in
theorem sym_eq {V : Int} {nums : List Int} (h : okd V nums) : ∀ (N : Nat) (L R A B : List Nat) (k : Nat), L.length + R.length ≤ N → 1 ≤ L.length → 1 ≤ R.length → L.Pairwise (lq V nums) → R.Pairwise (lq V nums) → (∀ x ∈ L, ∀ y ∈ R, x < y) → (∀ y ∈ R, y < nums.length) → A.length + L.length + R.length + B.length ≤ 100 → 130 * N + 2600 < k →
    ∃ M, Zaa.f k (ofn (A ++ (L ++ (R ++ B)))) (A.length : Int) ((A.length + L.length : Nat) : Int) ((A.length + L.length + R.length : Nat) : Int) V nums = some (ofn (A ++ (M ++ B))) ∧ M.Pairwise (lq V nums) ∧ M.Perm (L ++ R) := by
  intro N
  induction N with
  | zero => intro L R A B k h1 h2; omega
  | succ N ih =>
    intro L R A B k hN hL1 hR1 hL hR hLR hRn hl hk
    obtain ⟨k, rfl, _⟩ := Za6 hk
    have d1 : wrap64 (((A.length + L.length : Nat) : Int) - (A.length : Int)) = (L.length : Int) := by rw [w64 (by omega) (by omega)]; omega
    have d2 : wrap64 (((A.length + L.length + R.length : Nat) : Int) - ((A.length + L.length : Nat) : Int)) = (R.length : Int) := by clear d1; rw [w64 (by omega) (by omega)]; omega
    simp only [Zaa.f]
    rw [d1, d2]
    clear d1 d2
    by_cases c1 : L.length = 1
    · obtain ⟨x, rfl⟩ := List.length_eq_one_iff.1 c1
      rw [if_pos (by simp)]
      have := search1 h (A := A) (R := R) (B := B) (x := x) (by
          have := List.getElem_mem (show 0 < R.length by omega)
          have h1 := hLR x (by simp) _ this
          have h2 := hRn _ this
          omega) (fun y hy => ⟨hLR x (by simp) y hy, hRn y hy⟩) hR (by simp at hl; omega) (Q := fun r => ∃ M, r = some (ofn (A ++ (M ++ B))) ∧ M.Pairwise (lq V nums) ∧ M.Perm ([x] ++ R)) (C := R.length + 1) (fun k p hk hp h1 h2 => by
          have t1 := take_all (P := fun y => lq V nums y x) h1
          have t2 := drop_all (P := fun y => lq V nums x y) h2
          have pw := pw_put hR t1 t2
          refine ⟨_, ?_, pw.1, pw.2⟩
          have e := shiftF x (R.drop p ++ B) (R.take p) A k (by simp only [List.length_take, List.length_drop, List.length_append]; simp at hl; omega) (by rw [List.length_take]; omega)
          rw [List.length_take, Nat.min_eq_left hp, ← List.append_assoc, List.take_append_drop] at e
          rw [e]
          simp) R.length 0 R.length k (by omega) (by omega) (Nat.le_refl _) (fun t ht h0 => by omega) (fun t ht h0 => by omega) (by omega)
      simpa using this
    · rw [if_neg (by omega)]
      by_cases c2 : R.length = 1
      · obtain ⟨y, rfl⟩ := List.length_eq_one_iff.1 c2
        rw [if_pos (by simp)]
        have := search2 h (A := A) (L := L) (B := B) (y := y) (hRn y (by simp)) (fun x hx => hLR x hx y (by simp)) hL (by simp at hl; omega) (Q := fun r => ∃ M, r = some (ofn (A ++ (M ++ B))) ∧ M.Pairwise (lq V nums) ∧ M.Perm (L ++ [y])) (C := L.length + 1) (fun k p hk hp h1 h2 => by
            have t1 := take_all (P := fun x => lq V nums x y) h1
            have t2 := drop_all (P := fun x => lq V nums y x) h2
            have pw := pw_put hL t1 t2
            refine ⟨_, ?_, pw.1, pw.2.trans (by simpa using (List.perm_append_comm (l₁ := [y]) (l₂ := L)))⟩
            have e := shiftB y (L.drop p).length (L.drop p) (A ++ L.take p) B k rfl (by simp only [List.length_take, List.length_drop, List.length_append]; simp at hl; omega) (by rw [List.length_drop]; omega)
            rw [show A ++ L.take p ++ (L.drop p ++ y :: B) = A ++ (L.take p ++ L.drop p ++ y :: B) by simp only [List.append_assoc], List.take_append_drop, show (A ++ L.take p).length + (L.drop p).length = A.length + L.length by simp only [List.length_append, List.length_take, List.length_drop]; omega, show (A ++ L.take p).length = A.length + p by simp only [List.length_append, List.length_take]; omega] at e
            rw [e]
            simp) L.length 0 L.length k (by omega) (by omega) (Nat.le_refl _) (fun t ht h0 => by omega) (fun t ht h0 => by omega) (by omega)
        simpa using this
      · rw [if_neg (by omega)]
        obtain ⟨H, hH⟩ : ∃ H, H = (L.length + R.length) / 2 := ⟨_, rfl⟩
        have em : (A.length + (A.length + L.length + R.length)) / 2 = A.length + H := by omega
        have bm : A.length + (A.length + L.length + R.length) ≤ 1000000 := by omega
        have hH1 : 2 * H ≤ L.length + R.length := by omega
        have hH2 : L.length + R.length ≤ 2 * H + 1 := by omega
        have bn1 : -9223372036854775808 ≤ ((A.length + H : Nat) : Int) + ((A.length + L.length : Nat) : Int) := by omega
        have bn2 : ((A.length + H : Nat) : Int) + ((A.length + L.length : Nat) : Int) ≤ 9223372036854775807 := by omega
        have bn3 : ((A.length + H : Nat) : Int) + ((A.length + L.length : Nat) : Int) = ((A.length + H + (A.length + L.length) : Nat) : Int) := by omega
        have bp1 : -9223372036854775808 ≤ ((A.length + H + (A.length + L.length) : Nat) : Int) - 1 := by omega
        have bp2 : ((A.length + H + (A.length + L.length) : Nat) : Int) - 1 ≤ 9223372036854775807 := by omega
        have bp3 : ((A.length + H + (A.length + L.length) : Nat) : Int) - 1 = ((A.length + H + (A.length + L.length) - 1 : Nat) : Int) := by omega
        have bs1 : -9223372036854775808 ≤ ((A.length + H + (A.length + L.length) : Nat) : Int) - ((A.length + L.length + R.length : Nat) : Int) := by omega
        have bs2 : ((A.length + H + (A.length + L.length) : Nat) : Int) - ((A.length + L.length + R.length : Nat) : Int) ≤ 9223372036854775807 := by omega
        have key := search3 h (A := A) (L := L) (R := R) (B := B) hLR hRn (by omega) hH1 hH2 (b := ((A.length + L.length + R.length : Nat) : Int)) (mid := ((A.length + H : Nat) : Int)) (Q := fun r => ∃ M, r = some (ofn (A ++ (M ++ B))) ∧ M.Pairwise (lq V nums) ∧ M.Perm (L ++ R)) (C := 130 * N + 2610) (fun k i hk hi1 hi2 cond1 cond2 => by
          obtain ⟨k, rfl, _⟩ := Za6 hk
          obtain ⟨k, rfl, _⟩ := Za6 (show 2000 < k by omega)
          obtain ⟨k, rfl, _⟩ := Za6 (show 2000 < k by omega)
          have eL := List.take_append_drop i L
          have eR := List.take_append_drop (H - i) R
          have lL1 : (L.take i).length = i := by rw [List.length_take]; omega
          have lL2 : (L.drop i).length = L.length - i := List.length_drop ..
          have lR1 : (R.take (H - i)).length = H - i := by rw [List.length_take]; omega
          have lR2 : (R.drop (H - i)).length = R.length - (H - i) := List.length_drop ..
          have sL := pw_split hL i
          have sR := pw_split hR (H - i)
          have x1 : ∀ x ∈ L.take i, ∀ y ∈ R.drop (H - i), lq V nums x y := by
            intro x hx y hy
            obtain ⟨t, ht, rfl⟩ := List.mem_iff_getElem.1 hx
            obtain ⟨u, hu, rfl⟩ := List.mem_iff_getElem.1 hy
            rw [lL1] at ht
            rw [lR2] at hu
            rw [List.getElem_take, List.getElem_drop]
            have hc := cond1 (by omega) (by omega) (by omega)
            have h1 : lq V nums L[t] L[i - 1] ∨ L[t] = L[i - 1] := by
              rcases Nat.lt_or_ge t (i - 1) with h | h
              · exact .inl (pw_get hL (by omega) (by omega) h)
              · right; congr 1; omega
            have h2 : lq V nums R[H - i] R[H - i + u] ∨ R[H - i] = R[H - i + u] := by
              rcases Nat.eq_zero_or_pos u with h | h
              · right; congr 1; omega
              · exact .inl (pw_get hR (by omega) (by omega) (by omega))
            rcases h1 with h1 | h1
            · rcases h2 with h2 | h2
              · exact lq_trans h1 (lq_trans hc h2)
              · rw [← h2]; exact lq_trans h1 hc
            · rw [h1]
              rcases h2 with h2 | h2
              · exact lq_trans hc h2
              · rw [← h2]; exact hc
          have x2 : ∀ x ∈ R.take (H - i), ∀ y ∈ L.drop i, lq V nums x y := by
            intro x hx y hy
            obtain ⟨t, ht, rfl⟩ := List.mem_iff_getElem.1 hx
            obtain ⟨u, hu, rfl⟩ := List.mem_iff_getElem.1 hy
            rw [lR1] at ht
            rw [lL2] at hu
            rw [List.getElem_take, List.getElem_drop]
            have hc := cond2 (by omega) (by omega) (by omega)
            have h1 : lq V nums R[t] R[H - 1 - i] ∨ R[t] = R[H - 1 - i] := by
              rcases Nat.lt_or_ge t (H - 1 - i) with h | h
              · exact .inl (pw_get hR (by omega) (by omega) h)
              · right; congr 1; omega
            have h2 : lq V nums L[i] L[i + u] ∨ L[i] = L[i + u] := by
              rcases Nat.eq_zero_or_pos u with h | h
              · right; congr 1; omega
              · exact .inl (pw_get hL (by omega) (by omega) (by omega))
            rcases h1 with h1 | h1
            · rcases h2 with h2 | h2
              · exact lq_trans h1 (lq_trans hc h2)
              · rw [← h2]; exact lq_trans h1 hc
            · rw [h1]
              rcases h2 with h2 | h2
              · exact lq_trans hc h2
              · rw [← h2]; exact hc
          have y1 := pw_split hL i
          have x3 : ∀ x ∈ L.take i, ∀ y ∈ L.drop i, lq V nums x y := by
            have hp := hL
            rw [← eL, List.pairwise_append] at hp
            exact hp.2.2
          have x4 : ∀ x ∈ R.take (H - i), ∀ y ∈ R.drop (H - i), lq V nums x y := by
            have hp := hR
            rw [← eR, List.pairwise_append] at hp
            exact hp.2.2
          have z1 : ∀ x ∈ L.take i, ∀ y ∈ R.take (H - i), x < y := fun x hx y hy => hLR x (List.mem_of_mem_take hx) y (List.mem_of_mem_take hy)
          have z2 : ∀ x ∈ L.drop i, ∀ y ∈ R.drop (H - i), x < y := fun x hx y hy => hLR x (List.mem_of_mem_drop hx) y (List.mem_of_mem_drop hy)
          have z3 : ∀ y ∈ R.take (H - i), y < nums.length := fun y hy => hRn y (List.mem_of_mem_take hy)
          have z4 : ∀ y ∈ R.drop (H - i), y < nums.length := fun y hy => hRn y (List.mem_of_mem_drop hy)
          have ac := afterCut (V := V) (nums := nums) (A := A) (L1 := L.take i) (L2 := L.drop i) (R1 := R.take (H - i)) (R2 := R.drop (H - i)) (B := B) (a := (A.length : Int)) (m := ((A.length + L.length : Nat) : Int)) (b := ((A.length + L.length + R.length : Nat) : Int)) (mid := ((A.length + H : Nat) : Int)) (st := ((A.length + i : Nat) : Int)) (en := ((A.length + L.length + (H - i) : Nat) : Int)) (by omega) rfl (by omega) (by omega) (by omega) (k := k + 1 + 1) (by omega)
          rw [eL, eR] at ac
          rw [ac, j7_eq]
          obtain ⟨M1, M2, e, p1, p2, p3, p4⟩ := halves (V := V) (nums := nums) (A := A) (L1 := L.take i) (L2 := L.drop i) (R1 := R.take (H - i)) (R2 := R.drop (H - i)) (B := B) (N := N) (a := (A.length : Int)) (b := ((A.length + L.length + R.length : Nat) : Int)) (mid := ((A.length + H : Nat) : Int)) (st := ((A.length + i : Nat) : Int)) (en := ((A.length + L.length + (H - i) : Nat) : Int)) (k := k)
            (fun L R A B h1 h2 h3 h4 h5 h6 h7 h8 => ih L R A B k h1 h2 h3 h4 h5 h6 h7 h8 (by omega)) (by omega) (by omega) sL.1 sL.2 sR.1 sR.2 z1 z2 z3 z4 (by omega) rfl (by omega) (by omega) (by omega) (by omega)
          refine ⟨M1 ++ M2, e, List.pairwise_append.2 ⟨p1, p3, fun x hx y hy => ?_⟩, ?_⟩
          · have hx := p2.mem_iff.1 hx
            have hy := p4.mem_iff.1 hy
            rcases List.mem_append.1 hx with hx | hx <;> rcases List.mem_append.1 hy with hy | hy
            · exact x3 x hx y hy
            · exact x1 x hx y hy
            · exact x2 x hx y hy
            · exact x4 x hx y hy
          · refine (p2.append p4).trans ?_
            conv => rhs; rw [← eL, ← eR]
            rw [List.append_assoc, List.append_assoc]
            refine List.Perm.append_left _ ?_
            rw [← List.append_assoc, ← List.append_assoc]
            exact List.perm_append_comm.append_right _)
        have kw1 := kw1_aux (l := L.length) hH1
        have kw2 := kw2_aux (A := A.length) (B := B.length) H hk hl
        have kw3 := kw3_aux hk
        by_cases c3 : L.length > H
        · have e3 := key (min H L.length - (H - R.length)) (H - R.length) (min H L.length) (k - 1) (Nat.le_refl _) kw1 (Nat.le_refl _) (Nat.le_refl _) (fun _ _ h => (Nat.lt_irrefl _ h).elim) (fun _ _ h => (Nat.lt_irrefl _ h).elim) kw2
          have q1 : ((A.length + L.length : Nat) : Int) > ((A.length + H : Nat) : Int) := by clear key e3 kw1 kw2; omega
          have q2 : ((A.length + H + (A.length + L.length) : Nat) : Int) - ((A.length + L.length + R.length : Nat) : Int) = ((A.length + (H - R.length) : Nat) : Int) := by clear key e3 kw1 kw2; omega
          have q3 : min H L.length = H := Nat.min_eq_left (Nat.le_of_lt c3)
          obtain ⟨k, rfl, _⟩ := Za6 kw3
          rw [Nat.add_sub_cancel, q3] at e3
          have e1 := half64 bm
          rw [em] at e1
          rw [e1, if_pos q1, w64 bn1 bn2, bn3, w64 bs1 bs2, q2]
          simp only [Zaa.j4]
          rw [w64 bp1 bp2, bp3]
          exact e3
        · have e3 := key (min H L.length - (H - R.length)) (H - R.length) (min H L.length) (k - 1) (Nat.le_refl _) kw1 (Nat.le_refl _) (Nat.le_refl _) (fun _ _ h => (Nat.lt_irrefl _ h).elim) (fun _ _ h => (Nat.lt_irrefl _ h).elim) kw2
          have q1 : ¬ ((A.length + L.length : Nat) : Int) > ((A.length + H : Nat) : Int) := by clear key e3 kw1 kw2; omega
          have q3 : min H L.length = L.length := Nat.min_eq_right (Nat.le_of_not_lt c3)
          have q4 : H - R.length = 0 := by clear key e3 kw1 kw2; omega
          obtain ⟨k, rfl, _⟩ := Za6 kw3
          rw [Nat.add_sub_cancel, q3, q4] at e3
          have e1 := half64 bm
          rw [em] at e1
          rw [e1, if_neg q1, w64 bn1 bn2, bn3]
          simp only [Zaa.j4]
          rw [w64 bp1 bp2, bp3]
          exact e3
end Go.Proofs.Ytgmmfdilfpkbmaa.Q
end
