/- What the printed functions of the first layer compute, told plainly: division, ranges, sums, checks of validity, copies and comparisons of lists. -/
import Derived.Test.YtanflefkbbhimaaB
import Derived.Test.YtanflefkbbhimaaP1
import Derived.Test.YtanflefkbbhimaaP6
import Derived.Test.YtanflefkbbhimaaP9
namespace Go.Proofs.Ytanflefkbbhimaa.Q
open Go.RowKit Go.Proofs.YtanflefkbbhimaaW.PrintWords Go.Proofs.YtanflefkbbhimaaW.PrintLast Go.Proofs.Ytanflefkbbhimaa.P Go.Proofs.Ytanflefkbbhimaa.B
set_option linter.unusedVariables false
set_option linter.unusedSimpArgs false

theorem within_eq (a b c : Int) : impl_within.f a b c = some (decide (b ≤ a ∧ a ≤ c)) := by
  unfold impl_within.f
  by_cases h : b ≤ a <;> simp [h]
theorem l00In_eq (a b c : Int) : spec_l00In.f a b c = some (decide (b ≤ a ∧ a ≤ c)) := by
  unfold spec_l00In.f
  by_cases h : b ≤ a <;> simp [h]
theorem l01Floor_eq {a b : Int} (hb : 1 ≤ b) (h1 : -1000000000000000 ≤ a) (h2 : a ≤ 1000000000000000) (hb2 : b ≤ 1000000000000000) : spec_l01Floor.f a b = some (a / b) := by
  have hd := ediv_bounds (a := a) hb (M := 1000000000000000) (by omega) h1 h2
  have hq := ediv_mul_le (a := a) hb
  have hm := Int.emod_nonneg a (show b ≠ 0 by omega)
  have he := Int.emod_add_mul_ediv a b
  rw [Int.mul_comm] at he
  unfold spec_l01Floor.f
  rw [if_neg (by omega), tdiv_pos hb]
  by_cases c : 0 ≤ a ∨ b ∣ a
  · simp only [if_pos c, Int.add_zero]
    rw [w64 (x := a / b) (by omega) (by omega), w64 (x := a / b * b) (by omega) (by omega), if_neg (by omega)]
  · simp only [if_neg c]
    have hm0 : a % b ≠ 0 := fun e => c (.inr (Int.dvd_of_emod_eq_zero e))
    rw [w64 (x := a / b + 1) (by omega) (by omega), Int.add_mul, Int.one_mul, w64 (x := a / b * b + b) (by omega) (by omega), if_pos (by omega), w64 (by omega) (by omega)]
    congr 1; omega
theorem l01Ceil_eq {a b : Int} (hb : 1 ≤ b) (h1 : -1000000000000000 ≤ a) (h2 : a ≤ 1000000000000000) (hb2 : b ≤ 1000000000000000) : spec_l01Ceil.f a b = some (cl a b) := by
  have hd := ediv_bounds (a := -a) hb (M := 1000000000000000) (by omega) (by omega) (by omega)
  unfold spec_l01Ceil.f
  rw [w64 (by omega) (by omega), l01Floor_eq hb (by omega) (by omega) hb2]
  simp only [Option.bind_some]
  rw [w64 (by omega) (by omega)]; rfl
theorem near_aux {a b : Int} (hb : 1 ≤ b) (h1 : -1000000000000000 ≤ a) (h2 : a ≤ 1000000000000000) (hb2 : b ≤ 1000000000000000) :
    (if (wrap64 (2 * (wrap64 (a - (wrap64 (a / b * b)))))) > b then (some (wrap64 (a / b + 1))) else (if (wrap64 (2 * (wrap64 (a - (wrap64 (a / b * b)))))) = b then (if (Int.tmod (a / b) 2) = 0 then (some (a / b)) else (some (wrap64 (a / b + 1)))) else (some (a / b)))) = some (nr a b) := by
  have hd := ediv_bounds (a := a) hb (M := 1000000000000000) (by omega) h1 h2
  have hq := ediv_mul_le (a := a) hb
  rw [w64 (x := a / b * b) (by omega) (by omega), w64 (x := a - a / b * b) (by omega) (by omega), w64 (x := 2 * (a - a / b * b)) (by omega) (by omega), w64 (x := a / b + 1) (by omega) (by omega)]
  unfold nr
  simp only [tmod2]
  split
  · rfl
  · split
    · split <;> rfl
    · rfl
theorem sign_cases' (x : Int) : (x < 0 ∧ x.sign = -1) ∨ (x = 0 ∧ x.sign = 0) ∨ (0 < x ∧ x.sign = 1) := by
  rcases Int.lt_trichotomy x 0 with h | h | h
  · exact .inl ⟨h, Int.sign_eq_neg_one_of_neg h⟩
  · exact .inr (.inl ⟨h, by rw [h]; rfl⟩)
  · exact .inr (.inr ⟨h, Int.sign_eq_one_of_pos h⟩)
/-- All numbers lie between two. -/
def allIn (l : List Int) (a b : Int) : Bool := l.all fun x => decide (a ≤ x ∧ x ≤ b)
theorem allIn_iff {l : List Int} {a b : Int} : allIn l a b = true ↔ ∀ x ∈ l, a ≤ x ∧ x ≤ b := by simp [allIn]
theorem indexFunc_eq {l : List Int} (hl : l.length ≤ 4611686018427387904) (a b : Int) (k : Nat) (hk : l.length < k) : slices_ContainsFunc_int64_int64_areWithin_1.f k l a b = some (!allIn l a b) := by
  have h : ∀ d n k, l.length - n = d → n ≤ l.length → d < k → ∃ r, slices_IndexFunc_int64_int64_areWithin_1.l0 k l (l.length : Int) (n : Int) a b = some r ∧ decide (r ≥ 0) = !allIn (l.drop n) a b := by
    intro d
    induction d with
    | zero =>
      intro n k hd hn hk
      obtain ⟨k, rfl, _⟩ := succ_of_lt hk
      obtain rfl : n = l.length := by omega
      refine ⟨-1, ?_, by simp [allIn]⟩
      simp only [slices_IndexFunc_int64_int64_areWithin_1.l0]
      rw [if_neg (by omega)]
    | succ d ih =>
      intro n k hd hn hk
      obtain ⟨k, rfl, hk'⟩ := succ_of_lt hk
      have h : n < l.length := by omega
      simp only [slices_IndexFunc_int64_int64_areWithin_1.l0, impl_areWithin_1_v.f]
      rw [if_pos (by omega), if_pos (by omega), if_pos (by omega), within_eq, rd_nat h, wrap_nat (by omega)]
      simp only [Option.bind_some]
      by_cases c : a ≤ l[n] ∧ l[n] ≤ b
      · obtain ⟨r, h1, h2⟩ := ih (n + 1) k (by omega) (by omega) (by omega)
        refine ⟨r, ?_, ?_⟩
        · simp only [c, and_self, decide_true, Bool.not_true]
          exact h1
        · rw [h2, List.drop_eq_getElem_cons h]
          simp only [allIn, List.all_cons, c, and_self, decide_true, Bool.true_and]
      · refine ⟨n, by simp [c], ?_⟩
        rw [List.drop_eq_getElem_cons h]
        simp only [allIn, List.all_cons, c, decide_false, Bool.false_and, Bool.not_false, decide_eq_true_eq]
        omega
  obtain ⟨r, h1, h2⟩ := h l.length 0 k (by omega) (by omega) hk
  unfold slices_ContainsFunc_int64_int64_areWithin_1.f slices_IndexFunc_int64_int64_areWithin_1.f
  rw [show slices_IndexFunc_int64_int64_areWithin_1.l0 k l (l.length : Int) 0 a b = some r from h1]
  simp only [Option.bind_some]
  rw [h2, List.drop_zero]
theorem areWithin_eq {l : List Int} (hl : l.length ≤ 4611686018427387904) (a b : Int) {k : Nat} (hk : l.length < k) : impl_areWithin.f k l a b = some (allIn l a b) := by
  unfold impl_areWithin.f
  rw [indexFunc_eq hl a b k hk]
  simp
theorem sumS : ∀ (l : List Int) (s M : Int), (∀ x ∈ l, -M ≤ x ∧ x ≤ M) → 0 ≤ M → -(l.length * M) ≤ l.sum ∧ l.sum ≤ l.length * M
  | [], _, M, _, _ => by simp
  | x :: xs, s, M, h, hM => by
    have h1 := sumS xs s M (fun y hy => h y (List.mem_cons_of_mem _ hy)) hM
    have h2 := h x (List.mem_cons_self ..)
    rw [List.sum_cons, List.length_cons, Int.natCast_add, Int.add_mul]
    omega
theorem sum_run (D : Int → Option Int) : ∀ (l : List Int) (s M : Int), (∀ x ∈ l, -M ≤ x ∧ x ≤ M) → 0 ≤ M → -9223372036854775808 ≤ s - l.length * M → s + l.length * M ≤ 9223372036854775807 →
    runL (fun x s => .inl (wrap64 (s + x))) D l s = D (s + l.sum)
  | [], s, M, _, _, _, _ => by simp [runL]
  | x :: xs, s, M, h, hM, h1, h2 => by
    have h3 := h x (List.mem_cons_self ..)
    rw [List.length_cons, Int.natCast_add, Int.add_mul] at h1 h2
    have h4 : 0 ≤ (xs.length : Int) * M := Int.mul_nonneg (by omega) hM
    simp only [runL]
    rw [w64 (by omega) (by omega), sum_run D xs (s + x) M (fun y hy => h y (List.mem_cons_of_mem _ hy)) hM (by omega) (by omega), List.sum_cons]
    congr 1; omega
theorem toInt64S_aux {l : List Int} (hl : l.length ≤ 4611686018427387904) : ∀ d n k (ys : List Int), l.length - n = d → n ≤ l.length → d < k → ys.length = l.length → ys.take n = l.take n → laws_toInt64S.l0 k l ys (n : Int) = some l := by
  intro d
  induction d with
  | zero =>
    intro n k ys hd hn hk hy ht
    obtain ⟨k, rfl, _⟩ := succ_of_lt hk
    obtain rfl : n = l.length := by omega
    simp only [laws_toInt64S.l0]
    rw [if_neg (by omega)]
    rw [List.take_of_length_le (by omega), List.take_length] at ht
    rw [ht]
  | succ d ih =>
    intro n k ys hd hn hk hy ht
    obtain ⟨k, rfl, hk'⟩ := succ_of_lt hk
    have h : n < l.length := by omega
    simp only [laws_toInt64S.l0]
    rw [if_pos (by omega), if_pos (by omega), if_pos (by omega), rd_nat h, wrap_nat (by omega), Int.toNat_natCast]
    refine ih (n + 1) k _ (by omega) (by omega) (by omega) (by simpa using hy) ?_
    rw [List.take_succ_eq_append_getElem (by simpa using (by omega : n < ys.length)), List.take_succ_eq_append_getElem h, List.take_set_of_le (Nat.le_refl _), ht, List.getElem_set_self]
theorem toInt64S_eq {l : List Int} (hl : l.length ≤ 1048576) {k : Nat} (hk : l.length < k) : laws_toInt64S.f k l = some l := by
  unfold laws_toInt64S.f
  rw [if_pos (by omega), Int.toNat_natCast, if_pos (by omega)]
  exact toInt64S_aux (by omega) l.length 0 k _ (by omega) (by omega) hk (by simp) (by simp)
theorem eqInt64S_self {l : List Int} (hl : l.length ≤ 4611686018427387904) {k : Nat} (hk : l.length < k) : laws_eqInt64S.f k l l = some true := by
  have h : ∀ d n k, l.length - n = d → n ≤ l.length → d < k → laws_eqInt64S.l0 k l l (n : Int) = some true := by
    intro d
    induction d with
    | zero =>
      intro n k hd hn hk
      obtain ⟨k, rfl, _⟩ := succ_of_lt hk
      obtain rfl : n = l.length := by omega
      simp only [laws_eqInt64S.l0]
      rw [if_neg (by omega)]
    | succ d ih =>
      intro n k hd hn hk
      obtain ⟨k, rfl, hk'⟩ := succ_of_lt hk
      simp only [laws_eqInt64S.l0]
      rw [if_pos (by omega), if_pos (by omega), if_pos (by omega), if_pos (by first | rfl | trivial), wrap_nat (by omega)]
      exact ih (n + 1) k (by omega) (by omega) (by omega)
  unfold laws_eqInt64S.f
  rw [if_pos (by rfl)]
  exact h l.length 0 k (by omega) (by omega) hk
end Go.Proofs.Ytanflefkbbhimaa.Q
