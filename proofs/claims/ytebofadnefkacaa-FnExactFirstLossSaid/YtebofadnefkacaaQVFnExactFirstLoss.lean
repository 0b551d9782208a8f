/- What the printed checks of votes compute, told plainly. -/
import Derived.Test.YtebofadnefkacaaQ1FnExactFirstLoss
import Derived.Test.YtebofadnefkacaaP1
import Derived.Test.YtebofadnefkacaaP2
import Derived.Test.YtebofadnefkacaaP3
namespace Go.Proofs.Ytebofadnefkacaa.Q
open Go.RowKit Go.Proofs.YtebofadnefkacaaW.PrintWords Go.Proofs.YtebofadnefkacaaW.PrintLast Go.Proofs.Ytebofadnefkacaa.P Go.Proofs.Ytebofadnefkacaa.B
set_option linter.unusedVariables false
set_option linter.unusedSimpArgs false

/-- Votes are as the document asks. -/
def vt (l : List Int) : Bool := decide (1 ≤ l.length ∧ l.length ≤ 12) && (allIn l 0 1000000 && decide (0 < l.sum))
theorem vt_iff {l : List Int} : vt l = true ↔ (1 ≤ l.length ∧ l.length ≤ 12) ∧ (∀ x ∈ l, 0 ≤ x ∧ x ≤ 1000000) ∧ 0 < l.sum := by
  simp only [vt, Bool.and_eq_true, decide_eq_true_eq, allIn_iff]
theorem sum_nonneg : ∀ {l : List Int}, (∀ x ∈ l, 0 ≤ x) → 0 ≤ l.sum
  | [], _ => by simp
  | x :: xs, h => by
    have h1 := sum_nonneg (l := xs) (fun y hy => h y (List.mem_cons_of_mem _ hy))
    have h2 := h x (List.mem_cons_self ..)
    rw [List.sum_cons]; omega
theorem votes_run : ∀ (l : List Int) (s : Bool), runL (fun x s => if decide (0 ≤ x ∧ x ≤ 1000000) = true then .inl (s || decide (x > 0)) else .inr (some false)) (fun s => some s) l s = some (allIn l 0 1000000 && (s || decide (0 < l.sum)))
  | [], s => by simp [runL, allIn]
  | x :: xs, s => by
    simp only [runL]
    by_cases h : 0 ≤ x ∧ x ≤ 1000000
    · simp only [h, and_self, decide_true, if_true]
      rw [votes_run xs]
      have e : allIn (x :: xs) 0 1000000 = allIn xs 0 1000000 := by simp [allIn, h]
      rw [e]
      cases hx : allIn xs 0 1000000 with
      | false => simp
      | true =>
        have hn := sum_nonneg (l := xs) (fun y hy => (allIn_iff.1 hx y hy).1)
        simp only [Bool.true_and, List.sum_cons, Bool.or_assoc]
        congr 2
        rw [← Bool.decide_or]
        exact decide_eq_decide.2 (by omega)
    · have e : allIn (x :: xs) 0 1000000 = false := by simp only [allIn, List.all_cons, h, decide_false, Bool.false_and]
      rw [e]
      simp only [h, decide_false, Bool.false_and]
      simp
theorem l02Is_eq {l : List Int} (hl : l.length ≤ 4611686018427387904) {k : Nat} (hk : l.length < k) : spec_l02Is.f k l = some (vt l) := by
  have h := loopL0 (l := l) (F := fun k i s => spec_l02Is.l0 k l s i) (S := fun x s => if decide (0 ≤ x ∧ x ≤ 1000000) = true then .inl (s || decide (x > 0)) else .inr (some false)) (D := fun s => some s) hl
    (fun k s => by simp only [spec_l02Is.l0]; rw [if_neg (by omega)])
    (fun k n hn s => by
      simp only [spec_l02Is.l0]
      rw [if_pos (by omega), if_pos (by omega), rd_nat hn, wrap_nat (by omega), l00In_eq]
      simp only [Option.bind_some]
      by_cases c : 0 ≤ l[n] ∧ l[n] ≤ 1000000
      · simp only [c, and_self, decide_true, if_true]
        cases s <;> simp
      · simp only [c, decide_false]
        simp) k hk false
  unfold spec_l02Is.f
  rw [l00In_eq]
  simp only [Option.bind_some]
  have e : decide (1 ≤ (l.length : Int) ∧ (l.length : Int) ≤ 12) = decide (1 ≤ l.length ∧ l.length ≤ 12) := decide_eq_decide.2 (by omega)
  rw [e]
  simp only [vt]
  cases decide (1 ≤ l.length ∧ l.length ≤ 12) with
  | false => simp
  | true =>
    simp only [if_true, Bool.true_and]
    rw [h, votes_run]
    simp
theorem validVotes_eq {l : List Int} (hl : l.length ≤ 4611686018427387904) {k : Nat} (hk : l.length < k) : impl_ValidVotes.f k l = some (vt l) := by
  unfold impl_ValidVotes.f impl_size_int64.f
  simp only [Option.bind_some]
  rw [within_eq, areWithin_eq hl _ _ hk]
  simp only [Option.bind_some]
  have e : decide (1 ≤ (l.length : Int) ∧ (l.length : Int) ≤ 12) = decide (1 ≤ l.length ∧ l.length ≤ 12) := decide_eq_decide.2 (by omega)
  rw [e]
  simp only [vt]
  by_cases c : 1 ≤ l.length ∧ l.length ≤ 12
  · simp only [c, and_self, decide_true, if_true, Bool.true_and]
    cases h : allIn l 0 1000000 with
    | false => simp
    | true =>
      simp only [if_true, Bool.true_and]
      rw [sum_eq (by omega) (fun x hx => by have := allIn_iff.1 h x hx; omega) hk]
      rfl
  · simp only [c, decide_false]
    simp
end Go.Proofs.Ytebofadnefkacaa.Q
