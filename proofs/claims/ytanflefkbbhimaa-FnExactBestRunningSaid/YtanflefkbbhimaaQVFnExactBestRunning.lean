/- What the printed checks of votes compute, told plainly. -/
import Derived.Test.YtanflefkbbhimaaQ1FnExactBestRunning

namespace Go.Proofs.Ytanflefkbbhimaa.Q
open Go.RowKit Go.Proofs.YtanflefkbbhimaaW.PrintWords Go.Proofs.YtanflefkbbhimaaW.PrintLast Go.Proofs.Ytanflefkbbhimaa.P Go.Proofs.Ytanflefkbbhimaa.B
set_option linter.unusedVariables false
set_option linter.unusedSimpArgs false

/-- Votes are as the document asks. -/
def vt (l : List Int) : Bool := decide (1 ≤ l.length ∧ l.length ≤ 12) && (allIn l 0 1000000 && decide (0 < l.sum))
theorem vt_iff {l : List Int} : vt l = true ↔ (1 ≤ l.length ∧ l.length ≤ 12) ∧ (∀ x ∈ l, 0 ≤ x ∧ x ≤ 1000000) ∧ 0 < l.sum := by
  simp only [vt, Bool.and_eq_true, decide_eq_true_eq, allIn_iff]
theorem sum_nonneg : ∀ {l : List Int}, (∀ x ∈ l, 0 ≤ x) → 0 ≤ l.sum
  | [], _ => by simp
  | x :: xs, h => by
    have h1 := sum_nonneg (l := xs) (fun y hy => h y (List.mem_cons_of_mem _ hy))
    have h2 := h x (List.mem_cons_self ..)
    rw [List.sum_cons]; omega
theorem votes_run : ∀ (l : List Int) (s : Bool), runL (fun x s => if decide (0 ≤ x ∧ x ≤ 1000000) = true then .inl (s || decide (x > 0)) else .inr (some false)) (fun s => some s) l s = some (allIn l 0 1000000 && (s || decide (0 < l.sum)))
  | [], s => by simp [runL, allIn]
  | x :: xs, s => by
    simp only [runL]
    by_cases h : 0 ≤ x ∧ x ≤ 1000000
    · simp only [h, and_self, decide_true, if_true]
      rw [votes_run xs]
      have e : allIn (x :: xs) 0 1000000 = allIn xs 0 1000000 := by simp [allIn, h]
      rw [e]
      cases hx : allIn xs 0 1000000 with
      | false => simp
      | true =>
        have hn := sum_nonneg (l := xs) (fun y hy => (allIn_iff.1 hx y hy).1)
        simp only [Bool.true_and, List.sum_cons, Bool.or_assoc]
        congr 2
        rw [← Bool.decide_or]
        exact decide_eq_decide.2 (by omega)
    · have e : allIn (x :: xs) 0 1000000 = false := by simp only [allIn, List.all_cons, h, decide_false, Bool.false_and]
      rw [e]
      simp only [h, decide_false, Bool.false_and]
      simp
end Go.Proofs.Ytanflefkbbhimaa.Q
