/- The law FnExactCompareRatios answers true at all arguments: the program's CompareRatios is the reference's. No condition. -/
import Derived.Test.YtgkgkaphdfhcnaaQ1
import Derived.Test.YtgkgkaphdfhcnaaP12
namespace Go.Proofs.Ytgkgkaphdfhcnaa.Pure
open Go.RowKit Go.Proofs.YtgkgkaphdfhcnaaW.PrintWords Go.Proofs.YtgkgkaphdfhcnaaW.PrintLast Go.Proofs.Ytgkgkaphdfhcnaa.P Go.Proofs.Ytgkgkaphdfhcnaa.B Go.Proofs.Ytgkgkaphdfhcnaa.Q

theorem FnExactCompareRatios : laws_FnExactCompareRatios.Pure := by
  intro a b c d _ _ _ _
  refine ⟨3, ?_⟩
  unfold laws_FnExactCompareRatios.f spec_CompareRatios.f impl_CompareRatios.f
  rw [l01Ratio_eq, l01Ratio_eq, areWithin_eq (by simp) _ _ (by simp), areWithin_eq (by simp) _ _ (by simp)]
  by_cases h1 : (-1000000000 ≤ a ∧ a ≤ 1000000000) ∧ 1 ≤ b ∧ b ≤ 1000000000
  · by_cases h2 : (-1000000000 ≤ c ∧ c ≤ 1000000000) ∧ 1 ≤ d ∧ d ≤ 1000000000
    · have e1 : allIn [a, c] (-1000000000) 1000000000 = true := by simp [allIn, h1, h2]
      have e2 : allIn [b, d] 1 1000000000 = true := by simp [allIn, h1, h2]
      have m1 : -1000000000000000000 ≤ a * d ∧ a * d ≤ 1000000000000000000 := by
        have x1 := Int.mul_le_mul_of_nonneg_right h1.1.1 (show 0 ≤ d by omega)
        have x2 := Int.mul_le_mul_of_nonneg_right h1.1.2 (show 0 ≤ d by omega)
        omega
      have m2 : -1000000000000000000 ≤ c * b ∧ c * b ≤ 1000000000000000000 := by
        have x1 := Int.mul_le_mul_of_nonneg_right h2.1.1 (show 0 ≤ b by omega)
        have x2 := Int.mul_le_mul_of_nonneg_right h2.1.2 (show 0 ≤ b by omega)
        omega
      simp only [h1, h2, e1, e2, and_self, decide_true, Option.bind_some, if_true, sign_eq, compare_eq]
      rw [w64 (x := a * d) (by omega) (by omega), w64 (x := c * b) (by omega) (by omega), w64 (by omega) (by omega)]
      simp
    · have e : (allIn [a, c] (-1000000000) 1000000000 && allIn [b, d] 1 1000000000) = false := by
        cases hb : (allIn [a, c] (-1000000000) 1000000000 && allIn [b, d] 1 1000000000) with
        | false => rfl
        | true =>
          rw [Bool.and_eq_true] at hb
          simp only [allIn_iff] at hb
          exact absurd ⟨hb.1 c (by simp), hb.2 d (by simp)⟩ h2
      simp only [h1, h2, and_self, decide_true, decide_false, Option.bind_some, if_true]
      cases e1 : allIn [a, c] (-1000000000) 1000000000 with
      | false => simp
      | true => rw [e1, Bool.true_and] at e; simp [e]
  · have e : (allIn [a, c] (-1000000000) 1000000000 && allIn [b, d] 1 1000000000) = false := by
      cases hb : (allIn [a, c] (-1000000000) 1000000000 && allIn [b, d] 1 1000000000) with
      | false => rfl
      | true =>
        rw [Bool.and_eq_true] at hb
        simp only [allIn_iff] at hb
        exact absurd ⟨hb.1 a (by simp), hb.2 b (by simp)⟩ h1
    simp only [h1, decide_false, Option.bind_some]
    cases e1 : allIn [a, c] (-1000000000) 1000000000 with
    | false => simp
    | true => rw [e1, Bool.true_and] at e; simp [e]

end Go.Proofs.Ytgkgkaphdfhcnaa.Pure
