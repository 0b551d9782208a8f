/- The law FnExactDivNearest answers true at all arguments: the program's DivNearest is the reference's. No condition. -/
import Derived.Test.YtgkgkaphdfhcnaaQ1
import Derived.Test.YtgkgkaphdfhcnaaP11
namespace Go.Proofs.Ytgkgkaphdfhcnaa.Pure
open Go.RowKit Go.Proofs.YtgkgkaphdfhcnaaW.PrintWords Go.Proofs.YtgkgkaphdfhcnaaW.PrintLast Go.Proofs.Ytgkgkaphdfhcnaa.P Go.Proofs.Ytgkgkaphdfhcnaa.B Go.Proofs.Ytgkgkaphdfhcnaa.Q

theorem FnExactDivNearest : laws_FnExactDivNearest.Pure := by
  intro a b _ _
  unfold laws_FnExactDivNearest.f spec_DivNearest.f impl_DivNearest.f impl_divided_nearest.f
  rw [l01Ratio_eq, within_eq, within_eq]
  by_cases h1 : -1000000000 ≤ a ∧ a ≤ 1000000000
  · by_cases h2 : 1 ≤ b ∧ b ≤ 1000000000
    · simp only [h1, h2, and_self, decide_true, Option.bind_some, if_true]
      rw [nearest_eq h2.1 (by omega) (by omega) (by omega), l01Near_eq h2.1 (by omega) (by omega) (by omega)]
      simp
    · simp [h1, h2]
  · simp [h1]

end Go.Proofs.Ytgkgkaphdfhcnaa.Pure
