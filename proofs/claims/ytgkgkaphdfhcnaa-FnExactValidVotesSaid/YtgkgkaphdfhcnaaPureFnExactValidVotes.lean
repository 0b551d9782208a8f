/- The law FnExactValidVotes answers true at all arguments: the program's ValidVotes is the reference's. No condition. -/
import Derived.Test.YtgkgkaphdfhcnaaQV
import Derived.Test.YtgkgkaphdfhcnaaP4
import Derived.Test.YtgkgkaphdfhcnaaP14
namespace Go.Proofs.Ytgkgkaphdfhcnaa.Pure
open Go.RowKit Go.Proofs.YtgkgkaphdfhcnaaW.PrintWords Go.Proofs.YtgkgkaphdfhcnaaW.PrintLast Go.Proofs.Ytgkgkaphdfhcnaa.P Go.Proofs.Ytgkgkaphdfhcnaa.B Go.Proofs.Ytgkgkaphdfhcnaa.Q

theorem FnExactValidVotes : laws_FnExactValidVotes.Pure := by
  intro l _ _ _
  refine ⟨l.length + 1, ?_⟩
  unfold laws_FnExactValidVotes.f
  by_cases c : (l.length : Int) > 1048576
  · rw [if_pos c]
  rw [if_neg c]
  have hl : l.length ≤ 1048576 := by omega
  rw [toInt64S_eq hl (by omega)]
  simp only [Option.bind_some]
  unfold spec_ValidVotes.f
  rw [l02Is_eq (by omega) (by omega), validVotes_eq (by omega) (by omega), eqInt64S_self (by omega) (by omega)]
  simp

end Go.Proofs.Ytgkgkaphdfhcnaa.Pure
