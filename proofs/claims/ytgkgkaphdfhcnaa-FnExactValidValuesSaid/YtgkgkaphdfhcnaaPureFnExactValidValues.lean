/- The law FnExactValidValues answers true at all arguments: the program's ValidValues is the reference's. No condition. -/
import Derived.Test.YtgkgkaphdfhcnaaQ2
import Derived.Test.YtgkgkaphdfhcnaaP6
import Derived.Test.YtgkgkaphdfhcnaaP17
namespace Go.Proofs.Ytgkgkaphdfhcnaa.Pure
open Go.RowKit Go.Proofs.YtgkgkaphdfhcnaaW.PrintWords Go.Proofs.YtgkgkaphdfhcnaaW.PrintLast Go.Proofs.Ytgkgkaphdfhcnaa.P Go.Proofs.Ytgkgkaphdfhcnaa.B Go.Proofs.Ytgkgkaphdfhcnaa.Q

theorem FnExactValidValues : laws_FnExactValidValues.Pure := by
  intro den l _ hm _
  refine ⟨l.length + 1, ?_⟩
  unfold maxLen at hm
  unfold laws_FnExactValidValues.f
  obtain ⟨r, hr, hlt⟩ := szValues_eq hm den
  rw [hr]
  simp only [Option.bind_some]
  by_cases c : r < 0
  · rw [if_pos c]
  rw [if_neg c]
  have hl : l.length ≤ 1048576 := by omega
  rw [toValues_eq hl den (by omega)]
  simp only [Option.bind_some]
  unfold spec_ValidValues.f
  rw [l01Is_eq (by omega) den (by omega), validValues_eq (by omega) den (by omega), eqValues_self (by omega) den (by omega)]
  simp

end Go.Proofs.Ytgkgkaphdfhcnaa.Pure
