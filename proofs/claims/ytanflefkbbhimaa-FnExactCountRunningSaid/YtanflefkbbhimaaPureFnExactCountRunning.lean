/- FnExactCountRunning answers true at all arguments. -/
import Derived.Test.YtanflefkbbhimaaQRBFnExactCountRunning
import Derived.Test.YtanflefkbbhimaaP5
namespace Go.Proofs.Ytanflefkbbhimaa.Pure
open Go.RowKit Go.Proofs.YtanflefkbbhimaaW.PrintWords Go.Proofs.YtanflefkbbhimaaW.PrintLast Go.Proofs.Ytanflefkbbhimaa.P Go.Proofs.Ytanflefkbbhimaa.B Go.Proofs.Ytanflefkbbhimaa.Q
set_option linter.unusedVariables false
set_option linter.unusedSimpArgs false

set_option maxRecDepth 100000 in
theorem FnExactCountRunning : laws_FnExactCountRunning.Pure := by
  intro den l h0 h1 h2
  unfold maxLen at h1
  refine ⟨600000000000000 + 1, ?_⟩
  unfold laws_FnExactCountRunning.f
  obtain ⟨r, e, hr⟩ := szValues_eq (l := l) (by omega) den
  rw [e, Option.bind_some]
  by_cases c : r < 0
  · rw [if_pos c]
  rw [if_neg c]
  have hl : l.length ≤ 1048576 := by
    rcases Nat.lt_or_ge 1048576 l.length with z | z
    · exact absurd (hr.2 z) c
    · exact z
  have z1 := toValues_eq hl den (k := 600000000000000 + 1) (by omega)
  have z2 := CountRunning_spec (den := den) hl (k := 600000000000000 + 1) (by omega)
  have z3 := CountRunning_impl (den := den) hl (k := 600000000000000 + 1) (by omega)
  have z4 := eqValues_self (l := l) (by omega) den (k := 600000000000000) (by omega)
  have z5 := toValues_eq hl den (k := 600000000000000) (by omega)
  rw [z1, Option.bind_some, z2, Option.bind_some, Option.bind_some, z3, Option.bind_some, if_pos rfl]
  simp only [laws_FnExactCountRunning.j0, bne_self_eq_false, Bool.false_eq_true, if_false, z5, Option.bind_some, z4, if_true]

end Go.Proofs.Ytanflefkbbhimaa.Pure
