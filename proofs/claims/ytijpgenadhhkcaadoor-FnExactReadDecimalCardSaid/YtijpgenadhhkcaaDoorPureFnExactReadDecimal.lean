/- FnExactReadDecimal answers true at every text. -/
import Derived.Test.YtijpgenadhhkcaaDoorQNFnExactReadDecimal
import Derived.Test.YtijpgenadhhkcaaDoorP2
import Derived.Test.YtijpgenadhhkcaaDoorP3
namespace Go.Proofs.YtijpgenadhhkcaaDoor.Pure
open Go.RowKit Go.Proofs.YtijpgenadhhkcaaDoorW.PrintWords Go.Proofs.YtijpgenadhhkcaaDoorW.PrintLast Go.Proofs.YtijpgenadhhkcaaDoor.P Go.Proofs.YtijpgenadhhkcaaDoor.B Go.Proofs.YtijpgenadhhkcaaDoor.Q
set_option linter.unusedVariables false
set_option linter.unusedSimpArgs false

theorem FnExactReadDecimal : laws_FnExactReadDecimal.Pure := by
  intro a0 h0
  refine ⟨1048576 + 5000, ?_⟩
  unfold laws_FnExactReadDecimal.f
  by_cases c : (a0.size : Int) > 1048576
  · rw [if_pos c]
  · rw [if_neg c, ReadDecimal_spec (by omega) (by omega), Option.bind_some, ReadDecimal_impl (by omega), Option.bind_some, if_pos rfl, if_neg (by simp)]

end Go.Proofs.YtijpgenadhhkcaaDoor.Pure
