/- The law FnExactListText answers true at all arguments: the program's ListText is the reference's. No condition. -/
import Derived.Test.YtijpgenadhhkcaaDoorQKFnExactListText
import Derived.Test.YtijpgenadhhkcaaDoorP1
import Derived.Test.YtijpgenadhhkcaaDoorP2
import Derived.Test.YtijpgenadhhkcaaDoorP3
namespace Go.Proofs.YtijpgenadhhkcaaDoor.Pure
open Go.RowKit Go.Proofs.YtijpgenadhhkcaaDoorW.PrintWords Go.Proofs.YtijpgenadhhkcaaDoorW.PrintLast Go.Proofs.YtijpgenadhhkcaaDoor.P Go.Proofs.YtijpgenadhhkcaaDoor.B Go.Proofs.YtijpgenadhhkcaaDoor.Q
set_option linter.unusedSimpArgs false
set_option linter.unusedVariables false

theorem FnExactListText : laws_FnExactListText.Pure := by
  intro l0 h0a h0b h0c
  refine ⟨l0.length + 9000, ?_⟩
  unfold laws_FnExactListText.f
  by_cases c0 : (l0.length : Int) > 1048576
  · rw [if_pos c0]
  rw [if_neg c0]
  have e0 : l0.length ≤ 1048576 := by omega
  have hs : ∀ k, l0.length + 3000 < k → spec_ListText.f k l0 = some (ListText_res l0) := fun k hk => ListText_spec (fun x hx => wf64 (h0c x hx)) e0 (by omega)
  have hi : ∀ k, l0.length + 3000 < k → impl_ListText.f k l0 = some (ListText_res l0) := fun k hk => ListText_impl (fun x hx => wf64 (h0c x hx)) e0 (by omega)
  generalize ListText_res l0 = R at hs hi
  obtain ⟨b0, b1⟩ := R
  have z0 := hs (l0.length + 9000) (by omega)
  have z1 := hi (l0.length + 9000) (by omega)
  have z2 := toInt64S_eq e0 (k := l0.length + 9000) (by omega)
  have z3 := eqInt64S_self (l := l0) (by omega) (k := l0.length + 9000) (by omega)
  have z4 := hs (l0.length + 8999) (by omega)
  have z5 := hi (l0.length + 8999) (by omega)
  have z6 := toInt64S_eq e0 (k := l0.length + 8999) (by omega)
  have z7 := eqInt64S_self (l := l0) (by omega) (k := l0.length + 8999) (by omega)
  simp only [laws_FnExactListText.j0, z0, z1, z2, z3, z4, z5, z6, z7, Option.bind_some, if_true, if_false, Bool.false_eq_true, bne_self_eq_false, Bool.not_true, Bool.not_false]

end Go.Proofs.YtijpgenadhhkcaaDoor.Pure
