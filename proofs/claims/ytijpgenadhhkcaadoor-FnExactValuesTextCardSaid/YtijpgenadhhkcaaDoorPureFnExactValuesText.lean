/- The law FnExactValuesText answers true at all arguments: the program's ValuesText is the reference's. No condition. -/
import Derived.Test.YtijpgenadhhkcaaDoorQLFnExactValuesText
import Derived.Test.YtijpgenadhhkcaaDoorP2
import Derived.Test.YtijpgenadhhkcaaDoorP3
import Derived.Test.YtijpgenadhhkcaaDoorP4
namespace Go.Proofs.YtijpgenadhhkcaaDoor.Pure
open Go.RowKit Go.Proofs.YtijpgenadhhkcaaDoorW.PrintWords Go.Proofs.YtijpgenadhhkcaaDoorW.PrintLast Go.Proofs.YtijpgenadhhkcaaDoor.P Go.Proofs.YtijpgenadhhkcaaDoor.B Go.Proofs.YtijpgenadhhkcaaDoor.Q
set_option linter.unusedSimpArgs false
set_option linter.unusedVariables false

theorem FnExactValuesText : laws_FnExactValuesText.Pure := by
  intro d0 l0 h0a h0b h0c
  refine ⟨l0.length + 9000, ?_⟩
  unfold maxLen at h0b
  unfold laws_FnExactValuesText.f
  obtain ⟨r0, hr0, hlt0⟩ := szValues_eq h0b d0
  rw [hr0, Option.bind_some]
  by_cases c0 : r0 < 0
  · rw [if_pos c0]
  rw [if_neg c0]
  have e0 : l0.length ≤ 1048576 := by omega
  have hs : ∀ k, l0.length + 3000 < k → spec_ValuesText.f k d0 l0 = some (ValuesText_res d0 l0) := fun k hk => ValuesText_spec (wf64 h0a) (fun x hx => wf64 (h0c x hx)) e0 (by omega)
  have hi : ∀ k, l0.length + 3000 < k → impl_ValuesText.f k d0 l0 = some (ValuesText_res d0 l0) := fun k hk => ValuesText_impl (wf64 h0a) (fun x hx => wf64 (h0c x hx)) e0 (by omega)
  generalize ValuesText_res d0 l0 = R at hs hi
  obtain ⟨b0, b1⟩ := R
  have z0 := hs (l0.length + 9000) (by omega)
  have z1 := hi (l0.length + 9000) (by omega)
  have z2 := toValues_eq e0 d0 (k := l0.length + 9000) (by omega)
  have z3 := eqValues_self (l := l0) (by omega) d0 (k := l0.length + 9000) (by omega)
  have z4 := hs (l0.length + 8999) (by omega)
  have z5 := hi (l0.length + 8999) (by omega)
  have z6 := toValues_eq e0 d0 (k := l0.length + 8999) (by omega)
  have z7 := eqValues_self (l := l0) (by omega) d0 (k := l0.length + 8999) (by omega)
  simp only [laws_FnExactValuesText.j0, z0, z1, z2, z3, z4, z5, z6, z7, Option.bind_some, if_true, if_false, Bool.false_eq_true, bne_self_eq_false, Bool.not_true, Bool.not_false]

end Go.Proofs.YtijpgenadhhkcaaDoor.Pure
