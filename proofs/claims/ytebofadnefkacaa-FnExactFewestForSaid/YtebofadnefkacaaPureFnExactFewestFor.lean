/- The law FnExactFewestFor answers true at all arguments: the program's FewestFor is the reference's. No condition. -/
import Derived.Test.YtebofadnefkacaaQFFnExactFewestFor
import Derived.Test.YtebofadnefkacaaP9
import Derived.Test.YtebofadnefkacaaP10
import Derived.Test.YtebofadnefkacaaP23
namespace Go.Proofs.Ytebofadnefkacaa.Pure
open Go.RowKit Go.Proofs.YtebofadnefkacaaW.PrintWords Go.Proofs.YtebofadnefkacaaW.PrintLast Go.Proofs.Ytebofadnefkacaa.P Go.Proofs.Ytebofadnefkacaa.B Go.Proofs.Ytebofadnefkacaa.Q
set_option linter.unusedSimpArgs false
set_option linter.unusedVariables false

theorem FnExactFewestFor : laws_FnExactFewestFor.Pure := by
  intro a0 l1 a2 a3 h0a h1a h1b h1c h2a h3a
  refine ⟨l1.length + 9000, ?_⟩
  unfold laws_FnExactFewestFor.f
  by_cases c1 : (l1.length : Int) > 1048576
  · rw [if_pos c1]
  rw [if_neg c1]
  have e1 : l1.length ≤ 1048576 := by omega
  have hs : ∀ k, l1.length + 3000 < k → spec_FewestFor.f k a0 l1 a2 a3 = some (FewestFor_res a0 l1 a2 a3) := fun k hk => FewestFor_spec (wf64 h0a) (fun x hx => wf64 (h1c x hx)) (wf64 h2a) (wf64 h3a) e1 (by omega)
  have hi : ∀ k, l1.length + 3000 < k → impl_FewestFor.f k a0 l1 a2 a3 = some (FewestFor_res a0 l1 a2 a3) := fun k hk => FewestFor_impl (wf64 h0a) (fun x hx => wf64 (h1c x hx)) (wf64 h2a) (wf64 h3a) e1 (by omega)
  generalize FewestFor_res a0 l1 a2 a3 = R at hs hi
  obtain ⟨b0, b1⟩ := R
  have z0 := hs (l1.length + 9000) (by omega)
  have z1 := hi (l1.length + 9000) (by omega)
  have z2 := toInt64S_eq e1 (k := l1.length + 9000) (by omega)
  have z3 := eqInt64S_self (l := l1) (by omega) (k := l1.length + 9000) (by omega)
  have z4 := hs (l1.length + 8999) (by omega)
  have z5 := hi (l1.length + 8999) (by omega)
  have z6 := toInt64S_eq e1 (k := l1.length + 8999) (by omega)
  have z7 := eqInt64S_self (l := l1) (by omega) (k := l1.length + 8999) (by omega)
  simp only [laws_FnExactFewestFor.j0, z0, z1, z2, z3, z4, z5, z6, z7, Option.bind_some, if_true, if_false, Bool.false_eq_true, bne_self_eq_false, lt_one_add, lt_add2, Bool.not_true, Bool.not_false]

end Go.Proofs.Ytebofadnefkacaa.Pure
