/- FnExactIsLaminar answers true at all arguments. -/
import Derived.Test.YtoelhfbmeegbdaaQLBFnExactIsLaminar
import Derived.Test.YtoelhfbmeegbdaaP8
namespace Go.Proofs.Ytoelhfbmeegbdaa.Pure
open Go.RowKit Go.Proofs.YtoelhfbmeegbdaaW.PrintWords Go.Proofs.YtoelhfbmeegbdaaW.PrintLast Go.Proofs.Ytoelhfbmeegbdaa.P Go.Proofs.Ytoelhfbmeegbdaa.B Go.Proofs.Ytoelhfbmeegbdaa.Q
set_option linter.unusedVariables false
set_option linter.unusedSimpArgs false

set_option maxRecDepth 100000 in
theorem FnExactIsLaminar : laws_FnExactIsLaminar.Pure := by
  intro den l gs h0 h1 h2 h3 h4
  unfold maxLen at h1 h3 h4
  refine ⟨400000000, ?_⟩
  unfold laws_FnExactIsLaminar.f
  obtain ⟨r1, e1, q1⟩ := szValues_at (l := l) (by omega) den (a := 1048576) (by omega)
  rw [e1, Option.bind_some]
  by_cases c1 : r1 < 0
  · rw [if_pos c1]
  rw [if_neg c1]
  have q1 := q1 (by omega)
  obtain ⟨r2, e2, q2⟩ := szInt64SS_at (gs := gs) (by omega) (fun y hy => by have := (h4 y hy).1; omega) (a := r1) (by omega) (k := 400000000) (by omega)
  rw [e2, Option.bind_some]
  by_cases c2 : r2 < 0
  · rw [if_pos c2]
  rw [if_neg c2]
  have hs := (q2 (by omega)).2
  have hl := q1.2
  have z1 := toValues_eq hl den (k := 400000000) (by omega)
  have z2 := toInt64SS_eq hs (k := 400000000) (by omega)
  have z3 := IsLaminar_spec (den := den) hs hl (k := 400000000) (by omega)
  have z4 := IsLaminar_impl (den := den) hs hl (k := 400000000) (by omega)
  have z5 := eqValues_self (l := l) (by omega) den (k := 400000000) (by omega)
  have z6 := eqInt64SS_self hs (k := 400000000) (by omega)
  simp only [z1, z2, z3, z4, z5, z6, Option.bind_some, bne_self_eq_false, Bool.false_eq_true, if_false, if_true]

end Go.Proofs.Ytoelhfbmeegbdaa.Pure
