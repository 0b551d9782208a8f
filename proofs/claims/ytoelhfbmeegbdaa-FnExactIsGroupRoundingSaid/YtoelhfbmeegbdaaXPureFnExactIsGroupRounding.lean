import Derived.Test.YtoelhfbmeegbdaaXV1FnExactIsGroupRounding
import Derived.Test.YtoelhfbmeegbdaaXP16FnExactIsGroupRounding
namespace Go.Proofs.Ytoelhfbmeegbdaa.Pure
open Go.RowKit Go.Proofs.YtoelhfbmeegbdaaW.PrintWords Go.Proofs.YtoelhfbmeegbdaaW.PrintLast Go.Proofs.Ytoelhfbmeegbdaa.P Go.Proofs.Ytoelhfbmeegbdaa.B Go.Proofs.Ytoelhfbmeegbdaa.Q
set_option linter.unusedVariables false
set_option linter.unusedSimpArgs false
set_option maxRecDepth 100000 in
theorem FnExactIsGroupRounding : laws_FnExactIsGroupRounding.Pure := by
  intro den l gs list h0 h1 h2 h3 h4 h5 h6 h7
  unfold maxLen at h1 h3 h4 h5
  have g0 := wf64 h0
  have g2 : ∀ x ∈ l, i64 x := fun x hx => wf64 (h2 x hx)
  have g7 : ∀ x ∈ list, i64 x := fun x hx => wf64 (h7 x hx)
  refine ⟨400000000, ?_⟩
  unfold laws_FnExactIsGroupRounding.f
  by_cases c0 : (list.length : Int) > 1048576
  · rw [if_pos c0]
  rw [if_neg c0]
  obtain ⟨r1, e1, q1⟩ := szValues_at (l := l) (by omega) den (a := 1048576) (by omega)
  rw [e1, Option.bind_some]
  by_cases c1 : r1 < 0
  · rw [if_pos c1]
  rw [if_neg c1]
  have q1 := q1 (by omega)
  obtain ⟨r2, e2, q2⟩ := szInt64SS_at (gs := gs) (by omega) (fun y hy => by have := (h4 y hy).1; omega) (a := r1) (by omega) (k := 400000000) (by omega)
  rw [e2, Option.bind_some]
  by_cases c2 : r2 < 0
  · rw [if_pos c2]
  rw [if_neg c2]
  have hs := (q2 (by omega)).2
  have hl := q1.2
  have hl2 : list.length ≤ 1048576 := by omega
  have z1 := toValues_eq hl den (k := 400000000) (by omega)
  have z2 := toInt64SS_eq hs (k := 400000000) (by omega)
  have z3 := toInt64S_eq hl2 (k := 400000000) (by omega)
  have z4 := IsGroupRounding_spec (den := den) (list := list) hs hl hl2 (k := 400000000) (by omega)
  have z5 := IsGroupRounding_impl (den := den) g0 g2 g7 hs hl hl2 (k := 400000000) (by omega)
  have z6 := eqValues_self (l := l) (by omega) den (k := 400000000) (by omega)
  have z7 := eqInt64SS_self hs (k := 400000000) (by omega)
  have z8 := eqInt64S_self (l := list) (by omega) (k := 400000000) (by omega)
  simp only [z1, z2, z3, z4, z5, z6, z7, z8, Option.bind_some, bne_self_eq_false, Bool.false_eq_true, if_false, if_true]
end Go.Proofs.Ytoelhfbmeegbdaa.Pure
