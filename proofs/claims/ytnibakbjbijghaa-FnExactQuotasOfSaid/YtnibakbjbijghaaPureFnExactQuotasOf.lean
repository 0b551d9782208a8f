/- The law FnExactQuotasOf answers true at all arguments: the program's QuotasOf is the reference's. No condition. -/
import Derived.Test.YtnibakbjbijghaaQ4FnExactQuotasOf
import Derived.Test.YtnibakbjbijghaaP12
import Derived.Test.YtnibakbjbijghaaP23
namespace Go.Proofs.Ytnibakbjbijghaa.Pure
open Go.RowKit Go.Proofs.YtnibakbjbijghaaW.PrintWords Go.Proofs.YtnibakbjbijghaaW.PrintLast Go.Proofs.Ytnibakbjbijghaa.P Go.Proofs.Ytnibakbjbijghaa.B Go.Proofs.Ytnibakbjbijghaa.Q
set_option linter.unusedSimpArgs false
set_option linter.unusedVariables false

theorem FnExactQuotasOf : laws_FnExactQuotasOf.Pure := by
  intro l0 a1 h0a h0b h0c h1a
  refine ⟨l0.length + 1000, ?_⟩
  unfold laws_FnExactQuotasOf.f
  by_cases c0 : (l0.length : Int) > 1048576
  · rw [if_pos c0]
  rw [if_neg c0]
  have e0 : l0.length ≤ 1048576 := by omega
  have hs : ∀ k, l0.length + 200 < k → spec_QuotasOf.f k l0 a1 = some (QuotasOf_res l0 a1) := fun k hk => QuotasOf_spec (fun x hx => wf64 (h0c x hx)) (wf64 h1a) e0 hk
  have hi : ∀ k, l0.length + 200 < k → impl_QuotasOf.f k l0 a1 = some (QuotasOf_res l0 a1) := fun k hk => QuotasOf_impl (fun x hx => wf64 (h0c x hx)) (wf64 h1a) e0 hk
  have hlen := QuotasOf_len l0 a1
  generalize QuotasOf_res l0 a1 = R at hs hi hlen
  obtain ⟨b0, b1, b2⟩ := R
  simp only at hlen
  have z0 := hs (l0.length + 1000) (by omega)
  have z1 := hi (l0.length + 1000) (by omega)
  have z2 := toInt64S_eq e0 (k := l0.length + 1000) (by omega)
  have z3 := eqInt64S_self (l := l0) (by omega) (k := l0.length + 1000) (by omega)
  have z4 := mark_eq (l := l0) (by omega) (a := (1 : Int)) (by omega) (by omega) (k := l0.length + 1000) (by omega)
  have z5 := eqInt64S_self (l := b0) (by omega) (k := l0.length + 1000) (by omega)
  have z6 := mark_eq (l := b0) (by omega) (a := (1 : Int)) (by omega) (by omega) (k := l0.length + 1000) (by omega)
  have z7 := held_eq (m := b0.length) (by omega) (a := (1 : Int)) (by omega) (by omega) (k := l0.length + 1000) (by omega)
  have z8 := eqInt64S_self (l := b1) (by omega) (k := l0.length + 1000) (by omega)
  have z9 := mark_eq (l := b1) (by omega) (a := (1 : Int) + (b0.length : Int)) (by omega) (by omega) (k := l0.length + 1000) (by omega)
  have z10 := held_eq (m := b1.length) (by omega) (a := (1 : Int) + (b0.length : Int)) (by omega) (by omega) (k := l0.length + 1000) (by omega)
  have z11 := hs (l0.length + 999) (by omega)
  have z12 := hi (l0.length + 999) (by omega)
  have z13 := toInt64S_eq e0 (k := l0.length + 999) (by omega)
  have z14 := eqInt64S_self (l := l0) (by omega) (k := l0.length + 999) (by omega)
  have z15 := mark_eq (l := l0) (by omega) (a := (1 : Int)) (by omega) (by omega) (k := l0.length + 999) (by omega)
  have z16 := eqInt64S_self (l := b0) (by omega) (k := l0.length + 999) (by omega)
  have z17 := mark_eq (l := b0) (by omega) (a := (1 : Int)) (by omega) (by omega) (k := l0.length + 999) (by omega)
  have z18 := held_eq (m := b0.length) (by omega) (a := (1 : Int)) (by omega) (by omega) (k := l0.length + 999) (by omega)
  have z19 := eqInt64S_self (l := b1) (by omega) (k := l0.length + 999) (by omega)
  have z20 := mark_eq (l := b1) (by omega) (a := (1 : Int) + (b0.length : Int)) (by omega) (by omega) (k := l0.length + 999) (by omega)
  have z21 := held_eq (m := b1.length) (by omega) (a := (1 : Int) + (b0.length : Int)) (by omega) (by omega) (k := l0.length + 999) (by omega)
  have z22 := hs (l0.length + 998) (by omega)
  have z23 := hi (l0.length + 998) (by omega)
  have z24 := toInt64S_eq e0 (k := l0.length + 998) (by omega)
  have z25 := eqInt64S_self (l := l0) (by omega) (k := l0.length + 998) (by omega)
  have z26 := mark_eq (l := l0) (by omega) (a := (1 : Int)) (by omega) (by omega) (k := l0.length + 998) (by omega)
  have z27 := eqInt64S_self (l := b0) (by omega) (k := l0.length + 998) (by omega)
  have z28 := mark_eq (l := b0) (by omega) (a := (1 : Int)) (by omega) (by omega) (k := l0.length + 998) (by omega)
  have z29 := held_eq (m := b0.length) (by omega) (a := (1 : Int)) (by omega) (by omega) (k := l0.length + 998) (by omega)
  have z30 := eqInt64S_self (l := b1) (by omega) (k := l0.length + 998) (by omega)
  have z31 := mark_eq (l := b1) (by omega) (a := (1 : Int) + (b0.length : Int)) (by omega) (by omega) (k := l0.length + 998) (by omega)
  have z32 := held_eq (m := b1.length) (by omega) (a := (1 : Int) + (b0.length : Int)) (by omega) (by omega) (k := l0.length + 998) (by omega)
  have z33 := hs (l0.length + 997) (by omega)
  have z34 := hi (l0.length + 997) (by omega)
  have z35 := toInt64S_eq e0 (k := l0.length + 997) (by omega)
  have z36 := eqInt64S_self (l := l0) (by omega) (k := l0.length + 997) (by omega)
  have z37 := mark_eq (l := l0) (by omega) (a := (1 : Int)) (by omega) (by omega) (k := l0.length + 997) (by omega)
  have z38 := eqInt64S_self (l := b0) (by omega) (k := l0.length + 997) (by omega)
  have z39 := mark_eq (l := b0) (by omega) (a := (1 : Int)) (by omega) (by omega) (k := l0.length + 997) (by omega)
  have z40 := held_eq (m := b0.length) (by omega) (a := (1 : Int)) (by omega) (by omega) (k := l0.length + 997) (by omega)
  have z41 := eqInt64S_self (l := b1) (by omega) (k := l0.length + 997) (by omega)
  have z42 := mark_eq (l := b1) (by omega) (a := (1 : Int) + (b0.length : Int)) (by omega) (by omega) (k := l0.length + 997) (by omega)
  have z43 := held_eq (m := b1.length) (by omega) (a := (1 : Int) + (b0.length : Int)) (by omega) (by omega) (k := l0.length + 997) (by omega)
  simp only [laws_FnExactQuotasOf.j0, laws_FnExactQuotasOf.j1, laws_FnExactQuotasOf.j2, z0, z1, z2, z3, z4, z5, z6, z7, z8, z9, z10, z11, z12, z13, z14, z15, z16, z17, z18, z19, z20, z21, z22, z23, z24, z25, z26, z27, z28, z29, z30, z31, z32, z33, z34, z35, z36, z37, z38, z39, z40, z41, z42, z43, Option.bind_some, if_true, if_false, Bool.false_eq_true, bne_self_eq_false, lt_one_add, lt_add2, Bool.not_true, Bool.not_false]

end Go.Proofs.Ytnibakbjbijghaa.Pure
