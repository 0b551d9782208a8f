/- The law FnExactOutsideQuotas answers true at all arguments: the program's OutsideQuotas is the reference's. No condition. -/
import Derived.Test.YtnjehjkacicamaaQ5FnExactOutsideQuotas
import Derived.Test.YtnjehjkacicamaaP8
import Derived.Test.YtnjehjkacicamaaP10
import Derived.Test.YtnjehjkacicamaaP32
namespace Go.Proofs.Ytnjehjkacicamaa.Pure
open Go.RowKit Go.Proofs.YtnjehjkacicamaaW.PrintWords Go.Proofs.YtnjehjkacicamaaW.PrintLast Go.Proofs.Ytnjehjkacicamaa.P Go.Proofs.Ytnjehjkacicamaa.B Go.Proofs.Ytnjehjkacicamaa.Q
set_option linter.unusedSimpArgs false
set_option linter.unusedVariables false

theorem FnExactOutsideQuotas : laws_FnExactOutsideQuotas.Pure := by
  intro l0 l1 h0a h0b h0c h1a h1b h1c
  refine ⟨l0.length + l1.length + 1000, ?_⟩
  unfold laws_FnExactOutsideQuotas.f
  by_cases c0 : (l0.length : Int) > 1048576
  · rw [if_pos c0]
  rw [if_neg c0]
  have e0 : l0.length ≤ 1048576 := by omega
  by_cases c1 : (l1.length : Int) > 1048576
  · rw [if_pos c1]
  rw [if_neg c1]
  have e1 : l1.length ≤ 1048576 := by omega
  have hs : ∀ k, l0.length + l1.length + 200 < k → spec_OutsideQuotas.f k l0 l1 = some (OutsideQuotas_res l0 l1) := fun k hk => OutsideQuotas_spec (fun x hx => wf64 (h0c x hx)) (fun x hx => wf64 (h1c x hx)) e0 e1 hk
  have hi : ∀ k, l0.length + l1.length + 200 < k → impl_OutsideQuotas.f k l0 l1 = some (OutsideQuotas_res l0 l1) := fun k hk => OutsideQuotas_impl (fun x hx => wf64 (h0c x hx)) (fun x hx => wf64 (h1c x hx)) e0 e1 hk
  have hlen := OutsideQuotas_len l0 l1
  generalize OutsideQuotas_res l0 l1 = R at hs hi hlen
  obtain ⟨b0, b1⟩ := R
  simp only at hlen
  have z0 := hs (l0.length + l1.length + 1000) (by omega)
  have z1 := hi (l0.length + l1.length + 1000) (by omega)
  have z2 := toInt64S_eq e0 (k := l0.length + l1.length + 1000) (by omega)
  have z3 := eqInt64S_self (l := l0) (by omega) (k := l0.length + l1.length + 1000) (by omega)
  have z4 := mark_eq (l := l0) (by omega) (a := (1 : Int)) (by omega) (by omega) (k := l0.length + l1.length + 1000) (by omega)
  have z5 := toInt64S_eq e1 (k := l0.length + l1.length + 1000) (by omega)
  have z6 := eqInt64S_self (l := l1) (by omega) (k := l0.length + l1.length + 1000) (by omega)
  have z7 := mark_eq (l := l1) (by omega) (a := (1 : Int) + (l0.length : Int)) (by omega) (by omega) (k := l0.length + l1.length + 1000) (by omega)
  have z8 := eqInt64S_self (l := b0) (by omega) (k := l0.length + l1.length + 1000) (by omega)
  have z9 := mark_eq (l := b0) (by omega) (a := (1 : Int)) (by omega) (by omega) (k := l0.length + l1.length + 1000) (by omega)
  have z10 := held_eq (m := b0.length) (by omega) (a := (1 : Int)) (by omega) (by omega) (k := l0.length + l1.length + 1000) (by omega)
  have z11 := hs (l0.length + l1.length + 999) (by omega)
  have z12 := hi (l0.length + l1.length + 999) (by omega)
  have z13 := toInt64S_eq e0 (k := l0.length + l1.length + 999) (by omega)
  have z14 := eqInt64S_self (l := l0) (by omega) (k := l0.length + l1.length + 999) (by omega)
  have z15 := mark_eq (l := l0) (by omega) (a := (1 : Int)) (by omega) (by omega) (k := l0.length + l1.length + 999) (by omega)
  have z16 := toInt64S_eq e1 (k := l0.length + l1.length + 999) (by omega)
  have z17 := eqInt64S_self (l := l1) (by omega) (k := l0.length + l1.length + 999) (by omega)
  have z18 := mark_eq (l := l1) (by omega) (a := (1 : Int) + (l0.length : Int)) (by omega) (by omega) (k := l0.length + l1.length + 999) (by omega)
  have z19 := eqInt64S_self (l := b0) (by omega) (k := l0.length + l1.length + 999) (by omega)
  have z20 := mark_eq (l := b0) (by omega) (a := (1 : Int)) (by omega) (by omega) (k := l0.length + l1.length + 999) (by omega)
  have z21 := held_eq (m := b0.length) (by omega) (a := (1 : Int)) (by omega) (by omega) (k := l0.length + l1.length + 999) (by omega)
  have z22 := hs (l0.length + l1.length + 998) (by omega)
  have z23 := hi (l0.length + l1.length + 998) (by omega)
  have z24 := toInt64S_eq e0 (k := l0.length + l1.length + 998) (by omega)
  have z25 := eqInt64S_self (l := l0) (by omega) (k := l0.length + l1.length + 998) (by omega)
  have z26 := mark_eq (l := l0) (by omega) (a := (1 : Int)) (by omega) (by omega) (k := l0.length + l1.length + 998) (by omega)
  have z27 := toInt64S_eq e1 (k := l0.length + l1.length + 998) (by omega)
  have z28 := eqInt64S_self (l := l1) (by omega) (k := l0.length + l1.length + 998) (by omega)
  have z29 := mark_eq (l := l1) (by omega) (a := (1 : Int) + (l0.length : Int)) (by omega) (by omega) (k := l0.length + l1.length + 998) (by omega)
  have z30 := eqInt64S_self (l := b0) (by omega) (k := l0.length + l1.length + 998) (by omega)
  have z31 := mark_eq (l := b0) (by omega) (a := (1 : Int)) (by omega) (by omega) (k := l0.length + l1.length + 998) (by omega)
  have z32 := held_eq (m := b0.length) (by omega) (a := (1 : Int)) (by omega) (by omega) (k := l0.length + l1.length + 998) (by omega)
  have z33 := hs (l0.length + l1.length + 997) (by omega)
  have z34 := hi (l0.length + l1.length + 997) (by omega)
  have z35 := toInt64S_eq e0 (k := l0.length + l1.length + 997) (by omega)
  have z36 := eqInt64S_self (l := l0) (by omega) (k := l0.length + l1.length + 997) (by omega)
  have z37 := mark_eq (l := l0) (by omega) (a := (1 : Int)) (by omega) (by omega) (k := l0.length + l1.length + 997) (by omega)
  have z38 := toInt64S_eq e1 (k := l0.length + l1.length + 997) (by omega)
  have z39 := eqInt64S_self (l := l1) (by omega) (k := l0.length + l1.length + 997) (by omega)
  have z40 := mark_eq (l := l1) (by omega) (a := (1 : Int) + (l0.length : Int)) (by omega) (by omega) (k := l0.length + l1.length + 997) (by omega)
  have z41 := eqInt64S_self (l := b0) (by omega) (k := l0.length + l1.length + 997) (by omega)
  have z42 := mark_eq (l := b0) (by omega) (a := (1 : Int)) (by omega) (by omega) (k := l0.length + l1.length + 997) (by omega)
  have z43 := held_eq (m := b0.length) (by omega) (a := (1 : Int)) (by omega) (by omega) (k := l0.length + l1.length + 997) (by omega)
  simp only [laws_FnExactOutsideQuotas.j0, laws_FnExactOutsideQuotas.j1, laws_FnExactOutsideQuotas.j2, z0, z1, z2, z3, z4, z5, z6, z7, z8, z9, z10, z11, z12, z13, z14, z15, z16, z17, z18, z19, z20, z21, z22, z23, z24, z25, z26, z27, z28, z29, z30, z31, z32, z33, z34, z35, z36, z37, z38, z39, z40, z41, z42, z43, Option.bind_some, if_true, if_false, Bool.false_eq_true, bne_self_eq_false, lt_one_add, lt_add2, Bool.not_true, Bool.not_false]

end Go.Proofs.Ytnjehjkacicamaa.Pure
