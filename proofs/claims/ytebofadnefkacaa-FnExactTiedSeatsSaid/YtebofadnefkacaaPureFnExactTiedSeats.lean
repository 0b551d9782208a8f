/- The law FnExactTiedSeats answers true at all arguments: the program's TiedSeats is the reference's. No condition. -/
import Derived.Test.YtebofadnefkacaaQTFnExactTiedSeats
import Derived.Test.YtebofadnefkacaaP6xFnExactTiedSeats
import Derived.Test.YtebofadnefkacaaP8xFnExactTiedSeats
import Derived.Test.YtebofadnefkacaaP17xFnExactTiedSeats
namespace Go.Proofs.Ytebofadnefkacaa.Pure
open Go.RowKit Go.Proofs.YtebofadnefkacaaW.PrintWords Go.Proofs.YtebofadnefkacaaW.PrintLast Go.Proofs.Ytebofadnefkacaa.P Go.Proofs.Ytebofadnefkacaa.B Go.Proofs.Ytebofadnefkacaa.Q
set_option linter.unusedSimpArgs false
set_option linter.unusedVariables false

theorem FnExactTiedSeats : laws_FnExactTiedSeats.Pure := by
  intro a0 l1 a2 h0a h1a h1b h1c h2a
  refine ⟨l1.length + 9000, ?_⟩
  unfold laws_FnExactTiedSeats.f
  by_cases c1 : (l1.length : Int) > 1048576
  · rw [if_pos c1]
  rw [if_neg c1]
  have e1 : l1.length ≤ 1048576 := by omega
  have hs : ∀ k, l1.length + 3000 < k → spec_TiedSeats.f k a0 l1 a2 = some (TiedSeats_res a0 l1 a2) := fun k hk => TiedSeats_spec (wf64 h0a) (fun x hx => wf64 (h1c x hx)) (wf64 h2a) e1 (by omega)
  have hi : ∀ k, l1.length + 3000 < k → impl_TiedSeats.f k a0 l1 a2 = some (TiedSeats_res a0 l1 a2) := fun k hk => TiedSeats_impl (wf64 h0a) (fun x hx => wf64 (h1c x hx)) (wf64 h2a) e1 (by omega)
  have hlen := TiedSeats_len a0 l1 a2
  generalize TiedSeats_res a0 l1 a2 = R at hs hi hlen
  obtain ⟨b0, b1, b2⟩ := R
  simp only at hlen
  have z0 := hs (l1.length + 9000) (by omega)
  have z1 := hi (l1.length + 9000) (by omega)
  have z2 := toInt64S_eq e1 (k := l1.length + 9000) (by omega)
  have z3 := eqInt64S_self (l := l1) (by omega) (k := l1.length + 9000) (by omega)
  have z4 := mark_eq (l := l1) (by omega) (a := (1 : Int)) (by omega) (by omega) (k := l1.length + 9000) (by omega)
  have z5 := eqInt64S_self (l := b0) (by omega) (k := l1.length + 9000) (by omega)
  have z6 := mark_eq (l := b0) (by omega) (a := (1 : Int)) (by omega) (by omega) (k := l1.length + 9000) (by omega)
  have z7 := held_eq (m := b0.length) (by omega) (a := (1 : Int)) (by omega) (by omega) (k := l1.length + 9000) (by omega)
  have z8 := hs (l1.length + 8999) (by omega)
  have z9 := hi (l1.length + 8999) (by omega)
  have z10 := toInt64S_eq e1 (k := l1.length + 8999) (by omega)
  have z11 := eqInt64S_self (l := l1) (by omega) (k := l1.length + 8999) (by omega)
  have z12 := mark_eq (l := l1) (by omega) (a := (1 : Int)) (by omega) (by omega) (k := l1.length + 8999) (by omega)
  have z13 := eqInt64S_self (l := b0) (by omega) (k := l1.length + 8999) (by omega)
  have z14 := mark_eq (l := b0) (by omega) (a := (1 : Int)) (by omega) (by omega) (k := l1.length + 8999) (by omega)
  have z15 := held_eq (m := b0.length) (by omega) (a := (1 : Int)) (by omega) (by omega) (k := l1.length + 8999) (by omega)
  have z16 := hs (l1.length + 8998) (by omega)
  have z17 := hi (l1.length + 8998) (by omega)
  have z18 := toInt64S_eq e1 (k := l1.length + 8998) (by omega)
  have z19 := eqInt64S_self (l := l1) (by omega) (k := l1.length + 8998) (by omega)
  have z20 := mark_eq (l := l1) (by omega) (a := (1 : Int)) (by omega) (by omega) (k := l1.length + 8998) (by omega)
  have z21 := eqInt64S_self (l := b0) (by omega) (k := l1.length + 8998) (by omega)
  have z22 := mark_eq (l := b0) (by omega) (a := (1 : Int)) (by omega) (by omega) (k := l1.length + 8998) (by omega)
  have z23 := held_eq (m := b0.length) (by omega) (a := (1 : Int)) (by omega) (by omega) (k := l1.length + 8998) (by omega)
  have z24 := hs (l1.length + 8997) (by omega)
  have z25 := hi (l1.length + 8997) (by omega)
  have z26 := toInt64S_eq e1 (k := l1.length + 8997) (by omega)
  have z27 := eqInt64S_self (l := l1) (by omega) (k := l1.length + 8997) (by omega)
  have z28 := mark_eq (l := l1) (by omega) (a := (1 : Int)) (by omega) (by omega) (k := l1.length + 8997) (by omega)
  have z29 := eqInt64S_self (l := b0) (by omega) (k := l1.length + 8997) (by omega)
  have z30 := mark_eq (l := b0) (by omega) (a := (1 : Int)) (by omega) (by omega) (k := l1.length + 8997) (by omega)
  have z31 := held_eq (m := b0.length) (by omega) (a := (1 : Int)) (by omega) (by omega) (k := l1.length + 8997) (by omega)
  simp only [laws_FnExactTiedSeats.j0, laws_FnExactTiedSeats.j1, laws_FnExactTiedSeats.j2, z0, z1, z2, z3, z4, z5, z6, z7, z8, z9, z10, z11, z12, z13, z14, z15, z16, z17, z18, z19, z20, z21, z22, z23, z24, z25, z26, z27, z28, z29, z30, z31, Option.bind_some, if_true, if_false, Bool.false_eq_true, bne_self_eq_false, lt_one_add, lt_add2, Bool.not_true, Bool.not_false]

end Go.Proofs.Ytebofadnefkacaa.Pure
