/- The law FnExactBlockSums answers true at all arguments: the program's BlockSums is the reference's. No condition. -/
import Derived.Test.YtbbnmfkaahajlaaQBKFnExactBlockSums
import Derived.Test.YtbbnmfkaahajlaaQMFnExactBlockSums
import Derived.Test.YtbbnmfkaahajlaaLB
import Derived.Test.YtbbnmfkaahajlaaP1
import Derived.Test.YtbbnmfkaahajlaaP4
namespace Go.Proofs.Ytbbnmfkaahajlaa.Pure
open Go.RowKit Go.Proofs.YtbbnmfkaahajlaaW.PrintWords Go.Proofs.YtbbnmfkaahajlaaW.PrintLast Go.Proofs.Ytbbnmfkaahajlaa.P Go.Proofs.Ytbbnmfkaahajlaa.B Go.Proofs.Ytbbnmfkaahajlaa.Q
set_option linter.unusedSimpArgs false
set_option linter.unusedVariables false

theorem FnExactBlockSums : laws_FnExactBlockSums.Pure := by
  intro l0 a1 h0a h0b h0c h1a
  refine ⟨l0.length + 9000, ?_⟩
  unfold laws_FnExactBlockSums.f
  by_cases c0 : (l0.length : Int) > 1048576
  · rw [if_pos c0]
  rw [if_neg c0]
  have e0 : l0.length ≤ 1048576 := by omega
  have hs : ∀ k, l0.length + 3000 < k → spec_BlockSums.f k l0 a1 = some (BlockSums_res l0 a1) := fun k hk => BlockSums_spec (fun x hx => wf64 (h0c x hx)) (wf64 h1a) e0 (by omega)
  have hi : ∀ k, l0.length + 3000 < k → impl_BlockSums.f k l0 a1 = some (BlockSums_res l0 a1) := fun k hk => BlockSums_impl (fun x hx => wf64 (h0c x hx)) (wf64 h1a) e0 (by omega)
  have hlen := BlockSums_len l0 a1
  generalize BlockSums_res l0 a1 = R at hs hi hlen
  obtain ⟨b0, b1⟩ := R
  simp only at hlen
  have z0 := hs (l0.length + 9000) (by omega)
  have z1 := hi (l0.length + 9000) (by omega)
  have z2 := toInt64S_eq e0 (k := l0.length + 9000) (by omega)
  have z3 := eqInt64S_self (l := l0) (by omega) (k := l0.length + 9000) (by omega)
  have z4 := mark_eq (l := l0) (by omega) (a := (1 : Int)) (by omega) (by omega) (k := l0.length + 9000) (by omega)
  have z5 := eqInt64S_self (l := b0) (by omega) (k := l0.length + 9000) (by omega)
  have z6 := mark_eq (l := b0) (by omega) (a := (1 : Int)) (by omega) (by omega) (k := l0.length + 9000) (by omega)
  have z7 := held_eq (m := b0.length) (by omega) (a := (1 : Int)) (by omega) (by omega) (k := l0.length + 9000) (by omega)
  have z8 := hs (l0.length + 8999) (by omega)
  have z9 := hi (l0.length + 8999) (by omega)
  have z10 := toInt64S_eq e0 (k := l0.length + 8999) (by omega)
  have z11 := eqInt64S_self (l := l0) (by omega) (k := l0.length + 8999) (by omega)
  have z12 := mark_eq (l := l0) (by omega) (a := (1 : Int)) (by omega) (by omega) (k := l0.length + 8999) (by omega)
  have z13 := eqInt64S_self (l := b0) (by omega) (k := l0.length + 8999) (by omega)
  have z14 := mark_eq (l := b0) (by omega) (a := (1 : Int)) (by omega) (by omega) (k := l0.length + 8999) (by omega)
  have z15 := held_eq (m := b0.length) (by omega) (a := (1 : Int)) (by omega) (by omega) (k := l0.length + 8999) (by omega)
  have z16 := hs (l0.length + 8998) (by omega)
  have z17 := hi (l0.length + 8998) (by omega)
  have z18 := toInt64S_eq e0 (k := l0.length + 8998) (by omega)
  have z19 := eqInt64S_self (l := l0) (by omega) (k := l0.length + 8998) (by omega)
  have z20 := mark_eq (l := l0) (by omega) (a := (1 : Int)) (by omega) (by omega) (k := l0.length + 8998) (by omega)
  have z21 := eqInt64S_self (l := b0) (by omega) (k := l0.length + 8998) (by omega)
  have z22 := mark_eq (l := b0) (by omega) (a := (1 : Int)) (by omega) (by omega) (k := l0.length + 8998) (by omega)
  have z23 := held_eq (m := b0.length) (by omega) (a := (1 : Int)) (by omega) (by omega) (k := l0.length + 8998) (by omega)
  have z24 := hs (l0.length + 8997) (by omega)
  have z25 := hi (l0.length + 8997) (by omega)
  have z26 := toInt64S_eq e0 (k := l0.length + 8997) (by omega)
  have z27 := eqInt64S_self (l := l0) (by omega) (k := l0.length + 8997) (by omega)
  have z28 := mark_eq (l := l0) (by omega) (a := (1 : Int)) (by omega) (by omega) (k := l0.length + 8997) (by omega)
  have z29 := eqInt64S_self (l := b0) (by omega) (k := l0.length + 8997) (by omega)
  have z30 := mark_eq (l := b0) (by omega) (a := (1 : Int)) (by omega) (by omega) (k := l0.length + 8997) (by omega)
  have z31 := held_eq (m := b0.length) (by omega) (a := (1 : Int)) (by omega) (by omega) (k := l0.length + 8997) (by omega)
  simp only [laws_FnExactBlockSums.j0, laws_FnExactBlockSums.j1, laws_FnExactBlockSums.j2, z0, z1, z2, z3, z4, z5, z6, z7, z8, z9, z10, z11, z12, z13, z14, z15, z16, z17, z18, z19, z20, z21, z22, z23, z24, z25, z26, z27, z28, z29, z30, z31, Option.bind_some, if_true, if_false, Bool.false_eq_true, bne_self_eq_false, lt_one_add, lt_add2, Bool.not_true, Bool.not_false]

end Go.Proofs.Ytbbnmfkaahajlaa.Pure
