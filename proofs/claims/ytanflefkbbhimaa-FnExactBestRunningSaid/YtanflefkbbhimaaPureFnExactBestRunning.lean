/- The law FnExactBestRunning answers true at all arguments: the program's BestRunning is the reference's. No condition. -/
import Derived.Test.YtanflefkbbhimaaQRDFnExactBestRunning
import Derived.Test.YtanflefkbbhimaaLC
import Derived.Test.YtanflefkbbhimaaLD
import Derived.Test.YtanflefkbbhimaaP12
namespace Go.Proofs.Ytanflefkbbhimaa.Pure
open Go.RowKit Go.Proofs.YtanflefkbbhimaaW.PrintWords Go.Proofs.YtanflefkbbhimaaW.PrintLast Go.Proofs.Ytanflefkbbhimaa.P Go.Proofs.Ytanflefkbbhimaa.B Go.Proofs.Ytanflefkbbhimaa.Q
set_option linter.unusedSimpArgs false
set_option linter.unusedVariables false

theorem FnExactBestRunning : laws_FnExactBestRunning.Pure := by
  intro d0 l0 h0a h0b h0c
  obtain ⟨n, hn⟩ : ∃ n : Nat, l0.length + 2100000 < n := ⟨_, Nat.lt_succ_self _⟩
  refine ⟨n + 3, ?_⟩
  unfold maxLen at h0b
  unfold laws_FnExactBestRunning.f
  obtain ⟨r0, hr0, hlt0⟩ := szValues_eq h0b d0
  rw [hr0, Option.bind_some]
  by_cases c0 : r0 < 0
  · rw [if_pos c0]
  rw [if_neg c0]
  have e0 : l0.length ≤ 1048576 := by omega
  have hs : ∀ k, l0.length + 1051576 < k → spec_BestRunning.f k d0 l0 = some (BestRunning_res d0 l0) := fun k hk => BestRunning_spec e0 (by omega)
  have hi : ∀ k, l0.length + 1051576 < k → impl_BestRunning.f k d0 l0 = some (BestRunning_res d0 l0) := fun k hk => BestRunning_impl e0 (by omega)
  have hlen := BestRunning_len d0 l0
  generalize BestRunning_res d0 l0 = R at hs hi hlen
  obtain ⟨b0, b1, b2⟩ := R
  simp only at hlen
  have z0 := hs (n + 3) (by omega)
  have z1 := hi (n + 3) (by omega)
  have z2 := toValues_eq e0 d0 (k := n + 3) (by omega)
  have z3 := eqValues_self (l := l0) (by omega) d0 (k := n + 3) (by omega)
  have z4 := markValues_eq (l := l0) (by omega) d0 (a := (1 : Int)) (by omega) (by omega) (k := n + 3) (by omega)
  have z5 := eqInt64S_self (l := b0) (by omega) (k := n + 3) (by omega)
  have z6 := mark_eq (l := b0) (by omega) (a := (1 : Int)) (by omega) (by omega) (k := n + 3) (by omega)
  have z7 := held_eq (m := b0.length) (by omega) (a := (1 : Int)) (by omega) (by omega) (k := n + 3) (by omega)
  have z8 := hs (n + 2) (by omega)
  have z9 := hi (n + 2) (by omega)
  have z10 := toValues_eq e0 d0 (k := n + 2) (by omega)
  have z11 := eqValues_self (l := l0) (by omega) d0 (k := n + 2) (by omega)
  have z12 := markValues_eq (l := l0) (by omega) d0 (a := (1 : Int)) (by omega) (by omega) (k := n + 2) (by omega)
  have z13 := eqInt64S_self (l := b0) (by omega) (k := n + 2) (by omega)
  have z14 := mark_eq (l := b0) (by omega) (a := (1 : Int)) (by omega) (by omega) (k := n + 2) (by omega)
  have z15 := held_eq (m := b0.length) (by omega) (a := (1 : Int)) (by omega) (by omega) (k := n + 2) (by omega)
  have z16 := hs (n + 1) (by omega)
  have z17 := hi (n + 1) (by omega)
  have z18 := toValues_eq e0 d0 (k := n + 1) (by omega)
  have z19 := eqValues_self (l := l0) (by omega) d0 (k := n + 1) (by omega)
  have z20 := markValues_eq (l := l0) (by omega) d0 (a := (1 : Int)) (by omega) (by omega) (k := n + 1) (by omega)
  have z21 := eqInt64S_self (l := b0) (by omega) (k := n + 1) (by omega)
  have z22 := mark_eq (l := b0) (by omega) (a := (1 : Int)) (by omega) (by omega) (k := n + 1) (by omega)
  have z23 := held_eq (m := b0.length) (by omega) (a := (1 : Int)) (by omega) (by omega) (k := n + 1) (by omega)
  have z24 := hs (n) (by omega)
  have z25 := hi (n) (by omega)
  have z26 := toValues_eq e0 d0 (k := n) (by omega)
  have z27 := eqValues_self (l := l0) (by omega) d0 (k := n) (by omega)
  have z28 := markValues_eq (l := l0) (by omega) d0 (a := (1 : Int)) (by omega) (by omega) (k := n) (by omega)
  have z29 := eqInt64S_self (l := b0) (by omega) (k := n) (by omega)
  have z30 := mark_eq (l := b0) (by omega) (a := (1 : Int)) (by omega) (by omega) (k := n) (by omega)
  have z31 := held_eq (m := b0.length) (by omega) (a := (1 : Int)) (by omega) (by omega) (k := n) (by omega)
  simp only [laws_FnExactBestRunning.j0, laws_FnExactBestRunning.j1, laws_FnExactBestRunning.j2, z0, z1, z2, z3, z4, z5, z6, z7, z8, z9, z10, z11, z12, z13, z14, z15, z16, z17, z18, z19, z20, z21, z22, z23, z24, z25, z26, z27, z28, z29, z30, z31, Option.bind_some, if_true, if_false, Bool.false_eq_true, bne_self_eq_false, lt_one_add, lt_add2, Bool.not_true, Bool.not_false]

end Go.Proofs.Ytanflefkbbhimaa.Pure
