import Derived.Test.YtgmmfdilfpkbmaaXV2FnExactBestRounding
import Derived.Test.YtgmmfdilfpkbmaaXP23FnExactBestRounding
import Derived.Test.YtgmmfdilfpkbmaaXP29FnExactBestRounding
import Derived.Test.YtgmmfdilfpkbmaaXP35FnExactBestRounding
namespace Go.Proofs.Ytgmmfdilfpkbmaa.Pure
open Go.RowKit Go.Proofs.YtgmmfdilfpkbmaaW.PrintWords Go.Proofs.YtgmmfdilfpkbmaaW.PrintLast Go.Proofs.Ytgmmfdilfpkbmaa.P Go.Proofs.Ytgmmfdilfpkbmaa.B Go.Proofs.Ytgmmfdilfpkbmaa.Q
set_option linter.unusedSimpArgs false
set_option linter.unusedVariables false
theorem FnExactBestRounding : laws_FnExactBestRounding.Pure := by
  intro d0 l0 a1 a2 h0a h0b h0c h1a h2a
  refine ⟨l0.length + 409000, ?_⟩
  unfold maxLen at h0b
  unfold laws_FnExactBestRounding.f
  obtain ⟨r0, hr0, hlt0⟩ := szValues_eq h0b d0
  rw [hr0, Option.bind_some]
  by_cases c0 : r0 < 0
  · rw [if_pos c0]
  rw [if_neg c0]
  have e0 : l0.length ≤ 1048576 := by omega
  have hs : ∀ k, l0.length + 203000 < k → spec_BestRounding.f k d0 l0 a1 a2 = some (BestRounding_res d0 l0 a1 a2) := fun k hk => BestRounding_spec (wf64 h0a) (fun x hx => wf64 (h0c x hx)) (wf64 h1a) (wf64 h2a) e0 (by omega)
  have hi : ∀ k, l0.length + 203000 < k → Za7.f k d0 l0 a1 a2 = some (BestRounding_res d0 l0 a1 a2) := fun k hk => BestRounding_impl (wf64 h0a) (fun x hx => wf64 (h0c x hx)) (wf64 h1a) (wf64 h2a) e0 (by omega)
  have hlen := BestRounding_len d0 l0 a1 a2
  generalize BestRounding_res d0 l0 a1 a2 = R at hs hi hlen
  obtain ⟨b0, b1⟩ := R
  simp only at hlen
  have z0 := hs (l0.length + 409000) (by omega)
  have z1 := hi (l0.length + 409000) (by omega)
  have z2 := toValues_eq e0 d0 (k := l0.length + 409000) (by omega)
  have z3 := eqValues_self (l := l0) (by omega) d0 (k := l0.length + 409000) (by omega)
  have z4 := markValues_eq (l := l0) (by omega) d0 (a := (1 : Int)) (by omega) (by omega) (k := l0.length + 409000) (by omega)
  have z5 := eqInt64S_self (l := b0) (by omega) (k := l0.length + 409000) (by omega)
  have z6 := mark_eq (l := b0) (by omega) (a := (1 : Int)) (by omega) (by omega) (k := l0.length + 409000) (by omega)
  have z7 := held_eq (m := b0.length) (by omega) (a := (1 : Int)) (by omega) (by omega) (k := l0.length + 409000) (by omega)
  have z8 := hs (l0.length + 408999) (by omega)
  have z9 := hi (l0.length + 408999) (by omega)
  have z10 := toValues_eq e0 d0 (k := l0.length + 408999) (by omega)
  have z11 := eqValues_self (l := l0) (by omega) d0 (k := l0.length + 408999) (by omega)
  have z12 := markValues_eq (l := l0) (by omega) d0 (a := (1 : Int)) (by omega) (by omega) (k := l0.length + 408999) (by omega)
  have z13 := eqInt64S_self (l := b0) (by omega) (k := l0.length + 408999) (by omega)
  have z14 := mark_eq (l := b0) (by omega) (a := (1 : Int)) (by omega) (by omega) (k := l0.length + 408999) (by omega)
  have z15 := held_eq (m := b0.length) (by omega) (a := (1 : Int)) (by omega) (by omega) (k := l0.length + 408999) (by omega)
  have z16 := hs (l0.length + 408998) (by omega)
  have z17 := hi (l0.length + 408998) (by omega)
  have z18 := toValues_eq e0 d0 (k := l0.length + 408998) (by omega)
  have z19 := eqValues_self (l := l0) (by omega) d0 (k := l0.length + 408998) (by omega)
  have z20 := markValues_eq (l := l0) (by omega) d0 (a := (1 : Int)) (by omega) (by omega) (k := l0.length + 408998) (by omega)
  have z21 := eqInt64S_self (l := b0) (by omega) (k := l0.length + 408998) (by omega)
  have z22 := mark_eq (l := b0) (by omega) (a := (1 : Int)) (by omega) (by omega) (k := l0.length + 408998) (by omega)
  have z23 := held_eq (m := b0.length) (by omega) (a := (1 : Int)) (by omega) (by omega) (k := l0.length + 408998) (by omega)
  have z24 := hs (l0.length + 408997) (by omega)
  have z25 := hi (l0.length + 408997) (by omega)
  have z26 := toValues_eq e0 d0 (k := l0.length + 408997) (by omega)
  have z27 := eqValues_self (l := l0) (by omega) d0 (k := l0.length + 408997) (by omega)
  have z28 := markValues_eq (l := l0) (by omega) d0 (a := (1 : Int)) (by omega) (by omega) (k := l0.length + 408997) (by omega)
  have z29 := eqInt64S_self (l := b0) (by omega) (k := l0.length + 408997) (by omega)
  have z30 := mark_eq (l := b0) (by omega) (a := (1 : Int)) (by omega) (by omega) (k := l0.length + 408997) (by omega)
  have z31 := held_eq (m := b0.length) (by omega) (a := (1 : Int)) (by omega) (by omega) (k := l0.length + 408997) (by omega)
  simp only [laws_FnExactBestRounding.j0, laws_FnExactBestRounding.j1, laws_FnExactBestRounding.j2, z0, z1, z2, z3, z4, z5, z6, z7, z8, z9, z10, z11, z12, z13, z14, z15, z16, z17, z18, z19, z20, z21, z22, z23, z24, z25, z26, z27, z28, z29, z30, z31, Option.bind_some, if_true, if_false, Bool.false_eq_true, bne_self_eq_false, lt_one_add, lt_add2, Bool.not_true, Bool.not_false]
end Go.Proofs.Ytgmmfdilfpkbmaa.Pure
