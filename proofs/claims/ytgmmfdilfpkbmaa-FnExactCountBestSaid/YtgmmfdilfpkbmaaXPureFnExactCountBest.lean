import Derived.Test.YtgmmfdilfpkbmaaXV2FnExactCountBest
import Derived.Test.YtgmmfdilfpkbmaaXP25FnExactCountBest
import Derived.Test.YtgmmfdilfpkbmaaXP28FnExactCountBest
import Derived.Test.YtgmmfdilfpkbmaaXP34FnExactCountBest
namespace Go.Proofs.Ytgmmfdilfpkbmaa.Pure
open Go.RowKit Go.Proofs.YtgmmfdilfpkbmaaW.PrintWords Go.Proofs.YtgmmfdilfpkbmaaW.PrintLast Go.Proofs.Ytgmmfdilfpkbmaa.P Go.Proofs.Ytgmmfdilfpkbmaa.B Go.Proofs.Ytgmmfdilfpkbmaa.Q
set_option linter.unusedSimpArgs false
set_option linter.unusedVariables false
theorem FnExactCountBest : laws_FnExactCountBest.Pure := by
  intro d0 l0 a1 a2 h0a h0b h0c h1a h2a
  refine ⟨l0.length + 409000, ?_⟩
  unfold maxLen at h0b
  unfold laws_FnExactCountBest.f
  obtain ⟨r0, hr0, hlt0⟩ := szValues_eq h0b d0
  rw [hr0, Option.bind_some]
  by_cases c0 : r0 < 0
  · rw [if_pos c0]
  rw [if_neg c0]
  have e0 : l0.length ≤ 1048576 := by omega
  have hs : ∀ k, l0.length + 203000 < k → Za2.f k d0 l0 a1 a2 = some (CountBest_res d0 l0 a1 a2) := fun k hk => CountBest_spec (wf64 h0a) (fun x hx => wf64 (h0c x hx)) (wf64 h1a) (wf64 h2a) e0 (by omega)
  have hi : ∀ k, l0.length + 203000 < k → Za4.f k d0 l0 a1 a2 = some (CountBest_res d0 l0 a1 a2) := fun k hk => CountBest_impl (wf64 h0a) (fun x hx => wf64 (h0c x hx)) (wf64 h1a) (wf64 h2a) e0 (by omega)
  generalize CountBest_res d0 l0 a1 a2 = R at hs hi
  obtain ⟨b0, b1⟩ := R
  have z0 := hs (l0.length + 409000) (by omega)
  have z1 := hi (l0.length + 409000) (by omega)
  have z2 := toValues_eq e0 d0 (k := l0.length + 409000) (by omega)
  have z3 := eqValues_self (l := l0) (by omega) d0 (k := l0.length + 409000) (by omega)
  have z4 := hs (l0.length + 408999) (by omega)
  have z5 := hi (l0.length + 408999) (by omega)
  have z6 := toValues_eq e0 d0 (k := l0.length + 408999) (by omega)
  have z7 := eqValues_self (l := l0) (by omega) d0 (k := l0.length + 408999) (by omega)
  simp only [laws_FnExactCountBest.j0, z0, z1, z2, z3, z4, z5, z6, z7, Option.bind_some, if_true, if_false, Bool.false_eq_true, bne_self_eq_false, lt_one_add, lt_add2, Bool.not_true, Bool.not_false]
end Go.Proofs.Ytgmmfdilfpkbmaa.Pure
