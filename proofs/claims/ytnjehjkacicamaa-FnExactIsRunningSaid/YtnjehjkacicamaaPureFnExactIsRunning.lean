/- The law FnExactIsRunning answers true at all arguments: the program's IsRunning is the reference's. No condition. -/
import Derived.Test.YtnjehjkacicamaaQ5FnExactIsRunning
import Derived.Test.YtnjehjkacicamaaP18xFnExactIsRunning
import Derived.Test.YtnjehjkacicamaaP21xFnExactIsRunning
import Derived.Test.YtnjehjkacicamaaP35xFnExactIsRunning
namespace Go.Proofs.Ytnjehjkacicamaa.Pure
open Go.RowKit Go.Proofs.YtnjehjkacicamaaW.PrintWords Go.Proofs.YtnjehjkacicamaaW.PrintLast Go.Proofs.Ytnjehjkacicamaa.P Go.Proofs.Ytnjehjkacicamaa.B Go.Proofs.Ytnjehjkacicamaa.Q
set_option linter.unusedSimpArgs false
set_option linter.unusedVariables false

theorem FnExactIsRunning : laws_FnExactIsRunning.Pure := by
  intro d0 l0 l1 h0a h0b h0c h1a h1b h1c
  refine ⟨l0.length + l1.length + 9000, ?_⟩
  unfold maxLen at h0b
  unfold laws_FnExactIsRunning.f
  by_cases c1 : (l1.length : Int) > 1048576
  · rw [if_pos c1]
  rw [if_neg c1]
  have e1 : l1.length ≤ 1048576 := by omega
  obtain ⟨r0, hr0, hlt0⟩ := szValues_eq h0b d0
  rw [hr0, Option.bind_some]
  by_cases c0 : r0 < 0
  · rw [if_pos c0]
  rw [if_neg c0]
  have e0 : l0.length ≤ 1048576 := by omega
  have hs : ∀ k, l0.length + l1.length + 3000 < k → spec_IsRunning.f k d0 l0 l1 = some (IsRunning_res d0 l0 l1) := fun k hk => IsRunning_spec (wf64 h0a) (fun x hx => wf64 (h0c x hx)) (fun x hx => wf64 (h1c x hx)) e0 e1 (by omega)
  have hi : ∀ k, l0.length + l1.length + 3000 < k → impl_IsRunning.f k d0 l0 l1 = some (IsRunning_res d0 l0 l1) := fun k hk => IsRunning_impl (wf64 h0a) (fun x hx => wf64 (h0c x hx)) (fun x hx => wf64 (h1c x hx)) e0 e1 (by omega)
  generalize IsRunning_res d0 l0 l1 = R at hs hi
  have z0 := hs (l0.length + l1.length + 9000) (by omega)
  have z1 := hi (l0.length + l1.length + 9000) (by omega)
  have z2 := toValues_eq e0 d0 (k := l0.length + l1.length + 9000) (by omega)
  have z3 := eqValues_self (l := l0) (by omega) d0 (k := l0.length + l1.length + 9000) (by omega)
  have z4 := toInt64S_eq e1 (k := l0.length + l1.length + 9000) (by omega)
  have z5 := eqInt64S_self (l := l1) (by omega) (k := l0.length + l1.length + 9000) (by omega)
  simp only [z0, z1, z2, z3, z4, z5, Option.bind_some, if_true, if_false, Bool.false_eq_true, bne_self_eq_false, lt_one_add, lt_add2, Bool.not_true, Bool.not_false]

end Go.Proofs.Ytnjehjkacicamaa.Pure
