/- The law FnExactIsSeatsBy answers true at all arguments: the program's IsSeatsBy is the reference's. No condition. -/
import Derived.Test.YtnjehjkacicamaaQSFnExactIsSeatsBy
import Derived.Test.YtnjehjkacicamaaP15xFnExactIsSeatsBy
import Derived.Test.YtnjehjkacicamaaP23xFnExactIsSeatsBy
import Derived.Test.YtnjehjkacicamaaP36xFnExactIsSeatsBy
namespace Go.Proofs.Ytnjehjkacicamaa.Pure
open Go.RowKit Go.Proofs.YtnjehjkacicamaaW.PrintWords Go.Proofs.YtnjehjkacicamaaW.PrintLast Go.Proofs.Ytnjehjkacicamaa.P Go.Proofs.Ytnjehjkacicamaa.B Go.Proofs.Ytnjehjkacicamaa.Q
set_option linter.unusedSimpArgs false
set_option linter.unusedVariables false

theorem FnExactIsSeatsBy : laws_FnExactIsSeatsBy.Pure := by
  intro a0 l1 l2 h0a h1a h1b h1c h2a h2b h2c
  refine ⟨l1.length + l2.length + 9000, ?_⟩
  unfold laws_FnExactIsSeatsBy.f
  by_cases c1 : (l1.length : Int) > 1048576
  · rw [if_pos c1]
  rw [if_neg c1]
  have e1 : l1.length ≤ 1048576 := by omega
  by_cases c2 : (l2.length : Int) > 1048576
  · rw [if_pos c2]
  rw [if_neg c2]
  have e2 : l2.length ≤ 1048576 := by omega
  have hs : ∀ k, l1.length + l2.length + 3000 < k → spec_IsSeatsBy.f k a0 l1 l2 = some (IsSeatsBy_res a0 l1 l2) := fun k hk => IsSeatsBy_spec (wf64 h0a) (fun x hx => wf64 (h1c x hx)) (fun x hx => wf64 (h2c x hx)) e1 e2 (by omega)
  have hi : ∀ k, l1.length + l2.length + 3000 < k → impl_IsSeatsBy.f k a0 l1 l2 = some (IsSeatsBy_res a0 l1 l2) := fun k hk => IsSeatsBy_impl (wf64 h0a) (fun x hx => wf64 (h1c x hx)) (fun x hx => wf64 (h2c x hx)) e1 e2 (by omega)
  generalize IsSeatsBy_res a0 l1 l2 = R at hs hi
  have z0 := hs (l1.length + l2.length + 9000) (by omega)
  have z1 := hi (l1.length + l2.length + 9000) (by omega)
  have z2 := toInt64S_eq e1 (k := l1.length + l2.length + 9000) (by omega)
  have z3 := eqInt64S_self (l := l1) (by omega) (k := l1.length + l2.length + 9000) (by omega)
  have z4 := toInt64S_eq e2 (k := l1.length + l2.length + 9000) (by omega)
  have z5 := eqInt64S_self (l := l2) (by omega) (k := l1.length + l2.length + 9000) (by omega)
  simp only [z0, z1, z2, z3, z4, z5, Option.bind_some, if_true, if_false, Bool.false_eq_true, bne_self_eq_false, lt_one_add, lt_add2, Bool.not_true, Bool.not_false]

end Go.Proofs.Ytnjehjkacicamaa.Pure
