/- FnExactReadValues answers true at every text. -/
import Derived.Test.YtbbnmfkaahajlaaDoorQOVFnExactReadValues
import Derived.Test.YtbbnmfkaahajlaaDoorP4
import Derived.Test.YtbbnmfkaahajlaaDoorP5
import Derived.Test.YtbbnmfkaahajlaaDoorP7
namespace Go.Proofs.YtbbnmfkaahajlaaDoor.Pure
open Go.RowKit Go.Proofs.YtbbnmfkaahajlaaDoorW.PrintWords Go.Proofs.YtbbnmfkaahajlaaDoorW.PrintLast Go.Proofs.YtbbnmfkaahajlaaDoor.P Go.Proofs.YtbbnmfkaahajlaaDoor.B Go.Proofs.YtbbnmfkaahajlaaDoor.Q
set_option linter.unusedVariables false
set_option linter.unusedSimpArgs false

set_option maxRecDepth 100000 in
theorem FnExactReadValues : laws_FnExactReadValues.Pure := by
  intro a0 h0
  refine ⟨4 * a0.size + 9000, ?_⟩
  unfold laws_FnExactReadValues.f
  by_cases c : (a0.size : Int) > 1048576
  · rw [if_pos c]
  rw [if_neg c]
  have hs : ∀ k, 4 * a0.size + 3000 < k → spec_ReadValues.f k a0 = some (ReadValues_res a0) := fun k hk => ReadValues_spec (by omega) hk
  have hi : ∀ k, 4 * a0.size + 3000 < k → impl_ReadValues.f k a0 = some (ReadValues_res a0) := fun k hk => ReadValues_impl (by omega) hk
  have hlen := rv_len a0.data.toList
  change (ReadValues_res a0).2.1.length ≤ 40 at hlen
  generalize ReadValues_res a0 = R at hs hi hlen
  obtain ⟨b0, b1, b2⟩ := R
  simp only at hlen
  have z0 := hs (4 * a0.size + 9000) (by omega)
  have z1 := hi (4 * a0.size + 9000) (by omega)
  have z2 := hi (4 * a0.size + 8999) (by omega)
  have z3 := eqValues_self (l := b1) (by omega) b0 (k := 4 * a0.size + 9000) (by omega)
  have z4 := eqValues_self (l := b1) (by omega) b0 (k := 4 * a0.size + 8999) (by omega)
  have z5 := markValues_eq (l := b1) (by omega) b0 (a := 1) (by omega) (by omega) (k := 4 * a0.size + 8999) (by omega)
  have z6 := heldValues_eq (m := b1.length) (by omega) b0 (k := 4 * a0.size + 8999) (by omega)
  have z7 := heldValues_eq (m := b1.length) (by omega) b0 (k := 4 * a0.size + 8998) (by omega)
  simp only [laws_FnExactReadValues.j0, laws_FnExactReadValues.j1, z0, z1, z2, z3, z4, z5, z6, z7, Option.bind_some, if_true, if_false, Bool.false_eq_true, bne_self_eq_false, lt_one_add, lt_add2, Bool.not_true, Bool.not_false]

end Go.Proofs.YtbbnmfkaahajlaaDoor.Pure
