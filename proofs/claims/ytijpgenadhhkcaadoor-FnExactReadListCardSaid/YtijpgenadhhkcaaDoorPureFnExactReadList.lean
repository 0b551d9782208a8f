/- The law FnExactReadList answers true at all arguments: the program's ReadList is the reference's. No condition. -/
import Derived.Test.YtijpgenadhhkcaaDoorQOFnExactReadList
import Derived.Test.YtijpgenadhhkcaaDoorQMFnExactReadList
import Derived.Test.YtijpgenadhhkcaaDoorP1
import Derived.Test.YtijpgenadhhkcaaDoorP4
import Derived.Test.YtijpgenadhhkcaaDoorP5
namespace Go.Proofs.YtijpgenadhhkcaaDoor.Pure
open Go.RowKit Go.Proofs.YtijpgenadhhkcaaDoorW.PrintWords Go.Proofs.YtijpgenadhhkcaaDoorW.PrintLast Go.Proofs.YtijpgenadhhkcaaDoor.P Go.Proofs.YtijpgenadhhkcaaDoor.B Go.Proofs.YtijpgenadhhkcaaDoor.Q
set_option linter.unusedSimpArgs false
set_option linter.unusedVariables false

theorem FnExactReadList : laws_FnExactReadList.Pure := by
  intro a0 h0a
  refine ⟨3 * a0.size + 9000, ?_⟩
  unfold laws_FnExactReadList.f
  by_cases c0 : (a0.size : Int) > 1048576
  · rw [if_pos c0]
  rw [if_neg c0]
  have e0 : a0.size ≤ 1048576 := by omega
  have hs : ∀ k, 3 * a0.size + 3000 < k → spec_ReadList.f k a0 = some (ReadList_res a0) := fun k hk => ReadList_spec  e0 (by omega)
  have hi : ∀ k, 3 * a0.size + 3000 < k → impl_ReadList.f k a0 = some (ReadList_res a0) := fun k hk => ReadList_impl  e0 (by omega)
  have hlen := ReadList_len a0
  generalize ReadList_res a0 = R at hs hi hlen
  obtain ⟨b0, b1⟩ := R
  simp only at hlen
  have z0 := hs (3 * a0.size + 9000) (by omega)
  have z1 := hi (3 * a0.size + 9000) (by omega)
  have z2 := eqInt64S_self (l := b0) (by omega) (k := 3 * a0.size + 9000) (by omega)
  have z3 := mark_eq (l := b0) (by omega) (a := (1 : Int)) (by omega) (by omega) (k := 3 * a0.size + 9000) (by omega)
  have z4 := held_eq (m := b0.length) (by omega) (a := (1 : Int)) (by omega) (by omega) (k := 3 * a0.size + 9000) (by omega)
  have z5 := hs (3 * a0.size + 8999) (by omega)
  have z6 := hi (3 * a0.size + 8999) (by omega)
  have z7 := eqInt64S_self (l := b0) (by omega) (k := 3 * a0.size + 8999) (by omega)
  have z8 := mark_eq (l := b0) (by omega) (a := (1 : Int)) (by omega) (by omega) (k := 3 * a0.size + 8999) (by omega)
  have z9 := held_eq (m := b0.length) (by omega) (a := (1 : Int)) (by omega) (by omega) (k := 3 * a0.size + 8999) (by omega)
  have z10 := hs (3 * a0.size + 8998) (by omega)
  have z11 := hi (3 * a0.size + 8998) (by omega)
  have z12 := eqInt64S_self (l := b0) (by omega) (k := 3 * a0.size + 8998) (by omega)
  have z13 := mark_eq (l := b0) (by omega) (a := (1 : Int)) (by omega) (by omega) (k := 3 * a0.size + 8998) (by omega)
  have z14 := held_eq (m := b0.length) (by omega) (a := (1 : Int)) (by omega) (by omega) (k := 3 * a0.size + 8998) (by omega)
  simp only [laws_FnExactReadList.j0, laws_FnExactReadList.j1, z0, z1, z2, z3, z4, z5, z6, z7, z8, z9, z10, z11, z12, z13, z14, Option.bind_some, if_true, if_false, Bool.false_eq_true, bne_self_eq_false, lt_one_add, lt_add2, Bool.not_true, Bool.not_false]

end Go.Proofs.YtijpgenadhhkcaaDoor.Pure
