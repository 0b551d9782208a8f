/- FnTexts answers true at all arguments. -/
import Derived.Test.YtijpgenadhhkcaaDoorQOWFnTexts
import Derived.Test.YtijpgenadhhkcaaDoorQHFnTexts
import Derived.Test.YtijpgenadhhkcaaDoorQIFnTexts
import Derived.Test.YtijpgenadhhkcaaDoorL
import Derived.Test.YtijpgenadhhkcaaDoorP3
import Derived.Test.YtijpgenadhhkcaaDoorP5
namespace Go.Proofs.YtijpgenadhhkcaaDoor.Pure
open Go.RowKit Go.Proofs.YtijpgenadhhkcaaDoorW.PrintWords Go.Proofs.YtijpgenadhhkcaaDoorW.PrintLast Go.Proofs.YtijpgenadhhkcaaDoor.P Go.Proofs.YtijpgenadhhkcaaDoor.B Go.Proofs.YtijpgenadhhkcaaDoor.Q
set_option linter.unusedVariables false
set_option linter.unusedSimpArgs false

theorem txt_bounds {l : List Int} (hl : l.length ≤ 40) (hb : ∀ x ∈ l, -1000000000 ≤ x ∧ x ≤ 1000000000) : 1 ≤ (txt l).size ∧ (txt l).size ≤ 481 := by
  unfold txt
  split
  · decide
  · rename_i c
    have h1 := jn_len hb
    have h2 : (jn l).length ≠ 0 := fun z => by
      have h := cutc_jn l c hb
      rw [List.eq_nil_of_length_eq_zero z, show cutc [] [] = [[]] from rfl] at h
      cases l with
      | nil => exact c rfl
      | cons x r =>
        rw [List.map_cons] at h
        have h1 : [] = Lib.itoa x := (List.cons.inj h).1
        have := itoa_parts (hb x List.mem_cons_self)
        rw [← h1] at this
        exact absurd this.2.2.1 (by decide)
    rw [mk_size]; omega
theorem cut_parts (t : ByteArray) (c : Nat) (hc : c ≤ t.size) : t.data.toList = (t.extract 0 c).data.toList ++ (t.extract c t.size).data.toList := by
  have hsz : t.size = t.data.toList.length := by simp
  rw [ext_list, ext_list, List.drop_zero, Nat.sub_zero, List.take_of_length_le (l := t.data.toList.drop c) (by rw [List.length_drop]; omega), List.take_append_drop]
set_option maxRecDepth 100000 in
theorem FnTexts : laws_FnTexts.Pure := by
  intro l0 l1 _ _ h0w _ _ h1w
  have hl0 : by8 l0 := fun x hx => wfu8 (h0w x hx)
  have hl1 : by8 l1 := fun x hx => wfu8 (h1w x hx)
  refine ⟨20000, ?_⟩
  unfold laws_FnTexts.f
  obtain ⟨b, eb⟩ := b10Long_ok l0 l1
  rw [eb, Option.bind_some]
  by_cases cb : b = true
  · rw [if_pos cb]
  rw [if_neg cb]
  obtain ⟨V, nums, ev, hV, hn, hx⟩ := b10Values_ok hl0 (k := 20000) (by omega)
  have hb : ∀ x ∈ nums, -1000000000 ≤ x ∧ x ≤ 1000000000 := fun x h => by have := hx x h; omega
  have hll : ll nums = true := ll_iff.2 ⟨hn, hb⟩
  obtain ⟨ht1, ht2⟩ := txt_bounds hn hb
  have e1 : impl_ListText.f 20000 nums = some (txt nums, true) := by
    rw [ListText_impl (fun x h => by have := hx x h; omega) (by omega) (by omega)]
    unfold ListText_res
    rw [if_pos hll]
  have e2 : impl_ReadList.f 20000 (txt nums) = some (nums, true) := by rw [ReadList_impl (by omega) (by omega), rl_txt hn hb]
  obtain ⟨st, e3, hs1, hs2⟩ := b10At_ok (i := 0) (n := 200) hl1 (by omega)
  rw [ev, Option.bind_some, e1, Option.bind_some, e2, Option.bind_some, e3, Option.bind_some]
  simp only
  rw [w64 (x := ((txt nums).size : Int) + 1) (by omega) (by omega)]
  obtain ⟨ct, e4, hc1, hc2⟩ := b10At_ok (i := 1) (n := ((txt nums).size : Int) + 1) hl1 (by omega)
  obtain ⟨c, rfl⟩ : ∃ c : Nat, ct = c := ⟨ct.toNat, by omega⟩
  have hst : 0 ≤ st ∧ st ≤ 65520 := by omega
  have hcs : c ≤ (txt nums).size := by omega
  rw [e4, Option.bind_some, CheckOf_eq (by omega) hst (by omega), Option.bind_some]
  simp only [if_true]
  rw [b10Nums_self (by omega) (by omega), Option.bind_some]
  have z1 := CheckOf_eq (s := (txt nums).extract 0 c) (by rw [ByteArray.size_extract]; omega) hst (k := 19999) (by rw [ByteArray.size_extract]; omega)
  have z2 := CheckOf_eq (s := (txt nums).extract c (txt nums).size) (by rw [ByteArray.size_extract]; omega) (chk_bd ((txt nums).extract 0 c).data.toList hst) (k := 19999) (by rw [ByteArray.size_extract]; omega)
  have z3 := Decimal_eq (a0 := st - 100) (by omega)
  have z4 : impl_ReadDecimal.f (itx (st - 100)) = some (st - 100, true) := by
    rw [readDec_eq_f (by have := itx_size (x := st - 100) (by omega); omega)]
    exact congrArg some (readDec_itoa (by omega))
  have z5 : chk st (txt nums).data.toList = chk (chk st ((txt nums).extract 0 c).data.toList) ((txt nums).extract c (txt nums).size).data.toList := by
    rw [← chk_append, ← cut_parts _ _ hcs]
  show laws_FnTexts.j0 (19999 + 1) _ _ _ _ _ = _
  simp only [laws_FnTexts.j0]
  rw [if_neg (by decide), if_pos (by omega), if_pos (by omega), Int.toNat_natCast, z1, Option.bind_some, z2, Option.bind_some, w64 (x := st - 100) (by omega) (by omega), z3, Option.bind_some, z4, Option.bind_some]
  simp only [if_true]
  rw [if_pos z5]
  congr 1
  exact decide_eq_true (by omega)

end Go.Proofs.YtijpgenadhhkcaaDoor.Pure
