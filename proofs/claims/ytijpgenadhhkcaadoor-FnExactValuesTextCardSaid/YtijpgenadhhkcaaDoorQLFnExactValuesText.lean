/- The texts of values. -/
import Derived.Test.YtijpgenadhhkcaaDoorQKFnExactValuesText
import Derived.Test.YtijpgenadhhkcaaDoorP2
import Derived.Test.YtijpgenadhhkcaaDoorP3
namespace Go.Proofs.YtijpgenadhhkcaaDoor.Q
open Go.RowKit Go.Proofs.YtijpgenadhhkcaaDoorW.PrintWords Go.Proofs.YtijpgenadhhkcaaDoorW.PrintLast Go.Proofs.YtijpgenadhhkcaaDoor.P Go.Proofs.YtijpgenadhhkcaaDoor.B
set_option linter.unusedVariables false
set_option linter.unusedSimpArgs false

/-- The text of values. -/
def vtx (d : Int) (l : List Int) : ByteArray := (itx d ++ (⟨#[58]⟩ : ByteArray)) ++ txt l
theorem txt_size {l : List Int} (hl : l.length ≤ 40) (hb : ∀ x ∈ l, -1000000000 ≤ x ∧ x ≤ 1000000000) : (txt l).size ≤ 481 := by
  unfold txt
  split
  · decide
  · have := jn_len hb
    rw [mk_size]; omega
def ValuesText_res (d : Int) (l : List Int) : ByteArray × Bool := if vv d l = true then (vtx d l, true) else (⟨#[]⟩, false)
theorem vtx_sizes {d : Int} {l : List Int} (hd : 1 ≤ d ∧ d ≤ 1000) (hl : l.length ≤ 40) (hb : ∀ x ∈ l, -1000000 ≤ x ∧ x ≤ 1000000) : (itx d).size + 1 ≤ 9223372036854775807 ∧ (itx d ++ (⟨#[58]⟩ : ByteArray)).size + (txt l).size ≤ 9223372036854775807 := by
  have h1 := itx_size (x := d) (by omega)
  have h2 := txt_size hl (fun x hx => by have := hb x hx; omega)
  rw [ByteArray.size_append, show (⟨#[58]⟩ : ByteArray).size = 1 from rfl]
  omega
theorem ValuesText_spec {d : Int} {l : List Int} (hd : -9223372036854775808 ≤ d ∧ d ≤ 9223372036854775807) (hw : ∀ x ∈ l, -9223372036854775808 ≤ x ∧ x ≤ 9223372036854775807) (hl : l.length ≤ 1048576) {k : Nat} (hk : l.length + 3000 < k) : spec_ValuesText.f k d l = some (ValuesText_res d l) := by
  unfold spec_ValuesText.f ValuesText_res
  rw [l01Is_eq (by omega) d (by omega), Option.bind_some]
  by_cases c : vv d l = true
  · have c' := vv_iff.1 c
    have hz := vtx_sizes c'.1 c'.2.1 c'.2.2
    rw [if_pos c, if_pos c]
    unfold spec_l01VText.f
    rw [l01Dec_eq hd (by omega), Option.bind_some, if_pos hz.1, l01Text_eq c'.2.1 (fun x hx => by have := c'.2.2 x hx; omega) (by omega), Option.bind_some, if_pos hz.2, Option.bind_some]
    rfl
  · rw [if_neg c, if_neg c]
theorem ValuesText_impl {d : Int} {l : List Int} (hd : -9223372036854775808 ≤ d ∧ d ≤ 9223372036854775807) (hw : ∀ x ∈ l, -9223372036854775808 ≤ x ∧ x ≤ 9223372036854775807) (hl : l.length ≤ 1048576) {k : Nat} (hk : l.length + 3000 < k) : impl_ValuesText.f k d l = some (ValuesText_res d l) := by
  unfold impl_ValuesText.f ValuesText_res
  rw [validValues_eq (by omega) d (by omega), Option.bind_some]
  by_cases c : vv d l = true
  · have c' := vv_iff.1 c
    have hz := vtx_sizes c'.1 c'.2.1 c'.2.2
    have hll : ll l = true := ll_iff.2 ⟨c'.2.1, fun x hx => by have := c'.2.2 x hx; omega⟩
    rw [if_pos c, if_pos c, ListText_impl hw hl (by omega)]
    unfold ListText_res
    rw [if_pos hll, Option.bind_some, Decimal_eq hd, Option.bind_some, if_pos hz.1, if_pos hz.2]
    rfl
  · rw [if_neg c, if_neg c]
end Go.Proofs.YtijpgenadhhkcaaDoor.Q
