/- Numbers in decimal: what the specification and the program write. -/
import Derived.Test.YtijpgenadhhkcaaDoorB
import Derived.Lib.ItoaNum
import Derived.Test.YtijpgenadhhkcaaDoorL
import Derived.Test.YtijpgenadhhkcaaDoorP2
namespace Go.Proofs.YtijpgenadhhkcaaDoor.Q
open Go.RowKit Go.Proofs.YtijpgenadhhkcaaDoorW.PrintWords Go.Proofs.YtijpgenadhhkcaaDoorW.PrintLast Go.Proofs.YtijpgenadhhkcaaDoor.P Go.Proofs.YtijpgenadhhkcaaDoor.B
set_option linter.unusedVariables false
set_option linter.unusedSimpArgs false

/-- A number's text. -/
def itx (x : Int) : ByteArray := ⟨(Lib.itoa x).toArray⟩
theorem one_num {u : Nat} (h : u < 10) : strOfNums [(48 + (u : Int)) % 256] = ⟨#[UInt8.ofNat (48 + u)]⟩ := by
  have : u = 0 ∨ u = 1 ∨ u = 2 ∨ u = 3 ∨ u = 4 ∨ u = 5 ∨ u = 6 ∨ u = 7 ∨ u = 8 ∨ u = 9 := by omega
  rcases this with rfl | rfl | rfl | rfl | rfl | rfl | rfl | rfl | rfl | rfl <;> rfl
theorem mk_append (a b : List UInt8) : (⟨a.toArray⟩ : ByteArray) ++ ⟨b.toArray⟩ = ⟨(a ++ b).toArray⟩ := by
  apply ByteArray.ext
  simp
theorem mk_size (a : List UInt8) : (⟨a.toArray⟩ : ByteArray).size = a.length := rfl
theorem dec_step (u : Nat) : Lib.decDigits u = if u < 10 then [UInt8.ofNat (48 + u)] else Lib.decDigits (u / 10) ++ [UInt8.ofNat (48 + u % 10)] := by
  rw [Lib.decDigits]
  by_cases h : u < 10
  · rw [dif_pos h, if_pos h]
  · rw [dif_neg h, if_neg h]
theorem tm10 (x : Int) : Int.tmod x 10 = if 0 ≤ x then ((x.natAbs % 10 : Nat) : Int) else -((x.natAbs % 10 : Nat) : Int) := by
  by_cases h : 0 ≤ x
  · rw [if_pos h, Int.tmod_eq_emod_of_nonneg h]; omega
  · rw [if_neg h, show x = -(-x) by omega, Int.neg_tmod, Int.tmod_eq_emod_of_nonneg (by omega)]; omega
theorem td10 (x : Int) : Int.tdiv x 10 = if 0 ≤ x then ((x.natAbs / 10 : Nat) : Int) else -((x.natAbs / 10 : Nat) : Int) := by
  by_cases h : 0 ≤ x
  · rw [if_pos h, Int.tdiv_eq_ediv_of_nonneg h]; omega
  · rw [if_neg h, show x = -(-x) by omega, Int.neg_tdiv, Int.tdiv_eq_ediv_of_nonneg (by omega)]; omega
theorem Decimal_eq {a0 : Int} (hx : -9223372036854775808 ≤ a0 ∧ a0 ≤ 9223372036854775807) : impl_Decimal.f a0 = some (itx a0) := by
  unfold impl_Decimal.f strconv_FormatInt.f itx
  rw [if_pos ⟨rfl, hx.1, hx.2⟩, Option.bind_some]
theorem dec_len : ∀ (j u : Nat), u < 10 ^ (j + 1) → (Lib.decDigits u).length ≤ j + 1 := by
  intro j
  induction j with
  | zero => intro u h; rw [dec_step, if_pos (by simpa using h)]; simp
  | succ j ih =>
    intro u h
    rw [dec_step]
    by_cases c : u < 10
    · rw [if_pos c]; simp
    · rw [if_neg c, List.length_append, List.length_singleton]
      have hp : 10 ^ (j + 1 + 1) = 10 ^ (j + 1) * 10 := Nat.pow_succ ..
      have := ih (u / 10) (by omega)
      omega
theorem itoa_len {x : Int} (h : -1000000000 ≤ x ∧ x ≤ 1000000000) : (Lib.itoa x).length ≤ 11 := by
  have hp : (10 : Nat) ^ (9 + 1) = 10000000000 := by decide
  unfold Lib.itoa
  by_cases c : x < 0
  · rw [if_pos c]
    have := dec_len 9 x.natAbs (by omega)
    simp only [List.length_cons]; omega
  · rw [if_neg c]
    have := dec_len 9 x.toNat (by omega)
    omega
theorem itx_size {x : Int} (h : -1000000000 ≤ x ∧ x ≤ 1000000000) : (itx x).size ≤ 11 := itoa_len h
end Go.Proofs.YtijpgenadhhkcaaDoor.Q
