/- Check numbers of texts. -/
import Derived.Test.YtijpgenadhhkcaaDoorQNFnTexts
import Derived.Test.YtijpgenadhhkcaaDoorP4
namespace Go.Proofs.YtijpgenadhhkcaaDoor.Q
open Go.RowKit Go.Proofs.YtijpgenadhhkcaaDoorW.PrintWords Go.Proofs.YtijpgenadhhkcaaDoorW.PrintLast Go.Proofs.YtijpgenadhhkcaaDoor.P Go.Proofs.YtijpgenadhhkcaaDoor.B
set_option linter.unusedVariables false
set_option linter.unusedSimpArgs false

def stp (x : Int) (b : UInt8) : Int := Int.tmod (wrap64 ((wrap64 ((wrap64 (263 * x)) + (wrap64 (b.toNat : Int)))) + 7)) 65521
def chk (x : Int) (l : List UInt8) : Int := l.foldl stp x
theorem chk_append (x : Int) (a b : List UInt8) : chk x (a ++ b) = chk (chk x a) b := List.foldl_append
theorem stp_bd {x : Int} (h : 0 ≤ x ∧ x ≤ 65520) (b : UInt8) : 0 ≤ stp x b ∧ stp x b ≤ 65520 := by
  have hb := b.toNat_lt
  unfold stp
  rw [w64 (x := 263 * x) (by omega) (by omega), w64 (x := (b.toNat : Int)) (by omega) (by omega), w64 (x := 263 * x + (b.toNat : Int)) (by omega) (by omega), w64 (by omega) (by omega), Int.tmod_eq_emod_of_nonneg (by omega)]
  omega
theorem chk_bd : ∀ (l : List UInt8) {x : Int}, 0 ≤ x ∧ x ≤ 65520 → 0 ≤ chk x l ∧ chk x l ≤ 65520
  | [], x, h => h
  | b :: l, x, h => chk_bd l (stp_bd h b)
theorem checkOf_loop {s : ByteArray} (hs : s.size ≤ 1048576) : ∀ d n k (x : Int), s.size - n = d → n ≤ s.size → d < k → impl_checkOf.l0 k x s (s.size : Int) (n : Int) = some (chk x (s.data.toList.drop n)) := by
  have hsz : s.size = s.data.toList.length := by simp
  intro d
  induction d with
  | zero =>
    intro n k x hd hn hk
    obtain ⟨k, rfl, _⟩ := succ_of_lt hk
    obtain rfl : n = s.size := by omega
    simp only [impl_checkOf.l0]
    rw [if_neg (by omega), List.drop_eq_nil_of_le (by omega)]
    rfl
  | succ d ih =>
    intro n k x hd hn hk
    obtain ⟨k, rfl, hk'⟩ := succ_of_lt hk
    have hlt : n < s.data.toList.length := by omega
    simp only [impl_checkOf.l0]
    rw [if_pos (by omega), if_pos (by omega), if_pos (by omega), wrap_nat (by omega), ih (n + 1) k _ (by omega) (by omega) (by omega), bt_at hlt, (List.getElem_cons_drop (h := hlt)).symm]
    rfl
theorem CheckOf_eq {s : ByteArray} (hs : s.size ≤ 1048576) {x : Int} (hx : 0 ≤ x ∧ x ≤ 65520) {k : Nat} (hk : s.size < k) : impl_CheckOf.f k x s = some (chk x s.data.toList, true) := by
  unfold impl_CheckOf.f impl_checkOf.f
  rw [within_eq, Option.bind_some, if_pos (decide_eq_true hx)]
  have := checkOf_loop hs s.size 0 k x (by omega) (by omega) (by omega)
  rw [List.drop_zero] at this
  rw [show (0 : Int) = ((0 : Nat) : Int) from rfl, this]
  rfl
end Go.Proofs.YtijpgenadhhkcaaDoor.Q
