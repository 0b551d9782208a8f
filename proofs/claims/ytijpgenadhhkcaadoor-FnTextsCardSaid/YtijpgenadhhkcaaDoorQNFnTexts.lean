/- Numbers are read from their texts: what the specification and the program read. -/
import Derived.Test.YtijpgenadhhkcaaDoorQJFnTexts
import Derived.Test.YtijpgenadhhkcaaDoorQ1FnTexts
import Derived.Test.YtijpgenadhhkcaaDoorL
import Derived.Lib.ParseIntBCases
import Derived.Test.YtijpgenadhhkcaaDoorL
namespace Go.Proofs.YtijpgenadhhkcaaDoor.Q
open Go.RowKit Go.Proofs.YtijpgenadhhkcaaDoorW.PrintWords Go.Proofs.YtijpgenadhhkcaaDoorW.PrintLast Go.Proofs.YtijpgenadhhkcaaDoor.P Go.Proofs.YtijpgenadhhkcaaDoor.B
set_option linter.unusedVariables false
set_option linter.unusedSimpArgs false

/-- The number that digits spell, behind a number. -/
def fold10 (acc : Nat) (l : List UInt8) : Nat := l.foldl (fun a c => a * 10 + (c.toNat - 48)) acc
/-- A digit. -/
def dg (c : UInt8) : Bool := decide (48 ≤ c.toNat ∧ c.toNat ≤ 57)
theorem dg_iff {c : UInt8} : dg c = true ↔ 48 ≤ c.toNat ∧ c.toNat ≤ 57 := decide_eq_true_iff
theorem fold_ge : ∀ (l : List UInt8) (acc : Nat), acc ≤ fold10 acc l
  | [], acc => Nat.le_refl _
  | c :: r, acc => by
    have := fold_ge r (acc * 10 + (c.toNat - 48))
    show acc ≤ fold10 (acc * 10 + (c.toNat - 48)) r
    omega
theorem fold_lt : ∀ (l : List UInt8) (acc : Nat), l.all dg = true → fold10 acc l < (acc + 1) * 10 ^ l.length
  | [], acc, _ => by simp [fold10]
  | c :: r, acc, h => by
    rw [List.all_cons, Bool.and_eq_true, dg_iff] at h
    have := fold_lt r (acc * 10 + (c.toNat - 48)) h.2
    show fold10 (acc * 10 + (c.toNat - 48)) r < _
    rw [List.length_cons, Nat.pow_succ]
    refine Nat.lt_of_lt_of_le this ?_
    rw [Nat.mul_comm (10 ^ r.length) 10, ← Nat.mul_assoc]
    exact Nat.mul_le_mul_right _ (by omega)
theorem fold_snoc (l : List UInt8) (acc : Nat) (c : UInt8) : fold10 acc (l ++ [c]) = fold10 acc l * 10 + (c.toNat - 48) := by
  unfold fold10
  rw [List.foldl_append]
  rfl
theorem u8d {d : Nat} (h : d < 10) : (UInt8.ofNat (48 + d)).toNat = 48 + d := by
  rw [UInt8.toNat_ofNat']
  omega
theorem dec_read (u : Nat) : (Lib.decDigits u).all dg = true ∧ fold10 0 (Lib.decDigits u) = u ∧ Lib.decDigits u ≠ [] := by
  induction u using Nat.strongRecOn with
  | _ u ih =>
    rw [dec_step]
    by_cases c : u < 10
    · rw [if_pos c]
      refine ⟨?_, ?_, by simp⟩
      · rw [List.all_cons, List.all_nil, Bool.and_true, dg_iff, u8d c]; omega
      · show 0 * 10 + ((UInt8.ofNat (48 + u)).toNat - 48) = u
        rw [u8d c]; omega
    · rw [if_neg c]
      obtain ⟨h1, h2, h3⟩ := ih (u / 10) (by omega)
      have h10 : u % 10 < 10 := Nat.mod_lt _ (by omega)
      refine ⟨?_, ?_, by simp⟩
      · rw [List.all_append, h1, List.all_cons, List.all_nil, Bool.and_true, Bool.true_and, dg_iff, u8d h10]; omega
      · rw [fold_snoc, h2, u8d h10]; omega
theorem parseUintM_dg : ∀ (l : List UInt8) (acc : Nat), l.all dg = true → fold10 acc l ≤ 18446744073709551615 → Lib.parseUintM 18446744073709551615 acc l = .ok (fold10 acc l)
  | [], acc, _, _ => rfl
  | c :: r, acc, h, hb => by
    rw [List.all_cons, Bool.and_eq_true, dg_iff] at h
    have hb' : fold10 (acc * 10 + (c.toNat - 48)) r ≤ 18446744073709551615 := hb
    have hg := fold_ge r (acc * 10 + (c.toNat - 48))
    simp only [Lib.parseUintM]
    rw [if_pos h.1, if_neg (by omega), if_neg (by omega), parseUintM_dg r _ h.2 hb']
    rfl
theorem parse_dec {u : Nat} (h : u ≤ 1000000000) : Lib.parseUintB 64 (Lib.decDigits u) = .ok u := by
  obtain ⟨h1, h2, h3⟩ := dec_read u
  unfold Lib.parseUintB
  rw [if_neg h3, show (2 ^ 64 - 1 : Nat) = 18446744073709551615 by decide, parseUintM_dg _ _ h1 (by rw [h2]; omega), h2]
theorem parse_itoa {v : Int} (h : -1000000000 ≤ v ∧ v ≤ 1000000000) : Lib.parseIntB 64 (Lib.itoa v) = .ok v := by
  have e63 : (2 ^ (64 - 1) : Nat) = 9223372036854775808 := by decide
  unfold Lib.itoa
  by_cases c : v < 0
  · rw [if_pos c, Lib.parseIntB_minus, parse_dec (by omega), e63]
    simp only [Lib.signedC]
    rw [if_neg (by omega)]
    congr 1
    omega
  · rw [if_neg c]
    obtain ⟨h1, h2, h3⟩ := dec_read v.toNat
    have hp := parse_dec (u := v.toNat) (by omega)
    cases hd : Lib.decDigits v.toNat with
    | nil => exact absurd hd h3
    | cons b r =>
      rw [hd] at h1 hp
      rw [List.all_cons, Bool.and_eq_true, dg_iff] at h1
      rw [Lib.parseIntB_plain _ _ _ (by omega) (by omega), hp, e63]
      simp only [Lib.signlessC]
      rw [if_neg (by omega)]
      congr 1
      omega
theorem readDec_itoa {v : Int} (h : -1000000000 ≤ v ∧ v ≤ 1000000000) : readDec (Lib.itoa v) = (v, true) := by
  rw [readDec_ok (parse_itoa h), if_pos ⟨rfl, h⟩]
/-- What is read is read back. -/
theorem readDec_none {l : List UInt8} (h : ∀ v : Int, -1000000000 ≤ v ∧ v ≤ 1000000000 → Lib.itoa v ≠ l) : readDec l = (0, false) := by
  cases hp : Lib.parseIntB 64 l with
  | ok v => rw [readDec_ok hp, if_neg (fun z => h v z.2 z.1)]
  | «syntax» => exact readDec_no (fun v z => by rw [hp] at z; cases z)
  | range => exact readDec_no (fun v z => by rw [hp] at z; cases z)
/-- What the digits behind a sign (p = 1) or none come to. -/
def fin (l : List UInt8) (x : Int) : Int × Bool := if (-1000000000 ≤ x ∧ x ≤ 1000000000) ∧ Lib.itoa x = l then (x, true) else (0, false)
theorem bt_at {s : ByteArray} {i : Nat} (h : i < s.data.toList.length) : bt s (i : Int) = (s.data.toList[i].toNat : Int) := by
  have h1 : i < s.size := by simpa using h
  unfold bt
  rw [dif_pos (by simpa using h1)]
  congr 1
/-- The sign's place. -/
def sg (l : List UInt8) : Nat := if l.head? = some 45 then 1 else 0
/-- What a number's text is made of. -/
theorem itoa_parts {v : Int} (h : -1000000000 ≤ v ∧ v ≤ 1000000000) : ((Lib.itoa v).drop (sg (Lib.itoa v))).all dg = true ∧ (if sg (Lib.itoa v) = 1 then -(fold10 0 ((Lib.itoa v).drop (sg (Lib.itoa v))) : Int) else (fold10 0 ((Lib.itoa v).drop (sg (Lib.itoa v))) : Int)) = v ∧ 1 ≤ (Lib.itoa v).length - sg (Lib.itoa v) ∧ (Lib.itoa v).length - sg (Lib.itoa v) ≤ 10 := by
  have hp : (10 : Nat) ^ (9 + 1) = 10000000000 := by decide
  unfold Lib.itoa
  by_cases c : v < 0
  · obtain ⟨h1, h2, h3⟩ := dec_read v.natAbs
    have h4 := dec_len 9 v.natAbs (by omega)
    have h5 : (Lib.decDigits v.natAbs).length ≠ 0 := fun z => h3 (List.eq_nil_of_length_eq_zero z)
    rw [if_pos c, show sg (45 :: Lib.decDigits v.natAbs) = 1 from rfl, List.drop_succ_cons, List.drop_zero, if_pos rfl, h2]
    refine ⟨h1, by omega, ?_, ?_⟩ <;> simp only [List.length_cons] <;> omega
  · obtain ⟨h1, h2, h3⟩ := dec_read v.toNat
    have h4 := dec_len 9 v.toNat (by omega)
    have h5 : (Lib.decDigits v.toNat).length ≠ 0 := fun z => h3 (List.eq_nil_of_length_eq_zero z)
    have hs : sg (Lib.decDigits v.toNat) = 0 := by
      unfold sg
      rw [if_neg]
      intro z
      cases hd : Lib.decDigits v.toNat with
      | nil => exact h3 hd
      | cons b r =>
        rw [hd] at z h1
        rw [List.all_cons, Bool.and_eq_true, dg_iff] at h1
        simp only [List.head?_cons, Option.some.injEq] at z
        subst z
        have : (45 : UInt8).toNat = 45 := rfl
        omega
    rw [if_neg c, hs, List.drop_zero, if_neg (by omega), h2]
    exact ⟨h1, by omega, by omega, by omega⟩
theorem readDec_eq (l : List UInt8) : readDec l = if 1 ≤ l.length - sg l ∧ l.length - sg l ≤ 10 then (if (l.drop (sg l)).all dg = true then fin l (if sg l = 1 then -(fold10 0 (l.drop (sg l)) : Int) else (fold10 0 (l.drop (sg l)) : Int)) else (0, false)) else (0, false) := by
  by_cases h : ∃ v : Int, (-1000000000 ≤ v ∧ v ≤ 1000000000) ∧ Lib.itoa v = l
  · obtain ⟨v, hv, rfl⟩ := h
    obtain ⟨h1, h2, h3, h4⟩ := itoa_parts hv
    rw [readDec_itoa hv, if_pos ⟨h3, h4⟩, if_pos h1, h2]
    unfold fin
    rw [if_pos ⟨hv, rfl⟩]
  · have h' : ∀ v : Int, -1000000000 ≤ v ∧ v ≤ 1000000000 → Lib.itoa v ≠ l := fun v hv e => h ⟨v, hv, e⟩
    rw [readDec_none h']
    have hf : ∀ x, fin l x = (0, false) := fun x => by unfold fin; rw [if_neg (fun z => h' x z.1 z.2)]
    rw [hf]
    split <;> (try split) <;> rfl
theorem readDec_eq_f {s : ByteArray} (hs : s.size ≤ 281474976710656) : impl_ReadDecimal.f s = some (readDec s.data.toList) := by
  unfold impl_ReadDecimal.f
  rw [if_pos hs]
def ReadDecimal_res (s : ByteArray) : Int × Bool := readDec s.data.toList
theorem ReadDecimal_impl {s : ByteArray} (hs : s.size ≤ 1048576) : impl_ReadDecimal.f s = some (ReadDecimal_res s) := readDec_eq_f (by omega)
end Go.Proofs.YtijpgenadhhkcaaDoor.Q
