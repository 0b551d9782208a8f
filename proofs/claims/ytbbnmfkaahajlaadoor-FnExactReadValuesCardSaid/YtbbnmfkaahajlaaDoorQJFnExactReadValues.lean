/- Numbers in decimal: what the specification and the program write. -/
import Derived.Test.YtbbnmfkaahajlaaDoorB
import Derived.Lib.ItoaNum
import Derived.Test.YtbbnmfkaahajlaaDoorP1
namespace Go.Proofs.YtbbnmfkaahajlaaDoor.Q
open Go.RowKit Go.Proofs.YtbbnmfkaahajlaaDoorW.PrintWords Go.Proofs.YtbbnmfkaahajlaaDoorW.PrintLast Go.Proofs.YtbbnmfkaahajlaaDoor.P Go.Proofs.YtbbnmfkaahajlaaDoor.B
set_option linter.unusedVariables false
set_option linter.unusedSimpArgs false

/-- A number's text. -/
def itx (x : Int) : ByteArray := ⟨(Lib.itoa x).toArray⟩
theorem one_num {u : Nat} (h : u < 10) : strOfNums [(48 + (u : Int)) % 256] = ⟨#[UInt8.ofNat (48 + u)]⟩ := by
  have : u = 0 ∨ u = 1 ∨ u = 2 ∨ u = 3 ∨ u = 4 ∨ u = 5 ∨ u = 6 ∨ u = 7 ∨ u = 8 ∨ u = 9 := by omega
  rcases this with rfl | rfl | rfl | rfl | rfl | rfl | rfl | rfl | rfl | rfl <;> rfl
theorem mk_append (a b : List UInt8) : (⟨a.toArray⟩ : ByteArray) ++ ⟨b.toArray⟩ = ⟨(a ++ b).toArray⟩ := by
  apply ByteArray.ext
  simp
theorem mk_size (a : List UInt8) : (⟨a.toArray⟩ : ByteArray).size = a.length := rfl
theorem dec_step (u : Nat) : Lib.decDigits u = if u < 10 then [UInt8.ofNat (48 + u)] else Lib.decDigits (u / 10) ++ [UInt8.ofNat (48 + u % 10)] := by
  rw [Lib.decDigits]
  by_cases h : u < 10
  · rw [dif_pos h, if_pos h]
  · rw [dif_neg h, if_neg h]
theorem tm10 (x : Int) : Int.tmod x 10 = if 0 ≤ x then ((x.natAbs % 10 : Nat) : Int) else -((x.natAbs % 10 : Nat) : Int) := by
  by_cases h : 0 ≤ x
  · rw [if_pos h, Int.tmod_eq_emod_of_nonneg h]; omega
  · rw [if_neg h, show x = -(-x) by omega, Int.neg_tmod, Int.tmod_eq_emod_of_nonneg (by omega)]; omega
theorem td10 (x : Int) : Int.tdiv x 10 = if 0 ≤ x then ((x.natAbs / 10 : Nat) : Int) else -((x.natAbs / 10 : Nat) : Int) := by
  by_cases h : 0 ≤ x
  · rw [if_pos h, Int.tdiv_eq_ediv_of_nonneg h]; omega
  · rw [if_neg h, show x = -(-x) by omega, Int.neg_tdiv, Int.tdiv_eq_ediv_of_nonneg (by omega)]; omega
theorem l01Dec_step {x0 x4 : Int} {k : Nat} {l : List UInt8} (hl : l.length ≤ 100) (hx : -9223372036854775808 ≤ x4 ∧ x4 ≤ 9223372036854775807) :
    spec_l01Dec.l0 (k + 1) x0 ⟨l.toArray⟩ x4 = if x4.natAbs < 10 then some ⟨((if x0 < 0 then [45] else []) ++ (UInt8.ofNat (48 + x4.natAbs % 10) :: l)).toArray⟩ else spec_l01Dec.l0 k x0 ⟨(UInt8.ofNat (48 + x4.natAbs % 10) :: l).toArray⟩ (Int.tdiv x4 10) := by
  have tm := tm10 x4
  have td := td10 x4
  have hq : wrap64 (Int.tdiv x4 10) = Int.tdiv x4 10 := by
    split at td
    · exact w64 (by omega) (by omega)
    · exact w64 (by omega) (by omega)
  have hz : Int.tdiv x4 10 = 0 ↔ x4.natAbs < 10 := by
    split at td <;> omega
  have hu : x4.natAbs % 10 < 10 := Nat.mod_lt _ (by omega)
  have fin : ∀ v : Int, v = (48 + ((x4.natAbs % 10 : Nat) : Int)) % 256 → strOfNums [v] = ⟨([UInt8.ofNat (48 + x4.natAbs % 10)] : List UInt8).toArray⟩ := fun v hv => by rw [hv, one_num hu]
  have tail : (if (⟨([UInt8.ofNat (48 + x4.natAbs % 10)] : List UInt8).toArray⟩ : ByteArray).size + (⟨l.toArray⟩ : ByteArray).size ≤ 9223372036854775807 then (if (wrap64 (Int.tdiv x4 10)) = 0 then (if x0 < 0 then (if 1 + ((⟨([UInt8.ofNat (48 + x4.natAbs % 10)] : List UInt8).toArray⟩ : ByteArray) ++ (⟨l.toArray⟩ : ByteArray)).size ≤ 9223372036854775807 then (some ((⟨#[45]⟩ : ByteArray) ++ ((⟨([UInt8.ofNat (48 + x4.natAbs % 10)] : List UInt8).toArray⟩ : ByteArray) ++ (⟨l.toArray⟩ : ByteArray)))) else (none)) else (some ((⟨([UInt8.ofNat (48 + x4.natAbs % 10)] : List UInt8).toArray⟩ : ByteArray) ++ (⟨l.toArray⟩ : ByteArray)))) else (spec_l01Dec.l0 k x0 ((⟨([UInt8.ofNat (48 + x4.natAbs % 10)] : List UInt8).toArray⟩ : ByteArray) ++ (⟨l.toArray⟩ : ByteArray)) (wrap64 (Int.tdiv x4 10)))) else (none)) = if x4.natAbs < 10 then some ⟨((if x0 < 0 then [45] else []) ++ (UInt8.ofNat (48 + x4.natAbs % 10) :: l)).toArray⟩ else spec_l01Dec.l0 k x0 ⟨(UInt8.ofNat (48 + x4.natAbs % 10) :: l).toArray⟩ (Int.tdiv x4 10) := by
    rw [mk_append, mk_size, mk_size, mk_size, if_pos (by simp only [List.length_singleton]; omega), hq]
    simp only [List.singleton_append]
    by_cases c : x4.natAbs < 10
    · rw [if_pos (hz.2 c), if_pos c]
      by_cases c2 : x0 < 0
      · rw [if_pos c2, if_pos c2, if_pos (by simp only [List.length_cons]; omega)]
        exact congrArg some (mk_append [45] _)
      · rw [if_neg c2, if_neg c2]; rfl
    · rw [if_neg (fun h => c (hz.1 h)), if_neg c]
  simp only [spec_l01Dec.l0]
  by_cases c : Int.tmod x4 10 < 0
  · rw [if_pos c, Option.bind_some, fin _ (by
      have e : -Int.tmod x4 10 = ((x4.natAbs % 10 : Nat) : Int) := by split at tm <;> omega
      rw [e, w64 (x := ((x4.natAbs % 10 : Nat) : Int)) (by omega) (by omega), w64 (by omega) (by omega)])]
    exact tail
  · rw [if_neg c, Option.bind_some, fin _ (by
      have e : Int.tmod x4 10 = ((x4.natAbs % 10 : Nat) : Int) := by split at tm <;> omega
      rw [e, w64 (by omega) (by omega)])]
    exact tail
theorem l01Dec_loop (x0 : Int) : ∀ (j k : Nat) (x4 : Int) (l : List UInt8), x4.natAbs < 10 ^ (j + 1) → j < k → l.length + j ≤ 100 → (-9223372036854775808 ≤ x4 ∧ x4 ≤ 9223372036854775807) →
    spec_l01Dec.l0 k x0 ⟨l.toArray⟩ x4 = some ⟨((if x0 < 0 then [45] else []) ++ (Lib.decDigits x4.natAbs ++ l)).toArray⟩ := by
  intro j
  induction j with
  | zero =>
    intro k x4 l hu hk hl hx
    obtain ⟨k, rfl, _⟩ := succ_of_lt hk
    have hu9 : x4.natAbs < 10 := by simpa using hu
    rw [l01Dec_step (by omega) hx, if_pos hu9, dec_step, if_pos hu9, Nat.mod_eq_of_lt hu9]
    rfl
  | succ j ih =>
    intro k x4 l hu hk hl hx
    obtain ⟨k, rfl, _⟩ := succ_of_lt hk
    rw [l01Dec_step (by omega) hx, dec_step]
    by_cases hu9 : x4.natAbs < 10
    · rw [if_pos hu9, if_pos hu9, Nat.mod_eq_of_lt hu9]
      rfl
    · have td := td10 x4
      have ha : (Int.tdiv x4 10).natAbs = x4.natAbs / 10 := by split at td <;> omega
      have hp : 10 ^ (j + 1 + 1) = 10 ^ (j + 1) * 10 := Nat.pow_succ ..
      rw [if_neg hu9, if_neg hu9, ih k (Int.tdiv x4 10) _ (by rw [ha]; omega) (by omega) (by rw [List.length_cons]; omega) (by split at td <;> omega), ha, List.append_assoc]
      rfl
theorem l01Dec_eq {a0 : Int} (hx : -9223372036854775808 ≤ a0 ∧ a0 ≤ 9223372036854775807) {k : Nat} (hk : 20 < k) : spec_l01Dec.f k a0 = some (itx a0) := by
  unfold spec_l01Dec.f itx
  have := l01Dec_loop a0 20 k a0 [] (by
    have : (10 : Nat) ^ (20 + 1) = 1000000000000000000000 := by decide
    omega) (by omega) (by simp) hx
  rw [show (⟨#[]⟩ : ByteArray) = ⟨([] : List UInt8).toArray⟩ from rfl, this, List.append_nil]
  unfold Lib.itoa
  by_cases c : a0 < 0
  · rw [if_pos c, if_pos c]; rfl
  · rw [if_neg c, if_neg c, show a0.natAbs = a0.toNat by omega]; rfl
theorem dec_len : ∀ (j u : Nat), u < 10 ^ (j + 1) → (Lib.decDigits u).length ≤ j + 1 := by
  intro j
  induction j with
  | zero => intro u h; rw [dec_step, if_pos (by simpa using h)]; simp
  | succ j ih =>
    intro u h
    rw [dec_step]
    by_cases c : u < 10
    · rw [if_pos c]; simp
    · rw [if_neg c, List.length_append, List.length_singleton]
      have hp : 10 ^ (j + 1 + 1) = 10 ^ (j + 1) * 10 := Nat.pow_succ ..
      have := ih (u / 10) (by omega)
      omega
theorem itoa_len {x : Int} (h : -1000000000 ≤ x ∧ x ≤ 1000000000) : (Lib.itoa x).length ≤ 11 := by
  have hp : (10 : Nat) ^ (9 + 1) = 10000000000 := by decide
  unfold Lib.itoa
  by_cases c : x < 0
  · rw [if_pos c]
    have := dec_len 9 x.natAbs (by omega)
    simp only [List.length_cons]; omega
  · rw [if_neg c]
    have := dec_len 9 x.toNat (by omega)
    omega
theorem itx_size {x : Int} (h : -1000000000 ≤ x ∧ x ≤ 1000000000) : (itx x).size ≤ 11 := itoa_len h
end Go.Proofs.YtbbnmfkaahajlaaDoor.Q
