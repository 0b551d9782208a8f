/- Values are read from their texts: what the specification and the program read. -/
import Derived.Test.YtbbnmfkaahajlaaDoorQOFnExactReadValues
import Derived.Test.YtbbnmfkaahajlaaDoorQMFnExactReadValues
import Derived.Test.YtbbnmfkaahajlaaDoorL
import Derived.Test.YtbbnmfkaahajlaaDoorP4
import Derived.Test.YtbbnmfkaahajlaaDoorP5
import Derived.Test.YtbbnmfkaahajlaaDoorP6
namespace Go.Proofs.YtbbnmfkaahajlaaDoor.Q
open Go.RowKit Go.Proofs.YtbbnmfkaahajlaaDoorW.PrintWords Go.Proofs.YtbbnmfkaahajlaaDoorW.PrintLast Go.Proofs.YtbbnmfkaahajlaaDoor.P Go.Proofs.YtbbnmfkaahajlaaDoor.B
set_option linter.unusedVariables false
set_option linter.unusedSimpArgs false

/-- What ReadList reads. -/
def rl (l : List UInt8) : List Int × Bool := if l = [45] then ([], true) else goS [] (cutc [] l)
theorem rl_res (s : ByteArray) : ReadList_res s = rl s.data.toList := rfl
theorem rl_len (l : List UInt8) : (rl l).1.length ≤ 40 := ReadList_len ⟨l.toArray⟩
/-- What is read out of two parts. -/
def two (a b : List UInt8) : Int × List Int × Bool := if (readDec a).2 = true then (if (rl b).2 = true then (if vv (readDec a).1 (rl b).1 = true then ((readDec a).1, (rl b).1, true) else (0, [], false)) else (0, [], false)) else (0, [], false)
def rv (l : List UInt8) : Int × List Int × Bool := if (Lib.cut l [58]).2.2 = true then two (Lib.cut l [58]).1 (Lib.cut l [58]).2.1 else (0, [], false)
def ReadValues_res (s : ByteArray) : Int × List Int × Bool := rv s.data.toList
theorem rv_len (l : List UInt8) : (rv l).2.1.length ≤ 40 := by
  unfold rv two
  split
  · split
    · split
      · split
        · exact rl_len _
        · simp
      · simp
    · simp
  · simp
theorem cut_hit {l : List UInt8} {i : Nat} (hi : l[i]? = some 58) (hn : ∀ j, j < i → l[j]? ≠ some 58) : Lib.cut l [58] = (l.take i, l.drop (i + 1), true) := by
  have h : Lib.indexByte l 58 = (i : Int) := by
    have hg := Lib.indexByte_ge l 58
    by_cases c : Lib.indexByte l 58 = -1
    · exact absurd hi (Lib.indexByte_none c i)
    · have ho : Lib.indexByte l 58 = ((Lib.indexByte l 58).toNat : Int) := by omega
      obtain ⟨h1, h2⟩ := Lib.indexByte_some ho
      rcases Nat.lt_trichotomy (Lib.indexByte l 58).toNat i with h3 | h3 | h3
      · exact absurd h1 (hn _ h3)
      · omega
      · exact absurd hi (h2 _ h3)
  unfold Lib.cut
  rw [Lib.index_one, h, if_pos (by omega)]
  rfl
theorem cut_miss {l : List UInt8} (hn : ∀ j : Nat, l[j]? ≠ some 58) : Lib.cut l [58] = (l, [], false) := by
  have h : Lib.indexByte l 58 = -1 := by
    have hg := Lib.indexByte_ge l 58
    by_cases c : Lib.indexByte l 58 = -1
    · exact c
    · have ho : Lib.indexByte l 58 = ((Lib.indexByte l 58).toNat : Int) := by omega
      exact absurd (Lib.indexByte_some ho).1 (hn _)
  unfold Lib.cut
  rw [Lib.index_one, h, if_neg (by omega)]
theorem l01VRead_hit {s : ByteArray} (hs : s.size ≤ 1048576) {i : Nat} (hi : s.data.toList[i]? = some 58) (hn : ∀ j, j < i → s.data.toList[j]? ≠ some 58) {k : Nat} (hk : 3 * s.size + 300 < k) : spec_l01VRead.j1 k s (i : Int) = some (rv s.data.toList) := by
  have hsz : s.size = s.data.toList.length := by simp
  have hlt : i < s.data.toList.length := (List.getElem?_eq_some_iff.1 hi).1
  obtain ⟨k, rfl, hk'⟩ := succ_of_lt hk
  simp only [spec_l01VRead.j1]
  rw [if_neg (by omega), if_pos (by omega), if_pos (by omega), Int.toNat_natCast, l01Value_eq _ (by rw [ByteArray.size_extract]; omega) (by rw [ByteArray.size_extract]; omega), Option.bind_some, wrap_nat (by omega), if_pos (by omega), if_pos (by omega), Int.toNat_natCast,
    l01Numbers_eq (by rw [ByteArray.size_extract]; omega) (by rw [ByteArray.size_extract]; omega), Option.bind_some, rl_res, ext_list, ext_list, List.drop_zero, List.take_of_length_le (l := s.data.toList.drop (i + 1)) (by rw [List.length_drop]; omega)]
  have hl := rl_len (s.data.toList.drop (i + 1))
  rw [l01Is_eq (by omega) _ (by omega)]
  unfold rv two
  rw [cut_hit hi hn]
  simp only [Nat.sub_zero, if_true, Option.bind_some]
  split
  · split
    · split <;> rfl
    · rfl
  · rfl
set_option maxRecDepth 100000 in
theorem l01VRead_eq {s : ByteArray} (hs : s.size ≤ 1048576) {k : Nat} (hk : 4 * s.size + 400 < k) : spec_l01VRead.f k s = some (rv s.data.toList) := by
  have hsz : s.size = s.data.toList.length := by simp
  unfold spec_l01VRead.f
  refine loopIc0 (m := s.size) (3 * s.size + 310) (F := fun k i (_ : Unit) => spec_l01VRead.l0 k s i) (fun n _ => ∀ j, j < n → s.data.toList[j]? ≠ some 58) (fun r => r = some (rv s.data.toList)) ?_ ?_ (k := k) (s := ()) (by omega) (fun j hj => by omega)
  · intro k _ hk hn
    have hn' : ∀ j : Nat, s.data.toList[j]? ≠ some 58 := fun j => by
      by_cases c : j < s.size
      · exact hn j c
      · rw [List.getElem?_eq_none (by omega)]; simp
    obtain ⟨k, rfl, hk'⟩ := succ_of_lt (show 3 * s.size + 300 < k by omega)
    simp only [spec_l01VRead.l0]
    rw [if_neg (by omega)]
    simp only [spec_l01VRead.j1]
    rw [if_pos trivial]
    unfold rv
    rw [cut_miss hn']
    rfl
  · intro k n _ hk hlt hn
    have hlt' : n < s.data.toList.length := by omega
    simp only [spec_l01VRead.l0]
    rw [if_pos (by omega), if_pos (by omega), bt_at hlt']
    by_cases c : s.data.toList[n] = 58
    · rw [if_pos (by rw [c]; rfl)]
      exact .inr (l01VRead_hit hs (by rw [List.getElem?_eq_getElem hlt', c]) hn (by omega))
    · rw [if_neg (fun z => c (UInt8.toNat_inj.1 (by have : (58 : UInt8).toNat = 58 := rfl
                                                    omega))), wrap_nat (by omega)]
      refine .inl ⟨(), fun j hj => ?_, rfl⟩
      by_cases e : j = n
      · subst e
        rw [List.getElem?_eq_getElem hlt']
        exact fun z => c (Option.some.inj z)
      · exact hn j (by omega)
set_option maxRecDepth 100000 in
theorem ReadValues_spec {s : ByteArray} (hs : s.size ≤ 1048576) {k : Nat} (hk : 4 * s.size + 3000 < k) : spec_ReadValues.f k s = some (ReadValues_res s) := by
  unfold spec_ReadValues.f ReadValues_res
  rw [l01VRead_eq hs (by omega)]
  rfl
theorem cut_lens (l : List UInt8) : (Lib.cut l [58]).1.length ≤ l.length ∧ (Lib.cut l [58]).2.1.length ≤ l.length := by
  unfold Lib.cut
  split
  · refine ⟨?_, ?_⟩
    · simp only [List.length_take]; omega
    · simp only [List.length_drop]; omega
  · simp
set_option maxRecDepth 100000 in
theorem ReadValues_impl {s : ByteArray} (hs : s.size ≤ 1048576) {k : Nat} (hk : 4 * s.size + 3000 < k) : impl_ReadValues.f k s = some (ReadValues_res s) := by
  have hsz : s.size = s.data.toList.length := by simp
  have hc := cut_lens s.data.toList
  unfold impl_ReadValues.f ReadValues_res rv two strings_Cut.f
  rw [if_pos (by omega), Option.bind_some, show (⟨#[58]⟩ : ByteArray).data.toList = [58] from rfl]
  generalize Lib.cut s.data.toList [58] = c at hc
  obtain ⟨a, b, f⟩ := c
  simp only at hc ⊢
  rw [readDec_eq_f (by rw [mk_size]; omega), Option.bind_some, ReadList_impl (by rw [mk_size]; omega) (by rw [mk_size]; omega), Option.bind_some, rl_res]
  have hl := rl_len b
  simp only []
  rw [validValues_eq (by omega) _ (by omega)]
  simp only [Option.bind_some]
  split
  · split
    · split
      · split <;> rfl
      · rfl
    · rfl
  · rfl
theorem heldValues_eq {m : Nat} (hm : m ≤ 1099511627776) (den : Int) {k : Nat} (hk : m < k) : laws_heldValues.f k den (iota 1 m) 1 = some ((1 : Int) + m) := by
  unfold laws_heldValues.f
  rw [held_eq hm (by omega) (by omega) hk, Option.bind_some, if_neg (by omega)]
end Go.Proofs.YtbbnmfkaahajlaaDoor.Q
