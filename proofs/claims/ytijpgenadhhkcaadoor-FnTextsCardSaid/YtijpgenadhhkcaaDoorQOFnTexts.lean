/- Lists are read from their texts: what the specification and the program read. -/
import Derived.Test.YtijpgenadhhkcaaDoorQNFnTexts
import Derived.Test.YtijpgenadhhkcaaDoorQGFnTexts
import Derived.Lib.SplitLaws
import Derived.Test.YtijpgenadhhkcaaDoorL
import Derived.Test.YtijpgenadhhkcaaDoorP3
namespace Go.Proofs.YtijpgenadhhkcaaDoor.Q
open Go.RowKit Go.Proofs.YtijpgenadhhkcaaDoorW.PrintWords Go.Proofs.YtijpgenadhhkcaaDoorW.PrintLast Go.Proofs.YtijpgenadhhkcaaDoor.P Go.Proofs.YtijpgenadhhkcaaDoor.B
set_option linter.unusedVariables false
set_option linter.unusedSimpArgs false

/-- A text, cut at the commas. -/
def cutc : List UInt8 → List UInt8 → List (List UInt8)
  | cur, [] => [cur]
  | cur, c :: r => if c = 44 then cur :: cutc [] r else cutc (cur ++ [c]) r
theorem cutc_no : ∀ (a cur : List UInt8), 44 ∉ a → cutc cur a = [cur ++ a]
  | [], cur, _ => by simp [cutc]
  | c :: r, cur, h => by
    simp only [cutc]
    rw [if_neg (fun e => h (by rw [e]; exact List.mem_cons_self)), cutc_no r _ (fun e => h (List.mem_cons_of_mem _ e)), List.append_assoc]
    rfl
theorem cutc_at : ∀ (a cur b : List UInt8), 44 ∉ a → cutc cur (a ++ 44 :: b) = (cur ++ a) :: cutc [] b
  | [], cur, b, _ => by simp [cutc]
  | c :: r, cur, b, h => by
    rw [List.cons_append]
    simp only [cutc]
    rw [if_neg (fun e => h (by rw [e]; exact List.mem_cons_self)), cutc_at r _ b (fun e => h (List.mem_cons_of_mem _ e)), List.append_assoc]
    rfl
theorem cutc_len : ∀ (l cur : List UInt8), (cutc cur l).length ≤ l.length + 1 ∧ ∀ p ∈ cutc cur l, p.length ≤ cur.length + l.length
  | [], cur => by simp [cutc]
  | c :: r, cur => by
    simp only [cutc]
    split
    · have h := cutc_len r []
      refine ⟨by simp only [List.length_cons]; omega, fun p hp => ?_⟩
      rcases List.mem_cons.1 hp with rfl | hp
      · omega
      · have := h.2 p hp
        simp only [List.length_nil, List.length_cons] at this ⊢
        omega
    · have h := cutc_len r (cur ++ [c])
      refine ⟨by simp only [List.length_cons]; omega, fun p hp => ?_⟩
      have := h.2 p hp
      simp only [List.length_append, List.length_cons, List.length_nil] at this ⊢
      omega
theorem ext_list (s : ByteArray) (a b : Nat) : (s.extract a b).data.toList = (s.data.toList.drop a).take (b - a) := by
  rw [Lib.extract_eq]
def comma : ByteArray := ⟨#[44]⟩
theorem split_cut : ∀ (k : Nat) (s : ByteArray), Lib.countB s comma = k → (Lib.splitB comma 0 k s).map (fun p : ByteArray => p.data.toList) = cutc [] s.data.toList := by
  intro k
  induction k with
  | zero =>
    intro s hk
    rcases Lib.indexB_cases s comma with h | ⟨i, h, hr⟩
    · have h' : Lib.indexByte s.data.toList 44 = -1 := by rw [← Lib.index_one]; exact h
      have hn : 44 ∉ s.data.toList := fun hm => by
        obtain ⟨j, hj⟩ := List.getElem?_of_mem hm
        exact Lib.indexByte_none h' j hj
      rw [Lib.splitB_zero, cutc_no _ _ hn]
      rfl
    · rw [Lib.countB_hit s comma i (by decide) h] at hk
      omega
  | succ k ih =>
    intro s hk
    rcases Lib.indexB_cases s comma with h | ⟨i, h, hr⟩
    · rw [Lib.countB_miss s comma h] at hk
      omega
    · have h' : Lib.indexByte s.data.toList 44 = (i : Int) := by rw [← Lib.index_one]; exact h
      obtain ⟨hi, hb⟩ := Lib.indexByte_some h'
      have hc1 : comma.size = 1 := rfl
      rw [Lib.countB_hit s comma i (by decide) h] at hk
      rw [Lib.splitB_hit comma 0 k s i h, List.map_cons, ih _ (by omega), ext_list, ext_list, hc1]
      obtain ⟨hlt, he⟩ := List.getElem?_eq_some_iff.1 hi
      have hsz : s.size = s.data.toList.length := by simp
      have e : s.data.toList = s.data.toList.take i ++ 44 :: s.data.toList.drop (i + 1) := by
        rw [← he, List.getElem_cons_drop, List.take_append_drop]
      have hn : 44 ∉ s.data.toList.take i := fun hm => by
        obtain ⟨j, hj⟩ := List.getElem?_of_mem hm
        rw [List.getElem?_take] at hj
        split at hj
        · exact hb j (by assumption) hj
        · cases hj
      conv => rhs; rw [e]
      rw [cutc_at _ _ _ hn, List.nil_append, List.drop_zero]
      congr 2
      exact List.take_of_length_le (by rw [List.length_drop]; omega)
/-- What a list's text comes to, piece by piece, as the specification reads it. -/
def goS : List Int → List (List UInt8) → List Int × Bool
  | acc, [] => (acc, true)
  | acc, p :: r => if (readDec p).2 = true then (if (acc.length : Int) = 40 then ([], false) else goS (acc ++ [(readDec p).1]) r) else ([], false)
/-- .. and as the program reads it. -/
def goI : List Int → List (List UInt8) → List Int × Bool
  | acc, [] => if ll acc = true then (acc, true) else ([], false)
  | acc, p :: r => if (readDec p).2 = true then goI (acc ++ [(readDec p).1]) r else ([], false)
theorem readDec_bd {l : List UInt8} (h : (readDec l).2 = true) : -1000000000 ≤ (readDec l).1 ∧ (readDec l).1 ≤ 1000000000 := by
  cases hp : Lib.parseIntB 64 l with
  | ok v =>
    rw [readDec_ok hp] at h ⊢
    split at h
    · rename_i c; rw [if_pos c]; exact c.2
    · cases h
  | «syntax» => rw [readDec_no (fun v z => by rw [hp] at z; cases z)] at h; cases h
  | range => rw [readDec_no (fun v z => by rw [hp] at z; cases z)] at h; cases h
theorem go_eq : ∀ (ps : List (List UInt8)) (acc : List Int), acc.length ≤ 40 → (∀ x ∈ acc, -1000000000 ≤ x ∧ x ≤ 1000000000) → goI acc ps = goS acc ps
  | [], acc, hl, hb => by
    simp only [goI, goS]
    rw [if_pos (ll_iff.2 ⟨hl, hb⟩)]
  | p :: r, acc, hl, hb => by
    simp only [goI, goS]
    by_cases c : (readDec p).2 = true
    · rw [if_pos c, if_pos c]
      by_cases c2 : (acc.length : Int) = 40
      · rw [if_pos c2]
        have h41 : ∀ (ps : List (List UInt8)) (a : List Int), 40 < a.length → goI a ps = ([], false) := by
          intro ps
          induction ps with
          | nil =>
            intro a ha
            simp only [goI]
            rw [if_neg (fun z => by have := (ll_iff.1 z).1; omega)]
          | cons q ps ih =>
            intro a ha
            simp only [goI]
            split
            · exact ih _ (by rw [List.length_append]; omega)
            · rfl
        exact h41 r _ (by rw [List.length_append, List.length_singleton]; omega)
      · rw [if_neg c2]
        exact go_eq r _ (by rw [List.length_append, List.length_singleton]; omega) (fun x hx => by
          rcases List.mem_append.1 hx with hx | hx
          · exact hb x hx
          · rw [List.mem_singleton.1 hx]; exact readDec_bd c)
    · rw [if_neg c, if_neg c]
theorem goS_len : ∀ (ps : List (List UInt8)) (acc : List Int), acc.length ≤ 40 → (goS acc ps).1.length ≤ 40
  | [], acc, h => h
  | p :: r, acc, h => by
    simp only [goS]
    split
    · split
      · simp
      · exact goS_len r _ (by rw [List.length_append, List.length_singleton]; omega)
    · simp
theorem readList_loop (t : List ByteArray) (ht : t.length ≤ 1048577) (hp : ∀ p ∈ t, p.size ≤ 281474976710656) : ∀ (d i : Nat) (acc : List Int) (k : Nat), i + d = t.length → acc.length = i → 2 * t.length + 10 < k + i →
    impl_ReadList.l0 k acc t (t.length : Int) (i : Int) = some (goI acc ((t.drop i).map fun p : ByteArray => p.data.toList)) := by
  intro d
  induction d with
  | zero =>
    intro i acc k hi ha hk
    obtain ⟨k, rfl, hk'⟩ := succ_of_lt (show 2 * t.length + 10 - i < k by omega)
    simp only [impl_ReadList.l0]
    rw [if_neg (by omega), List.drop_eq_nil_of_le (by omega), isList_eq (by omega) (by omega), Option.bind_some]
    simp only [List.map_nil, goI]
    split <;> rfl
  | succ d ih =>
    intro i acc k hi ha hk
    obtain ⟨k, rfl, hk'⟩ := succ_of_lt (show 2 * t.length + 10 - i < k by omega)
    have hlt : i < t.length := by omega
    have hr : rdOf ByteArray.empty t (i : Int) = t[i] := by
      unfold rdOf
      rw [Int.toNat_natCast, List.getD_eq_getElem?_getD, List.getElem?_eq_getElem hlt]
      rfl
    simp only [impl_ReadList.l0]
    rw [if_pos (by omega), if_pos (by omega), if_pos (by omega), hr, readDec_eq_f (hp _ (List.getElem_mem hlt)), Option.bind_some, (List.getElem_cons_drop (h := hlt)).symm, List.map_cons]
    simp only [goI]
    split
    · rw [if_pos (by omega), wrap_nat (by omega)]
      exact ih (i + 1) _ k (by omega) (by rw [List.length_append, List.length_singleton, ha]) (by omega)
    · rfl
def ReadList_res (s : ByteArray) : List Int × Bool := if s.data.toList = [45] then ([], true) else goS [] (cutc [] s.data.toList)
theorem ReadList_len (s : ByteArray) : (ReadList_res s).1.length ≤ 40 := by
  unfold ReadList_res
  split
  · simp
  · exact goS_len (cutc [] s.data.toList) [] (by simp)
theorem ReadList_impl {s : ByteArray} (hs : s.size ≤ 1048576) {k : Nat} (hk : 3 * s.size + 3000 < k) : impl_ReadList.f k s = some (ReadList_res s) := by
  have hsz : s.size = s.data.toList.length := by simp
  unfold impl_ReadList.f ReadList_res
  rw [toList_data]
  by_cases c : s.data.toList = [45]
  · rw [if_pos c, if_pos c]
  · rw [if_neg c, if_neg c]
    have hsp : strings_Split.f s (⟨#[44]⟩ : ByteArray) = some (Lib.splitB comma 0 (Lib.countB s comma) s) := by
      unfold strings_Split.f
      rw [if_pos ⟨by omega, by decide⟩]
      rfl
    have hc := split_cut _ s rfl
    have hl := cutc_len s.data.toList []
    have hln : (Lib.splitB comma 0 (Lib.countB s comma) s).length = (cutc [] s.data.toList).length := by rw [← hc, List.length_map]
    rw [hsp, Option.bind_some]
    generalize Lib.splitB comma 0 (Lib.countB s comma) s = t at hc hln
    have hp : ∀ p ∈ t, p.size ≤ 281474976710656 := fun p hp => by
      have := hl.2 p.data.toList (by rw [← hc]; exact List.mem_map_of_mem hp)
      have hps : p.size = p.data.toList.length := by simp
      simp only [List.length_nil] at this
      omega
    have := readList_loop t (by omega) hp t.length 0 [] k (by omega) rfl (by omega)
    rw [List.drop_zero, hc, go_eq _ _ (by simp) (by simp)] at this
    exact this
end Go.Proofs.YtijpgenadhhkcaaDoor.Q
