/- FnExactIsName answers true at every text. -/
import Derived.Test.YtijpgenadhhkcaaDoorB
import Derived.Test.YtijpgenadhhkcaaDoorL
import Derived.Test.YtijpgenadhhkcaaDoorP1
import Derived.Test.YtijpgenadhhkcaaDoorP2
namespace Go.Proofs.YtijpgenadhhkcaaDoor.Pure
open Go.RowKit Go.Proofs.YtijpgenadhhkcaaDoorW.PrintWords Go.Proofs.YtijpgenadhhkcaaDoorW.PrintLast Go.Proofs.YtijpgenadhhkcaaDoor.P Go.Proofs.YtijpgenadhhkcaaDoor.B
set_option linter.unusedVariables false
set_option linter.unusedSimpArgs false

theorem dropWhile_nil {α : Type} {p : α → Bool} : ∀ {l : List α}, l.dropWhile p = [] ↔ ∀ x ∈ l, p x = true
  | [] => by simp
  | a :: l => by
    rw [List.dropWhile_cons]
    by_cases h : p a = true
    · rw [if_pos h, dropWhile_nil]
      simp [h]
    · rw [if_neg h]
      simp [h]
theorem dropWhile_head {α : Type} {p : α → Bool} : ∀ {l : List α} {x : α} {r : List α}, l.dropWhile p = x :: r → p x = false
  | [], _, _, h => by simp at h
  | a :: l, x, r, h => by
    rw [List.dropWhile_cons] at h
    by_cases hp : p a = true
    · rw [if_pos hp] at h; exact dropWhile_head h
    · rw [if_neg hp] at h
      injection h with h1 h2
      subst h1
      simpa using hp
theorem trimS_nil {l cs : List UInt8} : Lib.trimS l cs = [] ↔ ∀ b ∈ l, cs.contains b = true := by
  unfold Lib.trimS Lib.trimLeftS Lib.trimRightS
  rw [dropWhile_nil]
  constructor
  · intro h
    have e : l.reverse.dropWhile (cs.contains ·) = [] := by
      cases hd : l.reverse.dropWhile (cs.contains ·) with
      | nil => rfl
      | cons x r =>
        have h1 := dropWhile_head hd
        have h2 := h x (by rw [hd]; simp)
        rw [h1] at h2; cases h2
    intro b hb
    exact dropWhile_nil.1 e b (by simpa using hb)
  · intro h b hb
    exact h b (by
      have := List.dropWhile_sublist (p := (cs.contains ·)) (l := l.reverse)
      have h2 := this.mem (List.mem_reverse.1 hb)
      simpa using h2)
abbrev letters : List UInt8 := [97, 98, 99, 100, 101, 102, 103, 104, 105, 106, 107, 108, 109, 110, 111, 112, 113, 114, 115, 116, 117, 118, 119, 120, 121, 122]
theorem letters_nat : ∀ n : Fin 256, letters.contains (UInt8.ofNat n.val) = decide (97 ≤ n.val ∧ n.val ≤ 122) := by decide +kernel
theorem letters_iff (b : UInt8) : letters.contains b = true ↔ 97 ≤ b.toNat ∧ b.toNat ≤ 122 := by
  have h := letters_nat ⟨b.toNat, b.toNat_lt⟩
  rw [show UInt8.ofNat (⟨b.toNat, b.toNat_lt⟩ : Fin 256).val = b from by simp] at h
  rw [h, decide_eq_true_eq]
/-- All bytes are small letters. -/
def small (s : ByteArray) : Prop := ∀ i : Nat, i < s.size → 97 ≤ bt s i ∧ bt s i ≤ 122
theorem len_s (s : ByteArray) : s.data.toList.length = s.size := by rw [Array.length_toList]; rfl
theorem bt_get {s : ByteArray} {i : Nat} (h : i < s.data.toList.length) : bt s (i : Int) = (s.data.toList[i].toNat : Int) := by
  have hs : i < s.size := by rw [← len_s]; exact h
  have := bt_at s (i : Int) (by rw [Int.toNat_natCast]; exact hs)
  rw [← this]
  simp only [Int.toNat_natCast]
  rfl
theorem small_iff {s : ByteArray} : small s ↔ ∀ b ∈ s.data.toList, letters.contains b = true := by
  constructor
  · intro h b hb
    obtain ⟨i, hi, rfl⟩ := List.getElem_of_mem hb
    have := h i (by rw [← len_s]; exact hi)
    rw [bt_get hi] at this
    exact (letters_iff _).2 (by omega)
  · intro h i hi
    have hi2 : i < s.data.toList.length := by rw [len_s]; exact hi
    rw [bt_get hi2]
    have := (letters_iff _).1 (h _ (List.getElem_mem hi2))
    omega
open Classical in
theorem spec_eq {s : ByteArray} (hs : s.size ≤ 1048576) {k : Nat} (hk : s.size < k) : spec_IsName.f k s = some (decide (small s ∧ 1 ≤ s.size ∧ s.size ≤ 9)) := by
  unfold spec_IsName.f
  refine loopI0 (m := s.size) (F := fun k i (_ : Unit) => spec_IsName.l0 k s i) (fun n _ => ∀ i : Nat, i < n → 97 ≤ bt s i ∧ bt s i ≤ 122) (fun r => r = some (decide (small s ∧ 1 ≤ s.size ∧ s.size ≤ 9))) ?_ ?_ (k := k) (s := ()) hk (fun i hi => by omega)
  · intro k _ hi
    simp only [spec_IsName.l0]
    rw [if_neg (by omega)]
    have sm : small s := hi
    by_cases c : (s.size : Int) ≥ 1
    · rw [if_pos c]
      congr 1
      exact decide_eq_decide.2 ⟨fun h => ⟨sm, by omega, by omega⟩, fun h => by omega⟩
    · rw [if_neg c]
      congr 1
      exact (decide_eq_false (fun h => by omega)).symm
  · intro k n _ hn hi
    simp only [spec_IsName.l0]
    rw [if_pos (by omega), if_pos (by omega)]
    by_cases c : bt s (n : Int) < 97
    · rw [if_pos c]
      exact .inr (by rw [decide_eq_false (fun h => by have := h.1 n hn; omega)])
    · rw [if_neg c]
      by_cases c2 : bt s (n : Int) > 122
      · rw [if_pos c2]
        exact .inr (by rw [decide_eq_false (fun h => by have := h.1 n hn; omega)])
      · rw [if_neg c2, wrap_nat (by omega)]
        refine .inl ⟨(), fun i hin => ?_, rfl⟩
        by_cases e : i = n
        · rw [e]; omega
        · exact hi i (by omega)
open Classical in
theorem impl_eq {s : ByteArray} (hs : s.size ≤ 1048576) : impl_IsName.f s = some (decide (small s ∧ 1 ≤ s.size ∧ s.size ≤ 9)) := by
  unfold impl_IsName.f impl_within.f
  have tr : strings_Trim.f s (⟨#[97, 98, 99, 100, 101, 102, 103, 104, 105, 106, 107, 108, 109, 110, 111, 112, 113, 114, 115, 116, 117, 118, 119, 120, 121, 122]⟩ : ByteArray) = some ⟨(Lib.trimS s.data.toList letters).toArray⟩ := by
    unfold strings_Trim.f
    rw [if_pos ⟨by omega, by decide, by decide⟩]
  by_cases c : (1 : Int) ≤ (s.size : Int)
  · rw [if_pos c, Option.bind_some]
    by_cases c2 : (s.size : Int) ≤ 9
    · rw [if_pos (decide_eq_true c2), tr, Option.bind_some]
      congr 1
      rw [Bool.eq_iff_iff, decide_eq_true_eq, beq_iff_eq]
      have e : (⟨(Lib.trimS s.data.toList letters).toArray⟩ : ByteArray).toList = [] ↔ Lib.trimS s.data.toList letters = [] := by
        rw [ByteArray.toList_mk]
      rw [e, trimS_nil, ← small_iff]
      exact ⟨fun h => ⟨h, by omega, by omega⟩, fun h => h.1⟩
    · rw [if_neg (by simpa using c2), decide_eq_false (fun h => by omega)]
  · rw [if_neg c, Option.bind_some, if_neg (by simp), decide_eq_false (fun h => by omega)]
theorem FnExactIsName : laws_FnExactIsName.Pure := by
  intro a0 h0
  refine ⟨1048577 + 5, ?_⟩
  unfold laws_FnExactIsName.f
  by_cases c : (a0.size : Int) > 1048576
  · rw [if_pos c]
  · rw [if_neg c, spec_eq (by omega) (by omega), Option.bind_some, impl_eq (by omega), Option.bind_some, if_neg (by simp)]

end Go.Proofs.YtijpgenadhhkcaaDoor.Pure
