/- What is written is read back. -/
import Derived.Test.YtijpgenadhhkcaaDoorQOFnTexts
import Derived.Test.YtijpgenadhhkcaaDoorQKFnTexts

namespace Go.Proofs.YtijpgenadhhkcaaDoor.Q
open Go.RowKit Go.Proofs.YtijpgenadhhkcaaDoorW.PrintWords Go.Proofs.YtijpgenadhhkcaaDoorW.PrintLast Go.Proofs.YtijpgenadhhkcaaDoor.P Go.Proofs.YtijpgenadhhkcaaDoor.B
set_option linter.unusedVariables false
set_option linter.unusedSimpArgs false

theorem itoa_chars {v : Int} (h : -1000000000 ≤ v ∧ v ≤ 1000000000) : ∀ c ∈ Lib.itoa v, c = 45 ∨ (48 ≤ c.toNat ∧ c.toNat ≤ 57) := by
  intro c hc
  unfold Lib.itoa at hc
  split at hc
  · rcases List.mem_cons.1 hc with rfl | hc
    · exact .inl rfl
    · exact .inr (dg_iff.1 (List.all_eq_true.1 (dec_read _).1 c hc))
  · exact .inr (dg_iff.1 (List.all_eq_true.1 (dec_read _).1 c hc))
theorem itoa_no44 {v : Int} (h : -1000000000 ≤ v ∧ v ≤ 1000000000) : 44 ∉ Lib.itoa v := fun hc => by
  rcases itoa_chars h _ hc with e | e
  · exact absurd e (by decide)
  · have : (44 : UInt8).toNat = 44 := rfl
    omega
theorem cutc_jn : ∀ (l : List Int), l ≠ [] → (∀ x ∈ l, -1000000000 ≤ x ∧ x ≤ 1000000000) → cutc [] (jn l) = l.map Lib.itoa
  | [], h, _ => absurd rfl h
  | [x], _, hb => by
    rw [jn_one, cutc_no _ _ (itoa_no44 (hb x List.mem_cons_self))]
    rfl
  | x :: y :: r, _, hb => by
    have e : jn (x :: y :: r) = Lib.itoa x ++ 44 :: jn (y :: r) := by
      unfold jn
      rw [List.map_cons, List.map_cons, Lib.join_cons, Lib.join_cons]
      simp [Lib.joinTail]
    rw [e, cutc_at _ _ _ (itoa_no44 (hb x List.mem_cons_self)), cutc_jn (y :: r) (by simp) (fun z hz => hb z (List.mem_cons_of_mem _ hz))]
    rfl
theorem goS_itoa : ∀ (l acc : List Int), acc.length + l.length ≤ 40 → (∀ x ∈ l, -1000000000 ≤ x ∧ x ≤ 1000000000) → goS acc (l.map Lib.itoa) = (acc ++ l, true)
  | [], acc, _, _ => by simp [goS]
  | x :: r, acc, hl, hb => by
    rw [List.map_cons]
    simp only [goS]
    rw [readDec_itoa (hb x List.mem_cons_self)]
    simp only [if_true]
    rw [List.length_cons] at hl
    rw [if_neg (by omega), goS_itoa r (acc ++ [x]) (by rw [List.length_append, List.length_singleton]; omega) (fun z hz => hb z (List.mem_cons_of_mem _ hz)), List.append_assoc]
    rfl
theorem jn_ne {l : List Int} (hl : l ≠ []) (hb : ∀ x ∈ l, -1000000000 ≤ x ∧ x ≤ 1000000000) : jn l ≠ [45] := fun e => by
  have h := cutc_jn l hl hb
  rw [e, show cutc [] [45] = [[45]] from rfl] at h
  cases l with
  | nil => exact hl rfl
  | cons x r =>
    rw [List.map_cons] at h
    have h1 : [45] = Lib.itoa x := (List.cons.inj h).1
    have := itoa_parts (hb x List.mem_cons_self)
    rw [← h1] at this
    exact absurd this.2.2.1 (by decide)
/-- A list's text is read back. -/
theorem rl_txt {l : List Int} (hl : l.length ≤ 40) (hb : ∀ x ∈ l, -1000000000 ≤ x ∧ x ≤ 1000000000) : ReadList_res (txt l) = (l, true) := by
  unfold ReadList_res txt
  by_cases c : l = []
  · subst c; rfl
  · rw [if_neg c]
    show (if jn l = [45] then (([] : List Int), true) else goS [] (cutc [] (jn l))) = (l, true)
    rw [if_neg (jn_ne c hb), cutc_jn l c hb, goS_itoa l [] (by simpa using hl) hb]
    rfl
end Go.Proofs.YtijpgenadhhkcaaDoor.Q
