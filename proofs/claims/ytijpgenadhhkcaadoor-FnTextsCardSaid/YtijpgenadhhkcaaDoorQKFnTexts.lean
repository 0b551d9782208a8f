/- The texts of lists: what the specification and the program write. -/
import Derived.Test.YtijpgenadhhkcaaDoorQJFnTexts
import Derived.Test.YtijpgenadhhkcaaDoorQGFnTexts
import Derived.Lib.Join
import Derived.Test.YtijpgenadhhkcaaDoorL
import Derived.Test.YtijpgenadhhkcaaDoorP3
namespace Go.Proofs.YtijpgenadhhkcaaDoor.Q
open Go.RowKit Go.Proofs.YtijpgenadhhkcaaDoorW.PrintWords Go.Proofs.YtijpgenadhhkcaaDoorW.PrintLast Go.Proofs.YtijpgenadhhkcaaDoor.P Go.Proofs.YtijpgenadhhkcaaDoor.B
set_option linter.unusedVariables false
set_option linter.unusedSimpArgs false

/-- The numbers' texts, with commas. -/
def jn (l : List Int) : List UInt8 := Lib.join (l.map Lib.itoa) [44]
/-- The text of a list. -/
def txt (l : List Int) : ByteArray := if l = [] then ⟨#[45]⟩ else ⟨(jn l).toArray⟩
theorem jn_one (x : Int) : jn [x] = Lib.itoa x := Lib.join_one _ _
theorem jn_snoc (l : List Int) (hl : l ≠ []) (x : Int) : jn (l ++ [x]) = jn l ++ ([44] ++ Lib.itoa x) := by
  cases l with
  | nil => exact absurd rfl hl
  | cons y r =>
    unfold jn
    rw [List.cons_append, List.map_cons, List.map_cons, Lib.join_cons, Lib.join_cons, List.append_assoc]
    congr 1
    simp [Lib.joinTail]
theorem jn_take {l : List Int} {n : Nat} (hn : n < l.length) (h1 : 1 ≤ n) : jn (l.take (n + 1)) = jn (l.take n) ++ ([44] ++ Lib.itoa l[n]) := by
  rw [List.take_succ_eq_append_getElem hn]
  exact jn_snoc _ (by rw [Ne, List.take_eq_nil_iff]; rintro (h | h); omega; subst h; simp at hn) _
theorem jn_len : ∀ {l : List Int}, (∀ x ∈ l, -1000000000 ≤ x ∧ x ≤ 1000000000) → (jn l).length ≤ 12 * l.length := by
  intro l h
  cases l with
  | nil => simp [jn, Lib.join_nil]
  | cons y r =>
    unfold jn
    rw [List.map_cons, Lib.join_cons]
    have h1 := itoa_len (h y List.mem_cons_self)
    have h2 : ∀ r : List Int, (∀ x ∈ r, -1000000000 ≤ x ∧ x ≤ 1000000000) → (Lib.joinTail [44] (r.map Lib.itoa)).length ≤ 12 * r.length := by
      intro r
      induction r with
      | nil => intro _; simp [Lib.joinTail]
      | cons z r ih =>
        intro h
        have h3 := itoa_len (h z List.mem_cons_self)
        have h4 := ih (fun x hx => h x (List.mem_cons_of_mem _ hx))
        simp only [Lib.joinTail, List.map_cons, List.flatten_cons, List.length_append, List.length_cons, List.length_nil] at h4 ⊢
        omega
    have h5 := h2 r (fun x hx => h x (List.mem_cons_of_mem _ hx))
    simp only [List.length_append, List.length_cons] at h5 ⊢
    omega
theorem impl_loop {l : List Int} (hl : l.length ≤ 40) (hb : ∀ x ∈ l, -1000000000 ≤ x ∧ x ≤ 1000000000) {k : Nat} (hk : l.length + 5 < k) : impl_ListText.l0 k [] l (l.length : Int) 0 = some (⟨(jn l).toArray⟩, true) := by
  have bd : ∀ n (h : n < l.length), -1000000000 ≤ l[n] ∧ l[n] ≤ 1000000000 := fun n h => hb _ (List.getElem_mem h)
  refine loopI0 (m := l.length) (F := fun k i s => impl_ListText.l0 k s l (l.length : Int) i) (fun n s => s = (l.take n).map itx) (fun r => r = some (⟨(jn l).toArray⟩, true)) ?_ ?_ (by omega) rfl
  · rintro k s rfl
    have e : ((l.take l.length).map itx).map (fun x : ByteArray => x.data.toList) = l.map Lib.itoa := by
      rw [List.take_length, List.map_map]
      rfl
    have hj : (jn l).length ≤ 12 * l.length := jn_len hb
    simp only [impl_ListText.l0]
    rw [if_neg (by omega)]
    unfold strings_Join.f
    rw [e, if_pos ⟨by rw [List.length_map, List.length_take]; omega, by have : (jn l).length ≤ 140737488355328 := by omega
                                                                        exact this⟩, Option.bind_some]
    rfl
  · rintro k n s hn rfl
    refine .inl ⟨_, rfl, ?_⟩
    simp only [impl_ListText.l0]
    rw [if_pos (by omega), if_pos (by omega), if_pos (by omega), rd_nat hn, Decimal_eq (by have := bd n hn; omega), Option.bind_some, if_pos (by rw [List.length_map, List.length_take]; omega), wrap_nat (by omega), List.take_succ_eq_append_getElem hn, List.map_append]
    rfl
def ListText_res (l : List Int) : ByteArray × Bool := if ll l = true then (txt l, true) else (⟨#[]⟩, false)
theorem ListText_impl {l : List Int} (hw : ∀ x ∈ l, -9223372036854775808 ≤ x ∧ x ≤ 9223372036854775807) (hl : l.length ≤ 1048576) {k : Nat} (hk : l.length + 3000 < k) : impl_ListText.f k l = some (ListText_res l) := by
  unfold impl_ListText.f ListText_res
  rw [isList_eq (by omega) (by omega), Option.bind_some]
  by_cases c : ll l = true
  · have c' := ll_iff.1 c
    rw [if_pos c, if_pos c]
    unfold txt
    by_cases c2 : l = []
    · subst c2; simp
    · have hp : l.length ≠ 0 := fun h => c2 (List.eq_nil_of_length_eq_zero h)
      rw [if_neg (by omega), if_neg c2, impl_loop c'.1 c'.2 (by omega)]
  · rw [if_neg c, if_neg c]
end Go.Proofs.YtijpgenadhhkcaaDoor.Q
