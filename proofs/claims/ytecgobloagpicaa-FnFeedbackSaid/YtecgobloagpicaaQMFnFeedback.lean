/- What the printed marks of the laws compute, and what lists that grow by one in each round come to, told plainly. -/
import Derived.Test.YtecgobloagpicaaQ2FnFeedback

namespace Go.Proofs.Ytecgobloagpicaa.Q
open Go.RowKit Go.Proofs.YtecgobloagpicaaW.PrintWords Go.Proofs.YtecgobloagpicaaW.PrintLast Go.Proofs.Ytecgobloagpicaa.P Go.Proofs.Ytecgobloagpicaa.B
set_option linter.unusedVariables false
set_option linter.unusedSimpArgs false

/-- So many numbers that rise by one. -/
def iota : Int → Nat → List Int
  | _, 0 => []
  | a, n + 1 => a :: iota (a + 1) n
theorem iota_length : ∀ (n : Nat) (a : Int), (iota a n).length = n
  | 0, _ => rfl
  | n + 1, a => by simp [iota, iota_length n]
theorem iota_get : ∀ (n : Nat) (a : Int) (i : Nat) (h : i < (iota a n).length), (iota a n)[i] = a + i
  | 0, _, _, h => by simp [iota] at h
  | n + 1, a, 0, _ => by simp [iota]
  | n + 1, a, i + 1, h => by
    simp only [iota, List.getElem_cons_succ]
    rw [iota_get n (a + 1) i (by simpa [iota] using h)]
    omega
theorem iota_snoc : ∀ (n : Nat) (a : Int), iota a (n + 1) = iota a n ++ [a + n]
  | 0, a => by simp [iota]
  | n + 1, a => by
    have h := iota_snoc n (a + 1)
    rw [show iota a (n + 1 + 1) = a :: iota (a + 1) (n + 1) from rfl, h]
    simp only [iota, List.cons_append]
    congr 3
    omega
/-- A round that puts one number behind a list. -/
def ap {α ρ : Type} (f : α → Int) (x : α) (acc : List Int) : List Int ⊕ Option ρ := if acc.length < 17592186044416 then .inl (acc ++ [f x]) else .inr none
theorem ap_run {α ρ : Type} (f : α → Int) (D : List Int → Option ρ) : ∀ (l : List α) (acc : List Int), acc.length + l.length ≤ 17592186044416 → runL (ap f) D l acc = D (acc ++ l.map f)
  | [], acc, _ => by simp [runL]
  | x :: xs, acc, h => by
    rw [List.length_cons] at h
    simp only [runL, ap]
    rw [if_pos (by omega)]
    simp only
    rw [ap_run f D xs _ (by simp; omega)]
    simp
theorem zip_length {α β : Type} {l : List α} {m : List β} (h : l.length = m.length) : (l.zip m).length = l.length := by simp [List.length_zip, h]
theorem map_small {α : Type} (f : α → Int) (l : List α) : (l.map f).length = l.length := List.length_map ..
theorem lt_one_add (n : Nat) : ((1 : Int) + (n : Int) < 0) = False := eq_false (by omega)
theorem lt_add2 (n m : Nat) : ((1 : Int) + (n : Int) + (m : Int) < 0) = False := eq_false (by omega)
end Go.Proofs.Ytecgobloagpicaa.Q
