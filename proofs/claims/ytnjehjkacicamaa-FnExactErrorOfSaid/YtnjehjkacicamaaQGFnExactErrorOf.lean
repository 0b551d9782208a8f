/- What the printed checks of lists, and the greatest absolute value, compute, told plainly. -/
import Derived.Test.YtnjehjkacicamaaQ2FnExactErrorOf
import Derived.Test.YtnjehjkacicamaaP26xFnExactErrorOf
import Derived.Test.YtnjehjkacicamaaP29xFnExactErrorOf
namespace Go.Proofs.Ytnjehjkacicamaa.Q
open Go.RowKit Go.Proofs.YtnjehjkacicamaaW.PrintWords Go.Proofs.YtnjehjkacicamaaW.PrintLast Go.Proofs.Ytnjehjkacicamaa.P Go.Proofs.Ytnjehjkacicamaa.B
set_option linter.unusedVariables false
set_option linter.unusedSimpArgs false

/-- A list is as the document asks. -/
def ll (l : List Int) : Bool := decide (l.length ≤ 40) && allIn l (-1000000000) 1000000000
theorem ll_iff {l : List Int} : ll l = true ↔ l.length ≤ 40 ∧ ∀ x ∈ l, -1000000000 ≤ x ∧ x ≤ 1000000000 := by
  simp only [ll, Bool.and_eq_true, decide_eq_true_eq, allIn_iff]
/-- The greatest absolute value, and of a number ahead. -/
def gr : Int → List Int → Int
  | s, [] => s
  | s, x :: xs => gr (max s (x.natAbs : Int)) xs
theorem gr_run (D : Int → Option Int) : ∀ (l : List Int) (s : Int), runL (fun x s => .inl (max s (x.natAbs : Int))) D l s = D (gr s l)
  | [], s => rfl
  | x :: xs, s => by simp only [runL, gr]; exact gr_run D xs _
theorem mx_eq (a b : Int) : mx a b = max a b := by unfold mx; omega
theorem greatest_eq {l : List Int} (hl : l.length ≤ 4611686018427387904) (h : ∀ x ∈ l, -4611686018427387904 ≤ x ∧ x ≤ 4611686018427387904) {k : Nat} (hk : l.length < k) : impl_greatest.f k l = some (gr 0 l) := by
  have h1 := loopL0 (l := l) (F := fun k i s => impl_greatest.l0 k s l (l.length : Int) i) (S := fun x s => .inl (max s (x.natAbs : Int))) (D := fun s => some s) hl
    (fun k s => by simp only [impl_greatest.l0]; rw [if_neg (by omega)])
    (fun k n hn s => by
      have hx := h _ (List.getElem_mem hn)
      simp only [impl_greatest.l0]
      rw [if_pos (by omega), if_pos (by omega), if_pos (by omega), rd_nat hn, wrap_nat (by omega), w64 (by omega) (by omega), mx_eq, mx_eq, show max (max s l[n]) (-l[n]) = max s (l[n].natAbs : Int) by omega]) k hk 0
  unfold impl_greatest.f
  rw [h1, gr_run]
theorem l00Max_eq (a b : Int) : spec_l00Max.f a b = some (max a b) := by
  unfold spec_l00Max.f
  split <;> congr 1 <;> omega
end Go.Proofs.Ytnjehjkacicamaa.Q
