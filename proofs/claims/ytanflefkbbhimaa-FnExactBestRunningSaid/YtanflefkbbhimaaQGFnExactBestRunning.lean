/- What the printed checks of lists, and the greatest absolute value, compute, told plainly. -/
import Derived.Test.YtanflefkbbhimaaQ2FnExactBestRunning
import Derived.Test.YtanflefkbbhimaaP8
namespace Go.Proofs.Ytanflefkbbhimaa.Q
open Go.RowKit Go.Proofs.YtanflefkbbhimaaW.PrintWords Go.Proofs.YtanflefkbbhimaaW.PrintLast Go.Proofs.Ytanflefkbbhimaa.P Go.Proofs.Ytanflefkbbhimaa.B
set_option linter.unusedVariables false
set_option linter.unusedSimpArgs false

/-- A list is as the document asks. -/
def ll (l : List Int) : Bool := decide (l.length ≤ 40) && allIn l (-1000000000) 1000000000
theorem ll_iff {l : List Int} : ll l = true ↔ l.length ≤ 40 ∧ ∀ x ∈ l, -1000000000 ≤ x ∧ x ≤ 1000000000 := by
  simp only [ll, Bool.and_eq_true, decide_eq_true_eq, allIn_iff]
/-- The greatest absolute value, and of a number ahead. -/
def gr : Int → List Int → Int
  | s, [] => s
  | s, x :: xs => gr (max s (x.natAbs : Int)) xs
theorem gr_run (D : Int → Option Int) : ∀ (l : List Int) (s : Int), runL (fun x s => .inl (max s (x.natAbs : Int))) D l s = D (gr s l)
  | [], s => rfl
  | x :: xs, s => by simp only [runL, gr]; exact gr_run D xs _
theorem mx_eq (a b : Int) : mx a b = max a b := by unfold mx; omega
theorem l00Max_eq (a b : Int) : spec_l00Max.f a b = some (max a b) := by
  unfold spec_l00Max.f
  split <;> congr 1 <;> omega
end Go.Proofs.Ytanflefkbbhimaa.Q
