/- What the printed checks of lists, and the greatest absolute value, compute, told plainly. -/
import Derived.Test.YtbbnmfkaahajlaaQ2FnConstant
import Derived.Test.YtbbnmfkaahajlaaP1
namespace Go.Proofs.Ytbbnmfkaahajlaa.Q
open Go.RowKit Go.Proofs.YtbbnmfkaahajlaaW.PrintWords Go.Proofs.YtbbnmfkaahajlaaW.PrintLast Go.Proofs.Ytbbnmfkaahajlaa.P Go.Proofs.Ytbbnmfkaahajlaa.B
set_option linter.unusedVariables false
set_option linter.unusedSimpArgs false

/-- A list is as the document asks. -/
def ll (l : List Int) : Bool := decide (l.length ≤ 40) && allIn l (-1000000000) 1000000000
theorem ll_iff {l : List Int} : ll l = true ↔ l.length ≤ 40 ∧ ∀ x ∈ l, -1000000000 ≤ x ∧ x ≤ 1000000000 := by
  simp only [ll, Bool.and_eq_true, decide_eq_true_eq, allIn_iff]
theorem isList_eq {l : List Int} (hl : l.length ≤ 4611686018427387904) {k : Nat} (hk : l.length < k) : impl_isList.f k l = some (ll l) := by
  unfold impl_isList.f
  rw [areWithin_eq hl _ _ hk]
  simp only [Option.bind_some, ll]
  by_cases c2 : l.length ≤ 40
  · have c3 : (l.length : Int) ≤ 40 := by omega
    simp [c2, c3]
  · have c3 : ¬ (l.length : Int) ≤ 40 := by omega
    simp [c2, c3]
/-- The greatest absolute value, and of a number ahead. -/
def gr : Int → List Int → Int
  | s, [] => s
  | s, x :: xs => gr (max s (x.natAbs : Int)) xs
theorem gr_run (D : Int → Option Int) : ∀ (l : List Int) (s : Int), runL (fun x s => .inl (max s (x.natAbs : Int))) D l s = D (gr s l)
  | [], s => rfl
  | x :: xs, s => by simp only [runL, gr]; exact gr_run D xs _
theorem mx_eq (a b : Int) : mx a b = max a b := by unfold mx; omega
end Go.Proofs.Ytbbnmfkaahajlaa.Q
