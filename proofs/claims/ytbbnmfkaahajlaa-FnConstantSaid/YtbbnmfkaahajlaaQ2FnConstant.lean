/- What the printed checks of lists and values compute, told plainly. -/
import Derived.Test.YtbbnmfkaahajlaaQ1FnConstant
import Derived.Test.YtbbnmfkaahajlaaP2
namespace Go.Proofs.Ytbbnmfkaahajlaa.Q
open Go.RowKit Go.Proofs.YtbbnmfkaahajlaaW.PrintWords Go.Proofs.YtbbnmfkaahajlaaW.PrintLast Go.Proofs.Ytbbnmfkaahajlaa.P Go.Proofs.Ytbbnmfkaahajlaa.B
set_option linter.unusedVariables false
set_option linter.unusedSimpArgs false

/-- A loop that asks the same of each number. -/
theorem all_run (p : Int → Bool) (D : Unit → Option Bool) : ∀ l : List Int, runL (fun x (_ : Unit) => if p x = true then .inl () else .inr (some false)) D l () = if l.all p = true then D () else some false
  | [] => by simp [runL]
  | x :: xs => by
    simp only [runL, List.all_cons]
    by_cases h : p x = true
    · simp only [h, if_true, Bool.true_and]; exact all_run p D xs
    · simp [h]
/-- Values are as the document asks. -/
def vv (den : Int) (l : List Int) : Bool := decide (1 ≤ den ∧ den ≤ 1000) && decide (l.length ≤ 40) && allIn l (-1000000) 1000000
theorem vv_iff {den : Int} {l : List Int} : vv den l = true ↔ (1 ≤ den ∧ den ≤ 1000) ∧ l.length ≤ 40 ∧ ∀ x ∈ l, -1000000 ≤ x ∧ x ≤ 1000000 := by
  simp only [vv, Bool.and_eq_true, decide_eq_true_eq, allIn_iff, and_assoc]
theorem vv_max {den : Int} {l : List Int} (h : vv den l = true) : l.length ≤ 40 := (vv_iff.1 h).2.1
theorem validValues_eq {l : List Int} (hl : l.length ≤ 4611686018427387904) (den : Int) {k : Nat} (hk : l.length < k) : impl_ValidValues.f k den l = some (vv den l) := by
  unfold impl_ValidValues.f
  rw [within_eq, areWithin_eq hl _ _ hk]
  simp only [Option.bind_some, vv]
  by_cases c : 1 ≤ den ∧ den ≤ 1000
  · by_cases c2 : l.length ≤ 40
    · have c3 : (l.length : Int) ≤ 40 := by omega
      simp [c, c2, c3]
    · have c3 : ¬ (l.length : Int) ≤ 40 := by omega
      simp [c, c2, c3]
  · simp [c]
end Go.Proofs.Ytbbnmfkaahajlaa.Q
