import Derived.Test.YtanflefkbbhimaaXQ2FnRunning
namespace Go.Proofs.Ytanflefkbbhimaa.Q
open Go.RowKit Go.Proofs.YtanflefkbbhimaaW.PrintWords Go.Proofs.YtanflefkbbhimaaW.PrintLast Go.Proofs.Ytanflefkbbhimaa.P Go.Proofs.Ytanflefkbbhimaa.B
set_option linter.unusedVariables false
set_option linter.unusedSimpArgs false
def ap {α ρ : Type} (f : α → Int) (x : α) (acc : List Int) : List Int ⊕ Option ρ := if acc.length < 17592186044416 then .inl (acc ++ [f x]) else .inr none
theorem ap_run {α ρ : Type} (f : α → Int) (D : List Int → Option ρ) : ∀ (l : List α) (acc : List Int), acc.length + l.length ≤ 17592186044416 → runL (ap f) D l acc = D (acc ++ l.map f)
  | [], acc, _ => by simp [runL]
  | x :: xs, acc, h => by
    rw [List.length_cons] at h
    simp only [runL, ap]
    rw [if_pos (by omega)]
    simp only
    rw [ap_run f D xs _ (by simp; omega)]
    simp
end Go.Proofs.Ytanflefkbbhimaa.Q
