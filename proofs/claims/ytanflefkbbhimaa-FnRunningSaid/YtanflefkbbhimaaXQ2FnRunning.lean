import Derived.Test.YtanflefkbbhimaaXQ1FnRunning
import Derived.Test.YtanflefkbbhimaaXP1FnRunning
import Derived.Test.YtanflefkbbhimaaXP7FnRunning
namespace Go.Proofs.Ytanflefkbbhimaa.Q
open Go.RowKit Go.Proofs.YtanflefkbbhimaaW.PrintWords Go.Proofs.YtanflefkbbhimaaW.PrintLast Go.Proofs.Ytanflefkbbhimaa.P Go.Proofs.Ytanflefkbbhimaa.B
set_option linter.unusedVariables false
set_option linter.unusedSimpArgs false
theorem all_run (p : Int → Bool) (D : Unit → Option Bool) : ∀ l : List Int, runL (fun x (_ : Unit) => if p x = true then .inl () else .inr (some false)) D l () = if l.all p = true then D () else some false
  | [] => by simp [runL]
  | x :: xs => by
    simp only [runL, List.all_cons]
    by_cases h : p x = true
    · simp only [h, if_true, Bool.true_and]; exact all_run p D xs
    · simp [h]
def vv (den : Int) (l : List Int) : Bool := decide (1 ≤ den ∧ den ≤ 1000) && decide (l.length ≤ 40) && allIn l (-1000000) 1000000
theorem vv_iff {den : Int} {l : List Int} : vv den l = true ↔ (1 ≤ den ∧ den ≤ 1000) ∧ l.length ≤ 40 ∧ ∀ x ∈ l, -1000000 ≤ x ∧ x ≤ 1000000 := by
  simp only [vv, Bool.and_eq_true, decide_eq_true_eq, allIn_iff, and_assoc]
theorem l01Is_eq {l : List Int} (hl : l.length ≤ 4611686018427387904) (den : Int) {k : Nat} (hk : l.length < k) : spec_l01Is.f k den l = some (vv den l) := by
  have h := loopL0 (l := l) (F := fun k i (_ : Unit) => spec_l01Is.l0 k i den l) (S := fun x _ => if decide (-1000000 ≤ x ∧ x ≤ 1000000) = true then .inl () else .inr (some false))
    (D := fun _ => some (decide (1 ≤ den ∧ den ≤ 1000) && decide (l.length ≤ 40))) hl
    (fun k s => by
      simp only [spec_l01Is.l0]; rw [if_neg (by omega), l00In_eq]
      simp only [Option.bind_some]
      by_cases c : 1 ≤ den ∧ den ≤ 1000
      · simp only [c, and_self, decide_true, if_true, Bool.true_and]
        congr 1
        exact decide_eq_decide.2 (by omega)
      · simp [c])
    (fun k n hn s => by
      simp only [spec_l01Is.l0]
      rw [if_pos (by omega), if_pos (by omega), rd_nat hn, wrap_nat (by omega), l00In_eq]
      simp only [Option.bind_some]
      split <;> simp_all) k hk ()
  unfold spec_l01Is.f
  rw [h, all_run]
  simp only [vv, allIn]
  cases l.all fun x => decide (-1000000 ≤ x ∧ x ≤ 1000000) with
  | true => simp
  | false => simp
theorem validValues_eq {l : List Int} (hl : l.length ≤ 4611686018427387904) (den : Int) {k : Nat} (hk : l.length < k) : Za0.f k den l = some (vv den l) := by
  unfold Za0.f
  rw [within_eq, areWithin_eq hl _ _ hk]
  simp only [Option.bind_some, vv]
  by_cases c : 1 ≤ den ∧ den ≤ 1000
  · by_cases c2 : l.length ≤ 40
    · have c3 : (l.length : Int) ≤ 40 := by omega
      simp [c, c2, c3]
    · have c3 : ¬ (l.length : Int) ≤ 40 := by omega
      simp [c, c2, c3]
  · simp [c]
end Go.Proofs.Ytanflefkbbhimaa.Q
