import Derived.Test.YtanflefkbbhimaaXQ2FnRunning
import Derived.Test.YtanflefkbbhimaaXP8FnRunning
namespace Go.Proofs.Ytanflefkbbhimaa.Q
open Go.RowKit Go.Proofs.YtanflefkbbhimaaW.PrintWords Go.Proofs.YtanflefkbbhimaaW.PrintLast Go.Proofs.Ytanflefkbbhimaa.P Go.Proofs.Ytanflefkbbhimaa.B
set_option linter.unusedVariables false
set_option linter.unusedSimpArgs false
def ll (l : List Int) : Bool := decide (l.length ≤ 40) && allIn l (-1000000000) 1000000000
theorem ll_iff {l : List Int} : ll l = true ↔ l.length ≤ 40 ∧ ∀ x ∈ l, -1000000000 ≤ x ∧ x ≤ 1000000000 := by
  simp only [ll, Bool.and_eq_true, decide_eq_true_eq, allIn_iff]
theorem l01List_eq {l : List Int} (hl : l.length ≤ 4611686018427387904) {k : Nat} (hk : l.length < k) : spec_l01List.f k l = some (ll l) := by
  have h := loopL0 (l := l) (F := fun k i (_ : Unit) => spec_l01List.l0 k l i) (S := fun x _ => if decide (-1000000000 ≤ x ∧ x ≤ 1000000000) = true then .inl () else .inr (some false))
    (D := fun _ => some (decide (l.length ≤ 40))) hl
    (fun k s => by
      simp only [spec_l01List.l0]; rw [if_neg (by omega)]
      congr 1
      exact decide_eq_decide.2 (by omega))
    (fun k n hn s => by
      simp only [spec_l01List.l0]
      rw [if_pos (by omega), if_pos (by omega), rd_nat hn, wrap_nat (by omega), l00In_eq]
      simp only [Option.bind_some]
      split <;> simp_all) k hk ()
  unfold spec_l01List.f
  rw [h, all_run]
  simp only [ll, allIn]
  cases l.all fun x => decide (-1000000000 ≤ x ∧ x ≤ 1000000000) with
  | true => simp
  | false => simp
def gr : Int → List Int → Int
  | s, [] => s
  | s, x :: xs => gr (max s (x.natAbs : Int)) xs
theorem l00Max_eq (a b : Int) : spec_l00Max.f a b = some (max a b) := by
  unfold spec_l00Max.f
  split <;> congr 1 <;> omega
end Go.Proofs.Ytanflefkbbhimaa.Q
