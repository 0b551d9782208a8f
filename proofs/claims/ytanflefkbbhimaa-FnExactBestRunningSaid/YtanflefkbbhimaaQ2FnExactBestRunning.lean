/- What the printed checks of lists and values compute, told plainly. -/
import Derived.Test.YtanflefkbbhimaaQ1FnExactBestRunning
import Derived.Test.YtanflefkbbhimaaP1
import Derived.Test.YtanflefkbbhimaaP7
import Derived.Test.YtanflefkbbhimaaP9
namespace Go.Proofs.Ytanflefkbbhimaa.Q
open Go.RowKit Go.Proofs.YtanflefkbbhimaaW.PrintWords Go.Proofs.YtanflefkbbhimaaW.PrintLast Go.Proofs.Ytanflefkbbhimaa.P Go.Proofs.Ytanflefkbbhimaa.B
set_option linter.unusedVariables false
set_option linter.unusedSimpArgs false

/-- A loop that asks the same of each number. -/
theorem all_run (p : Int → Bool) (D : Unit → Option Bool) : ∀ l : List Int, runL (fun x (_ : Unit) => if p x = true then .inl () else .inr (some false)) D l () = if l.all p = true then D () else some false
  | [] => by simp [runL]
  | x :: xs => by
    simp only [runL, List.all_cons]
    by_cases h : p x = true
    · simp only [h, if_true, Bool.true_and]; exact all_run p D xs
    · simp [h]
/-- Values are as the document asks. -/
def vv (den : Int) (l : List Int) : Bool := decide (1 ≤ den ∧ den ≤ 1000) && decide (l.length ≤ 40) && allIn l (-1000000) 1000000
theorem vv_iff {den : Int} {l : List Int} : vv den l = true ↔ (1 ≤ den ∧ den ≤ 1000) ∧ l.length ≤ 40 ∧ ∀ x ∈ l, -1000000 ≤ x ∧ x ≤ 1000000 := by
  simp only [vv, Bool.and_eq_true, decide_eq_true_eq, allIn_iff, and_assoc]
theorem l01Is_eq {l : List Int} (hl : l.length ≤ 4611686018427387904) (den : Int) {k : Nat} (hk : l.length < k) : spec_l01Is.f k den l = some (vv den l) := by
  have h := loopL0 (l := l) (F := fun k i (_ : Unit) => spec_l01Is.l0 k i den l) (S := fun x _ => if decide (-1000000 ≤ x ∧ x ≤ 1000000) = true then .inl () else .inr (some false))
    (D := fun _ => some (decide (1 ≤ den ∧ den ≤ 1000) && decide (l.length ≤ 40))) hl
    (fun k s => by
      simp only [spec_l01Is.l0]; rw [if_neg (by omega), l00In_eq]
      simp only [Option.bind_some]
      by_cases c : 1 ≤ den ∧ den ≤ 1000
      · simp only [c, and_self, decide_true, if_true, Bool.true_and]
        congr 1
        exact decide_eq_decide.2 (by omega)
      · simp [c])
    (fun k n hn s => by
      simp only [spec_l01Is.l0]
      rw [if_pos (by omega), if_pos (by omega), rd_nat hn, wrap_nat (by omega), l00In_eq]
      simp only [Option.bind_some]
      split <;> simp_all) k hk ()
  unfold spec_l01Is.f
  rw [h, all_run]
  simp only [vv, allIn]
  cases l.all fun x => decide (-1000000 ≤ x ∧ x ≤ 1000000) with
  | true => simp
  | false => simp
theorem vv_max {den : Int} {l : List Int} (h : vv den l = true) : l.length ≤ 40 := (vv_iff.1 h).2.1
theorem validValues_eq {l : List Int} (hl : l.length ≤ 4611686018427387904) (den : Int) {k : Nat} (hk : l.length < k) : impl_ValidValues.f k den l = some (vv den l) := by
  unfold impl_ValidValues.f
  rw [within_eq, areWithin_eq hl _ _ hk]
  simp only [Option.bind_some, vv]
  by_cases c : 1 ≤ den ∧ den ≤ 1000
  · by_cases c2 : l.length ≤ 40
    · have c3 : (l.length : Int) ≤ 40 := by omega
      simp [c, c2, c3]
    · have c3 : ¬ (l.length : Int) ≤ 40 := by omega
      simp [c, c2, c3]
  · simp [c]
theorem szValues_eq {l : List Int} (hl : l.length ≤ 9223372036854775807) (den : Int) : ∃ r, laws_szValues.f den l 1048576 = some r ∧ (r < 0 ↔ 1048576 < l.length) := by
  unfold laws_szValues.f laws_szInt64S.f
  rw [w64 (by omega) (by omega)]
  by_cases c : (1048576 : Int) - l.length < 0
  · refine ⟨-1, ?_, by omega⟩
    rw [if_pos c]; rfl
  · refine ⟨1048576 - l.length, ?_, by omega⟩
    rw [if_neg c]
    simp only [Option.bind_some]
    rw [if_neg c]
theorem toValues_eq {l : List Int} (hl : l.length ≤ 1048576) (den : Int) {k : Nat} (hk : l.length < k) : laws_toValues.f k den l = some (den, l) := by
  unfold laws_toValues.f
  rw [toInt64S_eq hl hk]; rfl
theorem eqValues_self {l : List Int} (hl : l.length ≤ 4611686018427387904) (den : Int) {k : Nat} (hk : l.length < k) : laws_eqValues.f k den l den l = some true := by
  unfold laws_eqValues.f
  rw [if_pos rfl, eqInt64S_self hl hk]; rfl
end Go.Proofs.Ytanflefkbbhimaa.Q
