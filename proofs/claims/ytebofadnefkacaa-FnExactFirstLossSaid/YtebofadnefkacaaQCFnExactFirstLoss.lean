/- The first loss of a party by one seat more, told plainly. -/
import Derived.Test.YtebofadnefkacaaQAFnExactFirstLoss
import Derived.Test.YtebofadnefkacaaP15
import Derived.Test.YtebofadnefkacaaP17
namespace Go.Proofs.Ytebofadnefkacaa.Q
open Go.RowKit Go.Proofs.YtebofadnefkacaaW.PrintWords Go.Proofs.YtebofadnefkacaaW.PrintLast Go.Proofs.Ytebofadnefkacaa.P Go.Proofs.Ytebofadnefkacaa.B
set_option linter.unusedVariables false
set_option linter.unusedSimpArgs false

/-- The first party that has fewer seats. -/
def dropAt (now nxt : List Int) : Nat → Nat → Option Nat
  | 0, _ => none
  | d + 1, i => if rd nxt (i : Int) < rd now (i : Int) then some i else dropAt now nxt d (i + 1)
noncomputable def lossFrom (votes : List Int) : Nat → Nat → Int × Int × Bool
  | 0, _ => (0, 0, false)
  | d + 1, s => match dropAt (rsd votes (s : Int)) (rsd votes ((s + 1 : Nat) : Int)) votes.length 0 with
    | some i => ((s : Int), (i : Int), true)
    | none => lossFrom votes d (s + 1)
theorem dropAt_some {now nxt : List Int} : ∀ (d i j : Nat), dropAt now nxt d i = some j → i ≤ j ∧ j < i + d ∧ rd nxt (j : Int) < rd now (j : Int)
  | 0, _, _, h => by cases h
  | d + 1, i, j, h => by
    unfold dropAt at h
    by_cases c : rd nxt (i : Int) < rd now (i : Int)
    · rw [if_pos c] at h
      injection h with h
      subst h
      exact ⟨Nat.le_refl _, by omega, c⟩
    · rw [if_neg c] at h
      have := dropAt_some d (i + 1) j h
      exact ⟨by omega, by omega, this.2.2⟩
theorem dropAt_none {now nxt : List Int} : ∀ (d i : Nat), dropAt now nxt d i = none → ∀ j : Nat, i ≤ j → j < i + d → ¬ rd nxt (j : Int) < rd now (j : Int)
  | 0, _, _, j, h1, h2 => by omega
  | d + 1, i, h, j, h1, h2 => by
    unfold dropAt at h
    by_cases c : rd nxt (i : Int) < rd now (i : Int)
    · rw [if_pos c] at h; cases h
    · rw [if_neg c] at h
      rcases Nat.lt_or_ge i j with h3 | h3
      · exact dropAt_none d (i + 1) h j h3 (by omega)
      · rw [show j = i by omega]; exact c
theorem implDrop {votes now nxt : List Int} (hl : nxt.length = now.length) (hb : now.length ≤ 1000) (s : Int) : ∀ d i k, now.length - i = d → i ≤ now.length → d < k →
    impl_FirstLoss.l1 k votes s nxt s now (now.length : Int) (i : Int) = match dropAt now nxt d i with
      | some j => some (s, (j : Int), true)
      | none => impl_FirstLoss.l0 (k - d - 1) votes (wrap64 (s + 1)) := by
  intro d
  induction d with
  | zero =>
    intro i k hd hi hk
    obtain ⟨k, rfl, _⟩ := succ_of_lt hk
    simp only [impl_FirstLoss.l1, dropAt]
    rw [if_neg (by omega)]
    rfl
  | succ d ih =>
    intro i k hd hi hk
    obtain ⟨k, rfl, _⟩ := succ_of_lt hk
    simp only [impl_FirstLoss.l1, dropAt]
    rw [if_pos (by omega), if_pos (by omega), if_pos (by omega), if_pos (by omega), wrap_nat (by omega)]
    by_cases c : rd nxt (i : Int) < rd now (i : Int)
    · rw [if_pos c, if_pos c]
    · rw [if_neg c, if_neg c, ih (i + 1) k (by omega) (by omega) (by omega), show k + 1 - (d + 1) - 1 = k - d - 1 by omega]
theorem specDrop {votes now nxt : List Int} (hl : nxt.length = now.length) (hv : votes.length = now.length) (hb : now.length ≤ 1000) (s : Int) : ∀ d i k, now.length - i = d → i ≤ now.length → d < k →
    spec_FirstLoss.l1 k votes now s nxt (i : Int) = match dropAt now nxt d i with
      | some j => some (s, (j : Int), true)
      | none => spec_FirstLoss.l0 (k - d - 1) votes nxt (wrap64 (s + 1)) := by
  intro d
  induction d with
  | zero =>
    intro i k hd hi hk
    obtain ⟨k, rfl, _⟩ := succ_of_lt hk
    simp only [spec_FirstLoss.l1, dropAt]
    rw [if_neg (by omega)]
    rfl
  | succ d ih =>
    intro i k hd hi hk
    obtain ⟨k, rfl, _⟩ := succ_of_lt hk
    simp only [spec_FirstLoss.l1, dropAt]
    rw [if_pos (by omega), if_pos (by omega), if_pos (by omega), if_pos (by omega), wrap_nat (by omega)]
    by_cases c : rd nxt (i : Int) < rd now (i : Int)
    · rw [if_pos c, if_pos c]
    · rw [if_neg c, if_neg c, ih (i + 1) k (by omega) (by omega) (by omega), show k + 1 - (d + 1) - 1 = k - d - 1 by omega]
theorem implLoss {votes : List Int} (h : vt votes = true) : ∀ d s k : Nat, 100 - s = d → s ≤ 100 → 20 * d + 450 < k → impl_FirstLoss.l0 k votes (s : Int) = some (lossFrom votes d s) := by
  have hv := vt_iff.1 h
  intro d
  induction d with
  | zero =>
    intro s k hd hs hk
    obtain ⟨k, rfl, _⟩ := succ_of_lt hk
    simp only [impl_FirstLoss.l0, lossFrom]
    rw [if_neg (by omega)]
  | succ d ih =>
    intro s k hd hs hk
    obtain ⟨k, rfl, _⟩ := succ_of_lt hk
    simp only [impl_FirstLoss.l0, lossFrom]
    rw [if_pos (by omega), (byRests_eq h (s := (s : Int)) (by omega) (by omega)).1, Option.bind_some, wrap_nat (by omega), (byRests_eq h (s := ((s + 1 : Nat) : Int)) (by omega) (by omega)).1, Option.bind_some]
    have e := implDrop (votes := votes) (now := rsd votes (s : Int)) (nxt := rsd votes ((s + 1 : Nat) : Int)) (by rw [rsd_length, rsd_length]) (by rw [rsd_length]; omega) (s : Int) votes.length 0 k (by rw [rsd_length]; omega) (by omega) (by omega)
    refine e.trans ?_
    cases dropAt (rsd votes (s : Int)) (rsd votes ((s + 1 : Nat) : Int)) votes.length 0 with
    | some j => rfl
    | none =>
      simp only
      rw [wrap_nat (by omega)]
      exact ih (s + 1) _ (by omega) (by omega) (by omega)
theorem specLoss {votes : List Int} (h : vt votes = true) : ∀ d s k : Nat, 100 - s = d → s ≤ 100 → 20 * d + 450 < k → spec_FirstLoss.l0 k votes (rsd votes (s : Int)) (s : Int) = some (lossFrom votes d s) := by
  have hv := vt_iff.1 h
  intro d
  induction d with
  | zero =>
    intro s k hd hs hk
    obtain ⟨k, rfl, _⟩ := succ_of_lt hk
    simp only [spec_FirstLoss.l0, lossFrom]
    rw [if_neg (by omega)]
  | succ d ih =>
    intro s k hd hs hk
    obtain ⟨k, rfl, _⟩ := succ_of_lt hk
    simp only [spec_FirstLoss.l0, lossFrom]
    rw [if_pos (by omega), wrap_nat (by omega), l02Remainders_eq h (s := ((s + 1 : Nat) : Int)) (by omega) (by omega), Option.bind_some]
    have e := specDrop (votes := votes) (now := rsd votes (s : Int)) (nxt := rsd votes ((s + 1 : Nat) : Int)) (by rw [rsd_length, rsd_length]) (by rw [rsd_length]) (by rw [rsd_length]; omega) (s : Int) votes.length 0 k (by rw [rsd_length]; omega) (by omega) (by omega)
    refine e.trans ?_
    cases dropAt (rsd votes (s : Int)) (rsd votes ((s + 1 : Nat) : Int)) votes.length 0 with
    | some j => rfl
    | none =>
      simp only
      rw [wrap_nat (by omega)]
      exact ih (s + 1) _ (by omega) (by omega) (by omega)
noncomputable def FirstLoss_res (votes : List Int) : Int × Int × Bool := if vt votes = true then lossFrom votes 100 0 else (0, 0, false)
theorem FirstLoss_impl' {votes : List Int} (hl : votes.length ≤ 1048576) {k : Nat} (hk : votes.length + 2500 < k) : impl_FirstLoss.f k votes = some (FirstLoss_res votes) := by
  unfold impl_FirstLoss.f FirstLoss_res
  rw [validVotes_eq (by omega) (by omega), Option.bind_some]
  by_cases h : vt votes = true
  · rw [if_pos h, if_pos h]
    exact implLoss h 100 0 k rfl (by omega) (by omega)
  · rw [if_neg h, if_neg h]
theorem FirstLoss_impl {votes : List Int} (_ : ∀ x ∈ votes, i64 x) (hl : votes.length ≤ 1048576) {k : Nat} (hk : votes.length + 3000 < k) : impl_FirstLoss.f k votes = some (FirstLoss_res votes) := FirstLoss_impl' hl (by omega)
theorem FirstLoss_spec {votes : List Int} (_ : ∀ x ∈ votes, i64 x) (hl : votes.length ≤ 1048576) {k : Nat} (hk : votes.length + 3000 < k) : spec_FirstLoss.f k votes = some (FirstLoss_res votes) := by
  unfold spec_FirstLoss.f FirstLoss_res
  rw [l02Is_eq (by omega) (by omega), Option.bind_some]
  by_cases h : vt votes = true
  · rw [if_pos h, if_pos h, l02Remainders_eq h (by omega) (by omega), Option.bind_some]
    exact specLoss h 100 0 k rfl (by omega) (by omega)
  · rw [if_neg h, if_neg h]
/-- What a first loss is. -/
theorem lossFrom_is {votes : List Int} : ∀ (d s : Nat), s + d = 100 →
    (∃ a i : Nat, lossFrom votes d s = ((a : Int), (i : Int), true) ∧ s ≤ a ∧ a < 100 ∧ i < votes.length ∧ rd (rsd votes ((a + 1 : Nat) : Int)) (i : Int) < rd (rsd votes (a : Int)) (i : Int) ∧ ∀ b i : Nat, s ≤ b → b < a → i < votes.length → ¬ rd (rsd votes ((b + 1 : Nat) : Int)) (i : Int) < rd (rsd votes (b : Int)) (i : Int)) ∨
    (lossFrom votes d s = (0, 0, false) ∧ ∀ b i : Nat, s ≤ b → b < 100 → i < votes.length → ¬ rd (rsd votes ((b + 1 : Nat) : Int)) (i : Int) < rd (rsd votes (b : Int)) (i : Int))
  | 0, s, h => .inr ⟨rfl, fun b i h1 h2 => by omega⟩
  | d + 1, s, h => by
    have e : lossFrom votes (d + 1) s = match dropAt (rsd votes (s : Int)) (rsd votes ((s + 1 : Nat) : Int)) votes.length 0 with
      | some i => ((s : Int), (i : Int), true)
      | none => lossFrom votes d (s + 1) := rfl
    cases hd : dropAt (rsd votes (s : Int)) (rsd votes ((s + 1 : Nat) : Int)) votes.length 0 with
    | some i =>
      rw [hd] at e
      have := dropAt_some _ _ _ hd
      exact .inl ⟨s, i, e, Nat.le_refl _, by omega, by omega, this.2.2, fun b i h1 h2 => by omega⟩
    | none =>
      rw [hd] at e
      have hn := dropAt_none _ _ hd
      simp only at e
      rw [e]
      rcases lossFrom_is (votes := votes) d (s + 1) (by omega) with ⟨a, i, h1, h2, h3, h4, h5, h6⟩ | ⟨h1, h2⟩
      · refine .inl ⟨a, i, h1, by omega, h3, h4, h5, fun b j hb1 hb2 hj => ?_⟩
        rcases Nat.lt_or_ge s b with h7 | h7
        · exact h6 b j h7 hb2 hj
        · rw [show b = s by omega]; exact hn j (by omega) (by omega)
      · refine .inr ⟨h1, fun b j hb1 hb2 hj => ?_⟩
        rcases Nat.lt_or_ge s b with h7 | h7
        · exact h2 b j h7 hb2 hj
        · rw [show b = s by omega]; exact hn j (by omega) (by omega)
end Go.Proofs.Ytebofadnefkacaa.Q
