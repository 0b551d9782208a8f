/- What the printed helpers of the laws compute, told plainly. -/
import Derived.Test.YtgkgkaphdfhcnaaQ1
import Derived.Test.YtgkgkaphdfhcnaaP5
namespace Go.Proofs.Ytgkgkaphdfhcnaa.Q
open Go.RowKit Go.Proofs.YtgkgkaphdfhcnaaW.PrintWords Go.Proofs.YtgkgkaphdfhcnaaW.PrintLast Go.Proofs.Ytgkgkaphdfhcnaa.P Go.Proofs.Ytgkgkaphdfhcnaa.B
set_option linter.unusedVariables false
set_option linter.unusedSimpArgs false

theorem b10Abs_eq {a : Int} (h : -4611686018427387904 ≤ a) (h2 : a ≤ 4611686018427387904) : laws_b10Abs.f a = some (a.natAbs : Int) := by
  unfold laws_b10Abs.f
  split
  · rw [w64 (by omega) (by omega)]; congr 1; omega
  · congr 1; omega
theorem b10Long_eq (a b : List Int) : laws_b10Long.f a b = some (decide (1048576 < a.length ∨ 1048576 < b.length)) := by
  unfold laws_b10Long.f
  by_cases h : (a.length : Int) > 1048576
  · rw [if_pos h]
    have : 1048576 < a.length := by omega
    simp [this]
  · rw [if_neg h]
    congr 1
    exact decide_eq_decide.2 (by omega)
theorem tmod_lt {x n : Int} (h0 : 0 ≤ x) (hn : 1 ≤ n) : 0 ≤ Int.tmod x n ∧ Int.tmod x n < n := by
  rw [tmod_pos hn, if_pos (.inl h0)]
  have := Int.emod_nonneg x (show n ≠ 0 by omega)
  have := Int.emod_lt_of_pos x (show 0 < n by omega)
  omega
theorem b10At_ok {l : List Int} (hl : ∀ x ∈ l, 0 ≤ x ∧ x ≤ 255) {i n : Int} (h0 : 0 ≤ i) (h1 : i ≤ 1000000) (hn : 1 ≤ n) : ∃ r, laws_b10At.f l i n = some r ∧ 0 ≤ r ∧ r < n := by
  unfold laws_b10At.f
  by_cases c : n ≤ 1
  · rw [if_pos c]; exact ⟨0, rfl, by omega, by omega⟩
  rw [if_neg c]
  by_cases c2 : i < (l.length : Int)
  · rw [if_pos c2, if_pos h0, if_neg (by omega)]
    obtain ⟨m, rfl⟩ := Int.eq_ofNat_of_zero_le h0
    have hm : m < l.length := by omega
    have hx := hl _ (rd_mem hm)
    have ht := tmod_lt (x := rd l (m : Int)) hx.1 hn
    rw [w64 (by omega) (by omega)]
    exact ⟨_, rfl, ht.1, ht.2⟩
  · rw [if_neg c2, if_neg (by omega), w64 (x := i * 37) (by omega) (by omega), w64 (by omega) (by omega)]
    have ht := tmod_lt (x := i * 37 + 11) (by omega) hn
    exact ⟨_, rfl, ht.1, ht.2⟩
end Go.Proofs.Ytgkgkaphdfhcnaa.Q
