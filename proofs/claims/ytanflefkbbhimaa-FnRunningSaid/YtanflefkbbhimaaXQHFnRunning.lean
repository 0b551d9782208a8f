import Derived.Test.YtanflefkbbhimaaXQ1FnRunning
import Derived.Laws.Bits64
import Derived.Test.YtanflefkbbhimaaXP1FnRunning
import Derived.Test.YtanflefkbbhimaaXP2FnRunning
import Derived.Test.YtanflefkbbhimaaXP8FnRunning
namespace Go.Proofs.Ytanflefkbbhimaa.Q
open Go.RowKit Go.Proofs.YtanflefkbbhimaaW.PrintWords Go.Proofs.YtanflefkbbhimaaW.PrintLast Go.Proofs.Ytanflefkbbhimaa.P Go.Proofs.Ytanflefkbbhimaa.B
set_option linter.unusedVariables false
set_option linter.unusedSimpArgs false
abbrev by8 (l : List Int) : Prop := ∀ x ∈ l, 0 ≤ x ∧ x ≤ 255
theorem and255 {x : Int} (h : 0 ≤ x) (h2 : x < 18446744073709551616) : Go.bits .and .u64 x 255 = x % 256 :=
  bits_mask .u64 64 (by decide) (fun n h₀ h₁ => by rw [IntKind.wrap_u64]; omega) 8 (by decide) x h h2
theorem top_byte (z : Int) : 0 ≤ wrap64 (Go.bits .and .u64 (IntKind.u64.wrap z / 1099511627776) 255) ∧ wrap64 (Go.bits .and .u64 (IntKind.u64.wrap z / 1099511627776) 255) ≤ 255 := by
  have h : 0 ≤ IntKind.u64.wrap z ∧ IntKind.u64.wrap z < 18446744073709551616 := by rw [IntKind.wrap_u64]; omega
  generalize IntKind.u64.wrap z = y at h ⊢
  rw [and255 (by omega) (by omega), w64 (by omega) (by omega)]
  omega
theorem next_ok {l : List Int} {at' seed : Int} (hl : by8 l) (h : 0 ≤ at' ∧ at' ≤ 1000000000000000000) : ∃ x s, spec_l00Src_next.f l at' seed = some (x, at' + 1, s) ∧ 0 ≤ x ∧ x ≤ 255 := by
  obtain ⟨n, rfl⟩ : ∃ n : Nat, at' = n := ⟨at'.toNat, by omega⟩
  unfold spec_l00Src_next.f
  rw [w64 (x := (n : Int) + 1) (by omega) (by omega)]
  by_cases c : (n : Int) < (l.length : Int)
  · rw [if_pos c, if_pos (by omega), if_pos (by omega)]
    have hx := hl _ (rd_mem (l := l) (n := n) (by omega))
    exact ⟨_, _, rfl, by rw [w64 (by omega) (by omega)]; omega, by rw [w64 (by omega) (by omega)]; omega⟩
  · rw [if_neg c, if_neg (by omega)]
    exact ⟨_, _, rfl, top_byte _⟩
theorem pick_ok {l : List Int} {at' seed n : Int} (hl : by8 l) (h : 0 ≤ at' ∧ at' ≤ 100000000000000000) (hn : n ≤ 60000) : ∃ x a s, spec_l00Src_pick.f l at' seed n = some (x, a, s) ∧ (0 ≤ x ∧ (x < n ∨ x = 0)) ∧ at' ≤ a ∧ a ≤ at' + 2 := by
  unfold spec_l00Src_pick.f
  by_cases c : n ≤ 1
  · rw [if_pos c]; exact ⟨0, at', seed, rfl, by omega, by omega, by omega⟩
  · obtain ⟨x, s, e, hx⟩ := next_ok (seed := seed) hl (show 0 ≤ at' ∧ at' ≤ 1000000000000000000 by omega)
    rw [if_neg c, e, Option.bind_some]
    by_cases c2 : n > 200
    · obtain ⟨y, s2, e2, hy⟩ := next_ok (seed := s) hl (show 0 ≤ at' + 1 ∧ at' + 1 ≤ 1000000000000000000 by omega)
      rw [if_pos c2, e2, Option.bind_some, if_neg (by omega), w64 (x := x * 256) (by omega) (by omega), w64 (x := x * 256 + y) (by omega) (by omega), Int.tmod_eq_emod_of_nonneg (by omega)]
      exact ⟨_, _, _, rfl, ⟨Int.emod_nonneg _ (by omega), .inl (Int.emod_lt_of_pos _ (by omega))⟩, by simp only; omega, by simp only; omega⟩
    · rw [if_neg c2, if_neg (by omega), Int.tmod_eq_emod_of_nonneg (by omega)]
      exact ⟨_, _, _, rfl, ⟨Int.emod_nonneg _ (by omega), .inl (Int.emod_lt_of_pos _ (by omega))⟩, by simp only; omega, by simp only; omega⟩
theorem b10Long_ok (l m : List Int) : ∃ b, laws_b10Long.f l m = some b := by
  unfold laws_b10Long.f
  split
  · exact ⟨_, rfl⟩
  · exact ⟨_, rfl⟩
end Go.Proofs.Ytanflefkbbhimaa.Q
