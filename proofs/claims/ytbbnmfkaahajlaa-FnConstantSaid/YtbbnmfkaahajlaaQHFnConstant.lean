/- What the laws with B10 draw of their bytes. -/
import Derived.Test.YtbbnmfkaahajlaaQ1FnConstant
import Derived.Laws.Bits64
import Derived.Test.YtbbnmfkaahajlaaP1
namespace Go.Proofs.Ytbbnmfkaahajlaa.Q
open Go.RowKit Go.Proofs.YtbbnmfkaahajlaaW.PrintWords Go.Proofs.YtbbnmfkaahajlaaW.PrintLast Go.Proofs.Ytbbnmfkaahajlaa.P Go.Proofs.Ytbbnmfkaahajlaa.B
set_option linter.unusedVariables false
set_option linter.unusedSimpArgs false

/-- Bytes. -/
abbrev by8 (l : List Int) : Prop := ∀ x ∈ l, 0 ≤ x ∧ x ≤ 255
theorem and255 {x : Int} (h : 0 ≤ x) (h2 : x < 18446744073709551616) : Go.bits .and .u64 x 255 = x % 256 :=
  bits_mask .u64 64 (by decide) (fun n h₀ h₁ => by rw [IntKind.wrap_u64]; omega) 8 (by decide) x h h2
theorem top_byte (z : Int) : 0 ≤ wrap64 (Go.bits .and .u64 (IntKind.u64.wrap z / 1099511627776) 255) ∧ wrap64 (Go.bits .and .u64 (IntKind.u64.wrap z / 1099511627776) 255) ≤ 255 := by
  have h : 0 ≤ IntKind.u64.wrap z ∧ IntKind.u64.wrap z < 18446744073709551616 := by rw [IntKind.wrap_u64]; omega
  generalize IntKind.u64.wrap z = y at h ⊢
  rw [and255 (by omega) (by omega), w64 (by omega) (by omega)]
  omega
theorem b10At_ok {l : List Int} {i n : Int} (hl : by8 l) (hi : 0 ≤ i ∧ i ≤ 1000000) : ∃ x, laws_b10At.f l i n = some x ∧ 0 ≤ x ∧ (x < n ∨ x = 0) := by
  unfold laws_b10At.f
  by_cases c : n ≤ 1
  · rw [if_pos c]; exact ⟨0, rfl, by omega, .inr rfl⟩
  · rw [if_neg c]
    by_cases c2 : i < (l.length : Int)
    · obtain ⟨j, rfl⟩ : ∃ j : Nat, i = j := ⟨i.toNat, by omega⟩
      have hx := hl _ (rd_mem (l := l) (n := j) (by omega))
      rw [if_pos c2, if_pos hi.1, if_neg (by omega), w64 (by omega) (by omega), Int.tmod_eq_emod_of_nonneg (by omega)]
      exact ⟨_, rfl, Int.emod_nonneg _ (by omega), .inl (Int.emod_lt_of_pos _ (by omega))⟩
    · rw [if_neg c2, if_neg (by omega), w64 (x := i * 37) (by omega) (by omega), w64 (by omega) (by omega), Int.tmod_eq_emod_of_nonneg (by omega)]
      exact ⟨_, rfl, Int.emod_nonneg _ (by omega), .inl (Int.emod_lt_of_pos _ (by omega))⟩
theorem b10Long_ok (l m : List Int) : ∃ b, laws_b10Long.f l m = some b := by
  unfold laws_b10Long.f
  split
  · exact ⟨_, rfl⟩
  · exact ⟨_, rfl⟩
end Go.Proofs.Ytbbnmfkaahajlaa.Q
