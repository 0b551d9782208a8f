/- What a law draws of its bytes. -/
import Derived.Test.YtebofadnefkacaaQSFnLosses
import Derived.Laws.Bits64
import Derived.Test.YtebofadnefkacaaP11
import Derived.Test.YtebofadnefkacaaP15
namespace Go.Proofs.Ytebofadnefkacaa.Q
open Go.RowKit Go.Proofs.YtebofadnefkacaaW.PrintWords Go.Proofs.YtebofadnefkacaaW.PrintLast Go.Proofs.Ytebofadnefkacaa.P Go.Proofs.Ytebofadnefkacaa.B
set_option linter.unusedVariables false
set_option linter.unusedSimpArgs false

/-- Bytes. -/
abbrev by8 (l : List Int) : Prop := ∀ x ∈ l, 0 ≤ x ∧ x ≤ 255
theorem and255 {x : Int} (h : 0 ≤ x) (h2 : x < 18446744073709551616) : Go.bits .and .u64 x 255 = x % 256 :=
  bits_mask .u64 64 (by decide) (fun n h₀ h₁ => by rw [IntKind.wrap_u64]; omega) 8 (by decide) x h h2
theorem top_byte (z : Int) : 0 ≤ wrap64 (Go.bits .and .u64 (IntKind.u64.wrap z / 1099511627776) 255) ∧ wrap64 (Go.bits .and .u64 (IntKind.u64.wrap z / 1099511627776) 255) ≤ 255 := by
  have h : 0 ≤ IntKind.u64.wrap z ∧ IntKind.u64.wrap z < 18446744073709551616 := by rw [IntKind.wrap_u64]; omega
  generalize IntKind.u64.wrap z = y at h ⊢
  rw [and255 (by omega) (by omega), w64 (by omega) (by omega)]
  omega
theorem next_ok {l : List Int} {at' seed : Int} (hl : by8 l) (h : 0 ≤ at' ∧ at' ≤ 1000000000000000000) : ∃ x s, spec_l00Src_next.f l at' seed = some (x, at' + 1, s) ∧ 0 ≤ x ∧ x ≤ 255 := by
  obtain ⟨n, rfl⟩ : ∃ n : Nat, at' = n := ⟨at'.toNat, by omega⟩
  unfold spec_l00Src_next.f
  rw [w64 (x := (n : Int) + 1) (by omega) (by omega)]
  by_cases c : (n : Int) < (l.length : Int)
  · rw [if_pos c, if_pos (by omega), if_pos (by omega)]
    have hx := hl _ (rd_mem (l := l) (n := n) (by omega))
    exact ⟨_, _, rfl, by rw [w64 (by omega) (by omega)]; omega, by rw [w64 (by omega) (by omega)]; omega⟩
  · rw [if_neg c, if_neg (by omega)]
    exact ⟨_, _, rfl, top_byte _⟩
theorem pick_ok {l : List Int} {at' seed n : Int} (hl : by8 l) (h : 0 ≤ at' ∧ at' ≤ 100000000000000000) (hn : n ≤ 60000) : ∃ x a s, spec_l00Src_pick.f l at' seed n = some (x, a, s) ∧ (0 ≤ x ∧ (x < n ∨ x = 0)) ∧ at' ≤ a ∧ a ≤ at' + 2 := by
  unfold spec_l00Src_pick.f
  by_cases c : n ≤ 1
  · rw [if_pos c]; exact ⟨0, at', seed, rfl, by omega, by omega, by omega⟩
  · obtain ⟨x, s, e, hx⟩ := next_ok (seed := seed) hl (show 0 ≤ at' ∧ at' ≤ 1000000000000000000 by omega)
    rw [if_neg c, e, Option.bind_some]
    by_cases c2 : n > 200
    · obtain ⟨y, s2, e2, hy⟩ := next_ok (seed := s) hl (show 0 ≤ at' + 1 ∧ at' + 1 ≤ 1000000000000000000 by omega)
      rw [if_pos c2, e2, Option.bind_some, if_neg (by omega), w64 (x := x * 256) (by omega) (by omega), w64 (x := x * 256 + y) (by omega) (by omega), Int.tmod_eq_emod_of_nonneg (by omega)]
      exact ⟨_, _, _, rfl, ⟨Int.emod_nonneg _ (by omega), .inl (Int.emod_lt_of_pos _ (by omega))⟩, by simp only; omega, by simp only; omega⟩
    · rw [if_neg c2, if_neg (by omega), Int.tmod_eq_emod_of_nonneg (by omega)]
      exact ⟨_, _, _, rfl, ⟨Int.emod_nonneg _ (by omega), .inl (Int.emod_lt_of_pos _ (by omega))⟩, by simp only; omega, by simp only; omega⟩
theorem r8At_ok {l : List Int} {i n : Int} (hl : by8 l) (hi : 0 ≤ i) (hn : 1 ≤ n) : ∃ x, laws_r8At.f l i n = some x ∧ 0 ≤ x ∧ x < n := by
  unfold laws_r8At.f
  by_cases c : n ≤ 1
  · rw [if_pos c]; exact ⟨0, rfl, by omega, by omega⟩
  · rw [if_neg c]
    by_cases c2 : i ≥ (l.length : Int)
    · rw [if_pos c2]; exact ⟨0, rfl, by omega, by omega⟩
    · obtain ⟨j, rfl⟩ : ∃ j : Nat, i = j := ⟨i.toNat, by omega⟩
      have hx := hl _ (rd_mem (l := l) (n := j) (by omega))
      rw [if_neg c2, if_pos hi, if_pos (by omega), if_neg (by omega), w64 (by omega) (by omega), Int.tmod_eq_emod_of_nonneg (by omega)]
      exact ⟨_, rfl, Int.emod_nonneg _ (by omega), Int.emod_lt_of_pos _ (by omega)⟩
theorem r8Long_ok (l m : List Int) : ∃ b, laws_r8Long.f l m = some b := by
  unfold laws_r8Long.f
  split
  · exact ⟨_, rfl⟩
  · exact ⟨_, rfl⟩
/-- Votes as they are drawn. -/
def vd (votes : List Int) : Prop := vt votes = true ∧ ∀ x ∈ votes, x ≤ 30
theorem vd_cons {a : Int} {r : List Int} (ha : 1 ≤ a ∧ a ≤ 30) (hr : ∀ x ∈ r, 0 ≤ x ∧ x ≤ 30) (hl : r.length ≤ 11) : vd (a :: r) := by
  refine ⟨vt_iff.2 ⟨by rw [List.length_cons]; omega, fun x hx => ?_, ?_⟩, fun x hx => ?_⟩
  · rcases List.mem_cons.1 hx with rfl | h
    · omega
    · have := hr x h; omega
  · have := sum_nonneg fun x hx => (hr x hx).1
    rw [List.sum_cons]; omega
  · rcases List.mem_cons.1 hx with rfl | h
    · omega
    · have := hr x h; omega
theorem r8Votes_loop {l : List Int} (hl : by8 l) : ∀ (n k : Nat) (a at' seed : Int) (r : List Int), n < k → 1 ≤ a ∧ a ≤ 30 → (∀ x ∈ r, 0 ≤ x ∧ x ≤ 30) → r.length + n ≤ 11 → 0 ≤ at' ∧ at' + 2 * n ≤ 10000 →
    ∃ votes, spec_R8Votes.l0 k (a :: r) n l at' seed = some votes ∧ vd votes
  | 0, k, a, at', seed, r, hk, ha, hr, hn, hat => by
    obtain ⟨k, rfl, _⟩ := succ_of_lt hk
    simp only [spec_R8Votes.l0]
    rw [if_neg (by omega)]
    exact ⟨_, rfl, vd_cons ha hr (by omega)⟩
  | n + 1, k, a, at', seed, r, hk, ha, hr, hn, hat => by
    obtain ⟨k, rfl, _⟩ := succ_of_lt hk
    obtain ⟨x, b, s, e, hx, hb⟩ := pick_ok (seed := seed) (n := 30) hl (show 0 ≤ at' ∧ at' ≤ 100000000000000000 by omega) (by omega)
    simp only [spec_R8Votes.l0]
    rw [if_pos (by omega), e, Option.bind_some, if_pos (by simp only [List.length_cons]; omega), w64 (by omega) (by omega), show ((n + 1 : Nat) : Int) - 1 = (n : Int) by omega]
    exact r8Votes_loop hl n k a b s (r ++ [x]) (by omega) ha (fun y hy => by
      rcases List.mem_append.1 hy with h | h
      · exact hr y h
      · rw [List.mem_singleton.1 h]; omega) (by simp; omega) (by omega)
theorem r8Votes_ok {l : List Int} (hl : by8 l) {k : Nat} (hk : 20 < k) : ∃ votes, spec_R8Votes.f k l = some votes ∧ vd votes := by
  unfold spec_R8Votes.f spec_l00From.f
  obtain ⟨x, b, s, e, hx, hb⟩ := pick_ok (at' := 0) (seed := 0) (n := 30) hl (by omega) (by omega)
  obtain ⟨y, b2, s2, e2, hy, hb2⟩ := pick_ok (at' := b) (seed := s) (n := 5) hl (by omega) (by omega)
  rw [Option.bind_some, e, Option.bind_some, e2, Option.bind_some, w64 (by omega) (by omega)]
  obtain ⟨n, rfl⟩ : ∃ n : Nat, y = n := ⟨y.toNat, by omega⟩
  exact r8Votes_loop hl n k (1 + x) b2 s2 [] (by omega) (by omega) (by simp) (by simp; omega) (by omega)
end Go.Proofs.Ytebofadnefkacaa.Q
