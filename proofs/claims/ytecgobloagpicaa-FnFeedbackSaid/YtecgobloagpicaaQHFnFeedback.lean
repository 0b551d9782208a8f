/- What the laws with B10 draw of their bytes. -/
import Derived.Test.YtecgobloagpicaaQ1FnFeedback
import Derived.Laws.Bits64
import Derived.Test.YtecgobloagpicaaP1
import Derived.Test.YtecgobloagpicaaP2
namespace Go.Proofs.Ytecgobloagpicaa.Q
open Go.RowKit Go.Proofs.YtecgobloagpicaaW.PrintWords Go.Proofs.YtecgobloagpicaaW.PrintLast Go.Proofs.Ytecgobloagpicaa.P Go.Proofs.Ytecgobloagpicaa.B
set_option linter.unusedVariables false
set_option linter.unusedSimpArgs false

/-- Bytes. -/
abbrev by8 (l : List Int) : Prop := ∀ x ∈ l, 0 ≤ x ∧ x ≤ 255
theorem and255 {x : Int} (h : 0 ≤ x) (h2 : x < 18446744073709551616) : Go.bits .and .u64 x 255 = x % 256 :=
  bits_mask .u64 64 (by decide) (fun n h₀ h₁ => by rw [IntKind.wrap_u64]; omega) 8 (by decide) x h h2
theorem top_byte (z : Int) : 0 ≤ wrap64 (Go.bits .and .u64 (IntKind.u64.wrap z / 1099511627776) 255) ∧ wrap64 (Go.bits .and .u64 (IntKind.u64.wrap z / 1099511627776) 255) ≤ 255 := by
  have h : 0 ≤ IntKind.u64.wrap z ∧ IntKind.u64.wrap z < 18446744073709551616 := by rw [IntKind.wrap_u64]; omega
  generalize IntKind.u64.wrap z = y at h ⊢
  rw [and255 (by omega) (by omega), w64 (by omega) (by omega)]
  omega
theorem next_ok {l : List Int} {at' seed : Int} (hl : by8 l) (h : 0 ≤ at' ∧ at' ≤ 1000000000000000000) : ∃ x s, spec_l00Src_next.f l at' seed = some (x, at' + 1, s) ∧ 0 ≤ x ∧ x ≤ 255 := by
  obtain ⟨n, rfl⟩ : ∃ n : Nat, at' = n := ⟨at'.toNat, by omega⟩
  unfold spec_l00Src_next.f
  rw [w64 (x := (n : Int) + 1) (by omega) (by omega)]
  by_cases c : (n : Int) < (l.length : Int)
  · rw [if_pos c, if_pos (by omega), if_pos (by omega)]
    have hx := hl _ (rd_mem (l := l) (n := n) (by omega))
    exact ⟨_, _, rfl, by rw [w64 (by omega) (by omega)]; omega, by rw [w64 (by omega) (by omega)]; omega⟩
  · rw [if_neg c, if_neg (by omega)]
    exact ⟨_, _, rfl, top_byte _⟩
theorem pick_ok {l : List Int} {at' seed n : Int} (hl : by8 l) (h : 0 ≤ at' ∧ at' ≤ 100000000000000000) (hn : n ≤ 60000) : ∃ x a s, spec_l00Src_pick.f l at' seed n = some (x, a, s) ∧ (0 ≤ x ∧ (x < n ∨ x = 0)) ∧ at' ≤ a ∧ a ≤ at' + 2 := by
  unfold spec_l00Src_pick.f
  by_cases c : n ≤ 1
  · rw [if_pos c]; exact ⟨0, at', seed, rfl, by omega, by omega, by omega⟩
  · obtain ⟨x, s, e, hx⟩ := next_ok (seed := seed) hl (show 0 ≤ at' ∧ at' ≤ 1000000000000000000 by omega)
    rw [if_neg c, e, Option.bind_some]
    by_cases c2 : n > 200
    · obtain ⟨y, s2, e2, hy⟩ := next_ok (seed := s) hl (show 0 ≤ at' + 1 ∧ at' + 1 ≤ 1000000000000000000 by omega)
      rw [if_pos c2, e2, Option.bind_some, if_neg (by omega), w64 (x := x * 256) (by omega) (by omega), w64 (x := x * 256 + y) (by omega) (by omega), Int.tmod_eq_emod_of_nonneg (by omega)]
      exact ⟨_, _, _, rfl, ⟨Int.emod_nonneg _ (by omega), .inl (Int.emod_lt_of_pos _ (by omega))⟩, by simp only; omega, by simp only; omega⟩
    · rw [if_neg c2, if_neg (by omega), Int.tmod_eq_emod_of_nonneg (by omega)]
      exact ⟨_, _, _, rfl, ⟨Int.emod_nonneg _ (by omega), .inl (Int.emod_lt_of_pos _ (by omega))⟩, by simp only; omega, by simp only; omega⟩
theorem one_ok {l : List Int} {at' seed n : Int} (hl : by8 l) (h : 0 ≤ at' ∧ at' ≤ 100000000000000000) (hn : n ≤ 60000) : ∃ b a s, spec_l00Src_one.f l at' seed n = some (b, a, s) ∧ at' ≤ a ∧ a ≤ at' + 2 := by
  obtain ⟨x, a, s, e, _, h1, h2⟩ := pick_ok (seed := seed) hl h hn
  unfold spec_l00Src_one.f
  rw [e, Option.bind_some]
  exact ⟨_, _, _, rfl, h1, h2⟩
theorem b10At_ok {l : List Int} {i n : Int} (hl : by8 l) (hi : 0 ≤ i ∧ i ≤ 1000000) : ∃ x, laws_b10At.f l i n = some x ∧ 0 ≤ x ∧ (x < n ∨ x = 0) := by
  unfold laws_b10At.f
  by_cases c : n ≤ 1
  · rw [if_pos c]; exact ⟨0, rfl, by omega, .inr rfl⟩
  · rw [if_neg c]
    by_cases c2 : i < (l.length : Int)
    · obtain ⟨j, rfl⟩ : ∃ j : Nat, i = j := ⟨i.toNat, by omega⟩
      have hx := hl _ (rd_mem (l := l) (n := j) (by omega))
      rw [if_pos c2, if_pos hi.1, if_neg (by omega), w64 (by omega) (by omega), Int.tmod_eq_emod_of_nonneg (by omega)]
      exact ⟨_, rfl, Int.emod_nonneg _ (by omega), .inl (Int.emod_lt_of_pos _ (by omega))⟩
    · rw [if_neg c2, if_neg (by omega), w64 (x := i * 37) (by omega) (by omega), w64 (by omega) (by omega), Int.tmod_eq_emod_of_nonneg (by omega)]
      exact ⟨_, rfl, Int.emod_nonneg _ (by omega), .inl (Int.emod_lt_of_pos _ (by omega))⟩
theorem b10Long_ok (l m : List Int) : ∃ b, laws_b10Long.f l m = some b := by
  unfold laws_b10Long.f
  split
  · exact ⟨_, rfl⟩
  · exact ⟨_, rfl⟩
theorem b10Values_loop {l : List Int} (hl : by8 l) (low V : Int) (hlow : low = 20 ∨ low = 0) : ∀ (n k : Nat) (at' seed : Int) (r : List Int), n < k → (∀ x ∈ r, -20 ≤ x ∧ x ≤ 39) → r.length + n ≤ 40 → 0 ≤ at' ∧ at' + 2 * n ≤ 10000 →
    ∃ nums a s, spec_l01DrawOk.l0 k low n l at' seed V r = some (V, nums, a, s) ∧ nums.length ≤ 40 ∧ ∀ x ∈ nums, -20 ≤ x ∧ x ≤ 39
  | 0, k, at', seed, r, hk, hr, hn, hat => by
    obtain ⟨k, rfl, _⟩ := succ_of_lt hk
    simp only [spec_l01DrawOk.l0]
    rw [if_neg (by omega)]
    exact ⟨_, _, _, rfl, by omega, hr⟩
  | n + 1, k, at', seed, r, hk, hr, hn, hat => by
    obtain ⟨k, rfl, _⟩ := succ_of_lt hk
    obtain ⟨z, b, s, e, hz, hb⟩ := pick_ok (seed := seed) (n := 40) hl (show 0 ≤ at' ∧ at' ≤ 100000000000000000 by omega) (by omega)
    simp only [spec_l01DrawOk.l0]
    rw [if_pos (by omega), e, Option.bind_some, if_pos (by omega), w64 (x := ((n + 1 : Nat) : Int) - 1) (by omega) (by omega), w64 (x := z - low) (by omega) (by omega), show ((n + 1 : Nat) : Int) - 1 = (n : Int) by omega]
    exact b10Values_loop hl low V hlow n k b s (r ++ [z - low]) (by omega) (fun y hy => by
      rcases List.mem_append.1 hy with h | h
      · exact hr y h
      · rw [List.mem_singleton.1 h]; omega) (by simp; omega) (by omega)
theorem drawOk_j0 {l : List Int} (hl : by8 l) (low V : Int) (hlow : low = 20 ∨ low = 0) {k : Nat} {at' seed : Int} (hk : 50 < k) (hat : 0 ≤ at' ∧ at' ≤ 100) : ∃ nums a s, spec_l01DrawOk.j0 k low l at' seed V [] = some (V, nums, a, s) ∧ nums.length ≤ 40 ∧ ∀ x ∈ nums, -20 ≤ x ∧ x ≤ 39 := by
  obtain ⟨k, rfl, hk1⟩ := succ_of_lt hk
  obtain ⟨k, rfl, hk2⟩ := succ_of_lt (show 45 < k by omega)
  obtain ⟨y, b, s, e, hy, hb⟩ := pick_ok (at' := at') (seed := seed) (n := 8) hl (by omega) (by omega)
  obtain ⟨o, b2, s2, e2, hb2⟩ := one_ok (at' := b) (seed := s) (n := 24) hl (by omega) (by omega)
  obtain ⟨n, rfl⟩ : ∃ n : Nat, y = n := ⟨y.toNat, by omega⟩
  simp only [spec_l01DrawOk.j0]
  rw [e, Option.bind_some, e2, Option.bind_some]
  simp only [spec_l01DrawOk.j1]
  split
  · exact b10Values_loop hl low V hlow 40 k b2 s2 [] (by omega) (by simp) (by simp) (by omega)
  · exact b10Values_loop hl low V hlow n k b2 s2 [] (by omega) (by simp) (by simp; omega) (by omega)
theorem b10Values_ok {l : List Int} (hl : by8 l) {k : Nat} (hk : 50 < k) : ∃ V nums, spec_B10Values.f k l = some (V, nums) ∧ (1 ≤ V ∧ V ≤ 12) ∧ nums.length ≤ 40 ∧ ∀ x ∈ nums, -20 ≤ x ∧ x ≤ 39 := by
  unfold spec_B10Values.f spec_l00From.f spec_l01DrawOk.f
  obtain ⟨x, b, s, e, hx, hb⟩ := pick_ok (at' := 0) (seed := 0) (n := 12) hl (by omega) (by omega)
  obtain ⟨o, b2, s2, e2, hb2⟩ := one_ok (at' := b) (seed := s) (n := 6) hl (by omega) (by omega)
  simp only [Option.bind_some]
  rw [e, Option.bind_some, e2, Option.bind_some, w64 (x := 1 + x) (by omega) (by omega)]
  split
  · obtain ⟨nums, a, s3, e3, h1, h2⟩ := drawOk_j0 hl 20 (1 + x) (.inl rfl) hk (at' := b2) (seed := s2) (by omega)
    rw [e3]
    exact ⟨_, nums, rfl, by omega, h1, h2⟩
  · obtain ⟨nums, a, s3, e3, h1, h2⟩ := drawOk_j0 hl 0 (1 + x) (.inr rfl) hk (at' := b2) (seed := s2) (by omega)
    rw [e3]
    exact ⟨_, nums, rfl, by omega, h1, h2⟩
end Go.Proofs.Ytecgobloagpicaa.Q
