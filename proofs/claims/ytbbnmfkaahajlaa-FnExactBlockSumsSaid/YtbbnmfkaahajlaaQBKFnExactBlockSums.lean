/- Sums of blocks: what the specification and the program compute. -/
import Derived.Test.YtbbnmfkaahajlaaQ3FnExactBlockSums
import Derived.Test.YtbbnmfkaahajlaaLB
import Derived.Test.YtbbnmfkaahajlaaLB
import Derived.Test.YtbbnmfkaahajlaaP1
namespace Go.Proofs.Ytbbnmfkaahajlaa.Q
open Go.RowKit Go.Proofs.YtbbnmfkaahajlaaW.PrintWords Go.Proofs.YtbbnmfkaahajlaaW.PrintLast Go.Proofs.Ytbbnmfkaahajlaa.P Go.Proofs.Ytbbnmfkaahajlaa.B
set_option linter.unusedVariables false
set_option linter.unusedSimpArgs false

/-- The sums of the first blocks. -/
def bsums (l : List Int) (m q : Nat) : List Int := (List.range q).map fun j => (blk l m j).sum
theorem bsums_succ (l : List Int) (m q : Nat) : bsums l m (q + 1) = bsums l m q ++ [(blk l m q).sum] := by
  unfold bsums
  rw [List.range_succ, List.map_append]
  rfl
theorem bsums_length (l : List Int) (m q : Nat) : (bsums l m q).length = q := by simp [bsums]
theorem blk_mem {l : List Int} {m j : Nat} {x : Int} (h : x ∈ blk l m j) : x ∈ l := List.mem_of_mem_drop (List.mem_of_mem_take h)
theorem blk_len (l : List Int) (m j : Nat) : (blk l m j).length ≤ l.length := by
  unfold blk
  rw [List.length_take, List.length_drop]; omega
theorem blkSums_eq {l : List Int} (hl : l.length ≤ 1000000) (hb : ∀ x ∈ l, -1000000000000 ≤ x ∧ x ≤ 1000000000000) {k : Nat} (hk : l.length < k) (m : Nat) : ∀ q, blkSums k l m q = some (bsums l m q)
  | 0 => rfl
  | q + 1 => by
    have := blk_len l m q
    simp only [blkSums]
    rw [blkSums_eq hl hb hk m q, Option.bind_some, sum_eq (by omega) (fun x hx => hb x (blk_mem hx)) (by omega), Option.bind_some, bsums_succ]
def BlockSums_res (l : List Int) (a : Int) : List Int × Bool := if ll l = true ∧ (1 ≤ a ∧ a ≤ 40) ∧ (l.length : Int) % a = 0 then (bsums l a.toNat (l.length / a.toNat), true) else ([], false)
theorem BlockSums_len (l : List Int) (a : Int) : (BlockSums_res l a).1.length ≤ 100 := by
  unfold BlockSums_res
  split
  · rename_i h
    rw [bsums_length]
    have h1 := (ll_iff.1 h.1).1
    have h2 := Nat.div_le_self l.length a.toNat
    omega
  · simp
theorem BlockSums_impl {l : List Int} {a : Int} (hw : ∀ x ∈ l, -9223372036854775808 ≤ x ∧ x ≤ 9223372036854775807) (ha : -9223372036854775808 ≤ a ∧ a ≤ 9223372036854775807) (hl : l.length ≤ 1048576) {k : Nat} (hk : l.length + 3000 < k) : impl_BlockSums.f k l a = some (BlockSums_res l a) := by
  unfold impl_BlockSums.f BlockSums_res
  rw [isList_eq (by omega) (by omega), Option.bind_some]
  by_cases c : ll l = true
  · have c' := ll_iff.1 c
    rw [if_pos c]
    by_cases c2 : 1 ≤ a ∧ a ≤ 40
    · rw [if_pos c2, Int.tmod_eq_emod_of_nonneg (by omega)]
      by_cases c3 : (l.length : Int) % a = 0
      · rw [if_pos c3, if_pos (by omega), if_pos ⟨c, c2, c3⟩, blkSums_eq (by omega) (fun x hx => by have := c'.2 x hx; omega) (by omega), Option.bind_some]
      · rw [if_neg c3, if_neg (fun z => c3 z.2.2)]
    · rw [if_neg c2, if_neg (fun z => c2 z.2.1)]
  · rw [if_neg c, if_neg (fun z => c z.1)]
theorem specBlocks_loop {l : List Int} (hl : l.length ≤ 1000000) (hb : ∀ x ∈ l, -1000000000000 ≤ x ∧ x ≤ 1000000000000) {m q : Nat} (hm : 1 ≤ m ∧ m ≤ 40) (hq : q * m = l.length) : ∀ (d j k : Nat), j + d = q → d + l.length + 10 < k →
    spec_BlockSums.l0 k l (m : Int) (bsums l m j) ((j * m : Nat) : Int) = some (bsums l m q, true) := by
  intro d
  induction d with
  | zero =>
    intro j k hj hk
    obtain ⟨k, rfl, _⟩ := succ_of_lt hk
    have e : j = q := by omega
    subst e
    simp only [spec_BlockSums.l0]
    rw [if_neg (by omega)]
  | succ d ih =>
    intro j k hj hk
    obtain ⟨k, rfl, hk'⟩ := succ_of_lt hk
    have h1 : (j + 1) * m ≤ q * m := Nat.mul_le_mul_right _ (by omega)
    have h2 : (j + 1) * m = j * m + m := Nat.succ_mul ..
    have hqm : q ≤ q * m := Nat.le_mul_of_pos_right _ (by omega)
    have e : wrap64 (((j * m : Nat) : Int) + (m : Int)) = (((j + 1) * m : Nat) : Int) := by rw [w64 (by omega) (by omega)]; omega
    have eb : (l.take ((j + 1) * m)).drop (j * m) = blk l m j := by
      unfold blk
      rw [List.drop_take, show (j + 1) * m - j * m = m by omega]
    have hbl := blk_len l m j
    simp only [spec_BlockSums.l0]
    rw [if_pos (by omega), if_pos (by omega), e, if_pos (by omega), if_pos (by omega), Int.toNat_natCast, Int.toNat_natCast, eb, l01Sum_eq (by omega) (fun x hx => hb x (blk_mem hx)) (by omega), Option.bind_some, if_pos (by rw [bsums_length]; omega), ← bsums_succ]
    exact ih (j + 1) k (by omega) (by omega)
theorem BlockSums_spec {l : List Int} {a : Int} (hw : ∀ x ∈ l, -9223372036854775808 ≤ x ∧ x ≤ 9223372036854775807) (ha : -9223372036854775808 ≤ a ∧ a ≤ 9223372036854775807) (hl : l.length ≤ 1048576) {k : Nat} (hk : l.length + 3000 < k) : spec_BlockSums.f k l a = some (BlockSums_res l a) := by
  obtain ⟨k, rfl, hk'⟩ := succ_of_lt hk
  unfold spec_BlockSums.f BlockSums_res
  rw [l01List_eq (by omega) (by omega), Option.bind_some]
  by_cases c : ll l = true
  · have c' := ll_iff.1 c
    rw [if_pos c, l00In_eq, Option.bind_some]
    by_cases c2 : 1 ≤ a ∧ a ≤ 40
    · rw [if_pos (decide_eq_true c2), if_neg (by omega)]
      simp only [spec_BlockSums.j0]
      by_cases c3 : (l.length : Int) % a = 0
      · obtain ⟨m, rfl⟩ : ∃ m : Nat, a = (m : Int) := ⟨a.toNat, by omega⟩
        have hq : l.length / m * m = l.length := by
          have : l.length % m = 0 := by
            have : ((l.length % m : Nat) : Int) = 0 := by rw [Int.natCast_emod]; exact c3
            omega
          exact Nat.div_mul_cancel (Nat.dvd_of_mod_eq_zero this)
        have hdq := Nat.div_le_self l.length m
        rw [if_neg (by simp [c3]), if_pos ⟨c, c2, c3⟩, Int.toNat_natCast]
        have := specBlocks_loop (l := l) (by omega) (fun x hx => by have := c'.2 x hx; omega) (m := m) (by omega) hq (l.length / m) 0 k (by omega) (by omega)
        simpa [bsums] using this
      · rw [if_pos (by simpa using c3), if_neg (fun z => c3 z.2.2)]
    · rw [if_neg (by simpa using c2), if_neg (fun z => c2 z.2.1)]
      simp only [spec_BlockSums.j0]
      rw [if_pos trivial]
  · rw [if_neg c, if_neg (fun z => c z.1)]
    simp only [spec_BlockSums.j0]
    rw [if_pos trivial]
end Go.Proofs.Ytbbnmfkaahajlaa.Q
