/- Sums of blocks: what the specification and the program compute. -/
import Derived.Test.YtbbnmfkaahajlaaQ3FnConstant
import Derived.Test.YtbbnmfkaahajlaaLB
import Derived.Test.YtbbnmfkaahajlaaLB
namespace Go.Proofs.Ytbbnmfkaahajlaa.Q
open Go.RowKit Go.Proofs.YtbbnmfkaahajlaaW.PrintWords Go.Proofs.YtbbnmfkaahajlaaW.PrintLast Go.Proofs.Ytbbnmfkaahajlaa.P Go.Proofs.Ytbbnmfkaahajlaa.B
set_option linter.unusedVariables false
set_option linter.unusedSimpArgs false

/-- The sums of the first blocks. -/
def bsums (l : List Int) (m q : Nat) : List Int := (List.range q).map fun j => (blk l m j).sum
theorem bsums_succ (l : List Int) (m q : Nat) : bsums l m (q + 1) = bsums l m q ++ [(blk l m q).sum] := by
  unfold bsums
  rw [List.range_succ, List.map_append]
  rfl
theorem bsums_length (l : List Int) (m q : Nat) : (bsums l m q).length = q := by simp [bsums]
theorem blk_mem {l : List Int} {m j : Nat} {x : Int} (h : x ∈ blk l m j) : x ∈ l := List.mem_of_mem_drop (List.mem_of_mem_take h)
theorem blk_len (l : List Int) (m j : Nat) : (blk l m j).length ≤ l.length := by
  unfold blk
  rw [List.length_take, List.length_drop]; omega
theorem blkSums_eq {l : List Int} (hl : l.length ≤ 1000000) (hb : ∀ x ∈ l, -1000000000000 ≤ x ∧ x ≤ 1000000000000) {k : Nat} (hk : l.length < k) (m : Nat) : ∀ q, blkSums k l m q = some (bsums l m q)
  | 0 => rfl
  | q + 1 => by
    have := blk_len l m q
    simp only [blkSums]
    rw [blkSums_eq hl hb hk m q, Option.bind_some, sum_eq (by omega) (fun x hx => hb x (blk_mem hx)) (by omega), Option.bind_some, bsums_succ]
def BlockSums_res (l : List Int) (a : Int) : List Int × Bool := if ll l = true ∧ (1 ≤ a ∧ a ≤ 40) ∧ (l.length : Int) % a = 0 then (bsums l a.toNat (l.length / a.toNat), true) else ([], false)
theorem BlockSums_len (l : List Int) (a : Int) : (BlockSums_res l a).1.length ≤ 100 := by
  unfold BlockSums_res
  split
  · rename_i h
    rw [bsums_length]
    have h1 := (ll_iff.1 h.1).1
    have h2 := Nat.div_le_self l.length a.toNat
    omega
  · simp
theorem BlockSums_impl {l : List Int} {a : Int} (hw : ∀ x ∈ l, -9223372036854775808 ≤ x ∧ x ≤ 9223372036854775807) (ha : -9223372036854775808 ≤ a ∧ a ≤ 9223372036854775807) (hl : l.length ≤ 1048576) {k : Nat} (hk : l.length + 3000 < k) : impl_BlockSums.f k l a = some (BlockSums_res l a) := by
  unfold impl_BlockSums.f BlockSums_res
  rw [isList_eq (by omega) (by omega), Option.bind_some]
  by_cases c : ll l = true
  · have c' := ll_iff.1 c
    rw [if_pos c]
    by_cases c2 : 1 ≤ a ∧ a ≤ 40
    · rw [if_pos c2, Int.tmod_eq_emod_of_nonneg (by omega)]
      by_cases c3 : (l.length : Int) % a = 0
      · rw [if_pos c3, if_pos (by omega), if_pos ⟨c, c2, c3⟩, blkSums_eq (by omega) (fun x hx => by have := c'.2 x hx; omega) (by omega), Option.bind_some]
      · rw [if_neg c3, if_neg (fun z => c3 z.2.2)]
    · rw [if_neg c2, if_neg (fun z => c2 z.2.1)]
  · rw [if_neg c, if_neg (fun z => c z.1)]
end Go.Proofs.Ytbbnmfkaahajlaa.Q
