import Derived.Test.YtanflefkbbhimaaXW1FnRunning
import Derived.Sort.Grow
import Derived.Sort.Row
namespace Go.Proofs.YtanflefkbbhimaaW.PrintWords
open Go.RowKit Go.Sort
theorem sortedHeap {w : World} {g n T : Nat} {ys : List Int} {cur : Array Value} (hg : w.heap[g]? = some (.cells cur T (0, 0))) (os : Array Obj) :
    (grow (putRow (Value.int .i64) (Go.Sort.ahead w n) g 0 ys.toArray) os).heap[g]? = some (.cells (putCells (Value.int .i64) 0 ys.toArray cur) T (0, 0)) := by
  have hlt : g < w.heap.size := (Array.getElem?_eq_some_iff.1 hg).1
  rw [heap_grow_old _ _ (by simp [putRow, mapBlock, Go.Sort.ahead]; exact hlt)]
  simp only [putRow, mapBlock, Go.Sort.ahead, Array.getElem?_modify, if_true, hg, Option.map_some, onCells]
theorem sortedOther {w : World} {g n : Nat} {ys : List Int} (os : Array Obj) {k : Nat} (hk : k < w.heap.size) (hne : k ≠ g) :
    (grow (putRow (Value.int .i64) (Go.Sort.ahead w n) g 0 ys.toArray) os).heap[k]? = w.heap[k]? := by
  rw [heap_grow_old _ _ (by simp [putRow, mapBlock, Go.Sort.ahead]; exact hk)]
  simp only [putRow, mapBlock, Go.Sort.ahead, Array.getElem?_modify]
  rw [if_neg (fun h => hne h.symm)]
theorem sortedSize {w : World} {g n : Nat} {ys : List Int} (os : Array Obj) : w.heap.size ≤ (grow (putRow (Value.int .i64) (Go.Sort.ahead w n) g 0 ys.toArray) os).heap.size := by
  simp [grow, putRow, mapBlock, Go.Sort.ahead]
theorem R_sorted {T : Nat} {w : World} {base g cap n : Nat} {ok : Nat → Prop} {xs ys : List Int} (h : Kd.R (Kd.int .i64) T w base ok (.slice (some ⟨g, 0, none⟩) xs.length cap) xs) (hl : ys.length = xs.length) (os : Array Obj) :
    Kd.R (Kd.int .i64) T (grow (putRow (Value.int .i64) (Go.Sort.ahead w n) g 0 ys.toArray) os) base ok (.slice (some ⟨g, 0, none⟩) xs.length cap) ys := by
  obtain ⟨h0, inner, ⟨h1, h2⟩, hr⟩ := h
  rcases h2 with ⟨h2, _⟩ | ⟨g', cap', cur, e, hb, hg, hn, hc, hcs, hcl⟩
  · cases h2
  · injection e with e1 _ e2
    injection e1 with e1
    injection e1 with e1
    subst e1 e2
    have hh := sortedHeap (n := n) (ys := ys) hg os
    change cur.size = cap * 1 at hcs
    refine ⟨h0, ys.map (Value.int .i64), ⟨by rw [List.length_map]; exact (Nat.mul_one _).symm, .inr ⟨g, cap, _, by rw [hl], hb, hh, by rw [hl]; exact hn, hc, ?_, ?_⟩⟩, by rw [List.length_map]; exact (Nat.mul_one _).symm, ?_⟩
    · change (putCells (Value.int .i64) 0 ys.toArray cur).size = cap * 1
      rw [← hcs]; simp [putCells]
    · change (putCells (Value.int .i64) 0 ys.toArray cur).toList.take (ys.length * 1) = _
      apply List.ext_getElem
      · simp [putCells]; omega
      · intro i h1 h2
        simp only [List.length_map] at h2
        simp only [putCells, List.getElem_take, Array.getElem_toList, Array.getElem_mapIdx, List.getElem_map]
        rw [if_pos ⟨by omega, by simp; omega⟩]
        simp [h2]
    · intro j p hj
      change ((ys.map (Value.int .i64)).drop (j * 1)).take 1 = [Value.int .i64 p]
      rw [Nat.mul_one, List.take_one, List.head?_drop, List.getElem?_map, hj]
      rfl
theorem sort_at {P : Program} {f : FuncId} {T : Nat}
    (hs : ∀ (blk off cap : Nat) (zs : List Int) (w : World), Holds (Value.int .i64) w blk off zs.toArray → blk < w.heap.size → zs.length < 4611686018427387904 →
      Calls P f #[.slice (some ⟨blk, off, none⟩) zs.length cap] w fun e w' => e = .returned (.tuple #[]) ∧ ∃ n os, w' = grow (putRow (Value.int .i64) (Go.Sort.ahead w n) blk off (zs.mergeSort fun x y => decide (x ≤ y)).toArray) os)
    (hn : ∀ (p : Option Addr) (cap : Nat) (w : World), Calls P f #[.slice p 0 cap] w fun e w' => e = .returned (.tuple #[]) ∧ w' = w)
    (P0_ : Nat → Prop) (u : Value) (l0 r : List Int) (w0 w : World) (hB : Below w0.heap.size w0 w) (ho : Kd.R (Kd.int .i64) T w w0.heap.size P0_ u l0)
    (hr : (if l0.length < 17592186044416 then some (l0.mergeSort fun x y => decide (x ≤ y)) else none) = some r) :
    Calls P f #[u] w fun e w' => e = .returned (.tuple #[]) ∧ Kd.R (Kd.int .i64) T w' w0.heap.size (fun k_ => (P0_ k_ ∨ w.heap.size ≤ k_)) u r ∧ Below w0.heap.size w0 w' ∧ Kept w w' (fun k_ => P0_ k_) := by
  by_cases hl : l0.length < 17592186044416
  · rw [if_pos hl] at hr
    injection hr with hr
    subst hr
    rcases Nat.eq_zero_or_pos l0.length with h0 | hp
    · obtain ⟨A, c, rfl⟩ := Kd.R_slice ho
      obtain rfl : l0 = [] := List.eq_nil_of_length_eq_zero h0
      refine (hn A c w).mono ?_
      rintro e w' ⟨rfl, rfl⟩
      exact ⟨rfl, Kd.R_mono (by simpa using ho) (fun k hk => .inl hk), hB, Kept.refl _ _⟩
    · obtain ⟨g, cap, rfl, hbg, hgl, cells, hg⟩ := Kd.R_form ho hp
      have hH : Holds (Value.int .i64) w g 0 l0.toArray := fun j hj => by
        have hj' : j < l0.length := by simpa using hj
        have hc := Kd.R_celln (0 : Int) ho (j : Int) (by omega) (by omega)
        rw [Int.toNat_natCast] at hc
        rw [Nat.zero_add]
        refine ⟨hc.1.trans ?_, hc.2⟩
        simp [rdOf, hj']
      refine (hs g 0 cap l0 w hH hgl (by omega)).mono ?_
      rintro e w' ⟨rfl, n, os, rfl⟩
      have hperm : (l0.mergeSort fun x y => decide (x ≤ y)).length = l0.length := List.length_mergeSort _
      refine ⟨rfl, Kd.R_mono (R_sorted ho hperm os) (fun k hk => .inl hk), ⟨hB.os, hB.tape, hB.output, Nat.le_trans hB.size (sortedSize os), fun k hk => ?_⟩, sortedSize os, fun k hk hne => ?_⟩
      · rw [sortedOther os (Nat.lt_of_lt_of_le hk hB.size) (by omega)]
        exact hB.block k hk
      · exact sortedOther os hk (fun h => hne (h ▸ ho.1 g rfl))
  · rw [if_neg hl] at hr
    cases hr
end Go.Proofs.YtanflefkbbhimaaW.PrintWords
