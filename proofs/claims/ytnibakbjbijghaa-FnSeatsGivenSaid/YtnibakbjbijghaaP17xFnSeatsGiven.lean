-- Written by gen.py (wip/gen of this repo) over the kit's print: not trusted, Lean checks it.
import Derived.Test.YtnibakbjbijghaaP0
import Derived.Test.YtnibakbjbijghaaP1xFnSeatsGiven
import Derived.Test.YtnibakbjbijghaaP2xFnSeatsGiven
import Derived.Test.YtnibakbjbijghaaP16xFnSeatsGiven
namespace Go.Proofs.Ytnibakbjbijghaa.P
open Go.RowKit Go.Proofs.YtnibakbjbijghaaW.PrintWords Go.Proofs.YtnibakbjbijghaaW.PrintLast Go.Proofs.YtnibakbjbijghaaW.PrintMore
attribute [local go_sem] max2_int min2_int max_two min_two max_three min_three max_four min_four   -- for this text's walks alone
set_option linter.unusedVariables false
set_option linter.unusedSimpArgs false

/-! ### impl_give: function 84 -/
mutual
def impl_give.l0 : Nat → Int → List Int → List Int → List (S95) → Int → Int → Option (List Int × (List (S95)))
  | 0, _, _, _, _, _, _ => none
  | k + 1, x0, x1, x8, x9, x18, x19 => if x19 < x18 then (impl_give.l1 k x0 x1 x8 x9 x18 x19 x1 (x1.length : Int) 0 (-1) 0 0) else (some (x8, x9))
def impl_give.l1 : Nat → Int → List Int → List Int → List (S95) → Int → Int → List Int → Int → Int → Int → Int → Int → Option (List Int × (List (S95)))
  | 0, _, _, _, _, _, _, _, _, _, _, _, _ => none
  | k + 1, x0, x1, x8, x9, x18, x19, x22, x23, x24, x836000, x836001, x836002 => if x24 < x23 then (if 0 ≤ x24 then (if x24 < (x22.length : Int) then (if x24 < (x8.length : Int) then ((impl_worthOf.f x0 (rd x22 x24) (rd x8 x24)).bind fun bt843 => (if x836000 < 0 then (impl_give.l1 k x0 x1 x8 x9 x18 x19 x22 x23 (wrap64 (x24 + 1)) x24 bt843.1 bt843.2) else ((impl_worth_against.f k bt843.1 bt843.2 x836001 x836002).bind fun t846 => (if t846 > 0 then (impl_give.l1 k x0 x1 x8 x9 x18 x19 x22 x23 (wrap64 (x24 + 1)) x24 bt843.1 bt843.2) else (impl_give.l1 k x0 x1 x8 x9 x18 x19 x22 x23 (wrap64 (x24 + 1)) x836000 x836001 x836002))))) else (none)) else (none)) else (none)) else (if 0 ≤ x836000 then (if x836000 < (x8.length : Int) then (if x9.length < 5864062014805 then (impl_give.l0 k x0 x1 (x8.set (x836000 : Int).toNat (wrap64 ((rd x8 x836000) + 1))) (x9 ++ [(⟨x836000, (⟨x836001, x836002⟩ : S85)⟩ : S95)]) x18 (wrap64 (x19 + 1))) else (none)) else (none)) else (none))
end
def impl_give.f (k : Nat) (a0 : Int) (l1 : List Int) (a2 : Int) : Option (List Int × (List (S95))) := if 0 ≤ (l1.length : Int) then (if ((l1.length : Int) : Int).toNat ≤ 35184372088832 then (impl_give.l0 k a0 l1 (List.replicate ((l1.length : Int) : Int).toNat 0) (([] : List (S95))) a2 0) else (none)) else (none)
theorem impl_give.mono_l : ∀ k, (∀ y0 y1 y2 y3 y4 y5, LeO (impl_give.l0 k y0 y1 y2 y3 y4 y5) (impl_give.l0 (k + 1) y0 y1 y2 y3 y4 y5)) ∧ (∀ y0 y1 y2 y3 y4 y5 y6 y7 y8 y9 y10 y11, LeO (impl_give.l1 k y0 y1 y2 y3 y4 y5 y6 y7 y8 y9 y10 y11) (impl_give.l1 (k + 1) y0 y1 y2 y3 y4 y5 y6 y7 y8 y9 y10 y11))
  | 0 => ⟨fun _ _ _ _ _ _ r h => by simp [impl_give.l0] at h, fun _ _ _ _ _ _ _ _ _ _ _ _ r h => by simp [impl_give.l1] at h⟩
  | k + 1 => by
    obtain ⟨ih0, ih1⟩ := impl_give.mono_l k
    refine ⟨?_, ?_⟩
    · intro y0 y1 y2 y3 y4 y5
      unfold impl_give.l0
      repeat' first
      | (with_reducible exact ih0 _ _ _ _ _ _)
      | (with_reducible exact ih1 _ _ _ _ _ _ _ _ _ _ _ _)
      | (with_reducible exact impl_worth_against.mono _ _ _ _ _)
      | (with_reducible exact LeO.refl _)
      | (with_reducible exact LeO.none _)
      | (with_reducible refine LeO.ite ?_ ?_)
      | (with_reducible refine LeO.bind ?_ (fun _ => ?_))
      | exact ih0 _ _ _ _ _ _
      | exact ih1 _ _ _ _ _ _ _ _ _ _ _ _
      | exact impl_worth_against.mono _ _ _ _ _
      | exact LeO.none _
      | refine LeO.ite ?_ ?_
      | refine LeO.bind ?_ (fun _ => ?_)
    · intro y0 y1 y2 y3 y4 y5 y6 y7 y8 y9 y10 y11
      unfold impl_give.l1
      repeat' first
      | (with_reducible exact ih0 _ _ _ _ _ _)
      | (with_reducible exact ih1 _ _ _ _ _ _ _ _ _ _ _ _)
      | (with_reducible exact impl_worth_against.mono _ _ _ _ _)
      | (with_reducible exact LeO.refl _)
      | (with_reducible exact LeO.none _)
      | (with_reducible refine LeO.ite ?_ ?_)
      | (with_reducible refine LeO.bind ?_ (fun _ => ?_))
      | exact ih0 _ _ _ _ _ _
      | exact ih1 _ _ _ _ _ _ _ _ _ _ _ _
      | exact impl_worth_against.mono _ _ _ _ _
      | exact LeO.none _
      | refine LeO.ite ?_ ?_
      | refine LeO.bind ?_ (fun _ => ?_)
theorem impl_give.mono : ∀ a0 a1 a2 k, LeO (impl_give.f k a0 a1 a2) (impl_give.f (k + 1) a0 a1 a2) := by
  intro a0 a1 a2 k
  obtain ⟨ih0, ih1⟩ := impl_give.mono_l k
  unfold impl_give.f
  repeat' first
      | (with_reducible exact ih0 _ _ _ _ _ _)
      | (with_reducible exact ih1 _ _ _ _ _ _ _ _ _ _ _ _)
      | (with_reducible exact impl_worth_against.mono _ _ _ _ _)
      | (with_reducible exact LeO.refl _)
      | (with_reducible exact LeO.none _)
      | (with_reducible refine LeO.ite ?_ ?_)
      | (with_reducible refine LeO.bind ?_ (fun _ => ?_))
      | exact ih0 _ _ _ _ _ _
      | exact ih1 _ _ _ _ _ _ _ _ _ _ _ _
      | exact impl_worth_against.mono _ _ _ _ _
      | exact LeO.none _
      | refine LeO.ite ?_ ?_
      | refine LeO.bind ?_ (fun _ => ?_)
set_option maxHeartbeats 8000000 in
set_option maxRecDepth 100000 in
theorem impl_give.calls (k : Nat) (a0 : Int) (A1 : Option Addr) (c1 : Nat) (l1 : List Int) (a2 : Int) (r1 : List Int) (r2 : List (S95)) (w : World) (hr1 : Kd.C (Kd.int .i64) w A1 l1.length l1) (hc1 : l1.length ≤ c1) (h : impl_give.f k a0 l1 a2 = some (r1, r2)) :
    Calls Try.prog 84 #[.int .i64 a0, .slice A1 l1.length c1, .int .i64 a2] w fun e w' => ∃ v0_ v1_ : Value, e = .returned (.tuple #[v0_, v1_]) ∧ Kd.R (Kd.int .i64) 2 w' w.heap.size (fun _ => True) v0_ r1 ∧ Kd.R k95 95 w' w.heap.size (fun _ => True) v1_ r2 ∧ Below w.heap.size w w' := by
  have hu95 := Try.underlying95
  have hu85 := Try.underlying85
  have HR1 := Aside0.mk hr1
  have HC1 := Aside0.mk hc1
  clear hr1 hc1
  have HB := Aside0.mk (Below.refl w.heap.size w)
  have H : (if 0 ≤ (l1.length : Int) then (if ((l1.length : Int) : Int).toNat ≤ 35184372088832 then (impl_give.l0 k a0 l1 (List.replicate ((l1.length : Int) : Int).toNat 0) (([] : List (S95))) a2 0) else (none)) else (none)) = some (r1, r2) := h
  clear h
  by_cases c4 : 0 ≤ (l1.length : Int)
  · rw [if_pos c4] at H
    have c4b0 := eq_true c4
    have c4b1 : decide (0 ≤ (l1.length : Int)) = true := decide_eq_true c4
    clear c4
    by_cases c5 : ((l1.length : Int) : Int).toNat ≤ 35184372088832
    · rw [if_pos c5] at H
      have c5b0 := eq_true c5
      have c5b1 : decide (((l1.length : Int) : Int).toNat ≤ 35184372088832) = true := decide_eq_true c5
      clear c5
      obtain ⟨y829, hy829⟩ : ∃ y_ : List Int, y_ = (List.replicate ((l1.length : Int) : Int).toNat 0) := ⟨_, rfl⟩
      replace H : (impl_give.l0 k a0 l1 y829 (([] : List (S95))) a2 0) = some (r1, r2) := by first | (rw [hy829]; with_reducible exact H) | (have H2_ := (Option.bind_some _ _).symm.trans H; rw [hy829]; with_reducible exact H2_) | (have H2_ := (Option.bind_some _ _).symm.trans H; with_reducible exact H2_) | with_reducible exact H | (rw [hy829]; exact H) | exact H
      have Ny829 := Aside0.mk hy829
      clear hy829
      obtain ⟨y832, hy832⟩ : ∃ y_ : List (S95), y_ = (([] : List (S95))) := ⟨_, rfl⟩
      replace H : (impl_give.l0 k a0 l1 y829 y832 a2 0) = some (r1, r2) := by first | (rw [hy832]; with_reducible exact H) | (have H2_ := (Option.bind_some _ _).symm.trans H; rw [hy832]; with_reducible exact H2_) | (have H2_ := (Option.bind_some _ _).symm.trans H; with_reducible exact H2_) | with_reducible exact H | (rw [hy832]; exact H) | exact H
      have Ny832 := Aside0.mk hy832
      clear hy832
      have H' := Aside0.mk H
      clear H
      go_enter Try.func84, Try.ntmps84
      go_wp2_with (first | ((with_reducible refine gate_dst (N := 16) rfl ?_); refine Kd.R_make (Kd.int .i64) _ 2 rfl (N := 16) rfl 22 _ _ rfl (l1.length : Int) rfl rfl Try.underlying22 (.int .i64 0) 8 info2 rfl (by decide) (by omega) 0 (ok := fun _ => True) (okp := fun _ => True) rfl (fun _ hk => hk) trivial (of_decide_eq_true (by first | (with_reducible assumption) | assumption)) (Nat.le_trans (Nat.mul_le_mul_right _ (of_decide_eq_true (by first | (with_reducible assumption) | assumption) : (l1.length : Int).toNat ≤ 35184372088832)) (by omega)) (Below.refl _ _) (Nat.le_refl _) ?_; intro v830 w6 ho7 hb hg_ hnew_; clear hg_ hnew_; (first | rw [← Ny829.out] at ho7 | (simp only [Int.reduceToNat] at ho7; rw [← Ny829.out] at ho7)); have n0_ := Aside0.mk (Kd.R_lower ho7 (below_size (by repeat (first | (with_reducible first | exact HB.out | apply below_alloc | apply pw_below_drewN | apply below_drew1) | exact HB.out)))); have n1_ := Aside0.mk (below_step (by repeat (first | (with_reducible first | exact HB.out | apply below_alloc | apply pw_below_drewN | apply below_drew1) | exact HB.out)) hb); clear HB; have HO831 := n0_; have HB := n1_; clear n0_ n1_; clear hb ho7) | ((with_reducible refine gate_dst (N := 17) rfl ?_); refine Kd.R_lit k95 _ 95 ?hg (N := 17) ?hd (xs := ([] : List (S95))) (inner := []) (ok := fun _ => True) (okp := fun _ => True) ?hr ?hp (fun _ hk => hk) trivial (Below.refl _ _) (Nat.le_refl _) (by simp) ?_; (case hd => rfl); (case hg => rfl); (case hr => first | (go_simp; done) | (go_simp; rfl)); (case hp => exact (Reps.none _ _)); intro v833 w8 ho9 hb hg_ hnew_; clear hg_ hnew_; (first | rw [← Ny832.out] at ho9 | (simp only [Int.reduceToNat] at ho9; rw [← Ny832.out] at ho9)); have n0_ := Aside0.mk (Kd.R_below (by (with_reducible repeat (first | apply Kd.R_alloc | apply Kd.R_drewN | apply Kd.R_drew)); exact HO831.out) hb); have n1_ := Aside0.mk (Kd.R_lower ho9 (below_size (by repeat (first | (with_reducible first | exact HB.out | apply below_alloc | apply pw_below_drewN | apply below_drew1) | exact HB.out)))); have n2_ := Aside0.mk (below_step (by repeat (first | (with_reducible first | exact HB.out | apply below_alloc | apply pw_below_drewN | apply below_drew1) | exact HB.out)) hb); clear HO831; clear HB; have HO831 := n0_; have HO834 := n1_; have HB := n2_; clear n0_ n1_ n2_; clear hb ho9))
      go_loopg [9, 19] k (fun kq v9 v19 w' => ∃ (x8_1 : List Int) (x9_1 : List (S95)) (x19_1 : Int), v19 = .int .i64 x19_1 ∧ Aside0 (impl_give.l0 kq a0 l1 x8_1 x9_1 a2 x19_1 = some (r1, r2)) ∧ Aside0 (kq ≤ k) ∧ Aside0 (Kd.R (Kd.int .i64) 2 w' w.heap.size (fun _ => True) v830 x8_1) ∧ Aside0 (Kd.R k95 95 w' w.heap.size (fun _ => True) v9 x9_1) ∧ Aside0 (Below w.heap.size w w'))
      case atStart => exact ⟨(y829), (y832), (0), (by first | rfl | (simp; done) | (simp [*]; done)), H', ⟨Nat.le_refl _⟩, ⟨by (with_reducible repeat (first | apply Kd.R_alloc | apply Kd.R_drewN | apply Kd.R_drew)); exact HO831.out⟩, ⟨by (with_reducible repeat (first | apply Kd.R_alloc | apply Kd.R_drewN | apply Kd.R_drew)); exact HO834.out⟩, ⟨by repeat (first | (with_reducible first | exact HB.out | apply below_alloc | apply pw_below_drewN | apply below_drew1) | exact HB.out)⟩⟩
      case round =>
        clear H'
        try clear c1
        try clear p2
        try clear c4
        try clear c4b0
        try clear c4b1
        try clear c5
        try clear c5b0
        try clear c5b1
        try clear c8
        obtain ⟨x8_1, x9_1, x19_1, rfl, HA, HK1, HO_8, HO_9, HB⟩ := hrel
        cases gk with
        | zero => exact absurd HA.out (by simp [impl_give.l0])
        | succ k1 =>
          have H := HA.out
          clear HA
          simp only [impl_give.l0] at H
          by_cases c10 : x19_1 < a2
          · rw [if_pos c10] at H
            have c10b0 : decide (x19_1 < a2) = true := decide_eq_true c10
            clear c10
            have H' := Aside0.mk H
            clear H
            go_wp2_with (first | ((with_reducible refine gate_dst (N := 10) rfl ?_); refine box_event ?hg (N := 10) ?hd (cs := #[.int .i64 0, .int .i64 0, .int .i64 0]) (t := 95) ?hr ?_; (case hd => rfl); (case hg => rfl); (case hr => first | (go_simp; done) | (go_simp; rfl)); intro gb835 hg w11 hbox hb; have n0_ := Aside0.mk (Kd.R_below (by (with_reducible repeat (first | apply Kd.R_alloc | apply Kd.R_drewN | apply Kd.R_drew)); exact HO_8.out) hb); have n1_ := Aside0.mk (Kd.R_below (Kd.R_elderB (by (with_reducible repeat (first | apply Kd.R_alloc | apply Kd.R_drewN | apply Kd.R_drew)); exact HO_9.out) gb835 (Nat.le_of_eq hg.symm)) hb); have n2_ := Aside0.mk (below_step (by repeat (first | (with_reducible first | exact HB.out | apply below_alloc | apply pw_below_drewN | apply below_drew1) | exact HB.out)) hb); have n3_ := Aside0.mk (hbox); have n4_ := Aside0.mk ((by rw [hg]; exact (below_size (by repeat (first | (with_reducible first | exact HB.out | apply below_alloc | apply pw_below_drewN | apply below_drew1) | exact HB.out))) : w.heap.size ≤ gb835)); have n5_ := Aside0.mk ((by rw [hg]; exact (below_size (by repeat (first | (with_reducible first | exact HB.out | apply below_alloc | apply pw_below_drewN | apply below_drew1) | exact HB.out))) : w.heap.size ≤ gb835)); clear HO_8; clear HO_9; clear HB; have HO_8 := n0_; have HO_9 := n1_; have HB := n2_; have BK835 := n3_; have GW835 := n4_; have GE835 := n5_; clear n0_ n1_ n2_ n3_ n4_ n5_; clear hb hbox hg; have hcz12_0 : w11.cell? ⟨gb835, 0, none⟩ = some (.int .i64 0) := (blk_cell BK835.out 0).trans rfl; have hcz12_1 : w11.cell? ⟨gb835, 1, none⟩ = some (.int .i64 0) := (blk_cell BK835.out 1).trans rfl; have hcz12_2 : w11.cell? ⟨gb835, 2, none⟩ = some (.int .i64 0) := (blk_cell BK835.out 2).trans rfl; have hfz12_0 := blk_frozen BK835.out 0; have hfz12_1 := blk_frozen BK835.out 1; have hfz12_2 := blk_frozen BK835.out 2))
            go_loopg [24] k1 (fun kq v24 w' => ∃ (x24_2 : Int) (x836000_2 : Int) (x836001_2 : Int) (x836002_2 : Int), v24 = .int .i64 x24_2 ∧ Aside0 (impl_give.l1 kq a0 l1 x8_1 x9_1 a2 x19_1 l1 (l1.length : Int) x24_2 x836000_2 x836001_2 x836002_2 = some (r1, r2)) ∧ Aside0 (kq ≤ k1) ∧ Aside0 (Kd.R (Kd.int .i64) 2 w' w.heap.size (fun _ => True) v830 x8_1) ∧ Aside0 (Kd.R k95 95 w' w.heap.size (fun k_ => k_ ≠ gb835) u9 x9_1) ∧ Aside0 (w'.heap[gb835]? = some (.cells #[.int .i64 x836000_2, .int .i64 x836001_2, .int .i64 x836002_2] 95 (0, 0))) ∧ Aside0 (Below w.heap.size w w'))
            case atStart => exact ⟨(0), ((-1)), (0), (0), (by first | rfl | (simp; done) | (simp [*]; done)), H', ⟨Nat.le_refl _⟩, ⟨by (with_reducible repeat (first | apply Kd.R_alloc | apply Kd.R_drewN | apply Kd.R_drew)); exact Kd.R_mono (Kd.R_far (p := ⟨gb835, 2, none⟩) (Kd.R_far (p := ⟨gb835, 1, none⟩) (Kd.R_far (p := ⟨gb835, 0, none⟩) (Kd.R_types HO_8.out BK835.out (by decide)) (fun _ hk => hk.2) (.int .i64 (-1))) (fun _ hk => hk.2) (.int .i64 0)) (fun _ hk => hk.2) (.int .i64 0)) (fun _ hk => trivial)⟩, ⟨by (with_reducible repeat (first | apply Kd.R_alloc | apply Kd.R_drewN | apply Kd.R_drew)); exact Kd.R_mono (Kd.R_far (p := ⟨gb835, 2, none⟩) (Kd.R_far (p := ⟨gb835, 1, none⟩) (Kd.R_far (p := ⟨gb835, 0, none⟩) (Kd.R_mono HO_9.out (fun k_ hk => (⟨hk, hk.2⟩ : _ ∧ k_ ≠ gb835))) (fun _ hk => hk.2) (.int .i64 (-1))) (fun _ hk => hk.2) (.int .i64 0)) (fun _ hk => hk.2) (.int .i64 0)) (fun _ hk => hk.1.2)⟩, ⟨by (with_reducible repeat (first | refine blk_drewN ?_ _ | refine blk_drew ?_ | refine blk_alloc ?_ _)); refine blk_put (cs := #[.int .i64 (-1), .int .i64 0, .int .i64 0]) ?_ 2 _ rfl; (with_reducible repeat (first | refine blk_drewN ?_ _ | refine blk_drew ?_ | refine blk_alloc ?_ _)); refine blk_put (cs := #[.int .i64 (-1), .int .i64 0, .int .i64 0]) ?_ 1 _ rfl; (with_reducible repeat (first | refine blk_drewN ?_ _ | refine blk_drew ?_ | refine blk_alloc ?_ _)); refine blk_put (cs := #[.int .i64 0, .int .i64 0, .int .i64 0]) ?_ 0 _ rfl; (with_reducible repeat (first | refine blk_drewN ?_ _ | refine blk_drew ?_ | refine blk_alloc ?_ _)); exact BK835.out⟩, ⟨by repeat (first | (with_reducible first | exact HB.out | apply below_alloc | apply pw_below_drewN | apply below_drew1 | refine below_set ?_ GE835.out) | exact HB.out)⟩⟩
            case round =>
              clear H'
              try clear c1
              try clear p2
              try clear c4
              try clear c4b0
              try clear c4b1
              try clear c5
              try clear c5b0
              try clear c5b1
              try clear c8
              try clear c10
              try clear c10b0
              try clear hcz12_0
              try clear hcz12_1
              try clear hcz12_2
              try clear hfz12_0
              try clear hfz12_1
              try clear hfz12_2
              try clear p2
              obtain ⟨x24_2, x836000_2, x836001_2, x836002_2, rfl, HA, HK2, HO_8, HO_9, BK835, HB⟩ := hrel
              cases gk with
              | zero => exact absurd HA.out (by simp [impl_give.l1])
              | succ k2 =>
                have H := HA.out
                clear HA
                simp only [impl_give.l1] at H
                by_cases c13 : x24_2 < (l1.length : Int)
                · rw [if_pos c13] at H
                  have c13b0 : decide (x24_2 < (l1.length : Int)) = true := decide_eq_true c13
                  clear c13
                  by_cases c14 : 0 ≤ x24_2
                  · rw [if_pos c14] at H
                    have c14b0 : decide (0 ≤ x24_2) = true := decide_eq_true c14
                    clear c14
                    by_cases c15 : x24_2 < (l1.length : Int)
                    · rw [if_pos c15] at H
                      have c15b0 : decide (x24_2 < (l1.length : Int)) = true := decide_eq_true c15
                      clear c15
                      by_cases c16 : x24_2 < (x8_1.length : Int)
                      · rw [if_pos c16] at H
                        have c16b0 : decide (x24_2 < (x8_1.length : Int)) = true := decide_eq_true c16
                        clear c16
                        replace H := Option.bind_eq_some_iff.mp H
                        obtain ⟨⟨t843, t844⟩, A170, H⟩ := H
                        replace H : (if x836000_2 < 0 then (impl_give.l1 k2 a0 l1 x8_1 x9_1 a2 x19_1 l1 (l1.length : Int) (wrap64 (x24_2 + 1)) x24_2 t843 t844) else ((impl_worth_against.f k2 t843 t844 x836001_2 x836002_2).bind fun t846 => (if t846 > 0 then (impl_give.l1 k2 a0 l1 x8_1 x9_1 a2 x19_1 l1 (l1.length : Int) (wrap64 (x24_2 + 1)) x24_2 t843 t844) else (impl_give.l1 k2 a0 l1 x8_1 x9_1 a2 x19_1 l1 (l1.length : Int) (wrap64 (x24_2 + 1)) x836000_2 x836001_2 x836002_2)))) = some (r1, r2) := H
                        have A17 := Aside0.mk A170
                        clear A170
                        by_cases c18 : x836000_2 < 0
                        · rw [if_pos c18] at H
                          have c18b0 : decide (x836000_2 < 0) = true := decide_eq_true c18
                          clear c18
                          have H' := Aside0.mk H
                          clear H
                          have p841 : 0 ≤ (x24_2 : Int) := of_decide_eq_true (by first | (with_reducible assumption) | assumption)
                          have q841 : x24_2 < (l1.length : Int) := of_decide_eq_true (by first | (with_reducible assumption) | assumption)
                          obtain ⟨ad841, e841, hx841_0⟩ := Kd.at_int HR1.out x24_2 p841 q841
                          cases e841
                          replace hx841_0 := (HB.out.cell (World.block_lt_of_cell? w _ hx841_0)).trans hx841_0
                          replace p841 := eq_true p841
                          replace q841 := eq_true q841
                          obtain ⟨Ao19, co19, eo19⟩ := Kd.R_slice HO_8.out
                          subst eo19
                          have p842 : 0 ≤ (x24_2 : Int) := of_decide_eq_true (by first | (with_reducible assumption) | assumption)
                          have q842 : x24_2 < (x8_1.length : Int) := of_decide_eq_true (by first | (with_reducible assumption) | assumption)
                          obtain ⟨ad842, e842, hx842_0⟩ := Kd.at_int (Kd.R_reads' HO_8.out).2.2 x24_2 p842 q842
                          cases e842
                          replace p842 := eq_true p842
                          replace q842 := eq_true q842
                          go_wp2_with (first | ((with_reducible refine gate_callee (f := 87) rfl ?_); refine goesL_ (some 35) rfl rfl Try.func87 (by kernel_rfl) rfl #[.int .i64 a0, .int .i64 (rd l1 x24_2), .int .i64 (rd x8_1 x24_2)] rfl (by (try simp only [List.map_toArray, List.map_cons, List.map_nil]); first | done | rfl | (simp only [List.length_drop, List.length_take]; rfl)) ?_; (with_reducible refine (impl_worthOf.calls a0 (rd l1 x24_2) (rd x8_1 x24_2) t843 t844 _ A17.out).mono ?_); rintro e w20 ⟨rfl, hb⟩; refine ⟨_, rfl, ?_⟩; have n0_ := Aside0.mk (Kd.R_below (by (with_reducible repeat (first | apply Kd.R_alloc | apply Kd.R_drewN | apply Kd.R_drew)); exact HO_8.out) hb); have n1_ := Aside0.mk (Kd.R_below (by (with_reducible repeat (first | apply Kd.R_alloc | apply Kd.R_drewN | apply Kd.R_drew)); exact HO_9.out) hb); have n2_ := Aside0.mk (blk_below (g := gb835) (o := .cells #[.int .i64 x836000_2, .int .i64 x836001_2, .int .i64 x836002_2] 95 (0, 0)) (by (with_reducible repeat (first | refine blk_drewN ?_ _ | refine blk_drew ?_ | refine blk_alloc ?_ _)); exact BK835.out) hb); have n3_ := Aside0.mk (below_step (by repeat (first | (with_reducible first | exact HB.out | apply below_alloc | apply pw_below_drewN | apply below_drew1 | refine below_set ?_ GE835.out) | exact HB.out)) hb); clear HO_8; clear HO_9; clear BK835; clear HB; have HO_8 := n0_; have HO_9 := n1_; have BK835 := n2_; have HB := n3_; clear n0_ n1_ n2_ n3_; (try clear hb); (try clear hb2); (try clear hk); (try clear hi)) | ((with_reducible refine gate_dst (N := 13) rfl ?_); refine box_event ?hg (N := 13) ?hd (cs := #[.int .i64 0, .int .i64 0]) (t := 85) ?hr ?_; (case hd => rfl); (case hg => rfl); (case hr => first | (go_simp; done) | (go_simp; rfl)); intro gb845 hg w21 hbox hb; have n0_ := Aside0.mk (Kd.R_below (by (with_reducible repeat (first | apply Kd.R_alloc | apply Kd.R_drewN | apply Kd.R_drew)); exact HO_8.out) hb); have n1_ := Aside0.mk (Kd.R_below (by (with_reducible repeat (first | apply Kd.R_alloc | apply Kd.R_drewN | apply Kd.R_drew)); exact HO_9.out) hb); have n2_ := Aside0.mk (blk_below (g := gb835) (o := .cells #[.int .i64 x836000_2, .int .i64 x836001_2, .int .i64 x836002_2] 95 (0, 0)) (by (with_reducible repeat (first | refine blk_drewN ?_ _ | refine blk_drew ?_ | refine blk_alloc ?_ _)); exact BK835.out) hb); have n3_ := Aside0.mk (below_step (by repeat (first | (with_reducible first | exact HB.out | apply below_alloc | apply pw_below_drewN | apply below_drew1 | refine below_set ?_ GE835.out) | exact HB.out)) hb); have n4_ := Aside0.mk (hbox); have n5_ := Aside0.mk ((by rw [hg]; exact (below_size (by repeat (first | (with_reducible first | exact HB.out | apply below_alloc | apply pw_below_drewN | apply below_drew1 | refine below_set ?_ GE835.out) | exact HB.out))) : w.heap.size ≤ gb845)); have n6_ := Aside0.mk ((by rw [hg]; exact (below_size (by repeat (first | (with_reducible first | exact HB.out | apply below_alloc | apply pw_below_drewN | apply below_drew1 | refine below_set ?_ GE835.out) | exact HB.out))) : w.heap.size ≤ gb845)); have n7_ := Aside0.mk ((by rw [hg]; exact Nat.ne_of_lt (blk_lt (g := gb835) (o := .cells #[.int .i64 x836000_2, .int .i64 x836001_2, .int .i64 x836002_2] 95 (0, 0)) (by (with_reducible repeat (first | refine blk_drewN ?_ _ | refine blk_drew ?_ | refine blk_alloc ?_ _)); exact BK835.out)) : gb835 ≠ gb845)); have n8_ := Aside0.mk ((by rw [hg]; exact Nat.ne_of_gt (blk_lt (g := gb835) (o := .cells #[.int .i64 x836000_2, .int .i64 x836001_2, .int .i64 x836002_2] 95 (0, 0)) (by (with_reducible repeat (first | refine blk_drewN ?_ _ | refine blk_drew ?_ | refine blk_alloc ?_ _)); exact BK835.out)) : gb845 ≠ gb835)); clear HO_8; clear HO_9; clear BK835; clear HB; have HO_8 := n0_; have HO_9 := n1_; have BK835 := n2_; have HB := n3_; have BK845 := n4_; have GW845 := n5_; have GE845 := n6_; have NB835_845 := n7_; have NB845_835 := n8_; clear n0_ n1_ n2_ n3_ n4_ n5_ n6_ n7_ n8_; clear hb hbox hg; have hnb22 := NB845_835.out; have hnc22 := NB835_845.out; have hcz23_0 : w21.cell? ⟨gb845, 0, none⟩ = some (.int .i64 0) := (blk_cell BK845.out 0).trans rfl; have hcz23_1 : w21.cell? ⟨gb845, 1, none⟩ = some (.int .i64 0) := (blk_cell BK845.out 1).trans rfl; have hfz23_0 := blk_frozen BK845.out 0; have hfz23_1 := blk_frozen BK845.out 1; have hcz24_0 : w21.cell? ⟨gb835, 0, none⟩ = some (.int .i64 x836000_2) := (blk_cell BK835.out 0).trans rfl; have hcz24_1 : w21.cell? ⟨gb835, 1, none⟩ = some (.int .i64 x836001_2) := (blk_cell BK835.out 1).trans rfl; have hcz24_2 : w21.cell? ⟨gb835, 2, none⟩ = some (.int .i64 x836002_2) := (blk_cell BK835.out 2).trans rfl; have hfz24_0 := blk_frozen BK835.out 0; have hfz24_1 := blk_frozen BK835.out 1; have hfz24_2 := blk_frozen BK835.out 2))
                          go_roundg k2
                          case measure => have := HK1.out; have := HK2.out; omega
                          case rel => exact ⟨(wrap64 (x24_2 + 1)), (x24_2), (t843), (t844), (by first | rfl | (simp; done) | (simp [*]; done)), H', ⟨by have := HK1.out; have := HK2.out; omega⟩, ⟨by (with_reducible repeat (first | apply Kd.R_alloc | apply Kd.R_drewN | apply Kd.R_drew)); exact Kd.R_mono (Kd.R_far (p := ⟨gb835, 2, none⟩) (Kd.R_far (p := ⟨gb835, 1, none⟩) (Kd.R_far (p := ⟨gb835, 0, none⟩) (Kd.R_far (p := ⟨gb845, 1, none⟩) (Kd.R_far (p := ⟨gb845, 0, none⟩) (Kd.R_types (Kd.R_types HO_8.out BK845.out (by decide)) BK835.out (by decide)) (fun _ hk => hk.1.2) (.int .i64 t843)) (fun _ hk => hk.1.2) (.int .i64 t844)) (fun _ hk => hk.2) (.int .i64 x24_2)) (fun _ hk => hk.2) (.int .i64 t843)) (fun _ hk => hk.2) (.int .i64 t844)) (fun _ hk => trivial)⟩, ⟨by (with_reducible repeat (first | apply Kd.R_alloc | apply Kd.R_drewN | apply Kd.R_drew)); exact Kd.R_mono (Kd.R_far (p := ⟨gb835, 2, none⟩) (Kd.R_far (p := ⟨gb835, 1, none⟩) (Kd.R_far (p := ⟨gb835, 0, none⟩) (Kd.R_far (p := ⟨gb845, 1, none⟩) (Kd.R_far (p := ⟨gb845, 0, none⟩) (Kd.R_mono (Kd.R_types HO_9.out BK845.out (by decide)) (fun k_ hk => (⟨hk, hk.1⟩ : _ ∧ k_ ≠ gb835))) (fun _ hk => hk.1.2) (.int .i64 t843)) (fun _ hk => hk.1.2) (.int .i64 t844)) (fun _ hk => hk.2) (.int .i64 x24_2)) (fun _ hk => hk.2) (.int .i64 t843)) (fun _ hk => hk.2) (.int .i64 t844)) (fun _ hk => hk.1.1)⟩, ⟨by (with_reducible repeat (first | refine blk_drewN ?_ _ | refine blk_drew ?_ | refine blk_alloc ?_ _)); refine blk_put (cs := #[.int .i64 x24_2, .int .i64 t843, .int .i64 x836002_2]) ?_ 2 _ rfl; (with_reducible repeat (first | refine blk_drewN ?_ _ | refine blk_drew ?_ | refine blk_alloc ?_ _)); refine blk_put (cs := #[.int .i64 x24_2, .int .i64 x836001_2, .int .i64 x836002_2]) ?_ 1 _ rfl; (with_reducible repeat (first | refine blk_drewN ?_ _ | refine blk_drew ?_ | refine blk_alloc ?_ _)); refine blk_put (cs := #[.int .i64 x836000_2, .int .i64 x836001_2, .int .i64 x836002_2]) ?_ 0 _ rfl; (with_reducible repeat (first | refine blk_drewN ?_ _ | refine blk_drew ?_ | refine blk_alloc ?_ _)); refine blk_far ?_ NB835_845.out _; (with_reducible repeat (first | refine blk_drewN ?_ _ | refine blk_drew ?_ | refine blk_alloc ?_ _)); refine blk_far ?_ NB835_845.out _; (with_reducible repeat (first | refine blk_drewN ?_ _ | refine blk_drew ?_ | refine blk_alloc ?_ _)); exact BK835.out⟩, ⟨by repeat (first | (with_reducible first | exact HB.out | apply below_alloc | apply pw_below_drewN | apply below_drew1 | refine below_set ?_ GE835.out | refine below_set ?_ GE845.out) | exact HB.out)⟩⟩
                        · rw [if_neg c18] at H
                          have c18b0 : decide (x836000_2 < 0) = false := decide_eq_false c18
                          clear c18
                          replace H := Option.bind_eq_some_iff.mp H
                          obtain ⟨t846, A250, H⟩ := H
                          replace H : (if t846 > 0 then (impl_give.l1 k2 a0 l1 x8_1 x9_1 a2 x19_1 l1 (l1.length : Int) (wrap64 (x24_2 + 1)) x24_2 t843 t844) else (impl_give.l1 k2 a0 l1 x8_1 x9_1 a2 x19_1 l1 (l1.length : Int) (wrap64 (x24_2 + 1)) x836000_2 x836001_2 x836002_2)) = some (r1, r2) := H
                          have A25 := Aside0.mk A250
                          clear A250
                          by_cases c26 : t846 > 0
                          · rw [if_pos c26] at H
                            have c26b0 : decide (0 < t846) = true := decide_eq_true c26
                            clear c26
                            have H' := Aside0.mk H
                            clear H
                            have p841 : 0 ≤ (x24_2 : Int) := of_decide_eq_true (by first | (with_reducible assumption) | assumption)
                            have q841 : x24_2 < (l1.length : Int) := of_decide_eq_true (by first | (with_reducible assumption) | assumption)
                            obtain ⟨ad841, e841, hx841_0⟩ := Kd.at_int HR1.out x24_2 p841 q841
                            cases e841
                            replace hx841_0 := (HB.out.cell (World.block_lt_of_cell? w _ hx841_0)).trans hx841_0
                            replace p841 := eq_true p841
                            replace q841 := eq_true q841
                            obtain ⟨Ao27, co27, eo27⟩ := Kd.R_slice HO_8.out
                            subst eo27
                            have p842 : 0 ≤ (x24_2 : Int) := of_decide_eq_true (by first | (with_reducible assumption) | assumption)
                            have q842 : x24_2 < (x8_1.length : Int) := of_decide_eq_true (by first | (with_reducible assumption) | assumption)
                            obtain ⟨ad842, e842, hx842_0⟩ := Kd.at_int (Kd.R_reads' HO_8.out).2.2 x24_2 p842 q842
                            cases e842
                            replace p842 := eq_true p842
                            replace q842 := eq_true q842
                            go_wp2_with (first | ((with_reducible refine gate_callee (f := 87) rfl ?_); refine goesL_ (some 35) rfl rfl Try.func87 (by kernel_rfl) rfl #[.int .i64 a0, .int .i64 (rd l1 x24_2), .int .i64 (rd x8_1 x24_2)] rfl (by (try simp only [List.map_toArray, List.map_cons, List.map_nil]); first | done | rfl | (simp only [List.length_drop, List.length_take]; rfl)) ?_; (with_reducible refine (impl_worthOf.calls a0 (rd l1 x24_2) (rd x8_1 x24_2) t843 t844 _ A17.out).mono ?_); rintro e w28 ⟨rfl, hb⟩; refine ⟨_, rfl, ?_⟩; have n0_ := Aside0.mk (Kd.R_below (by (with_reducible repeat (first | apply Kd.R_alloc | apply Kd.R_drewN | apply Kd.R_drew)); exact HO_8.out) hb); have n1_ := Aside0.mk (Kd.R_below (by (with_reducible repeat (first | apply Kd.R_alloc | apply Kd.R_drewN | apply Kd.R_drew)); exact HO_9.out) hb); have n2_ := Aside0.mk (blk_below (g := gb835) (o := .cells #[.int .i64 x836000_2, .int .i64 x836001_2, .int .i64 x836002_2] 95 (0, 0)) (by (with_reducible repeat (first | refine blk_drewN ?_ _ | refine blk_drew ?_ | refine blk_alloc ?_ _)); exact BK835.out) hb); have n3_ := Aside0.mk (below_step (by repeat (first | (with_reducible first | exact HB.out | apply below_alloc | apply pw_below_drewN | apply below_drew1 | refine below_set ?_ GE835.out) | exact HB.out)) hb); clear HO_8; clear HO_9; clear BK835; clear HB; have HO_8 := n0_; have HO_9 := n1_; have BK835 := n2_; have HB := n3_; clear n0_ n1_ n2_ n3_; (try clear hb); (try clear hb2); (try clear hk); (try clear hi)) | ((with_reducible refine gate_dst (N := 13) rfl ?_); refine box_event ?hg (N := 13) ?hd (cs := #[.int .i64 0, .int .i64 0]) (t := 85) ?hr ?_; (case hd => rfl); (case hg => rfl); (case hr => first | (go_simp; done) | (go_simp; rfl)); intro gb845 hg w29 hbox hb; have n0_ := Aside0.mk (Kd.R_below (by (with_reducible repeat (first | apply Kd.R_alloc | apply Kd.R_drewN | apply Kd.R_drew)); exact HO_8.out) hb); have n1_ := Aside0.mk (Kd.R_below (by (with_reducible repeat (first | apply Kd.R_alloc | apply Kd.R_drewN | apply Kd.R_drew)); exact HO_9.out) hb); have n2_ := Aside0.mk (blk_below (g := gb835) (o := .cells #[.int .i64 x836000_2, .int .i64 x836001_2, .int .i64 x836002_2] 95 (0, 0)) (by (with_reducible repeat (first | refine blk_drewN ?_ _ | refine blk_drew ?_ | refine blk_alloc ?_ _)); exact BK835.out) hb); have n3_ := Aside0.mk (below_step (by repeat (first | (with_reducible first | exact HB.out | apply below_alloc | apply pw_below_drewN | apply below_drew1 | refine below_set ?_ GE835.out) | exact HB.out)) hb); have n4_ := Aside0.mk (hbox); have n5_ := Aside0.mk ((by rw [hg]; exact (below_size (by repeat (first | (with_reducible first | exact HB.out | apply below_alloc | apply pw_below_drewN | apply below_drew1 | refine below_set ?_ GE835.out) | exact HB.out))) : w.heap.size ≤ gb845)); have n6_ := Aside0.mk ((by rw [hg]; exact (below_size (by repeat (first | (with_reducible first | exact HB.out | apply below_alloc | apply pw_below_drewN | apply below_drew1 | refine below_set ?_ GE835.out) | exact HB.out))) : w.heap.size ≤ gb845)); have n7_ := Aside0.mk ((by rw [hg]; exact Nat.ne_of_lt (blk_lt (g := gb835) (o := .cells #[.int .i64 x836000_2, .int .i64 x836001_2, .int .i64 x836002_2] 95 (0, 0)) (by (with_reducible repeat (first | refine blk_drewN ?_ _ | refine blk_drew ?_ | refine blk_alloc ?_ _)); exact BK835.out)) : gb835 ≠ gb845)); have n8_ := Aside0.mk ((by rw [hg]; exact Nat.ne_of_gt (blk_lt (g := gb835) (o := .cells #[.int .i64 x836000_2, .int .i64 x836001_2, .int .i64 x836002_2] 95 (0, 0)) (by (with_reducible repeat (first | refine blk_drewN ?_ _ | refine blk_drew ?_ | refine blk_alloc ?_ _)); exact BK835.out)) : gb845 ≠ gb835)); clear HO_8; clear HO_9; clear BK835; clear HB; have HO_8 := n0_; have HO_9 := n1_; have BK835 := n2_; have HB := n3_; have BK845 := n4_; have GW845 := n5_; have GE845 := n6_; have NB835_845 := n7_; have NB845_835 := n8_; clear n0_ n1_ n2_ n3_ n4_ n5_ n6_ n7_ n8_; clear hb hbox hg; have hnb30 := NB845_835.out; have hnc30 := NB835_845.out; have hcz31_0 : w29.cell? ⟨gb845, 0, none⟩ = some (.int .i64 0) := (blk_cell BK845.out 0).trans rfl; have hcz31_1 : w29.cell? ⟨gb845, 1, none⟩ = some (.int .i64 0) := (blk_cell BK845.out 1).trans rfl; have hfz31_0 := blk_frozen BK845.out 0; have hfz31_1 := blk_frozen BK845.out 1; have hcz32_0 : w29.cell? ⟨gb835, 0, none⟩ = some (.int .i64 x836000_2) := (blk_cell BK835.out 0).trans rfl; have hcz32_1 : w29.cell? ⟨gb835, 1, none⟩ = some (.int .i64 x836001_2) := (blk_cell BK835.out 1).trans rfl; have hcz32_2 : w29.cell? ⟨gb835, 2, none⟩ = some (.int .i64 x836002_2) := (blk_cell BK835.out 2).trans rfl; have hfz32_0 := blk_frozen BK835.out 0; have hfz32_1 := blk_frozen BK835.out 1; have hfz32_2 := blk_frozen BK835.out 2) | (go_at_call 88; (with_reducible refine (impl_worth_against.calls k2 t843 t844 x836001_2 x836002_2 t846 _ A25.out).mono ?_); rintro e w33 ⟨rfl, hb⟩; have n0_ := Aside0.mk (Kd.R_below (by (with_reducible repeat (first | apply Kd.R_alloc | apply Kd.R_drewN | apply Kd.R_drew)); exact (Kd.R_mono (Kd.R_far (p := ⟨gb845, 1, none⟩) (Kd.R_far (p := ⟨gb845, 0, none⟩) (Kd.R_types HO_8.out BK845.out (by decide)) (fun _ hk => hk.2) (.int .i64 t843)) (fun _ hk => hk.2) (.int .i64 t844)) (fun _ h_ => h_.1))) hb); have n1_ := Aside0.mk (Kd.R_below (by (with_reducible repeat (first | apply Kd.R_alloc | apply Kd.R_drewN | apply Kd.R_drew)); exact (Kd.R_mono (Kd.R_far (p := ⟨gb845, 1, none⟩) (Kd.R_far (p := ⟨gb845, 0, none⟩) (Kd.R_types HO_9.out BK845.out (by decide)) (fun _ hk => hk.2) (.int .i64 t843)) (fun _ hk => hk.2) (.int .i64 t844)) (fun _ h_ => h_.1))) hb); have n2_ := Aside0.mk (blk_below (g := gb835) (o := .cells #[.int .i64 x836000_2, .int .i64 x836001_2, .int .i64 x836002_2] 95 (0, 0)) (by (with_reducible repeat (first | refine blk_drewN ?_ _ | refine blk_drew ?_ | refine blk_alloc ?_ _)); refine blk_far ?_ NB835_845.out _; (with_reducible repeat (first | refine blk_drewN ?_ _ | refine blk_drew ?_ | refine blk_alloc ?_ _)); refine blk_far ?_ NB835_845.out _; (with_reducible repeat (first | refine blk_drewN ?_ _ | refine blk_drew ?_ | refine blk_alloc ?_ _)); exact BK835.out) hb); have n3_ := Aside0.mk (blk_below (g := gb845) (o := .cells #[.int .i64 t843, .int .i64 t844] 85 (0, 0)) (by (with_reducible repeat (first | refine blk_drewN ?_ _ | refine blk_drew ?_ | refine blk_alloc ?_ _)); refine blk_put (cs := #[.int .i64 t843, .int .i64 0]) ?_ 1 _ rfl; (with_reducible repeat (first | refine blk_drewN ?_ _ | refine blk_drew ?_ | refine blk_alloc ?_ _)); refine blk_put (cs := #[.int .i64 0, .int .i64 0]) ?_ 0 _ rfl; (with_reducible repeat (first | refine blk_drewN ?_ _ | refine blk_drew ?_ | refine blk_alloc ?_ _)); exact BK845.out) hb); have n4_ := Aside0.mk (below_step (by repeat (first | (with_reducible first | exact HB.out | apply below_alloc | apply pw_below_drewN | apply below_drew1 | refine below_set ?_ GE835.out | refine below_set ?_ GE845.out) | exact HB.out)) hb); clear HO_8; clear HO_9; clear BK835; clear BK845; clear HB; have HO_8 := n0_; have HO_9 := n1_; have BK835 := n2_; have BK845 := n3_; have HB := n4_; clear n0_ n1_ n2_ n3_ n4_; (try clear hb); (try clear hb2); (try clear hk); (try clear hi); have hcz34_0 : w33.cell? ⟨gb845, 0, none⟩ = some (.int .i64 t843) := (blk_cell BK845.out 0).trans rfl; have hcz34_1 : w33.cell? ⟨gb845, 1, none⟩ = some (.int .i64 t844) := (blk_cell BK845.out 1).trans rfl; have hfz34_0 := blk_frozen BK845.out 0; have hfz34_1 := blk_frozen BK845.out 1; have hcz35_0 : w33.cell? ⟨gb835, 0, none⟩ = some (.int .i64 x836000_2) := (blk_cell BK835.out 0).trans rfl; have hcz35_1 : w33.cell? ⟨gb835, 1, none⟩ = some (.int .i64 x836001_2) := (blk_cell BK835.out 1).trans rfl; have hcz35_2 : w33.cell? ⟨gb835, 2, none⟩ = some (.int .i64 x836002_2) := (blk_cell BK835.out 2).trans rfl; have hfz35_0 := blk_frozen BK835.out 0; have hfz35_1 := blk_frozen BK835.out 1; have hfz35_2 := blk_frozen BK835.out 2))
                            go_roundg k2
                            case measure => have := HK1.out; have := HK2.out; omega
                            case rel => exact ⟨(wrap64 (x24_2 + 1)), (x24_2), (t843), (t844), (by first | rfl | (simp; done) | (simp [*]; done)), H', ⟨by have := HK1.out; have := HK2.out; omega⟩, ⟨by (with_reducible repeat (first | apply Kd.R_alloc | apply Kd.R_drewN | apply Kd.R_drew)); exact Kd.R_mono (Kd.R_far (p := ⟨gb835, 2, none⟩) (Kd.R_far (p := ⟨gb835, 1, none⟩) (Kd.R_far (p := ⟨gb835, 0, none⟩) (Kd.R_types HO_8.out BK835.out (by decide)) (fun _ hk => hk.2) (.int .i64 x24_2)) (fun _ hk => hk.2) (.int .i64 t843)) (fun _ hk => hk.2) (.int .i64 t844)) (fun _ hk => trivial)⟩, ⟨by (with_reducible repeat (first | apply Kd.R_alloc | apply Kd.R_drewN | apply Kd.R_drew)); exact Kd.R_mono (Kd.R_far (p := ⟨gb835, 2, none⟩) (Kd.R_far (p := ⟨gb835, 1, none⟩) (Kd.R_far (p := ⟨gb835, 0, none⟩) (Kd.R_mono HO_9.out (fun k_ hk => (⟨hk, hk⟩ : _ ∧ k_ ≠ gb835))) (fun _ hk => hk.2) (.int .i64 x24_2)) (fun _ hk => hk.2) (.int .i64 t843)) (fun _ hk => hk.2) (.int .i64 t844)) (fun _ hk => hk.1)⟩, ⟨by (with_reducible repeat (first | refine blk_drewN ?_ _ | refine blk_drew ?_ | refine blk_alloc ?_ _)); refine blk_put (cs := #[.int .i64 x24_2, .int .i64 t843, .int .i64 x836002_2]) ?_ 2 _ rfl; (with_reducible repeat (first | refine blk_drewN ?_ _ | refine blk_drew ?_ | refine blk_alloc ?_ _)); refine blk_put (cs := #[.int .i64 x24_2, .int .i64 x836001_2, .int .i64 x836002_2]) ?_ 1 _ rfl; (with_reducible repeat (first | refine blk_drewN ?_ _ | refine blk_drew ?_ | refine blk_alloc ?_ _)); refine blk_put (cs := #[.int .i64 x836000_2, .int .i64 x836001_2, .int .i64 x836002_2]) ?_ 0 _ rfl; (with_reducible repeat (first | refine blk_drewN ?_ _ | refine blk_drew ?_ | refine blk_alloc ?_ _)); exact BK835.out⟩, ⟨by repeat (first | (with_reducible first | exact HB.out | apply below_alloc | apply pw_below_drewN | apply below_drew1 | refine below_set ?_ GE835.out | refine below_set ?_ GE845.out) | exact HB.out)⟩⟩
                          · rw [if_neg c26] at H
                            have c26b0 : decide (0 < t846) = false := decide_eq_false c26
                            clear c26
                            have H' := Aside0.mk H
                            clear H
                            have p841 : 0 ≤ (x24_2 : Int) := of_decide_eq_true (by first | (with_reducible assumption) | assumption)
                            have q841 : x24_2 < (l1.length : Int) := of_decide_eq_true (by first | (with_reducible assumption) | assumption)
                            obtain ⟨ad841, e841, hx841_0⟩ := Kd.at_int HR1.out x24_2 p841 q841
                            cases e841
                            replace hx841_0 := (HB.out.cell (World.block_lt_of_cell? w _ hx841_0)).trans hx841_0
                            replace p841 := eq_true p841
                            replace q841 := eq_true q841
                            obtain ⟨Ao36, co36, eo36⟩ := Kd.R_slice HO_8.out
                            subst eo36
                            have p842 : 0 ≤ (x24_2 : Int) := of_decide_eq_true (by first | (with_reducible assumption) | assumption)
                            have q842 : x24_2 < (x8_1.length : Int) := of_decide_eq_true (by first | (with_reducible assumption) | assumption)
                            obtain ⟨ad842, e842, hx842_0⟩ := Kd.at_int (Kd.R_reads' HO_8.out).2.2 x24_2 p842 q842
                            cases e842
                            replace p842 := eq_true p842
                            replace q842 := eq_true q842
                            go_wp2_with (first | ((with_reducible refine gate_callee (f := 87) rfl ?_); refine goesL_ (some 35) rfl rfl Try.func87 (by kernel_rfl) rfl #[.int .i64 a0, .int .i64 (rd l1 x24_2), .int .i64 (rd x8_1 x24_2)] rfl (by (try simp only [List.map_toArray, List.map_cons, List.map_nil]); first | done | rfl | (simp only [List.length_drop, List.length_take]; rfl)) ?_; (with_reducible refine (impl_worthOf.calls a0 (rd l1 x24_2) (rd x8_1 x24_2) t843 t844 _ A17.out).mono ?_); rintro e w37 ⟨rfl, hb⟩; refine ⟨_, rfl, ?_⟩; have n0_ := Aside0.mk (Kd.R_below (by (with_reducible repeat (first | apply Kd.R_alloc | apply Kd.R_drewN | apply Kd.R_drew)); exact HO_8.out) hb); have n1_ := Aside0.mk (Kd.R_below (by (with_reducible repeat (first | apply Kd.R_alloc | apply Kd.R_drewN | apply Kd.R_drew)); exact HO_9.out) hb); have n2_ := Aside0.mk (blk_below (g := gb835) (o := .cells #[.int .i64 x836000_2, .int .i64 x836001_2, .int .i64 x836002_2] 95 (0, 0)) (by (with_reducible repeat (first | refine blk_drewN ?_ _ | refine blk_drew ?_ | refine blk_alloc ?_ _)); exact BK835.out) hb); have n3_ := Aside0.mk (below_step (by repeat (first | (with_reducible first | exact HB.out | apply below_alloc | apply pw_below_drewN | apply below_drew1 | refine below_set ?_ GE835.out) | exact HB.out)) hb); clear HO_8; clear HO_9; clear BK835; clear HB; have HO_8 := n0_; have HO_9 := n1_; have BK835 := n2_; have HB := n3_; clear n0_ n1_ n2_ n3_; (try clear hb); (try clear hb2); (try clear hk); (try clear hi)) | ((with_reducible refine gate_dst (N := 13) rfl ?_); refine box_event ?hg (N := 13) ?hd (cs := #[.int .i64 0, .int .i64 0]) (t := 85) ?hr ?_; (case hd => rfl); (case hg => rfl); (case hr => first | (go_simp; done) | (go_simp; rfl)); intro gb845 hg w38 hbox hb; have n0_ := Aside0.mk (Kd.R_below (by (with_reducible repeat (first | apply Kd.R_alloc | apply Kd.R_drewN | apply Kd.R_drew)); exact HO_8.out) hb); have n1_ := Aside0.mk (Kd.R_below (by (with_reducible repeat (first | apply Kd.R_alloc | apply Kd.R_drewN | apply Kd.R_drew)); exact HO_9.out) hb); have n2_ := Aside0.mk (blk_below (g := gb835) (o := .cells #[.int .i64 x836000_2, .int .i64 x836001_2, .int .i64 x836002_2] 95 (0, 0)) (by (with_reducible repeat (first | refine blk_drewN ?_ _ | refine blk_drew ?_ | refine blk_alloc ?_ _)); exact BK835.out) hb); have n3_ := Aside0.mk (below_step (by repeat (first | (with_reducible first | exact HB.out | apply below_alloc | apply pw_below_drewN | apply below_drew1 | refine below_set ?_ GE835.out) | exact HB.out)) hb); have n4_ := Aside0.mk (hbox); have n5_ := Aside0.mk ((by rw [hg]; exact (below_size (by repeat (first | (with_reducible first | exact HB.out | apply below_alloc | apply pw_below_drewN | apply below_drew1 | refine below_set ?_ GE835.out) | exact HB.out))) : w.heap.size ≤ gb845)); have n6_ := Aside0.mk ((by rw [hg]; exact (below_size (by repeat (first | (with_reducible first | exact HB.out | apply below_alloc | apply pw_below_drewN | apply below_drew1 | refine below_set ?_ GE835.out) | exact HB.out))) : w.heap.size ≤ gb845)); have n7_ := Aside0.mk ((by rw [hg]; exact Nat.ne_of_lt (blk_lt (g := gb835) (o := .cells #[.int .i64 x836000_2, .int .i64 x836001_2, .int .i64 x836002_2] 95 (0, 0)) (by (with_reducible repeat (first | refine blk_drewN ?_ _ | refine blk_drew ?_ | refine blk_alloc ?_ _)); exact BK835.out)) : gb835 ≠ gb845)); have n8_ := Aside0.mk ((by rw [hg]; exact Nat.ne_of_gt (blk_lt (g := gb835) (o := .cells #[.int .i64 x836000_2, .int .i64 x836001_2, .int .i64 x836002_2] 95 (0, 0)) (by (with_reducible repeat (first | refine blk_drewN ?_ _ | refine blk_drew ?_ | refine blk_alloc ?_ _)); exact BK835.out)) : gb845 ≠ gb835)); clear HO_8; clear HO_9; clear BK835; clear HB; have HO_8 := n0_; have HO_9 := n1_; have BK835 := n2_; have HB := n3_; have BK845 := n4_; have GW845 := n5_; have GE845 := n6_; have NB835_845 := n7_; have NB845_835 := n8_; clear n0_ n1_ n2_ n3_ n4_ n5_ n6_ n7_ n8_; clear hb hbox hg; have hnb39 := NB845_835.out; have hnc39 := NB835_845.out; have hcz40_0 : w38.cell? ⟨gb845, 0, none⟩ = some (.int .i64 0) := (blk_cell BK845.out 0).trans rfl; have hcz40_1 : w38.cell? ⟨gb845, 1, none⟩ = some (.int .i64 0) := (blk_cell BK845.out 1).trans rfl; have hfz40_0 := blk_frozen BK845.out 0; have hfz40_1 := blk_frozen BK845.out 1; have hcz41_0 : w38.cell? ⟨gb835, 0, none⟩ = some (.int .i64 x836000_2) := (blk_cell BK835.out 0).trans rfl; have hcz41_1 : w38.cell? ⟨gb835, 1, none⟩ = some (.int .i64 x836001_2) := (blk_cell BK835.out 1).trans rfl; have hcz41_2 : w38.cell? ⟨gb835, 2, none⟩ = some (.int .i64 x836002_2) := (blk_cell BK835.out 2).trans rfl; have hfz41_0 := blk_frozen BK835.out 0; have hfz41_1 := blk_frozen BK835.out 1; have hfz41_2 := blk_frozen BK835.out 2) | (go_at_call 88; (with_reducible refine (impl_worth_against.calls k2 t843 t844 x836001_2 x836002_2 t846 _ A25.out).mono ?_); rintro e w42 ⟨rfl, hb⟩; have n0_ := Aside0.mk (Kd.R_below (by (with_reducible repeat (first | apply Kd.R_alloc | apply Kd.R_drewN | apply Kd.R_drew)); exact (Kd.R_mono (Kd.R_far (p := ⟨gb845, 1, none⟩) (Kd.R_far (p := ⟨gb845, 0, none⟩) (Kd.R_types HO_8.out BK845.out (by decide)) (fun _ hk => hk.2) (.int .i64 t843)) (fun _ hk => hk.2) (.int .i64 t844)) (fun _ h_ => h_.1))) hb); have n1_ := Aside0.mk (Kd.R_below (by (with_reducible repeat (first | apply Kd.R_alloc | apply Kd.R_drewN | apply Kd.R_drew)); exact (Kd.R_mono (Kd.R_far (p := ⟨gb845, 1, none⟩) (Kd.R_far (p := ⟨gb845, 0, none⟩) (Kd.R_types HO_9.out BK845.out (by decide)) (fun _ hk => hk.2) (.int .i64 t843)) (fun _ hk => hk.2) (.int .i64 t844)) (fun _ h_ => h_.1))) hb); have n2_ := Aside0.mk (blk_below (g := gb835) (o := .cells #[.int .i64 x836000_2, .int .i64 x836001_2, .int .i64 x836002_2] 95 (0, 0)) (by (with_reducible repeat (first | refine blk_drewN ?_ _ | refine blk_drew ?_ | refine blk_alloc ?_ _)); refine blk_far ?_ NB835_845.out _; (with_reducible repeat (first | refine blk_drewN ?_ _ | refine blk_drew ?_ | refine blk_alloc ?_ _)); refine blk_far ?_ NB835_845.out _; (with_reducible repeat (first | refine blk_drewN ?_ _ | refine blk_drew ?_ | refine blk_alloc ?_ _)); exact BK835.out) hb); have n3_ := Aside0.mk (blk_below (g := gb845) (o := .cells #[.int .i64 t843, .int .i64 t844] 85 (0, 0)) (by (with_reducible repeat (first | refine blk_drewN ?_ _ | refine blk_drew ?_ | refine blk_alloc ?_ _)); refine blk_put (cs := #[.int .i64 t843, .int .i64 0]) ?_ 1 _ rfl; (with_reducible repeat (first | refine blk_drewN ?_ _ | refine blk_drew ?_ | refine blk_alloc ?_ _)); refine blk_put (cs := #[.int .i64 0, .int .i64 0]) ?_ 0 _ rfl; (with_reducible repeat (first | refine blk_drewN ?_ _ | refine blk_drew ?_ | refine blk_alloc ?_ _)); exact BK845.out) hb); have n4_ := Aside0.mk (below_step (by repeat (first | (with_reducible first | exact HB.out | apply below_alloc | apply pw_below_drewN | apply below_drew1 | refine below_set ?_ GE835.out | refine below_set ?_ GE845.out) | exact HB.out)) hb); clear HO_8; clear HO_9; clear BK835; clear BK845; clear HB; have HO_8 := n0_; have HO_9 := n1_; have BK835 := n2_; have BK845 := n3_; have HB := n4_; clear n0_ n1_ n2_ n3_ n4_; (try clear hb); (try clear hb2); (try clear hk); (try clear hi)))
                            go_roundg k2
                            case measure => have := HK1.out; have := HK2.out; omega
                            case rel => exact ⟨(wrap64 (x24_2 + 1)), (x836000_2), (x836001_2), (x836002_2), (by first | rfl | (simp; done) | (simp [*]; done)), H', ⟨by have := HK1.out; have := HK2.out; omega⟩, ⟨by (with_reducible repeat (first | apply Kd.R_alloc | apply Kd.R_drewN | apply Kd.R_drew)); exact HO_8.out⟩, ⟨by (with_reducible repeat (first | apply Kd.R_alloc | apply Kd.R_drewN | apply Kd.R_drew)); exact HO_9.out⟩, ⟨by (with_reducible repeat (first | refine blk_drewN ?_ _ | refine blk_drew ?_ | refine blk_alloc ?_ _)); exact BK835.out⟩, ⟨by repeat (first | (with_reducible first | exact HB.out | apply below_alloc | apply pw_below_drewN | apply below_drew1 | refine below_set ?_ GE835.out | refine below_set ?_ GE845.out) | exact HB.out)⟩⟩
                      · rw [if_neg c16] at H
                        exact absurd H (by simp)
                    · rw [if_neg c15] at H
                      exact absurd H (by simp)
                  · rw [if_neg c14] at H
                    exact absurd H (by simp)
                · rw [if_neg c13] at H
                  have c13b0 : decide (x24_2 < (l1.length : Int)) = false := decide_eq_false c13
                  clear c13
                  by_cases c43 : 0 ≤ x836000_2
                  · rw [if_pos c43] at H
                    have c43b0 : decide (0 ≤ x836000_2) = true := decide_eq_true c43
                    clear c43
                    by_cases c44 : x836000_2 < (x8_1.length : Int)
                    · rw [if_pos c44] at H
                      have c44b0 : decide (x836000_2 < (x8_1.length : Int)) = true := decide_eq_true c44
                      clear c44
                      obtain ⟨y837, hy837⟩ : ∃ y_ : List Int, y_ = (x8_1.set (x836000_2 : Int).toNat (wrap64 ((rd x8_1 x836000_2) + 1))) := ⟨_, rfl⟩
                      replace H : (if x9_1.length < 5864062014805 then (impl_give.l0 k2 a0 l1 y837 (x9_1 ++ [(⟨x836000_2, (⟨x836001_2, x836002_2⟩ : S85)⟩ : S95)]) a2 (wrap64 (x19_1 + 1))) else (none)) = some (r1, r2) := by first | (rw [hy837]; with_reducible exact H) | (have H2_ := (Option.bind_some _ _).symm.trans H; rw [hy837]; with_reducible exact H2_) | (have H2_ := (Option.bind_some _ _).symm.trans H; with_reducible exact H2_) | with_reducible exact H | (rw [hy837]; exact H) | exact H
                      have Ny837 := Aside0.mk hy837
                      clear hy837
                      by_cases c46 : x9_1.length < 5864062014805
                      · rw [if_pos c46] at H
                        have LMc46 := Aside0.mk c46
                        clear c46
                        obtain ⟨y838, hy838⟩ : ∃ y_ : List (S95), y_ = (x9_1 ++ [(⟨x836000_2, (⟨x836001_2, x836002_2⟩ : S85)⟩ : S95)]) := ⟨_, rfl⟩
                        replace H : (impl_give.l0 k2 a0 l1 y837 y838 a2 (wrap64 (x19_1 + 1))) = some (r1, r2) := by first | (rw [hy838]; with_reducible exact H) | (have H2_ := (Option.bind_some _ _).symm.trans H; rw [hy838]; with_reducible exact H2_) | (have H2_ := (Option.bind_some _ _).symm.trans H; with_reducible exact H2_) | with_reducible exact H | (rw [hy838]; exact H) | exact H
                        have Ny838 := Aside0.mk hy838
                        clear hy838
                        have H' := Aside0.mk H
                        clear H
                        have hcz47_0 : wr.cell? ⟨gb835, 0, none⟩ = some (.int .i64 x836000_2) := (blk_cell BK835.out 0).trans rfl
                        have hcz47_1 : wr.cell? ⟨gb835, 1, none⟩ = some (.int .i64 x836001_2) := (blk_cell BK835.out 1).trans rfl
                        have hcz47_2 : wr.cell? ⟨gb835, 2, none⟩ = some (.int .i64 x836002_2) := (blk_cell BK835.out 2).trans rfl
                        have hfz47_0 := blk_frozen BK835.out 0
                        have hfz47_1 := blk_frozen BK835.out 1
                        have hfz47_2 := blk_frozen BK835.out 2
                        obtain ⟨Ao48, co48, eo48⟩ := Kd.R_slice HO_8.out
                        subst eo48
                        have p836 : 0 ≤ (x836000_2 : Int) := of_decide_eq_true (by first | (with_reducible assumption) | assumption)
                        have q836 : x836000_2 < (x8_1.length : Int) := of_decide_eq_true (by first | (with_reducible assumption) | assumption)
                        obtain ⟨ad836, e836, hx836_0⟩ := Kd.at_int (Kd.R_reads' HO_8.out).2.2 x836000_2 p836 q836
                        cases e836
                        replace p836 := eq_true p836
                        replace q836 := eq_true q836
                        have p45 : 0 ≤ (x836000_2 : Int) := of_decide_eq_true (by first | (with_reducible assumption) | assumption)
                        have q45 : (x836000_2 : Int) < ((x8_1.length : Int) : Int) := of_decide_eq_true (by first | (with_reducible assumption) | assumption)
                        obtain ⟨go45, co45, eo45, gb45, gl45, cl45, HG45⟩ := Kd.R_form HO_8.out (by omega)
                        (first | cases eo45 | (injection eo45 with ea_ en_ ec_; (first | subst ea_ | (injection ea_ with ea_; subst ea_)); subst ec_; clear en_))
                        have GB45 := Aside0.mk gb45
                        have GG45 := Aside0.mk HG45
                        clear gb45 gl45 HG45
                        (first | simp only [add_plain] at hx836_0 | skip)
                        obtain ⟨hx45_0, hf45_0⟩ := Kd.R_celln 0 HO_8.out (x836000_2 : Int) p45 q45
                        replace p45 := eq_true p45
                        replace q45 := eq_true q45
                        have HP49 := Kd.R_putg HO_8.out (x836000_2 : Int) (wrap64 ((rd x8_1 x836000_2) + 1))
                        go_wp2_with (first | ((with_reducible refine gate_store (t := 2) (p := 56) rfl ?_); refine store_event (t := 2) (p := 56) (v := ?vo_w50) (w1 := (wr.setCell ⟨go45, (x836000_2 : Int).toNat, none⟩ (.int .i64 (wrap64 ((rd x8_1 x836000_2) + 1))))) ?hg ?ho ?hn ?hr ?_; (case ho => rfl); (case hg => rfl); (case hn => rfl); (case hr => first | (go_simp; done) | (go_simp; rfl)); intro w50 hw; have hg : wr.grownBy w50 (some go45) := (by rw [hw]; exact HP49.2); have hp_ : Kd.R (Kd.int .i64) 2 w50 w.heap.size (fun _ => True) (.slice (some ⟨go45, 0, none⟩) x8_1.length co48) y837 := (by rw [hw, Ny837.out]; exact HP49.1); clear HP49; have n0_ := Aside0.mk (hp_); have n1_ := Aside0.mk (Kd.R_over' (v := (.slice (some ⟨go45, 0, none⟩) x8_1.length co48)) (by (with_reducible repeat (first | apply Kd.R_alloc | apply Kd.R_drewN | apply Kd.R_drew)); exact HO_9.out) (Kd.R_typed HO_8.out) (by decide) hg); have n2_ := Aside0.mk (blk_grown (g := gb835) (o := .cells #[.int .i64 x836000_2, .int .i64 x836001_2, .int .i64 x836002_2] 95 (0, 0)) (by (with_reducible repeat (first | refine blk_drewN ?_ _ | refine blk_drew ?_ | refine blk_alloc ?_ _)); exact BK835.out) hg (Kd.R_ne HO_8.out BK835.out (by decide))); have n3_ := Aside0.mk ((by rw [hw]; exact below_set (HB.out) GB45.out : Below w.heap.size w w50)); clear HO_8; clear HO_9; clear BK835; clear HB; have HO_8 := n0_; have HO_9 := n1_; have BK835 := n2_; have HB := n3_; clear n0_ n1_ n2_ n3_; clear hg hw hp_; have hcz51_0 : w50.cell? ⟨gb835, 0, none⟩ = some (.int .i64 x836000_2) := (blk_cell BK835.out 0).trans rfl; have hcz51_1 : w50.cell? ⟨gb835, 1, none⟩ = some (.int .i64 x836001_2) := (blk_cell BK835.out 1).trans rfl; have hcz51_2 : w50.cell? ⟨gb835, 2, none⟩ = some (.int .i64 x836002_2) := (blk_cell BK835.out 2).trans rfl; have hfz51_0 := blk_frozen BK835.out 0; have hfz51_1 := blk_frozen BK835.out 1; have hfz51_2 := blk_frozen BK835.out 2) | ((with_reducible refine gate_builtin (b := .append) (xs := #[.tmp 57, .tmp 59]) rfl ?_); at_builtin; refine Kd.R_append k95 (w0 := w) w.heap.size rfl (.tmp 57) (.tmp 59) 81 95 (.agg #[(.int .i64 0), (.int .i64 0), (.int .i64 0)]) 24 rfl Try.underlying81 info95 rfl (by decide) (by omega) u9 x9_1 (⟨x836000_2, (⟨x836001_2, x836002_2⟩ : S85)⟩ : S95) [.int .i64 x836000_2, .int .i64 x836001_2, .int .i64 x836002_2] (fun k_ => k_ ≠ gb835) (fun _ => False) rfl rfl ?aP (fun _ hk => hk.elim) ?aF ?aO ?aB ?aS ?aL ?_; (case aP => exact k95_mkM _ _ _ (⟨x836000_2, (⟨x836001_2, x836002_2⟩ : S85)⟩ : S95)); (case aB => exact (by repeat (first | (with_reducible first | exact HB.out | apply below_alloc | apply pw_below_drewN | apply below_drew1 | refine below_set ?_ GE835.out) | exact HB.out))); (case aF => exact (fun k_ hk => Kd.freshB (g := gb835) (o := .cells #[.int .i64 x836000_2, .int .i64 x836001_2, .int .i64 x836002_2] 95 (0, 0)) (by (with_reducible repeat (first | refine blk_drewN ?_ _ | refine blk_drew ?_ | refine blk_alloc ?_ _)); exact BK835.out) k_ hk)); (case aO => exact (by (with_reducible repeat (first | apply Kd.R_alloc | apply Kd.R_drewN | apply Kd.R_drew)); exact HO_9.out)); (case aS => exact (below_size (by repeat (first | (with_reducible first | exact HB.out | apply below_alloc | apply pw_below_drewN | apply below_drew1 | refine below_set ?_ GE835.out) | exact HB.out)))); (case aL => have := LMc46.out; omega); intro v839 w52 ho hb hg hat; rw [← Ny838.out] at ho; have n0_ := Aside0.mk (Kd.R_over' (by (with_reducible repeat (first | apply Kd.R_alloc | apply Kd.R_drewN | apply Kd.R_drew)); exact HO_8.out) (Kd.R_typed (by (with_reducible repeat (first | apply Kd.R_alloc | apply Kd.R_drewN | apply Kd.R_drew)); exact HO_9.out)) (by decide) hg); have n1_ := Aside0.mk (blk_grown (g := gb835) (o := .cells #[.int .i64 x836000_2, .int .i64 x836001_2, .int .i64 x836002_2] 95 (0, 0)) (by (with_reducible repeat (first | refine blk_drewN ?_ _ | refine blk_drew ?_ | refine blk_alloc ?_ _)); exact BK835.out) hg (Kd.R_away HO_9.out (fun _ hk => hk))); have n2_ := Aside0.mk (hb); have n3_ := Aside0.mk (ho); clear HO_8; clear BK835; clear HB; clear HO_9; have HO_8 := n0_; have BK835 := n1_; have HB := n2_; have HO840 := n3_; clear n0_ n1_ n2_ n3_; clear ho hb hg hat))
                        go_roundg k2
                        case measure => have := HK1.out; have := HK2.out; omega
                        case rel => exact ⟨(y837), (y838), (wrap64 (x19_1 + 1)), (by first | rfl | (simp; done) | (simp [*]; done)), H', ⟨by have := HK1.out; have := HK2.out; omega⟩, ⟨by (with_reducible repeat (first | apply Kd.R_alloc | apply Kd.R_drewN | apply Kd.R_drew)); exact HO_8.out⟩, ⟨by (with_reducible repeat (first | apply Kd.R_alloc | apply Kd.R_drewN | apply Kd.R_drew)); exact Kd.R_mono HO840.out (fun _ hk => trivial)⟩, ⟨by repeat (first | (with_reducible first | exact HB.out | apply below_alloc | apply pw_below_drewN | apply below_drew1 | refine below_set ?_ GE835.out) | exact HB.out)⟩⟩
                      · rw [if_neg c46] at H
                        exact absurd H (by simp)
                    · rw [if_neg c44] at H
                      exact absurd H (by simp)
                  · rw [if_neg c43] at H
                    exact absurd H (by simp)
          · rw [if_neg c10] at H
            have c10b0 : decide (x19_1 < a2) = false := decide_eq_false c10
            clear c10
            simp only [Option.some.injEq, Prod.mk.injEq] at H
            obtain ⟨rfl, rfl⟩ := H
            go_wp2
            go_ret2
            exact ⟨_, _, by first | rfl | (simp [errW_none, errW_some] <;> rfl) | (simp [*, errW_none, errW_some] <;> rfl), by (with_reducible repeat (first | apply Kd.R_alloc | apply Kd.R_drewN | apply Kd.R_drew)); exact HO_8.out, by (with_reducible repeat (first | apply Kd.R_alloc | apply Kd.R_drewN | apply Kd.R_drew)); exact HO_9.out, by repeat (first | (with_reducible first | exact HB.out | apply below_alloc | apply pw_below_drewN | apply below_drew1) | exact HB.out)⟩
    · rw [if_neg c5] at H
      exact absurd H (by simp)
  · rw [if_neg c4] at H
    exact absurd H (by simp)

/-! ### impl_SeatsBy: function 50 -/
def impl_SeatsBy.f (k : Nat) (a0 : Int) (l1 : List Int) (a2 : Int) : Option (List Int × Bool) := (impl_isMethod.f k a0 l1).bind fun t847 => (if t847 = true then ((impl_within.f a2 0 100).bind fun t848 => (if t848 = true then ((impl_give.f k a0 l1 a2).bind fun bt849 => (some (bt849.1, true))) else (some (([] : List Int), false)))) else (some (([] : List Int), false)))
theorem impl_SeatsBy.mono : ∀ a0 a1 a2 k, LeO (impl_SeatsBy.f k a0 a1 a2) (impl_SeatsBy.f (k + 1) a0 a1 a2) := by
  intro a0 a1 a2 k
  unfold impl_SeatsBy.f
  repeat' first
      | (with_reducible exact impl_give.mono _ _ _ _)
      | (with_reducible exact impl_isMethod.mono _ _ _)
      | (with_reducible exact LeO.refl _)
      | (with_reducible exact LeO.none _)
      | (with_reducible refine LeO.ite ?_ ?_)
      | (with_reducible refine LeO.bind ?_ (fun _ => ?_))
      | exact impl_give.mono _ _ _ _
      | exact impl_isMethod.mono _ _ _
      | exact LeO.none _
      | refine LeO.ite ?_ ?_
      | refine LeO.bind ?_ (fun _ => ?_)
set_option maxHeartbeats 8000000 in
set_option maxRecDepth 100000 in
theorem impl_SeatsBy.calls (k : Nat) (a0 : Int) (A1 : Option Addr) (c1 : Nat) (l1 : List Int) (a2 : Int) (r1 : List Int) (r2 : Bool) (w : World) (hr1 : Kd.C (Kd.int .i64) w A1 l1.length l1) (hc1 : l1.length ≤ c1) (h : impl_SeatsBy.f k a0 l1 a2 = some (r1, r2)) :
    Calls Try.prog 50 #[.int .i64 a0, .slice A1 l1.length c1, .int .i64 a2] w fun e w' => ∃ v0_ : Value, e = .returned (.tuple #[v0_, .bool r2]) ∧ Kd.R (Kd.int .i64) 2 w' w.heap.size (fun _ => True) v0_ r1 ∧ Below w.heap.size w w' := by
  have HR1 := Aside0.mk hr1
  have HC1 := Aside0.mk hc1
  clear hr1 hc1
  have HB := Aside0.mk (Below.refl w.heap.size w)
  have H : ((impl_isMethod.f k a0 l1).bind fun t847 => (if t847 = true then ((impl_within.f a2 0 100).bind fun t848 => (if t848 = true then ((impl_give.f k a0 l1 a2).bind fun bt849 => (some (bt849.1, true))) else (some (([] : List Int), false)))) else (some (([] : List Int), false)))) = some (r1, r2) := h
  clear h
  replace H := Option.bind_eq_some_iff.mp H
  obtain ⟨t847, A40, H⟩ := H
  replace H : (if t847 = true then ((impl_within.f a2 0 100).bind fun t848 => (if t848 = true then ((impl_give.f k a0 l1 a2).bind fun bt849 => (some (bt849.1, true))) else (some (([] : List Int), false)))) else (some (([] : List Int), false))) = some (r1, r2) := H
  have A4 := Aside0.mk A40
  clear A40
  by_cases c5 : t847 = true
  · subst c5
    have H1 : ((impl_within.f a2 0 100).bind fun t848 => (if t848 = true then ((impl_give.f k a0 l1 a2).bind fun bt849 => (some (bt849.1, true))) else (some (([] : List Int), false)))) = some (r1, r2) := by rw [if_pos rfl] at H; exact H
    clear H
    have H := H1
    clear H1
    replace H := Option.bind_eq_some_iff.mp H
    obtain ⟨t848, A60, H⟩ := H
    replace H : (if t848 = true then ((impl_give.f k a0 l1 a2).bind fun bt849 => (some (bt849.1, true))) else (some (([] : List Int), false))) = some (r1, r2) := H
    have A6 := Aside0.mk A60
    clear A60
    by_cases c7 : t848 = true
    · subst c7
      have H1 : ((impl_give.f k a0 l1 a2).bind fun bt849 => (some (bt849.1, true))) = some (r1, r2) := by rw [if_pos rfl] at H; exact H
      clear H
      have H := H1
      clear H1
      replace H := Option.bind_eq_some_iff.mp H
      obtain ⟨⟨t849, t850⟩, A80, H⟩ := H
      replace H : (some (t849, true)) = some (r1, r2) := H
      have A8 := Aside0.mk A80
      clear A80
      simp only [Option.some.injEq, Prod.mk.injEq] at H
      obtain ⟨rfl, rfl⟩ := H
      go_enter Try.func50, Try.ntmps50
      go_wp2_with (first | ((with_reducible refine gate_callee (f := 83) rfl ?_); refine goesL_ (some 12) rfl rfl Try.func83 (by kernel_rfl) rfl #[.int .i64 a0, .slice A1 l1.length c1] rfl (by (try simp only [List.map_toArray, List.map_cons, List.map_nil]); first | done | rfl | (simp only [List.length_drop, List.length_take]; rfl)) ?_; (with_reducible refine (impl_isMethod.calls k a0 _ _ l1 true _ ?side1 ?side2 A4.out).mono ?_); (case side1 => repeat (first | exact HR1.out | (with_reducible refine Kd.C_alloc ?_ _) | (with_reducible refine Kd.C_drewN ?_ _) | (with_reducible refine Kd.C_drew ?_))); (case side2 => exact HC1.out); rintro e w9 ⟨rfl, hb⟩; refine ⟨_, rfl, ?_⟩; have n0_ := Aside0.mk (below_step (by repeat (first | (with_reducible first | exact HB.out | apply below_alloc | apply pw_below_drewN | apply below_drew1) | exact HB.out)) hb); clear HB; have HB := n0_; clear n0_; (try clear hb); (try clear hb2); (try clear hk); (try clear hi)) | (go_at_call 62; (with_reducible refine (impl_within.calls a2 0 100 true _ A6.out).mono ?_); rintro e w' ⟨rfl, ⟨nd, rfl⟩⟩) | ((with_reducible refine gate_callee (f := 84) rfl ?_); refine goesL_ (some 23) rfl rfl Try.func84 (by kernel_rfl) rfl #[.int .i64 a0, .slice A1 l1.length c1, .int .i64 a2] rfl (by (try simp only [List.map_toArray, List.map_cons, List.map_nil]); first | done | rfl | (simp only [List.length_drop, List.length_take]; rfl)) ?_; (with_reducible refine (impl_give.calls k a0 _ _ l1 a2 t849 t850 _ ?side1 ?side2 A8.out).mono ?_); (case side1 => repeat (first | exact (Kd.C_below HR1.out (by repeat (first | (with_reducible first | exact HB.out | apply below_alloc | apply pw_below_drewN | apply below_drew1) | exact HB.out))) | (with_reducible refine Kd.C_alloc ?_ _) | (with_reducible refine Kd.C_drewN ?_ _) | (with_reducible refine Kd.C_drew ?_))); (case side2 => exact HC1.out); rintro e w10 ⟨v851, v853, rfl, ho0, ho1, hb⟩; refine ⟨_, rfl, ?_⟩; have n0_ := Aside0.mk (Kd.R_lower ho0 (below_size (by repeat (first | (with_reducible first | exact HB.out | apply below_alloc | apply pw_below_drewN | apply below_drew1) | exact HB.out)))); have n1_ := Aside0.mk (Kd.R_lower ho1 (below_size (by repeat (first | (with_reducible first | exact HB.out | apply below_alloc | apply pw_below_drewN | apply below_drew1) | exact HB.out)))); have n2_ := Aside0.mk (below_step (by repeat (first | (with_reducible first | exact HB.out | apply below_alloc | apply pw_below_drewN | apply below_drew1) | exact HB.out)) hb); clear HB; have HO852 := n0_; have HO854 := n1_; have HB := n2_; clear n0_ n1_ n2_; (try clear hb); (try clear hb2); (try clear hk); (try clear hi); (try clear ho0); (try clear ho1)))
      go_ret2
      exact ⟨_, by first | rfl | (simp [errW_none, errW_some] <;> rfl) | (simp [*, errW_none, errW_some] <;> rfl), by (with_reducible repeat (first | apply Kd.R_alloc | apply Kd.R_drewN | apply Kd.R_drew)); exact HO852.out, by repeat (first | (with_reducible first | exact HB.out | apply below_alloc | apply pw_below_drewN | apply below_drew1) | exact HB.out)⟩
    · replace c7 := Bool.eq_false_iff.mpr c7
      subst c7
      have H1 : (some (([] : List Int), false)) = some (r1, r2) := by rw [if_neg (show ¬ (false = true) by decide)] at H; exact H
      clear H
      have H := H1
      clear H1
      simp only [Option.some.injEq, Prod.mk.injEq] at H
      obtain ⟨rfl, rfl⟩ := H
      go_enter Try.func50, Try.ntmps50
      go_wp2_with (first | ((with_reducible refine gate_callee (f := 83) rfl ?_); refine goesL_ (some 12) rfl rfl Try.func83 (by kernel_rfl) rfl #[.int .i64 a0, .slice A1 l1.length c1] rfl (by (try simp only [List.map_toArray, List.map_cons, List.map_nil]); first | done | rfl | (simp only [List.length_drop, List.length_take]; rfl)) ?_; (with_reducible refine (impl_isMethod.calls k a0 _ _ l1 true _ ?side1 ?side2 A4.out).mono ?_); (case side1 => repeat (first | exact HR1.out | (with_reducible refine Kd.C_alloc ?_ _) | (with_reducible refine Kd.C_drewN ?_ _) | (with_reducible refine Kd.C_drew ?_))); (case side2 => exact HC1.out); rintro e w11 ⟨rfl, hb⟩; refine ⟨_, rfl, ?_⟩; have n0_ := Aside0.mk (below_step (by repeat (first | (with_reducible first | exact HB.out | apply below_alloc | apply pw_below_drewN | apply below_drew1) | exact HB.out)) hb); clear HB; have HB := n0_; clear n0_; (try clear hb); (try clear hb2); (try clear hk); (try clear hi)) | (go_at_call 62; (with_reducible refine (impl_within.calls a2 0 100 false _ A6.out).mono ?_); rintro e w' ⟨rfl, ⟨nd, rfl⟩⟩))
      go_ret2
      exact ⟨_, by first | rfl | (simp [errW_none, errW_some] <;> rfl) | (simp [*, errW_none, errW_some] <;> rfl), by first | exact Kd.R_nil _ _ _ _ _ | exact Kd.N_nil _ _ _ _ _ | exact Kd.V_nil _ _ _ _ _ | exact Kd.Q_nil _ _ _ _ _ | exact Kd.S_nil _ _ _ _ _, by repeat (first | (with_reducible first | exact HB.out | apply below_alloc | apply pw_below_drewN | apply below_drew1) | exact HB.out)⟩
  · replace c5 := Bool.eq_false_iff.mpr c5
    subst c5
    have H1 : (some (([] : List Int), false)) = some (r1, r2) := by rw [if_neg (show ¬ (false = true) by decide)] at H; exact H
    clear H
    have H := H1
    clear H1
    simp only [Option.some.injEq, Prod.mk.injEq] at H
    obtain ⟨rfl, rfl⟩ := H
    go_enter Try.func50, Try.ntmps50
    go_wp2_with (first | ((with_reducible refine gate_callee (f := 83) rfl ?_); refine goesL_ (some 12) rfl rfl Try.func83 (by kernel_rfl) rfl #[.int .i64 a0, .slice A1 l1.length c1] rfl (by (try simp only [List.map_toArray, List.map_cons, List.map_nil]); first | done | rfl | (simp only [List.length_drop, List.length_take]; rfl)) ?_; (with_reducible refine (impl_isMethod.calls k a0 _ _ l1 false _ ?side1 ?side2 A4.out).mono ?_); (case side1 => repeat (first | exact HR1.out | (with_reducible refine Kd.C_alloc ?_ _) | (with_reducible refine Kd.C_drewN ?_ _) | (with_reducible refine Kd.C_drew ?_))); (case side2 => exact HC1.out); rintro e w12 ⟨rfl, hb⟩; refine ⟨_, rfl, ?_⟩; have n0_ := Aside0.mk (below_step (by repeat (first | (with_reducible first | exact HB.out | apply below_alloc | apply pw_below_drewN | apply below_drew1) | exact HB.out)) hb); clear HB; have HB := n0_; clear n0_; (try clear hb); (try clear hb2); (try clear hk); (try clear hi)))
    go_ret2
    exact ⟨_, by first | rfl | (simp [errW_none, errW_some] <;> rfl) | (simp [*, errW_none, errW_some] <;> rfl), by first | exact Kd.R_nil _ _ _ _ _ | exact Kd.N_nil _ _ _ _ _ | exact Kd.V_nil _ _ _ _ _ | exact Kd.Q_nil _ _ _ _ _ | exact Kd.S_nil _ _ _ _ _, by repeat (first | (with_reducible first | exact HB.out | apply below_alloc | apply pw_below_drewN | apply below_drew1) | exact HB.out)⟩

/-! ### laws_r8Sum: function 52 -/
def laws_r8Sum.l0 : Nat → List Int → Int → Int → Option (Int)
  | 0, _, _, _ => none
  | k + 1, x0, x3, x4 => if x4 < (x0.length : Int) then (if 0 ≤ x4 then (laws_r8Sum.l0 k x0 (wrap64 (x3 + (rd x0 x4))) (wrap64 (x4 + 1))) else (none)) else (some x3)
def laws_r8Sum.f (k : Nat) (l0 : List Int) : Option (Int) := laws_r8Sum.l0 k l0 0 0
theorem laws_r8Sum.mono_l : ∀ k, (∀ y0 y1 y2, LeO (laws_r8Sum.l0 k y0 y1 y2) (laws_r8Sum.l0 (k + 1) y0 y1 y2))
  | 0 => fun _ _ _ r h => by simp [laws_r8Sum.l0] at h
  | k + 1 => by
    have ih0 := laws_r8Sum.mono_l k
    · intro y0 y1 y2
      unfold laws_r8Sum.l0
      repeat' first
      | (with_reducible exact ih0 _ _ _)
      | (with_reducible exact LeO.refl _)
      | (with_reducible exact LeO.none _)
      | (with_reducible refine LeO.ite ?_ ?_)
      | (with_reducible refine LeO.bind ?_ (fun _ => ?_))
      | exact ih0 _ _ _
      | exact LeO.none _
      | refine LeO.ite ?_ ?_
      | refine LeO.bind ?_ (fun _ => ?_)
theorem laws_r8Sum.mono : ∀ a0 k, LeO (laws_r8Sum.f k a0) (laws_r8Sum.f (k + 1) a0) := by
  intro a0 k
  have ih0 := laws_r8Sum.mono_l k
  unfold laws_r8Sum.f
  repeat' first
      | (with_reducible exact ih0 _ _ _)
      | (with_reducible exact LeO.refl _)
      | (with_reducible exact LeO.none _)
      | (with_reducible refine LeO.ite ?_ ?_)
      | (with_reducible refine LeO.bind ?_ (fun _ => ?_))
      | exact ih0 _ _ _
      | exact LeO.none _
      | refine LeO.ite ?_ ?_
      | refine LeO.bind ?_ (fun _ => ?_)
set_option maxHeartbeats 8000000 in
set_option maxRecDepth 100000 in
theorem laws_r8Sum.calls (k : Nat) (A0 : Option Addr) (c0 : Nat) (l0 : List Int) (r : Int) (w : World) (hr0 : Kd.C (Kd.int .i64) w A0 l0.length l0) (hc0 : l0.length ≤ c0) (h : laws_r8Sum.f k l0 = some r) :
    Calls Try.prog 52 #[.slice A0 l0.length c0] w fun e w' => e = .returned (.int .i64 r) ∧ Drawn0 w w' := by
  have HR0 := Aside0.mk hr0
  have HC0 := Aside0.mk hc0
  clear hr0 hc0
  have H : (laws_r8Sum.l0 k l0 0 0) = some r := h
  clear h
  have H' := Aside0.mk H
  clear H
  go_enter Try.func52, Try.ntmps52
  go_wp2
  go_loopg [3, 4] k (fun kq v3 v4 w' => ∃ (x3_1 : Int) (x4_1 : Int), v3 = .int .i64 x3_1 ∧ v4 = .int .i64 x4_1 ∧ Aside0 (laws_r8Sum.l0 kq l0 x3_1 x4_1 = some r) ∧ Aside0 (kq ≤ k) ∧ Drawn0 w w')
  case atStart => exact ⟨(0), (0), (by first | rfl | (simp; done) | (simp [*]; done)), (by first | rfl | (simp; done) | (simp [*]; done)), H', ⟨Nat.le_refl _⟩, by repeat (first | exact Drawn0.refl _ | apply Drawn0.step)⟩
  case round =>
    clear H'
    obtain ⟨x3_1, x4_1, rfl, rfl, HA, HK1, ⟨m1, rfl⟩⟩ := hrel
    cases gk with
    | zero => exact absurd HA.out (by simp [laws_r8Sum.l0])
    | succ k1 =>
      have H := HA.out
      clear HA
      simp only [laws_r8Sum.l0] at H
      by_cases c2 : x4_1 < (l0.length : Int)
      · rw [if_pos c2] at H
        have c2b0 : decide (x4_1 < (l0.length : Int)) = true := decide_eq_true c2
        clear c2
        by_cases c3 : 0 ≤ x4_1
        · rw [if_pos c3] at H
          have c3b0 : decide (0 ≤ x4_1) = true := decide_eq_true c3
          clear c3
          have H' := Aside0.mk H
          clear H
          have p855 : 0 ≤ (x4_1 : Int) := of_decide_eq_true (by first | (with_reducible assumption) | assumption)
          have q855 : x4_1 < (l0.length : Int) := of_decide_eq_true (by first | (with_reducible assumption) | assumption)
          obtain ⟨ad855, e855, hx855_0⟩ := Kd.at_int HR0.out x4_1 p855 q855
          cases e855
          replace p855 := eq_true p855
          replace q855 := eq_true q855
          go_wp2
          go_roundg k1
          case measure => have := HK1.out; omega
          case rel => exact ⟨(wrap64 (x3_1 + (rd l0 x4_1))), (wrap64 (x4_1 + 1)), (by first | rfl | (simp; done) | (simp [*]; done)), (by first | rfl | (simp; done) | (simp [*]; done)), H', ⟨by have := HK1.out; omega⟩, by repeat (first | exact Drawn0.refl _ | apply Drawn0.step)⟩
        · rw [if_neg c3] at H
          exact absurd H (by simp)
      · rw [if_neg c2] at H
        have c2b0 : decide (x4_1 < (l0.length : Int)) = false := decide_eq_false c2
        clear c2
        obtain rfl := Option.some.inj H
        go_wp2
        go_ret
        exact ⟨by first | rfl | (simp; done) | (simp [*]; done), by repeat (first | exact Drawn0.refl _ | apply Drawn0.step)⟩

/-! ### impl_isSeats: function 86 -/
def impl_isSeats.f (k : Nat) (l0 : List Int) (l1 : List Int) : Option (Bool) := if (l1.length : Int) = (l0.length : Int) then ((impl_areWithin.f k l1 0 100).bind fun t856 => (if t856 = true then ((impl_sum.f k l1).bind fun t857 => (some (decide (t857 ≤ 100)))) else (some false))) else (some false)
theorem impl_isSeats.mono : ∀ a0 a1 k, LeO (impl_isSeats.f k a0 a1) (impl_isSeats.f (k + 1) a0 a1) := by
  intro a0 a1 k
  unfold impl_isSeats.f
  repeat' first
      | (with_reducible exact impl_areWithin.mono _ _ _ _)
      | (with_reducible exact impl_sum.mono _ _)
      | (with_reducible exact LeO.refl _)
      | (with_reducible exact LeO.none _)
      | (with_reducible refine LeO.ite ?_ ?_)
      | (with_reducible refine LeO.bind ?_ (fun _ => ?_))
      | exact impl_areWithin.mono _ _ _ _
      | exact impl_sum.mono _ _
      | exact LeO.none _
      | refine LeO.ite ?_ ?_
      | refine LeO.bind ?_ (fun _ => ?_)
set_option maxHeartbeats 8000000 in
set_option maxRecDepth 100000 in
theorem impl_isSeats.calls (k : Nat) (A0 : Option Addr) (c0 : Nat) (l0 : List Int) (A1 : Option Addr) (c1 : Nat) (l1 : List Int) (r : Bool) (w : World) (hr0 : Kd.C (Kd.int .i64) w A0 l0.length l0) (hc0 : l0.length ≤ c0) (hr1 : Kd.C (Kd.int .i64) w A1 l1.length l1) (hc1 : l1.length ≤ c1) (h : impl_isSeats.f k l0 l1 = some r) :
    Calls Try.prog 86 #[.slice A0 l0.length c0, .slice A1 l1.length c1] w fun e w' => e = .returned (.bool r) ∧ Below w.heap.size w w' := by
  have HR0 := Aside0.mk hr0
  have HC0 := Aside0.mk hc0
  clear hr0 hc0
  have HR1 := Aside0.mk hr1
  have HC1 := Aside0.mk hc1
  clear hr1 hc1
  have HB := Aside0.mk (Below.refl w.heap.size w)
  have H : (if (l1.length : Int) = (l0.length : Int) then ((impl_areWithin.f k l1 0 100).bind fun t856 => (if t856 = true then ((impl_sum.f k l1).bind fun t857 => (some (decide (t857 ≤ 100)))) else (some false))) else (some false)) = some r := h
  clear h
  by_cases c3 : (l1.length : Int) = (l0.length : Int)
  · rw [if_pos c3] at H
    have c3b0 : ((l1.length : Int) == (l0.length : Int)) = true := beq_iff_eq.mpr c3
    have c3b1 : ((l1.length : Int) != (l0.length : Int)) = false := bne_eq_false_iff_eq.mpr c3
    have c3b2 : (l1.length == l0.length) = true := by first | simpa using c3 | (simp at c3 ⊢; omega)
    clear c3
    replace H := Option.bind_eq_some_iff.mp H
    obtain ⟨t856, A40, H⟩ := H
    replace H : (if t856 = true then ((impl_sum.f k l1).bind fun t857 => (some (decide (t857 ≤ 100)))) else (some false)) = some r := H
    have A4 := Aside0.mk A40
    clear A40
    by_cases c5 : t856 = true
    · subst c5
      have H1 : ((impl_sum.f k l1).bind fun t857 => (some (decide (t857 ≤ 100)))) = some r := by rw [if_pos rfl] at H; exact H
      clear H
      have H := H1
      clear H1
      replace H := Option.bind_eq_some_iff.mp H
      obtain ⟨t857, A60, H⟩ := H
      replace H : (some (decide (t857 ≤ 100))) = some r := H
      have A6 := Aside0.mk A60
      clear A60
      obtain rfl := Option.some.inj H
      go_enter Try.func86, Try.ntmps86
      go_wp2_with (first | (go_at_call 70; (with_reducible refine (impl_areWithin.calls k _ _ l1 0 100 true _ ?side1 ?side2 A4.out).mono ?_); (case side1 => repeat (first | exact HR1.out | (with_reducible refine Kd.C_alloc ?_ _) | (with_reducible refine Kd.C_drewN ?_ _) | (with_reducible refine Kd.C_drew ?_))); (case side2 => exact HC1.out); rintro e w7 ⟨rfl, hb⟩; have n0_ := Aside0.mk (below_step (by repeat (first | (with_reducible first | exact HB.out | apply below_alloc | apply pw_below_drewN | apply below_drew1) | exact HB.out)) hb); clear HB; have HB := n0_; clear n0_; (try clear hb); (try clear hb2); (try clear hk); (try clear hi)) | (go_at_call 58; (with_reducible refine (impl_sum.calls k _ _ l1 t857 _ ?side1 ?side2 A6.out).mono ?_); (case side1 => repeat (first | exact (Kd.C_below HR1.out HB.out) | (with_reducible refine Kd.C_alloc ?_ _) | (with_reducible refine Kd.C_drewN ?_ _) | (with_reducible refine Kd.C_drew ?_))); (case side2 => exact HC1.out); rintro e w' ⟨rfl, ⟨nd, rfl⟩⟩))
      go_ret
      exact ⟨by first | rfl | (simp [errW_none, errW_some] <;> rfl) | (simp [*, errW_none, errW_some] <;> rfl), by repeat (first | (with_reducible first | exact HB.out | apply below_alloc | apply pw_below_drewN | apply below_drew1) | exact HB.out)⟩
    · replace c5 := Bool.eq_false_iff.mpr c5
      subst c5
      have H1 : (some false) = some r := by rw [if_neg (show ¬ (false = true) by decide)] at H; exact H
      clear H
      have H := H1
      clear H1
      obtain rfl := Option.some.inj H
      go_enter Try.func86, Try.ntmps86
      go_wp2_with (first | (go_at_call 70; (with_reducible refine (impl_areWithin.calls k _ _ l1 0 100 false _ ?side1 ?side2 A4.out).mono ?_); (case side1 => repeat (first | exact HR1.out | (with_reducible refine Kd.C_alloc ?_ _) | (with_reducible refine Kd.C_drewN ?_ _) | (with_reducible refine Kd.C_drew ?_))); (case side2 => exact HC1.out); rintro e w8 ⟨rfl, hb⟩; have n0_ := Aside0.mk (below_step (by repeat (first | (with_reducible first | exact HB.out | apply below_alloc | apply pw_below_drewN | apply below_drew1) | exact HB.out)) hb); clear HB; have HB := n0_; clear n0_; (try clear hb); (try clear hb2); (try clear hk); (try clear hi)))
      go_ret
      exact ⟨by first | rfl | (simp [errW_none, errW_some] <;> rfl) | (simp [*, errW_none, errW_some] <;> rfl), by repeat (first | (with_reducible first | exact HB.out | apply below_alloc | apply pw_below_drewN | apply below_drew1) | exact HB.out)⟩
  · rw [if_neg c3] at H
    have c3b0 : ((l1.length : Int) == (l0.length : Int)) = false := beq_eq_false_iff_ne.mpr c3
    have c3b1 : ((l1.length : Int) != (l0.length : Int)) = true := bne_iff_ne.mpr c3
    have c3b2 : (l1.length == l0.length) = false := by first | simpa using c3 | (simp at c3 ⊢; omega)
    obtain rfl := Option.some.inj H
    go_enter Try.func86, Try.ntmps86
    go_wp2
    go_ret
    exact ⟨by first | rfl | (simp [errW_none, errW_some] <;> rfl) | (simp [*, errW_none, errW_some] <;> rfl), by repeat (first | (with_reducible first | exact HB.out | apply below_alloc | apply pw_below_drewN | apply below_drew1) | exact HB.out)⟩

end Go.Proofs.Ytnibakbjbijghaa.P
