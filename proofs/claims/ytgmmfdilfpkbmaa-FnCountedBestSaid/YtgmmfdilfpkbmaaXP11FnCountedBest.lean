import Derived.Test.YtgmmfdilfpkbmaaXP0FnCountedBest
import Derived.Test.YtgmmfdilfpkbmaaXP1FnCountedBest
import Derived.Test.YtgmmfdilfpkbmaaXP10FnCountedBest
import Derived.Test.YtgmmfdilfpkbmaaXLFnCountedBest
namespace Go.Proofs.Ytgmmfdilfpkbmaa.P
open Go.RowKit Go.Proofs.YtgmmfdilfpkbmaaW.PrintWords Go.Proofs.YtgmmfdilfpkbmaaW.PrintLast Go.Proofs.YtgmmfdilfpkbmaaW.PrintMore
attribute [local go_sem] max2_int min2_int max_two min_two max_three min_three max_four min_four
set_option linter.unusedVariables false
set_option linter.unusedSimpArgs false
mutual
def Zam.l0 : Nat → Int → List Int → Int → Int → Int → List Int → Option (List Int × List Int × Int)
 | 0, _, _, _, _, _, _ => none
 | k + 1, x1, x5, x18, x19, x433000, x433001 => if x19 < x18 then ((Za3.f x433000 x433001 x19).bind fun t437 => ((Za3.f x433000 x433001 x19).bind fun t438 => ((some (([t437, wrap64 (x433000 - t438)] : List Int) : List Int)).bind fun y439 => (if x5.length + y439.length < 17592186044416 then (Zam.l0 k x1 (x5 ++ y439) x18 (wrap64 (x19 + 1)) x433000 x433001) else (none))))) else ((slices_Sort_int64_int64.f x5).bind fun t445 => (Zam.l1 k x1 t445 (x5.length : Int) 0 x433000 x433001))
def Zam.l1 : Nat → Int → List Int → Int → Int → Int → List Int → Option (List Int × List Int × Int)
 | 0, _, _, _, _, _, _ => none
 | k + 1, x1, x37, x38, x39, x433000, x433001 => if x39 < x38 then (if 0 ≤ x39 then (if x39 < (x37.length : Int) then (Zam.l2 k x1 (rd x37 x39) true x37 x38 x39 (x433001.length : Int) 0 x433000 x433001 ([] : List Int) ([] : List Int) x1) else (none)) else (none)) else (some (([] : List Int), ([] : List Int), 0))
def Zam.l2 : Nat → Int → Int → Bool → List Int → Int → Int → Int → Int → Int → List Int → List Int → List Int → Int → Option (List Int × List Int × Int)
 | 0, _, _, _, _, _, _, _, _, _, _, _, _, _ => none
 | k + 1, x1, x8, x10, x37, x38, x39, x47, x48, x433000, x433001, x448000, x448001, x448002 => if x48 < x47 then ((Za3.f x433000 x433001 x48).bind fun t448 => (if t448 > 0 then (Zam.j3 k x1 x8 x10 x48 (decide (t448 ≤ x8)) (decide ((wrap64 (x433000 - t448)) ≤ x8)) x37 x38 x39 x47 x48 x433000 x433001 x448000 x448001 x448002) else (Zam.j3 k x1 x8 x10 x48 (decide (t448 ≤ x8)) false x37 x38 x39 x47 x48 x433000 x433001 x448000 x448001 x448002))) else (if x10 = true then ((impl_size_int.f x448001).bind fun t455 => ((impl_within.f x448002 0 t455).bind fun t456 => (if t456 = true then (some (x448000, x448001, x448002)) else (Zam.l1 k x1 x37 x38 (wrap64 (x39 + 1)) x433000 x433001)))) else (Zam.l1 k x1 x37 x38 (wrap64 (x39 + 1)) x433000 x433001))
def Zam.j3 : Nat → Int → Int → Bool → Int → Bool → Bool → List Int → Int → Int → Int → Int → Int → List Int → List Int → List Int → Int → Option (List Int × List Int × Int)
 | 0, _, _, _, _, _, _, _, _, _, _, _, _, _, _, _, _ => none
 | k + 1, x1, x8, x10, x11, x13, x14, x37, x38, x39, x47, x48, x433000, x433001, x448000, x448001, x448002 => if x14 = true then (Zam.j4 k x1 x8 x10 x11 x13 x14 x37 x38 x39 x47 x48 x13 x433000 x433001 x448000 x448001 x448002) else (Zam.j4 k x1 x8 x10 x11 x13 x14 x37 x38 x39 x47 x48 false x433000 x433001 x448000 x448001 x448002)
def Zam.j4 : Nat → Int → Int → Bool → Int → Bool → Bool → List Int → Int → Int → Int → Int → Bool → Int → List Int → List Int → List Int → Int → Option (List Int × List Int × Int)
 | 0, _, _, _, _, _, _, _, _, _, _, _, _, _, _, _, _, _ => none
 | k + 1, x1, x8, x10, x11, x13, x14, x37, x38, x39, x47, x48, x67, x433000, x433001, x448000, x448001, x448002 => if x67 = true then (if x448001.length < 17592186044416 then (Zam.l2 k x1 x8 x10 x37 x38 x39 x47 (wrap64 (x48 + 1)) x433000 x433001 x448000 (x448001 ++ [x11]) x448002) else (none)) else (if x14 = true then (if x448000.length < 17592186044416 then (Zam.l2 k x1 x8 x10 x37 x38 x39 x47 (wrap64 (x48 + 1)) x433000 x433001 (x448000 ++ [x11]) x448001 (wrap64 (x448002 - 1))) else (none)) else (if x13 = true then (Zam.l2 k x1 x8 x10 x37 x38 x39 x47 (wrap64 (x48 + 1)) x433000 x433001 x448000 x448001 x448002) else (Zam.l2 k x1 x8 false x37 x38 x39 x47 (wrap64 (x48 + 1)) x433000 x433001 x448000 x448001 x448002)))
end
def Zam.f (k : Nat) (a0_0 : Int) (l0_1 : List Int) (a1 : Int) : Option (List Int × List Int × Int) := Zam.l0 k a1 (([0] : List Int)) (l0_1.length : Int) 0 a0_0 l0_1
def Zam.T5 : Bool × List (List Nat × List Nat) := (true, [([], []), ([], []), ([], []), ([1, 2], [1, 2]), ([], []), ([4], [4]), ([], []), ([], []), ([6, 7, 3], [6, 7]), ([5, 8], [5, 8]), ([3, 9], [3, 9]), ([0, 10, 8], [0, 10]), ([11, 11, 0, 1, 2, 3, 4, 5, 6, 7, 8, 9, 10, 11], [0, 11])])
def Zam.B5 : List Nat := [0, 0, 0, 6, 0, 16, 0, 0, 206, 510, 1022, 2047, 4095]
theorem Zam.tab5 : rtab .any (opsOf Try.f108 5) = Zam.T5 := by kernel_rfl
theorem Zam.bits5 : waitsOk Zam.T5.2 Zam.B5 = true := by kernel_rfl
def Zam.T16 : Bool × List (List Nat × List Nat) := (true, [([], []), ([], []), ([0, 1], [0, 1]), ([], []), ([3], [3]), ([4], [4]), ([5], [5]), ([6, 5], [5, 6]), ([5], [5]), ([7, 8, 5], [5, 7, 8]), ([5], [5]), ([9, 10, 5], [5, 9, 10]), ([5, 11], [5, 11]), ([2, 5, 0, 1, 2], [2]), ([12, 13, 0, 1, 2, 3, 4, 5, 6, 7, 8, 9, 10, 11, 12, 13], [12])])
def Zam.B16 : List Nat := [0, 0, 3, 0, 8, 24, 56, 120, 56, 504, 56, 2040, 4088, 63, 16383]
theorem Zam.tab16 : rtab .any (opsOf Try.f108 16) = Zam.T16 := by kernel_rfl
theorem Zam.bits16 : waitsOk Zam.T16.2 Zam.B16 = true := by kernel_rfl
def Zam.T25 : Bool × List (List Nat × List Nat) := (true, [([], []), ([0], [0]), ([1], [1]), ([2, 1], [1, 2]), ([1], [1]), ([4, 1], [1, 4]), ([5, 1, 1], [1, 5]), ([3, 6, 6, 1], [1, 3, 6]), ([1, 7], [1, 7])])
def Zam.B25 : List Nat := [0, 1, 3, 7, 3, 19, 51, 127, 255]
theorem Zam.tab25 : rtab .any (opsOf Try.f108 25) = Zam.T25 := by kernel_rfl
theorem Zam.bits25 : waitsOk Zam.T25.2 Zam.B25 = true := by kernel_rfl
set_option maxHeartbeats 8000000 in
set_option maxRecDepth 100000 in
theorem Zam.calls (k : Nat) (a0_0 : Int) (A0_1 : Option Addr) (c0_1 : Nat) (l0_1 : List Int) (a1 : Int) (r1 : List Int) (r2 : List Int) (r3 : Int) (w : World) (hr0_1 : Kd.C (Kd.int .i64) w A0_1 l0_1.length l0_1) (hc0_1 : l0_1.length ≤ c0_1) (h : Zam.f k a0_0 l0_1 a1 = some (r1, r2, r3)) :
  Calls Try.prog 108 #[.agg #[.int .i64 a0_0, .slice A0_1 l0_1.length c0_1], .int .i64 a1] w fun e w' => ∃ v0_ v1_ : Value, e = .returned (.agg #[v0_, v1_, .int .i64 r3]) ∧ Kd.R (Kd.int .i64) 3 w' w.heap.size (fun k_ => some k_ ≠ (v1_ : Value).ownBlock) v0_ r1 ∧ Kd.R (Kd.int .i64) 3 w' w.heap.size (fun k_ => some k_ ≠ (v0_ : Value).ownBlock) v1_ r2 ∧ Below w.heap.size w w' := by
 have hu28 := Try.underlying28
 have hu85 := Try.underlying85
 have HR0_1 := Zab.mk hr0_1
 have HC0_1 := Zab.mk hc0_1
 clear hr0_1 hc0_1
 have HB := Zab.mk (Below.refl w.heap.size w)
 have H : (Zam.l0 k a1 (([0] : List Int)) (l0_1.length : Int) 0 a0_0 l0_1) = some (r1, r2, r3) := h
 clear h
 obtain ⟨y434, hy434⟩ : ∃ y_ : List Int, y_ = (([0] : List Int)) := ⟨_, rfl⟩
 replace H : (Zam.l0 k a1 y434 (l0_1.length : Int) 0 a0_0 l0_1) = some (r1, r2, r3) := by first | (rw [hy434]; with_reducible exact H) | (have H2_ := (Option.bind_some _ _).symm.trans H; rw [hy434]; with_reducible exact H2_) | (have H2_ := (Option.bind_some _ _).symm.trans H; with_reducible exact H2_) | with_reducible exact H | (rw [hy434]; exact H) | exact H
 have Ny434 := Zab.mk hy434
 clear hy434
 have H' := Zab.mk H
 clear H
 go_enter Try.func108, Try.ntmps108
 go_wp2_with (first | ((with_reducible refine gate_dst (N := 2) rfl ?_); refine box_event ?hg (N := 2) ?hd (cs := #[.int .i64 a0_0, .slice A0_1 l0_1.length c0_1]) (t := 28) ?hr ?_; (case hd => rfl); (case hg => rfl); (case hr => first | (go_simp; done) | (go_simp; rfl)); intro gb432 hg w3 hbox hb; have n0_ := Zab.mk (Zap (by repeat (first | (with_reducible first | exact HB.out | apply Zad | apply Zaa | apply Zac) | exact HB.out)) hb); have n1_ := Zab.mk (hbox); have n2_ := Zab.mk ((by rw [hg]; exact (Zan (by repeat (first | (with_reducible first | exact HB.out | apply Zad | apply Zaa | apply Zac) | exact HB.out))) : w.heap.size ≤ gb432)); have n3_ := Zab.mk ((by rw [hg]; exact (Zan (by repeat (first | (with_reducible first | exact HB.out | apply Zad | apply Zaa | apply Zac) | exact HB.out))) : w.heap.size ≤ gb432)); clear HB; have HB := n0_; have BK432 := n1_; have GW432 := n2_; have GE432 := n3_; clear n0_ n1_ n2_ n3_; clear hb hbox hg) | ((with_reducible refine gate_dst (N := 4) rfl ?_); refine box_event ?hg (N := 4) ?hd (cs := #[.slice none 0 0, .slice none 0 0, .int .i64 0]) (t := 85) ?hr ?_; (case hd => rfl); (case hg => rfl); (case hr => first | (go_simp; done) | (go_simp; rfl)); intro gb433 hg w4 hbox hb; have n0_ := Zab.mk (Zaq (g := gb432) (o := .cells #[.int .i64 a0_0, .slice A0_1 l0_1.length c0_1] 28 (0, 0)) (by (with_reducible repeat (first | refine Zag ?_ _ | refine Zah ?_ | refine Zaf ?_ _)); exact BK432.out) hb); have n1_ := Zab.mk (Zap (by repeat (first | (with_reducible first | exact HB.out | apply Zad | apply Zaa | apply Zac | refine Zae ?_ GE432.out) | exact HB.out)) hb); have n2_ := Zab.mk (hbox); have n3_ := Zab.mk ((by rw [hg]; exact (Zan (by repeat (first | (with_reducible first | exact HB.out | apply Zad | apply Zaa | apply Zac | refine Zae ?_ GE432.out) | exact HB.out))) : w.heap.size ≤ gb433)); have n4_ := Zab.mk ((by rw [hg]; exact (Zan (by repeat (first | (with_reducible first | exact HB.out | apply Zad | apply Zaa | apply Zac | refine Zae ?_ GE432.out) | exact HB.out))) : w.heap.size ≤ gb433)); have n5_ := Zab.mk ((by rw [hg]; exact Nat.ne_of_lt (blk_lt (g := gb432) (o := .cells #[.int .i64 a0_0, .slice A0_1 l0_1.length c0_1] 28 (0, 0)) (by (with_reducible repeat (first | refine Zag ?_ _ | refine Zah ?_ | refine Zaf ?_ _)); exact BK432.out)) : gb432 ≠ gb433)); have n6_ := Zab.mk ((by rw [hg]; exact Nat.ne_of_gt (blk_lt (g := gb432) (o := .cells #[.int .i64 a0_0, .slice A0_1 l0_1.length c0_1] 28 (0, 0)) (by (with_reducible repeat (first | refine Zag ?_ _ | refine Zah ?_ | refine Zaf ?_ _)); exact BK432.out)) : gb433 ≠ gb432)); clear BK432; clear HB; have BK432 := n0_; have HB := n1_; have BK433 := n2_; have GW433 := n3_; have GE433 := n4_; have NB432_433 := n5_; have NB433_432 := n6_; clear n0_ n1_ n2_ n3_ n4_ n5_ n6_; clear hb hbox hg) | ((with_reducible refine gate_dst (N := 15) rfl ?_); refine Kd.R_lit (Kd.int .i64) _ 2 ?hg (N := 15) ?hd (xs := ([0] : List Int)) (inner := [.int .i64 0]) (ok := fun _ => True) (okp := fun _ => True) ?hr ?hp (fun _ hk => hk) trivial (Below.refl _ _) (Nat.le_refl _) (by simp) ?_; (case hd => rfl); (case hg => rfl); (case hr => first | (go_simp; done) | (go_simp; rfl)); (case hp => exact (Reps.one (show Kd.M (Kd.int .i64) _ _ _ 0 [.int .i64 0] from rfl) (Reps.none _ _))); intro v435 w5 ho6 hb hg_ hnew_; clear hg_ hnew_; (first | rw [← Ny434.out] at ho6 | (simp only [Int.reduceToNat] at ho6; rw [← Ny434.out] at ho6)); have n0_ := Zab.mk (Kd.R_lower ho6 (Zan (by repeat (first | (with_reducible first | exact HB.out | apply Zad | apply Zaa | apply Zac | refine Zae ?_ GE432.out | refine Zae ?_ GE433.out) | exact HB.out)))); have n1_ := Zab.mk (Zaq (g := gb432) (o := .cells #[.int .i64 a0_0, .slice A0_1 l0_1.length c0_1] 28 (0, 0)) (by (with_reducible repeat (first | refine Zag ?_ _ | refine Zah ?_ | refine Zaf ?_ _)); exact BK432.out) hb); have n2_ := Zab.mk (Zaq (g := gb433) (o := .cells #[.slice none 0 0, .slice none 0 0, .int .i64 0] 85 (0, 0)) (by (with_reducible repeat (first | refine Zag ?_ _ | refine Zah ?_ | refine Zaf ?_ _)); exact BK433.out) hb); have n3_ := Zab.mk (Zap (by repeat (first | (with_reducible first | exact HB.out | apply Zad | apply Zaa | apply Zac | refine Zae ?_ GE432.out | refine Zae ?_ GE433.out) | exact HB.out)) hb); clear BK432; clear BK433; clear HB; have HO436 := n0_; have BK432 := n1_; have BK433 := n2_; have HB := n3_; clear n0_ n1_ n2_ n3_; clear hb ho6; have hnb7 := NB432_433.out; have hnc7 := NB433_432.out; have hcz8_0 : w5.cell? ⟨gb432, 0, none⟩ = some (.int .i64 a0_0) := (Zaj BK432.out 0).trans rfl; have hcz8_1 : w5.cell? ⟨gb432, 1, none⟩ = some (.slice A0_1 l0_1.length c0_1) := (Zaj BK432.out 1).trans rfl; have hfz8_0 := Zak BK432.out 0; have hfz8_1 := Zak BK432.out 1))
 go_loopg [5, 19] k (fun kq v5 v19 w' => ∃ (x5_1 : List Int) (x19_1 : Int), v19 = .int .i64 x19_1 ∧ Zab (Zam.l0 kq a1 x5_1 (l0_1.length : Int) x19_1 a0_0 l0_1 = some (r1, r2, r3)) ∧ Zab (kq ≤ k) ∧ Zab (Kd.R (Kd.int .i64) 2 w' w.heap.size (fun _ => True) v5 x5_1) ∧ Zab (w'.heap[gb432]? = some (.cells #[.int .i64 a0_0, (.slice A0_1 l0_1.length c0_1)] 28 (0, 0))) ∧ Zab (w'.heap[gb433]? = some (.cells #[(.slice none 0 0), (.slice none 0 0), .int .i64 0] 85 (0, 0))) ∧ Zab (Below w.heap.size w w'))
 case atStart => exact ⟨(y434), (0), (by first | rfl | (simp; done) | (simp [*]; done) | (simp [IntWalk.i64_left, *]; done)), H', ⟨Nat.le_refl _⟩, ⟨by (with_reducible repeat (first | apply Kd.R_alloc | apply Kd.R_drewN | apply Kd.R_drew)); exact HO436.out⟩, ⟨by (with_reducible repeat (first | refine Zag ?_ _ | refine Zah ?_ | refine Zaf ?_ _)); exact BK432.out⟩, ⟨by (with_reducible repeat (first | refine Zag ?_ _ | refine Zah ?_ | refine Zaf ?_ _)); exact BK433.out⟩, ⟨by repeat (first | (with_reducible first | exact HB.out | apply Zad | apply Zaa | apply Zac | refine Zae ?_ GE432.out | refine Zae ?_ GE433.out) | exact HB.out)⟩⟩
 case round =>
  clear H'
  try clear c1
  try clear p2
  try clear c7
  try clear hcz8_0
  try clear hcz8_1
  try clear hfz8_0
  try clear hfz8_1
  obtain ⟨x5_1, x19_1, rfl, HA, HK1, HO_5, BK432, BK433, HB⟩ := hrel
  cases gk with
  | zero => exact absurd HA.out (by simp [Zam.l0])
  | succ k1 =>
   have H := HA.out
   clear HA
   simp only [Zam.l0] at H
   by_cases c9 : x19_1 < (l0_1.length : Int)
   ·rw [if_pos c9] at H
    have c9b0 : decide (x19_1 < (l0_1.length : Int)) = true := decide_eq_true c9
    clear c9
    replace H := Option.bind_eq_some_iff.mp H
    obtain ⟨t437, A100, H⟩ := H
    replace H : ((Za3.f a0_0 l0_1 x19_1).bind fun t438 => ((some (([t437, wrap64 (a0_0 - t438)] : List Int) : List Int)).bind fun y439 => (if x5_1.length + y439.length < 17592186044416 then (Zam.l0 k1 a1 (x5_1 ++ y439) (l0_1.length : Int) (wrap64 (x19_1 + 1)) a0_0 l0_1) else (none)))) = some (r1, r2, r3) := H
    have A10 := Zab.mk A100
    clear A100
    replace H := Option.bind_eq_some_iff.mp H
    obtain ⟨t438, A110, H⟩ := H
    replace H : ((some (([t437, wrap64 (a0_0 - t438)] : List Int) : List Int)).bind fun y439 => (if x5_1.length + y439.length < 17592186044416 then (Zam.l0 k1 a1 (x5_1 ++ y439) (l0_1.length : Int) (wrap64 (x19_1 + 1)) a0_0 l0_1) else (none))) = some (r1, r2, r3) := H
    have A11 := Zab.mk A110
    clear A110
    obtain ⟨y439, hy439⟩ : ∃ y_ : List Int, y_ = (([t437, wrap64 (a0_0 - t438)] : List Int)) := ⟨_, rfl⟩
    replace H : (if x5_1.length + y439.length < 17592186044416 then (Zam.l0 k1 a1 (x5_1 ++ y439) (l0_1.length : Int) (wrap64 (x19_1 + 1)) a0_0 l0_1) else (none)) = some (r1, r2, r3) := by first | (rw [hy439]; with_reducible exact H) | (have H2_ := (Option.bind_some _ _).symm.trans H; rw [hy439]; with_reducible exact H2_) | (have H2_ := (Option.bind_some _ _).symm.trans H; with_reducible exact H2_) | with_reducible exact H | (rw [hy439]; exact H) | exact H
    have Ny439 := Zab.mk hy439
    clear hy439
    by_cases c12 : x5_1.length + y439.length < 17592186044416
    ·rw [if_pos c12] at H
     have LMc12 := Zab.mk c12
     clear c12
     obtain ⟨y442, hy442⟩ : ∃ y_ : List Int, y_ = (x5_1 ++ y439) := ⟨_, rfl⟩
     replace H : (Zam.l0 k1 a1 y442 (l0_1.length : Int) (wrap64 (x19_1 + 1)) a0_0 l0_1) = some (r1, r2, r3) := by first | (rw [hy442]; with_reducible exact H) | (have H2_ := (Option.bind_some _ _).symm.trans H; rw [hy442]; with_reducible exact H2_) | (have H2_ := (Option.bind_some _ _).symm.trans H; with_reducible exact H2_) | with_reducible exact H | (rw [hy442]; exact H) | exact H
     have Ny442 := Zab.mk hy442
     clear hy442
     have H' := Zab.mk H
     clear H
     try go_wp2
     have n0_ := Zab.mk (Kd.R_drew HO_5.out)
     have n1_ := Zab.mk (Zah BK432.out)
     have n2_ := Zab.mk (Zah BK433.out)
     have n3_ := Zab.mk (Zac HB.out)
     clear HO_5
     clear BK432
     clear BK433
     clear HB
     have HO_5 := n0_
     have BK432 := n1_
     have BK433 := n2_
     have HB := n3_
     clear n0_ n1_ n2_ n3_
     refine start_ (n := 13) (S := fun w' => w'.cell? ⟨gb432, 0, none⟩ = some (.int .i64 a0_0) ∧ w'.cell? ⟨gb432, 1, none⟩ = some (.slice A0_1 l0_1.length c0_1)) (ds := []) #[false, false, false, false, false, false, false, false, false, false, false, false, false] (by kernel_rfl) rfl rfl ⟨(Zaj BK432.out 0).trans rfl, (Zaj BK432.out 1).trans rfl⟩ (fun hHeld => ?_); refine with_tabW Zam.tab5 Zam.bits5 (fun HT_ HW_ => ?_)
     generalize wr.drew = w13 at HO_5 BK432 BK433 HB hHeld ⊢
     refine pure_ (i := 0) (N := some 22) (v := ?_) (a' := ?_) #[true, false, false, false, false, false, false, false, false, false, false, false, false] rfl rfl (Za1 HT_.out (by kernel_rfl)) (fun _ _ _ h => h) (Or.inl ⟨by rfl, ?_⟩) ?_ ?_
     rotate_left
     ·intro w'
      go_simp
      with_reducible rfl
     rotate_left
     ·simp only [Act.put, ZA, ZB, ZC, i64_w, i32_w]
      rfl
     refine pure_ (i := 2) (N := some 24) (v := ?_) (a' := ?_) #[true, false, true, false, false, false, false, false, false, false, false, false, false] rfl rfl (Za1 HT_.out (by kernel_rfl)) (fun _ _ _ h => h) (Or.inl ⟨by rfl, ?_⟩) ?_ ?_
     rotate_left
     ·intro w'
      go_simp
      with_reducible rfl
     rotate_left
     ·simp only [Act.put, ZA, ZB, ZC, i64_w, i32_w]
      rfl
     refine pure_ (i := 4) (N := some 26) (v := ?_) (a' := ?_) #[true, false, true, false, true, false, false, false, false, false, false, false, false] rfl rfl (Za1 HT_.out (by kernel_rfl)) (fun _ _ _ h => h) (Or.inl ⟨by rfl, ?_⟩) ?_ ?_
     rotate_left
     ·intro w'
      go_simp
      with_reducible rfl
     rotate_left
     ·simp only [Act.put, ZA, ZB, ZC, i64_w, i32_w]
      rfl
     refine pure_ (i := 7) (N := some 29) (v := ?_) (a' := ?_) #[true, false, true, false, true, false, false, true, false, false, false, false, false] rfl rfl (Za1 HT_.out (by kernel_rfl)) (fun _ _ _ h => h) (Or.inl ⟨by rfl, ?_⟩) ?_ ?_
     rotate_left
     ·intro w'
      go_simp
      with_reducible rfl
     rotate_left
     ·simp only [Act.put, ZA, ZB, ZC, i64_w, i32_w]
      rfl
     refine take_ (i := 1) (N := some 23) (v := ?_) (a' := ?_) #[true, true, true, false, true, false, false, true, false, false, false, false, false] rfl rfl (take_ofW HT_.out HW_.out (by kernel_rfl)) (fun _ _ _ h => h) (Or.inl ⟨by rfl, ?_⟩) hHeld ?_ ?_
     rotate_left
     ·rintro w' ⟨s0, s1⟩
      go_simp
      with_reducible rfl
     rotate_left
     ·simp only [Act.put, ZA, ZB, ZC, i64_w, i32_w]
      rfl
     refine take_ (i := 5) (N := some 27) (v := ?_) (a' := ?_) #[true, true, true, false, true, true, false, true, false, false, false, false, false] rfl rfl (take_ofW HT_.out HW_.out (by kernel_rfl)) (fun _ _ _ h => h) (Or.inl ⟨by rfl, ?_⟩) hHeld ?_ ?_
     rotate_left
     ·rintro w' ⟨s0, s1⟩
      go_simp
      with_reducible rfl
     rotate_left
     ·simp only [Act.put, ZA, ZB, ZC, i64_w, i32_w]
      rfl
     refine take_ (i := 6) (N := some 28) (v := ?_) (a' := ?_) #[true, true, true, false, true, true, true, true, false, false, false, false, false] rfl rfl (take_ofW HT_.out HW_.out (by kernel_rfl)) (fun _ _ _ h => h) (Or.inl ⟨by rfl, ?_⟩) hHeld ?_ ?_
     rotate_left
     ·rintro w' ⟨s0, s1⟩
      go_simp
      with_reducible rfl
     rotate_left
     ·simp only [Act.put, ZA, ZB, ZC, i64_w, i32_w]
      rfl
     refine one_ (i := 3) (N := some 25) #[true, true, true, true, true, true, true, true, false, false, false, false, false] rfl rfl (one_of HT_.out (by kernel_rfl)) (by decide) (fun K hK => ?_)
     refine goes_ Try.func109 (by kernel_rfl) rfl #[.agg #[.int .i64 a0_0, .slice A0_1 l0_1.length c0_1], .int .i64 x19_1] (by rfl) rfl rfl (by (try simp only [List.map_toArray, List.map_cons, List.map_nil]); first | done | rfl | (simp only [List.length_drop, List.length_take]; rfl)) ?_
     with_reducible refine (Za3.calls a0_0 _ _ l0_1 x19_1 t437 _ ?side1 ?side2 A10.out).mono ?_
     (case side1 => repeat (first | exact (Kd.C_below HR0_1.out HB.out) | (with_reducible refine Kd.C_alloc ?_ _) | (with_reducible refine Kd.C_drewN ?_ _) | (with_reducible refine Kd.C_drew ?_)))
     (case side2 => exact HC0_1.out)
     rintro e w14 ⟨rfl, hb⟩
     refine ⟨_, rfl, ?_⟩
     have n0_ := Zab.mk (Kd.R_below (by (with_reducible repeat (first | apply Kd.R_alloc | apply Kd.R_drewN | apply Kd.R_drew)); exact HO_5.out) hb)
     have n1_ := Zab.mk (Zaq (g := gb432) (o := .cells #[.int .i64 a0_0, .slice A0_1 l0_1.length c0_1] 28 (0, 0)) (by (with_reducible repeat (first | refine Zag ?_ _ | refine Zah ?_ | refine Zaf ?_ _)); exact BK432.out) hb)
     have n2_ := Zab.mk (Zaq (g := gb433) (o := .cells #[.slice none 0 0, .slice none 0 0, .int .i64 0] 85 (0, 0)) (by (with_reducible repeat (first | refine Zag ?_ _ | refine Zah ?_ | refine Zaf ?_ _)); exact BK433.out) hb)
     have n3_ := Zab.mk (Zap (by repeat (first | (with_reducible first | exact HB.out | apply Zad | apply Zaa | apply Zac | refine Zae ?_ GE432.out | refine Zae ?_ GE433.out) | exact HB.out)) hb)
     clear HO_5
     clear BK432
     clear BK433
     clear HB
     have HO_5 := n0_
     have BK432 := n1_
     have BK433 := n2_
     have HB := n3_
     clear n0_ n1_ n2_ n3_
     (try clear hb)
     (try clear hb2)
     (try clear hk)
     (try clear hi)
     refine hK.out _ _ ⟨(Zaj BK432.out 0).trans rfl, (Zaj BK432.out 1).trans rfl⟩ (fun hHeld => ?_)
     clear hK K
     refine norm_ (a' := ?_) ?_ ?_
     rotate_left
     ·show Act.put _ (some 25) _ = _
      simp only [Act.put, ZA, ZB, ZC, i64_w, i32_w]
      rfl
     refine one_ (i := 8) (N := some 30) #[true, true, true, true, true, true, true, true, true, false, false, false, false] rfl rfl (one_of HT_.out (by kernel_rfl)) (by decide) (fun K hK => ?_)
     refine goes_ Try.func109 (by kernel_rfl) rfl #[.agg #[.int .i64 a0_0, .slice A0_1 l0_1.length c0_1], .int .i64 x19_1] (by rfl) rfl rfl (by (try simp only [List.map_toArray, List.map_cons, List.map_nil]); first | done | rfl | (simp only [List.length_drop, List.length_take]; rfl)) ?_
     with_reducible refine (Za3.calls a0_0 _ _ l0_1 x19_1 t438 _ ?side1 ?side2 A11.out).mono ?_
     (case side1 => repeat (first | exact (Kd.C_below HR0_1.out HB.out) | (with_reducible refine Kd.C_alloc ?_ _) | (with_reducible refine Kd.C_drewN ?_ _) | (with_reducible refine Kd.C_drew ?_)))
     (case side2 => exact HC0_1.out)
     rintro e w15 ⟨rfl, hb⟩
     refine ⟨_, rfl, ?_⟩
     have n0_ := Zab.mk (Kd.R_below (by (with_reducible repeat (first | apply Kd.R_alloc | apply Kd.R_drewN | apply Kd.R_drew)); exact HO_5.out) hb)
     have n1_ := Zab.mk (Zaq (g := gb432) (o := .cells #[.int .i64 a0_0, .slice A0_1 l0_1.length c0_1] 28 (0, 0)) (by (with_reducible repeat (first | refine Zag ?_ _ | refine Zah ?_ | refine Zaf ?_ _)); exact BK432.out) hb)
     have n2_ := Zab.mk (Zaq (g := gb433) (o := .cells #[.slice none 0 0, .slice none 0 0, .int .i64 0] 85 (0, 0)) (by (with_reducible repeat (first | refine Zag ?_ _ | refine Zah ?_ | refine Zaf ?_ _)); exact BK433.out) hb)
     have n3_ := Zab.mk (Zap (by repeat (first | (with_reducible first | exact HB.out | apply Zad | apply Zaa | apply Zac | refine Zae ?_ GE432.out | refine Zae ?_ GE433.out) | exact HB.out)) hb)
     clear HO_5
     clear BK432
     clear BK433
     clear HB
     have HO_5 := n0_
     have BK432 := n1_
     have BK433 := n2_
     have HB := n3_
     clear n0_ n1_ n2_ n3_
     (try clear hb)
     (try clear hb2)
     (try clear hk)
     (try clear hi)
     refine hK.out _ _ ⟨(Zaj BK432.out 0).trans rfl, (Zaj BK432.out 1).trans rfl⟩ (fun hHeld => ?_)
     clear hK K
     refine norm_ (a' := ?_) ?_ ?_
     rotate_left
     ·show Act.put _ (some 30) _ = _
      simp only [Act.put, ZA, ZB, ZC, i64_w, i32_w]
      rfl
     refine pure_ (i := 9) (N := some 31) (v := ?_) (a' := ?_) #[true, true, true, true, true, true, true, true, true, true, false, false, false] rfl rfl (Za1 HT_.out (by kernel_rfl)) (fun _ _ _ h => h) (Or.inl ⟨by rfl, ?_⟩) ?_ ?_
     rotate_left
     ·intro w'
      go_simp
      with_reducible rfl
     rotate_left
     ·simp only [Act.put, ZA, ZB, ZC, i64_w, i32_w]
      rfl
     refine one_ (i := 10) (N := some 32) #[true, true, true, true, true, true, true, true, true, true, true, false, false] rfl rfl (one_of HT_.out (by kernel_rfl)) (by decide) (fun K hK => ?_)
     refine Kd.R_lit_step (Kd.int .i64) _ 2 ?hg (N := 32) ?hd (xs := ([t437, wrap64 (a0_0 - t438)] : List Int)) (inner := [.int .i64 t437, .int .i64 (wrap64 (a0_0 - t438))]) (ok := fun _ => True) (okp := fun _ => True) ?hr ?hp (fun _ hk => hk) trivial (Below.refl _ _) (Nat.le_refl _) (by simp) ?_; (case hd => rfl); (case hg => rfl); (case hr => first | (go_simp; done) | (go_simp; rfl)); (case hp => exact (Reps.one (show Kd.M (Kd.int .i64) _ _ _ t437 [.int .i64 t437] from rfl) (Reps.one (show Kd.M (Kd.int .i64) _ _ _ (wrap64 (a0_0 - t438)) [.int .i64 (wrap64 (a0_0 - t438))] from rfl) (Reps.none _ _))))
     intro v440 w16 ho17 hb hg_ hnew_
     clear hg_ hnew_
     (first | rw [← Ny439.out] at ho17 | (simp only [Int.reduceToNat] at ho17; rw [← Ny439.out] at ho17))
     have n0_ := Zab.mk (Kd.R_elder' (by (with_reducible repeat (first | apply Kd.R_alloc | apply Kd.R_drewN | apply Kd.R_drew)); exact HO_5.out) (Kd.R_base ho17) hb)
     have n1_ := Zab.mk (Kd.R_lower (Kd.R_new' ho17 (Kd.R_lt (by (with_reducible repeat (first | apply Kd.R_alloc | apply Kd.R_drewN | apply Kd.R_drew)); exact HO_5.out))) (Zan (by repeat (first | (with_reducible first | exact HB.out | apply Zad | apply Zaa | apply Zac | refine Zae ?_ GE432.out | refine Zae ?_ GE433.out) | exact HB.out))))
     have n2_ := Zab.mk (Zaq (g := gb432) (o := .cells #[.int .i64 a0_0, .slice A0_1 l0_1.length c0_1] 28 (0, 0)) (by (with_reducible repeat (first | refine Zag ?_ _ | refine Zah ?_ | refine Zaf ?_ _)); exact BK432.out) hb)
     have n3_ := Zab.mk (Zaq (g := gb433) (o := .cells #[.slice none 0 0, .slice none 0 0, .int .i64 0] 85 (0, 0)) (by (with_reducible repeat (first | refine Zag ?_ _ | refine Zah ?_ | refine Zaf ?_ _)); exact BK433.out) hb)
     have n4_ := Zab.mk (Zap (by repeat (first | (with_reducible first | exact HB.out | apply Zad | apply Zaa | apply Zac | refine Zae ?_ GE432.out | refine Zae ?_ GE433.out) | exact HB.out)) hb)
     clear HO_5
     clear BK432
     clear BK433
     clear HB
     have HO_5 := n0_
     have HO441 := n1_
     have BK432 := n2_
     have BK433 := n3_
     have HB := n4_
     clear n0_ n1_ n2_ n3_ n4_
     clear hb ho17
     obtain ⟨Ao19, co19, eo19⟩ := Kd.R_slice HO441.out
     (first | subst eo19 | (injection eo19 with f1_ f2_ f3_; have f4_ := f1_.symm; have f5_ := f3_.symm; clear f1_ f2_ f3_; subst f4_; subst f5_))
     refine hK.out _ _ ⟨(Zaj BK432.out 0).trans rfl, (Zaj BK432.out 1).trans rfl⟩ (fun hHeld => ?_)
     clear hK K
     refine norm_ (a' := ?_) ?_ ?_
     rotate_left
     ·show Act.put _ (some 32) _ = _
      simp only [Act.put, ZA, ZB, ZC, i64_w, i32_w]
      rfl
     refine one_ (i := 11) (N := some 33) #[true, true, true, true, true, true, true, true, true, true, true, true, false] rfl rfl (one_of HT_.out (by kernel_rfl)) (by decide) (fun K hK => ?_)
     refine Kd.R_append_rows_step (Kd.int .i64) (w0 := w) w.heap.size (by rfl) (.tmp 22) (.tmp 32) 22 2 (.int .i64 0) 8 rfl Try.underlying22 info2 rfl (by decide) (by omega) u5 x5_1 y439 _ _ _ (fun k_ => some k_ ≠ (.slice Ao19 y439.length co19 : Value).ownBlock) (fun _ => False) rfl rfl ?aO ?aR (fun _ _ h => h) (fun _ h => h.elim) ?aF ?aB ?aS ?aL ?_
     (case aR => repeat (first | exact (Kd.R_reads' HO441.out).2.2 | (with_reducible refine Kd.C_alloc ?_ _) | (with_reducible refine Kd.C_drewN ?_ _) | (with_reducible refine Kd.C_drew ?_)))
     (case aB => exact (by repeat (first | (with_reducible first | exact HB.out | apply Zad | apply Zaa | apply Zac | refine Zae ?_ GE432.out | refine Zae ?_ GE433.out) | exact HB.out)))
     (case aF => exact (fun k_ hk => Kd.fresh' (Kd.R_lt (by (with_reducible repeat (first | apply Kd.R_alloc | apply Kd.R_drewN | apply Kd.R_drew)); exact HO441.out)) k_ hk))
     (case aO => exact (by (with_reducible repeat (first | apply Kd.R_alloc | apply Kd.R_drewN | apply Kd.R_drew)); exact Kd.R_mono HO_5.out (fun _ hk => hk.2)))
     (case aS => exact (Zan (by repeat (first | (with_reducible first | exact HB.out | apply Zad | apply Zaa | apply Zac | refine Zae ?_ GE432.out | refine Zae ?_ GE433.out) | exact HB.out))))
     (case aL => have := LMc12.out; omega)
     intro v443 w18 ho hb hg hat
     rw [← Ny442.out] at ho
     have n0_ := Zab.mk (blk_grown (g := gb432) (o := .cells #[.int .i64 a0_0, .slice A0_1 l0_1.length c0_1] 28 (0, 0)) (by (with_reducible repeat (first | refine Zag ?_ _ | refine Zah ?_ | refine Zaf ?_ _)); exact BK432.out) hg (Kd.R_ne HO_5.out BK432.out (by decide)))
     have n1_ := Zab.mk (blk_grown (g := gb433) (o := .cells #[.slice none 0 0, .slice none 0 0, .int .i64 0] 85 (0, 0)) (by (with_reducible repeat (first | refine Zag ?_ _ | refine Zah ?_ | refine Zaf ?_ _)); exact BK433.out) hg (Kd.R_ne HO_5.out BK433.out (by decide)))
     have n2_ := Zab.mk (Kd.R_after (ok := (fun _ => True)) (by (with_reducible repeat (first | apply Kd.R_alloc | apply Kd.R_drewN | apply Kd.R_drew)); exact HO441.out) hg hat)
     have n3_ := Zab.mk (hb)
     have n4_ := Zab.mk (ho)
     clear BK432
     clear BK433
     clear HO441
     clear HB
     clear HO_5
     have BK432 := n0_
     have BK433 := n1_
     have HO441 := n2_
     have HB := n3_
     have HO444 := n4_
     clear n0_ n1_ n2_ n3_ n4_
     clear ho hb hg hat
     refine hK.out _ _ ⟨(Zaj BK432.out 0).trans rfl, (Zaj BK432.out 1).trans rfl⟩ (fun hHeld => ?_)
     clear hK K
     refine norm_ (a' := ?_) ?_ ?_
     rotate_left
     ·show Act.put _ (some 33) _ = _
      simp only [Act.put, ZA, ZB, ZC, i64_w, i32_w]
      rfl
     refine pure_ (i := 12) (N := some 5) (v := ?_) (a' := ?_) #[true, true, true, true, true, true, true, true, true, true, true, true, true] rfl rfl (Za1 HT_.out (by kernel_rfl)) (fun _ _ _ h => h) (Or.inl ⟨by rfl, ?_⟩) ?_ ?_
     rotate_left
     ·intro w'
      go_simp
      with_reducible rfl
     rotate_left
     ·simp only [Act.put, ZA, ZB, ZC, i64_w, i32_w]
      rfl
     refine done_ (done_of HT_.out (by kernel_rfl)) ?_
     try go_wp2
     go_roundg k1
     case measure => have := HK1.out; omega
     case rel => exact ⟨(y442), (wrap64 (x19_1 + 1)), (by first | rfl | (simp; done) | (simp [*]; done) | (simp [IntWalk.i64_left, *]; done)), H', ⟨by have := HK1.out; omega⟩, ⟨by (with_reducible repeat (first | apply Kd.R_alloc | apply Kd.R_drewN | apply Kd.R_drew)); exact Kd.R_mono HO444.out (fun _ hk => trivial)⟩, ⟨by (with_reducible repeat (first | refine Zag ?_ _ | refine Zah ?_ | refine Zaf ?_ _)); exact BK432.out⟩, ⟨by (with_reducible repeat (first | refine Zag ?_ _ | refine Zah ?_ | refine Zaf ?_ _)); exact BK433.out⟩, ⟨by repeat (first | (with_reducible first | exact HB.out | apply Zad | apply Zaa | apply Zac | refine Zae ?_ GE432.out | refine Zae ?_ GE433.out) | exact HB.out)⟩⟩
    ·rw [if_neg c12] at H
     exact absurd H (by simp)
   ·rw [if_neg c9] at H
    have c9b0 : decide (x19_1 < (l0_1.length : Int)) = false := decide_eq_false c9
    clear c9
    replace H := Option.bind_eq_some_iff.mp H
    obtain ⟨t445, A200, H⟩ := H
    replace H : (Zam.l1 k1 a1 t445 (x5_1.length : Int) 0 a0_0 l0_1) = some (r1, r2, r3) := H
    have A20 := Zab.mk A200
    clear A200
    have H' := Zab.mk H
    clear H
    obtain ⟨Ao21, co21, eo21⟩ := Kd.R_slice HO_5.out
    subst eo21
    go_wp2_with (first | ((with_reducible refine Zay (f := 59) rfl ?_); refine goesL_ (some 36) rfl rfl Try.func59 (by kernel_rfl) rfl #[.slice Ao21 x5_1.length co21] rfl (by (try simp only [List.map_toArray, List.map_cons, List.map_nil]); first | done | rfl | (simp only [List.length_drop, List.length_take]; rfl)) ?_; (with_reducible refine (slices_Sort_int64_int64.calls (fun k_ => some k_ = (.slice Ao21 x5_1.length co21 : Value).ownBlock) (.slice Ao21 x5_1.length co21) x5_1 t445 w _ ?side1 ?side2 A20.out).mono ?_); (case side1 => repeat (first | (with_reducible first | exact HB.out | apply Zad | apply Zaa | apply Zac | refine Zae ?_ GE432.out | refine Zae ?_ GE433.out) | exact HB.out)); (case side2 => exact Kd.R_tight rfl HO_5.out); rintro e w22 ⟨rfl, hy0, hb, hkp⟩; refine ⟨_, rfl, ?_⟩; have n0_ := Zab.mk (Kd.R_reok rfl hy0 (fun k_ e_ => HO_5.out.1 k_ e_)); have n1_ := Zab.mk (blk_kept (by (with_reducible repeat (first | refine Zag ?_ _ | refine Zah ?_ | refine Zaf ?_ _)); exact BK432.out) hkp (fun hs_ => (fun e_ => (Kd.R_ne HO_5.out BK432.out (by decide)) e_) hs_)); have n2_ := Zab.mk (blk_kept (by (with_reducible repeat (first | refine Zag ?_ _ | refine Zah ?_ | refine Zaf ?_ _)); exact BK433.out) hkp (fun hs_ => (fun e_ => (Kd.R_ne HO_5.out BK433.out (by decide)) e_) hs_)); have n3_ := Zab.mk (hb); clear HO_5; clear BK432; clear BK433; clear HB; have HO_5 := n0_; have BK432 := n1_; have BK433 := n2_; have HB := n3_; clear n0_ n1_ n2_ n3_; (try clear hb); (try clear hkp); (try clear hy0)))
    try simp only [Act.put, List.setIfInBounds_toArray, List.set_cons_zero, List.set_cons_succ]
    go_loopg [39] k1 (fun kq v39 w' => ∃ (x39_2 : Int) (x434002_2 : Int), v39 = .int .i64 x39_2 ∧ Zab (Zam.l1 kq a1 t445 (x5_1.length : Int) x39_2 a0_0 l0_1 = some (r1, r2, r3)) ∧ Zab (kq ≤ k1) ∧ Zab (Kd.R (Kd.int .i64) 2 w' w.heap.size (fun _ => True) (.slice Ao21 x5_1.length co21) t445) ∧ Zab (w'.heap[gb432]? = some (.cells #[.int .i64 a0_0, (.slice A0_1 l0_1.length c0_1)] 28 (0, 0))) ∧ Zab (w'.heap[gb433]? = some (.cells #[(.slice none 0 0), (.slice none 0 0), .int .i64 x434002_2] 85 (0, 0))) ∧ Zab (Below w.heap.size w w'))
    case atStart => exact ⟨(0), (0), (by first | rfl | (simp; done) | (simp [*]; done) | (simp [IntWalk.i64_left, *]; done)), H', ⟨Nat.le_refl _⟩, ⟨by (with_reducible repeat (first | apply Kd.R_alloc | apply Kd.R_drewN | apply Kd.R_drew)); exact HO_5.out⟩, ⟨by (with_reducible repeat (first | refine Zag ?_ _ | refine Zah ?_ | refine Zaf ?_ _)); exact BK432.out⟩, ⟨by (with_reducible repeat (first | refine Zag ?_ _ | refine Zah ?_ | refine Zaf ?_ _)); exact BK433.out⟩, ⟨by repeat (first | (with_reducible first | exact HB.out | apply Zad | apply Zaa | apply Zac | refine Zae ?_ GE432.out | refine Zae ?_ GE433.out) | exact HB.out)⟩⟩
    case round =>
     clear H'
     try clear c1
     try clear p2
     try clear c5
     try clear p6
     try clear c7
     try clear c9
     try clear c9b0
     try clear c10
     try clear c12
     try clear hcz8_0
     try clear hcz8_1
     try clear hfz8_0
     try clear hfz8_1
     try clear p2
     obtain ⟨x39_2, x434002_2, rfl, HA, HK2, HO_37, BK432, BK433, HB⟩ := hrel
     have hl37_2 := (Kd.R_reads' HO_37.out).1
     rw [hl37_2] at HO_37
     (try simp only [hl37_2])
     (try simp only [hl37_2] at BK432)
     (try simp only [hl37_2] at BK433)
     cases gk with
     | zero => exact absurd HA.out (by simp [Zam.l1])
     | succ k2 =>
      have H := HA.out
      clear HA
      simp only [Zam.l1] at H
      by_cases c23 : x39_2 < (x5_1.length : Int)
      ·rw [if_pos c23] at H
       have c23b0 : decide (x39_2 < (x5_1.length : Int)) = true := decide_eq_true c23
       clear c23
       by_cases c24 : 0 ≤ x39_2
       ·rw [if_pos c24] at H
        have c24b0 : decide (0 ≤ x39_2) = true := decide_eq_true c24
        clear c24
        by_cases c25 : x39_2 < (t445.length : Int)
        ·rw [if_pos c25] at H
         have c25b0 : decide (x39_2 < (t445.length : Int)) = true := decide_eq_true c25
         clear c25
         have H' := Zab.mk H
         clear H
         have p446 : 0 ≤ (x39_2 : Int) := of_decide_eq_true (by first | (with_reducible assumption) | assumption)
         have q446 : x39_2 < (t445.length : Int) := of_decide_eq_true (by first | (with_reducible assumption) | assumption)
         obtain ⟨ad446, e446, hx446_0⟩ := Kd.at_int (Kd.R_reads' HO_37.out).2.2 x39_2 p446 q446
         cases e446
         replace p446 := eq_true p446
         replace q446 := eq_true q446
         go_wp2_with (first | ((with_reducible refine gate_dst (N := 9) rfl ?_); refine box_event ?hg (N := 9) ?hd (cs := #[.slice none 0 0, .slice none 0 0, .int .i64 0]) (t := 85) ?hr ?_; (case hd => rfl); (case hg => rfl); (case hr => first | (go_simp; done) | (go_simp; rfl)); intro gb447 hg w26 hbox hb; have n0_ := Zab.mk (Kd.R_below (by (with_reducible repeat (first | apply Kd.R_alloc | apply Kd.R_drewN | apply Kd.R_drew)); exact HO_37.out) hb); have n1_ := Zab.mk (Zaq (g := gb432) (o := .cells #[.int .i64 a0_0, .slice A0_1 l0_1.length c0_1] 28 (0, 0)) (by (with_reducible repeat (first | refine Zag ?_ _ | refine Zah ?_ | refine Zaf ?_ _)); exact BK432.out) hb); have n2_ := Zab.mk (Zaq (g := gb433) (o := .cells #[.slice none 0 0, .slice none 0 0, .int .i64 x434002_2] 85 (0, 0)) (by (with_reducible repeat (first | refine Zag ?_ _ | refine Zah ?_ | refine Zaf ?_ _)); exact BK433.out) hb); have n3_ := Zab.mk (Zap (by repeat (first | (with_reducible first | exact HB.out | apply Zad | apply Zaa | apply Zac | refine Zae ?_ GE432.out | refine Zae ?_ GE433.out) | exact HB.out)) hb); have n4_ := Zab.mk (hbox); have n5_ := Zab.mk ((by rw [hg]; exact (Zan (by repeat (first | (with_reducible first | exact HB.out | apply Zad | apply Zaa | apply Zac | refine Zae ?_ GE432.out | refine Zae ?_ GE433.out) | exact HB.out))) : w.heap.size ≤ gb447)); have n6_ := Zab.mk ((by rw [hg]; exact (Zan (by repeat (first | (with_reducible first | exact HB.out | apply Zad | apply Zaa | apply Zac | refine Zae ?_ GE432.out | refine Zae ?_ GE433.out) | exact HB.out))) : w.heap.size ≤ gb447)); have n7_ := Zab.mk ((by rw [hg]; exact Nat.ne_of_lt (blk_lt (g := gb432) (o := .cells #[.int .i64 a0_0, .slice A0_1 l0_1.length c0_1] 28 (0, 0)) (by (with_reducible repeat (first | refine Zag ?_ _ | refine Zah ?_ | refine Zaf ?_ _)); exact BK432.out)) : gb432 ≠ gb447)); have n8_ := Zab.mk ((by rw [hg]; exact Nat.ne_of_gt (blk_lt (g := gb432) (o := .cells #[.int .i64 a0_0, .slice A0_1 l0_1.length c0_1] 28 (0, 0)) (by (with_reducible repeat (first | refine Zag ?_ _ | refine Zah ?_ | refine Zaf ?_ _)); exact BK432.out)) : gb447 ≠ gb432)); have n9_ := Zab.mk ((by rw [hg]; exact Nat.ne_of_lt (blk_lt (g := gb433) (o := .cells #[.slice none 0 0, .slice none 0 0, .int .i64 x434002_2] 85 (0, 0)) (by (with_reducible repeat (first | refine Zag ?_ _ | refine Zah ?_ | refine Zaf ?_ _)); exact BK433.out)) : gb433 ≠ gb447)); have n10_ := Zab.mk ((by rw [hg]; exact Nat.ne_of_gt (blk_lt (g := gb433) (o := .cells #[.slice none 0 0, .slice none 0 0, .int .i64 x434002_2] 85 (0, 0)) (by (with_reducible repeat (first | refine Zag ?_ _ | refine Zah ?_ | refine Zaf ?_ _)); exact BK433.out)) : gb447 ≠ gb433)); clear HO_37; clear BK432; clear BK433; clear HB; have HO_37 := n0_; have BK432 := n1_; have BK433 := n2_; have HB := n3_; have BK447 := n4_; have GW447 := n5_; have GE447 := n6_; have NB432_447 := n7_; have NB447_432 := n8_; have NB433_447 := n9_; have NB447_433 := n10_; clear n0_ n1_ n2_ n3_ n4_ n5_ n6_ n7_ n8_ n9_ n10_; clear hb hbox hg; have hnb27 := NB447_432.out; have hnc27 := NB432_447.out; have hnb28 := NB447_433.out; have hnc28 := NB433_447.out; have hcz29_0 : w26.cell? ⟨gb447, 0, none⟩ = some (.slice none 0 0) := (Zaj BK447.out 0).trans rfl; have hcz29_1 : w26.cell? ⟨gb447, 1, none⟩ = some (.slice none 0 0) := (Zaj BK447.out 1).trans rfl; have hcz29_2 : w26.cell? ⟨gb447, 2, none⟩ = some (.int .i64 0) := (Zaj BK447.out 2).trans rfl; have hfz29_0 := Zak BK447.out 0; have hfz29_1 := Zak BK447.out 1; have hfz29_2 := Zak BK447.out 2; have hnb30 := NB432_433.out; have hnc30 := NB433_432.out; have hcz31_0 : w26.cell? ⟨gb432, 0, none⟩ = some (.int .i64 a0_0) := (Zaj BK432.out 0).trans rfl; have hcz31_1 : w26.cell? ⟨gb432, 1, none⟩ = some (.slice A0_1 l0_1.length c0_1) := (Zaj BK432.out 1).trans rfl; have hfz31_0 := Zak BK432.out 0; have hfz31_1 := Zak BK432.out 1))
         go_loopg [10, 48] k2 (fun kq v10 v48 w' => ∃ (x10_3 : Bool) (x48_3 : Int) (x448000_3 : List Int) (x448001_3 : List Int) (x448002_3 : Int) (u448000 : Value) (u448001 : Value), v10 = .bool x10_3 ∧ v48 = .int .i64 x48_3 ∧ Zab (Zam.l2 kq a1 (rd t445 x39_2) x10_3 t445 (x5_1.length : Int) x39_2 (l0_1.length : Int) x48_3 a0_0 l0_1 x448000_3 x448001_3 x448002_3 = some (r1, r2, r3)) ∧ Zab (kq ≤ k2) ∧ Zab (Kd.R (Kd.int .i64) 2 w' w.heap.size (fun _ => True) (.slice (some ad446) t445.length co21) t445) ∧ Zab (Kd.R (Kd.int .i64) 3 w' w.heap.size (fun k_ => some k_ ≠ (u448001 : Value).ownBlock) u448000 x448000_3) ∧ Zab (Kd.R (Kd.int .i64) 3 w' w.heap.size (fun k_ => some k_ ≠ (u448000 : Value).ownBlock) u448001 x448001_3) ∧ Zab (w'.heap[gb432]? = some (.cells #[.int .i64 a0_0, (.slice A0_1 l0_1.length c0_1)] 28 (0, 0))) ∧ Zab (w'.heap[gb433]? = some (.cells #[(.slice none 0 0), (.slice none 0 0), .int .i64 x434002_2] 85 (0, 0))) ∧ Zab (w'.heap[gb447]? = some (.cells #[u448000, u448001, .int .i64 x448002_3] 85 (0, 0))) ∧ Zab (Below w.heap.size w w'))
         case atStart => exact ⟨(true), (0), (([] : List Int)), (([] : List Int)), (a1), (.slice none 0 0), (.slice none 0 0), (by first | rfl | (simp; done) | (simp [*]; done) | (simp [IntWalk.i64_left, *]; done)), (by first | rfl | (simp; done) | (simp [*]; done) | (simp [IntWalk.i64_left, *]; done)), H', ⟨Nat.le_refl _⟩, ⟨by (try simp only [hl37_2]); (with_reducible repeat (first | apply Kd.R_alloc | apply Kd.R_drewN | apply Kd.R_drew)); exact Kd.R_mono (Kd.R_far (p := ⟨gb447, 2, none⟩) (Kd.R_far (p := ⟨gb447, 1, none⟩) (Kd.R_far (p := ⟨gb447, 0, none⟩) (Kd.R_types HO_37.out BK447.out (by decide)) (fun _ hk => hk.2) (.slice none 0 0)) (fun _ hk => hk.2) (.slice none 0 0)) (fun _ hk => hk.2) (.int .i64 a1)) (fun _ hk => trivial)⟩, ⟨by (try simp only [hl37_2]); first | exact Kd.R_nil _ _ _ _ _ | exact Kd.N_nil _ _ _ _ _ | exact Kd.V_nil _ _ _ _ _ | exact Kd.Q_nil _ _ _ _ _ | exact Kd.S_nil _ _ _ _ _⟩, ⟨by (try simp only [hl37_2]); first | exact Kd.R_nil _ _ _ _ _ | exact Kd.N_nil _ _ _ _ _ | exact Kd.V_nil _ _ _ _ _ | exact Kd.Q_nil _ _ _ _ _ | exact Kd.S_nil _ _ _ _ _⟩, ⟨by (try simp only [hl37_2]); (with_reducible repeat (first | refine Zag ?_ _ | refine Zah ?_ | refine Zaf ?_ _)); refine blk_far ?_ NB432_447.out _; (with_reducible repeat (first | refine Zag ?_ _ | refine Zah ?_ | refine Zaf ?_ _)); refine blk_far ?_ NB432_447.out _; (with_reducible repeat (first | refine Zag ?_ _ | refine Zah ?_ | refine Zaf ?_ _)); refine blk_far ?_ NB432_447.out _; (with_reducible repeat (first | refine Zag ?_ _ | refine Zah ?_ | refine Zaf ?_ _)); exact BK432.out⟩, ⟨by (try simp only [hl37_2]); (with_reducible repeat (first | refine Zag ?_ _ | refine Zah ?_ | refine Zaf ?_ _)); refine blk_far ?_ NB433_447.out _; (with_reducible repeat (first | refine Zag ?_ _ | refine Zah ?_ | refine Zaf ?_ _)); refine blk_far ?_ NB433_447.out _; (with_reducible repeat (first | refine Zag ?_ _ | refine Zah ?_ | refine Zaf ?_ _)); refine blk_far ?_ NB433_447.out _; (with_reducible repeat (first | refine Zag ?_ _ | refine Zah ?_ | refine Zaf ?_ _)); exact BK433.out⟩, ⟨by (try simp only [hl37_2]); (with_reducible repeat (first | refine Zag ?_ _ | refine Zah ?_ | refine Zaf ?_ _)); refine blk_put (cs := #[.slice none 0 0, .slice none 0 0, .int .i64 0]) ?_ 2 _ rfl; (with_reducible repeat (first | refine Zag ?_ _ | refine Zah ?_ | refine Zaf ?_ _)); refine blk_put (cs := #[.slice none 0 0, .slice none 0 0, .int .i64 0]) ?_ 1 _ rfl; (with_reducible repeat (first | refine Zag ?_ _ | refine Zah ?_ | refine Zaf ?_ _)); refine blk_put (cs := #[.slice none 0 0, .slice none 0 0, .int .i64 0]) ?_ 0 _ rfl; (with_reducible repeat (first | refine Zag ?_ _ | refine Zah ?_ | refine Zaf ?_ _)); exact BK447.out⟩, ⟨by repeat (first | (with_reducible first | exact HB.out | apply Zad | apply Zaa | apply Zac | refine Zae ?_ GE432.out | refine Zae ?_ GE433.out | refine Zae ?_ GE447.out) | exact HB.out)⟩⟩
         case round =>
          clear H'
          try clear c1
          try clear c2
          try clear p2
          try clear c3
          try clear p4
          try clear q4
          try clear hx4
          try clear c5
          try clear p6
          try clear c7
          try clear c9
          try clear c9b0
          try clear c10
          try clear c12
          try clear c23
          try clear c23b0
          try clear c24
          try clear c24b0
          try clear c25
          try clear c25b0
          try clear c27
          try clear c28
          try clear c30
          try clear hcz29_0
          try clear hcz29_1
          try clear hcz29_2
          try clear hcz31_0
          try clear hcz31_1
          try clear hcz8_0
          try clear hcz8_1
          try clear hfz29_0
          try clear hfz29_1
          try clear hfz29_2
          try clear hfz31_0
          try clear hfz31_1
          try clear hfz8_0
          try clear hfz8_1
          try clear hx446_0
          try clear p2
          try clear p446
          try clear p6
          try clear q446
          obtain ⟨x10_3, x48_3, x448000_3, x448001_3, x448002_3, u448000, u448001, rfl, rfl, HA, HK3, HO_37, HO_448000, HO_448001, BK432, BK433, BK447, HB⟩ := hrel
          cases gk with
          | zero => exact absurd HA.out (by simp [Zam.l2])
          | succ k3 =>
           have H := HA.out
           clear HA
           simp only [Zam.l2] at H
           by_cases c32 : x48_3 < (l0_1.length : Int)
           ·rw [if_pos c32] at H
            have c32b0 : decide (x48_3 < (l0_1.length : Int)) = true := decide_eq_true c32
            clear c32
            replace H := Option.bind_eq_some_iff.mp H
            obtain ⟨t448, A330, H⟩ := H
            replace H : (if t448 > 0 then (Zam.j3 k3 a1 (rd t445 x39_2) x10_3 x48_3 (decide (t448 ≤ (rd t445 x39_2))) (decide ((wrap64 (a0_0 - t448)) ≤ (rd t445 x39_2))) t445 (x5_1.length : Int) x39_2 (l0_1.length : Int) x48_3 a0_0 l0_1 x448000_3 x448001_3 x448002_3) else (Zam.j3 k3 a1 (rd t445 x39_2) x10_3 x48_3 (decide (t448 ≤ (rd t445 x39_2))) false t445 (x5_1.length : Int) x39_2 (l0_1.length : Int) x48_3 a0_0 l0_1 x448000_3 x448001_3 x448002_3)) = some (r1, r2, r3) := H
            have A33 := Zab.mk A330
            clear A330
            have HC34 := Zab.mk H
            clear H
            have hnb35 := NB432_433.out
            have hnc35 := NB433_432.out
            have hnb36 := NB432_447.out
            have hnc36 := NB447_432.out
            have hcz37_0 : wr.cell? ⟨gb432, 0, none⟩ = some (.int .i64 a0_0) := (Zaj BK432.out 0).trans rfl
            have hcz37_1 : wr.cell? ⟨gb432, 1, none⟩ = some (.slice A0_1 l0_1.length c0_1) := (Zaj BK432.out 1).trans rfl
            have hfz37_0 := Zak BK432.out 0
            have hfz37_1 := Zak BK432.out 1
            go_upto_region 16 with (first | ((with_reducible refine Zay (f := 109) rfl ?_); refine goesL_ (some 53) rfl rfl Try.func109 (by kernel_rfl) rfl #[.agg #[.int .i64 a0_0, .slice A0_1 l0_1.length c0_1], .int .i64 x48_3] rfl (by (try simp only [List.map_toArray, List.map_cons, List.map_nil]); first | done | rfl | (simp only [List.length_drop, List.length_take]; rfl)) ?_; (with_reducible refine (Za3.calls a0_0 _ _ l0_1 x48_3 t448 _ ?side1 ?side2 A33.out).mono ?_); (case side1 => repeat (first | exact (Kd.C_below HR0_1.out HB.out) | (with_reducible refine Kd.C_alloc ?_ _) | (with_reducible refine Kd.C_drewN ?_ _) | (with_reducible refine Kd.C_drew ?_))); (case side2 => exact HC0_1.out); rintro e w38 ⟨rfl, hb⟩; refine ⟨_, rfl, ?_⟩; have n0_ := Zab.mk (Kd.R_below (by (with_reducible repeat (first | apply Kd.R_alloc | apply Kd.R_drewN | apply Kd.R_drew)); exact HO_37.out) hb); have n1_ := Zab.mk (Kd.R_below (by (with_reducible repeat (first | apply Kd.R_alloc | apply Kd.R_drewN | apply Kd.R_drew)); exact HO_448000.out) hb); have n2_ := Zab.mk (Kd.R_below (by (with_reducible repeat (first | apply Kd.R_alloc | apply Kd.R_drewN | apply Kd.R_drew)); exact HO_448001.out) hb); have n3_ := Zab.mk (Zaq (g := gb432) (o := .cells #[.int .i64 a0_0, .slice A0_1 l0_1.length c0_1] 28 (0, 0)) (by (with_reducible repeat (first | refine Zag ?_ _ | refine Zah ?_ | refine Zaf ?_ _)); exact BK432.out) hb); have n4_ := Zab.mk (Zaq (g := gb433) (o := .cells #[.slice none 0 0, .slice none 0 0, .int .i64 x434002_2] 85 (0, 0)) (by (with_reducible repeat (first | refine Zag ?_ _ | refine Zah ?_ | refine Zaf ?_ _)); exact BK433.out) hb); have n5_ := Zab.mk (Zaq (g := gb447) (o := .cells #[u448000, u448001, .int .i64 x448002_3] 85 (0, 0)) (by (with_reducible repeat (first | refine Zag ?_ _ | refine Zah ?_ | refine Zaf ?_ _)); exact BK447.out) hb); have n6_ := Zab.mk (Zap (by repeat (first | (with_reducible first | exact HB.out | apply Zad | apply Zaa | apply Zac | refine Zae ?_ GE432.out | refine Zae ?_ GE433.out | refine Zae ?_ GE447.out) | exact HB.out)) hb); clear HO_37; clear HO_448000; clear HO_448001; clear BK432; clear BK433; clear BK447; clear HB; have HO_37 := n0_; have HO_448000 := n1_; have HO_448001 := n2_; have BK432 := n3_; have BK433 := n4_; have BK447 := n5_; have HB := n6_; clear n0_ n1_ n2_ n3_ n4_ n5_ n6_; (try clear hb); (try clear hb2); (try clear hk); (try clear hi)))
            (try simp only [Act.put, List.setIfInBounds_toArray, List.set_cons_zero, List.set_cons_succ])
            go_cut [13, 14] (fun v13 v14 wc => ∃ (kq : Nat) (x13_33 : Bool) (x14_33 : Bool), v13 = .bool x13_33 ∧ v14 = .bool x14_33 ∧ Zab (Zam.j3 kq a1 (rd t445 x39_2) x10_3 x48_3 x13_33 x14_33 t445 (x5_1.length : Int) x39_2 (l0_1.length : Int) x48_3 a0_0 l0_1 x448000_3 x448001_3 x448002_3 = some (r1, r2, r3)) ∧ Zab (kq ≤ k3) ∧ Zab (Kd.R (Kd.int .i64) 2 wc w.heap.size (fun _ => True) (.slice (some ad446) t445.length co21) t445) ∧ Zab (Kd.R (Kd.int .i64) 3 wc w.heap.size (fun k_ => some k_ ≠ (u448001 : Value).ownBlock) u448000 x448000_3) ∧ Zab (Kd.R (Kd.int .i64) 3 wc w.heap.size (fun k_ => some k_ ≠ (u448000 : Value).ownBlock) u448001 x448001_3) ∧ Zab (wc.heap[gb432]? = some (.cells #[.int .i64 a0_0, (.slice A0_1 l0_1.length c0_1)] 28 (0, 0))) ∧ Zab (wc.heap[gb433]? = some (.cells #[(.slice none 0 0), (.slice none 0 0), .int .i64 x434002_2] 85 (0, 0))) ∧ Zab (wc.heap[gb447]? = some (.cells #[u448000, u448001, .int .i64 x448002_3] 85 (0, 0))) ∧ Zab (Below w.heap.size w wc))
            case first =>
             have H := HC34.out
             clear HC34
             by_cases c39 : t448 > 0
             ·rw [if_pos c39] at H
              have c39b0 : decide (0 < t448) = true := decide_eq_true c39
              clear c39
              (first | rw [c39b0] | (simp only [i64_w, i32_w]; rw [c39b0]) | skip)
              have H' := Zab.mk H
              clear H
              try go_wp2
              have n0_ := Zab.mk (Kd.R_drew HO_37.out)
              have n1_ := Zab.mk (Kd.R_drew HO_448000.out)
              have n2_ := Zab.mk (Kd.R_drew HO_448001.out)
              have n3_ := Zab.mk (Zah BK432.out)
              have n4_ := Zab.mk (Zah BK433.out)
              have n5_ := Zab.mk (Zah BK447.out)
              have n6_ := Zab.mk (Zac HB.out)
              clear HO_37
              clear HO_448000
              clear HO_448001
              clear BK432
              clear BK433
              clear BK447
              clear HB
              have HO_37 := n0_
              have HO_448000 := n1_
              have HO_448001 := n2_
              have BK432 := n3_
              have BK433 := n4_
              have BK447 := n5_
              have HB := n6_
              clear n0_ n1_ n2_ n3_ n4_ n5_ n6_
              refine start_ (n := 15) (S := fun w' => w'.cell? ⟨gb432, 0, none⟩ = some (.int .i64 a0_0) ∧ w'.cell? ⟨gb432, 1, none⟩ = some (.slice A0_1 l0_1.length c0_1)) (ds := []) #[false, false, false, false, false, false, false, false, false, false, false, false, false, false, false] (by kernel_rfl) rfl rfl ⟨(Zaj BK432.out 0).trans rfl, (Zaj BK432.out 1).trans rfl⟩ (fun hHeld => ?_); refine with_tabW Zam.tab16 Zam.bits16 (fun HT_ HW_ => ?_)
              generalize w38.drew = w40 at HO_37 HO_448000 HO_448001 BK432 BK433 BK447 HB hHeld ⊢
              refine pure_ (i := 0) (N := some 54) (v := ?_) (a' := ?_) #[true, false, false, false, false, false, false, false, false, false, false, false, false, false, false] rfl rfl (Za1 HT_.out (by kernel_rfl)) (fun _ _ _ h => h) (Or.inl ⟨by rfl, ?_⟩) ?_ ?_
              rotate_left
              ·intro w'
               go_simp
               with_reducible rfl
              rotate_left
              ·simp only [Act.put, ZA, ZB, ZC, i64_w, i32_w]
               rfl
              refine pure_ (i := 1) (N := some 55) (v := ?_) (a' := ?_) #[true, true, false, false, false, false, false, false, false, false, false, false, false, false, false] rfl rfl (Za1 HT_.out (by kernel_rfl)) (fun _ _ _ h => h) (Or.inl ⟨by rfl, ?_⟩) ?_ ?_
              rotate_left
              ·intro w'
               go_simp
               with_reducible rfl
              rotate_left
              ·simp only [Act.put, ZA, ZB, ZC, i64_w, i32_w]
               rfl
              refine pure_ (i := 2) (N := some 56) (v := ?_) (a' := ?_) #[true, true, true, false, false, false, false, false, false, false, false, false, false, false, false] rfl rfl (Za1 HT_.out (by kernel_rfl)) (fun _ _ _ h => h) (Or.inl ⟨by rfl, ?_⟩) ?_ ?_
              rotate_left
              ·intro w'
               go_simp
               with_reducible rfl
              rotate_left
              ·simp only [Act.put, ZA, ZB, ZC, i64_w, i32_w]
               rfl
              refine pure_ (i := 3) (N := some 57) (v := ?_) (a' := ?_) #[true, true, true, true, false, false, false, false, false, false, false, false, false, false, false] rfl rfl (Za1 HT_.out (by kernel_rfl)) (fun _ _ _ h => h) (Or.inl ⟨by rfl, ?_⟩) ?_ ?_
              rotate_left
              ·intro w'
               go_simp
               with_reducible rfl
              rotate_left
              ·simp only [Act.put, ZA, ZB, ZC, i64_w, i32_w]
               rfl
              refine pure_ (i := 4) (N := some 58) (v := ?_) (a' := ?_) #[true, true, true, true, true, false, false, false, false, false, false, false, false, false, false] rfl rfl (Za1 HT_.out (by kernel_rfl)) (fun _ _ _ h => h) (Or.inl ⟨by rfl, ?_⟩) ?_ ?_
              rotate_left
              ·intro w'
               go_simp
               with_reducible rfl
              rotate_left
              ·simp only [Act.put, ZA, ZB, ZC, i64_w, i32_w]
               rfl
              refine pure_ (i := 5) (N := some 59) (v := ?_) (a' := ?_) #[true, true, true, true, true, true, false, false, false, false, false, false, false, false, false] rfl rfl (Za1 HT_.out (by kernel_rfl)) (fun _ _ _ h => h) (Or.inl ⟨by rfl, ?_⟩) ?_ ?_
              rotate_left
              ·intro w'
               go_simp
               with_reducible rfl
              rotate_left
              ·simp only [Act.put, ZA, ZB, ZC, i64_w, i32_w]
               rfl
              refine pure_ (i := 6) (N := some 60) (v := ?_) (a' := ?_) #[true, true, true, true, true, true, true, false, false, false, false, false, false, false, false] rfl rfl (Za1 HT_.out (by kernel_rfl)) (fun _ _ _ h => h) (Or.inl ⟨by rfl, ?_⟩) ?_ ?_
              rotate_left
              ·intro w'
               go_simp
               with_reducible rfl
              rotate_left
              ·simp only [Act.put, ZA, ZB, ZC, i64_w, i32_w]
               rfl
              refine pure_ (i := 8) (N := some 62) (v := ?_) (a' := ?_) #[true, true, true, true, true, true, true, false, true, false, false, false, false, false, false] rfl rfl (Za1 HT_.out (by kernel_rfl)) (fun _ _ _ h => h) (Or.inl ⟨by rfl, ?_⟩) ?_ ?_
              rotate_left
              ·intro w'
               go_simp
               with_reducible rfl
              rotate_left
              ·simp only [Act.put, ZA, ZB, ZC, i64_w, i32_w]
               rfl
              refine pure_ (i := 10) (N := some 64) (v := ?_) (a' := ?_) #[true, true, true, true, true, true, true, false, true, false, true, false, false, false, false] rfl rfl (Za1 HT_.out (by kernel_rfl)) (fun _ _ _ h => h) (Or.inl ⟨by rfl, ?_⟩) ?_ ?_
              rotate_left
              ·intro w'
               go_simp
               with_reducible rfl
              rotate_left
              ·simp only [Act.put, ZA, ZB, ZC, i64_w, i32_w]
               rfl
              refine pure_ (i := 13) (N := some 13) (v := ?_) (a' := ?_) #[true, true, true, true, true, true, true, false, true, false, true, false, false, true, false] rfl rfl (Za1 HT_.out (by kernel_rfl)) (fun _ _ _ h => h) (Or.inl ⟨by rfl, ?_⟩) ?_ ?_
              rotate_left
              ·intro w'
               go_simp
               with_reducible rfl
              rotate_left
              ·simp only [Act.put, ZA, ZB, ZC, i64_w, i32_w]
               rfl
              refine take_ (i := 7) (N := some 61) (v := ?_) (a' := ?_) #[true, true, true, true, true, true, true, true, true, false, true, false, false, true, false] rfl rfl (take_ofW HT_.out HW_.out (by kernel_rfl)) (fun _ _ _ h => h) (Or.inl ⟨by rfl, ?_⟩) hHeld ?_ ?_
              rotate_left
              ·rintro w' ⟨s0, s1⟩
               go_simp
               with_reducible rfl
              rotate_left
              ·simp only [Act.put, ZA, ZB, ZC, i64_w, i32_w]
               rfl
              refine pure_ (i := 9) (N := some 63) (v := ?_) (a' := ?_) #[true, true, true, true, true, true, true, true, true, true, true, false, false, true, false] rfl rfl (Za1 HT_.out (by kernel_rfl)) (fun _ _ _ h => h) (Or.inl ⟨by rfl, ?_⟩) ?_ ?_
              rotate_left
              ·intro w'
               go_simp
               with_reducible rfl
              rotate_left
              ·simp only [Act.put, ZA, ZB, ZC, i64_w, i32_w]
               rfl
              refine pure_ (i := 11) (N := some 65) (v := ?_) (a' := ?_) #[true, true, true, true, true, true, true, true, true, true, true, true, false, true, false] rfl rfl (Za1 HT_.out (by kernel_rfl)) (fun _ _ _ h => h) (Or.inl ⟨by rfl, ?_⟩) ?_ ?_
              rotate_left
              ·intro w'
               go_simp
               with_reducible rfl
              rotate_left
              ·simp only [Act.put, ZA, ZB, ZC, i64_w, i32_w]
               rfl
              refine pure_ (i := 12) (N := some 66) (v := ?_) (a' := ?_) #[true, true, true, true, true, true, true, true, true, true, true, true, true, true, false] rfl rfl (Za1 HT_.out (by kernel_rfl)) (fun _ _ _ h => h) (Or.inl ⟨by rfl, ?_⟩) ?_ ?_
              rotate_left
              ·intro w'
               go_simp
               with_reducible rfl
              rotate_left
              ·simp only [Act.put, ZA, ZB, ZC, i64_w, i32_w]
               rfl
              refine pure_ (i := 14) (N := some 14) (v := ?_) (a' := ?_) #[true, true, true, true, true, true, true, true, true, true, true, true, true, true, true] rfl rfl (Za1 HT_.out (by kernel_rfl)) (fun _ _ _ h => h) (Or.inl ⟨by rfl, ?_⟩) ?_ ?_
              rotate_left
              ·intro w'
               go_simp
               with_reducible rfl
              rotate_left
              ·simp only [Act.put, ZA, ZB, ZC, i64_w, i32_w]
               rfl
              refine done_ (done_of HT_.out (by kernel_rfl)) ?_
              try go_wp2
              go_meet
              case rel => exact ⟨_, (decide (t448 ≤ (rd t445 x39_2))), (decide ((wrap64 (a0_0 - t448)) ≤ (rd t445 x39_2))), (by first | rfl | (simp; done) | (simp [*]; done) | (simp [IntWalk.i64_left, *]; done)), (by first | rfl | (simp; done) | (simp [*]; done) | (simp [IntWalk.i64_left, *]; done)), H', ⟨by have := HK1.out; have := HK2.out; have := HK3.out; first | omega | exact Nat.le_refl _⟩, ⟨by (try simp only [hl37_2]); (with_reducible repeat (first | apply Kd.R_alloc | apply Kd.R_drewN | apply Kd.R_drew)); exact HO_37.out⟩, ⟨by (try simp only [hl37_2]); (with_reducible repeat (first | apply Kd.R_alloc | apply Kd.R_drewN | apply Kd.R_drew)); exact HO_448000.out⟩, ⟨by (try simp only [hl37_2]); (with_reducible repeat (first | apply Kd.R_alloc | apply Kd.R_drewN | apply Kd.R_drew)); exact HO_448001.out⟩, ⟨by (try simp only [hl37_2]); (with_reducible repeat (first | refine Zag ?_ _ | refine Zah ?_ | refine Zaf ?_ _)); exact BK432.out⟩, ⟨by (try simp only [hl37_2]); (with_reducible repeat (first | refine Zag ?_ _ | refine Zah ?_ | refine Zaf ?_ _)); exact BK433.out⟩, ⟨by (try simp only [hl37_2]); (with_reducible repeat (first | refine Zag ?_ _ | refine Zah ?_ | refine Zaf ?_ _)); exact BK447.out⟩, ⟨by repeat (first | (with_reducible first | exact HB.out | apply Zad | apply Zaa | apply Zac | refine Zae ?_ GE432.out | refine Zae ?_ GE433.out | refine Zae ?_ GE447.out) | exact HB.out)⟩⟩
             ·rw [if_neg c39] at H
              have c39b0 : decide (0 < t448) = false := decide_eq_false c39
              clear c39
              (first | rw [c39b0] | (simp only [i64_w, i32_w]; rw [c39b0]) | skip)
              have H' := Zab.mk H
              clear H
              try go_wp2
              have n0_ := Zab.mk (Kd.R_drew HO_37.out)
              have n1_ := Zab.mk (Kd.R_drew HO_448000.out)
              have n2_ := Zab.mk (Kd.R_drew HO_448001.out)
              have n3_ := Zab.mk (Zah BK432.out)
              have n4_ := Zab.mk (Zah BK433.out)
              have n5_ := Zab.mk (Zah BK447.out)
              have n6_ := Zab.mk (Zac HB.out)
              clear HO_37
              clear HO_448000
              clear HO_448001
              clear BK432
              clear BK433
              clear BK447
              clear HB
              have HO_37 := n0_
              have HO_448000 := n1_
              have HO_448001 := n2_
              have BK432 := n3_
              have BK433 := n4_
              have BK447 := n5_
              have HB := n6_
              clear n0_ n1_ n2_ n3_ n4_ n5_ n6_
              refine start_ (n := 15) (S := fun w' => True) (ds := []) #[false, false, false, false, false, false, false, false, false, false, false, false, false, false, false] (by kernel_rfl) rfl rfl trivial (fun hHeld => ?_); refine with_tabW Zam.tab16 Zam.bits16 (fun HT_ HW_ => ?_)
              generalize w38.drew = w41 at HO_37 HO_448000 HO_448001 BK432 BK433 BK447 HB hHeld ⊢
              refine pure_ (i := 0) (N := some 54) (v := ?_) (a' := ?_) #[true, false, false, false, false, false, false, false, false, false, false, false, false, false, false] rfl rfl (Za1 HT_.out (by kernel_rfl)) (fun _ _ _ h => h) (Or.inl ⟨by rfl, ?_⟩) ?_ ?_
              rotate_left
              ·intro w'
               go_simp
               with_reducible rfl
              rotate_left
              ·simp only [Act.put, ZA, ZB, ZC, i64_w, i32_w]
               rfl
              refine pure_ (i := 1) (N := some 55) (v := ?_) (a' := ?_) #[true, true, false, false, false, false, false, false, false, false, false, false, false, false, false] rfl rfl (Za1 HT_.out (by kernel_rfl)) (fun _ _ _ h => h) (Or.inl ⟨by rfl, ?_⟩) ?_ ?_
              rotate_left
              ·intro w'
               go_simp
               with_reducible rfl
              rotate_left
              ·simp only [Act.put, ZA, ZB, ZC, i64_w, i32_w]
               rfl
              refine pure_ (i := 2) (N := some 56) (v := ?_) (a' := ?_) #[true, true, true, false, false, false, false, false, false, false, false, false, false, false, false] rfl rfl (Za1 HT_.out (by kernel_rfl)) (fun _ _ _ h => h) (Or.inl ⟨by rfl, ?_⟩) ?_ ?_
              rotate_left
              ·intro w'
               go_simp
               with_reducible rfl
              rotate_left
              ·simp only [Act.put, ZA, ZB, ZC, i64_w, i32_w]
               rfl
              refine pure_ (i := 3) (N := some 57) (v := ?_) (a' := ?_) #[true, true, true, true, false, false, false, false, false, false, false, false, false, false, false] rfl rfl (Za1 HT_.out (by kernel_rfl)) (fun _ _ _ h => h) (Or.inl ⟨by rfl, ?_⟩) ?_ ?_
              rotate_left
              ·intro w'
               go_simp
               with_reducible rfl
              rotate_left
              ·simp only [Act.put, ZA, ZB, ZC, i64_w, i32_w]
               rfl
              refine pure_ (i := 4) (N := some 58) (v := ?_) (a' := ?_) #[true, true, true, true, true, false, false, false, false, false, false, false, false, false, false] rfl rfl (Za1 HT_.out (by kernel_rfl)) (fun _ _ _ h => h) (Or.inl ⟨by rfl, ?_⟩) ?_ ?_
              rotate_left
              ·intro w'
               go_simp
               with_reducible rfl
              rotate_left
              ·simp only [Act.put, ZA, ZB, ZC, i64_w, i32_w]
               rfl
              refine pure_ (i := 5) (N := some 59) (v := ?_) (a' := ?_) #[true, true, true, true, true, true, false, false, false, false, false, false, false, false, false] rfl rfl (Za1 HT_.out (by kernel_rfl)) (fun _ _ _ h => h) (Or.inl ⟨by rfl, ?_⟩) ?_ ?_
              rotate_left
              ·intro w'
               go_simp
               with_reducible rfl
              rotate_left
              ·simp only [Act.put, ZA, ZB, ZC, i64_w, i32_w]
               rfl
              refine pure_ (i := 6) (N := some 60) (v := undef) (a' := ?_) #[true, true, true, true, true, true, true, false, false, false, false, false, false, false, false] rfl rfl (Za1 HT_.out (by kernel_rfl)) (fun _ _ _ h => h) (Or.inr ⟨by rfl, rfl⟩) ?_ ?_
              rotate_left
              ·simp only [Act.put, ZA, ZB, ZC, i64_w, i32_w]
               rfl
              refine pure_ (i := 7) (N := some 61) (v := undef) (a' := ?_) #[true, true, true, true, true, true, true, true, false, false, false, false, false, false, false] rfl rfl (Za1 HT_.out (by kernel_rfl)) (fun _ _ _ h => h) (Or.inr ⟨by rfl, rfl⟩) ?_ ?_
              rotate_left
              ·simp only [Act.put, ZA, ZB, ZC, i64_w, i32_w]
               rfl
              refine pure_ (i := 8) (N := some 62) (v := undef) (a' := ?_) #[true, true, true, true, true, true, true, true, true, false, false, false, false, false, false] rfl rfl (Za1 HT_.out (by kernel_rfl)) (fun _ _ _ h => h) (Or.inr ⟨by rfl, rfl⟩) ?_ ?_
              rotate_left
              ·simp only [Act.put, ZA, ZB, ZC, i64_w, i32_w]
               rfl
              refine pure_ (i := 9) (N := some 63) (v := undef) (a' := ?_) #[true, true, true, true, true, true, true, true, true, true, false, false, false, false, false] rfl rfl (Za1 HT_.out (by kernel_rfl)) (fun _ _ _ h => h) (Or.inr ⟨by rfl, rfl⟩) ?_ ?_
              rotate_left
              ·simp only [Act.put, ZA, ZB, ZC, i64_w, i32_w]
               rfl
              refine pure_ (i := 10) (N := some 64) (v := undef) (a' := ?_) #[true, true, true, true, true, true, true, true, true, true, true, false, false, false, false] rfl rfl (Za1 HT_.out (by kernel_rfl)) (fun _ _ _ h => h) (Or.inr ⟨by rfl, rfl⟩) ?_ ?_
              rotate_left
              ·simp only [Act.put, ZA, ZB, ZC, i64_w, i32_w]
               rfl
              refine pure_ (i := 11) (N := some 65) (v := undef) (a' := ?_) #[true, true, true, true, true, true, true, true, true, true, true, true, false, false, false] rfl rfl (Za1 HT_.out (by kernel_rfl)) (fun _ _ _ h => h) (Or.inr ⟨by rfl, rfl⟩) ?_ ?_
              rotate_left
              ·simp only [Act.put, ZA, ZB, ZC, i64_w, i32_w]
               rfl
              refine pure_ (i := 12) (N := some 66) (v := ?_) (a' := ?_) #[true, true, true, true, true, true, true, true, true, true, true, true, true, false, false] rfl rfl (Za1 HT_.out (by kernel_rfl)) (fun _ _ _ h => h) (Or.inl ⟨by rfl, ?_⟩) ?_ ?_
              rotate_left
              ·intro w'
               go_simp
               with_reducible rfl
              rotate_left
              ·simp only [Act.put, ZA, ZB, ZC, i64_w, i32_w]
               rfl
              refine pure_ (i := 13) (N := some 13) (v := ?_) (a' := ?_) #[true, true, true, true, true, true, true, true, true, true, true, true, true, true, false] rfl rfl (Za1 HT_.out (by kernel_rfl)) (fun _ _ _ h => h) (Or.inl ⟨by rfl, ?_⟩) ?_ ?_
              rotate_left
              ·intro w'
               go_simp
               with_reducible rfl
              rotate_left
              ·simp only [Act.put, ZA, ZB, ZC, i64_w, i32_w]
               rfl
              refine pure_ (i := 14) (N := some 14) (v := ?_) (a' := ?_) #[true, true, true, true, true, true, true, true, true, true, true, true, true, true, true] rfl rfl (Za1 HT_.out (by kernel_rfl)) (fun _ _ _ h => h) (Or.inl ⟨by rfl, ?_⟩) ?_ ?_
              rotate_left
              ·intro w'
               go_simp
               with_reducible rfl
              rotate_left
              ·simp only [Act.put, ZA, ZB, ZC, i64_w, i32_w]
               rfl
              refine done_ (done_of HT_.out (by kernel_rfl)) ?_
              try go_wp2
              go_meet
              case rel => exact ⟨_, (decide (t448 ≤ (rd t445 x39_2))), (false), (by first | rfl | (simp; done) | (simp [*]; done) | (simp [IntWalk.i64_left, *]; done)), (by first | rfl | (simp; done) | (simp [*]; done) | (simp [IntWalk.i64_left, *]; done)), H', ⟨by have := HK1.out; have := HK2.out; have := HK3.out; first | omega | exact Nat.le_refl _⟩, ⟨by (try simp only [hl37_2]); (with_reducible repeat (first | apply Kd.R_alloc | apply Kd.R_drewN | apply Kd.R_drew)); exact HO_37.out⟩, ⟨by (try simp only [hl37_2]); (with_reducible repeat (first | apply Kd.R_alloc | apply Kd.R_drewN | apply Kd.R_drew)); exact HO_448000.out⟩, ⟨by (try simp only [hl37_2]); (with_reducible repeat (first | apply Kd.R_alloc | apply Kd.R_drewN | apply Kd.R_drew)); exact HO_448001.out⟩, ⟨by (try simp only [hl37_2]); (with_reducible repeat (first | refine Zag ?_ _ | refine Zah ?_ | refine Zaf ?_ _)); exact BK432.out⟩, ⟨by (try simp only [hl37_2]); (with_reducible repeat (first | refine Zag ?_ _ | refine Zah ?_ | refine Zaf ?_ _)); exact BK433.out⟩, ⟨by (try simp only [hl37_2]); (with_reducible repeat (first | refine Zag ?_ _ | refine Zah ?_ | refine Zaf ?_ _)); exact BK447.out⟩, ⟨by repeat (first | (with_reducible first | exact HB.out | apply Zad | apply Zaa | apply Zac | refine Zae ?_ GE432.out | refine Zae ?_ GE433.out | refine Zae ?_ GE447.out) | exact HB.out)⟩⟩
            case rest =>
             clear HC34
             try clear c1
             try clear c2
             try clear p2
             try clear c3
             try clear p4
             try clear q4
             try clear hx4
             try clear c5
             try clear p6
             try clear c7
             try clear c9
             try clear c9b0
             try clear c10
             try clear c12
             try clear c23
             try clear c23b0
             try clear c24
             try clear c24b0
             try clear c25
             try clear c25b0
             try clear c27
             try clear c28
             try clear c30
             try clear c32
             try clear c32b0
             try clear c35
             try clear c36
             try clear c39
             try clear c39b0
             try clear hcz29_0
             try clear hcz29_1
             try clear hcz29_2
             try clear hcz31_0
             try clear hcz31_1
             try clear hcz37_0
             try clear hcz37_1
             try clear hcz8_0
             try clear hcz8_1
             try clear hfz29_0
             try clear hfz29_1
             try clear hfz29_2
             try clear hfz31_0
             try clear hfz31_1
             try clear hfz37_0
             try clear hfz37_1
             try clear hfz8_0
             try clear hfz8_1
             try clear hx446_0
             try clear p2
             try clear p4
             try clear p446
             try clear p6
             try clear q4
             try clear q446
             obtain ⟨kq, x13_33, x14_33, rfl, rfl, HA, HJ33, HO_37, HO_448000, HO_448001, BK432, BK433, BK447, HB⟩ := hcut
             cases kq with
             | zero => exact absurd HA.out (by simp [Zam.j3])
             | succ kj33 =>
              have H := HA.out
              clear HA
              simp only [Zam.j3] at H
              have HC42 := Zab.mk H
              clear H
              go_upto_region 17 with (fail)
              go_cut [67] (fun v67 wc => ∃ (kq : Nat) (x67_41 : Bool), v67 = .bool x67_41 ∧ Zab (Zam.j4 kq a1 (rd t445 x39_2) x10_3 x48_3 x13_33 x14_33 t445 (x5_1.length : Int) x39_2 (l0_1.length : Int) x48_3 x67_41 a0_0 l0_1 x448000_3 x448001_3 x448002_3 = some (r1, r2, r3)) ∧ Zab (kq ≤ kj33) ∧ Zab (Kd.R (Kd.int .i64) 2 wc w.heap.size (fun _ => True) (.slice (some ad446) t445.length co21) t445) ∧ Zab (Kd.R (Kd.int .i64) 3 wc w.heap.size (fun k_ => some k_ ≠ (u448001 : Value).ownBlock) u448000 x448000_3) ∧ Zab (Kd.R (Kd.int .i64) 3 wc w.heap.size (fun k_ => some k_ ≠ (u448000 : Value).ownBlock) u448001 x448001_3) ∧ Zab (wc.heap[gb432]? = some (.cells #[.int .i64 a0_0, (.slice A0_1 l0_1.length c0_1)] 28 (0, 0))) ∧ Zab (wc.heap[gb433]? = some (.cells #[(.slice none 0 0), (.slice none 0 0), .int .i64 x434002_2] 85 (0, 0))) ∧ Zab (wc.heap[gb447]? = some (.cells #[u448000, u448001, .int .i64 x448002_3] 85 (0, 0))) ∧ Zab (Below w.heap.size w wc))
              case first =>
               have H := HC42.out
               clear HC42
               by_cases c43 : x14_33 = true
               ·subst c43
                have H1 : (Zam.j4 kj33 a1 (rd t445 x39_2) x10_3 x48_3 x13_33 true t445 (x5_1.length : Int) x39_2 (l0_1.length : Int) x48_3 x13_33 a0_0 l0_1 x448000_3 x448001_3 x448002_3) = some (r1, r2, r3) := by rw [if_pos rfl] at H; exact H
                clear H
                have H := H1
                clear H1
                have H' := Zab.mk H
                clear H
                go_wp2
                go_meet
                case rel => exact ⟨_, (x13_33), (by first | rfl | (simp; done) | (simp [*]; done) | (simp [IntWalk.i64_left, *]; done)), H', ⟨by have := HK1.out; have := HK2.out; have := HK3.out; have := HJ33.out; first | omega | exact Nat.le_refl _⟩, ⟨by (try simp only [hl37_2]); (with_reducible repeat (first | apply Kd.R_alloc | apply Kd.R_drewN | apply Kd.R_drew)); exact HO_37.out⟩, ⟨by (try simp only [hl37_2]); (with_reducible repeat (first | apply Kd.R_alloc | apply Kd.R_drewN | apply Kd.R_drew)); exact HO_448000.out⟩, ⟨by (try simp only [hl37_2]); (with_reducible repeat (first | apply Kd.R_alloc | apply Kd.R_drewN | apply Kd.R_drew)); exact HO_448001.out⟩, ⟨by (try simp only [hl37_2]); (with_reducible repeat (first | refine Zag ?_ _ | refine Zah ?_ | refine Zaf ?_ _)); exact BK432.out⟩, ⟨by (try simp only [hl37_2]); (with_reducible repeat (first | refine Zag ?_ _ | refine Zah ?_ | refine Zaf ?_ _)); exact BK433.out⟩, ⟨by (try simp only [hl37_2]); (with_reducible repeat (first | refine Zag ?_ _ | refine Zah ?_ | refine Zaf ?_ _)); exact BK447.out⟩, ⟨by repeat (first | (with_reducible first | exact HB.out | apply Zad | apply Zaa | apply Zac | refine Zae ?_ GE432.out | refine Zae ?_ GE433.out | refine Zae ?_ GE447.out) | exact HB.out)⟩⟩
               ·replace c43 := Bool.eq_false_iff.mpr c43
                subst c43
                have H1 : (Zam.j4 kj33 a1 (rd t445 x39_2) x10_3 x48_3 x13_33 false t445 (x5_1.length : Int) x39_2 (l0_1.length : Int) x48_3 false a0_0 l0_1 x448000_3 x448001_3 x448002_3) = some (r1, r2, r3) := by rw [if_neg (show ¬ (false = true) by decide)] at H; exact H
                clear H
                have H := H1
                clear H1
                have H' := Zab.mk H
                clear H
                go_wp2
                go_meet
                case rel => exact ⟨_, (false), (by first | rfl | (simp; done) | (simp [*]; done) | (simp [IntWalk.i64_left, *]; done)), H', ⟨by have := HK1.out; have := HK2.out; have := HK3.out; have := HJ33.out; first | omega | exact Nat.le_refl _⟩, ⟨by (try simp only [hl37_2]); (with_reducible repeat (first | apply Kd.R_alloc | apply Kd.R_drewN | apply Kd.R_drew)); exact HO_37.out⟩, ⟨by (try simp only [hl37_2]); (with_reducible repeat (first | apply Kd.R_alloc | apply Kd.R_drewN | apply Kd.R_drew)); exact HO_448000.out⟩, ⟨by (try simp only [hl37_2]); (with_reducible repeat (first | apply Kd.R_alloc | apply Kd.R_drewN | apply Kd.R_drew)); exact HO_448001.out⟩, ⟨by (try simp only [hl37_2]); (with_reducible repeat (first | refine Zag ?_ _ | refine Zah ?_ | refine Zaf ?_ _)); exact BK432.out⟩, ⟨by (try simp only [hl37_2]); (with_reducible repeat (first | refine Zag ?_ _ | refine Zah ?_ | refine Zaf ?_ _)); exact BK433.out⟩, ⟨by (try simp only [hl37_2]); (with_reducible repeat (first | refine Zag ?_ _ | refine Zah ?_ | refine Zaf ?_ _)); exact BK447.out⟩, ⟨by repeat (first | (with_reducible first | exact HB.out | apply Zad | apply Zaa | apply Zac | refine Zae ?_ GE432.out | refine Zae ?_ GE433.out | refine Zae ?_ GE447.out) | exact HB.out)⟩⟩
              case rest =>
               clear HC42
               try clear c1
               try clear c2
               try clear p2
               try clear c3
               try clear c4
               try clear p4
               try clear q4
               try clear hx4
               try clear c5
               try clear p6
               try clear c7
               try clear c9
               try clear c9b0
               try clear c10
               try clear c12
               try clear c23
               try clear c23b0
               try clear c24
               try clear c24b0
               try clear c25
               try clear c25b0
               try clear c27
               try clear c28
               try clear c30
               try clear c32
               try clear c32b0
               try clear c35
               try clear c36
               try clear c39
               try clear c39b0
               try clear c43
               try clear hcz29_0
               try clear hcz29_1
               try clear hcz29_2
               try clear hcz31_0
               try clear hcz31_1
               try clear hcz37_0
               try clear hcz37_1
               try clear hcz8_0
               try clear hcz8_1
               try clear hfz29_0
               try clear hfz29_1
               try clear hfz29_2
               try clear hfz31_0
               try clear hfz31_1
               try clear hfz37_0
               try clear hfz37_1
               try clear hfz8_0
               try clear hfz8_1
               try clear hx446_0
               try clear p2
               try clear p4
               try clear p446
               try clear p6
               try clear q4
               try clear q446
               obtain ⟨kq, x67_41, rfl, HA, HJ41, HO_37, HO_448000, HO_448001, BK432, BK433, BK447, HB⟩ := hcut
               cases kq with
               | zero => exact absurd HA.out (by simp [Zam.j4])
               | succ kj41 =>
                have H := HA.out
                clear HA
                simp only [Zam.j4] at H
                by_cases c44 : x67_41 = true
                ·subst c44
                 have H1 : (if x448001_3.length < 17592186044416 then (Zam.l2 kj41 a1 (rd t445 x39_2) x10_3 t445 (x5_1.length : Int) x39_2 (l0_1.length : Int) (wrap64 (x48_3 + 1)) a0_0 l0_1 x448000_3 (x448001_3 ++ [x48_3]) x448002_3) else (none)) = some (r1, r2, r3) := by rw [if_pos rfl] at H; exact H
                 clear H
                 have H := H1
                 clear H1
                 by_cases c45 : x448001_3.length < 17592186044416
                 ·rw [if_pos c45] at H
                  have LMc45 := Zab.mk c45
                  clear c45
                  obtain ⟨y449, hy449⟩ : ∃ y_ : List Int, y_ = (x448001_3 ++ [x48_3]) := ⟨_, rfl⟩
                  replace H : (Zam.l2 kj41 a1 (rd t445 x39_2) x10_3 t445 (x5_1.length : Int) x39_2 (l0_1.length : Int) (wrap64 (x48_3 + 1)) a0_0 l0_1 x448000_3 y449 x448002_3) = some (r1, r2, r3) := by first | (rw [hy449]; with_reducible exact H) | (have H2_ := (Option.bind_some _ _).symm.trans H; rw [hy449]; with_reducible exact H2_) | (have H2_ := (Option.bind_some _ _).symm.trans H; with_reducible exact H2_) | with_reducible exact H | (rw [hy449]; exact H) | exact H
                  have Ny449 := Zab.mk hy449
                  clear hy449
                  have H' := Zab.mk H
                  clear H
                  have hnb46 := NB447_432.out
                  have hnc46 := NB432_447.out
                  have hnb47 := NB447_433.out
                  have hnc47 := NB433_447.out
                  have hcz48_0 : wc.cell? ⟨gb447, 0, none⟩ = some (u448000) := (Zaj BK447.out 0).trans rfl
                  have hcz48_1 : wc.cell? ⟨gb447, 1, none⟩ = some (u448001) := (Zaj BK447.out 1).trans rfl
                  have hcz48_2 : wc.cell? ⟨gb447, 2, none⟩ = some (.int .i64 x448002_3) := (Zaj BK447.out 2).trans rfl
                  have hfz48_0 := Zak BK447.out 0
                  have hfz48_1 := Zak BK447.out 1
                  have hfz48_2 := Zak BK447.out 2
                  go_wp2_with (first | ((with_reducible refine gate_builtin (b := .append) (xs := #[.tmp 73, .tmp 75]) rfl ?_); at_builtin; refine Kd.R_append (Kd.int .i64) (w0 := w) w.heap.size rfl (.tmp 73) (.tmp 75) 83 3 (.int .i64 0) 8 rfl Try.underlying83 info3 rfl (by decide) (by omega) u448001 x448001_3 x48_3 [.int .i64 x48_3] (fun k_ => some k_ ≠ (u448000 : Value).ownBlock) (fun _ => False) rfl rfl ?aP (fun _ hk => hk.elim) ?aF ?aO ?aB ?aS ?aL ?_; (case aP => exact rfl); (case aB => exact (by repeat (first | (with_reducible first | exact HB.out | apply Zad | apply Zaa | apply Zac | refine Zae ?_ GE432.out | refine Zae ?_ GE433.out | refine Zae ?_ GE447.out) | exact HB.out))); (case aF => exact (fun k_ hk => Kd.fresh' (Kd.R_lt (by (with_reducible repeat (first | apply Kd.R_alloc | apply Kd.R_drewN | apply Kd.R_drew)); exact HO_448000.out)) k_ hk)); (case aO => exact (by (with_reducible repeat (first | apply Kd.R_alloc | apply Kd.R_drewN | apply Kd.R_drew)); exact HO_448001.out)); (case aS => exact (Zan (by repeat (first | (with_reducible first | exact HB.out | apply Zad | apply Zaa | apply Zac | refine Zae ?_ GE432.out | refine Zae ?_ GE433.out | refine Zae ?_ GE447.out) | exact HB.out)))); (case aL => have := LMc45.out; omega); intro v450 w49 ho hb hg hat; rw [← Ny449.out] at ho; have n0_ := Zab.mk (Kd.R_over' (by (with_reducible repeat (first | apply Kd.R_alloc | apply Kd.R_drewN | apply Kd.R_drew)); exact HO_37.out) (Kd.R_typed (by (with_reducible repeat (first | apply Kd.R_alloc | apply Kd.R_drewN | apply Kd.R_drew)); exact HO_448001.out)) (by decide) hg); have n1_ := Zab.mk (Kd.R_after (ok := (fun _ => True)) (by (with_reducible repeat (first | apply Kd.R_alloc | apply Kd.R_drewN | apply Kd.R_drew)); exact Kd.R_mono HO_448000.out (fun _ hk => ⟨trivial, hk⟩)) hg hat); have n2_ := Zab.mk (blk_grown (g := gb432) (o := .cells #[.int .i64 a0_0, .slice A0_1 l0_1.length c0_1] 28 (0, 0)) (by (with_reducible repeat (first | refine Zag ?_ _ | refine Zah ?_ | refine Zaf ?_ _)); exact BK432.out) hg (Kd.R_ne HO_448001.out BK432.out (by decide))); have n3_ := Zab.mk (blk_grown (g := gb433) (o := .cells #[.slice none 0 0, .slice none 0 0, .int .i64 x434002_2] 85 (0, 0)) (by (with_reducible repeat (first | refine Zag ?_ _ | refine Zah ?_ | refine Zaf ?_ _)); exact BK433.out) hg (Kd.R_ne HO_448001.out BK433.out (by decide))); have n4_ := Zab.mk (blk_grown (g := gb447) (o := .cells #[u448000, u448001, .int .i64 x448002_3] 85 (0, 0)) (by (with_reducible repeat (first | refine Zag ?_ _ | refine Zah ?_ | refine Zaf ?_ _)); exact BK447.out) hg (Kd.R_ne HO_448001.out BK447.out (by decide))); have n5_ := Zab.mk (hb); have n6_ := Zab.mk (ho); clear HO_37; clear HO_448000; clear BK432; clear BK433; clear BK447; clear HB; clear HO_448001; have HO_37 := n0_; have HO_448000 := n1_; have BK432 := n2_; have BK433 := n3_; have BK447 := n4_; have HB := n5_; have HO451 := n6_; clear n0_ n1_ n2_ n3_ n4_ n5_ n6_; clear ho hb hg hat; obtain ⟨Ao50, co50, eo50⟩ := Kd.R_slice HO451.out; subst eo50; have hcz51_0 : w49.cell? ⟨gb447, 0, none⟩ = some (u448000) := (Zaj BK447.out 0).trans rfl; have hcz51_1 : w49.cell? ⟨gb447, 1, none⟩ = some (u448001) := (Zaj BK447.out 1).trans rfl; have hcz51_2 : w49.cell? ⟨gb447, 2, none⟩ = some (.int .i64 x448002_3) := (Zaj BK447.out 2).trans rfl; have hfz51_0 := Zak BK447.out 0; have hfz51_1 := Zak BK447.out 1; have hfz51_2 := Zak BK447.out 2))
                  go_roundg kj41
                  case measure => have := HK1.out; have := HK2.out; have := HK3.out; have := HJ33.out; have := HJ41.out; omega
                  case rel => exact ⟨(x10_3), (wrap64 (x48_3 + 1)), (x448000_3), (y449), (x448002_3), (u448000), (.slice Ao50 y449.length co50), (by first | rfl | (simp; done) | (simp [*]; done) | (simp [IntWalk.i64_left, *]; done)), (by first | rfl | (simp; done) | (simp [*]; done) | (simp [IntWalk.i64_left, *]; done)), H', ⟨by have := HK1.out; have := HK2.out; have := HK3.out; have := HJ33.out; have := HJ41.out; omega⟩, ⟨by (try simp only [hl37_2]); (with_reducible repeat (first | apply Kd.R_alloc | apply Kd.R_drewN | apply Kd.R_drew)); exact Kd.R_mono (Kd.R_far (p := ⟨gb447, 1, none⟩) (Kd.R_types HO_37.out BK447.out (by decide)) (fun _ hk => hk.2) (.slice Ao50 y449.length co50)) (fun _ hk => trivial)⟩, ⟨by (try simp only [hl37_2]); (with_reducible repeat (first | apply Kd.R_alloc | apply Kd.R_drewN | apply Kd.R_drew)); exact Kd.R_mono (Kd.R_far (p := ⟨gb447, 1, none⟩) (Kd.R_types HO_448000.out BK447.out (by decide)) (fun _ hk => hk.2) (.slice Ao50 y449.length co50)) (fun _ hk => hk.1.2)⟩, ⟨by (try simp only [hl37_2]); (with_reducible repeat (first | apply Kd.R_alloc | apply Kd.R_drewN | apply Kd.R_drew)); exact Kd.R_mono (Kd.R_far (p := ⟨gb447, 1, none⟩) (Kd.R_types HO451.out BK447.out (by decide)) (fun _ hk => hk.2) (.slice Ao50 y449.length co50)) (fun _ hk => hk.1)⟩, ⟨by (try simp only [hl37_2]); (with_reducible repeat (first | refine Zag ?_ _ | refine Zah ?_ | refine Zaf ?_ _)); refine blk_far ?_ NB432_447.out _; (with_reducible repeat (first | refine Zag ?_ _ | refine Zah ?_ | refine Zaf ?_ _)); exact BK432.out⟩, ⟨by (try simp only [hl37_2]); (with_reducible repeat (first | refine Zag ?_ _ | refine Zah ?_ | refine Zaf ?_ _)); refine blk_far ?_ NB433_447.out _; (with_reducible repeat (first | refine Zag ?_ _ | refine Zah ?_ | refine Zaf ?_ _)); exact BK433.out⟩, ⟨by (try simp only [hl37_2]); (with_reducible repeat (first | refine Zag ?_ _ | refine Zah ?_ | refine Zaf ?_ _)); refine blk_put (cs := #[u448000, u448001, .int .i64 x448002_3]) ?_ 1 _ rfl; (with_reducible repeat (first | refine Zag ?_ _ | refine Zah ?_ | refine Zaf ?_ _)); exact BK447.out⟩, ⟨by repeat (first | (with_reducible first | exact HB.out | apply Zad | apply Zaa | apply Zac | refine Zae ?_ GE432.out | refine Zae ?_ GE433.out | refine Zae ?_ GE447.out) | exact HB.out)⟩⟩
                 ·rw [if_neg c45] at H
                  exact absurd H (by simp)
                ·replace c44 := Bool.eq_false_iff.mpr c44
                 subst c44
                 have H1 : (if x14_33 = true then (if x448000_3.length < 17592186044416 then (Zam.l2 kj41 a1 (rd t445 x39_2) x10_3 t445 (x5_1.length : Int) x39_2 (l0_1.length : Int) (wrap64 (x48_3 + 1)) a0_0 l0_1 (x448000_3 ++ [x48_3]) x448001_3 (wrap64 (x448002_3 - 1))) else (none)) else (if x13_33 = true then (Zam.l2 kj41 a1 (rd t445 x39_2) x10_3 t445 (x5_1.length : Int) x39_2 (l0_1.length : Int) (wrap64 (x48_3 + 1)) a0_0 l0_1 x448000_3 x448001_3 x448002_3) else (Zam.l2 kj41 a1 (rd t445 x39_2) false t445 (x5_1.length : Int) x39_2 (l0_1.length : Int) (wrap64 (x48_3 + 1)) a0_0 l0_1 x448000_3 x448001_3 x448002_3))) = some (r1, r2, r3) := by rw [if_neg (show ¬ (false = true) by decide)] at H; exact H
                 clear H
                 have H := H1
                 clear H1
                 by_cases c52 : x14_33 = true
                 ·subst c52
                  have H1 : (if x448000_3.length < 17592186044416 then (Zam.l2 kj41 a1 (rd t445 x39_2) x10_3 t445 (x5_1.length : Int) x39_2 (l0_1.length : Int) (wrap64 (x48_3 + 1)) a0_0 l0_1 (x448000_3 ++ [x48_3]) x448001_3 (wrap64 (x448002_3 - 1))) else (none)) = some (r1, r2, r3) := by rw [if_pos rfl] at H; exact H
                  clear H
                  have H := H1
                  clear H1
                  by_cases c53 : x448000_3.length < 17592186044416
                  ·rw [if_pos c53] at H
                   have LMc53 := Zab.mk c53
                   clear c53
                   obtain ⟨y452, hy452⟩ : ∃ y_ : List Int, y_ = (x448000_3 ++ [x48_3]) := ⟨_, rfl⟩
                   replace H : (Zam.l2 kj41 a1 (rd t445 x39_2) x10_3 t445 (x5_1.length : Int) x39_2 (l0_1.length : Int) (wrap64 (x48_3 + 1)) a0_0 l0_1 y452 x448001_3 (wrap64 (x448002_3 - 1))) = some (r1, r2, r3) := by first | (rw [hy452]; with_reducible exact H) | (have H2_ := (Option.bind_some _ _).symm.trans H; rw [hy452]; with_reducible exact H2_) | (have H2_ := (Option.bind_some _ _).symm.trans H; with_reducible exact H2_) | with_reducible exact H | (rw [hy452]; exact H) | exact H
                   have Ny452 := Zab.mk hy452
                   clear hy452
                   have H' := Zab.mk H
                   clear H
                   have hnb54 := NB447_432.out
                   have hnc54 := NB432_447.out
                   have hnb55 := NB447_433.out
                   have hnc55 := NB433_447.out
                   have hcz56_0 : wc.cell? ⟨gb447, 0, none⟩ = some (u448000) := (Zaj BK447.out 0).trans rfl
                   have hcz56_1 : wc.cell? ⟨gb447, 1, none⟩ = some (u448001) := (Zaj BK447.out 1).trans rfl
                   have hcz56_2 : wc.cell? ⟨gb447, 2, none⟩ = some (.int .i64 x448002_3) := (Zaj BK447.out 2).trans rfl
                   have hfz56_0 := Zak BK447.out 0
                   have hfz56_1 := Zak BK447.out 1
                   have hfz56_2 := Zak BK447.out 2
                   go_wp2_with (first | ((with_reducible refine gate_builtin (b := .append) (xs := #[.tmp 81, .tmp 83]) rfl ?_); at_builtin; refine Kd.R_append (Kd.int .i64) (w0 := w) w.heap.size rfl (.tmp 81) (.tmp 83) 83 3 (.int .i64 0) 8 rfl Try.underlying83 info3 rfl (by decide) (by omega) u448000 x448000_3 x48_3 [.int .i64 x48_3] (fun k_ => some k_ ≠ (u448001 : Value).ownBlock) (fun _ => False) rfl rfl ?aP (fun _ hk => hk.elim) ?aF ?aO ?aB ?aS ?aL ?_; (case aP => exact rfl); (case aB => exact (by repeat (first | (with_reducible first | exact HB.out | apply Zad | apply Zaa | apply Zac | refine Zae ?_ GE432.out | refine Zae ?_ GE433.out | refine Zae ?_ GE447.out) | exact HB.out))); (case aF => exact (fun k_ hk => Kd.fresh' (Kd.R_lt (by (with_reducible repeat (first | apply Kd.R_alloc | apply Kd.R_drewN | apply Kd.R_drew)); exact HO_448001.out)) k_ hk)); (case aO => exact (by (with_reducible repeat (first | apply Kd.R_alloc | apply Kd.R_drewN | apply Kd.R_drew)); exact HO_448000.out)); (case aS => exact (Zan (by repeat (first | (with_reducible first | exact HB.out | apply Zad | apply Zaa | apply Zac | refine Zae ?_ GE432.out | refine Zae ?_ GE433.out | refine Zae ?_ GE447.out) | exact HB.out)))); (case aL => have := LMc53.out; omega); intro v453 w57 ho hb hg hat; rw [← Ny452.out] at ho; have n0_ := Zab.mk (Kd.R_over' (by (with_reducible repeat (first | apply Kd.R_alloc | apply Kd.R_drewN | apply Kd.R_drew)); exact HO_37.out) (Kd.R_typed (by (with_reducible repeat (first | apply Kd.R_alloc | apply Kd.R_drewN | apply Kd.R_drew)); exact HO_448000.out)) (by decide) hg); have n1_ := Zab.mk (Kd.R_after (ok := (fun _ => True)) (by (with_reducible repeat (first | apply Kd.R_alloc | apply Kd.R_drewN | apply Kd.R_drew)); exact Kd.R_mono HO_448001.out (fun _ hk => ⟨trivial, hk⟩)) hg hat); have n2_ := Zab.mk (blk_grown (g := gb432) (o := .cells #[.int .i64 a0_0, .slice A0_1 l0_1.length c0_1] 28 (0, 0)) (by (with_reducible repeat (first | refine Zag ?_ _ | refine Zah ?_ | refine Zaf ?_ _)); exact BK432.out) hg (Kd.R_ne HO_448000.out BK432.out (by decide))); have n3_ := Zab.mk (blk_grown (g := gb433) (o := .cells #[.slice none 0 0, .slice none 0 0, .int .i64 x434002_2] 85 (0, 0)) (by (with_reducible repeat (first | refine Zag ?_ _ | refine Zah ?_ | refine Zaf ?_ _)); exact BK433.out) hg (Kd.R_ne HO_448000.out BK433.out (by decide))); have n4_ := Zab.mk (blk_grown (g := gb447) (o := .cells #[u448000, u448001, .int .i64 x448002_3] 85 (0, 0)) (by (with_reducible repeat (first | refine Zag ?_ _ | refine Zah ?_ | refine Zaf ?_ _)); exact BK447.out) hg (Kd.R_ne HO_448000.out BK447.out (by decide))); have n5_ := Zab.mk (hb); have n6_ := Zab.mk (ho); clear HO_37; clear HO_448001; clear BK432; clear BK433; clear BK447; clear HB; clear HO_448000; have HO_37 := n0_; have HO_448001 := n1_; have BK432 := n2_; have BK433 := n3_; have BK447 := n4_; have HB := n5_; have HO454 := n6_; clear n0_ n1_ n2_ n3_ n4_ n5_ n6_; clear ho hb hg hat; obtain ⟨Ao58, co58, eo58⟩ := Kd.R_slice HO454.out; subst eo58; have hcz59_0 : w57.cell? ⟨gb447, 0, none⟩ = some (u448000) := (Zaj BK447.out 0).trans rfl; have hcz59_1 : w57.cell? ⟨gb447, 1, none⟩ = some (u448001) := (Zaj BK447.out 1).trans rfl; have hcz59_2 : w57.cell? ⟨gb447, 2, none⟩ = some (.int .i64 x448002_3) := (Zaj BK447.out 2).trans rfl; have hfz59_0 := Zak BK447.out 0; have hfz59_1 := Zak BK447.out 1; have hfz59_2 := Zak BK447.out 2))
                   go_roundg kj41
                   case measure => have := HK1.out; have := HK2.out; have := HK3.out; have := HJ33.out; have := HJ41.out; omega
                   case rel => exact ⟨(x10_3), (wrap64 (x48_3 + 1)), (y452), (x448001_3), (wrap64 (x448002_3 - 1)), (.slice Ao58 y452.length co58), (u448001), (by first | rfl | (simp; done) | (simp [*]; done) | (simp [IntWalk.i64_left, *]; done)), (by first | rfl | (simp; done) | (simp [*]; done) | (simp [IntWalk.i64_left, *]; done)), H', ⟨by have := HK1.out; have := HK2.out; have := HK3.out; have := HJ33.out; have := HJ41.out; omega⟩, ⟨by (try simp only [hl37_2]); (with_reducible repeat (first | apply Kd.R_alloc | apply Kd.R_drewN | apply Kd.R_drew)); exact Kd.R_mono (Kd.R_far (p := ⟨gb447, 2, none⟩) (Kd.R_far (p := ⟨gb447, 0, none⟩) (Kd.R_types HO_37.out BK447.out (by decide)) (fun _ hk => hk.2) (.slice Ao58 y452.length co58)) (fun _ hk => hk.2) (.int .i64 (wrap64 (x448002_3 - 1)))) (fun _ hk => trivial)⟩, ⟨by (try simp only [hl37_2]); (with_reducible repeat (first | apply Kd.R_alloc | apply Kd.R_drewN | apply Kd.R_drew)); exact Kd.R_mono (Kd.R_far (p := ⟨gb447, 2, none⟩) (Kd.R_far (p := ⟨gb447, 0, none⟩) (Kd.R_types HO454.out BK447.out (by decide)) (fun _ hk => hk.2) (.slice Ao58 y452.length co58)) (fun _ hk => hk.2) (.int .i64 (wrap64 (x448002_3 - 1)))) (fun _ hk => hk.1)⟩, ⟨by (try simp only [hl37_2]); (with_reducible repeat (first | apply Kd.R_alloc | apply Kd.R_drewN | apply Kd.R_drew)); exact Kd.R_mono (Kd.R_far (p := ⟨gb447, 2, none⟩) (Kd.R_far (p := ⟨gb447, 0, none⟩) (Kd.R_types HO_448001.out BK447.out (by decide)) (fun _ hk => hk.2) (.slice Ao58 y452.length co58)) (fun _ hk => hk.2) (.int .i64 (wrap64 (x448002_3 - 1)))) (fun _ hk => hk.1.2)⟩, ⟨by (try simp only [hl37_2]); (with_reducible repeat (first | refine Zag ?_ _ | refine Zah ?_ | refine Zaf ?_ _)); refine blk_far ?_ NB432_447.out _; (with_reducible repeat (first | refine Zag ?_ _ | refine Zah ?_ | refine Zaf ?_ _)); refine blk_far ?_ NB432_447.out _; (with_reducible repeat (first | refine Zag ?_ _ | refine Zah ?_ | refine Zaf ?_ _)); exact BK432.out⟩, ⟨by (try simp only [hl37_2]); (with_reducible repeat (first | refine Zag ?_ _ | refine Zah ?_ | refine Zaf ?_ _)); refine blk_far ?_ NB433_447.out _; (with_reducible repeat (first | refine Zag ?_ _ | refine Zah ?_ | refine Zaf ?_ _)); refine blk_far ?_ NB433_447.out _; (with_reducible repeat (first | refine Zag ?_ _ | refine Zah ?_ | refine Zaf ?_ _)); exact BK433.out⟩, ⟨by (try simp only [hl37_2]); (with_reducible repeat (first | refine Zag ?_ _ | refine Zah ?_ | refine Zaf ?_ _)); refine blk_put (cs := #[.slice Ao58 y452.length co58, u448001, .int .i64 x448002_3]) ?_ 2 _ rfl; (with_reducible repeat (first | refine Zag ?_ _ | refine Zah ?_ | refine Zaf ?_ _)); refine blk_put (cs := #[u448000, u448001, .int .i64 x448002_3]) ?_ 0 _ rfl; (with_reducible repeat (first | refine Zag ?_ _ | refine Zah ?_ | refine Zaf ?_ _)); exact BK447.out⟩, ⟨by repeat (first | (with_reducible first | exact HB.out | apply Zad | apply Zaa | apply Zac | refine Zae ?_ GE432.out | refine Zae ?_ GE433.out | refine Zae ?_ GE447.out) | exact HB.out)⟩⟩
                  ·rw [if_neg c53] at H
                   exact absurd H (by simp)
                 ·replace c52 := Bool.eq_false_iff.mpr c52
                  subst c52
                  have H1 : (if x13_33 = true then (Zam.l2 kj41 a1 (rd t445 x39_2) x10_3 t445 (x5_1.length : Int) x39_2 (l0_1.length : Int) (wrap64 (x48_3 + 1)) a0_0 l0_1 x448000_3 x448001_3 x448002_3) else (Zam.l2 kj41 a1 (rd t445 x39_2) false t445 (x5_1.length : Int) x39_2 (l0_1.length : Int) (wrap64 (x48_3 + 1)) a0_0 l0_1 x448000_3 x448001_3 x448002_3)) = some (r1, r2, r3) := by rw [if_neg (show ¬ (false = true) by decide)] at H; exact H
                  clear H
                  have H := H1
                  clear H1
                  by_cases c60 : x13_33 = true
                  ·subst c60
                   have H1 : (Zam.l2 kj41 a1 (rd t445 x39_2) x10_3 t445 (x5_1.length : Int) x39_2 (l0_1.length : Int) (wrap64 (x48_3 + 1)) a0_0 l0_1 x448000_3 x448001_3 x448002_3) = some (r1, r2, r3) := by rw [if_pos rfl] at H; exact H
                   clear H
                   have H := H1
                   clear H1
                   have H' := Zab.mk H
                   clear H
                   go_wp2
                   go_roundg kj41
                   case measure => have := HK1.out; have := HK2.out; have := HK3.out; have := HJ33.out; have := HJ41.out; omega
                   case rel => exact ⟨(x10_3), (wrap64 (x48_3 + 1)), (x448000_3), (x448001_3), (x448002_3), (u448000), (u448001), (by first | rfl | (simp; done) | (simp [*]; done) | (simp [IntWalk.i64_left, *]; done)), (by first | rfl | (simp; done) | (simp [*]; done) | (simp [IntWalk.i64_left, *]; done)), H', ⟨by have := HK1.out; have := HK2.out; have := HK3.out; have := HJ33.out; have := HJ41.out; omega⟩, ⟨by (try simp only [hl37_2]); (with_reducible repeat (first | apply Kd.R_alloc | apply Kd.R_drewN | apply Kd.R_drew)); exact HO_37.out⟩, ⟨by (try simp only [hl37_2]); (with_reducible repeat (first | apply Kd.R_alloc | apply Kd.R_drewN | apply Kd.R_drew)); exact HO_448000.out⟩, ⟨by (try simp only [hl37_2]); (with_reducible repeat (first | apply Kd.R_alloc | apply Kd.R_drewN | apply Kd.R_drew)); exact HO_448001.out⟩, ⟨by (try simp only [hl37_2]); (with_reducible repeat (first | refine Zag ?_ _ | refine Zah ?_ | refine Zaf ?_ _)); exact BK432.out⟩, ⟨by (try simp only [hl37_2]); (with_reducible repeat (first | refine Zag ?_ _ | refine Zah ?_ | refine Zaf ?_ _)); exact BK433.out⟩, ⟨by (try simp only [hl37_2]); (with_reducible repeat (first | refine Zag ?_ _ | refine Zah ?_ | refine Zaf ?_ _)); exact BK447.out⟩, ⟨by repeat (first | (with_reducible first | exact HB.out | apply Zad | apply Zaa | apply Zac | refine Zae ?_ GE432.out | refine Zae ?_ GE433.out | refine Zae ?_ GE447.out) | exact HB.out)⟩⟩
                  ·replace c60 := Bool.eq_false_iff.mpr c60
                   subst c60
                   have H1 : (Zam.l2 kj41 a1 (rd t445 x39_2) false t445 (x5_1.length : Int) x39_2 (l0_1.length : Int) (wrap64 (x48_3 + 1)) a0_0 l0_1 x448000_3 x448001_3 x448002_3) = some (r1, r2, r3) := by rw [if_neg (show ¬ (false = true) by decide)] at H; exact H
                   clear H
                   have H := H1
                   clear H1
                   have H' := Zab.mk H
                   clear H
                   go_wp2
                   go_roundg kj41
                   case measure => have := HK1.out; have := HK2.out; have := HK3.out; have := HJ33.out; have := HJ41.out; omega
                   case rel => exact ⟨(false), (wrap64 (x48_3 + 1)), (x448000_3), (x448001_3), (x448002_3), (u448000), (u448001), (by first | rfl | (simp; done) | (simp [*]; done) | (simp [IntWalk.i64_left, *]; done)), (by first | rfl | (simp; done) | (simp [*]; done) | (simp [IntWalk.i64_left, *]; done)), H', ⟨by have := HK1.out; have := HK2.out; have := HK3.out; have := HJ33.out; have := HJ41.out; omega⟩, ⟨by (try simp only [hl37_2]); (with_reducible repeat (first | apply Kd.R_alloc | apply Kd.R_drewN | apply Kd.R_drew)); exact HO_37.out⟩, ⟨by (try simp only [hl37_2]); (with_reducible repeat (first | apply Kd.R_alloc | apply Kd.R_drewN | apply Kd.R_drew)); exact HO_448000.out⟩, ⟨by (try simp only [hl37_2]); (with_reducible repeat (first | apply Kd.R_alloc | apply Kd.R_drewN | apply Kd.R_drew)); exact HO_448001.out⟩, ⟨by (try simp only [hl37_2]); (with_reducible repeat (first | refine Zag ?_ _ | refine Zah ?_ | refine Zaf ?_ _)); exact BK432.out⟩, ⟨by (try simp only [hl37_2]); (with_reducible repeat (first | refine Zag ?_ _ | refine Zah ?_ | refine Zaf ?_ _)); exact BK433.out⟩, ⟨by (try simp only [hl37_2]); (with_reducible repeat (first | refine Zag ?_ _ | refine Zah ?_ | refine Zaf ?_ _)); exact BK447.out⟩, ⟨by repeat (first | (with_reducible first | exact HB.out | apply Zad | apply Zaa | apply Zac | refine Zae ?_ GE432.out | refine Zae ?_ GE433.out | refine Zae ?_ GE447.out) | exact HB.out)⟩⟩
           ·rw [if_neg c32] at H
            have c32b0 : decide (x48_3 < (l0_1.length : Int)) = false := decide_eq_false c32
            have c32z0 := c32b0
            (try simp only [hl37_2] at c32z0)
            clear c32
            by_cases c61 : x10_3 = true
            ·subst c61
             have H1 : ((impl_size_int.f x448001_3).bind fun t455 => ((impl_within.f x448002_3 0 t455).bind fun t456 => (if t456 = true then (some (x448000_3, x448001_3, x448002_3)) else (Zam.l1 k3 a1 t445 (x5_1.length : Int) (wrap64 (x39_2 + 1)) a0_0 l0_1)))) = some (r1, r2, r3) := by rw [if_pos rfl] at H; exact H
             clear H
             have H := H1
             clear H1
             replace H := Option.bind_eq_some_iff.mp H
             obtain ⟨t455, A620, H⟩ := H
             replace H : ((impl_within.f x448002_3 0 t455).bind fun t456 => (if t456 = true then (some (x448000_3, x448001_3, x448002_3)) else (Zam.l1 k3 a1 t445 (x5_1.length : Int) (wrap64 (x39_2 + 1)) a0_0 l0_1))) = some (r1, r2, r3) := H
             have A62 := Zab.mk A620
             clear A620
             replace H := Option.bind_eq_some_iff.mp H
             obtain ⟨t456, A630, H⟩ := H
             replace H : (if t456 = true then (some (x448000_3, x448001_3, x448002_3)) else (Zam.l1 k3 a1 t445 (x5_1.length : Int) (wrap64 (x39_2 + 1)) a0_0 l0_1)) = some (r1, r2, r3) := H
             have A63 := Zab.mk A630
             clear A630
             by_cases c64 : t456 = true
             ·subst c64
              have H1 : (some (x448000_3, x448001_3, x448002_3)) = some (r1, r2, r3) := by rw [if_pos rfl] at H; exact H
              clear H
              have H := H1
              clear H1
              simp only [Option.some.injEq, Prod.mk.injEq] at H
              obtain ⟨rfl, rfl, rfl⟩ := H
              try go_wp2
              have n0_ := Zab.mk (Kd.R_drew HO_37.out)
              have n1_ := Zab.mk (Kd.R_drew HO_448000.out)
              have n2_ := Zab.mk (Kd.R_drew HO_448001.out)
              have n3_ := Zab.mk (Zah BK432.out)
              have n4_ := Zab.mk (Zah BK433.out)
              have n5_ := Zab.mk (Zah BK447.out)
              have n6_ := Zab.mk (Zac HB.out)
              clear HO_37
              clear HO_448000
              clear HO_448001
              clear BK432
              clear BK433
              clear BK447
              clear HB
              have HO_37 := n0_
              have HO_448000 := n1_
              have HO_448001 := n2_
              have BK432 := n3_
              have BK433 := n4_
              have BK447 := n5_
              have HB := n6_
              clear n0_ n1_ n2_ n3_ n4_ n5_ n6_
              obtain ⟨Ao66, co66, eo66⟩ := Kd.R_slice HO_448001.out
              (first | subst eo66 | (injection eo66 with f1_ f2_ f3_; have f4_ := f1_.symm; have f5_ := f3_.symm; clear f1_ f2_ f3_; subst f4_; subst f5_))
              refine start_ (n := 9) (S := fun w' => w'.cell? ⟨gb447, 0, none⟩ = some (u448000) ∧ w'.cell? ⟨gb447, 1, none⟩ = some (.slice Ao66 x448001_3.length co66) ∧ w'.cell? ⟨gb447, 2, none⟩ = some (.int .i64 x448002_3)) (ds := []) #[false, false, false, false, false, false, false, false, false] (by kernel_rfl) rfl rfl ⟨(Zaj BK447.out 0).trans rfl, (Zaj BK447.out 1).trans rfl, (Zaj BK447.out 2).trans rfl⟩ (fun hHeld => ?_); refine with_tabW Zam.tab25 Zam.bits25 (fun HT_ HW_ => ?_)
              generalize wr.drew = w65 at HO_37 HO_448000 HO_448001 BK432 BK433 BK447 HB hHeld ⊢
              refine pure_ (i := 0) (N := some 94) (v := ?_) (a' := ?_) #[true, false, false, false, false, false, false, false, false] rfl rfl (Za1 HT_.out (by kernel_rfl)) (fun _ _ _ h => h) (Or.inl ⟨by rfl, ?_⟩) ?_ ?_
              rotate_left
              ·intro w'
               go_simp
               with_reducible rfl
              rotate_left
              ·simp only [Act.put, ZA, ZB, ZC, i64_w, i32_w]
               rfl
              refine pure_ (i := 1) (N := some 95) (v := ?_) (a' := ?_) #[true, true, false, false, false, false, false, false, false] rfl rfl (Za1 HT_.out (by kernel_rfl)) (fun _ _ _ h => h) (Or.inl ⟨by rfl, ?_⟩) ?_ ?_
              rotate_left
              ·intro w'
               go_simp
               with_reducible rfl
              rotate_left
              ·simp only [Act.put, ZA, ZB, ZC, i64_w, i32_w]
               rfl
              refine pure_ (i := 2) (N := some 96) (v := ?_) (a' := ?_) #[true, true, true, false, false, false, false, false, false] rfl rfl (Za1 HT_.out (by kernel_rfl)) (fun _ _ _ h => h) (Or.inl ⟨by rfl, ?_⟩) ?_ ?_
              rotate_left
              ·intro w'
               go_simp
               with_reducible rfl
              rotate_left
              ·simp only [Act.put, ZA, ZB, ZC, i64_w, i32_w]
               rfl
              refine pure_ (i := 4) (N := some 98) (v := ?_) (a' := ?_) #[true, true, true, false, true, false, false, false, false] rfl rfl (Za1 HT_.out (by kernel_rfl)) (fun _ _ _ h => h) (Or.inl ⟨by rfl, ?_⟩) ?_ ?_
              rotate_left
              ·intro w'
               go_simp
               with_reducible rfl
              rotate_left
              ·simp only [Act.put, ZA, ZB, ZC, i64_w, i32_w]
               rfl
              refine take_ (i := 3) (N := some 97) (v := ?_) (a' := ?_) #[true, true, true, true, true, false, false, false, false] rfl rfl (take_ofW HT_.out HW_.out (by kernel_rfl)) (fun _ _ _ h => h) (Or.inl ⟨by rfl, ?_⟩) hHeld ?_ ?_
              rotate_left
              ·rintro w' ⟨s0, s1, s2⟩
               go_simp
               with_reducible rfl
              rotate_left
              ·simp only [Act.put, ZA, ZB, ZC, i64_w, i32_w]
               rfl
              refine take_ (i := 5) (N := some 99) (v := ?_) (a' := ?_) #[true, true, true, true, true, true, false, false, false] rfl rfl (take_ofW HT_.out HW_.out (by kernel_rfl)) (fun _ _ _ h => h) (Or.inl ⟨by rfl, ?_⟩) hHeld ?_ ?_
              rotate_left
              ·rintro w' ⟨s0, s1, s2⟩
               go_simp
               with_reducible rfl
              rotate_left
              ·simp only [Act.put, ZA, ZB, ZC, i64_w, i32_w]
               rfl
              refine one_ (i := 6) (N := some 100) #[true, true, true, true, true, true, true, false, false] rfl rfl (one_of HT_.out (by kernel_rfl)) (by decide) (fun K hK => ?_)
              refine goes_ Try.func90 (by kernel_rfl) rfl #[.slice Ao66 x448001_3.length co66] (by rfl) rfl rfl (by (try simp only [List.map_toArray, List.map_cons, List.map_nil]); first | done | rfl | (simp only [List.length_drop, List.length_take]; rfl)) ?_
              with_reducible refine (impl_size_int.calls _ _ x448001_3 t455 _ ?side1 ?side2 A62.out).mono ?_
              (case side1 => repeat (first | exact (Kd.R_reads' HO_448001.out).2.2 | (with_reducible refine Kd.C_alloc ?_ _) | (with_reducible refine Kd.C_drewN ?_ _) | (with_reducible refine Kd.C_drew ?_)))
              (case side2 => exact (Kd.R_reads' HO_448001.out).2.1)
              rintro e w' ⟨rfl, ⟨nd, rfl⟩⟩
              refine ⟨_, rfl, ?_⟩
              refine hK.out _ _ ⟨(Zaj BK447.out 0).trans rfl, (Zaj BK447.out 1).trans rfl, (Zaj BK447.out 2).trans rfl⟩ (fun hHeld => ?_)
              clear hK K
              refine norm_ (a' := ?_) ?_ ?_
              rotate_left
              ·show Act.put _ (some 100) _ = _
               simp only [Act.put, ZA, ZB, ZC, i64_w, i32_w]
               rfl
              refine one_ (i := 7) (N := some 101) #[true, true, true, true, true, true, true, true, false] rfl rfl (one_of HT_.out (by kernel_rfl)) (by decide) (fun K hK => ?_)
              refine goes_ Try.func64 (by kernel_rfl) rfl #[.int .i64 x448002_3, .int .i64 0, .int .i64 t455] (by rfl) rfl rfl (by (try simp only [List.map_toArray, List.map_cons, List.map_nil]); first | done | rfl | (simp only [List.length_drop, List.length_take]; rfl)) ?_
              with_reducible refine (impl_within.calls x448002_3 0 t455 true _ A63.out).mono ?_
              rintro e w' ⟨rfl, ⟨nd, rfl⟩⟩
              refine ⟨_, rfl, ?_⟩
              refine hK.out _ _ ⟨(Zaj BK447.out 0).trans rfl, (Zaj BK447.out 1).trans rfl, (Zaj BK447.out 2).trans rfl⟩ (fun hHeld => ?_)
              clear hK K
              refine norm_ (a' := ?_) ?_ ?_
              rotate_left
              ·show Act.put _ (some 101) _ = _
               simp only [Act.put, ZA, ZB, ZC, i64_w, i32_w]
               rfl
              refine pure_ (i := 8) (N := some 102) (v := ?_) (a' := ?_) #[true, true, true, true, true, true, true, true, true] rfl rfl (Za1 HT_.out (by kernel_rfl)) (fun _ _ _ h => h) (Or.inl ⟨by rfl, ?_⟩) ?_ ?_
              rotate_left
              ·intro w'
               go_simp
               with_reducible rfl
              rotate_left
              ·simp only [Act.put, ZA, ZB, ZC, i64_w, i32_w]
               rfl
              refine done_ (done_of HT_.out (by kernel_rfl)) ?_
              have hnb67 := NB447_432.out
              have hnc67 := NB432_447.out
              have hnb68 := NB447_433.out
              have hnc68 := NB433_447.out
              have hcz69_0 : w65.cell? ⟨gb447, 0, none⟩ = some (u448000) := (Zaj BK447.out 0).trans rfl
              have hcz69_1 : w65.cell? ⟨gb447, 1, none⟩ = some (.slice Ao66 x448001_3.length co66) := (Zaj BK447.out 1).trans rfl
              have hcz69_2 : w65.cell? ⟨gb447, 2, none⟩ = some (.int .i64 x448002_3) := (Zaj BK447.out 2).trans rfl
              have hfz69_0 := Zak BK447.out 0
              have hfz69_1 := Zak BK447.out 1
              have hfz69_2 := Zak BK447.out 2
              obtain ⟨Ao70, co70, eo70⟩ := Kd.R_slice HO_448000.out
              subst eo70
              have hnb71 := NB433_432.out
              have hnc71 := NB432_433.out
              have hcz72_0 : w65.cell? ⟨gb433, 0, none⟩ = some (.slice none 0 0) := (Zaj BK433.out 0).trans rfl
              have hcz72_1 : w65.cell? ⟨gb433, 1, none⟩ = some (.slice none 0 0) := (Zaj BK433.out 1).trans rfl
              have hcz72_2 : w65.cell? ⟨gb433, 2, none⟩ = some (.int .i64 x434002_2) := (Zaj BK433.out 2).trans rfl
              have hfz72_0 := Zak BK433.out 0
              have hfz72_1 := Zak BK433.out 1
              have hfz72_2 := Zak BK433.out 2
              try go_wp2
              refine bodyPost_ret (results_cell_row rfl _ _ gb433 85 #[.slice Ao70 x448000_3.length co70, .slice Ao66 x448001_3.length co66, .int .i64 x448002_3] (0, 0) _ rfl (by (with_reducible repeat (first | refine Zag ?_ _ | refine Zah ?_ | refine Zaf ?_ _)); refine blk_put (cs := #[.slice Ao70 x448000_3.length co70, .slice Ao66 x448001_3.length co66, .int .i64 x434002_2]) ?_ 2 _ rfl; (with_reducible repeat (first | refine Zag ?_ _ | refine Zah ?_ | refine Zaf ?_ _)); refine blk_put (cs := #[.slice Ao70 x448000_3.length co70, .slice none 0 0, .int .i64 x434002_2]) ?_ 1 _ rfl; (with_reducible repeat (first | refine Zag ?_ _ | refine Zah ?_ | refine Zaf ?_ _)); refine blk_put (cs := #[.slice none 0 0, .slice none 0 0, .int .i64 x434002_2]) ?_ 0 _ rfl; (with_reducible repeat (first | refine Zag ?_ _ | refine Zah ?_ | refine Zaf ?_ _)); exact BK433.out) Try.underlying85 rfl (by kernel_rfl)) rfl ?_
              exact ⟨_, _, by first | rfl | (simp [Zas, Zar] <;> rfl) | (simp [*, Zas, Zar] <;> rfl), by (with_reducible repeat (first | apply Kd.R_alloc | apply Kd.R_drewN | apply Kd.R_drew)); exact Kd.R_mono (Kd.R_far (p := ⟨gb433, 2, none⟩) (Kd.R_far (p := ⟨gb433, 1, none⟩) (Kd.R_far (p := ⟨gb433, 0, none⟩) (Kd.R_types HO_448000.out BK433.out (by decide)) (fun _ hk => hk.2) (.slice Ao70 x448000_3.length co70)) (fun _ hk => hk.2) (.slice Ao66 x448001_3.length co66)) (fun _ hk => hk.2) (.int .i64 x448002_3)) (fun _ hk => hk.1), by (with_reducible repeat (first | apply Kd.R_alloc | apply Kd.R_drewN | apply Kd.R_drew)); exact Kd.R_mono (Kd.R_far (p := ⟨gb433, 2, none⟩) (Kd.R_far (p := ⟨gb433, 1, none⟩) (Kd.R_far (p := ⟨gb433, 0, none⟩) (Kd.R_types HO_448001.out BK433.out (by decide)) (fun _ hk => hk.2) (.slice Ao70 x448000_3.length co70)) (fun _ hk => hk.2) (.slice Ao66 x448001_3.length co66)) (fun _ hk => hk.2) (.int .i64 x448002_3)) (fun _ hk => hk.1), by repeat (first | (with_reducible first | exact HB.out | apply Zad | apply Zaa | apply Zac | refine Zae ?_ GE432.out | refine Zae ?_ GE433.out | refine Zae ?_ GE447.out) | exact HB.out)⟩
             ·replace c64 := Bool.eq_false_iff.mpr c64
              subst c64
              have H1 : (Zam.l1 k3 a1 t445 (x5_1.length : Int) (wrap64 (x39_2 + 1)) a0_0 l0_1) = some (r1, r2, r3) := by rw [if_neg (show ¬ (false = true) by decide)] at H; exact H
              clear H
              have H := H1
              clear H1
              have H' := Zab.mk H
              clear H
              try go_wp2
              have n0_ := Zab.mk (Kd.R_drew HO_37.out)
              have n1_ := Zab.mk (Kd.R_drew HO_448000.out)
              have n2_ := Zab.mk (Kd.R_drew HO_448001.out)
              have n3_ := Zab.mk (Zah BK432.out)
              have n4_ := Zab.mk (Zah BK433.out)
              have n5_ := Zab.mk (Zah BK447.out)
              have n6_ := Zab.mk (Zac HB.out)
              clear HO_37
              clear HO_448000
              clear HO_448001
              clear BK432
              clear BK433
              clear BK447
              clear HB
              have HO_37 := n0_
              have HO_448000 := n1_
              have HO_448001 := n2_
              have BK432 := n3_
              have BK433 := n4_
              have BK447 := n5_
              have HB := n6_
              clear n0_ n1_ n2_ n3_ n4_ n5_ n6_
              obtain ⟨Ao74, co74, eo74⟩ := Kd.R_slice HO_448001.out
              (first | subst eo74 | (injection eo74 with f1_ f2_ f3_; have f4_ := f1_.symm; have f5_ := f3_.symm; clear f1_ f2_ f3_; subst f4_; subst f5_))
              refine start_ (n := 9) (S := fun w' => w'.cell? ⟨gb447, 0, none⟩ = some (u448000) ∧ w'.cell? ⟨gb447, 1, none⟩ = some (.slice Ao74 x448001_3.length co74) ∧ w'.cell? ⟨gb447, 2, none⟩ = some (.int .i64 x448002_3)) (ds := []) #[false, false, false, false, false, false, false, false, false] (by kernel_rfl) rfl rfl ⟨(Zaj BK447.out 0).trans rfl, (Zaj BK447.out 1).trans rfl, (Zaj BK447.out 2).trans rfl⟩ (fun hHeld => ?_); refine with_tabW Zam.tab25 Zam.bits25 (fun HT_ HW_ => ?_)
              generalize wr.drew = w73 at HO_37 HO_448000 HO_448001 BK432 BK433 BK447 HB hHeld ⊢
              refine pure_ (i := 0) (N := some 94) (v := ?_) (a' := ?_) #[true, false, false, false, false, false, false, false, false] rfl rfl (Za1 HT_.out (by kernel_rfl)) (fun _ _ _ h => h) (Or.inl ⟨by rfl, ?_⟩) ?_ ?_
              rotate_left
              ·intro w'
               go_simp
               with_reducible rfl
              rotate_left
              ·simp only [Act.put, ZA, ZB, ZC, i64_w, i32_w]
               rfl
              refine pure_ (i := 1) (N := some 95) (v := ?_) (a' := ?_) #[true, true, false, false, false, false, false, false, false] rfl rfl (Za1 HT_.out (by kernel_rfl)) (fun _ _ _ h => h) (Or.inl ⟨by rfl, ?_⟩) ?_ ?_
              rotate_left
              ·intro w'
               go_simp
               with_reducible rfl
              rotate_left
              ·simp only [Act.put, ZA, ZB, ZC, i64_w, i32_w]
               rfl
              refine pure_ (i := 2) (N := some 96) (v := ?_) (a' := ?_) #[true, true, true, false, false, false, false, false, false] rfl rfl (Za1 HT_.out (by kernel_rfl)) (fun _ _ _ h => h) (Or.inl ⟨by rfl, ?_⟩) ?_ ?_
              rotate_left
              ·intro w'
               go_simp
               with_reducible rfl
              rotate_left
              ·simp only [Act.put, ZA, ZB, ZC, i64_w, i32_w]
               rfl
              refine pure_ (i := 4) (N := some 98) (v := ?_) (a' := ?_) #[true, true, true, false, true, false, false, false, false] rfl rfl (Za1 HT_.out (by kernel_rfl)) (fun _ _ _ h => h) (Or.inl ⟨by rfl, ?_⟩) ?_ ?_
              rotate_left
              ·intro w'
               go_simp
               with_reducible rfl
              rotate_left
              ·simp only [Act.put, ZA, ZB, ZC, i64_w, i32_w]
               rfl
              refine take_ (i := 3) (N := some 97) (v := ?_) (a' := ?_) #[true, true, true, true, true, false, false, false, false] rfl rfl (take_ofW HT_.out HW_.out (by kernel_rfl)) (fun _ _ _ h => h) (Or.inl ⟨by rfl, ?_⟩) hHeld ?_ ?_
              rotate_left
              ·rintro w' ⟨s0, s1, s2⟩
               go_simp
               with_reducible rfl
              rotate_left
              ·simp only [Act.put, ZA, ZB, ZC, i64_w, i32_w]
               rfl
              refine take_ (i := 5) (N := some 99) (v := ?_) (a' := ?_) #[true, true, true, true, true, true, false, false, false] rfl rfl (take_ofW HT_.out HW_.out (by kernel_rfl)) (fun _ _ _ h => h) (Or.inl ⟨by rfl, ?_⟩) hHeld ?_ ?_
              rotate_left
              ·rintro w' ⟨s0, s1, s2⟩
               go_simp
               with_reducible rfl
              rotate_left
              ·simp only [Act.put, ZA, ZB, ZC, i64_w, i32_w]
               rfl
              refine one_ (i := 6) (N := some 100) #[true, true, true, true, true, true, true, false, false] rfl rfl (one_of HT_.out (by kernel_rfl)) (by decide) (fun K hK => ?_)
              refine goes_ Try.func90 (by kernel_rfl) rfl #[.slice Ao74 x448001_3.length co74] (by rfl) rfl rfl (by (try simp only [List.map_toArray, List.map_cons, List.map_nil]); first | done | rfl | (simp only [List.length_drop, List.length_take]; rfl)) ?_
              with_reducible refine (impl_size_int.calls _ _ x448001_3 t455 _ ?side1 ?side2 A62.out).mono ?_
              (case side1 => repeat (first | exact (Kd.R_reads' HO_448001.out).2.2 | (with_reducible refine Kd.C_alloc ?_ _) | (with_reducible refine Kd.C_drewN ?_ _) | (with_reducible refine Kd.C_drew ?_)))
              (case side2 => exact (Kd.R_reads' HO_448001.out).2.1)
              rintro e w' ⟨rfl, ⟨nd, rfl⟩⟩
              refine ⟨_, rfl, ?_⟩
              refine hK.out _ _ ⟨(Zaj BK447.out 0).trans rfl, (Zaj BK447.out 1).trans rfl, (Zaj BK447.out 2).trans rfl⟩ (fun hHeld => ?_)
              clear hK K
              refine norm_ (a' := ?_) ?_ ?_
              rotate_left
              ·show Act.put _ (some 100) _ = _
               simp only [Act.put, ZA, ZB, ZC, i64_w, i32_w]
               rfl
              refine one_ (i := 7) (N := some 101) #[true, true, true, true, true, true, true, true, false] rfl rfl (one_of HT_.out (by kernel_rfl)) (by decide) (fun K hK => ?_)
              refine goes_ Try.func64 (by kernel_rfl) rfl #[.int .i64 x448002_3, .int .i64 0, .int .i64 t455] (by rfl) rfl rfl (by (try simp only [List.map_toArray, List.map_cons, List.map_nil]); first | done | rfl | (simp only [List.length_drop, List.length_take]; rfl)) ?_
              with_reducible refine (impl_within.calls x448002_3 0 t455 false _ A63.out).mono ?_
              rintro e w' ⟨rfl, ⟨nd, rfl⟩⟩
              refine ⟨_, rfl, ?_⟩
              refine hK.out _ _ ⟨(Zaj BK447.out 0).trans rfl, (Zaj BK447.out 1).trans rfl, (Zaj BK447.out 2).trans rfl⟩ (fun hHeld => ?_)
              clear hK K
              refine norm_ (a' := ?_) ?_ ?_
              rotate_left
              ·show Act.put _ (some 101) _ = _
               simp only [Act.put, ZA, ZB, ZC, i64_w, i32_w]
               rfl
              refine pure_ (i := 8) (N := some 102) (v := ?_) (a' := ?_) #[true, true, true, true, true, true, true, true, true] rfl rfl (Za1 HT_.out (by kernel_rfl)) (fun _ _ _ h => h) (Or.inl ⟨by rfl, ?_⟩) ?_ ?_
              rotate_left
              ·intro w'
               go_simp
               with_reducible rfl
              rotate_left
              ·simp only [Act.put, ZA, ZB, ZC, i64_w, i32_w]
               rfl
              refine done_ (done_of HT_.out (by kernel_rfl)) ?_
              try go_wp2
              (try simp only [← hl37_2])
              go_roundg k3
              case measure => have := HK1.out; have := HK2.out; have := HK3.out; omega
              case rel => exact ⟨(wrap64 (x39_2 + 1)), (x434002_2), (by first | rfl | (simp; done) | (simp [*]; done) | (simp [IntWalk.i64_left, *]; done)), H', ⟨by have := HK1.out; have := HK2.out; have := HK3.out; omega⟩, ⟨by (try simp only [hl37_2]); (with_reducible repeat (first | apply Kd.R_alloc | apply Kd.R_drewN | apply Kd.R_drew)); exact HO_37.out⟩, ⟨by (try simp only [hl37_2]); (with_reducible repeat (first | refine Zag ?_ _ | refine Zah ?_ | refine Zaf ?_ _)); exact BK432.out⟩, ⟨by (try simp only [hl37_2]); (with_reducible repeat (first | refine Zag ?_ _ | refine Zah ?_ | refine Zaf ?_ _)); exact BK433.out⟩, ⟨by repeat (first | (with_reducible first | exact HB.out | apply Zad | apply Zaa | apply Zac | refine Zae ?_ GE432.out | refine Zae ?_ GE433.out | refine Zae ?_ GE447.out) | exact HB.out)⟩⟩
            ·replace c61 := Bool.eq_false_iff.mpr c61
             subst c61
             have H1 : (Zam.l1 k3 a1 t445 (x5_1.length : Int) (wrap64 (x39_2 + 1)) a0_0 l0_1) = some (r1, r2, r3) := by rw [if_neg (show ¬ (false = true) by decide)] at H; exact H
             clear H
             have H := H1
             clear H1
             have H' := Zab.mk H
             clear H
             try go_wp2
             have n0_ := Zab.mk (Kd.R_drew HO_37.out)
             have n1_ := Zab.mk (Kd.R_drew HO_448000.out)
             have n2_ := Zab.mk (Kd.R_drew HO_448001.out)
             have n3_ := Zab.mk (Zah BK432.out)
             have n4_ := Zab.mk (Zah BK433.out)
             have n5_ := Zab.mk (Zah BK447.out)
             have n6_ := Zab.mk (Zac HB.out)
             clear HO_37
             clear HO_448000
             clear HO_448001
             clear BK432
             clear BK433
             clear BK447
             clear HB
             have HO_37 := n0_
             have HO_448000 := n1_
             have HO_448001 := n2_
             have BK432 := n3_
             have BK433 := n4_
             have BK447 := n5_
             have HB := n6_
             clear n0_ n1_ n2_ n3_ n4_ n5_ n6_
             refine start_ (n := 9) (S := fun w' => True) (ds := []) #[false, false, false, false, false, false, false, false, false] (by kernel_rfl) rfl rfl trivial (fun hHeld => ?_); refine with_tabW Zam.tab25 Zam.bits25 (fun HT_ HW_ => ?_)
             generalize wr.drew = w75 at HO_37 HO_448000 HO_448001 BK432 BK433 BK447 HB hHeld ⊢
             refine pure_ (i := 0) (N := some 94) (v := ?_) (a' := ?_) #[true, false, false, false, false, false, false, false, false] rfl rfl (Za1 HT_.out (by kernel_rfl)) (fun _ _ _ h => h) (Or.inl ⟨by rfl, ?_⟩) ?_ ?_
             rotate_left
             ·intro w'
              go_simp
              with_reducible rfl
             rotate_left
             ·simp only [Act.put, ZA, ZB, ZC, i64_w, i32_w]
              rfl
             refine pure_ (i := 1) (N := some 95) (v := ?_) (a' := ?_) #[true, true, false, false, false, false, false, false, false] rfl rfl (Za1 HT_.out (by kernel_rfl)) (fun _ _ _ h => h) (Or.inl ⟨by rfl, ?_⟩) ?_ ?_
             rotate_left
             ·intro w'
              go_simp
              with_reducible rfl
             rotate_left
             ·simp only [Act.put, ZA, ZB, ZC, i64_w, i32_w]
              rfl
             refine pure_ (i := 2) (N := some 96) (v := undef) (a' := ?_) #[true, true, true, false, false, false, false, false, false] rfl rfl (Za1 HT_.out (by kernel_rfl)) (fun _ _ _ h => h) (Or.inr ⟨by rfl, rfl⟩) ?_ ?_
             rotate_left
             ·simp only [Act.put, ZA, ZB, ZC, i64_w, i32_w]
              rfl
             refine pure_ (i := 3) (N := some 97) (v := undef) (a' := ?_) #[true, true, true, true, false, false, false, false, false] rfl rfl (Za1 HT_.out (by kernel_rfl)) (fun _ _ _ h => h) (Or.inr ⟨by rfl, rfl⟩) ?_ ?_
             rotate_left
             ·simp only [Act.put, ZA, ZB, ZC, i64_w, i32_w]
              rfl
             refine pure_ (i := 4) (N := some 98) (v := undef) (a' := ?_) #[true, true, true, true, true, false, false, false, false] rfl rfl (Za1 HT_.out (by kernel_rfl)) (fun _ _ _ h => h) (Or.inr ⟨by rfl, rfl⟩) ?_ ?_
             rotate_left
             ·simp only [Act.put, ZA, ZB, ZC, i64_w, i32_w]
              rfl
             refine pure_ (i := 5) (N := some 99) (v := undef) (a' := ?_) #[true, true, true, true, true, true, false, false, false] rfl rfl (Za1 HT_.out (by kernel_rfl)) (fun _ _ _ h => h) (Or.inr ⟨by rfl, rfl⟩) ?_ ?_
             rotate_left
             ·simp only [Act.put, ZA, ZB, ZC, i64_w, i32_w]
              rfl
             refine pure_ (i := 6) (N := some 100) (v := undef) (a' := ?_) #[true, true, true, true, true, true, true, false, false] rfl rfl (Za1 HT_.out (by kernel_rfl)) (fun _ _ _ h => h) (Or.inr ⟨by rfl, rfl⟩) ?_ ?_
             rotate_left
             ·simp only [Act.put, ZA, ZB, ZC, i64_w, i32_w]
              rfl
             refine pure_ (i := 7) (N := some 101) (v := undef) (a' := ?_) #[true, true, true, true, true, true, true, true, false] rfl rfl (Za1 HT_.out (by kernel_rfl)) (fun _ _ _ h => h) (Or.inr ⟨by rfl, rfl⟩) ?_ ?_
             rotate_left
             ·simp only [Act.put, ZA, ZB, ZC, i64_w, i32_w]
              rfl
             refine pure_ (i := 8) (N := some 102) (v := ?_) (a' := ?_) #[true, true, true, true, true, true, true, true, true] rfl rfl (Za1 HT_.out (by kernel_rfl)) (fun _ _ _ h => h) (Or.inl ⟨by rfl, ?_⟩) ?_ ?_
             rotate_left
             ·intro w'
              go_simp
              with_reducible rfl
             rotate_left
             ·simp only [Act.put, ZA, ZB, ZC, i64_w, i32_w]
              rfl
             refine done_ (done_of HT_.out (by kernel_rfl)) ?_
             try go_wp2
             (try simp only [← hl37_2])
             go_roundg k3
             case measure => have := HK1.out; have := HK2.out; have := HK3.out; omega
             case rel => exact ⟨(wrap64 (x39_2 + 1)), (x434002_2), (by first | rfl | (simp; done) | (simp [*]; done) | (simp [IntWalk.i64_left, *]; done)), H', ⟨by have := HK1.out; have := HK2.out; have := HK3.out; omega⟩, ⟨by (try simp only [hl37_2]); (with_reducible repeat (first | apply Kd.R_alloc | apply Kd.R_drewN | apply Kd.R_drew)); exact HO_37.out⟩, ⟨by (try simp only [hl37_2]); (with_reducible repeat (first | refine Zag ?_ _ | refine Zah ?_ | refine Zaf ?_ _)); exact BK432.out⟩, ⟨by (try simp only [hl37_2]); (with_reducible repeat (first | refine Zag ?_ _ | refine Zah ?_ | refine Zaf ?_ _)); exact BK433.out⟩, ⟨by repeat (first | (with_reducible first | exact HB.out | apply Zad | apply Zaa | apply Zac | refine Zae ?_ GE432.out | refine Zae ?_ GE433.out | refine Zae ?_ GE447.out) | exact HB.out)⟩⟩
        ·rw [if_neg c25] at H
         exact absurd H (by simp)
       ·rw [if_neg c24] at H
        exact absurd H (by simp)
      ·rw [if_neg c23] at H
       have c23b0 : decide (x39_2 < (x5_1.length : Int)) = false := decide_eq_false c23
       have c23z0 := c23b0
       (try simp only [hl37_2] at c23z0)
       clear c23
       simp only [Option.some.injEq, Prod.mk.injEq] at H
       obtain ⟨rfl, rfl, rfl⟩ := H
       have hnb76 := NB433_432.out
       have hnc76 := NB432_433.out
       have hcz77_0 : wr.cell? ⟨gb433, 0, none⟩ = some (.slice none 0 0) := (Zaj BK433.out 0).trans rfl
       have hcz77_1 : wr.cell? ⟨gb433, 1, none⟩ = some (.slice none 0 0) := (Zaj BK433.out 1).trans rfl
       have hcz77_2 : wr.cell? ⟨gb433, 2, none⟩ = some (.int .i64 x434002_2) := (Zaj BK433.out 2).trans rfl
       have hfz77_0 := Zak BK433.out 0
       have hfz77_1 := Zak BK433.out 1
       have hfz77_2 := Zak BK433.out 2
       go_wp2
       refine bodyPost_ret (results_cell_row rfl _ _ gb433 85 #[.slice none 0 0, .slice none 0 0, .int .i64 0] (0, 0) _ rfl (by (with_reducible repeat (first | refine Zag ?_ _ | refine Zah ?_ | refine Zaf ?_ _)); refine blk_put (cs := #[.slice none 0 0, .slice none 0 0, .int .i64 x434002_2]) ?_ 2 _ rfl; (with_reducible repeat (first | refine Zag ?_ _ | refine Zah ?_ | refine Zaf ?_ _)); refine blk_put (cs := #[.slice none 0 0, .slice none 0 0, .int .i64 x434002_2]) ?_ 1 _ rfl; (with_reducible repeat (first | refine Zag ?_ _ | refine Zah ?_ | refine Zaf ?_ _)); refine blk_put (cs := #[.slice none 0 0, .slice none 0 0, .int .i64 x434002_2]) ?_ 0 _ rfl; (with_reducible repeat (first | refine Zag ?_ _ | refine Zah ?_ | refine Zaf ?_ _)); exact BK433.out) Try.underlying85 rfl (by kernel_rfl)) rfl ?_
       exact ⟨_, _, by first | rfl | (simp [Zas, Zar] <;> rfl) | (simp [*, Zas, Zar] <;> rfl), by first | exact Kd.R_nil _ _ _ _ _ | exact Kd.N_nil _ _ _ _ _ | exact Kd.V_nil _ _ _ _ _ | exact Kd.Q_nil _ _ _ _ _ | exact Kd.S_nil _ _ _ _ _, by first | exact Kd.R_nil _ _ _ _ _ | exact Kd.N_nil _ _ _ _ _ | exact Kd.V_nil _ _ _ _ _ | exact Kd.Q_nil _ _ _ _ _ | exact Kd.S_nil _ _ _ _ _, by repeat (first | (with_reducible first | exact HB.out | apply Zad | apply Zaa | apply Zac | refine Zae ?_ GE432.out | refine Zae ?_ GE433.out) | exact HB.out)⟩
end Go.Proofs.Ytgmmfdilfpkbmaa.P
