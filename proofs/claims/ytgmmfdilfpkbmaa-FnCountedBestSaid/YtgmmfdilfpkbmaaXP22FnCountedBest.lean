import Derived.Test.YtgmmfdilfpkbmaaXP0FnCountedBest
import Derived.Test.YtgmmfdilfpkbmaaXP1FnCountedBest
import Derived.Test.YtgmmfdilfpkbmaaXP3FnCountedBest
namespace Go.Proofs.Ytgmmfdilfpkbmaa.P
open Go.RowKit Go.Proofs.YtgmmfdilfpkbmaaW.PrintWords Go.Proofs.YtgmmfdilfpkbmaaW.PrintLast Go.Proofs.YtgmmfdilfpkbmaaW.PrintMore
attribute [local go_sem] max2_int min2_int max_two min_two max_three min_three max_four min_four
set_option linter.unusedVariables false
set_option linter.unusedSimpArgs false
def Za6.l0 : Nat → Int → List Int → Int → Int → Int → List Int → Option (Int × List Int)
 | 0, _, _, _, _, _, _ => none
 | k + 1, x5, x643000, x643001, x643002, x650000, x650001 => if x5 > 0 then ((spec_l00Src_pick.f x643000 x643001 x643002 40).bind fun bt653 => (if x650001.length < 17592186044416 then (Za6.l0 k (wrap64 (x5 - 1)) x643000 bt653.2.1 bt653.2.2 x650000 (x650001 ++ [wrap64 (bt653.1 - 12)])) else (none))) else (some (x650000, x650001))
def Za6.f (k : Nat) (l0 : List Int) : Option (Int × List Int) := (spec_l00From.f l0).bind fun bt639 => ((spec_l00Src_pick.f bt639.1 bt639.2.1 bt639.2.2 12).bind fun bt643 => ((spec_l00Src_pick.f bt639.1 bt643.2.1 bt643.2.2 8).bind fun bt650 => (Za6.l0 k bt650.1 bt639.1 bt650.2.1 bt650.2.2 (wrap64 (1 + bt643.1)) (([] : List Int)))))
def Za6.T6 : Bool × List (List Nat × List Nat) := (true, [([], []), ([0], [0]), ([], []), ([2], [2]), ([3], [3]), ([4], [4]), ([1, 5, 3], [1, 5]), ([0, 1, 2, 3, 4, 5, 6], []), ([7, 6, 6, 0, 1, 2, 3, 4, 5, 6], [6, 7])])
def Za6.B6 : List Nat := [0, 1, 0, 4, 12, 28, 63, 127, 255]
theorem Za6.tab6 : rtab .any (opsOf Try.f41 6) = Za6.T6 := by kernel_rfl
theorem Za6.bits6 : waitsOk Za6.T6.2 Za6.B6 = true := by kernel_rfl
set_option maxHeartbeats 8000000 in
set_option maxRecDepth 100000 in
theorem Za6.calls (k : Nat) (A0 : Option Addr) (c0 : Nat) (l0 : List Int) (r1 : Int) (r2 : List Int) (w : World) (hr0 : Kd.C (Kd.int .u8) w A0 l0.length l0) (hc0 : l0.length ≤ c0) (h : Za6.f k l0 = some (r1, r2)) :
  Calls Try.prog 41 #[.slice A0 l0.length c0] w fun e w' => ∃ v1_ : Value, e = .returned (.agg #[.int .i64 r1, v1_]) ∧ Kd.R (Kd.int .i64) 2 w' w.heap.size (fun _ => True) v1_ r2 ∧ Below w.heap.size w w' := by
 have hu28 := Try.underlying28
 have HR0 := Zab.mk hr0
 have HC0 := Zab.mk hc0
 clear hr0 hc0
 have HB := Zab.mk (Below.refl w.heap.size w)
 have H : ((spec_l00From.f l0).bind fun bt639 => ((spec_l00Src_pick.f bt639.1 bt639.2.1 bt639.2.2 12).bind fun bt643 => ((spec_l00Src_pick.f bt639.1 bt643.2.1 bt643.2.2 8).bind fun bt650 => (Za6.l0 k bt650.1 bt639.1 bt650.2.1 bt650.2.2 (wrap64 (1 + bt643.1)) (([] : List Int)))))) = some (r1, r2) := h
 clear h
 replace H := Option.bind_eq_some_iff.mp H
 obtain ⟨⟨t639, t640, t641⟩, A20, H⟩ := H
 replace H : ((spec_l00Src_pick.f t639 t640 t641 12).bind fun bt643 => ((spec_l00Src_pick.f t639 bt643.2.1 bt643.2.2 8).bind fun bt650 => (Za6.l0 k bt650.1 t639 bt650.2.1 bt650.2.2 (wrap64 (1 + bt643.1)) (([] : List Int))))) = some (r1, r2) := H
 have A2 := Zab.mk A20
 clear A20
 replace H := Option.bind_eq_some_iff.mp H
 obtain ⟨⟨t643, t644, t645⟩, A30, H⟩ := H
 replace H : ((spec_l00Src_pick.f t639 t644 t645 8).bind fun bt650 => (Za6.l0 k bt650.1 t639 bt650.2.1 bt650.2.2 (wrap64 (1 + t643)) (([] : List Int)))) = some (r1, r2) := H
 have A3 := Zab.mk A30
 clear A30
 obtain ⟨y646, hy646⟩ : ∃ y_ : List Int, y_ = (([] : List Int)) := ⟨_, rfl⟩
 replace H : ((spec_l00Src_pick.f t639 t644 t645 8).bind fun bt650 => (Za6.l0 k bt650.1 t639 bt650.2.1 bt650.2.2 (wrap64 (1 + t643)) y646)) = some (r1, r2) := by first | (rw [hy646]; with_reducible exact H) | (have H2_ := (Option.bind_some _ _).symm.trans H; rw [hy646]; with_reducible exact H2_) | (have H2_ := (Option.bind_some _ _).symm.trans H; with_reducible exact H2_) | with_reducible exact H | (rw [hy646]; exact H) | exact H
 have Ny646 := Zab.mk hy646
 clear hy646
 replace H := Option.bind_eq_some_iff.mp H
 obtain ⟨⟨t650, t651, t652⟩, A40, H⟩ := H
 replace H : (Za6.l0 k t650 t639 t651 t652 (wrap64 (1 + t643)) y646) = some (r1, r2) := H
 have A4 := Zab.mk A40
 clear A40
 have H' := Zab.mk H
 clear H
 go_enter Try.func41, Try.ntmps41
 go_wp2_with (first | ((with_reducible refine gate_dst (N := 2) rfl ?_); refine box_event ?hg (N := 2) ?hd (cs := #[.int .i64 0, .slice none 0 0]) (t := 28) ?hr ?_; (case hd => rfl); (case hg => rfl); (case hr => first | (go_simp; done) | (go_simp; rfl)); intro gb638 hg w5 hbox hb; have n0_ := Zab.mk (Zap (by repeat (first | (with_reducible first | exact HB.out | apply Zad | apply Zaa | apply Zac) | exact HB.out)) hb); have n1_ := Zab.mk (hbox); have n2_ := Zab.mk ((by rw [hg]; exact (Zan (by repeat (first | (with_reducible first | exact HB.out | apply Zad | apply Zaa | apply Zac) | exact HB.out))) : w.heap.size ≤ gb638)); have n3_ := Zab.mk ((by rw [hg]; exact (Zan (by repeat (first | (with_reducible first | exact HB.out | apply Zad | apply Zaa | apply Zac) | exact HB.out))) : w.heap.size ≤ gb638)); clear HB; have HB := n0_; have BK638 := n1_; have GW638 := n2_; have GE638 := n3_; clear n0_ n1_ n2_ n3_; clear hb hbox hg) | ((with_reducible refine Zay (f := 65) rfl ?_); refine goesL_ (some 7) rfl rfl Try.func65 (by kernel_rfl) rfl #[.slice A0 l0.length c0] rfl (by (try simp only [List.map_toArray, List.map_cons, List.map_nil]); first | done | rfl | (simp only [List.length_drop, List.length_take]; rfl)) ?_; (with_reducible refine (spec_l00From.calls _ _ l0 t639 t640 t641 w _ ?side1 ?side2 ?side3 A2.out).mono ?_); (case side1 => repeat (first | (with_reducible first | exact HB.out | apply Zad | apply Zaa | apply Zac | refine Zae ?_ GE638.out) | exact HB.out)); (case side2 => exact HR0.out); (case side3 => exact HC0.out); rintro e w6 ⟨g642, rfl, hi, hb, hb2⟩; refine ⟨_, rfl, ?_⟩; have n0_ := Zab.mk (Zaq (g := gb638) (o := .cells #[.int .i64 0, .slice none 0 0] 28 (0, 0)) (by (with_reducible repeat (first | refine Zag ?_ _ | refine Zah ?_ | refine Zaf ?_ _)); exact BK638.out) hb2); have n1_ := Zab.mk (hb); have n2_ := Zab.mk (hi); have n3_ := Zab.mk (Zal.ne_blk hi (Zaq (g := gb638) (o := .cells #[.int .i64 0, .slice none 0 0] 28 (0, 0)) (by (with_reducible repeat (first | refine Zag ?_ _ | refine Zah ?_ | refine Zaf ?_ _)); exact BK638.out) hb2) (by decide)); have n4_ := Zab.mk (Ne.symm (Zal.ne_blk hi (Zaq (g := gb638) (o := .cells #[.int .i64 0, .slice none 0 0] 28 (0, 0)) (by (with_reducible repeat (first | refine Zag ?_ _ | refine Zah ?_ | refine Zaf ?_ _)); exact BK638.out) hb2) (by decide))); clear BK638; clear HB; have BK638 := n0_; have HB := n1_; have HI642 := n2_; have NB642_638 := n3_; have NB638_642 := n4_; clear n0_ n1_ n2_ n3_ n4_; (try clear hb); (try clear hb2); (try clear hk); (try clear hi)) | ((with_reducible refine Zay (f := 66) rfl ?_); refine goesL_ (some 9) rfl rfl Try.func66 (by kernel_rfl) rfl #[.pointer (some ⟨g642, 0, none⟩), .int .i64 12] rfl (by (try simp only [List.map_toArray, List.map_cons, List.map_nil]); first | done | rfl | (simp only [List.length_drop, List.length_take]; rfl)) ?_; (with_reducible refine (spec_l00Src_pick.calls g642 t639 t640 t641 12 t643 t644 t645 w _ ?side1 ?side2 A3.out).mono ?_); (case side1 => repeat (first | (with_reducible first | exact HI642.out | apply Zal.alloc | apply Zal.drewN | apply Zal.drew | apply Zal.set_1 | apply Zal.set_2 | refine Zal.far ?_ NB642_638.out _) | exact HI642.out)); (case side2 => repeat (first | (with_reducible first | exact HB.out | apply Zad | apply Zaa | apply Zac | refine Zae ?_ (Zal.ge HI642.out) | refine Zae ?_ GE638.out) | exact HB.out)); rintro e w7 ⟨rfl, hi, hb, hk⟩; refine ⟨_, rfl, ?_⟩; have n0_ := Zab.mk (KeepBut.blk hk (g' := gb638) (o := .cells #[.int .i64 0, .slice none 0 0] 28 (0, 0)) (by (with_reducible repeat (first | refine Zag ?_ _ | refine Zah ?_ | refine Zaf ?_ _)); exact BK638.out) NB638_642.out (by simp)); have n1_ := Zab.mk (hb); have n2_ := Zab.mk (hi); clear BK638; clear HB; clear HI642; have BK638 := n0_; have HB := n1_; have HI642 := n2_; clear n0_ n1_ n2_; (try clear hb); (try clear hb2); (try clear hk); (try clear hi)) | ((with_reducible refine gate_dst (N := 11) rfl ?_); refine Kd.R_lit (Kd.int .i64) _ 2 ?hg (N := 11) ?hd (xs := ([] : List Int)) (inner := []) (ok := fun _ => True) (okp := fun _ => True) ?hr ?hp (fun _ hk => hk) trivial (Below.refl _ _) (Nat.le_refl _) (by simp) ?_; (case hd => rfl); (case hg => rfl); (case hr => first | (go_simp; done) | (go_simp; rfl)); (case hp => exact (Reps.none _ _)); intro v647 w8 ho9 hb hg_ hnew_; clear hg_ hnew_; (first | rw [← Ny646.out] at ho9 | (simp only [Int.reduceToNat] at ho9; rw [← Ny646.out] at ho9)); have n0_ := Zab.mk (Kd.R_lower ho9 (Zan (by repeat (first | (with_reducible first | exact HB.out | apply Zad | apply Zaa | apply Zac | refine Zae ?_ (Zal.ge HI642.out) | refine Zae ?_ GE638.out) | exact HB.out)))); have n1_ := Zab.mk (Zaq (g := gb638) (o := .cells #[.int .i64 0, .slice none 0 0] 28 (0, 0)) (by (with_reducible repeat (first | refine Zag ?_ _ | refine Zah ?_ | refine Zaf ?_ _)); exact BK638.out) hb); have n2_ := Zab.mk (Zal.below (by repeat (first | (with_reducible first | exact HI642.out | apply Zal.alloc | apply Zal.drewN | apply Zal.drew | apply Zal.set_1 | apply Zal.set_2 | refine Zal.far ?_ NB642_638.out _) | exact HI642.out)) hb); have n3_ := Zab.mk (Zap (by repeat (first | (with_reducible first | exact HB.out | apply Zad | apply Zaa | apply Zac | refine Zae ?_ (Zal.ge HI642.out) | refine Zae ?_ GE638.out) | exact HB.out)) hb); clear BK638; clear HI642; clear HB; have HO648 := n0_; have BK638 := n1_; have HI642 := n2_; have HB := n3_; clear n0_ n1_ n2_ n3_; clear hb ho9; obtain ⟨Ao10, co10, eo10⟩ := Kd.R_slice HO648.out; subst eo10) | ((with_reducible refine gate_dst (N := 4) rfl ?_); refine box_event ?hg (N := 4) ?hd (cs := #[.int .i64 0, .slice none 0 0]) (t := 28) ?hr ?_; (case hd => rfl); (case hg => rfl); (case hr => first | (go_simp; done) | (go_simp; rfl)); intro gb649 hg w11 hbox hb; have n0_ := Zab.mk (Kd.R_below (by (with_reducible repeat (first | apply Kd.R_alloc | apply Kd.R_drewN | apply Kd.R_drew)); exact HO648.out) hb); have n1_ := Zab.mk (Zaq (g := gb638) (o := .cells #[.int .i64 0, .slice none 0 0] 28 (0, 0)) (by (with_reducible repeat (first | refine Zag ?_ _ | refine Zah ?_ | refine Zaf ?_ _)); exact BK638.out) hb); have n2_ := Zab.mk (Zal.below (by repeat (first | (with_reducible first | exact HI642.out | apply Zal.alloc | apply Zal.drewN | apply Zal.drew | apply Zal.set_1 | apply Zal.set_2 | refine Zal.far ?_ NB642_638.out _) | exact HI642.out)) hb); have n3_ := Zab.mk (Zap (by repeat (first | (with_reducible first | exact HB.out | apply Zad | apply Zaa | apply Zac | refine Zae ?_ (Zal.ge HI642.out) | refine Zae ?_ GE638.out) | exact HB.out)) hb); have n4_ := Zab.mk (hbox); have n5_ := Zab.mk ((by rw [hg]; exact (Zan (by repeat (first | (with_reducible first | exact HB.out | apply Zad | apply Zaa | apply Zac | refine Zae ?_ (Zal.ge HI642.out) | refine Zae ?_ GE638.out) | exact HB.out))) : w.heap.size ≤ gb649)); have n6_ := Zab.mk ((by rw [hg]; exact (Zan (by repeat (first | (with_reducible first | exact HB.out | apply Zad | apply Zaa | apply Zac | refine Zae ?_ (Zal.ge HI642.out) | refine Zae ?_ GE638.out) | exact HB.out))) : w.heap.size ≤ gb649)); have n7_ := Zab.mk ((by rw [hg]; exact Nat.ne_of_lt (blk_lt (g := gb638) (o := .cells #[.int .i64 0, .slice none 0 0] 28 (0, 0)) (by (with_reducible repeat (first | refine Zag ?_ _ | refine Zah ?_ | refine Zaf ?_ _)); exact BK638.out)) : gb638 ≠ gb649)); have n8_ := Zab.mk ((by rw [hg]; exact Nat.ne_of_gt (blk_lt (g := gb638) (o := .cells #[.int .i64 0, .slice none 0 0] 28 (0, 0)) (by (with_reducible repeat (first | refine Zag ?_ _ | refine Zah ?_ | refine Zaf ?_ _)); exact BK638.out)) : gb649 ≠ gb638)); have n9_ := Zab.mk ((by rw [hg]; exact Nat.ne_of_lt (Zal.lt (show Zal w _ g642 t639 t644 t645 from by repeat (first | (with_reducible first | exact HI642.out | apply Zal.alloc | apply Zal.drewN | apply Zal.drew | apply Zal.set_1 | apply Zal.set_2 | refine Zal.far ?_ NB642_638.out _) | exact HI642.out))) : g642 ≠ gb649)); have n10_ := Zab.mk ((by rw [hg]; exact Nat.ne_of_gt (Zal.lt (show Zal w _ g642 t639 t644 t645 from by repeat (first | (with_reducible first | exact HI642.out | apply Zal.alloc | apply Zal.drewN | apply Zal.drew | apply Zal.set_1 | apply Zal.set_2 | refine Zal.far ?_ NB642_638.out _) | exact HI642.out))) : gb649 ≠ g642)); clear HO648; clear BK638; clear HI642; clear HB; have HO648 := n0_; have BK638 := n1_; have HI642 := n2_; have HB := n3_; have BK649 := n4_; have GW649 := n5_; have GE649 := n6_; have NB638_649 := n7_; have NB649_638 := n8_; have NB642_649 := n9_; have NB649_642 := n10_; clear n0_ n1_ n2_ n3_ n4_ n5_ n6_ n7_ n8_ n9_ n10_; clear hb hbox hg; have hnb12 := NB649_638.out; have hnc12 := NB638_649.out; have hnb13 := NB649_642.out; have hnc13 := NB642_649.out; have hcz14_0 : w11.cell? ⟨gb649, 0, none⟩ = some (.int .i64 0) := (Zaj BK649.out 0).trans rfl; have hcz14_1 : w11.cell? ⟨gb649, 1, none⟩ = some (.slice none 0 0) := (Zaj BK649.out 1).trans rfl; have hfz14_0 := Zak BK649.out 0; have hfz14_1 := Zak BK649.out 1) | ((with_reducible refine Zay (f := 66) rfl ?_); refine goesL_ (some 14) rfl rfl Try.func66 (by kernel_rfl) rfl #[.pointer (some ⟨g642, 0, none⟩), .int .i64 8] rfl (by (try simp only [List.map_toArray, List.map_cons, List.map_nil]); first | done | rfl | (simp only [List.length_drop, List.length_take]; rfl)) ?_; (with_reducible refine (spec_l00Src_pick.calls g642 t639 t644 t645 8 t650 t651 t652 w _ ?side1 ?side2 A4.out).mono ?_); (case side1 => repeat (first | (with_reducible first | exact HI642.out | apply Zal.alloc | apply Zal.drewN | apply Zal.drew | apply Zal.set_1 | apply Zal.set_2 | refine Zal.far ?_ NB642_638.out _ | refine Zal.far ?_ NB642_649.out _) | exact HI642.out)); (case side2 => repeat (first | (with_reducible first | exact HB.out | apply Zad | apply Zaa | apply Zac | refine Zae ?_ (Zal.ge HI642.out) | refine Zae ?_ GE638.out | refine Zae ?_ GE649.out) | exact HB.out)); rintro e w15 ⟨rfl, hi, hb, hk⟩; refine ⟨_, rfl, ?_⟩; have n0_ := Zab.mk (KeepBut.blk hk (g' := gb638) (o := .cells #[.int .i64 0, .slice none 0 0] 28 (0, 0)) (by (with_reducible repeat (first | refine Zag ?_ _ | refine Zah ?_ | refine Zaf ?_ _)); refine blk_far ?_ NB638_649.out _; (with_reducible repeat (first | refine Zag ?_ _ | refine Zah ?_ | refine Zaf ?_ _)); refine blk_far ?_ NB638_649.out _; (with_reducible repeat (first | refine Zag ?_ _ | refine Zah ?_ | refine Zaf ?_ _)); exact BK638.out) NB638_642.out (by simp)); have n1_ := Zab.mk (Kd.R_mono (Kd.R_keep (Zal.apart (show Zal w _ g642 t639 t644 t645 from by repeat (first | (with_reducible first | exact HI642.out | apply Zal.alloc | apply Zal.drewN | apply Zal.drew | apply Zal.set_1 | apply Zal.set_2 | refine Zal.far ?_ NB642_638.out _ | refine Zal.far ?_ NB642_649.out _) | exact HI642.out)) (by (with_reducible repeat (first | apply Kd.R_alloc | apply Kd.R_drewN | apply Kd.R_drew)); exact (Kd.R_mono (Kd.R_far (p := ⟨gb649, 1, none⟩) (Kd.R_far (p := ⟨gb649, 0, none⟩) (Kd.R_types HO648.out BK649.out (by decide)) (fun _ hk => hk.2) (.int .i64 (wrap64 (1 + t643)))) (fun _ hk => hk.2) (.slice Ao10 y646.length co10)) (fun _ h_ => h_.1))) (by decide)) hk (fun _ h => h.2)) (fun _ h => h.1)); have n2_ := Zab.mk (KeepBut.blk hk (g' := gb649) (o := .cells #[.int .i64 (wrap64 (1 + t643)), .slice Ao10 y646.length co10] 28 (0, 0)) (by (with_reducible repeat (first | refine Zag ?_ _ | refine Zah ?_ | refine Zaf ?_ _)); refine blk_put (cs := #[.int .i64 (wrap64 (1 + t643)), .slice none 0 0]) ?_ 1 _ rfl; (with_reducible repeat (first | refine Zag ?_ _ | refine Zah ?_ | refine Zaf ?_ _)); refine blk_put (cs := #[.int .i64 0, .slice none 0 0]) ?_ 0 _ rfl; (with_reducible repeat (first | refine Zag ?_ _ | refine Zah ?_ | refine Zaf ?_ _)); exact BK649.out) NB649_642.out (by simp)); have n3_ := Zab.mk (hb); have n4_ := Zab.mk (hi); clear BK638; clear HO648; clear BK649; clear HB; clear HI642; have BK638 := n0_; have HO648 := n1_; have BK649 := n2_; have HB := n3_; have HI642 := n4_; clear n0_ n1_ n2_ n3_ n4_; (try clear hb); (try clear hb2); (try clear hk); (try clear hi)))
 try simp only [Act.put, List.setIfInBounds_toArray, List.set_cons_zero, List.set_cons_succ]
 go_loopg [5] k (fun kq v5 w' => ∃ (x5_1 : Int) (x643001_1 : Int) (x643002_1 : Int) (x650001_1 : List Int) (u650001 : Value), v5 = .int .i64 x5_1 ∧ Zab (Za6.l0 kq x5_1 t639 x643001_1 x643002_1 (wrap64 (1 + t643)) x650001_1 = some (r1, r2)) ∧ Zab (kq ≤ k) ∧ Zab (Kd.R (Kd.int .i64) 2 w' w.heap.size (fun _ => True) u650001 x650001_1) ∧ Zab (w'.heap[gb638]? = some (.cells #[.int .i64 0, (.slice none 0 0)] 28 (0, 0))) ∧ Zab (w'.heap[gb649]? = some (.cells #[.int .i64 (wrap64 (1 + t643)), u650001] 28 (0, 0))) ∧ Zab (Zal w w' g642 t639 x643001_1 x643002_1) ∧ Zab (Below w.heap.size w w'))
 case atStart => exact ⟨(t650), (t651), (t652), (y646), (.slice Ao10 y646.length co10), (by first | rfl | (simp; done) | (simp [*]; done) | (simp [IntWalk.i64_left, *]; done)), H', ⟨Nat.le_refl _⟩, ⟨by (with_reducible repeat (first | apply Kd.R_alloc | apply Kd.R_drewN | apply Kd.R_drew)); exact HO648.out⟩, ⟨by (with_reducible repeat (first | refine Zag ?_ _ | refine Zah ?_ | refine Zaf ?_ _)); exact BK638.out⟩, ⟨by (with_reducible repeat (first | refine Zag ?_ _ | refine Zah ?_ | refine Zaf ?_ _)); exact BK649.out⟩, ⟨by repeat (first | (with_reducible first | exact HI642.out | apply Zal.alloc | apply Zal.drewN | apply Zal.drew | apply Zal.set_1 | apply Zal.set_2 | refine Zal.far ?_ NB642_638.out _ | refine Zal.far ?_ NB642_649.out _) | exact HI642.out)⟩, ⟨by repeat (first | (with_reducible first | exact HB.out | apply Zad | apply Zaa | apply Zac | refine Zae ?_ (Zal.ge HI642.out) | refine Zae ?_ GE638.out | refine Zae ?_ GE649.out) | exact HB.out)⟩⟩
 case round =>
  clear H'
  try clear c1
  try clear p2
  try clear c4
  try clear c6
  try clear p6
  try clear c12
  try clear c13
  try clear hcz14_0
  try clear hcz14_1
  try clear hfz14_0
  try clear hfz14_1
  obtain ⟨x5_1, x643001_1, x643002_1, x650001_1, u650001, rfl, HA, HK1, HO_650001, BK638, BK649, HI642, HB⟩ := hrel
  cases gk with
  | zero => exact absurd HA.out (by simp [Za6.l0])
  | succ k1 =>
   have H := HA.out
   clear HA
   simp only [Za6.l0] at H
   by_cases c16 : x5_1 > 0
   ·rw [if_pos c16] at H
    have c16b0 : decide (0 < x5_1) = true := decide_eq_true c16
    clear c16
    replace H := Option.bind_eq_some_iff.mp H
    obtain ⟨⟨t653, t654, t655⟩, A170, H⟩ := H
    replace H : (if x650001_1.length < 17592186044416 then (Za6.l0 k1 (wrap64 (x5_1 - 1)) t639 t654 t655 (wrap64 (1 + t643)) (x650001_1 ++ [wrap64 (t653 - 12)])) else (none)) = some (r1, r2) := H
    have A17 := Zab.mk A170
    clear A170
    by_cases c18 : x650001_1.length < 17592186044416
    ·rw [if_pos c18] at H
     have LMc18 := Zab.mk c18
     clear c18
     obtain ⟨y656, hy656⟩ : ∃ y_ : List Int, y_ = (x650001_1 ++ [wrap64 (t653 - 12)]) := ⟨_, rfl⟩
     replace H : (Za6.l0 k1 (wrap64 (x5_1 - 1)) t639 t654 t655 (wrap64 (1 + t643)) y656) = some (r1, r2) := by first | (rw [hy656]; with_reducible exact H) | (have H2_ := (Option.bind_some _ _).symm.trans H; rw [hy656]; with_reducible exact H2_) | (have H2_ := (Option.bind_some _ _).symm.trans H; with_reducible exact H2_) | with_reducible exact H | (rw [hy656]; exact H) | exact H
     have Ny656 := Zab.mk hy656
     clear hy656
     have H' := Zab.mk H
     clear H
     try go_wp2
     have n0_ := Zab.mk (Kd.R_drew HO_650001.out)
     have n1_ := Zab.mk (Zah BK638.out)
     have n2_ := Zab.mk (Zah BK649.out)
     have n3_ := Zab.mk (Zal.drew HI642.out)
     have n4_ := Zab.mk (Zac HB.out)
     clear HO_650001
     clear BK638
     clear BK649
     clear HI642
     clear HB
     have HO_650001 := n0_
     have BK638 := n1_
     have BK649 := n2_
     have HI642 := n3_
     have HB := n4_
     clear n0_ n1_ n2_ n3_ n4_
     refine start_ (n := 9) (S := fun w' => w'.cell? ⟨gb649, 0, none⟩ = some (.int .i64 (wrap64 (1 + t643))) ∧ w'.cell? ⟨gb649, 1, none⟩ = some (u650001)) (ds := [8]) #[false, false, false, false, false, false, false, false, false] (by kernel_rfl) rfl rfl ⟨(Zaj BK649.out 0).trans rfl, (Zaj BK649.out 1).trans rfl⟩ (fun hHeld => ?_); refine with_tabW Za6.tab6 Za6.bits6 (fun HT_ HW_ => ?_)
     generalize wr.drew = w19 at HO_650001 BK638 BK649 HI642 HB hHeld ⊢
     refine pure_ (i := 0) (N := some 19) (v := ?_) (a' := ?_) #[true, false, false, false, false, false, false, false, false] rfl rfl (Za1 HT_.out (by kernel_rfl)) (fun _ _ _ h => h) (Or.inl ⟨by rfl, ?_⟩) ?_ ?_
     rotate_left
     ·intro w'
      go_simp
      with_reducible rfl
     rotate_left
     ·simp only [Act.put, ZA, ZB, ZC, i64_w, i32_w]
      rfl
     refine pure_ (i := 2) (N := some 21) (v := ?_) (a' := ?_) #[true, false, true, false, false, false, false, false, false] rfl rfl (Za1 HT_.out (by kernel_rfl)) (fun _ _ _ h => h) (Or.inl ⟨by rfl, ?_⟩) ?_ ?_
     rotate_left
     ·intro w'
      go_simp
      with_reducible rfl
     rotate_left
     ·simp only [Act.put, ZA, ZB, ZC, i64_w, i32_w]
      rfl
     refine take_ (i := 1) (N := some 20) (v := ?_) (a' := ?_) #[true, true, true, false, false, false, false, false, false] rfl rfl (take_ofW HT_.out HW_.out (by kernel_rfl)) (fun _ _ _ h => h) (Or.inl ⟨by rfl, ?_⟩) hHeld ?_ ?_
     rotate_left
     ·rintro w' ⟨s0, s1⟩
      go_simp
      with_reducible rfl
     rotate_left
     ·simp only [Act.put, ZA, ZB, ZC, i64_w, i32_w]
      rfl
     refine one_ (i := 3) (N := some 22) #[true, true, true, true, false, false, false, false, false] rfl rfl (one_of HT_.out (by kernel_rfl)) (by decide) (fun K hK => ?_)
     refine goes_ Try.func66 (by kernel_rfl) rfl #[.pointer (some ⟨g642, 0, none⟩), .int .i64 40] (by rfl) rfl rfl (by (try simp only [List.map_toArray, List.map_cons, List.map_nil]); first | done | rfl | (simp only [List.length_drop, List.length_take]; rfl)) ?_
     with_reducible refine (spec_l00Src_pick.calls g642 t639 x643001_1 x643002_1 40 t653 t654 t655 w _ ?side1 ?side2 A17.out).mono ?_
     (case side1 => repeat (first | (with_reducible first | exact HI642.out | apply Zal.alloc | apply Zal.drewN | apply Zal.drew | apply Zal.set_1 | apply Zal.set_2 | refine Zal.far ?_ NB642_638.out _ | refine Zal.far ?_ NB642_649.out _) | exact HI642.out))
     (case side2 => repeat (first | (with_reducible first | exact HB.out | apply Zad | apply Zaa | apply Zac | refine Zae ?_ (Zal.ge HI642.out) | refine Zae ?_ GE638.out | refine Zae ?_ GE649.out) | exact HB.out))
     rintro e w20 ⟨rfl, hi, hb, hk⟩
     refine ⟨_, rfl, ?_⟩
     have n0_ := Zab.mk (Kd.R_mono (Kd.R_keep (Zal.apart (show Zal w _ g642 t639 x643001_1 x643002_1 from by repeat (first | (with_reducible first | exact HI642.out | apply Zal.alloc | apply Zal.drewN | apply Zal.drew | apply Zal.set_1 | apply Zal.set_2 | refine Zal.far ?_ NB642_638.out _ | refine Zal.far ?_ NB642_649.out _) | exact HI642.out)) (by (with_reducible repeat (first | apply Kd.R_alloc | apply Kd.R_drewN | apply Kd.R_drew)); exact HO_650001.out) (by decide)) hk (fun _ h => h.2)) (fun _ h => h.1))
     have n1_ := Zab.mk (KeepBut.blk hk (g' := gb638) (o := .cells #[.int .i64 0, .slice none 0 0] 28 (0, 0)) (by (with_reducible repeat (first | refine Zag ?_ _ | refine Zah ?_ | refine Zaf ?_ _)); exact BK638.out) NB638_642.out (by simp))
     have n2_ := Zab.mk (KeepBut.blk hk (g' := gb649) (o := .cells #[.int .i64 (wrap64 (1 + t643)), u650001] 28 (0, 0)) (by (with_reducible repeat (first | refine Zag ?_ _ | refine Zah ?_ | refine Zaf ?_ _)); exact BK649.out) NB649_642.out (by simp))
     have n3_ := Zab.mk (hb)
     have n4_ := Zab.mk (hi)
     clear HO_650001
     clear BK638
     clear BK649
     clear HB
     clear HI642
     have HO_650001 := n0_
     have BK638 := n1_
     have BK649 := n2_
     have HB := n3_
     have HI642 := n4_
     clear n0_ n1_ n2_ n3_ n4_
     (try clear hb)
     (try clear hb2)
     (try clear hk)
     (try clear hi)
     refine hK.out _ _ ⟨(Zaj BK649.out 0).trans rfl, (Zaj BK649.out 1).trans rfl⟩ (fun hHeld => ?_)
     clear hK K
     refine norm_ (a' := ?_) ?_ ?_
     rotate_left
     ·show Act.put _ (some 22) _ = _
      simp only [Act.put, ZA, ZB, ZC, i64_w, i32_w]
      rfl
     refine pure_ (i := 4) (N := some 23) (v := ?_) (a' := ?_) #[true, true, true, true, true, false, false, false, false] rfl rfl (Za1 HT_.out (by kernel_rfl)) (fun _ _ _ h => h) (Or.inl ⟨by rfl, ?_⟩) ?_ ?_
     rotate_left
     ·intro w'
      go_simp
      with_reducible rfl
     rotate_left
     ·simp only [Act.put, ZA, ZB, ZC, i64_w, i32_w]
      rfl
     refine one_ (i := 5) (N := some 24) #[true, true, true, true, true, true, false, false, false] rfl rfl (one_of HT_.out (by kernel_rfl)) (by decide) (fun K hK => ?_)
     refine value_ (w1 := ?_) (v := ?_) (by rfl) rfl ?_ ?_
     rotate_left 2
     ·go_simp
      constructor
      ·rfl
      ·rfl
     refine hK.out _ _ ⟨(Zaj (Zaf BK649.out _) 0).trans rfl, (Zaj (Zaf BK649.out _) 1).trans rfl⟩ (fun hHeld => ?_)
     clear hK K
     refine norm_ (a' := ?_) ?_ ?_
     rotate_left
     ·show Act.put _ (some 24) _ = _
      simp only [Act.put, ZA, ZB, ZC, i64_w, i32_w]
      rfl
     refine one_ (i := 6) (N := some 25) #[true, true, true, true, true, true, true, false, false] rfl rfl (one_of HT_.out (by kernel_rfl)) (by decide) (fun K hK => ?_)
     refine Kd.R_append_step (Kd.int .i64) (w0 := w) w.heap.size (by rfl) (.tmp 20) (.tmp 24) 22 2 (.int .i64 0) 8 rfl Try.underlying22 info2 rfl (by decide) (by omega) u650001 x650001_1 (wrap64 (t653 - 12)) [.int .i64 (wrap64 (t653 - 12))] (fun _ => True) (fun _ => False) rfl rfl ?aP (fun _ hk => hk.elim) ?aF ?aO ?aB ?aS ?aL ?_
     (case aP => exact rfl)
     (case aB => exact (by repeat (first | (with_reducible first | exact HB.out | apply Zad | apply Zaa | apply Zac | refine Zae ?_ (Zal.ge HI642.out) | refine Zae ?_ GE638.out | refine Zae ?_ GE649.out) | exact HB.out)))
     (case aF => exact (fun _ _ => trivial))
     (case aO => exact (by (with_reducible repeat (first | apply Kd.R_alloc | apply Kd.R_drewN | apply Kd.R_drew)); exact HO_650001.out))
     (case aS => exact (Zan (by repeat (first | (with_reducible first | exact HB.out | apply Zad | apply Zaa | apply Zac | refine Zae ?_ (Zal.ge HI642.out) | refine Zae ?_ GE638.out | refine Zae ?_ GE649.out) | exact HB.out))))
     (case aL => have := LMc18.out; omega)
     intro v657 w21 ho hb hg hat
     rw [← Ny656.out] at ho
     have n0_ := Zab.mk (blk_grown (g := gb638) (o := .cells #[.int .i64 0, .slice none 0 0] 28 (0, 0)) (by (with_reducible repeat (first | refine Zag ?_ _ | refine Zah ?_ | refine Zaf ?_ _)); exact BK638.out) hg (Kd.R_ne HO_650001.out BK638.out (by decide)))
     have n1_ := Zab.mk (blk_grown (g := gb649) (o := .cells #[.int .i64 (wrap64 (1 + t643)), u650001] 28 (0, 0)) (by (with_reducible repeat (first | refine Zag ?_ _ | refine Zah ?_ | refine Zaf ?_ _)); exact BK649.out) hg (Kd.R_ne HO_650001.out BK649.out (by decide)))
     have n2_ := Zab.mk (Zal.grown (by repeat (first | (with_reducible first | exact HI642.out | apply Zal.alloc | apply Zal.drewN | apply Zal.drew | apply Zal.set_1 | apply Zal.set_2 | refine Zal.far ?_ NB642_638.out _ | refine Zal.far ?_ NB642_649.out _) | exact HI642.out)) hg (Zal.own_ne HI642.out HO_650001.out (by decide)))
     have n3_ := Zab.mk (hb)
     have n4_ := Zab.mk (ho)
     clear BK638
     clear BK649
     clear HI642
     clear HB
     clear HO_650001
     have BK638 := n0_
     have BK649 := n1_
     have HI642 := n2_
     have HB := n3_
     have HO658 := n4_
     clear n0_ n1_ n2_ n3_ n4_
     clear ho hb hg hat
     obtain ⟨Ao22, co22, eo22⟩ := Kd.R_slice HO658.out
     (first | subst eo22 | (injection eo22 with f1_ f2_ f3_; have f4_ := f1_.symm; have f5_ := f3_.symm; clear f1_ f2_ f3_; subst f4_; subst f5_))
     refine hK.out _ _ ⟨(Zaj BK649.out 0).trans rfl, (Zaj BK649.out 1).trans rfl⟩ (fun hHeld => ?_)
     clear hK K
     refine norm_ (a' := ?_) ?_ ?_
     rotate_left
     ·show Act.put _ (some 25) _ = _
      simp only [Act.put, ZA, ZB, ZC, i64_w, i32_w]
      rfl
     refine pure_ (i := 7) (N := some 26) (v := ?_) (a' := ?_) #[true, true, true, true, true, true, true, true, false] rfl rfl (Za1 HT_.out (by kernel_rfl)) (fun _ _ _ h => h) (Or.inl ⟨by rfl, ?_⟩) ?_ ?_
     rotate_left
     ·intro w'
      go_simp
      with_reducible rfl
     rotate_left
     ·simp only [Act.put, ZA, ZB, ZC, i64_w, i32_w]
      rfl
     refine last_ (i := 8) (N := none) #[true, true, true, true, true, true, true, true, true] rfl rfl (one_of HT_.out (by kernel_rfl)) (by decide) (fun K hK => ?_)
     have hs23 : w21.cell? ⟨gb649, 1, none⟩ = some (u650001) := (Zaj BK649.out 1).trans rfl
     have hfs23 := Zak BK649.out 1
     have hns23_0 := NB638_649.out
     have hms23_0 := NB649_638.out
     refine skip_ (w1 := ?_) (by rfl) rfl ?_ ?_
     rotate_left
     ·go_simp
      rfl
     refine hK.out _ _ ?_
     clear hK K
     refine done_ (done_of HT_.out (by kernel_rfl)) ?_
     try go_wp2
     go_roundg k1
     case measure => have := HK1.out; omega
     case rel => exact ⟨(wrap64 (x5_1 - 1)), (t654), (t655), (y656), (.slice Ao22 y656.length co22), (by first | rfl | (simp; done) | (simp [*]; done) | (simp [IntWalk.i64_left, *]; done)), H', ⟨by have := HK1.out; omega⟩, ⟨by (with_reducible repeat (first | apply Kd.R_alloc | apply Kd.R_drewN | apply Kd.R_drew)); exact Kd.R_mono (Kd.R_far (p := ⟨gb649, 1, none⟩) (Kd.R_types HO658.out BK649.out (by decide)) (fun _ hk => hk.2) (.slice Ao22 y656.length co22)) (fun _ hk => trivial)⟩, ⟨by (with_reducible repeat (first | refine Zag ?_ _ | refine Zah ?_ | refine Zaf ?_ _)); refine blk_far ?_ NB638_649.out _; (with_reducible repeat (first | refine Zag ?_ _ | refine Zah ?_ | refine Zaf ?_ _)); exact BK638.out⟩, ⟨by (with_reducible repeat (first | refine Zag ?_ _ | refine Zah ?_ | refine Zaf ?_ _)); refine blk_put (cs := #[.int .i64 (wrap64 (1 + t643)), u650001]) ?_ 1 _ rfl; (with_reducible repeat (first | refine Zag ?_ _ | refine Zah ?_ | refine Zaf ?_ _)); exact BK649.out⟩, ⟨by repeat (first | (with_reducible first | exact HI642.out | apply Zal.alloc | apply Zal.drewN | apply Zal.drew | apply Zal.set_1 | apply Zal.set_2 | refine Zal.far ?_ NB642_638.out _ | refine Zal.far ?_ NB642_649.out _) | exact HI642.out)⟩, ⟨by repeat (first | (with_reducible first | exact HB.out | apply Zad | apply Zaa | apply Zac | refine Zae ?_ (Zal.ge HI642.out) | refine Zae ?_ GE638.out | refine Zae ?_ GE649.out) | exact HB.out)⟩⟩
    ·rw [if_neg c18] at H
     exact absurd H (by simp)
   ·rw [if_neg c16] at H
    have c16b0 : decide (0 < x5_1) = false := decide_eq_false c16
    clear c16
    simp only [Option.some.injEq, Prod.mk.injEq] at H
    obtain ⟨rfl, rfl⟩ := H
    have hnb24 := NB649_638.out
    have hnc24 := NB638_649.out
    have hnb25 := NB649_642.out
    have hnc25 := NB642_649.out
    have hcz26_0 : wr.cell? ⟨gb649, 0, none⟩ = some (.int .i64 (wrap64 (1 + t643))) := (Zaj BK649.out 0).trans rfl
    have hcz26_1 : wr.cell? ⟨gb649, 1, none⟩ = some (u650001) := (Zaj BK649.out 1).trans rfl
    have hfz26_0 := Zak BK649.out 0
    have hfz26_1 := Zak BK649.out 1
    have hnb27 := NB638_642.out
    have hnc27 := NB642_638.out
    have hcz28_0 : wr.cell? ⟨gb638, 0, none⟩ = some (.int .i64 0) := (Zaj BK638.out 0).trans rfl
    have hcz28_1 : wr.cell? ⟨gb638, 1, none⟩ = some (.slice none 0 0) := (Zaj BK638.out 1).trans rfl
    have hfz28_0 := Zak BK638.out 0
    have hfz28_1 := Zak BK638.out 1
    obtain ⟨Ao29, co29, eo29⟩ := Kd.R_slice HO_650001.out
    subst eo29
    go_wp2
    refine bodyPost_ret (results_cell_row rfl _ _ gb638 28 #[.int .i64 (wrap64 (1 + t643)), .slice Ao29 x650001_1.length co29] (0, 0) _ rfl (by (with_reducible repeat (first | refine Zag ?_ _ | refine Zah ?_ | refine Zaf ?_ _)); refine blk_put (cs := #[.int .i64 (wrap64 (1 + t643)), .slice none 0 0]) ?_ 1 _ rfl; (with_reducible repeat (first | refine Zag ?_ _ | refine Zah ?_ | refine Zaf ?_ _)); refine blk_put (cs := #[.int .i64 0, .slice none 0 0]) ?_ 0 _ rfl; (with_reducible repeat (first | refine Zag ?_ _ | refine Zah ?_ | refine Zaf ?_ _)); exact BK638.out) Try.underlying28 rfl (by kernel_rfl)) rfl ?_
    exact ⟨_, by first | rfl | (simp [Zas, Zar] <;> rfl) | (simp [*, Zas, Zar] <;> rfl), by (with_reducible repeat (first | apply Kd.R_alloc | apply Kd.R_drewN | apply Kd.R_drew)); exact Kd.R_mono (Kd.R_far (p := ⟨gb638, 1, none⟩) (Kd.R_far (p := ⟨gb638, 0, none⟩) (Kd.R_types HO_650001.out BK638.out (by decide)) (fun _ hk => hk.2) (.int .i64 (wrap64 (1 + t643)))) (fun _ hk => hk.2) (.slice Ao29 x650001_1.length co29)) (fun _ hk => trivial), by repeat (first | (with_reducible first | exact HB.out | apply Zad | apply Zaa | apply Zac | refine Zae ?_ (Zal.ge HI642.out) | refine Zae ?_ GE638.out | refine Zae ?_ GE649.out) | exact HB.out)⟩
def spec_l00Src_one.f (s0_0 : List Int) (s0_1 : Int) (s0_2 : Int) (a1 : Int) : Option (Bool × Int × Int) := (spec_l00Src_pick.f s0_0 s0_1 s0_2 a1).bind fun bt659 => (some ((bt659.1 == 0), bt659.2.1, bt659.2.2))
set_option maxHeartbeats 8000000 in
set_option maxRecDepth 100000 in
theorem spec_l00Src_one.calls (g : Nat) (s0_0 : List Int) (s0_1 : Int) (s0_2 : Int) (a1 : Int) (r1 : Bool) (r2 : Int) (r3 : Int) (w0 w : World) (hI : Zal w0 w g s0_0 s0_1 s0_2) (hB : Below w0.heap.size w0 w) (h : spec_l00Src_one.f s0_0 s0_1 s0_2 a1 = some (r1, r2, r3)) :
  Calls Try.prog 86 #[.pointer (some ⟨g, 0, none⟩), .int .i64 a1] w fun e w' => e = .returned (.bool r1) ∧ Zal w0 w' g s0_0 r2 r3 ∧ Below w0.heap.size w0 w' ∧ KeepBut w w' g none := by
 have HI0 := Zab.mk hI
 have HK := Zab.mk (KeepBut.refl w g none)
 have HL := Zab.mk hB.size
 clear hI
 have HW0 := Zab.mk hB.size
 have HB := Zab.mk hB
 clear hB
 have H : ((spec_l00Src_pick.f s0_0 s0_1 s0_2 a1).bind fun bt659 => (some ((bt659.1 == 0), bt659.2.1, bt659.2.2))) = some (r1, r2, r3) := h
 clear h
 replace H := Option.bind_eq_some_iff.mp H
 obtain ⟨⟨t659, t660, t661⟩, A30, H⟩ := H
 replace H : (some ((t659 == 0), t660, t661)) = some (r1, r2, r3) := H
 have A3 := Zab.mk A30
 clear A30
 simp only [Option.some.injEq, Prod.mk.injEq] at H
 obtain ⟨rfl, rfl, rfl⟩ := H
 go_enter Try.func86, Try.ntmps86
 go_wp2_with (first | ((with_reducible refine Zay (f := 66) rfl ?_); refine goesL_ (some 7) rfl rfl Try.func66 (by kernel_rfl) rfl #[.pointer (some ⟨g, 0, none⟩), .int .i64 a1] rfl (by (try simp only [List.map_toArray, List.map_cons, List.map_nil]); first | done | rfl | (simp only [List.length_drop, List.length_take]; rfl)) ?_; (with_reducible refine (spec_l00Src_pick.calls g s0_0 s0_1 s0_2 a1 t659 t660 t661 w0 _ ?side1 ?side2 A3.out).mono ?_); (case side1 => repeat (first | (with_reducible first | exact HI0.out | apply Zal.alloc | apply Zal.drewN | apply Zal.drew | apply Zal.set_1 | apply Zal.set_2) | exact HI0.out)); (case side2 => repeat (first | (with_reducible first | exact HB.out | apply Zad | apply Zaa | apply Zac | refine Zae ?_ (Zal.ge HI0.out)) | exact HB.out)); rintro e w4 ⟨rfl, hi, hb, hk⟩; refine ⟨_, rfl, ?_⟩; have n0_ := Zab.mk (KeepBut.trans (by repeat (first | (with_reducible first | exact HK.out | apply KeepBut.set_ | apply keep_drewN | apply keep_drew | apply keep_alloc) | exact HK.out)) hk (.inl rfl)); have n1_ := Zab.mk (hb); have n2_ := Zab.mk (hi); clear HK; clear HB; clear HI0; have HK := n0_; have HB := n1_; have HI0 := n2_; clear n0_ n1_ n2_; (try clear hb); (try clear hb2); (try clear hk); (try clear hi)))
 go_ret
 exact ⟨by first | rfl | (simp [Zas, Zar] <;> rfl) | (simp [*, Zas, Zar] <;> rfl), by repeat (first | (with_reducible first | exact HI0.out | apply Zal.alloc | apply Zal.drewN | apply Zal.drew | apply Zal.set_1 | apply Zal.set_2) | exact HI0.out), by repeat (first | (with_reducible first | exact HB.out | apply Zad | apply Zaa | apply Zac | refine Zae ?_ (Zal.ge HI0.out)) | exact HB.out), by repeat (first | (with_reducible first | exact HK.out | apply KeepBut.set_ | apply keep_drewN | apply keep_drew | apply keep_alloc) | exact HK.out)⟩
def Za5.l0 : Nat → List Int → Int → Int → List Int → List Int → Int → Int → Option (List Int)
 | 0, _, _, _, _, _, _, _ => none
 | k + 1, x6, x7, x663000, x663001, x667000, x667001, x667002 => if x7 < (x663001.length : Int) then (if 0 ≤ x7 then ((spec_l01Floor.f (rd x663001 x7) x663000).bind fun t671 => ((spec_l00Src_one.f x667000 x667001 x667002 2).bind fun bt672 => (if bt672.1 = true then ((spec_l01Ceil.f (rd x663001 x7) x663000).bind fun t676 => (if x6.length < 17592186044416 then (Za5.l0 k (x6 ++ [t676]) (wrap64 (x7 + 1)) x663000 x663001 x667000 bt672.2.1 bt672.2.2) else (none))) else (if x6.length < 17592186044416 then (Za5.l0 k (x6 ++ [t671]) (wrap64 (x7 + 1)) x663000 x663001 x667000 bt672.2.1 bt672.2.2) else (none))))) else (none)) else (some x6)
def Za5.f (k : Nat) (l0 : List Int) (a1_0 : Int) (l1_1 : List Int) : Option (List Int) := (spec_l00From.f l0).bind fun bt663 => (Za5.l0 k (([] : List Int)) 0 a1_0 l1_1 bt663.1 bt663.2.1 bt663.2.2)
set_option maxHeartbeats 8000000 in
set_option maxRecDepth 100000 in
theorem Za5.calls (k : Nat) (A0 : Option Addr) (c0 : Nat) (l0 : List Int) (a1_0 : Int) (A1_1 : Option Addr) (c1_1 : Nat) (l1_1 : List Int) (r : List Int) (w : World) (hr0 : Kd.C (Kd.int .u8) w A0 l0.length l0) (hc0 : l0.length ≤ c0) (hr1_1 : Kd.C (Kd.int .i64) w A1_1 l1_1.length l1_1) (hc1_1 : l1_1.length ≤ c1_1) (h : Za5.f k l0 a1_0 l1_1 = some r) :
  Calls Try.prog 42 #[.slice A0 l0.length c0, .agg #[.int .i64 a1_0, .slice A1_1 l1_1.length c1_1]] w fun e w' => ∃ v0_ : Value, e = .returned (v0_) ∧ Kd.R (Kd.int .i64) 2 w' w.heap.size (fun _ => True) v0_ r ∧ Below w.heap.size w w' := by
 have hu28 := Try.underlying28
 have HR0 := Zab.mk hr0
 have HC0 := Zab.mk hc0
 clear hr0 hc0
 have HR1_1 := Zab.mk hr1_1
 have HC1_1 := Zab.mk hc1_1
 clear hr1_1 hc1_1
 have HB := Zab.mk (Below.refl w.heap.size w)
 have H : ((spec_l00From.f l0).bind fun bt663 => (Za5.l0 k (([] : List Int)) 0 a1_0 l1_1 bt663.1 bt663.2.1 bt663.2.2)) = some r := h
 clear h
 replace H := Option.bind_eq_some_iff.mp H
 obtain ⟨⟨t663, t664, t665⟩, A30, H⟩ := H
 replace H : (Za5.l0 k (([] : List Int)) 0 a1_0 l1_1 t663 t664 t665) = some r := H
 have A3 := Zab.mk A30
 clear A30
 obtain ⟨y667, hy667⟩ : ∃ y_ : List Int, y_ = (([] : List Int)) := ⟨_, rfl⟩
 replace H : (Za5.l0 k y667 0 a1_0 l1_1 t663 t664 t665) = some r := by first | (rw [hy667]; with_reducible exact H) | (have H2_ := (Option.bind_some _ _).symm.trans H; rw [hy667]; with_reducible exact H2_) | (have H2_ := (Option.bind_some _ _).symm.trans H; with_reducible exact H2_) | with_reducible exact H | (rw [hy667]; exact H) | exact H
 have Ny667 := Zab.mk hy667
 clear hy667
 have H' := Zab.mk H
 clear H
 go_enter Try.func42, Try.ntmps42
 go_wp2_with (first | ((with_reducible refine gate_dst (N := 3) rfl ?_); refine box_event ?hg (N := 3) ?hd (cs := #[.int .i64 a1_0, .slice A1_1 l1_1.length c1_1]) (t := 28) ?hr ?_; (case hd => rfl); (case hg => rfl); (case hr => first | (go_simp; done) | (go_simp; rfl)); intro gb662 hg w4 hbox hb; have n0_ := Zab.mk (Zap (by repeat (first | (with_reducible first | exact HB.out | apply Zad | apply Zaa | apply Zac) | exact HB.out)) hb); have n1_ := Zab.mk (hbox); have n2_ := Zab.mk ((by rw [hg]; exact (Zan (by repeat (first | (with_reducible first | exact HB.out | apply Zad | apply Zaa | apply Zac) | exact HB.out))) : w.heap.size ≤ gb662)); have n3_ := Zab.mk ((by rw [hg]; exact (Zan (by repeat (first | (with_reducible first | exact HB.out | apply Zad | apply Zaa | apply Zac) | exact HB.out))) : w.heap.size ≤ gb662)); clear HB; have HB := n0_; have BK662 := n1_; have GW662 := n2_; have GE662 := n3_; clear n0_ n1_ n2_ n3_; clear hb hbox hg) | (go_at_call 65; (with_reducible refine (spec_l00From.calls _ _ l0 t663 t664 t665 w _ ?side1 ?side2 ?side3 A3.out).mono ?_); (case side1 => repeat (first | (with_reducible first | exact HB.out | apply Zad | apply Zaa | apply Zac | refine Zae ?_ GE662.out) | exact HB.out)); (case side2 => exact HR0.out); (case side3 => exact HC0.out); rintro e w5 ⟨g666, rfl, hi, hb, hb2⟩; have n0_ := Zab.mk (Zaq (g := gb662) (o := .cells #[.int .i64 a1_0, .slice A1_1 l1_1.length c1_1] 28 (0, 0)) (by (with_reducible repeat (first | refine Zag ?_ _ | refine Zah ?_ | refine Zaf ?_ _)); exact BK662.out) hb2); have n1_ := Zab.mk (hb); have n2_ := Zab.mk (hi); have n3_ := Zab.mk (Zal.ne_blk hi (Zaq (g := gb662) (o := .cells #[.int .i64 a1_0, .slice A1_1 l1_1.length c1_1] 28 (0, 0)) (by (with_reducible repeat (first | refine Zag ?_ _ | refine Zah ?_ | refine Zaf ?_ _)); exact BK662.out) hb2) (by decide)); have n4_ := Zab.mk (Ne.symm (Zal.ne_blk hi (Zaq (g := gb662) (o := .cells #[.int .i64 a1_0, .slice A1_1 l1_1.length c1_1] 28 (0, 0)) (by (with_reducible repeat (first | refine Zag ?_ _ | refine Zah ?_ | refine Zaf ?_ _)); exact BK662.out) hb2) (by decide))); clear BK662; clear HB; have BK662 := n0_; have HB := n1_; have HI666 := n2_; have NB666_662 := n3_; have NB662_666 := n4_; clear n0_ n1_ n2_ n3_ n4_; (try clear hb); (try clear hb2); (try clear hk); (try clear hi)) | ((with_reducible refine gate_dst (N := 11) rfl ?_); refine Kd.R_lit (Kd.int .i64) _ 2 ?hg (N := 11) ?hd (xs := ([] : List Int)) (inner := []) (ok := fun _ => True) (okp := fun _ => True) ?hr ?hp (fun _ hk => hk) trivial (Below.refl _ _) (Nat.le_refl _) (by simp) ?_; (case hd => rfl); (case hg => rfl); (case hr => first | (go_simp; done) | (go_simp; rfl)); (case hp => exact (Reps.none _ _)); intro v668 w6 ho7 hb hg_ hnew_; clear hg_ hnew_; (first | rw [← Ny667.out] at ho7 | (simp only [Int.reduceToNat] at ho7; rw [← Ny667.out] at ho7)); have n0_ := Zab.mk (Kd.R_lower ho7 (Zan (by repeat (first | (with_reducible first | exact HB.out | apply Zad | apply Zaa | apply Zac | refine Zae ?_ (Zal.ge HI666.out) | refine Zae ?_ GE662.out) | exact HB.out)))); have n1_ := Zab.mk (Zaq (g := gb662) (o := .cells #[.int .i64 a1_0, .slice A1_1 l1_1.length c1_1] 28 (0, 0)) (by (with_reducible repeat (first | refine Zag ?_ _ | refine Zah ?_ | refine Zaf ?_ _)); exact BK662.out) hb); have n2_ := Zab.mk (Zal.below (by repeat (first | (with_reducible first | exact HI666.out | apply Zal.alloc | apply Zal.drewN | apply Zal.drew | apply Zal.set_1 | apply Zal.set_2 | refine Zal.far ?_ NB666_662.out _) | exact HI666.out)) hb); have n3_ := Zab.mk (Zap (by repeat (first | (with_reducible first | exact HB.out | apply Zad | apply Zaa | apply Zac | refine Zae ?_ (Zal.ge HI666.out) | refine Zae ?_ GE662.out) | exact HB.out)) hb); clear BK662; clear HI666; clear HB; have HO669 := n0_; have BK662 := n1_; have HI666 := n2_; have HB := n3_; clear n0_ n1_ n2_ n3_; clear hb ho7))
 repeat (go_quiet (first | ((with_reducible refine gate_dst (N := 3) rfl ?_); refine box_event ?hg (N := 3) ?hd (cs := #[.int .i64 a1_0, .slice A1_1 l1_1.length c1_1]) (t := 28) ?hr ?_; (case hd => rfl); (case hg => rfl); (case hr => first | (go_simp; done) | (go_simp; rfl)); intro gb662 hg w4 hbox hb; have n0_ := Zab.mk (Zap (by repeat (first | (with_reducible first | exact HB.out | apply Zad | apply Zaa | apply Zac) | exact HB.out)) hb); have n1_ := Zab.mk (hbox); have n2_ := Zab.mk ((by rw [hg]; exact (Zan (by repeat (first | (with_reducible first | exact HB.out | apply Zad | apply Zaa | apply Zac) | exact HB.out))) : w.heap.size ≤ gb662)); have n3_ := Zab.mk ((by rw [hg]; exact (Zan (by repeat (first | (with_reducible first | exact HB.out | apply Zad | apply Zaa | apply Zac) | exact HB.out))) : w.heap.size ≤ gb662)); clear HB; have HB := n0_; have BK662 := n1_; have GW662 := n2_; have GE662 := n3_; clear n0_ n1_ n2_ n3_; clear hb hbox hg) | (go_at_call 65; (with_reducible refine (spec_l00From.calls _ _ l0 t663 t664 t665 w _ ?side1 ?side2 ?side3 A3.out).mono ?_); (case side1 => repeat (first | (with_reducible first | exact HB.out | apply Zad | apply Zaa | apply Zac | refine Zae ?_ GE662.out) | exact HB.out)); (case side2 => exact HR0.out); (case side3 => exact HC0.out); rintro e w5 ⟨g666, rfl, hi, hb, hb2⟩; have n0_ := Zab.mk (Zaq (g := gb662) (o := .cells #[.int .i64 a1_0, .slice A1_1 l1_1.length c1_1] 28 (0, 0)) (by (with_reducible repeat (first | refine Zag ?_ _ | refine Zah ?_ | refine Zaf ?_ _)); exact BK662.out) hb2); have n1_ := Zab.mk (hb); have n2_ := Zab.mk (hi); have n3_ := Zab.mk (Zal.ne_blk hi (Zaq (g := gb662) (o := .cells #[.int .i64 a1_0, .slice A1_1 l1_1.length c1_1] 28 (0, 0)) (by (with_reducible repeat (first | refine Zag ?_ _ | refine Zah ?_ | refine Zaf ?_ _)); exact BK662.out) hb2) (by decide)); have n4_ := Zab.mk (Ne.symm (Zal.ne_blk hi (Zaq (g := gb662) (o := .cells #[.int .i64 a1_0, .slice A1_1 l1_1.length c1_1] 28 (0, 0)) (by (with_reducible repeat (first | refine Zag ?_ _ | refine Zah ?_ | refine Zaf ?_ _)); exact BK662.out) hb2) (by decide))); clear BK662; clear HB; have BK662 := n0_; have HB := n1_; have HI666 := n2_; have NB666_662 := n3_; have NB662_666 := n4_; clear n0_ n1_ n2_ n3_ n4_; (try clear hb); (try clear hb2); (try clear hk); (try clear hi)) | ((with_reducible refine gate_dst (N := 11) rfl ?_); refine Kd.R_lit (Kd.int .i64) _ 2 ?hg (N := 11) ?hd (xs := ([] : List Int)) (inner := []) (ok := fun _ => True) (okp := fun _ => True) ?hr ?hp (fun _ hk => hk) trivial (Below.refl _ _) (Nat.le_refl _) (by simp) ?_; (case hd => rfl); (case hg => rfl); (case hr => first | (go_simp; done) | (go_simp; rfl)); (case hp => exact (Reps.none _ _)); intro v668 w6 ho7 hb hg_ hnew_; clear hg_ hnew_; (first | rw [← Ny667.out] at ho7 | (simp only [Int.reduceToNat] at ho7; rw [← Ny667.out] at ho7)); have n0_ := Zab.mk (Kd.R_lower ho7 (Zan (by repeat (first | (with_reducible first | exact HB.out | apply Zad | apply Zaa | apply Zac | refine Zae ?_ (Zal.ge HI666.out) | refine Zae ?_ GE662.out) | exact HB.out)))); have n1_ := Zab.mk (Zaq (g := gb662) (o := .cells #[.int .i64 a1_0, .slice A1_1 l1_1.length c1_1] 28 (0, 0)) (by (with_reducible repeat (first | refine Zag ?_ _ | refine Zah ?_ | refine Zaf ?_ _)); exact BK662.out) hb); have n2_ := Zab.mk (Zal.below (by repeat (first | (with_reducible first | exact HI666.out | apply Zal.alloc | apply Zal.drewN | apply Zal.drew | apply Zal.set_1 | apply Zal.set_2 | refine Zal.far ?_ NB666_662.out _) | exact HI666.out)) hb); have n3_ := Zab.mk (Zap (by repeat (first | (with_reducible first | exact HB.out | apply Zad | apply Zaa | apply Zac | refine Zae ?_ (Zal.ge HI666.out) | refine Zae ?_ GE662.out) | exact HB.out)) hb); clear BK662; clear HI666; clear HB; have HO669 := n0_; have BK662 := n1_; have HI666 := n2_; have HB := n3_; clear n0_ n1_ n2_ n3_; clear hb ho7)); try go_wp2_with (first | ((with_reducible refine gate_dst (N := 3) rfl ?_); refine box_event ?hg (N := 3) ?hd (cs := #[.int .i64 a1_0, .slice A1_1 l1_1.length c1_1]) (t := 28) ?hr ?_; (case hd => rfl); (case hg => rfl); (case hr => first | (go_simp; done) | (go_simp; rfl)); intro gb662 hg w4 hbox hb; have n0_ := Zab.mk (Zap (by repeat (first | (with_reducible first | exact HB.out | apply Zad | apply Zaa | apply Zac) | exact HB.out)) hb); have n1_ := Zab.mk (hbox); have n2_ := Zab.mk ((by rw [hg]; exact (Zan (by repeat (first | (with_reducible first | exact HB.out | apply Zad | apply Zaa | apply Zac) | exact HB.out))) : w.heap.size ≤ gb662)); have n3_ := Zab.mk ((by rw [hg]; exact (Zan (by repeat (first | (with_reducible first | exact HB.out | apply Zad | apply Zaa | apply Zac) | exact HB.out))) : w.heap.size ≤ gb662)); clear HB; have HB := n0_; have BK662 := n1_; have GW662 := n2_; have GE662 := n3_; clear n0_ n1_ n2_ n3_; clear hb hbox hg) | (go_at_call 65; (with_reducible refine (spec_l00From.calls _ _ l0 t663 t664 t665 w _ ?side1 ?side2 ?side3 A3.out).mono ?_); (case side1 => repeat (first | (with_reducible first | exact HB.out | apply Zad | apply Zaa | apply Zac | refine Zae ?_ GE662.out) | exact HB.out)); (case side2 => exact HR0.out); (case side3 => exact HC0.out); rintro e w5 ⟨g666, rfl, hi, hb, hb2⟩; have n0_ := Zab.mk (Zaq (g := gb662) (o := .cells #[.int .i64 a1_0, .slice A1_1 l1_1.length c1_1] 28 (0, 0)) (by (with_reducible repeat (first | refine Zag ?_ _ | refine Zah ?_ | refine Zaf ?_ _)); exact BK662.out) hb2); have n1_ := Zab.mk (hb); have n2_ := Zab.mk (hi); have n3_ := Zab.mk (Zal.ne_blk hi (Zaq (g := gb662) (o := .cells #[.int .i64 a1_0, .slice A1_1 l1_1.length c1_1] 28 (0, 0)) (by (with_reducible repeat (first | refine Zag ?_ _ | refine Zah ?_ | refine Zaf ?_ _)); exact BK662.out) hb2) (by decide)); have n4_ := Zab.mk (Ne.symm (Zal.ne_blk hi (Zaq (g := gb662) (o := .cells #[.int .i64 a1_0, .slice A1_1 l1_1.length c1_1] 28 (0, 0)) (by (with_reducible repeat (first | refine Zag ?_ _ | refine Zah ?_ | refine Zaf ?_ _)); exact BK662.out) hb2) (by decide))); clear BK662; clear HB; have BK662 := n0_; have HB := n1_; have HI666 := n2_; have NB666_662 := n3_; have NB662_666 := n4_; clear n0_ n1_ n2_ n3_ n4_; (try clear hb); (try clear hb2); (try clear hk); (try clear hi)) | ((with_reducible refine gate_dst (N := 11) rfl ?_); refine Kd.R_lit (Kd.int .i64) _ 2 ?hg (N := 11) ?hd (xs := ([] : List Int)) (inner := []) (ok := fun _ => True) (okp := fun _ => True) ?hr ?hp (fun _ hk => hk) trivial (Below.refl _ _) (Nat.le_refl _) (by simp) ?_; (case hd => rfl); (case hg => rfl); (case hr => first | (go_simp; done) | (go_simp; rfl)); (case hp => exact (Reps.none _ _)); intro v668 w6 ho7 hb hg_ hnew_; clear hg_ hnew_; (first | rw [← Ny667.out] at ho7 | (simp only [Int.reduceToNat] at ho7; rw [← Ny667.out] at ho7)); have n0_ := Zab.mk (Kd.R_lower ho7 (Zan (by repeat (first | (with_reducible first | exact HB.out | apply Zad | apply Zaa | apply Zac | refine Zae ?_ (Zal.ge HI666.out) | refine Zae ?_ GE662.out) | exact HB.out)))); have n1_ := Zab.mk (Zaq (g := gb662) (o := .cells #[.int .i64 a1_0, .slice A1_1 l1_1.length c1_1] 28 (0, 0)) (by (with_reducible repeat (first | refine Zag ?_ _ | refine Zah ?_ | refine Zaf ?_ _)); exact BK662.out) hb); have n2_ := Zab.mk (Zal.below (by repeat (first | (with_reducible first | exact HI666.out | apply Zal.alloc | apply Zal.drewN | apply Zal.drew | apply Zal.set_1 | apply Zal.set_2 | refine Zal.far ?_ NB666_662.out _) | exact HI666.out)) hb); have n3_ := Zab.mk (Zap (by repeat (first | (with_reducible first | exact HB.out | apply Zad | apply Zaa | apply Zac | refine Zae ?_ (Zal.ge HI666.out) | refine Zae ?_ GE662.out) | exact HB.out)) hb); clear BK662; clear HI666; clear HB; have HO669 := n0_; have BK662 := n1_; have HI666 := n2_; have HB := n3_; clear n0_ n1_ n2_ n3_; clear hb ho7)))
 go_loopg [6, 7] k (fun kq v6 v7 w' => ∃ (x6_1 : List Int) (x7_1 : Int) (x667001_1 : Int) (x667002_1 : Int), v7 = .int .i64 x7_1 ∧ Zab (Za5.l0 kq x6_1 x7_1 a1_0 l1_1 t663 x667001_1 x667002_1 = some r) ∧ Zab (kq ≤ k) ∧ Zab (Kd.R (Kd.int .i64) 2 w' w.heap.size (fun _ => True) v6 x6_1) ∧ Zab (w'.heap[gb662]? = some (.cells #[.int .i64 a1_0, (.slice A1_1 l1_1.length c1_1)] 28 (0, 0))) ∧ Zab (Zal w w' g666 t663 x667001_1 x667002_1) ∧ Zab (Below w.heap.size w w'))
 case atStart => exact ⟨(y667), (0), (t664), (t665), (by first | rfl | (simp; done) | (simp [*]; done) | (simp [IntWalk.i64_left, *]; done)), H', ⟨Nat.le_refl _⟩, ⟨by (with_reducible repeat (first | apply Kd.R_alloc | apply Kd.R_drewN | apply Kd.R_drew)); exact HO669.out⟩, ⟨by (with_reducible repeat (first | refine Zag ?_ _ | refine Zah ?_ | refine Zaf ?_ _)); exact BK662.out⟩, ⟨by repeat (first | (with_reducible first | exact HI666.out | apply Zal.alloc | apply Zal.drewN | apply Zal.drew | apply Zal.set_1 | apply Zal.set_2 | refine Zal.far ?_ NB666_662.out _) | exact HI666.out)⟩, ⟨by repeat (first | (with_reducible first | exact HB.out | apply Zad | apply Zaa | apply Zac | refine Zae ?_ (Zal.ge HI666.out) | refine Zae ?_ GE662.out) | exact HB.out)⟩⟩
 case round =>
  clear H'
  try clear c1
  try clear p2
  try clear c4
  obtain ⟨x6_1, x7_1, x667001_1, x667002_1, rfl, HA, HK1, HO_6, BK662, HI666, HB⟩ := hrel
  cases gk with
  | zero => exact absurd HA.out (by simp [Za5.l0])
  | succ k1 =>
   have H := HA.out
   clear HA
   simp only [Za5.l0] at H
   by_cases c8 : x7_1 < (l1_1.length : Int)
   ·rw [if_pos c8] at H
    have c8b0 : decide (x7_1 < (l1_1.length : Int)) = true := decide_eq_true c8
    clear c8
    by_cases c9 : 0 ≤ x7_1
    ·rw [if_pos c9] at H
     have c9b0 : decide (0 ≤ x7_1) = true := decide_eq_true c9
     clear c9
     replace H := Option.bind_eq_some_iff.mp H
     obtain ⟨t671, A100, H⟩ := H
     replace H : ((spec_l00Src_one.f t663 x667001_1 x667002_1 2).bind fun bt672 => (if bt672.1 = true then ((spec_l01Ceil.f (rd l1_1 x7_1) a1_0).bind fun t676 => (if x6_1.length < 17592186044416 then (Za5.l0 k1 (x6_1 ++ [t676]) (wrap64 (x7_1 + 1)) a1_0 l1_1 t663 bt672.2.1 bt672.2.2) else (none))) else (if x6_1.length < 17592186044416 then (Za5.l0 k1 (x6_1 ++ [t671]) (wrap64 (x7_1 + 1)) a1_0 l1_1 t663 bt672.2.1 bt672.2.2) else (none)))) = some r := H
     have A10 := Zab.mk A100
     clear A100
     replace H := Option.bind_eq_some_iff.mp H
     obtain ⟨⟨t672, t673, t674⟩, A110, H⟩ := H
     replace H : (if t672 = true then ((spec_l01Ceil.f (rd l1_1 x7_1) a1_0).bind fun t676 => (if x6_1.length < 17592186044416 then (Za5.l0 k1 (x6_1 ++ [t676]) (wrap64 (x7_1 + 1)) a1_0 l1_1 t663 t673 t674) else (none))) else (if x6_1.length < 17592186044416 then (Za5.l0 k1 (x6_1 ++ [t671]) (wrap64 (x7_1 + 1)) a1_0 l1_1 t663 t673 t674) else (none))) = some r := H
     have A11 := Zab.mk A110
     clear A110
     by_cases c12 : t672 = true
     ·subst c12
      have H1 : ((spec_l01Ceil.f (rd l1_1 x7_1) a1_0).bind fun t676 => (if x6_1.length < 17592186044416 then (Za5.l0 k1 (x6_1 ++ [t676]) (wrap64 (x7_1 + 1)) a1_0 l1_1 t663 t673 t674) else (none))) = some r := by rw [if_pos rfl] at H; exact H
      clear H
      have H := H1
      clear H1
      replace H := Option.bind_eq_some_iff.mp H
      obtain ⟨t676, A130, H⟩ := H
      replace H : (if x6_1.length < 17592186044416 then (Za5.l0 k1 (x6_1 ++ [t676]) (wrap64 (x7_1 + 1)) a1_0 l1_1 t663 t673 t674) else (none)) = some r := H
      have A13 := Zab.mk A130
      clear A130
      by_cases c14 : x6_1.length < 17592186044416
      ·rw [if_pos c14] at H
       have LMc14 := Zab.mk c14
       clear c14
       obtain ⟨y677, hy677⟩ : ∃ y_ : List Int, y_ = (x6_1 ++ [t676]) := ⟨_, rfl⟩
       replace H : (Za5.l0 k1 y677 (wrap64 (x7_1 + 1)) a1_0 l1_1 t663 t673 t674) = some r := by first | (rw [hy677]; with_reducible exact H) | (have H2_ := (Option.bind_some _ _).symm.trans H; rw [hy677]; with_reducible exact H2_) | (have H2_ := (Option.bind_some _ _).symm.trans H; with_reducible exact H2_) | with_reducible exact H | (rw [hy677]; exact H) | exact H
       have Ny677 := Zab.mk hy677
       clear hy677
       have H' := Zab.mk H
       clear H
       have hnb15 := NB662_666.out
       have hnc15 := NB666_662.out
       have hcz16_0 : wr.cell? ⟨gb662, 0, none⟩ = some (.int .i64 a1_0) := (Zaj BK662.out 0).trans rfl
       have hcz16_1 : wr.cell? ⟨gb662, 1, none⟩ = some (.slice A1_1 l1_1.length c1_1) := (Zaj BK662.out 1).trans rfl
       have hfz16_0 := Zak BK662.out 0
       have hfz16_1 := Zak BK662.out 1
       have p670 : 0 ≤ (x7_1 : Int) := of_decide_eq_true (by first | (with_reducible assumption) | assumption)
       have q670 : x7_1 < (l1_1.length : Int) := of_decide_eq_true (by first | (with_reducible assumption) | assumption)
       obtain ⟨ad670, e670, hx670_0⟩ := Kd.at_int HR1_1.out x7_1 p670 q670
       cases e670
       replace hx670_0 := (HB.out.cell (World.block_lt_of_cell? w _ hx670_0)).trans hx670_0
       replace p670 := eq_true p670
       replace q670 := eq_true q670
       go_wp2_with (first | (go_at_call 85; (with_reducible refine (spec_l01Floor.calls (rd l1_1 x7_1) a1_0 t671 _ A10.out).mono ?_); rintro e w' ⟨rfl, ⟨nd, rfl⟩⟩; (try first | exact ⟨rfl, _, World.drewN_drewN _ _ _⟩ | exact ⟨rfl, _, Eq.trans (World.drewN_drewN _ _ _) (congrArg (World.drewN _) (Nat.add_assoc _ _ _))⟩)) | (go_at_call 86; (with_reducible refine (spec_l00Src_one.calls g666 t663 x667001_1 x667002_1 2 true t673 t674 w _ ?side1 ?side2 A11.out).mono ?_); (case side1 => repeat (first | (with_reducible first | exact HI666.out | apply Zal.alloc | apply Zal.drewN | apply Zal.drew | apply Zal.set_1 | apply Zal.set_2 | refine Zal.far ?_ NB666_662.out _) | exact HI666.out)); (case side2 => repeat (first | (with_reducible first | exact HB.out | apply Zad | apply Zaa | apply Zac | refine Zae ?_ (Zal.ge HI666.out) | refine Zae ?_ GE662.out) | exact HB.out)); rintro e w17 ⟨rfl, hi, hb, hk⟩; have n0_ := Zab.mk (Kd.R_mono (Kd.R_keep (Zal.apart (show Zal w _ g666 t663 x667001_1 x667002_1 from by repeat (first | (with_reducible first | exact HI666.out | apply Zal.alloc | apply Zal.drewN | apply Zal.drew | apply Zal.set_1 | apply Zal.set_2 | refine Zal.far ?_ NB666_662.out _) | exact HI666.out)) (by (with_reducible repeat (first | apply Kd.R_alloc | apply Kd.R_drewN | apply Kd.R_drew)); exact HO_6.out) (by decide)) hk (fun _ h => h.2)) (fun _ h => h.1)); have n1_ := Zab.mk (KeepBut.blk hk (g' := gb662) (o := .cells #[.int .i64 a1_0, .slice (some ad670) l1_1.length c1_1] 28 (0, 0)) (by (with_reducible repeat (first | refine Zag ?_ _ | refine Zah ?_ | refine Zaf ?_ _)); exact BK662.out) NB662_666.out (by simp)); have n2_ := Zab.mk (hb); have n3_ := Zab.mk (hi); clear HO_6; clear BK662; clear HB; clear HI666; have HO_6 := n0_; have BK662 := n1_; have HB := n2_; have HI666 := n3_; clear n0_ n1_ n2_ n3_; (try clear hb); (try clear hb2); (try clear hk); (try clear hi); have hcz18_0 : w17.cell? ⟨gb662, 0, none⟩ = some (.int .i64 a1_0) := (Zaj BK662.out 0).trans rfl; have hcz18_1 : w17.cell? ⟨gb662, 1, none⟩ = some (.slice (some ad670) l1_1.length c1_1) := (Zaj BK662.out 1).trans rfl; have hfz18_0 := Zak BK662.out 0; have hfz18_1 := Zak BK662.out 1; have p675 : 0 ≤ (x7_1 : Int) := of_decide_eq_true (by first | (with_reducible assumption) | assumption); have q675 : x7_1 < (l1_1.length : Int) := of_decide_eq_true (by first | (with_reducible assumption) | assumption); obtain ⟨ad675, e675, hx675_0⟩ := Kd.at_int HR1_1.out x7_1 p675 q675; obtain rfl : ad670 = ad675 := (by injection e675); replace hx675_0 := (HB.out.cell (World.block_lt_of_cell? w _ hx675_0)).trans hx675_0; replace p675 := eq_true p675; replace q675 := eq_true q675) | (go_at_call 87; (with_reducible refine (spec_l01Ceil.calls (rd l1_1 x7_1) a1_0 t676 _ A13.out).mono ?_); rintro e w' ⟨rfl, ⟨nd, rfl⟩⟩; (try first | exact ⟨rfl, _, World.drewN_drewN _ _ _⟩ | exact ⟨rfl, _, Eq.trans (World.drewN_drewN _ _ _) (congrArg (World.drewN _) (Nat.add_assoc _ _ _))⟩)) | ((with_reducible refine gate_builtin (b := .append) (xs := #[.tmp 37, .tmp 39]) rfl ?_); at_builtin; refine Kd.R_append (Kd.int .i64) (w0 := w) w.heap.size rfl (.tmp 37) (.tmp 39) 22 2 (.int .i64 0) 8 rfl Try.underlying22 info2 rfl (by decide) (by omega) u6 x6_1 t676 [.int .i64 t676] (fun _ => True) (fun _ => False) rfl rfl ?aP (fun _ hk => hk.elim) ?aF ?aO ?aB ?aS ?aL ?_; (case aP => exact rfl); (case aB => exact (by repeat (first | (with_reducible first | exact HB.out | apply Zad | apply Zaa | apply Zac | refine Zae ?_ (Zal.ge HI666.out) | refine Zae ?_ GE662.out) | exact HB.out))); (case aF => exact (fun _ _ => trivial)); (case aO => exact (by (with_reducible repeat (first | apply Kd.R_alloc | apply Kd.R_drewN | apply Kd.R_drew)); exact HO_6.out)); (case aS => exact (Zan (by repeat (first | (with_reducible first | exact HB.out | apply Zad | apply Zaa | apply Zac | refine Zae ?_ (Zal.ge HI666.out) | refine Zae ?_ GE662.out) | exact HB.out)))); (case aL => have := LMc14.out; omega); intro v678 w19 ho hb hg hat; rw [← Ny677.out] at ho; have n0_ := Zab.mk (blk_grown (g := gb662) (o := .cells #[.int .i64 a1_0, .slice (some ad670) l1_1.length c1_1] 28 (0, 0)) (by (with_reducible repeat (first | refine Zag ?_ _ | refine Zah ?_ | refine Zaf ?_ _)); exact BK662.out) hg (Kd.R_ne HO_6.out BK662.out (by decide))); have n1_ := Zab.mk (Zal.grown (by repeat (first | (with_reducible first | exact HI666.out | apply Zal.alloc | apply Zal.drewN | apply Zal.drew | apply Zal.set_1 | apply Zal.set_2 | refine Zal.far ?_ NB666_662.out _) | exact HI666.out)) hg (Zal.own_ne HI666.out HO_6.out (by decide))); have n2_ := Zab.mk (hb); have n3_ := Zab.mk (ho); clear BK662; clear HI666; clear HB; clear HO_6; have BK662 := n0_; have HI666 := n1_; have HB := n2_; have HO679 := n3_; clear n0_ n1_ n2_ n3_; clear ho hb hg hat))
       repeat (go_quiet (first | (go_at_call 85; (with_reducible refine (spec_l01Floor.calls (rd l1_1 x7_1) a1_0 t671 _ A10.out).mono ?_); rintro e w' ⟨rfl, ⟨nd, rfl⟩⟩; (try first | exact ⟨rfl, _, World.drewN_drewN _ _ _⟩ | exact ⟨rfl, _, Eq.trans (World.drewN_drewN _ _ _) (congrArg (World.drewN _) (Nat.add_assoc _ _ _))⟩)) | (go_at_call 86; (with_reducible refine (spec_l00Src_one.calls g666 t663 x667001_1 x667002_1 2 true t673 t674 w _ ?side1 ?side2 A11.out).mono ?_); (case side1 => repeat (first | (with_reducible first | exact HI666.out | apply Zal.alloc | apply Zal.drewN | apply Zal.drew | apply Zal.set_1 | apply Zal.set_2 | refine Zal.far ?_ NB666_662.out _) | exact HI666.out)); (case side2 => repeat (first | (with_reducible first | exact HB.out | apply Zad | apply Zaa | apply Zac | refine Zae ?_ (Zal.ge HI666.out) | refine Zae ?_ GE662.out) | exact HB.out)); rintro e w17 ⟨rfl, hi, hb, hk⟩; have n0_ := Zab.mk (Kd.R_mono (Kd.R_keep (Zal.apart (show Zal w _ g666 t663 x667001_1 x667002_1 from by repeat (first | (with_reducible first | exact HI666.out | apply Zal.alloc | apply Zal.drewN | apply Zal.drew | apply Zal.set_1 | apply Zal.set_2 | refine Zal.far ?_ NB666_662.out _) | exact HI666.out)) (by (with_reducible repeat (first | apply Kd.R_alloc | apply Kd.R_drewN | apply Kd.R_drew)); exact HO_6.out) (by decide)) hk (fun _ h => h.2)) (fun _ h => h.1)); have n1_ := Zab.mk (KeepBut.blk hk (g' := gb662) (o := .cells #[.int .i64 a1_0, .slice (some ad670) l1_1.length c1_1] 28 (0, 0)) (by (with_reducible repeat (first | refine Zag ?_ _ | refine Zah ?_ | refine Zaf ?_ _)); exact BK662.out) NB662_666.out (by simp)); have n2_ := Zab.mk (hb); have n3_ := Zab.mk (hi); clear HO_6; clear BK662; clear HB; clear HI666; have HO_6 := n0_; have BK662 := n1_; have HB := n2_; have HI666 := n3_; clear n0_ n1_ n2_ n3_; (try clear hb); (try clear hb2); (try clear hk); (try clear hi); have hcz18_0 : w17.cell? ⟨gb662, 0, none⟩ = some (.int .i64 a1_0) := (Zaj BK662.out 0).trans rfl; have hcz18_1 : w17.cell? ⟨gb662, 1, none⟩ = some (.slice (some ad670) l1_1.length c1_1) := (Zaj BK662.out 1).trans rfl; have hfz18_0 := Zak BK662.out 0; have hfz18_1 := Zak BK662.out 1; have p675 : 0 ≤ (x7_1 : Int) := of_decide_eq_true (by first | (with_reducible assumption) | assumption); have q675 : x7_1 < (l1_1.length : Int) := of_decide_eq_true (by first | (with_reducible assumption) | assumption); obtain ⟨ad675, e675, hx675_0⟩ := Kd.at_int HR1_1.out x7_1 p675 q675; obtain rfl : ad670 = ad675 := (by injection e675); replace hx675_0 := (HB.out.cell (World.block_lt_of_cell? w _ hx675_0)).trans hx675_0; replace p675 := eq_true p675; replace q675 := eq_true q675) | (go_at_call 87; (with_reducible refine (spec_l01Ceil.calls (rd l1_1 x7_1) a1_0 t676 _ A13.out).mono ?_); rintro e w' ⟨rfl, ⟨nd, rfl⟩⟩; (try first | exact ⟨rfl, _, World.drewN_drewN _ _ _⟩ | exact ⟨rfl, _, Eq.trans (World.drewN_drewN _ _ _) (congrArg (World.drewN _) (Nat.add_assoc _ _ _))⟩)) | ((with_reducible refine gate_builtin (b := .append) (xs := #[.tmp 37, .tmp 39]) rfl ?_); at_builtin; refine Kd.R_append (Kd.int .i64) (w0 := w) w.heap.size rfl (.tmp 37) (.tmp 39) 22 2 (.int .i64 0) 8 rfl Try.underlying22 info2 rfl (by decide) (by omega) u6 x6_1 t676 [.int .i64 t676] (fun _ => True) (fun _ => False) rfl rfl ?aP (fun _ hk => hk.elim) ?aF ?aO ?aB ?aS ?aL ?_; (case aP => exact rfl); (case aB => exact (by repeat (first | (with_reducible first | exact HB.out | apply Zad | apply Zaa | apply Zac | refine Zae ?_ (Zal.ge HI666.out) | refine Zae ?_ GE662.out) | exact HB.out))); (case aF => exact (fun _ _ => trivial)); (case aO => exact (by (with_reducible repeat (first | apply Kd.R_alloc | apply Kd.R_drewN | apply Kd.R_drew)); exact HO_6.out)); (case aS => exact (Zan (by repeat (first | (with_reducible first | exact HB.out | apply Zad | apply Zaa | apply Zac | refine Zae ?_ (Zal.ge HI666.out) | refine Zae ?_ GE662.out) | exact HB.out)))); (case aL => have := LMc14.out; omega); intro v678 w19 ho hb hg hat; rw [← Ny677.out] at ho; have n0_ := Zab.mk (blk_grown (g := gb662) (o := .cells #[.int .i64 a1_0, .slice (some ad670) l1_1.length c1_1] 28 (0, 0)) (by (with_reducible repeat (first | refine Zag ?_ _ | refine Zah ?_ | refine Zaf ?_ _)); exact BK662.out) hg (Kd.R_ne HO_6.out BK662.out (by decide))); have n1_ := Zab.mk (Zal.grown (by repeat (first | (with_reducible first | exact HI666.out | apply Zal.alloc | apply Zal.drewN | apply Zal.drew | apply Zal.set_1 | apply Zal.set_2 | refine Zal.far ?_ NB666_662.out _) | exact HI666.out)) hg (Zal.own_ne HI666.out HO_6.out (by decide))); have n2_ := Zab.mk (hb); have n3_ := Zab.mk (ho); clear BK662; clear HI666; clear HB; clear HO_6; have BK662 := n0_; have HI666 := n1_; have HB := n2_; have HO679 := n3_; clear n0_ n1_ n2_ n3_; clear ho hb hg hat)); try go_wp2_with (first | (go_at_call 85; (with_reducible refine (spec_l01Floor.calls (rd l1_1 x7_1) a1_0 t671 _ A10.out).mono ?_); rintro e w' ⟨rfl, ⟨nd, rfl⟩⟩; (try first | exact ⟨rfl, _, World.drewN_drewN _ _ _⟩ | exact ⟨rfl, _, Eq.trans (World.drewN_drewN _ _ _) (congrArg (World.drewN _) (Nat.add_assoc _ _ _))⟩)) | (go_at_call 86; (with_reducible refine (spec_l00Src_one.calls g666 t663 x667001_1 x667002_1 2 true t673 t674 w _ ?side1 ?side2 A11.out).mono ?_); (case side1 => repeat (first | (with_reducible first | exact HI666.out | apply Zal.alloc | apply Zal.drewN | apply Zal.drew | apply Zal.set_1 | apply Zal.set_2 | refine Zal.far ?_ NB666_662.out _) | exact HI666.out)); (case side2 => repeat (first | (with_reducible first | exact HB.out | apply Zad | apply Zaa | apply Zac | refine Zae ?_ (Zal.ge HI666.out) | refine Zae ?_ GE662.out) | exact HB.out)); rintro e w17 ⟨rfl, hi, hb, hk⟩; have n0_ := Zab.mk (Kd.R_mono (Kd.R_keep (Zal.apart (show Zal w _ g666 t663 x667001_1 x667002_1 from by repeat (first | (with_reducible first | exact HI666.out | apply Zal.alloc | apply Zal.drewN | apply Zal.drew | apply Zal.set_1 | apply Zal.set_2 | refine Zal.far ?_ NB666_662.out _) | exact HI666.out)) (by (with_reducible repeat (first | apply Kd.R_alloc | apply Kd.R_drewN | apply Kd.R_drew)); exact HO_6.out) (by decide)) hk (fun _ h => h.2)) (fun _ h => h.1)); have n1_ := Zab.mk (KeepBut.blk hk (g' := gb662) (o := .cells #[.int .i64 a1_0, .slice (some ad670) l1_1.length c1_1] 28 (0, 0)) (by (with_reducible repeat (first | refine Zag ?_ _ | refine Zah ?_ | refine Zaf ?_ _)); exact BK662.out) NB662_666.out (by simp)); have n2_ := Zab.mk (hb); have n3_ := Zab.mk (hi); clear HO_6; clear BK662; clear HB; clear HI666; have HO_6 := n0_; have BK662 := n1_; have HB := n2_; have HI666 := n3_; clear n0_ n1_ n2_ n3_; (try clear hb); (try clear hb2); (try clear hk); (try clear hi); have hcz18_0 : w17.cell? ⟨gb662, 0, none⟩ = some (.int .i64 a1_0) := (Zaj BK662.out 0).trans rfl; have hcz18_1 : w17.cell? ⟨gb662, 1, none⟩ = some (.slice (some ad670) l1_1.length c1_1) := (Zaj BK662.out 1).trans rfl; have hfz18_0 := Zak BK662.out 0; have hfz18_1 := Zak BK662.out 1; have p675 : 0 ≤ (x7_1 : Int) := of_decide_eq_true (by first | (with_reducible assumption) | assumption); have q675 : x7_1 < (l1_1.length : Int) := of_decide_eq_true (by first | (with_reducible assumption) | assumption); obtain ⟨ad675, e675, hx675_0⟩ := Kd.at_int HR1_1.out x7_1 p675 q675; obtain rfl : ad670 = ad675 := (by injection e675); replace hx675_0 := (HB.out.cell (World.block_lt_of_cell? w _ hx675_0)).trans hx675_0; replace p675 := eq_true p675; replace q675 := eq_true q675) | (go_at_call 87; (with_reducible refine (spec_l01Ceil.calls (rd l1_1 x7_1) a1_0 t676 _ A13.out).mono ?_); rintro e w' ⟨rfl, ⟨nd, rfl⟩⟩; (try first | exact ⟨rfl, _, World.drewN_drewN _ _ _⟩ | exact ⟨rfl, _, Eq.trans (World.drewN_drewN _ _ _) (congrArg (World.drewN _) (Nat.add_assoc _ _ _))⟩)) | ((with_reducible refine gate_builtin (b := .append) (xs := #[.tmp 37, .tmp 39]) rfl ?_); at_builtin; refine Kd.R_append (Kd.int .i64) (w0 := w) w.heap.size rfl (.tmp 37) (.tmp 39) 22 2 (.int .i64 0) 8 rfl Try.underlying22 info2 rfl (by decide) (by omega) u6 x6_1 t676 [.int .i64 t676] (fun _ => True) (fun _ => False) rfl rfl ?aP (fun _ hk => hk.elim) ?aF ?aO ?aB ?aS ?aL ?_; (case aP => exact rfl); (case aB => exact (by repeat (first | (with_reducible first | exact HB.out | apply Zad | apply Zaa | apply Zac | refine Zae ?_ (Zal.ge HI666.out) | refine Zae ?_ GE662.out) | exact HB.out))); (case aF => exact (fun _ _ => trivial)); (case aO => exact (by (with_reducible repeat (first | apply Kd.R_alloc | apply Kd.R_drewN | apply Kd.R_drew)); exact HO_6.out)); (case aS => exact (Zan (by repeat (first | (with_reducible first | exact HB.out | apply Zad | apply Zaa | apply Zac | refine Zae ?_ (Zal.ge HI666.out) | refine Zae ?_ GE662.out) | exact HB.out)))); (case aL => have := LMc14.out; omega); intro v678 w19 ho hb hg hat; rw [← Ny677.out] at ho; have n0_ := Zab.mk (blk_grown (g := gb662) (o := .cells #[.int .i64 a1_0, .slice (some ad670) l1_1.length c1_1] 28 (0, 0)) (by (with_reducible repeat (first | refine Zag ?_ _ | refine Zah ?_ | refine Zaf ?_ _)); exact BK662.out) hg (Kd.R_ne HO_6.out BK662.out (by decide))); have n1_ := Zab.mk (Zal.grown (by repeat (first | (with_reducible first | exact HI666.out | apply Zal.alloc | apply Zal.drewN | apply Zal.drew | apply Zal.set_1 | apply Zal.set_2 | refine Zal.far ?_ NB666_662.out _) | exact HI666.out)) hg (Zal.own_ne HI666.out HO_6.out (by decide))); have n2_ := Zab.mk (hb); have n3_ := Zab.mk (ho); clear BK662; clear HI666; clear HB; clear HO_6; have BK662 := n0_; have HI666 := n1_; have HB := n2_; have HO679 := n3_; clear n0_ n1_ n2_ n3_; clear ho hb hg hat)))
       go_roundg k1
       case measure => have := HK1.out; omega
       case rel => exact ⟨(y677), (wrap64 (x7_1 + 1)), (t673), (t674), (by first | rfl | (simp; done) | (simp [*]; done) | (simp [IntWalk.i64_left, *]; done)), H', ⟨by have := HK1.out; omega⟩, ⟨by (with_reducible repeat (first | apply Kd.R_alloc | apply Kd.R_drewN | apply Kd.R_drew)); exact HO679.out⟩, ⟨by (with_reducible repeat (first | refine Zag ?_ _ | refine Zah ?_ | refine Zaf ?_ _)); exact BK662.out⟩, ⟨by repeat (first | (with_reducible first | exact HI666.out | apply Zal.alloc | apply Zal.drewN | apply Zal.drew | apply Zal.set_1 | apply Zal.set_2 | refine Zal.far ?_ NB666_662.out _) | exact HI666.out)⟩, ⟨by repeat (first | (with_reducible first | exact HB.out | apply Zad | apply Zaa | apply Zac | refine Zae ?_ (Zal.ge HI666.out) | refine Zae ?_ GE662.out) | exact HB.out)⟩⟩
      ·rw [if_neg c14] at H
       exact absurd H (by simp)
     ·replace c12 := Bool.eq_false_iff.mpr c12
      subst c12
      have H1 : (if x6_1.length < 17592186044416 then (Za5.l0 k1 (x6_1 ++ [t671]) (wrap64 (x7_1 + 1)) a1_0 l1_1 t663 t673 t674) else (none)) = some r := by rw [if_neg (show ¬ (false = true) by decide)] at H; exact H
      clear H
      have H := H1
      clear H1
      by_cases c20 : x6_1.length < 17592186044416
      ·rw [if_pos c20] at H
       have LMc20 := Zab.mk c20
       clear c20
       obtain ⟨y680, hy680⟩ : ∃ y_ : List Int, y_ = (x6_1 ++ [t671]) := ⟨_, rfl⟩
       replace H : (Za5.l0 k1 y680 (wrap64 (x7_1 + 1)) a1_0 l1_1 t663 t673 t674) = some r := by first | (rw [hy680]; with_reducible exact H) | (have H2_ := (Option.bind_some _ _).symm.trans H; rw [hy680]; with_reducible exact H2_) | (have H2_ := (Option.bind_some _ _).symm.trans H; with_reducible exact H2_) | with_reducible exact H | (rw [hy680]; exact H) | exact H
       have Ny680 := Zab.mk hy680
       clear hy680
       have H' := Zab.mk H
       clear H
       have hnb21 := NB662_666.out
       have hnc21 := NB666_662.out
       have hcz22_0 : wr.cell? ⟨gb662, 0, none⟩ = some (.int .i64 a1_0) := (Zaj BK662.out 0).trans rfl
       have hcz22_1 : wr.cell? ⟨gb662, 1, none⟩ = some (.slice A1_1 l1_1.length c1_1) := (Zaj BK662.out 1).trans rfl
       have hfz22_0 := Zak BK662.out 0
       have hfz22_1 := Zak BK662.out 1
       have p670 : 0 ≤ (x7_1 : Int) := of_decide_eq_true (by first | (with_reducible assumption) | assumption)
       have q670 : x7_1 < (l1_1.length : Int) := of_decide_eq_true (by first | (with_reducible assumption) | assumption)
       obtain ⟨ad670, e670, hx670_0⟩ := Kd.at_int HR1_1.out x7_1 p670 q670
       cases e670
       replace hx670_0 := (HB.out.cell (World.block_lt_of_cell? w _ hx670_0)).trans hx670_0
       replace p670 := eq_true p670
       replace q670 := eq_true q670
       go_wp2_with (first | (go_at_call 85; (with_reducible refine (spec_l01Floor.calls (rd l1_1 x7_1) a1_0 t671 _ A10.out).mono ?_); rintro e w' ⟨rfl, ⟨nd, rfl⟩⟩; (try first | exact ⟨rfl, _, World.drewN_drewN _ _ _⟩ | exact ⟨rfl, _, Eq.trans (World.drewN_drewN _ _ _) (congrArg (World.drewN _) (Nat.add_assoc _ _ _))⟩)) | (go_at_call 86; (with_reducible refine (spec_l00Src_one.calls g666 t663 x667001_1 x667002_1 2 false t673 t674 w _ ?side1 ?side2 A11.out).mono ?_); (case side1 => repeat (first | (with_reducible first | exact HI666.out | apply Zal.alloc | apply Zal.drewN | apply Zal.drew | apply Zal.set_1 | apply Zal.set_2 | refine Zal.far ?_ NB666_662.out _) | exact HI666.out)); (case side2 => repeat (first | (with_reducible first | exact HB.out | apply Zad | apply Zaa | apply Zac | refine Zae ?_ (Zal.ge HI666.out) | refine Zae ?_ GE662.out) | exact HB.out)); rintro e w23 ⟨rfl, hi, hb, hk⟩; have n0_ := Zab.mk (Kd.R_mono (Kd.R_keep (Zal.apart (show Zal w _ g666 t663 x667001_1 x667002_1 from by repeat (first | (with_reducible first | exact HI666.out | apply Zal.alloc | apply Zal.drewN | apply Zal.drew | apply Zal.set_1 | apply Zal.set_2 | refine Zal.far ?_ NB666_662.out _) | exact HI666.out)) (by (with_reducible repeat (first | apply Kd.R_alloc | apply Kd.R_drewN | apply Kd.R_drew)); exact HO_6.out) (by decide)) hk (fun _ h => h.2)) (fun _ h => h.1)); have n1_ := Zab.mk (KeepBut.blk hk (g' := gb662) (o := .cells #[.int .i64 a1_0, .slice (some ad670) l1_1.length c1_1] 28 (0, 0)) (by (with_reducible repeat (first | refine Zag ?_ _ | refine Zah ?_ | refine Zaf ?_ _)); exact BK662.out) NB662_666.out (by simp)); have n2_ := Zab.mk (hb); have n3_ := Zab.mk (hi); clear HO_6; clear BK662; clear HB; clear HI666; have HO_6 := n0_; have BK662 := n1_; have HB := n2_; have HI666 := n3_; clear n0_ n1_ n2_ n3_; (try clear hb); (try clear hb2); (try clear hk); (try clear hi)) | ((with_reducible refine gate_builtin (b := .append) (xs := #[.tmp 37, .tmp 39]) rfl ?_); at_builtin; refine Kd.R_append (Kd.int .i64) (w0 := w) w.heap.size rfl (.tmp 37) (.tmp 39) 22 2 (.int .i64 0) 8 rfl Try.underlying22 info2 rfl (by decide) (by omega) u6 x6_1 t671 [.int .i64 t671] (fun _ => True) (fun _ => False) rfl rfl ?aP (fun _ hk => hk.elim) ?aF ?aO ?aB ?aS ?aL ?_; (case aP => exact rfl); (case aB => exact (by repeat (first | (with_reducible first | exact HB.out | apply Zad | apply Zaa | apply Zac | refine Zae ?_ (Zal.ge HI666.out) | refine Zae ?_ GE662.out) | exact HB.out))); (case aF => exact (fun _ _ => trivial)); (case aO => exact (by (with_reducible repeat (first | apply Kd.R_alloc | apply Kd.R_drewN | apply Kd.R_drew)); exact HO_6.out)); (case aS => exact (Zan (by repeat (first | (with_reducible first | exact HB.out | apply Zad | apply Zaa | apply Zac | refine Zae ?_ (Zal.ge HI666.out) | refine Zae ?_ GE662.out) | exact HB.out)))); (case aL => have := LMc20.out; omega); intro v681 w24 ho hb hg hat; rw [← Ny680.out] at ho; have n0_ := Zab.mk (blk_grown (g := gb662) (o := .cells #[.int .i64 a1_0, .slice (some ad670) l1_1.length c1_1] 28 (0, 0)) (by (with_reducible repeat (first | refine Zag ?_ _ | refine Zah ?_ | refine Zaf ?_ _)); exact BK662.out) hg (Kd.R_ne HO_6.out BK662.out (by decide))); have n1_ := Zab.mk (Zal.grown (by repeat (first | (with_reducible first | exact HI666.out | apply Zal.alloc | apply Zal.drewN | apply Zal.drew | apply Zal.set_1 | apply Zal.set_2 | refine Zal.far ?_ NB666_662.out _) | exact HI666.out)) hg (Zal.own_ne HI666.out HO_6.out (by decide))); have n2_ := Zab.mk (hb); have n3_ := Zab.mk (ho); clear BK662; clear HI666; clear HB; clear HO_6; have BK662 := n0_; have HI666 := n1_; have HB := n2_; have HO682 := n3_; clear n0_ n1_ n2_ n3_; clear ho hb hg hat))
       repeat (go_quiet (first | (go_at_call 85; (with_reducible refine (spec_l01Floor.calls (rd l1_1 x7_1) a1_0 t671 _ A10.out).mono ?_); rintro e w' ⟨rfl, ⟨nd, rfl⟩⟩; (try first | exact ⟨rfl, _, World.drewN_drewN _ _ _⟩ | exact ⟨rfl, _, Eq.trans (World.drewN_drewN _ _ _) (congrArg (World.drewN _) (Nat.add_assoc _ _ _))⟩)) | (go_at_call 86; (with_reducible refine (spec_l00Src_one.calls g666 t663 x667001_1 x667002_1 2 false t673 t674 w _ ?side1 ?side2 A11.out).mono ?_); (case side1 => repeat (first | (with_reducible first | exact HI666.out | apply Zal.alloc | apply Zal.drewN | apply Zal.drew | apply Zal.set_1 | apply Zal.set_2 | refine Zal.far ?_ NB666_662.out _) | exact HI666.out)); (case side2 => repeat (first | (with_reducible first | exact HB.out | apply Zad | apply Zaa | apply Zac | refine Zae ?_ (Zal.ge HI666.out) | refine Zae ?_ GE662.out) | exact HB.out)); rintro e w23 ⟨rfl, hi, hb, hk⟩; have n0_ := Zab.mk (Kd.R_mono (Kd.R_keep (Zal.apart (show Zal w _ g666 t663 x667001_1 x667002_1 from by repeat (first | (with_reducible first | exact HI666.out | apply Zal.alloc | apply Zal.drewN | apply Zal.drew | apply Zal.set_1 | apply Zal.set_2 | refine Zal.far ?_ NB666_662.out _) | exact HI666.out)) (by (with_reducible repeat (first | apply Kd.R_alloc | apply Kd.R_drewN | apply Kd.R_drew)); exact HO_6.out) (by decide)) hk (fun _ h => h.2)) (fun _ h => h.1)); have n1_ := Zab.mk (KeepBut.blk hk (g' := gb662) (o := .cells #[.int .i64 a1_0, .slice (some ad670) l1_1.length c1_1] 28 (0, 0)) (by (with_reducible repeat (first | refine Zag ?_ _ | refine Zah ?_ | refine Zaf ?_ _)); exact BK662.out) NB662_666.out (by simp)); have n2_ := Zab.mk (hb); have n3_ := Zab.mk (hi); clear HO_6; clear BK662; clear HB; clear HI666; have HO_6 := n0_; have BK662 := n1_; have HB := n2_; have HI666 := n3_; clear n0_ n1_ n2_ n3_; (try clear hb); (try clear hb2); (try clear hk); (try clear hi)) | ((with_reducible refine gate_builtin (b := .append) (xs := #[.tmp 37, .tmp 39]) rfl ?_); at_builtin; refine Kd.R_append (Kd.int .i64) (w0 := w) w.heap.size rfl (.tmp 37) (.tmp 39) 22 2 (.int .i64 0) 8 rfl Try.underlying22 info2 rfl (by decide) (by omega) u6 x6_1 t671 [.int .i64 t671] (fun _ => True) (fun _ => False) rfl rfl ?aP (fun _ hk => hk.elim) ?aF ?aO ?aB ?aS ?aL ?_; (case aP => exact rfl); (case aB => exact (by repeat (first | (with_reducible first | exact HB.out | apply Zad | apply Zaa | apply Zac | refine Zae ?_ (Zal.ge HI666.out) | refine Zae ?_ GE662.out) | exact HB.out))); (case aF => exact (fun _ _ => trivial)); (case aO => exact (by (with_reducible repeat (first | apply Kd.R_alloc | apply Kd.R_drewN | apply Kd.R_drew)); exact HO_6.out)); (case aS => exact (Zan (by repeat (first | (with_reducible first | exact HB.out | apply Zad | apply Zaa | apply Zac | refine Zae ?_ (Zal.ge HI666.out) | refine Zae ?_ GE662.out) | exact HB.out)))); (case aL => have := LMc20.out; omega); intro v681 w24 ho hb hg hat; rw [← Ny680.out] at ho; have n0_ := Zab.mk (blk_grown (g := gb662) (o := .cells #[.int .i64 a1_0, .slice (some ad670) l1_1.length c1_1] 28 (0, 0)) (by (with_reducible repeat (first | refine Zag ?_ _ | refine Zah ?_ | refine Zaf ?_ _)); exact BK662.out) hg (Kd.R_ne HO_6.out BK662.out (by decide))); have n1_ := Zab.mk (Zal.grown (by repeat (first | (with_reducible first | exact HI666.out | apply Zal.alloc | apply Zal.drewN | apply Zal.drew | apply Zal.set_1 | apply Zal.set_2 | refine Zal.far ?_ NB666_662.out _) | exact HI666.out)) hg (Zal.own_ne HI666.out HO_6.out (by decide))); have n2_ := Zab.mk (hb); have n3_ := Zab.mk (ho); clear BK662; clear HI666; clear HB; clear HO_6; have BK662 := n0_; have HI666 := n1_; have HB := n2_; have HO682 := n3_; clear n0_ n1_ n2_ n3_; clear ho hb hg hat)); try go_wp2_with (first | (go_at_call 85; (with_reducible refine (spec_l01Floor.calls (rd l1_1 x7_1) a1_0 t671 _ A10.out).mono ?_); rintro e w' ⟨rfl, ⟨nd, rfl⟩⟩; (try first | exact ⟨rfl, _, World.drewN_drewN _ _ _⟩ | exact ⟨rfl, _, Eq.trans (World.drewN_drewN _ _ _) (congrArg (World.drewN _) (Nat.add_assoc _ _ _))⟩)) | (go_at_call 86; (with_reducible refine (spec_l00Src_one.calls g666 t663 x667001_1 x667002_1 2 false t673 t674 w _ ?side1 ?side2 A11.out).mono ?_); (case side1 => repeat (first | (with_reducible first | exact HI666.out | apply Zal.alloc | apply Zal.drewN | apply Zal.drew | apply Zal.set_1 | apply Zal.set_2 | refine Zal.far ?_ NB666_662.out _) | exact HI666.out)); (case side2 => repeat (first | (with_reducible first | exact HB.out | apply Zad | apply Zaa | apply Zac | refine Zae ?_ (Zal.ge HI666.out) | refine Zae ?_ GE662.out) | exact HB.out)); rintro e w23 ⟨rfl, hi, hb, hk⟩; have n0_ := Zab.mk (Kd.R_mono (Kd.R_keep (Zal.apart (show Zal w _ g666 t663 x667001_1 x667002_1 from by repeat (first | (with_reducible first | exact HI666.out | apply Zal.alloc | apply Zal.drewN | apply Zal.drew | apply Zal.set_1 | apply Zal.set_2 | refine Zal.far ?_ NB666_662.out _) | exact HI666.out)) (by (with_reducible repeat (first | apply Kd.R_alloc | apply Kd.R_drewN | apply Kd.R_drew)); exact HO_6.out) (by decide)) hk (fun _ h => h.2)) (fun _ h => h.1)); have n1_ := Zab.mk (KeepBut.blk hk (g' := gb662) (o := .cells #[.int .i64 a1_0, .slice (some ad670) l1_1.length c1_1] 28 (0, 0)) (by (with_reducible repeat (first | refine Zag ?_ _ | refine Zah ?_ | refine Zaf ?_ _)); exact BK662.out) NB662_666.out (by simp)); have n2_ := Zab.mk (hb); have n3_ := Zab.mk (hi); clear HO_6; clear BK662; clear HB; clear HI666; have HO_6 := n0_; have BK662 := n1_; have HB := n2_; have HI666 := n3_; clear n0_ n1_ n2_ n3_; (try clear hb); (try clear hb2); (try clear hk); (try clear hi)) | ((with_reducible refine gate_builtin (b := .append) (xs := #[.tmp 37, .tmp 39]) rfl ?_); at_builtin; refine Kd.R_append (Kd.int .i64) (w0 := w) w.heap.size rfl (.tmp 37) (.tmp 39) 22 2 (.int .i64 0) 8 rfl Try.underlying22 info2 rfl (by decide) (by omega) u6 x6_1 t671 [.int .i64 t671] (fun _ => True) (fun _ => False) rfl rfl ?aP (fun _ hk => hk.elim) ?aF ?aO ?aB ?aS ?aL ?_; (case aP => exact rfl); (case aB => exact (by repeat (first | (with_reducible first | exact HB.out | apply Zad | apply Zaa | apply Zac | refine Zae ?_ (Zal.ge HI666.out) | refine Zae ?_ GE662.out) | exact HB.out))); (case aF => exact (fun _ _ => trivial)); (case aO => exact (by (with_reducible repeat (first | apply Kd.R_alloc | apply Kd.R_drewN | apply Kd.R_drew)); exact HO_6.out)); (case aS => exact (Zan (by repeat (first | (with_reducible first | exact HB.out | apply Zad | apply Zaa | apply Zac | refine Zae ?_ (Zal.ge HI666.out) | refine Zae ?_ GE662.out) | exact HB.out)))); (case aL => have := LMc20.out; omega); intro v681 w24 ho hb hg hat; rw [← Ny680.out] at ho; have n0_ := Zab.mk (blk_grown (g := gb662) (o := .cells #[.int .i64 a1_0, .slice (some ad670) l1_1.length c1_1] 28 (0, 0)) (by (with_reducible repeat (first | refine Zag ?_ _ | refine Zah ?_ | refine Zaf ?_ _)); exact BK662.out) hg (Kd.R_ne HO_6.out BK662.out (by decide))); have n1_ := Zab.mk (Zal.grown (by repeat (first | (with_reducible first | exact HI666.out | apply Zal.alloc | apply Zal.drewN | apply Zal.drew | apply Zal.set_1 | apply Zal.set_2 | refine Zal.far ?_ NB666_662.out _) | exact HI666.out)) hg (Zal.own_ne HI666.out HO_6.out (by decide))); have n2_ := Zab.mk (hb); have n3_ := Zab.mk (ho); clear BK662; clear HI666; clear HB; clear HO_6; have BK662 := n0_; have HI666 := n1_; have HB := n2_; have HO682 := n3_; clear n0_ n1_ n2_ n3_; clear ho hb hg hat)))
       go_roundg k1
       case measure => have := HK1.out; omega
       case rel => exact ⟨(y680), (wrap64 (x7_1 + 1)), (t673), (t674), (by first | rfl | (simp; done) | (simp [*]; done) | (simp [IntWalk.i64_left, *]; done)), H', ⟨by have := HK1.out; omega⟩, ⟨by (with_reducible repeat (first | apply Kd.R_alloc | apply Kd.R_drewN | apply Kd.R_drew)); exact HO682.out⟩, ⟨by (with_reducible repeat (first | refine Zag ?_ _ | refine Zah ?_ | refine Zaf ?_ _)); exact BK662.out⟩, ⟨by repeat (first | (with_reducible first | exact HI666.out | apply Zal.alloc | apply Zal.drewN | apply Zal.drew | apply Zal.set_1 | apply Zal.set_2 | refine Zal.far ?_ NB666_662.out _) | exact HI666.out)⟩, ⟨by repeat (first | (with_reducible first | exact HB.out | apply Zad | apply Zaa | apply Zac | refine Zae ?_ (Zal.ge HI666.out) | refine Zae ?_ GE662.out) | exact HB.out)⟩⟩
      ·rw [if_neg c20] at H
       exact absurd H (by simp)
    ·rw [if_neg c9] at H
     exact absurd H (by simp)
   ·rw [if_neg c8] at H
    have c8b0 : decide (x7_1 < (l1_1.length : Int)) = false := decide_eq_false c8
    clear c8
    obtain rfl := Option.some.inj H
    have hnb25 := NB662_666.out
    have hnc25 := NB666_662.out
    have hcz26_0 : wr.cell? ⟨gb662, 0, none⟩ = some (.int .i64 a1_0) := (Zaj BK662.out 0).trans rfl
    have hcz26_1 : wr.cell? ⟨gb662, 1, none⟩ = some (.slice A1_1 l1_1.length c1_1) := (Zaj BK662.out 1).trans rfl
    have hfz26_0 := Zak BK662.out 0
    have hfz26_1 := Zak BK662.out 1
    go_wp2
    repeat (go_quiet (fail); try go_wp2)
    go_ret
    exact ⟨_, by first | rfl | (simp [Zas, Zar] <;> rfl) | (simp [*, Zas, Zar] <;> rfl), by (with_reducible repeat (first | apply Kd.R_alloc | apply Kd.R_drewN | apply Kd.R_drew)); exact HO_6.out, by repeat (first | (with_reducible first | exact HB.out | apply Zad | apply Zaa | apply Zac | refine Zae ?_ (Zal.ge HI666.out) | refine Zae ?_ GE662.out) | exact HB.out)⟩
end Go.Proofs.Ytgmmfdilfpkbmaa.P
