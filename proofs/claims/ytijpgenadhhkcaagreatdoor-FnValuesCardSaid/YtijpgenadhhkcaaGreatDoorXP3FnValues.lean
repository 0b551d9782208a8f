import Derived.Test.YtijpgenadhhkcaaGreatDoorXP0FnValues
import Derived.Test.YtijpgenadhhkcaaGreatDoorXP1FnValues
import Derived.Test.YtijpgenadhhkcaaGreatDoorXP2FnValues
namespace Go.Proofs.YtijpgenadhhkcaaGreatDoor.P
open Go.RowKit Go.Proofs.YtijpgenadhhkcaaGreatDoorW.PrintWords Go.Proofs.YtijpgenadhhkcaaGreatDoorW.PrintLast Go.Proofs.YtijpgenadhhkcaaGreatDoorW.PrintMore
attribute [local go_sem] max2_int min2_int max_two min_two max_three min_three max_four min_four
set_option linter.unusedVariables false
set_option linter.unusedSimpArgs false
def Zay.l0 : Nat → List Int → Int → Int → List Int → List Int → Int → Int → Option (List Int)
 | 0, _, _, _, _, _, _, _ => none
 | k + 1, x6, x7, x148000, x148001, x152000, x152001, x152002 => if x7 < (x148001.length : Int) then (if 0 ≤ x7 then ((spec_l01Floor.f (rd x148001 x7) x148000).bind fun t156 => ((spec_l00Src_one.f x152000 x152001 x152002 2).bind fun bt157 => (if bt157.1 = true then ((spec_l01Ceil.f (rd x148001 x7) x148000).bind fun t161 => (if x6.length < 17592186044416 then (Zay.l0 k (x6 ++ [t161]) (wrap64 (x7 + 1)) x148000 x148001 x152000 bt157.2.1 bt157.2.2) else (none))) else (if x6.length < 17592186044416 then (Zay.l0 k (x6 ++ [t156]) (wrap64 (x7 + 1)) x148000 x148001 x152000 bt157.2.1 bt157.2.2) else (none))))) else (none)) else (some x6)
def Zay.f (k : Nat) (l0 : List Int) (a1_0 : Int) (l1_1 : List Int) : Option (List Int) := (spec_l00From.f l0).bind fun bt148 => (Zay.l0 k (([] : List Int)) 0 a1_0 l1_1 bt148.1 bt148.2.1 bt148.2.2)
set_option maxHeartbeats 8000000 in
set_option maxRecDepth 100000 in
theorem Zay.calls (k : Nat) (A0 : Option Addr) (c0 : Nat) (l0 : List Int) (a1_0 : Int) (A1_1 : Option Addr) (c1_1 : Nat) (l1_1 : List Int) (r : List Int) (w : World) (hr0 : Kd.C (Kd.int .u8) w A0 l0.length l0) (hc0 : l0.length ≤ c0) (hr1_1 : Kd.C (Kd.int .i64) w A1_1 l1_1.length l1_1) (hc1_1 : l1_1.length ≤ c1_1) (h : Zay.f k l0 a1_0 l1_1 = some r) :
  Calls Tryz.prog 6 #[.slice A0 l0.length c0, .agg #[.int .i64 a1_0, .slice A1_1 l1_1.length c1_1]] w fun e w' => ∃ v0_ : Value, e = .returned (v0_) ∧ Kd.R (Kd.int .i64) 2 w' w.heap.size (fun _ => True) v0_ r ∧ Below w.heap.size w w' := by
 have hu26 := Tryz.underlying26
 have HR0 := Zad.mk hr0
 have HC0 := Zad.mk hc0
 clear hr0 hc0
 have HR1_1 := Zad.mk hr1_1
 have HC1_1 := Zad.mk hc1_1
 clear hr1_1 hc1_1
 have HB := Zad.mk (Below.refl w.heap.size w)
 have H : ((spec_l00From.f l0).bind fun bt148 => (Zay.l0 k (([] : List Int)) 0 a1_0 l1_1 bt148.1 bt148.2.1 bt148.2.2)) = some r := h
 clear h
 replace H := Option.bind_eq_some_iff.mp H
 obtain ⟨⟨t148, t149, t150⟩, A30, H⟩ := H
 replace H : (Zay.l0 k (([] : List Int)) 0 a1_0 l1_1 t148 t149 t150) = some r := H
 have A3 := Zad.mk A30
 clear A30
 obtain ⟨y152, hy152⟩ : ∃ y_ : List Int, y_ = (([] : List Int)) := ⟨_, rfl⟩
 replace H : (Zay.l0 k y152 0 a1_0 l1_1 t148 t149 t150) = some r := by first | (rw [hy152]; with_reducible exact H) | (have H2_ := (Option.bind_some _ _).symm.trans H; rw [hy152]; with_reducible exact H2_) | (have H2_ := (Option.bind_some _ _).symm.trans H; with_reducible exact H2_) | with_reducible exact H | (rw [hy152]; exact H) | exact H
 have Ny152 := Zad.mk hy152
 clear hy152
 have H' := Zad.mk H
 clear H
 go_enter Tryz.func6, Tryz.ntmps6
 go_wp2_with (first | ((with_reducible refine gate_dst (N := 3) rfl ?_); refine box_event ?hg (N := 3) ?hd (cs := #[.int .i64 a1_0, .slice A1_1 l1_1.length c1_1]) (t := 26) ?hr ?_; (case hd => rfl); (case hg => rfl); (case hr => first | (go_simp; done) | (go_simp; rfl)); intro gb147 hg w4 hbox hb; have n0_ := Zad.mk (Zak (by repeat (first | (with_reducible first | exact HB.out | apply Zac | apply Zaa | apply Zab) | exact HB.out)) hb); have n1_ := Zad.mk (hbox); have n2_ := Zad.mk ((by rw [hg]; exact (Zam (by repeat (first | (with_reducible first | exact HB.out | apply Zac | apply Zaa | apply Zab) | exact HB.out))) : w.heap.size ≤ gb147)); have n3_ := Zad.mk ((by rw [hg]; exact (Zam (by repeat (first | (with_reducible first | exact HB.out | apply Zac | apply Zaa | apply Zab) | exact HB.out))) : w.heap.size ≤ gb147)); clear HB; have HB := n0_; have BK147 := n1_; have GW147 := n2_; have GE147 := n3_; clear n0_ n1_ n2_ n3_; clear hb hbox hg) | (go_at_call 18; (with_reducible refine (spec_l00From.calls _ _ l0 t148 t149 t150 w _ ?side1 ?side2 ?side3 A3.out).mono ?_); (case side1 => repeat (first | (with_reducible first | exact HB.out | apply Zac | apply Zaa | apply Zab | refine Zae ?_ GE147.out) | exact HB.out)); (case side2 => exact HR0.out); (case side3 => exact HC0.out); rintro e w5 ⟨g151, rfl, hi, hb, hb2⟩; have n0_ := Zad.mk (Zap (g := gb147) (o := .cells #[.int .i64 a1_0, .slice A1_1 l1_1.length c1_1] 26 (0, 0)) (by (with_reducible repeat (first | refine Zag ?_ _ | refine Zah ?_ | refine Zaf ?_ _)); exact BK147.out) hb2); have n1_ := Zad.mk (hb); have n2_ := Zad.mk (hi); have n3_ := Zad.mk (IsS60.ne_blk hi (Zap (g := gb147) (o := .cells #[.int .i64 a1_0, .slice A1_1 l1_1.length c1_1] 26 (0, 0)) (by (with_reducible repeat (first | refine Zag ?_ _ | refine Zah ?_ | refine Zaf ?_ _)); exact BK147.out) hb2) (by decide)); have n4_ := Zad.mk (Ne.symm (IsS60.ne_blk hi (Zap (g := gb147) (o := .cells #[.int .i64 a1_0, .slice A1_1 l1_1.length c1_1] 26 (0, 0)) (by (with_reducible repeat (first | refine Zag ?_ _ | refine Zah ?_ | refine Zaf ?_ _)); exact BK147.out) hb2) (by decide))); clear BK147; clear HB; have BK147 := n0_; have HB := n1_; have HI151 := n2_; have NB151_147 := n3_; have NB147_151 := n4_; clear n0_ n1_ n2_ n3_ n4_; (try clear hb); (try clear hb2); (try clear hk); (try clear hi)) | ((with_reducible refine gate_dst (N := 11) rfl ?_); refine Kd.R_lit (Kd.int .i64) _ 2 ?hg (N := 11) ?hd (xs := ([] : List Int)) (inner := []) (ok := fun _ => True) (okp := fun _ => True) ?hr ?hp (fun _ hk => hk) trivial (Below.refl _ _) (Nat.le_refl _) (by simp) ?_; (case hd => rfl); (case hg => rfl); (case hr => first | (go_simp; done) | (go_simp; rfl)); (case hp => exact (Reps.none _ _)); intro v153 w6 ho7 hb hg_ hnew_; clear hg_ hnew_; (first | rw [← Ny152.out] at ho7 | (simp only [Int.reduceToNat] at ho7; rw [← Ny152.out] at ho7)); have n0_ := Zad.mk (Kd.R_lower ho7 (Zam (by repeat (first | (with_reducible first | exact HB.out | apply Zac | apply Zaa | apply Zab | refine Zae ?_ (IsS60.ge HI151.out) | refine Zae ?_ GE147.out) | exact HB.out)))); have n1_ := Zad.mk (Zap (g := gb147) (o := .cells #[.int .i64 a1_0, .slice A1_1 l1_1.length c1_1] 26 (0, 0)) (by (with_reducible repeat (first | refine Zag ?_ _ | refine Zah ?_ | refine Zaf ?_ _)); exact BK147.out) hb); have n2_ := Zad.mk (IsS60.below (by repeat (first | (with_reducible first | exact HI151.out | apply IsS60.alloc | apply IsS60.drewN | apply IsS60.drew | apply IsS60.set_1 | apply IsS60.set_2 | refine IsS60.far ?_ NB151_147.out _) | exact HI151.out)) hb); have n3_ := Zad.mk (Zak (by repeat (first | (with_reducible first | exact HB.out | apply Zac | apply Zaa | apply Zab | refine Zae ?_ (IsS60.ge HI151.out) | refine Zae ?_ GE147.out) | exact HB.out)) hb); clear BK147; clear HI151; clear HB; have HO154 := n0_; have BK147 := n1_; have HI151 := n2_; have HB := n3_; clear n0_ n1_ n2_ n3_; clear hb ho7))
 repeat (go_quiet (first | ((with_reducible refine gate_dst (N := 3) rfl ?_); refine box_event ?hg (N := 3) ?hd (cs := #[.int .i64 a1_0, .slice A1_1 l1_1.length c1_1]) (t := 26) ?hr ?_; (case hd => rfl); (case hg => rfl); (case hr => first | (go_simp; done) | (go_simp; rfl)); intro gb147 hg w4 hbox hb; have n0_ := Zad.mk (Zak (by repeat (first | (with_reducible first | exact HB.out | apply Zac | apply Zaa | apply Zab) | exact HB.out)) hb); have n1_ := Zad.mk (hbox); have n2_ := Zad.mk ((by rw [hg]; exact (Zam (by repeat (first | (with_reducible first | exact HB.out | apply Zac | apply Zaa | apply Zab) | exact HB.out))) : w.heap.size ≤ gb147)); have n3_ := Zad.mk ((by rw [hg]; exact (Zam (by repeat (first | (with_reducible first | exact HB.out | apply Zac | apply Zaa | apply Zab) | exact HB.out))) : w.heap.size ≤ gb147)); clear HB; have HB := n0_; have BK147 := n1_; have GW147 := n2_; have GE147 := n3_; clear n0_ n1_ n2_ n3_; clear hb hbox hg) | (go_at_call 18; (with_reducible refine (spec_l00From.calls _ _ l0 t148 t149 t150 w _ ?side1 ?side2 ?side3 A3.out).mono ?_); (case side1 => repeat (first | (with_reducible first | exact HB.out | apply Zac | apply Zaa | apply Zab | refine Zae ?_ GE147.out) | exact HB.out)); (case side2 => exact HR0.out); (case side3 => exact HC0.out); rintro e w5 ⟨g151, rfl, hi, hb, hb2⟩; have n0_ := Zad.mk (Zap (g := gb147) (o := .cells #[.int .i64 a1_0, .slice A1_1 l1_1.length c1_1] 26 (0, 0)) (by (with_reducible repeat (first | refine Zag ?_ _ | refine Zah ?_ | refine Zaf ?_ _)); exact BK147.out) hb2); have n1_ := Zad.mk (hb); have n2_ := Zad.mk (hi); have n3_ := Zad.mk (IsS60.ne_blk hi (Zap (g := gb147) (o := .cells #[.int .i64 a1_0, .slice A1_1 l1_1.length c1_1] 26 (0, 0)) (by (with_reducible repeat (first | refine Zag ?_ _ | refine Zah ?_ | refine Zaf ?_ _)); exact BK147.out) hb2) (by decide)); have n4_ := Zad.mk (Ne.symm (IsS60.ne_blk hi (Zap (g := gb147) (o := .cells #[.int .i64 a1_0, .slice A1_1 l1_1.length c1_1] 26 (0, 0)) (by (with_reducible repeat (first | refine Zag ?_ _ | refine Zah ?_ | refine Zaf ?_ _)); exact BK147.out) hb2) (by decide))); clear BK147; clear HB; have BK147 := n0_; have HB := n1_; have HI151 := n2_; have NB151_147 := n3_; have NB147_151 := n4_; clear n0_ n1_ n2_ n3_ n4_; (try clear hb); (try clear hb2); (try clear hk); (try clear hi)) | ((with_reducible refine gate_dst (N := 11) rfl ?_); refine Kd.R_lit (Kd.int .i64) _ 2 ?hg (N := 11) ?hd (xs := ([] : List Int)) (inner := []) (ok := fun _ => True) (okp := fun _ => True) ?hr ?hp (fun _ hk => hk) trivial (Below.refl _ _) (Nat.le_refl _) (by simp) ?_; (case hd => rfl); (case hg => rfl); (case hr => first | (go_simp; done) | (go_simp; rfl)); (case hp => exact (Reps.none _ _)); intro v153 w6 ho7 hb hg_ hnew_; clear hg_ hnew_; (first | rw [← Ny152.out] at ho7 | (simp only [Int.reduceToNat] at ho7; rw [← Ny152.out] at ho7)); have n0_ := Zad.mk (Kd.R_lower ho7 (Zam (by repeat (first | (with_reducible first | exact HB.out | apply Zac | apply Zaa | apply Zab | refine Zae ?_ (IsS60.ge HI151.out) | refine Zae ?_ GE147.out) | exact HB.out)))); have n1_ := Zad.mk (Zap (g := gb147) (o := .cells #[.int .i64 a1_0, .slice A1_1 l1_1.length c1_1] 26 (0, 0)) (by (with_reducible repeat (first | refine Zag ?_ _ | refine Zah ?_ | refine Zaf ?_ _)); exact BK147.out) hb); have n2_ := Zad.mk (IsS60.below (by repeat (first | (with_reducible first | exact HI151.out | apply IsS60.alloc | apply IsS60.drewN | apply IsS60.drew | apply IsS60.set_1 | apply IsS60.set_2 | refine IsS60.far ?_ NB151_147.out _) | exact HI151.out)) hb); have n3_ := Zad.mk (Zak (by repeat (first | (with_reducible first | exact HB.out | apply Zac | apply Zaa | apply Zab | refine Zae ?_ (IsS60.ge HI151.out) | refine Zae ?_ GE147.out) | exact HB.out)) hb); clear BK147; clear HI151; clear HB; have HO154 := n0_; have BK147 := n1_; have HI151 := n2_; have HB := n3_; clear n0_ n1_ n2_ n3_; clear hb ho7)); try go_wp2_with (first | ((with_reducible refine gate_dst (N := 3) rfl ?_); refine box_event ?hg (N := 3) ?hd (cs := #[.int .i64 a1_0, .slice A1_1 l1_1.length c1_1]) (t := 26) ?hr ?_; (case hd => rfl); (case hg => rfl); (case hr => first | (go_simp; done) | (go_simp; rfl)); intro gb147 hg w4 hbox hb; have n0_ := Zad.mk (Zak (by repeat (first | (with_reducible first | exact HB.out | apply Zac | apply Zaa | apply Zab) | exact HB.out)) hb); have n1_ := Zad.mk (hbox); have n2_ := Zad.mk ((by rw [hg]; exact (Zam (by repeat (first | (with_reducible first | exact HB.out | apply Zac | apply Zaa | apply Zab) | exact HB.out))) : w.heap.size ≤ gb147)); have n3_ := Zad.mk ((by rw [hg]; exact (Zam (by repeat (first | (with_reducible first | exact HB.out | apply Zac | apply Zaa | apply Zab) | exact HB.out))) : w.heap.size ≤ gb147)); clear HB; have HB := n0_; have BK147 := n1_; have GW147 := n2_; have GE147 := n3_; clear n0_ n1_ n2_ n3_; clear hb hbox hg) | (go_at_call 18; (with_reducible refine (spec_l00From.calls _ _ l0 t148 t149 t150 w _ ?side1 ?side2 ?side3 A3.out).mono ?_); (case side1 => repeat (first | (with_reducible first | exact HB.out | apply Zac | apply Zaa | apply Zab | refine Zae ?_ GE147.out) | exact HB.out)); (case side2 => exact HR0.out); (case side3 => exact HC0.out); rintro e w5 ⟨g151, rfl, hi, hb, hb2⟩; have n0_ := Zad.mk (Zap (g := gb147) (o := .cells #[.int .i64 a1_0, .slice A1_1 l1_1.length c1_1] 26 (0, 0)) (by (with_reducible repeat (first | refine Zag ?_ _ | refine Zah ?_ | refine Zaf ?_ _)); exact BK147.out) hb2); have n1_ := Zad.mk (hb); have n2_ := Zad.mk (hi); have n3_ := Zad.mk (IsS60.ne_blk hi (Zap (g := gb147) (o := .cells #[.int .i64 a1_0, .slice A1_1 l1_1.length c1_1] 26 (0, 0)) (by (with_reducible repeat (first | refine Zag ?_ _ | refine Zah ?_ | refine Zaf ?_ _)); exact BK147.out) hb2) (by decide)); have n4_ := Zad.mk (Ne.symm (IsS60.ne_blk hi (Zap (g := gb147) (o := .cells #[.int .i64 a1_0, .slice A1_1 l1_1.length c1_1] 26 (0, 0)) (by (with_reducible repeat (first | refine Zag ?_ _ | refine Zah ?_ | refine Zaf ?_ _)); exact BK147.out) hb2) (by decide))); clear BK147; clear HB; have BK147 := n0_; have HB := n1_; have HI151 := n2_; have NB151_147 := n3_; have NB147_151 := n4_; clear n0_ n1_ n2_ n3_ n4_; (try clear hb); (try clear hb2); (try clear hk); (try clear hi)) | ((with_reducible refine gate_dst (N := 11) rfl ?_); refine Kd.R_lit (Kd.int .i64) _ 2 ?hg (N := 11) ?hd (xs := ([] : List Int)) (inner := []) (ok := fun _ => True) (okp := fun _ => True) ?hr ?hp (fun _ hk => hk) trivial (Below.refl _ _) (Nat.le_refl _) (by simp) ?_; (case hd => rfl); (case hg => rfl); (case hr => first | (go_simp; done) | (go_simp; rfl)); (case hp => exact (Reps.none _ _)); intro v153 w6 ho7 hb hg_ hnew_; clear hg_ hnew_; (first | rw [← Ny152.out] at ho7 | (simp only [Int.reduceToNat] at ho7; rw [← Ny152.out] at ho7)); have n0_ := Zad.mk (Kd.R_lower ho7 (Zam (by repeat (first | (with_reducible first | exact HB.out | apply Zac | apply Zaa | apply Zab | refine Zae ?_ (IsS60.ge HI151.out) | refine Zae ?_ GE147.out) | exact HB.out)))); have n1_ := Zad.mk (Zap (g := gb147) (o := .cells #[.int .i64 a1_0, .slice A1_1 l1_1.length c1_1] 26 (0, 0)) (by (with_reducible repeat (first | refine Zag ?_ _ | refine Zah ?_ | refine Zaf ?_ _)); exact BK147.out) hb); have n2_ := Zad.mk (IsS60.below (by repeat (first | (with_reducible first | exact HI151.out | apply IsS60.alloc | apply IsS60.drewN | apply IsS60.drew | apply IsS60.set_1 | apply IsS60.set_2 | refine IsS60.far ?_ NB151_147.out _) | exact HI151.out)) hb); have n3_ := Zad.mk (Zak (by repeat (first | (with_reducible first | exact HB.out | apply Zac | apply Zaa | apply Zab | refine Zae ?_ (IsS60.ge HI151.out) | refine Zae ?_ GE147.out) | exact HB.out)) hb); clear BK147; clear HI151; clear HB; have HO154 := n0_; have BK147 := n1_; have HI151 := n2_; have HB := n3_; clear n0_ n1_ n2_ n3_; clear hb ho7)))
 go_loopg [6, 7] k (fun kq v6 v7 w' => ∃ (x6_1 : List Int) (x7_1 : Int) (x152001_1 : Int) (x152002_1 : Int), v7 = .int .i64 x7_1 ∧ Zad (Zay.l0 kq x6_1 x7_1 a1_0 l1_1 t148 x152001_1 x152002_1 = some r) ∧ Zad (kq ≤ k) ∧ Zad (Kd.R (Kd.int .i64) 2 w' w.heap.size (fun _ => True) v6 x6_1) ∧ Zad (w'.heap[gb147]? = some (.cells #[.int .i64 a1_0, (.slice A1_1 l1_1.length c1_1)] 26 (0, 0))) ∧ Zad (IsS60 w w' g151 t148 x152001_1 x152002_1) ∧ Zad (Below w.heap.size w w'))
 case atStart => exact ⟨(y152), (0), (t149), (t150), (by first | rfl | (simp; done) | (simp [*]; done) | (simp [IntWalk.i64_left, *]; done)), H', ⟨Nat.le_refl _⟩, ⟨by (with_reducible repeat (first | apply Kd.R_alloc | apply Kd.R_drewN | apply Kd.R_drew)); exact HO154.out⟩, ⟨by (with_reducible repeat (first | refine Zag ?_ _ | refine Zah ?_ | refine Zaf ?_ _)); exact BK147.out⟩, ⟨by repeat (first | (with_reducible first | exact HI151.out | apply IsS60.alloc | apply IsS60.drewN | apply IsS60.drew | apply IsS60.set_1 | apply IsS60.set_2 | refine IsS60.far ?_ NB151_147.out _) | exact HI151.out)⟩, ⟨by repeat (first | (with_reducible first | exact HB.out | apply Zac | apply Zaa | apply Zab | refine Zae ?_ (IsS60.ge HI151.out) | refine Zae ?_ GE147.out) | exact HB.out)⟩⟩
 case round =>
  clear H'
  try clear c1
  try clear p2
  try clear c6
  obtain ⟨x6_1, x7_1, x152001_1, x152002_1, rfl, HA, HK1, HO_6, BK147, HI151, HB⟩ := hrel
  cases gk with
  | zero => exact absurd HA.out (by simp [Zay.l0])
  | succ k1 =>
   have H := HA.out
   clear HA
   simp only [Zay.l0] at H
   by_cases c8 : x7_1 < (l1_1.length : Int)
   ·rw [if_pos c8] at H
    have c8b0 : decide (x7_1 < (l1_1.length : Int)) = true := decide_eq_true c8
    clear c8
    by_cases c9 : 0 ≤ x7_1
    ·rw [if_pos c9] at H
     have c9b0 : decide (0 ≤ x7_1) = true := decide_eq_true c9
     clear c9
     replace H := Option.bind_eq_some_iff.mp H
     obtain ⟨t156, A100, H⟩ := H
     replace H : ((spec_l00Src_one.f t148 x152001_1 x152002_1 2).bind fun bt157 => (if bt157.1 = true then ((spec_l01Ceil.f (rd l1_1 x7_1) a1_0).bind fun t161 => (if x6_1.length < 17592186044416 then (Zay.l0 k1 (x6_1 ++ [t161]) (wrap64 (x7_1 + 1)) a1_0 l1_1 t148 bt157.2.1 bt157.2.2) else (none))) else (if x6_1.length < 17592186044416 then (Zay.l0 k1 (x6_1 ++ [t156]) (wrap64 (x7_1 + 1)) a1_0 l1_1 t148 bt157.2.1 bt157.2.2) else (none)))) = some r := H
     have A10 := Zad.mk A100
     clear A100
     replace H := Option.bind_eq_some_iff.mp H
     obtain ⟨⟨t157, t158, t159⟩, A110, H⟩ := H
     replace H : (if t157 = true then ((spec_l01Ceil.f (rd l1_1 x7_1) a1_0).bind fun t161 => (if x6_1.length < 17592186044416 then (Zay.l0 k1 (x6_1 ++ [t161]) (wrap64 (x7_1 + 1)) a1_0 l1_1 t148 t158 t159) else (none))) else (if x6_1.length < 17592186044416 then (Zay.l0 k1 (x6_1 ++ [t156]) (wrap64 (x7_1 + 1)) a1_0 l1_1 t148 t158 t159) else (none))) = some r := H
     have A11 := Zad.mk A110
     clear A110
     by_cases c12 : t157 = true
     ·subst c12
      have H1 : ((spec_l01Ceil.f (rd l1_1 x7_1) a1_0).bind fun t161 => (if x6_1.length < 17592186044416 then (Zay.l0 k1 (x6_1 ++ [t161]) (wrap64 (x7_1 + 1)) a1_0 l1_1 t148 t158 t159) else (none))) = some r := by rw [if_pos rfl] at H; exact H
      clear H
      have H := H1
      clear H1
      replace H := Option.bind_eq_some_iff.mp H
      obtain ⟨t161, A130, H⟩ := H
      replace H : (if x6_1.length < 17592186044416 then (Zay.l0 k1 (x6_1 ++ [t161]) (wrap64 (x7_1 + 1)) a1_0 l1_1 t148 t158 t159) else (none)) = some r := H
      have A13 := Zad.mk A130
      clear A130
      by_cases c14 : x6_1.length < 17592186044416
      ·rw [if_pos c14] at H
       have LMc14 := Zad.mk c14
       clear c14
       obtain ⟨y162, hy162⟩ : ∃ y_ : List Int, y_ = (x6_1 ++ [t161]) := ⟨_, rfl⟩
       replace H : (Zay.l0 k1 y162 (wrap64 (x7_1 + 1)) a1_0 l1_1 t148 t158 t159) = some r := by first | (rw [hy162]; with_reducible exact H) | (have H2_ := (Option.bind_some _ _).symm.trans H; rw [hy162]; with_reducible exact H2_) | (have H2_ := (Option.bind_some _ _).symm.trans H; with_reducible exact H2_) | with_reducible exact H | (rw [hy162]; exact H) | exact H
       have Ny162 := Zad.mk hy162
       clear hy162
       have H' := Zad.mk H
       clear H
       have hnb15 := NB147_151.out
       have hnc15 := NB151_147.out
       have hcz16_0 : wr.cell? ⟨gb147, 0, none⟩ = some (.int .i64 a1_0) := (Zaj BK147.out 0).trans rfl
       have hcz16_1 : wr.cell? ⟨gb147, 1, none⟩ = some (.slice A1_1 l1_1.length c1_1) := (Zaj BK147.out 1).trans rfl
       have hfz16_0 := Zai BK147.out 0
       have hfz16_1 := Zai BK147.out 1
       have p155 : 0 ≤ (x7_1 : Int) := of_decide_eq_true (by first | (with_reducible assumption) | assumption)
       have q155 : x7_1 < (l1_1.length : Int) := of_decide_eq_true (by first | (with_reducible assumption) | assumption)
       obtain ⟨ad155, e155, hx155_0⟩ := Kd.at_int HR1_1.out x7_1 p155 q155
       cases e155
       replace hx155_0 := (HB.out.cell (World.block_lt_of_cell? w _ hx155_0)).trans hx155_0
       replace p155 := eq_true p155
       replace q155 := eq_true q155
       go_wp2_with (first | (go_at_call 20; (with_reducible refine (spec_l01Floor.calls (rd l1_1 x7_1) a1_0 t156 _ A10.out).mono ?_); rintro e w' ⟨rfl, ⟨nd, rfl⟩⟩; (try first | exact ⟨rfl, _, World.drewN_drewN _ _ _⟩ | exact ⟨rfl, _, Eq.trans (World.drewN_drewN _ _ _) (congrArg (World.drewN _) (Nat.add_assoc _ _ _))⟩)) | (go_at_call 21; (with_reducible refine (spec_l00Src_one.calls g151 t148 x152001_1 x152002_1 2 true t158 t159 w _ ?side1 ?side2 A11.out).mono ?_); (case side1 => repeat (first | (with_reducible first | exact HI151.out | apply IsS60.alloc | apply IsS60.drewN | apply IsS60.drew | apply IsS60.set_1 | apply IsS60.set_2 | refine IsS60.far ?_ NB151_147.out _) | exact HI151.out)); (case side2 => repeat (first | (with_reducible first | exact HB.out | apply Zac | apply Zaa | apply Zab | refine Zae ?_ (IsS60.ge HI151.out) | refine Zae ?_ GE147.out) | exact HB.out)); rintro e w17 ⟨rfl, hi, hb, hk⟩; have n0_ := Zad.mk (Kd.R_mono (Kd.R_keep (IsS60.apart (show IsS60 w _ g151 t148 x152001_1 x152002_1 from by repeat (first | (with_reducible first | exact HI151.out | apply IsS60.alloc | apply IsS60.drewN | apply IsS60.drew | apply IsS60.set_1 | apply IsS60.set_2 | refine IsS60.far ?_ NB151_147.out _) | exact HI151.out)) (by (with_reducible repeat (first | apply Kd.R_alloc | apply Kd.R_drewN | apply Kd.R_drew)); exact HO_6.out) (by decide)) hk (fun _ h => h.2)) (fun _ h => h.1)); have n1_ := Zad.mk (KeepBut.blk hk (g' := gb147) (o := .cells #[.int .i64 a1_0, .slice (some ad155) l1_1.length c1_1] 26 (0, 0)) (by (with_reducible repeat (first | refine Zag ?_ _ | refine Zah ?_ | refine Zaf ?_ _)); exact BK147.out) NB147_151.out (by simp)); have n2_ := Zad.mk (hb); have n3_ := Zad.mk (hi); clear HO_6; clear BK147; clear HB; clear HI151; have HO_6 := n0_; have BK147 := n1_; have HB := n2_; have HI151 := n3_; clear n0_ n1_ n2_ n3_; (try clear hb); (try clear hb2); (try clear hk); (try clear hi); have hcz18_0 : w17.cell? ⟨gb147, 0, none⟩ = some (.int .i64 a1_0) := (Zaj BK147.out 0).trans rfl; have hcz18_1 : w17.cell? ⟨gb147, 1, none⟩ = some (.slice (some ad155) l1_1.length c1_1) := (Zaj BK147.out 1).trans rfl; have hfz18_0 := Zai BK147.out 0; have hfz18_1 := Zai BK147.out 1; have p160 : 0 ≤ (x7_1 : Int) := of_decide_eq_true (by first | (with_reducible assumption) | assumption); have q160 : x7_1 < (l1_1.length : Int) := of_decide_eq_true (by first | (with_reducible assumption) | assumption); obtain ⟨ad160, e160, hx160_0⟩ := Kd.at_int HR1_1.out x7_1 p160 q160; obtain rfl : ad155 = ad160 := (by injection e160); replace hx160_0 := (HB.out.cell (World.block_lt_of_cell? w _ hx160_0)).trans hx160_0; replace p160 := eq_true p160; replace q160 := eq_true q160) | (go_at_call 22; (with_reducible refine (spec_l01Ceil.calls (rd l1_1 x7_1) a1_0 t161 _ A13.out).mono ?_); rintro e w' ⟨rfl, ⟨nd, rfl⟩⟩; (try first | exact ⟨rfl, _, World.drewN_drewN _ _ _⟩ | exact ⟨rfl, _, Eq.trans (World.drewN_drewN _ _ _) (congrArg (World.drewN _) (Nat.add_assoc _ _ _))⟩)) | ((with_reducible refine gate_builtin (b := .append) (xs := #[.tmp 37, .tmp 39]) rfl ?_); at_builtin; refine Kd.R_append (Kd.int .i64) (w0 := w) w.heap.size rfl (.tmp 37) (.tmp 39) 24 2 (.int .i64 0) 8 rfl Tryz.underlying24 info2 rfl (by decide) (by omega) u6 x6_1 t161 [.int .i64 t161] (fun _ => True) (fun _ => False) rfl rfl ?aP (fun _ hk => hk.elim) ?aF ?aO ?aB ?aS ?aL ?_; (case aP => exact rfl); (case aB => exact (by repeat (first | (with_reducible first | exact HB.out | apply Zac | apply Zaa | apply Zab | refine Zae ?_ (IsS60.ge HI151.out) | refine Zae ?_ GE147.out) | exact HB.out))); (case aF => exact (fun _ _ => trivial)); (case aO => exact (by (with_reducible repeat (first | apply Kd.R_alloc | apply Kd.R_drewN | apply Kd.R_drew)); exact HO_6.out)); (case aS => exact (Zam (by repeat (first | (with_reducible first | exact HB.out | apply Zac | apply Zaa | apply Zab | refine Zae ?_ (IsS60.ge HI151.out) | refine Zae ?_ GE147.out) | exact HB.out)))); (case aL => have := LMc14.out; omega); intro v163 w19 ho hb hg hat; rw [← Ny162.out] at ho; have n0_ := Zad.mk (blk_grown (g := gb147) (o := .cells #[.int .i64 a1_0, .slice (some ad155) l1_1.length c1_1] 26 (0, 0)) (by (with_reducible repeat (first | refine Zag ?_ _ | refine Zah ?_ | refine Zaf ?_ _)); exact BK147.out) hg (Kd.R_ne HO_6.out BK147.out (by decide))); have n1_ := Zad.mk (IsS60.grown (by repeat (first | (with_reducible first | exact HI151.out | apply IsS60.alloc | apply IsS60.drewN | apply IsS60.drew | apply IsS60.set_1 | apply IsS60.set_2 | refine IsS60.far ?_ NB151_147.out _) | exact HI151.out)) hg (IsS60.own_ne HI151.out HO_6.out (by decide))); have n2_ := Zad.mk (hb); have n3_ := Zad.mk (ho); clear BK147; clear HI151; clear HB; clear HO_6; have BK147 := n0_; have HI151 := n1_; have HB := n2_; have HO164 := n3_; clear n0_ n1_ n2_ n3_; clear ho hb hg hat))
       repeat (go_quiet (first | (go_at_call 20; (with_reducible refine (spec_l01Floor.calls (rd l1_1 x7_1) a1_0 t156 _ A10.out).mono ?_); rintro e w' ⟨rfl, ⟨nd, rfl⟩⟩; (try first | exact ⟨rfl, _, World.drewN_drewN _ _ _⟩ | exact ⟨rfl, _, Eq.trans (World.drewN_drewN _ _ _) (congrArg (World.drewN _) (Nat.add_assoc _ _ _))⟩)) | (go_at_call 21; (with_reducible refine (spec_l00Src_one.calls g151 t148 x152001_1 x152002_1 2 true t158 t159 w _ ?side1 ?side2 A11.out).mono ?_); (case side1 => repeat (first | (with_reducible first | exact HI151.out | apply IsS60.alloc | apply IsS60.drewN | apply IsS60.drew | apply IsS60.set_1 | apply IsS60.set_2 | refine IsS60.far ?_ NB151_147.out _) | exact HI151.out)); (case side2 => repeat (first | (with_reducible first | exact HB.out | apply Zac | apply Zaa | apply Zab | refine Zae ?_ (IsS60.ge HI151.out) | refine Zae ?_ GE147.out) | exact HB.out)); rintro e w17 ⟨rfl, hi, hb, hk⟩; have n0_ := Zad.mk (Kd.R_mono (Kd.R_keep (IsS60.apart (show IsS60 w _ g151 t148 x152001_1 x152002_1 from by repeat (first | (with_reducible first | exact HI151.out | apply IsS60.alloc | apply IsS60.drewN | apply IsS60.drew | apply IsS60.set_1 | apply IsS60.set_2 | refine IsS60.far ?_ NB151_147.out _) | exact HI151.out)) (by (with_reducible repeat (first | apply Kd.R_alloc | apply Kd.R_drewN | apply Kd.R_drew)); exact HO_6.out) (by decide)) hk (fun _ h => h.2)) (fun _ h => h.1)); have n1_ := Zad.mk (KeepBut.blk hk (g' := gb147) (o := .cells #[.int .i64 a1_0, .slice (some ad155) l1_1.length c1_1] 26 (0, 0)) (by (with_reducible repeat (first | refine Zag ?_ _ | refine Zah ?_ | refine Zaf ?_ _)); exact BK147.out) NB147_151.out (by simp)); have n2_ := Zad.mk (hb); have n3_ := Zad.mk (hi); clear HO_6; clear BK147; clear HB; clear HI151; have HO_6 := n0_; have BK147 := n1_; have HB := n2_; have HI151 := n3_; clear n0_ n1_ n2_ n3_; (try clear hb); (try clear hb2); (try clear hk); (try clear hi); have hcz18_0 : w17.cell? ⟨gb147, 0, none⟩ = some (.int .i64 a1_0) := (Zaj BK147.out 0).trans rfl; have hcz18_1 : w17.cell? ⟨gb147, 1, none⟩ = some (.slice (some ad155) l1_1.length c1_1) := (Zaj BK147.out 1).trans rfl; have hfz18_0 := Zai BK147.out 0; have hfz18_1 := Zai BK147.out 1; have p160 : 0 ≤ (x7_1 : Int) := of_decide_eq_true (by first | (with_reducible assumption) | assumption); have q160 : x7_1 < (l1_1.length : Int) := of_decide_eq_true (by first | (with_reducible assumption) | assumption); obtain ⟨ad160, e160, hx160_0⟩ := Kd.at_int HR1_1.out x7_1 p160 q160; obtain rfl : ad155 = ad160 := (by injection e160); replace hx160_0 := (HB.out.cell (World.block_lt_of_cell? w _ hx160_0)).trans hx160_0; replace p160 := eq_true p160; replace q160 := eq_true q160) | (go_at_call 22; (with_reducible refine (spec_l01Ceil.calls (rd l1_1 x7_1) a1_0 t161 _ A13.out).mono ?_); rintro e w' ⟨rfl, ⟨nd, rfl⟩⟩; (try first | exact ⟨rfl, _, World.drewN_drewN _ _ _⟩ | exact ⟨rfl, _, Eq.trans (World.drewN_drewN _ _ _) (congrArg (World.drewN _) (Nat.add_assoc _ _ _))⟩)) | ((with_reducible refine gate_builtin (b := .append) (xs := #[.tmp 37, .tmp 39]) rfl ?_); at_builtin; refine Kd.R_append (Kd.int .i64) (w0 := w) w.heap.size rfl (.tmp 37) (.tmp 39) 24 2 (.int .i64 0) 8 rfl Tryz.underlying24 info2 rfl (by decide) (by omega) u6 x6_1 t161 [.int .i64 t161] (fun _ => True) (fun _ => False) rfl rfl ?aP (fun _ hk => hk.elim) ?aF ?aO ?aB ?aS ?aL ?_; (case aP => exact rfl); (case aB => exact (by repeat (first | (with_reducible first | exact HB.out | apply Zac | apply Zaa | apply Zab | refine Zae ?_ (IsS60.ge HI151.out) | refine Zae ?_ GE147.out) | exact HB.out))); (case aF => exact (fun _ _ => trivial)); (case aO => exact (by (with_reducible repeat (first | apply Kd.R_alloc | apply Kd.R_drewN | apply Kd.R_drew)); exact HO_6.out)); (case aS => exact (Zam (by repeat (first | (with_reducible first | exact HB.out | apply Zac | apply Zaa | apply Zab | refine Zae ?_ (IsS60.ge HI151.out) | refine Zae ?_ GE147.out) | exact HB.out)))); (case aL => have := LMc14.out; omega); intro v163 w19 ho hb hg hat; rw [← Ny162.out] at ho; have n0_ := Zad.mk (blk_grown (g := gb147) (o := .cells #[.int .i64 a1_0, .slice (some ad155) l1_1.length c1_1] 26 (0, 0)) (by (with_reducible repeat (first | refine Zag ?_ _ | refine Zah ?_ | refine Zaf ?_ _)); exact BK147.out) hg (Kd.R_ne HO_6.out BK147.out (by decide))); have n1_ := Zad.mk (IsS60.grown (by repeat (first | (with_reducible first | exact HI151.out | apply IsS60.alloc | apply IsS60.drewN | apply IsS60.drew | apply IsS60.set_1 | apply IsS60.set_2 | refine IsS60.far ?_ NB151_147.out _) | exact HI151.out)) hg (IsS60.own_ne HI151.out HO_6.out (by decide))); have n2_ := Zad.mk (hb); have n3_ := Zad.mk (ho); clear BK147; clear HI151; clear HB; clear HO_6; have BK147 := n0_; have HI151 := n1_; have HB := n2_; have HO164 := n3_; clear n0_ n1_ n2_ n3_; clear ho hb hg hat)); try go_wp2_with (first | (go_at_call 20; (with_reducible refine (spec_l01Floor.calls (rd l1_1 x7_1) a1_0 t156 _ A10.out).mono ?_); rintro e w' ⟨rfl, ⟨nd, rfl⟩⟩; (try first | exact ⟨rfl, _, World.drewN_drewN _ _ _⟩ | exact ⟨rfl, _, Eq.trans (World.drewN_drewN _ _ _) (congrArg (World.drewN _) (Nat.add_assoc _ _ _))⟩)) | (go_at_call 21; (with_reducible refine (spec_l00Src_one.calls g151 t148 x152001_1 x152002_1 2 true t158 t159 w _ ?side1 ?side2 A11.out).mono ?_); (case side1 => repeat (first | (with_reducible first | exact HI151.out | apply IsS60.alloc | apply IsS60.drewN | apply IsS60.drew | apply IsS60.set_1 | apply IsS60.set_2 | refine IsS60.far ?_ NB151_147.out _) | exact HI151.out)); (case side2 => repeat (first | (with_reducible first | exact HB.out | apply Zac | apply Zaa | apply Zab | refine Zae ?_ (IsS60.ge HI151.out) | refine Zae ?_ GE147.out) | exact HB.out)); rintro e w17 ⟨rfl, hi, hb, hk⟩; have n0_ := Zad.mk (Kd.R_mono (Kd.R_keep (IsS60.apart (show IsS60 w _ g151 t148 x152001_1 x152002_1 from by repeat (first | (with_reducible first | exact HI151.out | apply IsS60.alloc | apply IsS60.drewN | apply IsS60.drew | apply IsS60.set_1 | apply IsS60.set_2 | refine IsS60.far ?_ NB151_147.out _) | exact HI151.out)) (by (with_reducible repeat (first | apply Kd.R_alloc | apply Kd.R_drewN | apply Kd.R_drew)); exact HO_6.out) (by decide)) hk (fun _ h => h.2)) (fun _ h => h.1)); have n1_ := Zad.mk (KeepBut.blk hk (g' := gb147) (o := .cells #[.int .i64 a1_0, .slice (some ad155) l1_1.length c1_1] 26 (0, 0)) (by (with_reducible repeat (first | refine Zag ?_ _ | refine Zah ?_ | refine Zaf ?_ _)); exact BK147.out) NB147_151.out (by simp)); have n2_ := Zad.mk (hb); have n3_ := Zad.mk (hi); clear HO_6; clear BK147; clear HB; clear HI151; have HO_6 := n0_; have BK147 := n1_; have HB := n2_; have HI151 := n3_; clear n0_ n1_ n2_ n3_; (try clear hb); (try clear hb2); (try clear hk); (try clear hi); have hcz18_0 : w17.cell? ⟨gb147, 0, none⟩ = some (.int .i64 a1_0) := (Zaj BK147.out 0).trans rfl; have hcz18_1 : w17.cell? ⟨gb147, 1, none⟩ = some (.slice (some ad155) l1_1.length c1_1) := (Zaj BK147.out 1).trans rfl; have hfz18_0 := Zai BK147.out 0; have hfz18_1 := Zai BK147.out 1; have p160 : 0 ≤ (x7_1 : Int) := of_decide_eq_true (by first | (with_reducible assumption) | assumption); have q160 : x7_1 < (l1_1.length : Int) := of_decide_eq_true (by first | (with_reducible assumption) | assumption); obtain ⟨ad160, e160, hx160_0⟩ := Kd.at_int HR1_1.out x7_1 p160 q160; obtain rfl : ad155 = ad160 := (by injection e160); replace hx160_0 := (HB.out.cell (World.block_lt_of_cell? w _ hx160_0)).trans hx160_0; replace p160 := eq_true p160; replace q160 := eq_true q160) | (go_at_call 22; (with_reducible refine (spec_l01Ceil.calls (rd l1_1 x7_1) a1_0 t161 _ A13.out).mono ?_); rintro e w' ⟨rfl, ⟨nd, rfl⟩⟩; (try first | exact ⟨rfl, _, World.drewN_drewN _ _ _⟩ | exact ⟨rfl, _, Eq.trans (World.drewN_drewN _ _ _) (congrArg (World.drewN _) (Nat.add_assoc _ _ _))⟩)) | ((with_reducible refine gate_builtin (b := .append) (xs := #[.tmp 37, .tmp 39]) rfl ?_); at_builtin; refine Kd.R_append (Kd.int .i64) (w0 := w) w.heap.size rfl (.tmp 37) (.tmp 39) 24 2 (.int .i64 0) 8 rfl Tryz.underlying24 info2 rfl (by decide) (by omega) u6 x6_1 t161 [.int .i64 t161] (fun _ => True) (fun _ => False) rfl rfl ?aP (fun _ hk => hk.elim) ?aF ?aO ?aB ?aS ?aL ?_; (case aP => exact rfl); (case aB => exact (by repeat (first | (with_reducible first | exact HB.out | apply Zac | apply Zaa | apply Zab | refine Zae ?_ (IsS60.ge HI151.out) | refine Zae ?_ GE147.out) | exact HB.out))); (case aF => exact (fun _ _ => trivial)); (case aO => exact (by (with_reducible repeat (first | apply Kd.R_alloc | apply Kd.R_drewN | apply Kd.R_drew)); exact HO_6.out)); (case aS => exact (Zam (by repeat (first | (with_reducible first | exact HB.out | apply Zac | apply Zaa | apply Zab | refine Zae ?_ (IsS60.ge HI151.out) | refine Zae ?_ GE147.out) | exact HB.out)))); (case aL => have := LMc14.out; omega); intro v163 w19 ho hb hg hat; rw [← Ny162.out] at ho; have n0_ := Zad.mk (blk_grown (g := gb147) (o := .cells #[.int .i64 a1_0, .slice (some ad155) l1_1.length c1_1] 26 (0, 0)) (by (with_reducible repeat (first | refine Zag ?_ _ | refine Zah ?_ | refine Zaf ?_ _)); exact BK147.out) hg (Kd.R_ne HO_6.out BK147.out (by decide))); have n1_ := Zad.mk (IsS60.grown (by repeat (first | (with_reducible first | exact HI151.out | apply IsS60.alloc | apply IsS60.drewN | apply IsS60.drew | apply IsS60.set_1 | apply IsS60.set_2 | refine IsS60.far ?_ NB151_147.out _) | exact HI151.out)) hg (IsS60.own_ne HI151.out HO_6.out (by decide))); have n2_ := Zad.mk (hb); have n3_ := Zad.mk (ho); clear BK147; clear HI151; clear HB; clear HO_6; have BK147 := n0_; have HI151 := n1_; have HB := n2_; have HO164 := n3_; clear n0_ n1_ n2_ n3_; clear ho hb hg hat)))
       go_roundg k1
       case measure => have := HK1.out; omega
       case rel => exact ⟨(y162), (wrap64 (x7_1 + 1)), (t158), (t159), (by first | rfl | (simp; done) | (simp [*]; done) | (simp [IntWalk.i64_left, *]; done)), H', ⟨by have := HK1.out; omega⟩, ⟨by (with_reducible repeat (first | apply Kd.R_alloc | apply Kd.R_drewN | apply Kd.R_drew)); exact HO164.out⟩, ⟨by (with_reducible repeat (first | refine Zag ?_ _ | refine Zah ?_ | refine Zaf ?_ _)); exact BK147.out⟩, ⟨by repeat (first | (with_reducible first | exact HI151.out | apply IsS60.alloc | apply IsS60.drewN | apply IsS60.drew | apply IsS60.set_1 | apply IsS60.set_2 | refine IsS60.far ?_ NB151_147.out _) | exact HI151.out)⟩, ⟨by repeat (first | (with_reducible first | exact HB.out | apply Zac | apply Zaa | apply Zab | refine Zae ?_ (IsS60.ge HI151.out) | refine Zae ?_ GE147.out) | exact HB.out)⟩⟩
      ·rw [if_neg c14] at H
       exact absurd H (by simp)
     ·replace c12 := Bool.eq_false_iff.mpr c12
      subst c12
      have H1 : (if x6_1.length < 17592186044416 then (Zay.l0 k1 (x6_1 ++ [t156]) (wrap64 (x7_1 + 1)) a1_0 l1_1 t148 t158 t159) else (none)) = some r := by rw [if_neg (show ¬ (false = true) by decide)] at H; exact H
      clear H
      have H := H1
      clear H1
      by_cases c20 : x6_1.length < 17592186044416
      ·rw [if_pos c20] at H
       have LMc20 := Zad.mk c20
       clear c20
       obtain ⟨y165, hy165⟩ : ∃ y_ : List Int, y_ = (x6_1 ++ [t156]) := ⟨_, rfl⟩
       replace H : (Zay.l0 k1 y165 (wrap64 (x7_1 + 1)) a1_0 l1_1 t148 t158 t159) = some r := by first | (rw [hy165]; with_reducible exact H) | (have H2_ := (Option.bind_some _ _).symm.trans H; rw [hy165]; with_reducible exact H2_) | (have H2_ := (Option.bind_some _ _).symm.trans H; with_reducible exact H2_) | with_reducible exact H | (rw [hy165]; exact H) | exact H
       have Ny165 := Zad.mk hy165
       clear hy165
       have H' := Zad.mk H
       clear H
       have hnb21 := NB147_151.out
       have hnc21 := NB151_147.out
       have hcz22_0 : wr.cell? ⟨gb147, 0, none⟩ = some (.int .i64 a1_0) := (Zaj BK147.out 0).trans rfl
       have hcz22_1 : wr.cell? ⟨gb147, 1, none⟩ = some (.slice A1_1 l1_1.length c1_1) := (Zaj BK147.out 1).trans rfl
       have hfz22_0 := Zai BK147.out 0
       have hfz22_1 := Zai BK147.out 1
       have p155 : 0 ≤ (x7_1 : Int) := of_decide_eq_true (by first | (with_reducible assumption) | assumption)
       have q155 : x7_1 < (l1_1.length : Int) := of_decide_eq_true (by first | (with_reducible assumption) | assumption)
       obtain ⟨ad155, e155, hx155_0⟩ := Kd.at_int HR1_1.out x7_1 p155 q155
       cases e155
       replace hx155_0 := (HB.out.cell (World.block_lt_of_cell? w _ hx155_0)).trans hx155_0
       replace p155 := eq_true p155
       replace q155 := eq_true q155
       go_wp2_with (first | (go_at_call 20; (with_reducible refine (spec_l01Floor.calls (rd l1_1 x7_1) a1_0 t156 _ A10.out).mono ?_); rintro e w' ⟨rfl, ⟨nd, rfl⟩⟩; (try first | exact ⟨rfl, _, World.drewN_drewN _ _ _⟩ | exact ⟨rfl, _, Eq.trans (World.drewN_drewN _ _ _) (congrArg (World.drewN _) (Nat.add_assoc _ _ _))⟩)) | (go_at_call 21; (with_reducible refine (spec_l00Src_one.calls g151 t148 x152001_1 x152002_1 2 false t158 t159 w _ ?side1 ?side2 A11.out).mono ?_); (case side1 => repeat (first | (with_reducible first | exact HI151.out | apply IsS60.alloc | apply IsS60.drewN | apply IsS60.drew | apply IsS60.set_1 | apply IsS60.set_2 | refine IsS60.far ?_ NB151_147.out _) | exact HI151.out)); (case side2 => repeat (first | (with_reducible first | exact HB.out | apply Zac | apply Zaa | apply Zab | refine Zae ?_ (IsS60.ge HI151.out) | refine Zae ?_ GE147.out) | exact HB.out)); rintro e w23 ⟨rfl, hi, hb, hk⟩; have n0_ := Zad.mk (Kd.R_mono (Kd.R_keep (IsS60.apart (show IsS60 w _ g151 t148 x152001_1 x152002_1 from by repeat (first | (with_reducible first | exact HI151.out | apply IsS60.alloc | apply IsS60.drewN | apply IsS60.drew | apply IsS60.set_1 | apply IsS60.set_2 | refine IsS60.far ?_ NB151_147.out _) | exact HI151.out)) (by (with_reducible repeat (first | apply Kd.R_alloc | apply Kd.R_drewN | apply Kd.R_drew)); exact HO_6.out) (by decide)) hk (fun _ h => h.2)) (fun _ h => h.1)); have n1_ := Zad.mk (KeepBut.blk hk (g' := gb147) (o := .cells #[.int .i64 a1_0, .slice (some ad155) l1_1.length c1_1] 26 (0, 0)) (by (with_reducible repeat (first | refine Zag ?_ _ | refine Zah ?_ | refine Zaf ?_ _)); exact BK147.out) NB147_151.out (by simp)); have n2_ := Zad.mk (hb); have n3_ := Zad.mk (hi); clear HO_6; clear BK147; clear HB; clear HI151; have HO_6 := n0_; have BK147 := n1_; have HB := n2_; have HI151 := n3_; clear n0_ n1_ n2_ n3_; (try clear hb); (try clear hb2); (try clear hk); (try clear hi)) | ((with_reducible refine gate_builtin (b := .append) (xs := #[.tmp 37, .tmp 39]) rfl ?_); at_builtin; refine Kd.R_append (Kd.int .i64) (w0 := w) w.heap.size rfl (.tmp 37) (.tmp 39) 24 2 (.int .i64 0) 8 rfl Tryz.underlying24 info2 rfl (by decide) (by omega) u6 x6_1 t156 [.int .i64 t156] (fun _ => True) (fun _ => False) rfl rfl ?aP (fun _ hk => hk.elim) ?aF ?aO ?aB ?aS ?aL ?_; (case aP => exact rfl); (case aB => exact (by repeat (first | (with_reducible first | exact HB.out | apply Zac | apply Zaa | apply Zab | refine Zae ?_ (IsS60.ge HI151.out) | refine Zae ?_ GE147.out) | exact HB.out))); (case aF => exact (fun _ _ => trivial)); (case aO => exact (by (with_reducible repeat (first | apply Kd.R_alloc | apply Kd.R_drewN | apply Kd.R_drew)); exact HO_6.out)); (case aS => exact (Zam (by repeat (first | (with_reducible first | exact HB.out | apply Zac | apply Zaa | apply Zab | refine Zae ?_ (IsS60.ge HI151.out) | refine Zae ?_ GE147.out) | exact HB.out)))); (case aL => have := LMc20.out; omega); intro v166 w24 ho hb hg hat; rw [← Ny165.out] at ho; have n0_ := Zad.mk (blk_grown (g := gb147) (o := .cells #[.int .i64 a1_0, .slice (some ad155) l1_1.length c1_1] 26 (0, 0)) (by (with_reducible repeat (first | refine Zag ?_ _ | refine Zah ?_ | refine Zaf ?_ _)); exact BK147.out) hg (Kd.R_ne HO_6.out BK147.out (by decide))); have n1_ := Zad.mk (IsS60.grown (by repeat (first | (with_reducible first | exact HI151.out | apply IsS60.alloc | apply IsS60.drewN | apply IsS60.drew | apply IsS60.set_1 | apply IsS60.set_2 | refine IsS60.far ?_ NB151_147.out _) | exact HI151.out)) hg (IsS60.own_ne HI151.out HO_6.out (by decide))); have n2_ := Zad.mk (hb); have n3_ := Zad.mk (ho); clear BK147; clear HI151; clear HB; clear HO_6; have BK147 := n0_; have HI151 := n1_; have HB := n2_; have HO167 := n3_; clear n0_ n1_ n2_ n3_; clear ho hb hg hat))
       repeat (go_quiet (first | (go_at_call 20; (with_reducible refine (spec_l01Floor.calls (rd l1_1 x7_1) a1_0 t156 _ A10.out).mono ?_); rintro e w' ⟨rfl, ⟨nd, rfl⟩⟩; (try first | exact ⟨rfl, _, World.drewN_drewN _ _ _⟩ | exact ⟨rfl, _, Eq.trans (World.drewN_drewN _ _ _) (congrArg (World.drewN _) (Nat.add_assoc _ _ _))⟩)) | (go_at_call 21; (with_reducible refine (spec_l00Src_one.calls g151 t148 x152001_1 x152002_1 2 false t158 t159 w _ ?side1 ?side2 A11.out).mono ?_); (case side1 => repeat (first | (with_reducible first | exact HI151.out | apply IsS60.alloc | apply IsS60.drewN | apply IsS60.drew | apply IsS60.set_1 | apply IsS60.set_2 | refine IsS60.far ?_ NB151_147.out _) | exact HI151.out)); (case side2 => repeat (first | (with_reducible first | exact HB.out | apply Zac | apply Zaa | apply Zab | refine Zae ?_ (IsS60.ge HI151.out) | refine Zae ?_ GE147.out) | exact HB.out)); rintro e w23 ⟨rfl, hi, hb, hk⟩; have n0_ := Zad.mk (Kd.R_mono (Kd.R_keep (IsS60.apart (show IsS60 w _ g151 t148 x152001_1 x152002_1 from by repeat (first | (with_reducible first | exact HI151.out | apply IsS60.alloc | apply IsS60.drewN | apply IsS60.drew | apply IsS60.set_1 | apply IsS60.set_2 | refine IsS60.far ?_ NB151_147.out _) | exact HI151.out)) (by (with_reducible repeat (first | apply Kd.R_alloc | apply Kd.R_drewN | apply Kd.R_drew)); exact HO_6.out) (by decide)) hk (fun _ h => h.2)) (fun _ h => h.1)); have n1_ := Zad.mk (KeepBut.blk hk (g' := gb147) (o := .cells #[.int .i64 a1_0, .slice (some ad155) l1_1.length c1_1] 26 (0, 0)) (by (with_reducible repeat (first | refine Zag ?_ _ | refine Zah ?_ | refine Zaf ?_ _)); exact BK147.out) NB147_151.out (by simp)); have n2_ := Zad.mk (hb); have n3_ := Zad.mk (hi); clear HO_6; clear BK147; clear HB; clear HI151; have HO_6 := n0_; have BK147 := n1_; have HB := n2_; have HI151 := n3_; clear n0_ n1_ n2_ n3_; (try clear hb); (try clear hb2); (try clear hk); (try clear hi)) | ((with_reducible refine gate_builtin (b := .append) (xs := #[.tmp 37, .tmp 39]) rfl ?_); at_builtin; refine Kd.R_append (Kd.int .i64) (w0 := w) w.heap.size rfl (.tmp 37) (.tmp 39) 24 2 (.int .i64 0) 8 rfl Tryz.underlying24 info2 rfl (by decide) (by omega) u6 x6_1 t156 [.int .i64 t156] (fun _ => True) (fun _ => False) rfl rfl ?aP (fun _ hk => hk.elim) ?aF ?aO ?aB ?aS ?aL ?_; (case aP => exact rfl); (case aB => exact (by repeat (first | (with_reducible first | exact HB.out | apply Zac | apply Zaa | apply Zab | refine Zae ?_ (IsS60.ge HI151.out) | refine Zae ?_ GE147.out) | exact HB.out))); (case aF => exact (fun _ _ => trivial)); (case aO => exact (by (with_reducible repeat (first | apply Kd.R_alloc | apply Kd.R_drewN | apply Kd.R_drew)); exact HO_6.out)); (case aS => exact (Zam (by repeat (first | (with_reducible first | exact HB.out | apply Zac | apply Zaa | apply Zab | refine Zae ?_ (IsS60.ge HI151.out) | refine Zae ?_ GE147.out) | exact HB.out)))); (case aL => have := LMc20.out; omega); intro v166 w24 ho hb hg hat; rw [← Ny165.out] at ho; have n0_ := Zad.mk (blk_grown (g := gb147) (o := .cells #[.int .i64 a1_0, .slice (some ad155) l1_1.length c1_1] 26 (0, 0)) (by (with_reducible repeat (first | refine Zag ?_ _ | refine Zah ?_ | refine Zaf ?_ _)); exact BK147.out) hg (Kd.R_ne HO_6.out BK147.out (by decide))); have n1_ := Zad.mk (IsS60.grown (by repeat (first | (with_reducible first | exact HI151.out | apply IsS60.alloc | apply IsS60.drewN | apply IsS60.drew | apply IsS60.set_1 | apply IsS60.set_2 | refine IsS60.far ?_ NB151_147.out _) | exact HI151.out)) hg (IsS60.own_ne HI151.out HO_6.out (by decide))); have n2_ := Zad.mk (hb); have n3_ := Zad.mk (ho); clear BK147; clear HI151; clear HB; clear HO_6; have BK147 := n0_; have HI151 := n1_; have HB := n2_; have HO167 := n3_; clear n0_ n1_ n2_ n3_; clear ho hb hg hat)); try go_wp2_with (first | (go_at_call 20; (with_reducible refine (spec_l01Floor.calls (rd l1_1 x7_1) a1_0 t156 _ A10.out).mono ?_); rintro e w' ⟨rfl, ⟨nd, rfl⟩⟩; (try first | exact ⟨rfl, _, World.drewN_drewN _ _ _⟩ | exact ⟨rfl, _, Eq.trans (World.drewN_drewN _ _ _) (congrArg (World.drewN _) (Nat.add_assoc _ _ _))⟩)) | (go_at_call 21; (with_reducible refine (spec_l00Src_one.calls g151 t148 x152001_1 x152002_1 2 false t158 t159 w _ ?side1 ?side2 A11.out).mono ?_); (case side1 => repeat (first | (with_reducible first | exact HI151.out | apply IsS60.alloc | apply IsS60.drewN | apply IsS60.drew | apply IsS60.set_1 | apply IsS60.set_2 | refine IsS60.far ?_ NB151_147.out _) | exact HI151.out)); (case side2 => repeat (first | (with_reducible first | exact HB.out | apply Zac | apply Zaa | apply Zab | refine Zae ?_ (IsS60.ge HI151.out) | refine Zae ?_ GE147.out) | exact HB.out)); rintro e w23 ⟨rfl, hi, hb, hk⟩; have n0_ := Zad.mk (Kd.R_mono (Kd.R_keep (IsS60.apart (show IsS60 w _ g151 t148 x152001_1 x152002_1 from by repeat (first | (with_reducible first | exact HI151.out | apply IsS60.alloc | apply IsS60.drewN | apply IsS60.drew | apply IsS60.set_1 | apply IsS60.set_2 | refine IsS60.far ?_ NB151_147.out _) | exact HI151.out)) (by (with_reducible repeat (first | apply Kd.R_alloc | apply Kd.R_drewN | apply Kd.R_drew)); exact HO_6.out) (by decide)) hk (fun _ h => h.2)) (fun _ h => h.1)); have n1_ := Zad.mk (KeepBut.blk hk (g' := gb147) (o := .cells #[.int .i64 a1_0, .slice (some ad155) l1_1.length c1_1] 26 (0, 0)) (by (with_reducible repeat (first | refine Zag ?_ _ | refine Zah ?_ | refine Zaf ?_ _)); exact BK147.out) NB147_151.out (by simp)); have n2_ := Zad.mk (hb); have n3_ := Zad.mk (hi); clear HO_6; clear BK147; clear HB; clear HI151; have HO_6 := n0_; have BK147 := n1_; have HB := n2_; have HI151 := n3_; clear n0_ n1_ n2_ n3_; (try clear hb); (try clear hb2); (try clear hk); (try clear hi)) | ((with_reducible refine gate_builtin (b := .append) (xs := #[.tmp 37, .tmp 39]) rfl ?_); at_builtin; refine Kd.R_append (Kd.int .i64) (w0 := w) w.heap.size rfl (.tmp 37) (.tmp 39) 24 2 (.int .i64 0) 8 rfl Tryz.underlying24 info2 rfl (by decide) (by omega) u6 x6_1 t156 [.int .i64 t156] (fun _ => True) (fun _ => False) rfl rfl ?aP (fun _ hk => hk.elim) ?aF ?aO ?aB ?aS ?aL ?_; (case aP => exact rfl); (case aB => exact (by repeat (first | (with_reducible first | exact HB.out | apply Zac | apply Zaa | apply Zab | refine Zae ?_ (IsS60.ge HI151.out) | refine Zae ?_ GE147.out) | exact HB.out))); (case aF => exact (fun _ _ => trivial)); (case aO => exact (by (with_reducible repeat (first | apply Kd.R_alloc | apply Kd.R_drewN | apply Kd.R_drew)); exact HO_6.out)); (case aS => exact (Zam (by repeat (first | (with_reducible first | exact HB.out | apply Zac | apply Zaa | apply Zab | refine Zae ?_ (IsS60.ge HI151.out) | refine Zae ?_ GE147.out) | exact HB.out)))); (case aL => have := LMc20.out; omega); intro v166 w24 ho hb hg hat; rw [← Ny165.out] at ho; have n0_ := Zad.mk (blk_grown (g := gb147) (o := .cells #[.int .i64 a1_0, .slice (some ad155) l1_1.length c1_1] 26 (0, 0)) (by (with_reducible repeat (first | refine Zag ?_ _ | refine Zah ?_ | refine Zaf ?_ _)); exact BK147.out) hg (Kd.R_ne HO_6.out BK147.out (by decide))); have n1_ := Zad.mk (IsS60.grown (by repeat (first | (with_reducible first | exact HI151.out | apply IsS60.alloc | apply IsS60.drewN | apply IsS60.drew | apply IsS60.set_1 | apply IsS60.set_2 | refine IsS60.far ?_ NB151_147.out _) | exact HI151.out)) hg (IsS60.own_ne HI151.out HO_6.out (by decide))); have n2_ := Zad.mk (hb); have n3_ := Zad.mk (ho); clear BK147; clear HI151; clear HB; clear HO_6; have BK147 := n0_; have HI151 := n1_; have HB := n2_; have HO167 := n3_; clear n0_ n1_ n2_ n3_; clear ho hb hg hat)))
       go_roundg k1
       case measure => have := HK1.out; omega
       case rel => exact ⟨(y165), (wrap64 (x7_1 + 1)), (t158), (t159), (by first | rfl | (simp; done) | (simp [*]; done) | (simp [IntWalk.i64_left, *]; done)), H', ⟨by have := HK1.out; omega⟩, ⟨by (with_reducible repeat (first | apply Kd.R_alloc | apply Kd.R_drewN | apply Kd.R_drew)); exact HO167.out⟩, ⟨by (with_reducible repeat (first | refine Zag ?_ _ | refine Zah ?_ | refine Zaf ?_ _)); exact BK147.out⟩, ⟨by repeat (first | (with_reducible first | exact HI151.out | apply IsS60.alloc | apply IsS60.drewN | apply IsS60.drew | apply IsS60.set_1 | apply IsS60.set_2 | refine IsS60.far ?_ NB151_147.out _) | exact HI151.out)⟩, ⟨by repeat (first | (with_reducible first | exact HB.out | apply Zac | apply Zaa | apply Zab | refine Zae ?_ (IsS60.ge HI151.out) | refine Zae ?_ GE147.out) | exact HB.out)⟩⟩
      ·rw [if_neg c20] at H
       exact absurd H (by simp)
    ·rw [if_neg c9] at H
     exact absurd H (by simp)
   ·rw [if_neg c8] at H
    have c8b0 : decide (x7_1 < (l1_1.length : Int)) = false := decide_eq_false c8
    clear c8
    obtain rfl := Option.some.inj H
    have hnb25 := NB147_151.out
    have hnc25 := NB151_147.out
    have hcz26_0 : wr.cell? ⟨gb147, 0, none⟩ = some (.int .i64 a1_0) := (Zaj BK147.out 0).trans rfl
    have hcz26_1 : wr.cell? ⟨gb147, 1, none⟩ = some (.slice A1_1 l1_1.length c1_1) := (Zaj BK147.out 1).trans rfl
    have hfz26_0 := Zai BK147.out 0
    have hfz26_1 := Zai BK147.out 1
    go_wp2
    repeat (go_quiet (fail); try go_wp2)
    go_ret
    exact ⟨_, by first | rfl | (simp [Zao, Zan] <;> rfl) | (simp [*, Zao, Zan] <;> rfl), by (with_reducible repeat (first | apply Kd.R_alloc | apply Kd.R_drewN | apply Kd.R_drew)); exact HO_6.out, by repeat (first | (with_reducible first | exact HB.out | apply Zac | apply Zaa | apply Zab | refine Zae ?_ (IsS60.ge HI151.out) | refine Zae ?_ GE147.out) | exact HB.out)⟩
def impl_within.f (a0 : Int) (a1 : Int) (a2 : Int) : Option (Bool) := if a1 ≤ a0 then (some (decide (a0 ≤ a2))) else (some false)
set_option maxHeartbeats 8000000 in
set_option maxRecDepth 100000 in
theorem impl_within.calls (a0 : Int) (a1 : Int) (a2 : Int) (r : Bool) (w : World) (h : impl_within.f a0 a1 a2 = some r) :
  Calls Tryz.prog 38 #[.int .i64 a0, .int .i64 a1, .int .i64 a2] w fun e w' => e = .returned (.bool r) ∧ Drawn0 w w' := by
 have H : (if a1 ≤ a0 then (some (decide (a0 ≤ a2))) else (some false)) = some r := h
 clear h
 by_cases c4 : a1 ≤ a0
 ·rw [if_pos c4] at H
  have c4b0 : decide (a1 ≤ a0) = true := decide_eq_true c4
  clear c4
  obtain rfl := Option.some.inj H
  go_enter Tryz.func38, Tryz.ntmps38
  go_wp2
  go_ret
  exact ⟨by first | rfl | (simp; done) | (simp [*]; done), by repeat (first | exact Drawn0.refl _ | apply Drawn0.step)⟩
 ·rw [if_neg c4] at H
  have c4b0 : decide (a1 ≤ a0) = false := decide_eq_false c4
  clear c4
  obtain rfl := Option.some.inj H
  go_enter Tryz.func38, Tryz.ntmps38
  go_wp2
  go_ret
  exact ⟨by first | rfl | (simp; done) | (simp [*]; done), by repeat (first | exact Drawn0.refl _ | apply Drawn0.step)⟩
def impl_areWithin_1_v.f (a0 : Int) (a1_0 : Int) (a2_0 : Int) : Option (Bool) := (impl_within.f a0 a1_0 a2_0).bind fun t168 => (some (!t168))
set_option maxHeartbeats 8000000 in
set_option maxRecDepth 100000 in
theorem impl_areWithin_1_v.calls (a0 : Int) (gp50 : Nat) (a1_0 : Int) (gp51 : Nat) (a2_0 : Int) (r : Bool) (w : World) (hb50 : w.heap[gp50]? = some (.cells #[.int .i64 a1_0] 2 (0, 0))) (hb51 : w.heap[gp51]? = some (.cells #[.int .i64 a2_0] 2 (0, 0))) (h : impl_areWithin_1_v.f a0 a1_0 a2_0 = some r) :
  Calls Tryz.prog 40 #[.int .i64 a0, .pointer (some ⟨gp50, 0, none⟩), .pointer (some ⟨gp51, 0, none⟩)] w fun e w' => e = .returned (.bool r) ∧ Below w.heap.size w w' := by
 have BK50 := Zad.mk hb50
 clear hb50
 have BK51 := Zad.mk hb51
 clear hb51
 have HB := Zad.mk (Below.refl w.heap.size w)
 have H : ((impl_within.f a0 a1_0 a2_0).bind fun t168 => (some (!t168))) = some r := h
 clear h
 replace H := Option.bind_eq_some_iff.mp H
 obtain ⟨t168, A40, H⟩ := H
 replace H : (some (!t168)) = some r := H
 have A4 := Zad.mk A40
 clear A40
 obtain rfl := Option.some.inj H
 have hcz5_0 : w.cell? ⟨gp50, 0, none⟩ = some (.int .i64 a1_0) := (Zaj BK50.out 0).trans rfl
 have hfz5_0 := Zai BK50.out 0
 have hcz6_0 : w.cell? ⟨gp51, 0, none⟩ = some (.int .i64 a2_0) := (Zaj BK51.out 0).trans rfl
 have hfz6_0 := Zai BK51.out 0
 go_enter Tryz.func40, Tryz.ntmps40
 go_wp2_with (first | ((with_reducible refine Zar (f := 38) rfl ?_); refine goesL_ (some 8) rfl rfl Tryz.func38 (by kernel_rfl) rfl #[.int .i64 a0, .int .i64 a1_0, .int .i64 a2_0] rfl (by (try simp only [List.map_toArray, List.map_cons, List.map_nil]); first | done | rfl | (simp only [List.length_drop, List.length_take]; rfl)) ?_; (with_reducible refine (impl_within.calls a0 a1_0 a2_0 t168 _ A4.out).mono ?_); rintro e w' ⟨rfl, ⟨nd, rfl⟩⟩; refine ⟨_, rfl, ?_⟩))
 go_ret
 exact ⟨by first | rfl | (simp [Zao, Zan] <;> rfl) | (simp [*, Zao, Zan] <;> rfl), by repeat (first | (with_reducible first | exact HB.out | apply Zac | apply Zaa | apply Zab | refine Zae ?_ GE50.out | refine Zae ?_ GE51.out) | exact HB.out)⟩
def Zaq.l0 : Nat → List Int → Int → Int → Int → Int → Option (Int)
 | 0, _, _, _, _, _ => none
 | k + 1, x0, x7, x8, x51000, x52000 => if x8 < x7 then (if 0 ≤ x8 then (if x8 < (x0.length : Int) then ((impl_areWithin_1_v.f (rd x0 x8) x51000 x52000).bind fun t169 => (if t169 = true then (some x8) else (Zaq.l0 k x0 x7 (wrap64 (x8 + 1)) x51000 x52000))) else (none)) else (none)) else (some (-1))
def Zaq.f (k : Nat) (l0 : List Int) (a1_0 : Int) (a1_1 : Int) : Option (Int) := Zaq.l0 k l0 (l0.length : Int) 0 a1_0 a1_1
set_option maxHeartbeats 8000000 in
set_option maxRecDepth 100000 in
theorem Zaq.calls (k : Nat) (A0 : Option Addr) (c0 : Nat) (l0 : List Int) (gp50 : Nat) (gp51 : Nat) (a1_0 : Int) (a1_1 : Int) (r : Int) (w : World) (hr0 : Kd.C (Kd.int .i64) w A0 l0.length l0) (hc0 : l0.length ≤ c0) (hb50 : w.heap[gp50]? = some (.cells #[.int .i64 a1_0] 2 (0, 0))) (hb51 : w.heap[gp51]? = some (.cells #[.int .i64 a1_1] 2 (0, 0))) (h : Zaq.f k l0 a1_0 a1_1 = some r) :
  Calls Tryz.prog 52 #[.slice A0 l0.length c0, .func (.func 40) #[] #[.pointer (some ⟨gp50, 0, none⟩), .pointer (some ⟨gp51, 0, none⟩)]] w fun e w' => e = .returned (.int .i64 r) ∧ Below w.heap.size w w' := by
 have HR0 := Zad.mk hr0
 have HC0 := Zad.mk hc0
 clear hr0 hc0
 have BK50 := Zad.mk hb50
 clear hb50
 have BK51 := Zad.mk hb51
 clear hb51
 have HB := Zad.mk (Below.refl w.heap.size w)
 have H : (Zaq.l0 k l0 (l0.length : Int) 0 a1_0 a1_1) = some r := h
 clear h
 have H' := Zad.mk H
 clear H
 go_enter Tryz.func52, Tryz.ntmps52
 go_wp2
 go_loopg [8] k (fun kq v8 w' => ∃ (x8_1 : Int), v8 = .int .i64 x8_1 ∧ Zad (Zaq.l0 kq l0 (l0.length : Int) x8_1 a1_0 a1_1 = some r) ∧ Zad (kq ≤ k) ∧ Zad (w'.heap[gp50]? = some (.cells #[.int .i64 a1_0] 2 (0, 0))) ∧ Zad (w'.heap[gp51]? = some (.cells #[.int .i64 a1_1] 2 (0, 0))) ∧ Zad (Below w.heap.size w w'))
 case atStart => exact ⟨(0), (by first | rfl | (simp; done) | (simp [*]; done)), H', ⟨Nat.le_refl _⟩, ⟨by (with_reducible repeat (first | refine Zag ?_ _ | refine Zah ?_ | refine Zaf ?_ _)); exact BK50.out⟩, ⟨by (with_reducible repeat (first | refine Zag ?_ _ | refine Zah ?_ | refine Zaf ?_ _)); exact BK51.out⟩, ⟨by repeat (first | (with_reducible first | exact HB.out | apply Zac | apply Zaa | apply Zab | refine Zae ?_ GE50.out | refine Zae ?_ GE51.out) | exact HB.out)⟩⟩
 case round =>
  clear H'
  try clear p2
  obtain ⟨x8_1, rfl, HA, HK1, BK50, BK51, HB⟩ := hrel
  cases gk with
  | zero => exact absurd HA.out (by simp [Zaq.l0])
  | succ k1 =>
   have H := HA.out
   clear HA
   simp only [Zaq.l0] at H
   by_cases c3 : x8_1 < (l0.length : Int)
   ·rw [if_pos c3] at H
    have c3b0 : decide (x8_1 < (l0.length : Int)) = true := decide_eq_true c3
    clear c3
    by_cases c4 : 0 ≤ x8_1
    ·rw [if_pos c4] at H
     have c4b0 : decide (0 ≤ x8_1) = true := decide_eq_true c4
     clear c4
     by_cases c5 : x8_1 < (l0.length : Int)
     ·rw [if_pos c5] at H
      have c5b0 : decide (x8_1 < (l0.length : Int)) = true := decide_eq_true c5
      clear c5
      replace H := Option.bind_eq_some_iff.mp H
      obtain ⟨t169, A60, H⟩ := H
      replace H : (if t169 = true then (some x8_1) else (Zaq.l0 k1 l0 (l0.length : Int) (wrap64 (x8_1 + 1)) a1_0 a1_1)) = some r := H
      have A6 := Zad.mk A60
      clear A60
      by_cases c7 : t169 = true
      ·subst c7
       have H1 : (some x8_1) = some r := by rw [if_pos rfl] at H; exact H
       clear H
       have H := H1
       clear H1
       obtain rfl := Option.some.inj H
       have p168 : 0 ≤ (x8_1 : Int) := of_decide_eq_true (by first | (with_reducible assumption) | assumption)
       have q168 : x8_1 < (l0.length : Int) := of_decide_eq_true (by first | (with_reducible assumption) | assumption)
       obtain ⟨ad168, e168, hx168_0⟩ := Kd.at_int HR0.out x8_1 p168 q168
       cases e168
       replace hx168_0 := (HB.out.cell (World.block_lt_of_cell? w _ hx168_0)).trans hx168_0
       replace p168 := eq_true p168
       replace q168 := eq_true q168
       go_wp2_with (first | ((with_reducible refine gate_through (j := 11) rfl ?_); refine goesV_ (some 16) rfl rfl Tryz.func40 (by kernel_rfl) rfl #[.int .i64 (rd l0 x8_1), .pointer (some ⟨gp50, 0, none⟩), .pointer (some ⟨gp51, 0, none⟩)] rfl rfl (by (try simp only [List.map_toArray, List.map_cons, List.map_nil]); first | done | rfl | (simp only [List.length_drop, List.length_take]; rfl)) ?_; (with_reducible refine (impl_areWithin_1_v.calls (rd l0 x8_1) gp50 a1_0 gp51 a1_1 true _ ?side1 ?side2 A6.out).mono ?_); (case side1 => exact (by (with_reducible repeat (first | refine Zag ?_ _ | refine Zah ?_ | refine Zaf ?_ _)); exact BK50.out)); (case side2 => exact (by (with_reducible repeat (first | refine Zag ?_ _ | refine Zah ?_ | refine Zaf ?_ _)); exact BK51.out)); rintro e w8 ⟨rfl, hb⟩; refine ⟨_, rfl, ?_⟩; have n0_ := Zad.mk (Zap (g := gp50) (o := .cells #[.int .i64 a1_0] 2 (0, 0)) (by (with_reducible repeat (first | refine Zag ?_ _ | refine Zah ?_ | refine Zaf ?_ _)); exact BK50.out) hb); have n1_ := Zad.mk (Zap (g := gp51) (o := .cells #[.int .i64 a1_1] 2 (0, 0)) (by (with_reducible repeat (first | refine Zag ?_ _ | refine Zah ?_ | refine Zaf ?_ _)); exact BK51.out) hb); have n2_ := Zad.mk (Zak (by repeat (first | (with_reducible first | exact HB.out | apply Zac | apply Zaa | apply Zab | refine Zae ?_ GE50.out | refine Zae ?_ GE51.out) | exact HB.out)) hb); clear BK50; clear BK51; clear HB; have BK50 := n0_; have BK51 := n1_; have HB := n2_; clear n0_ n1_ n2_; (try clear hb); (try clear hb2); (try clear hk); (try clear hi)))
       go_ret
       exact ⟨by first | rfl | (simp [Zao, Zan] <;> rfl) | (simp [*, Zao, Zan] <;> rfl), by repeat (first | (with_reducible first | exact HB.out | apply Zac | apply Zaa | apply Zab | refine Zae ?_ GE50.out | refine Zae ?_ GE51.out) | exact HB.out)⟩
      ·replace c7 := Bool.eq_false_iff.mpr c7
       subst c7
       have H1 : (Zaq.l0 k1 l0 (l0.length : Int) (wrap64 (x8_1 + 1)) a1_0 a1_1) = some r := by rw [if_neg (show ¬ (false = true) by decide)] at H; exact H
       clear H
       have H := H1
       clear H1
       have H' := Zad.mk H
       clear H
       have p168 : 0 ≤ (x8_1 : Int) := of_decide_eq_true (by first | (with_reducible assumption) | assumption)
       have q168 : x8_1 < (l0.length : Int) := of_decide_eq_true (by first | (with_reducible assumption) | assumption)
       obtain ⟨ad168, e168, hx168_0⟩ := Kd.at_int HR0.out x8_1 p168 q168
       cases e168
       replace hx168_0 := (HB.out.cell (World.block_lt_of_cell? w _ hx168_0)).trans hx168_0
       replace p168 := eq_true p168
       replace q168 := eq_true q168
       go_wp2_with (first | ((with_reducible refine gate_through (j := 11) rfl ?_); refine goesV_ (some 16) rfl rfl Tryz.func40 (by kernel_rfl) rfl #[.int .i64 (rd l0 x8_1), .pointer (some ⟨gp50, 0, none⟩), .pointer (some ⟨gp51, 0, none⟩)] rfl rfl (by (try simp only [List.map_toArray, List.map_cons, List.map_nil]); first | done | rfl | (simp only [List.length_drop, List.length_take]; rfl)) ?_; (with_reducible refine (impl_areWithin_1_v.calls (rd l0 x8_1) gp50 a1_0 gp51 a1_1 false _ ?side1 ?side2 A6.out).mono ?_); (case side1 => exact (by (with_reducible repeat (first | refine Zag ?_ _ | refine Zah ?_ | refine Zaf ?_ _)); exact BK50.out)); (case side2 => exact (by (with_reducible repeat (first | refine Zag ?_ _ | refine Zah ?_ | refine Zaf ?_ _)); exact BK51.out)); rintro e w9 ⟨rfl, hb⟩; refine ⟨_, rfl, ?_⟩; have n0_ := Zad.mk (Zap (g := gp50) (o := .cells #[.int .i64 a1_0] 2 (0, 0)) (by (with_reducible repeat (first | refine Zag ?_ _ | refine Zah ?_ | refine Zaf ?_ _)); exact BK50.out) hb); have n1_ := Zad.mk (Zap (g := gp51) (o := .cells #[.int .i64 a1_1] 2 (0, 0)) (by (with_reducible repeat (first | refine Zag ?_ _ | refine Zah ?_ | refine Zaf ?_ _)); exact BK51.out) hb); have n2_ := Zad.mk (Zak (by repeat (first | (with_reducible first | exact HB.out | apply Zac | apply Zaa | apply Zab | refine Zae ?_ GE50.out | refine Zae ?_ GE51.out) | exact HB.out)) hb); clear BK50; clear BK51; clear HB; have BK50 := n0_; have BK51 := n1_; have HB := n2_; clear n0_ n1_ n2_; (try clear hb); (try clear hb2); (try clear hk); (try clear hi)))
       go_roundg k1
       case measure => have := HK1.out; omega
       case rel => exact ⟨(wrap64 (x8_1 + 1)), (by first | rfl | (simp; done) | (simp [*]; done)), H', ⟨by have := HK1.out; omega⟩, ⟨by (with_reducible repeat (first | refine Zag ?_ _ | refine Zah ?_ | refine Zaf ?_ _)); exact BK50.out⟩, ⟨by (with_reducible repeat (first | refine Zag ?_ _ | refine Zah ?_ | refine Zaf ?_ _)); exact BK51.out⟩, ⟨by repeat (first | (with_reducible first | exact HB.out | apply Zac | apply Zaa | apply Zab | refine Zae ?_ GE50.out | refine Zae ?_ GE51.out) | exact HB.out)⟩⟩
     ·rw [if_neg c5] at H
      exact absurd H (by simp)
    ·rw [if_neg c4] at H
     exact absurd H (by simp)
   ·rw [if_neg c3] at H
    have c3b0 : decide (x8_1 < (l0.length : Int)) = false := decide_eq_false c3
    clear c3
    obtain rfl := Option.some.inj H
    go_wp2
    go_ret
    exact ⟨by first | rfl | (simp [Zao, Zan] <;> rfl) | (simp [*, Zao, Zan] <;> rfl), by repeat (first | (with_reducible first | exact HB.out | apply Zac | apply Zaa | apply Zab | refine Zae ?_ GE50.out | refine Zae ?_ GE51.out) | exact HB.out)⟩
def Za1.f (k : Nat) (l0 : List Int) (a1_0 : Int) (a1_1 : Int) : Option (Bool) := (Zaq.f k l0 a1_0 a1_1).bind fun t170 => (some (decide (t170 ≥ 0)))
set_option maxHeartbeats 8000000 in
set_option maxRecDepth 100000 in
theorem Za1.calls (k : Nat) (A0 : Option Addr) (c0 : Nat) (l0 : List Int) (gp50 : Nat) (gp51 : Nat) (a1_0 : Int) (a1_1 : Int) (r : Bool) (w : World) (hr0 : Kd.C (Kd.int .i64) w A0 l0.length l0) (hc0 : l0.length ≤ c0) (hb50 : w.heap[gp50]? = some (.cells #[.int .i64 a1_0] 2 (0, 0))) (hb51 : w.heap[gp51]? = some (.cells #[.int .i64 a1_1] 2 (0, 0))) (h : Za1.f k l0 a1_0 a1_1 = some r) :
  Calls Tryz.prog 39 #[.slice A0 l0.length c0, .func (.func 40) #[] #[.pointer (some ⟨gp50, 0, none⟩), .pointer (some ⟨gp51, 0, none⟩)]] w fun e w' => e = .returned (.bool r) ∧ Below w.heap.size w w' := by
 have HR0 := Zad.mk hr0
 have HC0 := Zad.mk hc0
 clear hr0 hc0
 have BK50 := Zad.mk hb50
 clear hb50
 have BK51 := Zad.mk hb51
 clear hb51
 have HB := Zad.mk (Below.refl w.heap.size w)
 have H : ((Zaq.f k l0 a1_0 a1_1).bind fun t170 => (some (decide (t170 ≥ 0)))) = some r := h
 clear h
 replace H := Option.bind_eq_some_iff.mp H
 obtain ⟨t170, A30, H⟩ := H
 replace H : (some (decide (t170 ≥ 0))) = some r := H
 have A3 := Zad.mk A30
 clear A30
 obtain rfl := Option.some.inj H
 go_enter Tryz.func39, Tryz.ntmps39
 go_wp2_with (first | ((with_reducible refine Zar (f := 52) rfl ?_); refine goesL_ (some 7) rfl rfl Tryz.func52 (by kernel_rfl) rfl #[.slice A0 l0.length c0, .func (.func 40) #[] #[.pointer (some ⟨gp50, 0, none⟩), .pointer (some ⟨gp51, 0, none⟩)]] rfl (by (try simp only [List.map_toArray, List.map_cons, List.map_nil]); first | done | rfl | (simp only [List.length_drop, List.length_take]; rfl)) ?_; (with_reducible refine (Zaq.calls k _ _ l0 gp50 gp51 a1_0 a1_1 t170 _ ?side1 ?side2 ?side3 ?side4 A3.out).mono ?_); (case side1 => repeat (first | exact HR0.out | (with_reducible refine Kd.C_alloc ?_ _) | (with_reducible refine Kd.C_drewN ?_ _) | (with_reducible refine Kd.C_drew ?_))); (case side2 => exact HC0.out); (case side3 => exact (by (with_reducible repeat (first | refine Zag ?_ _ | refine Zah ?_ | refine Zaf ?_ _)); exact BK50.out)); (case side4 => exact (by (with_reducible repeat (first | refine Zag ?_ _ | refine Zah ?_ | refine Zaf ?_ _)); exact BK51.out)); rintro e w4 ⟨rfl, hb⟩; refine ⟨_, rfl, ?_⟩; have n0_ := Zad.mk (Zap (g := gp50) (o := .cells #[.int .i64 a1_0] 2 (0, 0)) (by (with_reducible repeat (first | refine Zag ?_ _ | refine Zah ?_ | refine Zaf ?_ _)); exact BK50.out) hb); have n1_ := Zad.mk (Zap (g := gp51) (o := .cells #[.int .i64 a1_1] 2 (0, 0)) (by (with_reducible repeat (first | refine Zag ?_ _ | refine Zah ?_ | refine Zaf ?_ _)); exact BK51.out) hb); have n2_ := Zad.mk (Zak (by repeat (first | (with_reducible first | exact HB.out | apply Zac | apply Zaa | apply Zab | refine Zae ?_ GE50.out | refine Zae ?_ GE51.out) | exact HB.out)) hb); clear BK50; clear BK51; clear HB; have BK50 := n0_; have BK51 := n1_; have HB := n2_; clear n0_ n1_ n2_; (try clear hb); (try clear hb2); (try clear hk); (try clear hi)))
 go_ret
 exact ⟨by first | rfl | (simp [Zao, Zan] <;> rfl) | (simp [*, Zao, Zan] <;> rfl), by repeat (first | (with_reducible first | exact HB.out | apply Zac | apply Zaa | apply Zab | refine Zae ?_ GE50.out | refine Zae ?_ GE51.out) | exact HB.out)⟩
def impl_areWithin.f (k : Nat) (l0 : List Int) (a1 : Int) (a2 : Int) : Option (Bool) := (Za1.f k l0 a1 a2).bind fun t173 => (some (!t173))
set_option maxHeartbeats 8000000 in
set_option maxRecDepth 100000 in
theorem impl_areWithin.calls (k : Nat) (A0 : Option Addr) (c0 : Nat) (l0 : List Int) (a1 : Int) (a2 : Int) (r : Bool) (w : World) (hr0 : Kd.C (Kd.int .i64) w A0 l0.length l0) (hc0 : l0.length ≤ c0) (h : impl_areWithin.f k l0 a1 a2 = some r) :
  Calls Tryz.prog 24 #[.slice A0 l0.length c0, .int .i64 a1, .int .i64 a2] w fun e w' => e = .returned (.bool r) ∧ Below w.heap.size w w' := by
 have HR0 := Zad.mk hr0
 have HC0 := Zad.mk hc0
 clear hr0 hc0
 have HB := Zad.mk (Below.refl w.heap.size w)
 have H : ((Za1.f k l0 a1 a2).bind fun t173 => (some (!t173))) = some r := h
 clear h
 replace H := Option.bind_eq_some_iff.mp H
 obtain ⟨t173, A40, H⟩ := H
 replace H : (some (!t173)) = some r := H
 have A4 := Zad.mk A40
 clear A40
 obtain rfl := Option.some.inj H
 go_enter Tryz.func24, Tryz.ntmps24
 go_wp2_with (first | ((with_reducible refine gate_dst (N := 4) rfl ?_); refine box_event ?hg (N := 4) ?hd (cs := #[.int .i64 a1]) (t := 2) ?hr ?_; (case hd => rfl); (case hg => rfl); (case hr => first | (go_simp; done) | (go_simp; rfl)); intro gb171 hg w5 hbox hb; have n0_ := Zad.mk (Zak (by repeat (first | (with_reducible first | exact HB.out | apply Zac | apply Zaa | apply Zab) | exact HB.out)) hb); have n1_ := Zad.mk (hbox); have n2_ := Zad.mk ((by rw [hg]; exact (Zam (by repeat (first | (with_reducible first | exact HB.out | apply Zac | apply Zaa | apply Zab) | exact HB.out))) : w.heap.size ≤ gb171)); have n3_ := Zad.mk ((by rw [hg]; exact (Zam (by repeat (first | (with_reducible first | exact HB.out | apply Zac | apply Zaa | apply Zab) | exact HB.out))) : w.heap.size ≤ gb171)); clear HB; have HB := n0_; have BK171 := n1_; have GW171 := n2_; have GE171 := n3_; clear n0_ n1_ n2_ n3_; clear hb hbox hg) | ((with_reducible refine gate_dst (N := 5) rfl ?_); refine box_event ?hg (N := 5) ?hd (cs := #[.int .i64 a2]) (t := 2) ?hr ?_; (case hd => rfl); (case hg => rfl); (case hr => first | (go_simp; done) | (go_simp; rfl)); intro gb172 hg w6 hbox hb; have n0_ := Zad.mk (Zap (g := gb171) (o := .cells #[.int .i64 a1] 2 (0, 0)) (by (with_reducible repeat (first | refine Zag ?_ _ | refine Zah ?_ | refine Zaf ?_ _)); exact BK171.out) hb); have n1_ := Zad.mk (Zak (by repeat (first | (with_reducible first | exact HB.out | apply Zac | apply Zaa | apply Zab | refine Zae ?_ GE171.out) | exact HB.out)) hb); have n2_ := Zad.mk (hbox); have n3_ := Zad.mk ((by rw [hg]; exact (Zam (by repeat (first | (with_reducible first | exact HB.out | apply Zac | apply Zaa | apply Zab | refine Zae ?_ GE171.out) | exact HB.out))) : w.heap.size ≤ gb172)); have n4_ := Zad.mk ((by rw [hg]; exact (Zam (by repeat (first | (with_reducible first | exact HB.out | apply Zac | apply Zaa | apply Zab | refine Zae ?_ GE171.out) | exact HB.out))) : w.heap.size ≤ gb172)); have n5_ := Zad.mk ((by rw [hg]; exact Nat.ne_of_lt (blk_lt (g := gb171) (o := .cells #[.int .i64 a1] 2 (0, 0)) (by (with_reducible repeat (first | refine Zag ?_ _ | refine Zah ?_ | refine Zaf ?_ _)); exact BK171.out)) : gb171 ≠ gb172)); have n6_ := Zad.mk ((by rw [hg]; exact Nat.ne_of_gt (blk_lt (g := gb171) (o := .cells #[.int .i64 a1] 2 (0, 0)) (by (with_reducible repeat (first | refine Zag ?_ _ | refine Zah ?_ | refine Zaf ?_ _)); exact BK171.out)) : gb172 ≠ gb171)); clear BK171; clear HB; have BK171 := n0_; have HB := n1_; have BK172 := n2_; have GW172 := n3_; have GE172 := n4_; have NB171_172 := n5_; have NB172_171 := n6_; clear n0_ n1_ n2_ n3_ n4_ n5_ n6_; clear hb hbox hg) | ((with_reducible refine Zar (f := 39) rfl ?_); refine goesL_ (some 9) rfl rfl Tryz.func39 (by kernel_rfl) rfl #[.slice A0 l0.length c0, .func (.func 40) #[] #[.pointer (some ⟨gb171, 0, none⟩), .pointer (some ⟨gb172, 0, none⟩)]] rfl (by (try simp only [List.map_toArray, List.map_cons, List.map_nil]); first | done | rfl | (simp only [List.length_drop, List.length_take]; rfl)) ?_; (with_reducible refine (Za1.calls k _ _ l0 gb171 gb172 a1 a2 t173 _ ?side1 ?side2 ?side3 ?side4 A4.out).mono ?_); (case side1 => repeat (first | exact (Kd.C_below HR0.out HB.out) | (with_reducible refine Kd.C_alloc ?_ _) | (with_reducible refine Kd.C_drewN ?_ _) | (with_reducible refine Kd.C_drew ?_))); (case side2 => exact HC0.out); (case side3 => exact (by (with_reducible repeat (first | refine Zag ?_ _ | refine Zah ?_ | refine Zaf ?_ _)); exact BK171.out)); (case side4 => exact (by (with_reducible repeat (first | refine Zag ?_ _ | refine Zah ?_ | refine Zaf ?_ _)); exact BK172.out)); rintro e w7 ⟨rfl, hb⟩; refine ⟨_, rfl, ?_⟩; have n0_ := Zad.mk (Zap (g := gb171) (o := .cells #[.int .i64 a1] 2 (0, 0)) (by (with_reducible repeat (first | refine Zag ?_ _ | refine Zah ?_ | refine Zaf ?_ _)); exact BK171.out) hb); have n1_ := Zad.mk (Zap (g := gb172) (o := .cells #[.int .i64 a2] 2 (0, 0)) (by (with_reducible repeat (first | refine Zag ?_ _ | refine Zah ?_ | refine Zaf ?_ _)); exact BK172.out) hb); have n2_ := Zad.mk (Zak (by repeat (first | (with_reducible first | exact HB.out | apply Zac | apply Zaa | apply Zab | refine Zae ?_ GE171.out | refine Zae ?_ GE172.out) | exact HB.out)) hb); clear BK171; clear BK172; clear HB; have BK171 := n0_; have BK172 := n1_; have HB := n2_; clear n0_ n1_ n2_; (try clear hb); (try clear hb2); (try clear hk); (try clear hi)))
 go_ret
 exact ⟨by first | rfl | (simp [Zao, Zan] <;> rfl) | (simp [*, Zao, Zan] <;> rfl), by repeat (first | (with_reducible first | exact HB.out | apply Zac | apply Zaa | apply Zab | refine Zae ?_ GE171.out | refine Zae ?_ GE172.out) | exact HB.out)⟩
def Zau.f (k : Nat) (a0_0 : Int) (l0_1 : List Int) : Option (Bool) := (impl_within.f a0_0 1 1000).bind fun t175 => (if t175 = true then (if (l0_1.length : Int) ≤ 40 then ((impl_areWithin.f k l0_1 (-1000000) 1000000).bind fun t176 => (some t176)) else (some false)) else (some false))
set_option maxHeartbeats 8000000 in
set_option maxRecDepth 100000 in
theorem Zau.calls (k : Nat) (a0_0 : Int) (A0_1 : Option Addr) (c0_1 : Nat) (l0_1 : List Int) (r : Bool) (w : World) (hr0_1 : Kd.C (Kd.int .i64) w A0_1 l0_1.length l0_1) (hc0_1 : l0_1.length ≤ c0_1) (h : Zau.f k a0_0 l0_1 = some r) :
  Calls Tryz.prog 23 #[.agg #[.int .i64 a0_0, .slice A0_1 l0_1.length c0_1]] w fun e w' => e = .returned (.bool r) ∧ Below w.heap.size w w' := by
 have hu26 := Tryz.underlying26
 have HR0_1 := Zad.mk hr0_1
 have HC0_1 := Zad.mk hc0_1
 clear hr0_1 hc0_1
 have HB := Zad.mk (Below.refl w.heap.size w)
 have H : ((impl_within.f a0_0 1 1000).bind fun t175 => (if t175 = true then (if (l0_1.length : Int) ≤ 40 then ((impl_areWithin.f k l0_1 (-1000000) 1000000).bind fun t176 => (some t176)) else (some false)) else (some false))) = some r := h
 clear h
 replace H := Option.bind_eq_some_iff.mp H
 obtain ⟨t175, A20, H⟩ := H
 replace H : (if t175 = true then (if (l0_1.length : Int) ≤ 40 then ((impl_areWithin.f k l0_1 (-1000000) 1000000).bind fun t176 => (some t176)) else (some false)) else (some false)) = some r := H
 have A2 := Zad.mk A20
 clear A20
 by_cases c3 : t175 = true
 ·subst c3
  have H1 : (if (l0_1.length : Int) ≤ 40 then ((impl_areWithin.f k l0_1 (-1000000) 1000000).bind fun t176 => (some t176)) else (some false)) = some r := by rw [if_pos rfl] at H; exact H
  clear H
  have H := H1
  clear H1
  by_cases c4 : (l0_1.length : Int) ≤ 40
  ·rw [if_pos c4] at H
   have c4b0 : decide ((l0_1.length : Int) ≤ 40) = true := decide_eq_true c4
   have c4b1 : decide (l0_1.length ≤ 40) = true := decide_eq_true (by omega)
   clear c4
   replace H := Option.bind_eq_some_iff.mp H
   obtain ⟨t176, A50, H⟩ := H
   replace H : (some t176) = some r := H
   have A5 := Zad.mk A50
   clear A50
   obtain rfl := Option.some.inj H
   go_enter Tryz.func23, Tryz.ntmps23
   go_wp2_with (first | ((with_reducible refine gate_dst (N := 1) rfl ?_); (try (refine gate_guard (by rfl) ?_; dsimp only)); refine box_event ?hg (N := 1) ?hd (cs := #[.int .i64 a0_0, .slice A0_1 l0_1.length c0_1]) (t := 26) ?hr ?_; (case hd => rfl); (case hg => rfl); (case hr => first | (go_simp; done) | (go_simp; rfl)); intro gb174 hg w6 hbox hb; have n0_ := Zad.mk (Zak (by repeat (first | (with_reducible first | exact HB.out | apply Zac | apply Zaa | apply Zab) | exact HB.out)) hb); have n1_ := Zad.mk (hbox); have n2_ := Zad.mk ((by rw [hg]; exact (Zam (by repeat (first | (with_reducible first | exact HB.out | apply Zac | apply Zaa | apply Zab) | exact HB.out))) : w.heap.size ≤ gb174)); have n3_ := Zad.mk ((by rw [hg]; exact (Zam (by repeat (first | (with_reducible first | exact HB.out | apply Zac | apply Zaa | apply Zab) | exact HB.out))) : w.heap.size ≤ gb174)); clear HB; have HB := n0_; have BK174 := n1_; have GW174 := n2_; have GE174 := n3_; clear n0_ n1_ n2_ n3_; clear hb hbox hg; have hcz7_0 : w6.cell? ⟨gb174, 0, none⟩ = some (.int .i64 a0_0) := (Zaj BK174.out 0).trans rfl; have hcz7_1 : w6.cell? ⟨gb174, 1, none⟩ = some (.slice A0_1 l0_1.length c0_1) := (Zaj BK174.out 1).trans rfl; have hfz7_0 := Zai BK174.out 0; have hfz7_1 := Zai BK174.out 1) | ((with_reducible refine Zar (f := 38) rfl ?_); refine goesL_ (some 5) rfl rfl Tryz.func38 (by kernel_rfl) rfl #[.int .i64 a0_0, .int .i64 1, .int .i64 1000] rfl (by (try simp only [List.map_toArray, List.map_cons, List.map_nil]); first | done | rfl | (simp only [List.length_drop, List.length_take]; rfl)) ?_; (with_reducible refine (impl_within.calls a0_0 1 1000 true _ A2.out).mono ?_); rintro e w' ⟨rfl, ⟨nd, rfl⟩⟩; refine ⟨_, rfl, ?_⟩) | (go_at_call 24; (with_reducible refine (impl_areWithin.calls k _ _ l0_1 (-1000000) 1000000 t176 _ ?side1 ?side2 A5.out).mono ?_); (case side1 => repeat (first | exact (Kd.C_below HR0_1.out (by repeat (first | (with_reducible first | exact HB.out | apply Zac | apply Zaa | apply Zab | refine Zae ?_ GE174.out) | exact HB.out))) | (with_reducible refine Kd.C_alloc ?_ _) | (with_reducible refine Kd.C_drewN ?_ _) | (with_reducible refine Kd.C_drew ?_))); (case side2 => exact HC0_1.out); rintro e w8 ⟨rfl, hb⟩; have n0_ := Zad.mk (Zap (g := gb174) (o := .cells #[.int .i64 a0_0, .slice A0_1 l0_1.length c0_1] 26 (0, 0)) (by (with_reducible repeat (first | refine Zag ?_ _ | refine Zah ?_ | refine Zaf ?_ _)); exact BK174.out) hb); have n1_ := Zad.mk (Zak (by repeat (first | (with_reducible first | exact HB.out | apply Zac | apply Zaa | apply Zab | refine Zae ?_ GE174.out) | exact HB.out)) hb); clear BK174; clear HB; have BK174 := n0_; have HB := n1_; clear n0_ n1_; (try clear hb); (try clear hb2); (try clear hk); (try clear hi)))
   go_ret
   exact ⟨by first | rfl | (simp [Zao, Zan] <;> rfl) | (simp [*, Zao, Zan] <;> rfl), by repeat (first | (with_reducible first | exact HB.out | apply Zac | apply Zaa | apply Zab | refine Zae ?_ GE174.out) | exact HB.out)⟩
  ·rw [if_neg c4] at H
   have c4b0 : decide ((l0_1.length : Int) ≤ 40) = false := decide_eq_false c4
   have c4b1 : decide (l0_1.length ≤ 40) = false := decide_eq_false (by omega)
   clear c4
   obtain rfl := Option.some.inj H
   go_enter Tryz.func23, Tryz.ntmps23
   go_wp2_with (first | ((with_reducible refine gate_dst (N := 1) rfl ?_); (try (refine gate_guard (by rfl) ?_; dsimp only)); refine box_event ?hg (N := 1) ?hd (cs := #[.int .i64 a0_0, .slice A0_1 l0_1.length c0_1]) (t := 26) ?hr ?_; (case hd => rfl); (case hg => rfl); (case hr => first | (go_simp; done) | (go_simp; rfl)); intro gb174 hg w9 hbox hb; have n0_ := Zad.mk (Zak (by repeat (first | (with_reducible first | exact HB.out | apply Zac | apply Zaa | apply Zab) | exact HB.out)) hb); have n1_ := Zad.mk (hbox); have n2_ := Zad.mk ((by rw [hg]; exact (Zam (by repeat (first | (with_reducible first | exact HB.out | apply Zac | apply Zaa | apply Zab) | exact HB.out))) : w.heap.size ≤ gb174)); have n3_ := Zad.mk ((by rw [hg]; exact (Zam (by repeat (first | (with_reducible first | exact HB.out | apply Zac | apply Zaa | apply Zab) | exact HB.out))) : w.heap.size ≤ gb174)); clear HB; have HB := n0_; have BK174 := n1_; have GW174 := n2_; have GE174 := n3_; clear n0_ n1_ n2_ n3_; clear hb hbox hg; have hcz10_0 : w9.cell? ⟨gb174, 0, none⟩ = some (.int .i64 a0_0) := (Zaj BK174.out 0).trans rfl; have hcz10_1 : w9.cell? ⟨gb174, 1, none⟩ = some (.slice A0_1 l0_1.length c0_1) := (Zaj BK174.out 1).trans rfl; have hfz10_0 := Zai BK174.out 0; have hfz10_1 := Zai BK174.out 1) | ((with_reducible refine Zar (f := 38) rfl ?_); refine goesL_ (some 5) rfl rfl Tryz.func38 (by kernel_rfl) rfl #[.int .i64 a0_0, .int .i64 1, .int .i64 1000] rfl (by (try simp only [List.map_toArray, List.map_cons, List.map_nil]); first | done | rfl | (simp only [List.length_drop, List.length_take]; rfl)) ?_; (with_reducible refine (impl_within.calls a0_0 1 1000 true _ A2.out).mono ?_); rintro e w' ⟨rfl, ⟨nd, rfl⟩⟩; refine ⟨_, rfl, ?_⟩))
   go_ret
   exact ⟨by first | rfl | (simp [Zao, Zan] <;> rfl) | (simp [*, Zao, Zan] <;> rfl), by repeat (first | (with_reducible first | exact HB.out | apply Zac | apply Zaa | apply Zab | refine Zae ?_ GE174.out) | exact HB.out)⟩
 ·replace c3 := Bool.eq_false_iff.mpr c3
  subst c3
  have H1 : (some false) = some r := by rw [if_neg (show ¬ (false = true) by decide)] at H; exact H
  clear H
  have H := H1
  clear H1
  obtain rfl := Option.some.inj H
  go_enter Tryz.func23, Tryz.ntmps23
  go_wp2_with (first | ((with_reducible refine gate_dst (N := 1) rfl ?_); (try (refine gate_guard (by rfl) ?_; dsimp only)); refine box_event ?hg (N := 1) ?hd (cs := #[.int .i64 a0_0, .slice A0_1 l0_1.length c0_1]) (t := 26) ?hr ?_; (case hd => rfl); (case hg => rfl); (case hr => first | (go_simp; done) | (go_simp; rfl)); intro gb174 hg w11 hbox hb; have n0_ := Zad.mk (Zak (by repeat (first | (with_reducible first | exact HB.out | apply Zac | apply Zaa | apply Zab) | exact HB.out)) hb); have n1_ := Zad.mk (hbox); have n2_ := Zad.mk ((by rw [hg]; exact (Zam (by repeat (first | (with_reducible first | exact HB.out | apply Zac | apply Zaa | apply Zab) | exact HB.out))) : w.heap.size ≤ gb174)); have n3_ := Zad.mk ((by rw [hg]; exact (Zam (by repeat (first | (with_reducible first | exact HB.out | apply Zac | apply Zaa | apply Zab) | exact HB.out))) : w.heap.size ≤ gb174)); clear HB; have HB := n0_; have BK174 := n1_; have GW174 := n2_; have GE174 := n3_; clear n0_ n1_ n2_ n3_; clear hb hbox hg; have hcz12_0 : w11.cell? ⟨gb174, 0, none⟩ = some (.int .i64 a0_0) := (Zaj BK174.out 0).trans rfl; have hcz12_1 : w11.cell? ⟨gb174, 1, none⟩ = some (.slice A0_1 l0_1.length c0_1) := (Zaj BK174.out 1).trans rfl; have hfz12_0 := Zai BK174.out 0; have hfz12_1 := Zai BK174.out 1) | ((with_reducible refine Zar (f := 38) rfl ?_); refine goesL_ (some 5) rfl rfl Tryz.func38 (by kernel_rfl) rfl #[.int .i64 a0_0, .int .i64 1, .int .i64 1000] rfl (by (try simp only [List.map_toArray, List.map_cons, List.map_nil]); first | done | rfl | (simp only [List.length_drop, List.length_take]; rfl)) ?_; (with_reducible refine (impl_within.calls a0_0 1 1000 false _ A2.out).mono ?_); rintro e w' ⟨rfl, ⟨nd, rfl⟩⟩; refine ⟨_, rfl, ?_⟩))
  go_ret
  exact ⟨by first | rfl | (simp [Zao, Zan] <;> rfl) | (simp [*, Zao, Zan] <;> rfl), by repeat (first | (with_reducible first | exact HB.out | apply Zac | apply Zaa | apply Zab | refine Zae ?_ GE174.out) | exact HB.out)⟩
end Go.Proofs.YtijpgenadhhkcaaGreatDoor.P
