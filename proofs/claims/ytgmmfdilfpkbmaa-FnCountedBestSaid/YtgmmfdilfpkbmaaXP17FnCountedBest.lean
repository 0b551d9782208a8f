import Derived.Test.YtgmmfdilfpkbmaaXP0FnCountedBest
import Derived.Test.YtgmmfdilfpkbmaaXP10FnCountedBest
import Derived.Test.YtgmmfdilfpkbmaaXP11FnCountedBest
import Derived.Test.YtgmmfdilfpkbmaaXP16FnCountedBest
import Derived.Lib.SliceRun
namespace Go.Proofs.Ytgmmfdilfpkbmaa.P
open Go.RowKit Go.Proofs.YtgmmfdilfpkbmaaW.PrintWords Go.Proofs.YtgmmfdilfpkbmaaW.PrintLast Go.Proofs.YtgmmfdilfpkbmaaW.PrintMore
attribute [local go_sem] max2_int min2_int max_two min_two max_three min_three max_four min_four
set_option linter.unusedVariables false
set_option linter.unusedSimpArgs false
mutual
def Zau.l0 : Nat → Int → List Int → Int → Int → Int → List Int → Option (List Int × List Int × Int)
 | 0, _, _, _, _, _, _ => none
 | k + 1, x1, x7, x21, x22, x458000, x458001 => if x22 < x21 then ((Za3.f x458000 x458001 x22).bind fun t469 => (if t469 > 0 then (if x7.length < 17592186044416 then (Zau.l0 k x1 (x7 ++ [x22]) x21 (wrap64 (x22 + 1)) x458000 x458001) else (none)) else (Zau.l0 k x1 x7 x21 (wrap64 (x22 + 1)) x458000 x458001))) else ((slices_SortStableFunc_int_int_planFor_1.f k x7 x458000 x458001).bind fun t473 => (if x1 = 0 then (some (([] : List Int), ([] : List Int), x1)) else (if 0 ≤ (wrap64 (x1 - 1)) then (if (wrap64 (x1 - 1)) < (x7.length : Int) then ((Za3.f x458000 x458001 (rd t473 (wrap64 (x1 - 1)))).bind fun t476 => (Zau.l1 k t476 t473 (x7.length : Int) 0 x458000 x458001 ([] : List Int) ([] : List Int) x1)) else (none)) else (none))))
def Zau.l1 : Nat → Int → List Int → Int → Int → Int → List Int → List Int → List Int → Int → Option (List Int × List Int × Int)
 | 0, _, _, _, _, _, _, _, _, _ => none
 | k + 1, x10, x49, x50, x51, x458000, x458001, x475000, x475001, x475002 => if x51 < x50 then (if 0 ≤ x51 then (if x51 < (x49.length : Int) then ((Za3.f x458000 x458001 (rd x49 x51)).bind fun t478 => (if t478 > x10 then (if x475000.length < 17592186044416 then (Zau.l1 k x10 x49 x50 (wrap64 (x51 + 1)) x458000 x458001 (x475000 ++ [rd x49 x51]) x475001 (wrap64 (x475002 - 1))) else (none)) else ((Za3.f x458000 x458001 (rd x49 x51)).bind fun t482 => (if t482 = x10 then (if x475001.length < 17592186044416 then (Zau.l1 k x10 x49 x50 (wrap64 (x51 + 1)) x458000 x458001 x475000 (x475001 ++ [rd x49 x51]) x475002) else (none)) else (Zau.l1 k x10 x49 x50 (wrap64 (x51 + 1)) x458000 x458001 x475000 x475001 x475002))))) else (none)) else (none)) else (some (x475000, x475001, x475002))
end
def Zau.f (k : Nat) (a0_0 : Int) (l0_1 : List Int) (a1 : Int) (a2 : Int) : Option (List Int × List Int × Int) := if a2 = 2 then ((Zam.f k a0_0 l0_1 a1).bind fun bt459 => (some (bt459.1, bt459.2.1, bt459.2.2))) else (Zau.l0 k a1 (([] : List Int)) (l0_1.length : Int) 0 a0_0 l0_1)
def Zau.T14 : Bool × List (List Nat × List Nat) := (true, [([], []), ([], []), ([], []), ([2], [2]), ([1, 3], [1, 3]), ([4], [4]), ([0, 5], [0, 5]), ([6, 6, 0, 1, 2, 3, 4, 5, 6], [6])])
def Zau.B14 : List Nat := [0, 0, 0, 4, 14, 30, 63, 127]
theorem Zau.tab14 : rtab .any (opsOf Try.f80 14) = Zau.T14 := by kernel_rfl
theorem Zau.bits14 : waitsOk Zau.T14.2 Zau.B14 = true := by kernel_rfl
set_option maxHeartbeats 8000000 in
set_option maxRecDepth 100000 in
theorem Zau.calls (k : Nat) (a0_0 : Int) (A0_1 : Option Addr) (c0_1 : Nat) (l0_1 : List Int) (a1 : Int) (a2 : Int) (r1 : List Int) (r2 : List Int) (r3 : Int) (w : World) (hr0_1 : Kd.C (Kd.int .i64) w A0_1 l0_1.length l0_1) (hc0_1 : l0_1.length ≤ c0_1) (h : Zau.f k a0_0 l0_1 a1 a2 = some (r1, r2, r3)) :
  Calls Try.prog 80 #[.agg #[.int .i64 a0_0, .slice A0_1 l0_1.length c0_1], .int .i64 a1, .int .i64 a2] w fun e w' => ∃ v0_ v1_ : Value, e = .returned (.agg #[v0_, v1_, .int .i64 r3]) ∧ Kd.R (Kd.int .i64) 3 w' w.heap.size (fun k_ => some k_ ≠ (v1_ : Value).ownBlock) v0_ r1 ∧ Kd.R (Kd.int .i64) 3 w' w.heap.size (fun k_ => some k_ ≠ (v0_ : Value).ownBlock) v1_ r2 ∧ Below w.heap.size w w' := by
 have hu28 := Try.underlying28
 have hu85 := Try.underlying85
 have HR0_1 := Zab.mk hr0_1
 have HC0_1 := Zab.mk hc0_1
 clear hr0_1 hc0_1
 have HB := Zab.mk (Below.refl w.heap.size w)
 have H : (if a2 = 2 then ((Zam.f k a0_0 l0_1 a1).bind fun bt459 => (some (bt459.1, bt459.2.1, bt459.2.2))) else (Zau.l0 k a1 (([] : List Int)) (l0_1.length : Int) 0 a0_0 l0_1)) = some (r1, r2, r3) := h
 clear h
 by_cases c4 : a2 = 2
 ·rw [if_pos c4] at H
  have c4b0 : (a2 == 2) = true := beq_iff_eq.mpr c4
  have c4b1 : (a2 != 2) = false := bne_eq_false_iff_eq.mpr c4
  clear c4
  replace H := Option.bind_eq_some_iff.mp H
  obtain ⟨⟨t459, t462, t465⟩, A50, H⟩ := H
  replace H : (some (t459, t462, t465)) = some (r1, r2, r3) := H
  have A5 := Zab.mk A50
  clear A50
  simp only [Option.some.injEq, Prod.mk.injEq] at H
  obtain ⟨rfl, rfl, rfl⟩ := H
  as_aux_lemma =>
   go_enter Try.func80, Try.ntmps80
   go_wp2_with (first | ((with_reducible refine gate_dst (N := 3) rfl ?_); refine box_event ?hg (N := 3) ?hd (cs := #[.int .i64 a0_0, .slice A0_1 l0_1.length c0_1]) (t := 28) ?hr ?_; (case hd => rfl); (case hg => rfl); (case hr => first | (go_simp; done) | (go_simp; rfl)); intro gb457 hg w6 hbox hb; have n0_ := Zab.mk (Zap (by repeat (first | (with_reducible first | exact HB.out | apply Zad | apply Zaa | apply Zac) | exact HB.out)) hb); have n1_ := Zab.mk (hbox); have n2_ := Zab.mk ((by rw [hg]; exact (Zan (by repeat (first | (with_reducible first | exact HB.out | apply Zad | apply Zaa | apply Zac) | exact HB.out))) : w.heap.size ≤ gb457)); have n3_ := Zab.mk ((by rw [hg]; exact (Zan (by repeat (first | (with_reducible first | exact HB.out | apply Zad | apply Zaa | apply Zac) | exact HB.out))) : w.heap.size ≤ gb457)); clear HB; have HB := n0_; have BK457 := n1_; have GW457 := n2_; have GE457 := n3_; clear n0_ n1_ n2_ n3_; clear hb hbox hg) | ((with_reducible refine gate_dst (N := 6) rfl ?_); refine box_event ?hg (N := 6) ?hd (cs := #[.slice none 0 0, .slice none 0 0, .int .i64 0]) (t := 85) ?hr ?_; (case hd => rfl); (case hg => rfl); (case hr => first | (go_simp; done) | (go_simp; rfl)); intro gb458 hg w7 hbox hb; have n0_ := Zab.mk (Zaq (g := gb457) (o := .cells #[.int .i64 a0_0, .slice A0_1 l0_1.length c0_1] 28 (0, 0)) (by (with_reducible repeat (first | refine Zag ?_ _ | refine Zah ?_ | refine Zaf ?_ _)); exact BK457.out) hb); have n1_ := Zab.mk (Zap (by repeat (first | (with_reducible first | exact HB.out | apply Zad | apply Zaa | apply Zac | refine Zae ?_ GE457.out) | exact HB.out)) hb); have n2_ := Zab.mk (hbox); have n3_ := Zab.mk ((by rw [hg]; exact (Zan (by repeat (first | (with_reducible first | exact HB.out | apply Zad | apply Zaa | apply Zac | refine Zae ?_ GE457.out) | exact HB.out))) : w.heap.size ≤ gb458)); have n4_ := Zab.mk ((by rw [hg]; exact (Zan (by repeat (first | (with_reducible first | exact HB.out | apply Zad | apply Zaa | apply Zac | refine Zae ?_ GE457.out) | exact HB.out))) : w.heap.size ≤ gb458)); have n5_ := Zab.mk ((by rw [hg]; exact Nat.ne_of_lt (blk_lt (g := gb457) (o := .cells #[.int .i64 a0_0, .slice A0_1 l0_1.length c0_1] 28 (0, 0)) (by (with_reducible repeat (first | refine Zag ?_ _ | refine Zah ?_ | refine Zaf ?_ _)); exact BK457.out)) : gb457 ≠ gb458)); have n6_ := Zab.mk ((by rw [hg]; exact Nat.ne_of_gt (blk_lt (g := gb457) (o := .cells #[.int .i64 a0_0, .slice A0_1 l0_1.length c0_1] 28 (0, 0)) (by (with_reducible repeat (first | refine Zag ?_ _ | refine Zah ?_ | refine Zaf ?_ _)); exact BK457.out)) : gb458 ≠ gb457)); clear BK457; clear HB; have BK457 := n0_; have HB := n1_; have BK458 := n2_; have GW458 := n3_; have GE458 := n4_; have NB457_458 := n5_; have NB458_457 := n6_; clear n0_ n1_ n2_ n3_ n4_ n5_ n6_; clear hb hbox hg; have hnb8 := NB457_458.out; have hnc8 := NB458_457.out; have hcz9_0 : w7.cell? ⟨gb457, 0, none⟩ = some (.int .i64 a0_0) := (Zaj BK457.out 0).trans rfl; have hcz9_1 : w7.cell? ⟨gb457, 1, none⟩ = some (.slice A0_1 l0_1.length c0_1) := (Zaj BK457.out 1).trans rfl; have hfz9_0 := Zak BK457.out 0; have hfz9_1 := Zak BK457.out 1) | ((with_reducible refine Zay (f := 108) rfl ?_); refine goesL_ (some 17) rfl rfl Try.func108 (by kernel_rfl) rfl #[.agg #[.int .i64 a0_0, .slice A0_1 l0_1.length c0_1], .int .i64 a1] rfl (by (try simp only [List.map_toArray, List.map_cons, List.map_nil]); first | done | rfl | (simp only [List.length_drop, List.length_take]; rfl)) ?_; (with_reducible refine (Zam.calls k a0_0 _ _ l0_1 a1 t459 t462 t465 _ ?side1 ?side2 A5.out).mono ?_); (case side1 => repeat (first | exact (Kd.C_below HR0_1.out HB.out) | (with_reducible refine Kd.C_alloc ?_ _) | (with_reducible refine Kd.C_drewN ?_ _) | (with_reducible refine Kd.C_drew ?_))); (case side2 => exact HC0_1.out); rintro e w10 ⟨v460, v463, rfl, ho0, ho1, hb⟩; refine ⟨_, rfl, ?_⟩; have n0_ := Zab.mk (Kd.R_lower ho0 (Zan (by repeat (first | (with_reducible first | exact HB.out | apply Zad | apply Zaa | apply Zac | refine Zae ?_ GE457.out | refine Zae ?_ GE458.out) | exact HB.out)))); have n1_ := Zab.mk (Kd.R_lower ho1 (Zan (by repeat (first | (with_reducible first | exact HB.out | apply Zad | apply Zaa | apply Zac | refine Zae ?_ GE457.out | refine Zae ?_ GE458.out) | exact HB.out)))); have n2_ := Zab.mk (Zaq (g := gb457) (o := .cells #[.int .i64 a0_0, .slice A0_1 l0_1.length c0_1] 28 (0, 0)) (by (with_reducible repeat (first | refine Zag ?_ _ | refine Zah ?_ | refine Zaf ?_ _)); exact BK457.out) hb); have n3_ := Zab.mk (Zaq (g := gb458) (o := .cells #[.slice none 0 0, .slice none 0 0, .int .i64 0] 85 (0, 0)) (by (with_reducible repeat (first | refine Zag ?_ _ | refine Zah ?_ | refine Zaf ?_ _)); exact BK458.out) hb); have n4_ := Zab.mk (Zap (by repeat (first | (with_reducible first | exact HB.out | apply Zad | apply Zaa | apply Zac | refine Zae ?_ GE457.out | refine Zae ?_ GE458.out) | exact HB.out)) hb); clear BK457; clear BK458; clear HB; have HO461 := n0_; have HO464 := n1_; have BK457 := n2_; have BK458 := n3_; have HB := n4_; clear n0_ n1_ n2_ n3_ n4_; (try clear hb); (try clear hb2); (try clear hk); (try clear hi); (try clear ho0); (try clear ho1); obtain ⟨Ao11, co11, eo11⟩ := Kd.R_slice HO461.out; subst eo11; have hcz12_0 : w10.cell? ⟨gb458, 0, none⟩ = some (.slice none 0 0) := (Zaj BK458.out 0).trans rfl; have hcz12_1 : w10.cell? ⟨gb458, 1, none⟩ = some (.slice none 0 0) := (Zaj BK458.out 1).trans rfl; have hcz12_2 : w10.cell? ⟨gb458, 2, none⟩ = some (.int .i64 0) := (Zaj BK458.out 2).trans rfl; have hfz12_0 := Zak BK458.out 0; have hfz12_1 := Zak BK458.out 1; have hfz12_2 := Zak BK458.out 2; obtain ⟨Ao13, co13, eo13⟩ := Kd.R_slice HO464.out; subst eo13))
   refine bodyPost_ret (results_cell_row rfl _ _ gb458 85 #[.slice Ao11 t459.length co11, .slice Ao13 t462.length co13, .int .i64 t465] (0, 0) _ rfl (by (with_reducible repeat (first | refine Zag ?_ _ | refine Zah ?_ | refine Zaf ?_ _)); refine blk_put (cs := #[.slice Ao11 t459.length co11, .slice Ao13 t462.length co13, .int .i64 0]) ?_ 2 _ rfl; (with_reducible repeat (first | refine Zag ?_ _ | refine Zah ?_ | refine Zaf ?_ _)); refine blk_put (cs := #[.slice Ao11 t459.length co11, .slice none 0 0, .int .i64 0]) ?_ 1 _ rfl; (with_reducible repeat (first | refine Zag ?_ _ | refine Zah ?_ | refine Zaf ?_ _)); refine blk_put (cs := #[.slice none 0 0, .slice none 0 0, .int .i64 0]) ?_ 0 _ rfl; (with_reducible repeat (first | refine Zag ?_ _ | refine Zah ?_ | refine Zaf ?_ _)); exact BK458.out) Try.underlying85 rfl (by kernel_rfl)) rfl ?_
   exact ⟨_, _, by first | rfl | (simp [Zas, Zar] <;> rfl) | (simp [*, Zas, Zar] <;> rfl), by (with_reducible repeat (first | apply Kd.R_alloc | apply Kd.R_drewN | apply Kd.R_drew)); exact Kd.R_mono (Kd.R_far (p := ⟨gb458, 2, none⟩) (Kd.R_far (p := ⟨gb458, 1, none⟩) (Kd.R_far (p := ⟨gb458, 0, none⟩) (Kd.R_types HO461.out BK458.out (by decide)) (fun _ hk => hk.2) (.slice Ao11 t459.length co11)) (fun _ hk => hk.2) (.slice Ao13 t462.length co13)) (fun _ hk => hk.2) (.int .i64 t465)) (fun _ hk => hk.1), by (with_reducible repeat (first | apply Kd.R_alloc | apply Kd.R_drewN | apply Kd.R_drew)); exact Kd.R_mono (Kd.R_far (p := ⟨gb458, 2, none⟩) (Kd.R_far (p := ⟨gb458, 1, none⟩) (Kd.R_far (p := ⟨gb458, 0, none⟩) (Kd.R_types HO464.out BK458.out (by decide)) (fun _ hk => hk.2) (.slice Ao11 t459.length co11)) (fun _ hk => hk.2) (.slice Ao13 t462.length co13)) (fun _ hk => hk.2) (.int .i64 t465)) (fun _ hk => hk.1), by repeat (first | (with_reducible first | exact HB.out | apply Zad | apply Zaa | apply Zac | refine Zae ?_ GE457.out | refine Zae ?_ GE458.out) | exact HB.out)⟩
 ·rw [if_neg c4] at H
  have c4b0 : (a2 == 2) = false := beq_eq_false_iff_ne.mpr c4
  have c4b1 : (a2 != 2) = true := bne_iff_ne.mpr c4
  obtain ⟨y466, hy466⟩ : ∃ y_ : List Int, y_ = (([] : List Int)) := ⟨_, rfl⟩
  replace H : (Zau.l0 k a1 y466 (l0_1.length : Int) 0 a0_0 l0_1) = some (r1, r2, r3) := by first | (rw [hy466]; with_reducible exact H) | (have H2_ := (Option.bind_some _ _).symm.trans H; rw [hy466]; with_reducible exact H2_) | (have H2_ := (Option.bind_some _ _).symm.trans H; with_reducible exact H2_) | with_reducible exact H | (rw [hy466]; exact H) | exact H
  have Ny466 := Zab.mk hy466
  clear hy466
  have H' := Zab.mk H
  clear H
  go_enter Try.func80, Try.ntmps80
  go_wp2_with (first | ((with_reducible refine gate_dst (N := 3) rfl ?_); refine box_event ?hg (N := 3) ?hd (cs := #[.int .i64 a0_0, .slice A0_1 l0_1.length c0_1]) (t := 28) ?hr ?_; (case hd => rfl); (case hg => rfl); (case hr => first | (go_simp; done) | (go_simp; rfl)); intro gb457 hg w14 hbox hb; have n0_ := Zab.mk (Zap (by repeat (first | (with_reducible first | exact HB.out | apply Zad | apply Zaa | apply Zac) | exact HB.out)) hb); have n1_ := Zab.mk (hbox); have n2_ := Zab.mk ((by rw [hg]; exact (Zan (by repeat (first | (with_reducible first | exact HB.out | apply Zad | apply Zaa | apply Zac) | exact HB.out))) : w.heap.size ≤ gb457)); have n3_ := Zab.mk ((by rw [hg]; exact (Zan (by repeat (first | (with_reducible first | exact HB.out | apply Zad | apply Zaa | apply Zac) | exact HB.out))) : w.heap.size ≤ gb457)); clear HB; have HB := n0_; have BK457 := n1_; have GW457 := n2_; have GE457 := n3_; clear n0_ n1_ n2_ n3_; clear hb hbox hg) | ((with_reducible refine gate_dst (N := 6) rfl ?_); refine box_event ?hg (N := 6) ?hd (cs := #[.slice none 0 0, .slice none 0 0, .int .i64 0]) (t := 85) ?hr ?_; (case hd => rfl); (case hg => rfl); (case hr => first | (go_simp; done) | (go_simp; rfl)); intro gb458 hg w15 hbox hb; have n0_ := Zab.mk (Zaq (g := gb457) (o := .cells #[.int .i64 a0_0, .slice A0_1 l0_1.length c0_1] 28 (0, 0)) (by (with_reducible repeat (first | refine Zag ?_ _ | refine Zah ?_ | refine Zaf ?_ _)); exact BK457.out) hb); have n1_ := Zab.mk (Zap (by repeat (first | (with_reducible first | exact HB.out | apply Zad | apply Zaa | apply Zac | refine Zae ?_ GE457.out) | exact HB.out)) hb); have n2_ := Zab.mk (hbox); have n3_ := Zab.mk ((by rw [hg]; exact (Zan (by repeat (first | (with_reducible first | exact HB.out | apply Zad | apply Zaa | apply Zac | refine Zae ?_ GE457.out) | exact HB.out))) : w.heap.size ≤ gb458)); have n4_ := Zab.mk ((by rw [hg]; exact (Zan (by repeat (first | (with_reducible first | exact HB.out | apply Zad | apply Zaa | apply Zac | refine Zae ?_ GE457.out) | exact HB.out))) : w.heap.size ≤ gb458)); have n5_ := Zab.mk ((by rw [hg]; exact Nat.ne_of_lt (blk_lt (g := gb457) (o := .cells #[.int .i64 a0_0, .slice A0_1 l0_1.length c0_1] 28 (0, 0)) (by (with_reducible repeat (first | refine Zag ?_ _ | refine Zah ?_ | refine Zaf ?_ _)); exact BK457.out)) : gb457 ≠ gb458)); have n6_ := Zab.mk ((by rw [hg]; exact Nat.ne_of_gt (blk_lt (g := gb457) (o := .cells #[.int .i64 a0_0, .slice A0_1 l0_1.length c0_1] 28 (0, 0)) (by (with_reducible repeat (first | refine Zag ?_ _ | refine Zah ?_ | refine Zaf ?_ _)); exact BK457.out)) : gb458 ≠ gb457)); clear BK457; clear HB; have BK457 := n0_; have HB := n1_; have BK458 := n2_; have GW458 := n3_; have GE458 := n4_; have NB457_458 := n5_; have NB458_457 := n6_; clear n0_ n1_ n2_ n3_ n4_ n5_ n6_; clear hb hbox hg) | ((with_reducible refine gate_dst (N := 18) rfl ?_); refine Kd.R_lit (Kd.int .i64) _ 3 ?hg (N := 18) ?hd (xs := ([] : List Int)) (inner := []) (ok := fun _ => True) (okp := fun _ => True) ?hr ?hp (fun _ hk => hk) trivial (Below.refl _ _) (Nat.le_refl _) (by simp) ?_; (case hd => rfl); (case hg => rfl); (case hr => first | (go_simp; done) | (go_simp; rfl)); (case hp => exact (Reps.none _ _)); intro v467 w16 ho17 hb hg_ hnew_; clear hg_ hnew_; (first | rw [← Ny466.out] at ho17 | (simp only [Int.reduceToNat] at ho17; rw [← Ny466.out] at ho17)); have n0_ := Zab.mk (Kd.R_lower ho17 (Zan (by repeat (first | (with_reducible first | exact HB.out | apply Zad | apply Zaa | apply Zac | refine Zae ?_ GE457.out | refine Zae ?_ GE458.out) | exact HB.out)))); have n1_ := Zab.mk (Zaq (g := gb457) (o := .cells #[.int .i64 a0_0, .slice A0_1 l0_1.length c0_1] 28 (0, 0)) (by (with_reducible repeat (first | refine Zag ?_ _ | refine Zah ?_ | refine Zaf ?_ _)); exact BK457.out) hb); have n2_ := Zab.mk (Zaq (g := gb458) (o := .cells #[.slice none 0 0, .slice none 0 0, .int .i64 0] 85 (0, 0)) (by (with_reducible repeat (first | refine Zag ?_ _ | refine Zah ?_ | refine Zaf ?_ _)); exact BK458.out) hb); have n3_ := Zab.mk (Zap (by repeat (first | (with_reducible first | exact HB.out | apply Zad | apply Zaa | apply Zac | refine Zae ?_ GE457.out | refine Zae ?_ GE458.out) | exact HB.out)) hb); clear BK457; clear BK458; clear HB; have HO468 := n0_; have BK457 := n1_; have BK458 := n2_; have HB := n3_; clear n0_ n1_ n2_ n3_; clear hb ho17; have hnb18 := NB457_458.out; have hnc18 := NB458_457.out; have hcz19_0 : w16.cell? ⟨gb457, 0, none⟩ = some (.int .i64 a0_0) := (Zaj BK457.out 0).trans rfl; have hcz19_1 : w16.cell? ⟨gb457, 1, none⟩ = some (.slice A0_1 l0_1.length c0_1) := (Zaj BK457.out 1).trans rfl; have hfz19_0 := Zak BK457.out 0; have hfz19_1 := Zak BK457.out 1))
  go_loopg [7, 22] k (fun kq v7 v22 w' => ∃ (x7_1 : List Int) (x22_1 : Int), v22 = .int .i64 x22_1 ∧ Zab (Zau.l0 kq a1 x7_1 (l0_1.length : Int) x22_1 a0_0 l0_1 = some (r1, r2, r3)) ∧ Zab (kq ≤ k) ∧ Zab (Kd.R (Kd.int .i64) 3 w' w.heap.size (fun _ => True) v7 x7_1) ∧ Zab (w'.heap[gb457]? = some (.cells #[.int .i64 a0_0, (.slice A0_1 l0_1.length c0_1)] 28 (0, 0))) ∧ Zab (w'.heap[gb458]? = some (.cells #[(.slice none 0 0), (.slice none 0 0), .int .i64 0] 85 (0, 0))) ∧ Zab (Below w.heap.size w w'))
  case atStart => exact ⟨(y466), (0), (by first | rfl | (simp; done) | (simp [*]; done) | (simp [IntWalk.i64_left, *]; done)), H', ⟨Nat.le_refl _⟩, ⟨by (with_reducible repeat (first | apply Kd.R_alloc | apply Kd.R_drewN | apply Kd.R_drew)); exact HO468.out⟩, ⟨by (with_reducible repeat (first | refine Zag ?_ _ | refine Zah ?_ | refine Zaf ?_ _)); exact BK457.out⟩, ⟨by (with_reducible repeat (first | refine Zag ?_ _ | refine Zah ?_ | refine Zaf ?_ _)); exact BK458.out⟩, ⟨by repeat (first | (with_reducible first | exact HB.out | apply Zad | apply Zaa | apply Zac | refine Zae ?_ GE457.out | refine Zae ?_ GE458.out) | exact HB.out)⟩⟩
  case round =>
   clear H'
   try clear c1
   try clear p2
   try clear c4
   try clear c4b0
   try clear c4b1
   try clear c8
   try clear c10
   try clear c18
   try clear hcz12_0
   try clear hcz12_1
   try clear hcz12_2
   try clear hcz19_0
   try clear hcz19_1
   try clear hcz9_0
   try clear hcz9_1
   try clear hfz12_0
   try clear hfz12_1
   try clear hfz12_2
   try clear hfz19_0
   try clear hfz19_1
   try clear hfz9_0
   try clear hfz9_1
   obtain ⟨x7_1, x22_1, rfl, HA, HK1, HO_7, BK457, BK458, HB⟩ := hrel
   cases gk with
   | zero => exact absurd HA.out (by simp [Zau.l0])
   | succ k1 =>
    have H := HA.out
    clear HA
    simp only [Zau.l0] at H
    by_cases c20 : x22_1 < (l0_1.length : Int)
    ·rw [if_pos c20] at H
     have c20b0 : decide (x22_1 < (l0_1.length : Int)) = true := decide_eq_true c20
     clear c20
     replace H := Option.bind_eq_some_iff.mp H
     obtain ⟨t469, A210, H⟩ := H
     replace H : (if t469 > 0 then (if x7_1.length < 17592186044416 then (Zau.l0 k1 a1 (x7_1 ++ [x22_1]) (l0_1.length : Int) (wrap64 (x22_1 + 1)) a0_0 l0_1) else (none)) else (Zau.l0 k1 a1 x7_1 (l0_1.length : Int) (wrap64 (x22_1 + 1)) a0_0 l0_1)) = some (r1, r2, r3) := H
     have A21 := Zab.mk A210
     clear A210
     by_cases c22 : t469 > 0
     ·rw [if_pos c22] at H
      have c22b0 : decide (0 < t469) = true := decide_eq_true c22
      clear c22
      by_cases c23 : x7_1.length < 17592186044416
      ·rw [if_pos c23] at H
       have LMc23 := Zab.mk c23
       clear c23
       obtain ⟨y470, hy470⟩ : ∃ y_ : List Int, y_ = (x7_1 ++ [x22_1]) := ⟨_, rfl⟩
       replace H : (Zau.l0 k1 a1 y470 (l0_1.length : Int) (wrap64 (x22_1 + 1)) a0_0 l0_1) = some (r1, r2, r3) := by first | (rw [hy470]; with_reducible exact H) | (have H2_ := (Option.bind_some _ _).symm.trans H; rw [hy470]; with_reducible exact H2_) | (have H2_ := (Option.bind_some _ _).symm.trans H; with_reducible exact H2_) | with_reducible exact H | (rw [hy470]; exact H) | exact H
       have Ny470 := Zab.mk hy470
       clear hy470
       have H' := Zab.mk H
       clear H
       have hnb24 := NB457_458.out
       have hnc24 := NB458_457.out
       have hcz25_0 : wr.cell? ⟨gb457, 0, none⟩ = some (.int .i64 a0_0) := (Zaj BK457.out 0).trans rfl
       have hcz25_1 : wr.cell? ⟨gb457, 1, none⟩ = some (.slice A0_1 l0_1.length c0_1) := (Zaj BK457.out 1).trans rfl
       have hfz25_0 := Zak BK457.out 0
       have hfz25_1 := Zak BK457.out 1
       as_aux_lemma =>
        go_wp2_with (first | ((with_reducible refine Zay (f := 109) rfl ?_); refine goesL_ (some 27) rfl rfl Try.func109 (by kernel_rfl) rfl #[.agg #[.int .i64 a0_0, .slice A0_1 l0_1.length c0_1], .int .i64 x22_1] rfl (by (try simp only [List.map_toArray, List.map_cons, List.map_nil]); first | done | rfl | (simp only [List.length_drop, List.length_take]; rfl)) ?_; (with_reducible refine (Za3.calls a0_0 _ _ l0_1 x22_1 t469 _ ?side1 ?side2 A21.out).mono ?_); (case side1 => repeat (first | exact (Kd.C_below HR0_1.out HB.out) | (with_reducible refine Kd.C_alloc ?_ _) | (with_reducible refine Kd.C_drewN ?_ _) | (with_reducible refine Kd.C_drew ?_))); (case side2 => exact HC0_1.out); rintro e w26 ⟨rfl, hb⟩; refine ⟨_, rfl, ?_⟩; have n0_ := Zab.mk (Kd.R_below (by (with_reducible repeat (first | apply Kd.R_alloc | apply Kd.R_drewN | apply Kd.R_drew)); exact HO_7.out) hb); have n1_ := Zab.mk (Zaq (g := gb457) (o := .cells #[.int .i64 a0_0, .slice A0_1 l0_1.length c0_1] 28 (0, 0)) (by (with_reducible repeat (first | refine Zag ?_ _ | refine Zah ?_ | refine Zaf ?_ _)); exact BK457.out) hb); have n2_ := Zab.mk (Zaq (g := gb458) (o := .cells #[.slice none 0 0, .slice none 0 0, .int .i64 0] 85 (0, 0)) (by (with_reducible repeat (first | refine Zag ?_ _ | refine Zah ?_ | refine Zaf ?_ _)); exact BK458.out) hb); have n3_ := Zab.mk (Zap (by repeat (first | (with_reducible first | exact HB.out | apply Zad | apply Zaa | apply Zac | refine Zae ?_ GE457.out | refine Zae ?_ GE458.out) | exact HB.out)) hb); clear HO_7; clear BK457; clear BK458; clear HB; have HO_7 := n0_; have BK457 := n1_; have BK458 := n2_; have HB := n3_; clear n0_ n1_ n2_ n3_; (try clear hb); (try clear hb2); (try clear hk); (try clear hi)) | ((with_reducible refine gate_builtin (b := .append) (xs := #[.tmp 29, .tmp 31]) rfl ?_); at_builtin; refine Kd.R_append (Kd.int .i64) (w0 := w) w.heap.size rfl (.tmp 29) (.tmp 31) 83 3 (.int .i64 0) 8 rfl Try.underlying83 info3 rfl (by decide) (by omega) u7 x7_1 x22_1 [.int .i64 x22_1] (fun _ => True) (fun _ => False) rfl rfl ?aP (fun _ hk => hk.elim) ?aF ?aO ?aB ?aS ?aL ?_; (case aP => exact rfl); (case aB => exact (by repeat (first | (with_reducible first | exact HB.out | apply Zad | apply Zaa | apply Zac | refine Zae ?_ GE457.out | refine Zae ?_ GE458.out) | exact HB.out))); (case aF => exact (fun _ _ => trivial)); (case aO => exact (by (with_reducible repeat (first | apply Kd.R_alloc | apply Kd.R_drewN | apply Kd.R_drew)); exact HO_7.out)); (case aS => exact (Zan (by repeat (first | (with_reducible first | exact HB.out | apply Zad | apply Zaa | apply Zac | refine Zae ?_ GE457.out | refine Zae ?_ GE458.out) | exact HB.out)))); (case aL => have := LMc23.out; omega); intro v471 w27 ho hb hg hat; rw [← Ny470.out] at ho; have n0_ := Zab.mk (blk_grown (g := gb457) (o := .cells #[.int .i64 a0_0, .slice A0_1 l0_1.length c0_1] 28 (0, 0)) (by (with_reducible repeat (first | refine Zag ?_ _ | refine Zah ?_ | refine Zaf ?_ _)); exact BK457.out) hg (Kd.R_ne HO_7.out BK457.out (by decide))); have n1_ := Zab.mk (blk_grown (g := gb458) (o := .cells #[.slice none 0 0, .slice none 0 0, .int .i64 0] 85 (0, 0)) (by (with_reducible repeat (first | refine Zag ?_ _ | refine Zah ?_ | refine Zaf ?_ _)); exact BK458.out) hg (Kd.R_ne HO_7.out BK458.out (by decide))); have n2_ := Zab.mk (hb); have n3_ := Zab.mk (ho); clear BK457; clear BK458; clear HB; clear HO_7; have BK457 := n0_; have BK458 := n1_; have HB := n2_; have HO472 := n3_; clear n0_ n1_ n2_ n3_; clear ho hb hg hat))
        go_roundg k1
        case measure => have := HK1.out; omega
        case rel => exact ⟨(y470), (wrap64 (x22_1 + 1)), (by first | rfl | (simp; done) | (simp [*]; done) | (simp [IntWalk.i64_left, *]; done)), H', ⟨by have := HK1.out; omega⟩, ⟨by (with_reducible repeat (first | apply Kd.R_alloc | apply Kd.R_drewN | apply Kd.R_drew)); exact HO472.out⟩, ⟨by (with_reducible repeat (first | refine Zag ?_ _ | refine Zah ?_ | refine Zaf ?_ _)); exact BK457.out⟩, ⟨by (with_reducible repeat (first | refine Zag ?_ _ | refine Zah ?_ | refine Zaf ?_ _)); exact BK458.out⟩, ⟨by repeat (first | (with_reducible first | exact HB.out | apply Zad | apply Zaa | apply Zac | refine Zae ?_ GE457.out | refine Zae ?_ GE458.out) | exact HB.out)⟩⟩
      ·rw [if_neg c23] at H
       exact absurd H (by simp)
     ·rw [if_neg c22] at H
      have c22b0 : decide (0 < t469) = false := decide_eq_false c22
      clear c22
      have H' := Zab.mk H
      clear H
      have hnb28 := NB457_458.out
      have hnc28 := NB458_457.out
      have hcz29_0 : wr.cell? ⟨gb457, 0, none⟩ = some (.int .i64 a0_0) := (Zaj BK457.out 0).trans rfl
      have hcz29_1 : wr.cell? ⟨gb457, 1, none⟩ = some (.slice A0_1 l0_1.length c0_1) := (Zaj BK457.out 1).trans rfl
      have hfz29_0 := Zak BK457.out 0
      have hfz29_1 := Zak BK457.out 1
      as_aux_lemma =>
       go_wp2_with (first | ((with_reducible refine Zay (f := 109) rfl ?_); refine goesL_ (some 27) rfl rfl Try.func109 (by kernel_rfl) rfl #[.agg #[.int .i64 a0_0, .slice A0_1 l0_1.length c0_1], .int .i64 x22_1] rfl (by (try simp only [List.map_toArray, List.map_cons, List.map_nil]); first | done | rfl | (simp only [List.length_drop, List.length_take]; rfl)) ?_; (with_reducible refine (Za3.calls a0_0 _ _ l0_1 x22_1 t469 _ ?side1 ?side2 A21.out).mono ?_); (case side1 => repeat (first | exact (Kd.C_below HR0_1.out HB.out) | (with_reducible refine Kd.C_alloc ?_ _) | (with_reducible refine Kd.C_drewN ?_ _) | (with_reducible refine Kd.C_drew ?_))); (case side2 => exact HC0_1.out); rintro e w30 ⟨rfl, hb⟩; refine ⟨_, rfl, ?_⟩; have n0_ := Zab.mk (Kd.R_below (by (with_reducible repeat (first | apply Kd.R_alloc | apply Kd.R_drewN | apply Kd.R_drew)); exact HO_7.out) hb); have n1_ := Zab.mk (Zaq (g := gb457) (o := .cells #[.int .i64 a0_0, .slice A0_1 l0_1.length c0_1] 28 (0, 0)) (by (with_reducible repeat (first | refine Zag ?_ _ | refine Zah ?_ | refine Zaf ?_ _)); exact BK457.out) hb); have n2_ := Zab.mk (Zaq (g := gb458) (o := .cells #[.slice none 0 0, .slice none 0 0, .int .i64 0] 85 (0, 0)) (by (with_reducible repeat (first | refine Zag ?_ _ | refine Zah ?_ | refine Zaf ?_ _)); exact BK458.out) hb); have n3_ := Zab.mk (Zap (by repeat (first | (with_reducible first | exact HB.out | apply Zad | apply Zaa | apply Zac | refine Zae ?_ GE457.out | refine Zae ?_ GE458.out) | exact HB.out)) hb); clear HO_7; clear BK457; clear BK458; clear HB; have HO_7 := n0_; have BK457 := n1_; have BK458 := n2_; have HB := n3_; clear n0_ n1_ n2_ n3_; (try clear hb); (try clear hb2); (try clear hk); (try clear hi)))
       go_roundg k1
       case measure => have := HK1.out; omega
       case rel => exact ⟨(x7_1), (wrap64 (x22_1 + 1)), (by first | rfl | (simp; done) | (simp [*]; done) | (simp [IntWalk.i64_left, *]; done)), H', ⟨by have := HK1.out; omega⟩, ⟨by (with_reducible repeat (first | apply Kd.R_alloc | apply Kd.R_drewN | apply Kd.R_drew)); exact HO_7.out⟩, ⟨by (with_reducible repeat (first | refine Zag ?_ _ | refine Zah ?_ | refine Zaf ?_ _)); exact BK457.out⟩, ⟨by (with_reducible repeat (first | refine Zag ?_ _ | refine Zah ?_ | refine Zaf ?_ _)); exact BK458.out⟩, ⟨by repeat (first | (with_reducible first | exact HB.out | apply Zad | apply Zaa | apply Zac | refine Zae ?_ GE457.out | refine Zae ?_ GE458.out) | exact HB.out)⟩⟩
    ·rw [if_neg c20] at H
     have c20b0 : decide (x22_1 < (l0_1.length : Int)) = false := decide_eq_false c20
     clear c20
     replace H := Option.bind_eq_some_iff.mp H
     obtain ⟨t473, A310, H⟩ := H
     replace H : (if a1 = 0 then (some (([] : List Int), ([] : List Int), a1)) else (if 0 ≤ (wrap64 (a1 - 1)) then (if (wrap64 (a1 - 1)) < (x7_1.length : Int) then ((Za3.f a0_0 l0_1 (rd t473 (wrap64 (a1 - 1)))).bind fun t476 => (Zau.l1 k1 t476 t473 (x7_1.length : Int) 0 a0_0 l0_1 ([] : List Int) ([] : List Int) a1)) else (none)) else (none))) = some (r1, r2, r3) := H
     have A31 := Zab.mk A310
     clear A310
     by_cases c32 : a1 = 0
     ·rw [if_pos c32] at H
      have c32b0 : (a1 == 0) = true := beq_iff_eq.mpr c32
      have c32b1 : (a1 != 0) = false := bne_eq_false_iff_eq.mpr c32
      clear c32
      simp only [Option.some.injEq, Prod.mk.injEq] at H
      obtain ⟨rfl, rfl, rfl⟩ := H
      obtain ⟨Ao33, co33, eo33⟩ := Kd.R_slice HO_7.out
      subst eo33
      as_aux_lemma =>
       go_wp2_with (first | ((with_reducible refine Zay (f := 110) rfl ?_); refine goesL_ (some 36) rfl rfl Try.func110 (by kernel_rfl) rfl #[.slice Ao33 x7_1.length co33, .func (.func 111) #[] #[.pointer (some ⟨gb457, 0, none⟩)]] rfl (by (try simp only [List.map_toArray, List.map_cons, List.map_nil]); first | done | rfl | (simp only [List.length_drop, List.length_take]; rfl)) ?_; (with_reducible refine (slices_SortStableFunc_int_int_planFor_1.calls k1 (fun k_ => some k_ = (.slice Ao33 x7_1.length co33 : Value).ownBlock) (.slice Ao33 x7_1.length co33) x7_1 gb457 a0_0 A0_1 c0_1 l0_1 t473 w _ ?side1 ?side2 ?side3 ?side4 ?side5 A31.out).mono ?_); (case side1 => repeat (first | (with_reducible first | exact HB.out | apply Zad | apply Zaa | apply Zac | refine Zae ?_ GE457.out | refine Zae ?_ GE458.out) | exact HB.out)); (case side2 => exact Kd.R_tight rfl HO_7.out); (case side3 => exact (by (with_reducible repeat (first | refine Zag ?_ _ | refine Zah ?_ | refine Zaf ?_ _)); exact BK457.out)); (case side4 => exact Kd.C_kept_came (Kd.heap_int .i64) HR0_1.out (by repeat (first | (with_reducible first | exact HB.out | apply Zad | apply Zaa | apply Zac | refine Zae ?_ GE457.out | refine Zae ?_ GE458.out) | exact HB.out)) (fun k_ hs_ => (fun e_ => Kd.R_base HO_7.out k_ e_.symm) hs_)); (case side5 => exact HC0_1.out); rintro e w34 ⟨rfl, hy0, hb, hkp⟩; refine ⟨_, rfl, ?_⟩; have n0_ := Zab.mk (Kd.R_reok rfl hy0 (fun k_ e_ => HO_7.out.1 k_ e_)); have n1_ := Zab.mk (blk_kept (by (with_reducible repeat (first | refine Zag ?_ _ | refine Zah ?_ | refine Zaf ?_ _)); exact BK457.out) hkp (fun hs_ => (fun e_ => (Kd.R_ne HO_7.out BK457.out (by decide)) e_) hs_)); have n2_ := Zab.mk (blk_kept (by (with_reducible repeat (first | refine Zag ?_ _ | refine Zah ?_ | refine Zaf ?_ _)); exact BK458.out) hkp (fun hs_ => (fun e_ => (Kd.R_ne HO_7.out BK458.out (by decide)) e_) hs_)); have n3_ := Zab.mk (hb); clear HO_7; clear BK457; clear BK458; clear HB; have HO_7 := n0_; have BK457 := n1_; have BK458 := n2_; have HB := n3_; clear n0_ n1_ n2_ n3_; (try clear hb); (try clear hkp); (try clear hy0)) | ((with_reducible refine gate_dst (N := 9) rfl ?_); refine box_event ?hg (N := 9) ?hd (cs := #[.slice none 0 0, .slice none 0 0, .int .i64 0]) (t := 85) ?hr ?_; (case hd => rfl); (case hg => rfl); (case hr => first | (go_simp; done) | (go_simp; rfl)); intro gb474 hg w35 hbox hb; have n0_ := Zab.mk (Kd.R_below (by (with_reducible repeat (first | apply Kd.R_alloc | apply Kd.R_drewN | apply Kd.R_drew)); exact HO_7.out) hb); have n1_ := Zab.mk (Zaq (g := gb457) (o := .cells #[.int .i64 a0_0, .slice A0_1 l0_1.length c0_1] 28 (0, 0)) (by (with_reducible repeat (first | refine Zag ?_ _ | refine Zah ?_ | refine Zaf ?_ _)); exact BK457.out) hb); have n2_ := Zab.mk (Zaq (g := gb458) (o := .cells #[.slice none 0 0, .slice none 0 0, .int .i64 0] 85 (0, 0)) (by (with_reducible repeat (first | refine Zag ?_ _ | refine Zah ?_ | refine Zaf ?_ _)); exact BK458.out) hb); have n3_ := Zab.mk (Zap (by repeat (first | (with_reducible first | exact HB.out | apply Zad | apply Zaa | apply Zac | refine Zae ?_ GE457.out | refine Zae ?_ GE458.out) | exact HB.out)) hb); have n4_ := Zab.mk (hbox); have n5_ := Zab.mk ((by rw [hg]; exact (Zan (by repeat (first | (with_reducible first | exact HB.out | apply Zad | apply Zaa | apply Zac | refine Zae ?_ GE457.out | refine Zae ?_ GE458.out) | exact HB.out))) : w.heap.size ≤ gb474)); have n6_ := Zab.mk ((by rw [hg]; exact (Zan (by repeat (first | (with_reducible first | exact HB.out | apply Zad | apply Zaa | apply Zac | refine Zae ?_ GE457.out | refine Zae ?_ GE458.out) | exact HB.out))) : w.heap.size ≤ gb474)); have n7_ := Zab.mk ((by rw [hg]; exact Nat.ne_of_lt (blk_lt (g := gb457) (o := .cells #[.int .i64 a0_0, .slice A0_1 l0_1.length c0_1] 28 (0, 0)) (by (with_reducible repeat (first | refine Zag ?_ _ | refine Zah ?_ | refine Zaf ?_ _)); exact BK457.out)) : gb457 ≠ gb474)); have n8_ := Zab.mk ((by rw [hg]; exact Nat.ne_of_gt (blk_lt (g := gb457) (o := .cells #[.int .i64 a0_0, .slice A0_1 l0_1.length c0_1] 28 (0, 0)) (by (with_reducible repeat (first | refine Zag ?_ _ | refine Zah ?_ | refine Zaf ?_ _)); exact BK457.out)) : gb474 ≠ gb457)); have n9_ := Zab.mk ((by rw [hg]; exact Nat.ne_of_lt (blk_lt (g := gb458) (o := .cells #[.slice none 0 0, .slice none 0 0, .int .i64 0] 85 (0, 0)) (by (with_reducible repeat (first | refine Zag ?_ _ | refine Zah ?_ | refine Zaf ?_ _)); exact BK458.out)) : gb458 ≠ gb474)); have n10_ := Zab.mk ((by rw [hg]; exact Nat.ne_of_gt (blk_lt (g := gb458) (o := .cells #[.slice none 0 0, .slice none 0 0, .int .i64 0] 85 (0, 0)) (by (with_reducible repeat (first | refine Zag ?_ _ | refine Zah ?_ | refine Zaf ?_ _)); exact BK458.out)) : gb474 ≠ gb458)); clear HO_7; clear BK457; clear BK458; clear HB; have HO_7 := n0_; have BK457 := n1_; have BK458 := n2_; have HB := n3_; have BK474 := n4_; have GW474 := n5_; have GE474 := n6_; have NB457_474 := n7_; have NB474_457 := n8_; have NB458_474 := n9_; have NB474_458 := n10_; clear n0_ n1_ n2_ n3_ n4_ n5_ n6_ n7_ n8_ n9_ n10_; clear hb hbox hg; have hnb36 := NB474_457.out; have hnc36 := NB457_474.out; have hnb37 := NB474_458.out; have hnc37 := NB458_474.out; have hcz38_0 : w35.cell? ⟨gb474, 0, none⟩ = some (.slice none 0 0) := (Zaj BK474.out 0).trans rfl; have hcz38_1 : w35.cell? ⟨gb474, 1, none⟩ = some (.slice none 0 0) := (Zaj BK474.out 1).trans rfl; have hcz38_2 : w35.cell? ⟨gb474, 2, none⟩ = some (.int .i64 0) := (Zaj BK474.out 2).trans rfl; have hfz38_0 := Zak BK474.out 0; have hfz38_1 := Zak BK474.out 1; have hfz38_2 := Zak BK474.out 2; have hnb39 := NB458_457.out; have hnc39 := NB457_458.out; have hcz40_0 : w35.cell? ⟨gb458, 0, none⟩ = some (.slice none 0 0) := (Zaj BK458.out 0).trans rfl; have hcz40_1 : w35.cell? ⟨gb458, 1, none⟩ = some (.slice none 0 0) := (Zaj BK458.out 1).trans rfl; have hcz40_2 : w35.cell? ⟨gb458, 2, none⟩ = some (.int .i64 0) := (Zaj BK458.out 2).trans rfl; have hfz40_0 := Zak BK458.out 0; have hfz40_1 := Zak BK458.out 1; have hfz40_2 := Zak BK458.out 2))
       refine bodyPost_ret (results_cell_row rfl _ _ gb458 85 #[.slice none 0 0, .slice none 0 0, .int .i64 a1] (0, 0) _ rfl (by (with_reducible repeat (first | refine Zag ?_ _ | refine Zah ?_ | refine Zaf ?_ _)); refine blk_put (cs := #[.slice none 0 0, .slice none 0 0, .int .i64 0]) ?_ 2 _ rfl; (with_reducible repeat (first | refine Zag ?_ _ | refine Zah ?_ | refine Zaf ?_ _)); refine blk_put (cs := #[.slice none 0 0, .slice none 0 0, .int .i64 0]) ?_ 1 _ rfl; (with_reducible repeat (first | refine Zag ?_ _ | refine Zah ?_ | refine Zaf ?_ _)); refine blk_put (cs := #[.slice none 0 0, .slice none 0 0, .int .i64 0]) ?_ 0 _ rfl; (with_reducible repeat (first | refine Zag ?_ _ | refine Zah ?_ | refine Zaf ?_ _)); refine blk_far ?_ NB458_474.out _; (with_reducible repeat (first | refine Zag ?_ _ | refine Zah ?_ | refine Zaf ?_ _)); refine blk_far ?_ NB458_474.out _; (with_reducible repeat (first | refine Zag ?_ _ | refine Zah ?_ | refine Zaf ?_ _)); refine blk_far ?_ NB458_474.out _; (with_reducible repeat (first | refine Zag ?_ _ | refine Zah ?_ | refine Zaf ?_ _)); exact BK458.out) Try.underlying85 rfl (by kernel_rfl)) rfl ?_
       exact ⟨_, _, by first | rfl | (simp [Zas, Zar] <;> rfl) | (simp [*, Zas, Zar] <;> rfl), by first | exact Kd.R_nil _ _ _ _ _ | exact Kd.N_nil _ _ _ _ _ | exact Kd.V_nil _ _ _ _ _ | exact Kd.Q_nil _ _ _ _ _ | exact Kd.S_nil _ _ _ _ _, by first | exact Kd.R_nil _ _ _ _ _ | exact Kd.N_nil _ _ _ _ _ | exact Kd.V_nil _ _ _ _ _ | exact Kd.Q_nil _ _ _ _ _ | exact Kd.S_nil _ _ _ _ _, by repeat (first | (with_reducible first | exact HB.out | apply Zad | apply Zaa | apply Zac | refine Zae ?_ GE457.out | refine Zae ?_ GE458.out | refine Zae ?_ GE474.out) | exact HB.out)⟩
     ·rw [if_neg c32] at H
      have c32b0 : (a1 == 0) = false := beq_eq_false_iff_ne.mpr c32
      have c32b1 : (a1 != 0) = true := bne_iff_ne.mpr c32
      obtain ⟨ji41, hji41⟩ : ∃ j_ : Int, (wrap64 (a1 - 1)) = j_ := ⟨_, rfl⟩
      replace H : (if 0 ≤ (ji41) then (if (ji41) < (x7_1.length : Int) then ((Za3.f a0_0 l0_1 (rd t473 (ji41))).bind fun t476 => (Zau.l1 k1 t476 t473 (x7_1.length : Int) 0 a0_0 l0_1 ([] : List Int) ([] : List Int) a1)) else (none)) else (none)) = some (r1, r2, r3) := by first | (rw [hji41] at H; exact H) | (simp only [hji41] at H ⊢; exact H)
      (try rw [hji41] at A31)
      have hji41w : (IntKind.i64.wrap (a1 - 1)) = ji41 := (i64_w _).trans hji41
      by_cases c42 : 0 ≤ (ji41)
      ·rw [if_pos c42] at H
       have c42b0 : decide (0 ≤ (ji41)) = true := decide_eq_true c42
       clear c42
       by_cases c43 : (ji41) < (x7_1.length : Int)
       ·rw [if_pos c43] at H
        have c43b0 : decide ((ji41) < (x7_1.length : Int)) = true := decide_eq_true c43
        clear c43
        replace H := Option.bind_eq_some_iff.mp H
        obtain ⟨t476, A440, H⟩ := H
        replace H : (Zau.l1 k1 t476 t473 (x7_1.length : Int) 0 a0_0 l0_1 ([] : List Int) ([] : List Int) a1) = some (r1, r2, r3) := H
        have A44 := Zab.mk A440
        clear A440
        have H' := Zab.mk H
        clear H
        obtain ⟨Ao45, co45, eo45⟩ := Kd.R_slice HO_7.out
        subst eo45
        try go_wp2_with (first | ((with_reducible refine Zay (f := 110) rfl ?_); refine goesL_ (some 36) rfl rfl Try.func110 (by kernel_rfl) rfl #[.slice Ao45 x7_1.length co45, .func (.func 111) #[] #[.pointer (some ⟨gb457, 0, none⟩)]] rfl (by (try simp only [List.map_toArray, List.map_cons, List.map_nil]); first | done | rfl | (simp only [List.length_drop, List.length_take]; rfl)) ?_; (with_reducible refine (slices_SortStableFunc_int_int_planFor_1.calls k1 (fun k_ => some k_ = (.slice Ao45 x7_1.length co45 : Value).ownBlock) (.slice Ao45 x7_1.length co45) x7_1 gb457 a0_0 A0_1 c0_1 l0_1 t473 w _ ?side1 ?side2 ?side3 ?side4 ?side5 A31.out).mono ?_); (case side1 => repeat (first | (with_reducible first | exact HB.out | apply Zad | apply Zaa | apply Zac | refine Zae ?_ GE457.out | refine Zae ?_ GE458.out) | exact HB.out)); (case side2 => exact Kd.R_tight rfl HO_7.out); (case side3 => exact (by (with_reducible repeat (first | refine Zag ?_ _ | refine Zah ?_ | refine Zaf ?_ _)); exact BK457.out)); (case side4 => exact Kd.C_kept_came (Kd.heap_int .i64) HR0_1.out (by repeat (first | (with_reducible first | exact HB.out | apply Zad | apply Zaa | apply Zac | refine Zae ?_ GE457.out | refine Zae ?_ GE458.out) | exact HB.out)) (fun k_ hs_ => (fun e_ => Kd.R_base HO_7.out k_ e_.symm) hs_)); (case side5 => exact HC0_1.out); rintro e w46 ⟨rfl, hy0, hb, hkp⟩; refine ⟨_, rfl, ?_⟩; have n0_ := Zab.mk (Kd.R_reok rfl hy0 (fun k_ e_ => HO_7.out.1 k_ e_)); have n1_ := Zab.mk (blk_kept (by (with_reducible repeat (first | refine Zag ?_ _ | refine Zah ?_ | refine Zaf ?_ _)); exact BK457.out) hkp (fun hs_ => (fun e_ => (Kd.R_ne HO_7.out BK457.out (by decide)) e_) hs_)); have n2_ := Zab.mk (blk_kept (by (with_reducible repeat (first | refine Zag ?_ _ | refine Zah ?_ | refine Zaf ?_ _)); exact BK458.out) hkp (fun hs_ => (fun e_ => (Kd.R_ne HO_7.out BK458.out (by decide)) e_) hs_)); have n3_ := Zab.mk (hb); clear HO_7; clear BK457; clear BK458; clear HB; have HO_7 := n0_; have BK457 := n1_; have BK458 := n2_; have HB := n3_; clear n0_ n1_ n2_ n3_; (try clear hb); (try clear hkp); (try clear hy0)) | ((with_reducible refine gate_dst (N := 9) rfl ?_); refine box_event ?hg (N := 9) ?hd (cs := #[.slice none 0 0, .slice none 0 0, .int .i64 0]) (t := 85) ?hr ?_; (case hd => rfl); (case hg => rfl); (case hr => first | (go_simp; done) | (go_simp; rfl)); intro gb474 hg w47 hbox hb; have n0_ := Zab.mk (Kd.R_below (by (with_reducible repeat (first | apply Kd.R_alloc | apply Kd.R_drewN | apply Kd.R_drew)); exact HO_7.out) hb); have n1_ := Zab.mk (Zaq (g := gb457) (o := .cells #[.int .i64 a0_0, .slice A0_1 l0_1.length c0_1] 28 (0, 0)) (by (with_reducible repeat (first | refine Zag ?_ _ | refine Zah ?_ | refine Zaf ?_ _)); exact BK457.out) hb); have n2_ := Zab.mk (Zaq (g := gb458) (o := .cells #[.slice none 0 0, .slice none 0 0, .int .i64 0] 85 (0, 0)) (by (with_reducible repeat (first | refine Zag ?_ _ | refine Zah ?_ | refine Zaf ?_ _)); exact BK458.out) hb); have n3_ := Zab.mk (Zap (by repeat (first | (with_reducible first | exact HB.out | apply Zad | apply Zaa | apply Zac | refine Zae ?_ GE457.out | refine Zae ?_ GE458.out) | exact HB.out)) hb); have n4_ := Zab.mk (hbox); have n5_ := Zab.mk ((by rw [hg]; exact (Zan (by repeat (first | (with_reducible first | exact HB.out | apply Zad | apply Zaa | apply Zac | refine Zae ?_ GE457.out | refine Zae ?_ GE458.out) | exact HB.out))) : w.heap.size ≤ gb474)); have n6_ := Zab.mk ((by rw [hg]; exact (Zan (by repeat (first | (with_reducible first | exact HB.out | apply Zad | apply Zaa | apply Zac | refine Zae ?_ GE457.out | refine Zae ?_ GE458.out) | exact HB.out))) : w.heap.size ≤ gb474)); have n7_ := Zab.mk ((by rw [hg]; exact Nat.ne_of_lt (blk_lt (g := gb457) (o := .cells #[.int .i64 a0_0, .slice A0_1 l0_1.length c0_1] 28 (0, 0)) (by (with_reducible repeat (first | refine Zag ?_ _ | refine Zah ?_ | refine Zaf ?_ _)); exact BK457.out)) : gb457 ≠ gb474)); have n8_ := Zab.mk ((by rw [hg]; exact Nat.ne_of_gt (blk_lt (g := gb457) (o := .cells #[.int .i64 a0_0, .slice A0_1 l0_1.length c0_1] 28 (0, 0)) (by (with_reducible repeat (first | refine Zag ?_ _ | refine Zah ?_ | refine Zaf ?_ _)); exact BK457.out)) : gb474 ≠ gb457)); have n9_ := Zab.mk ((by rw [hg]; exact Nat.ne_of_lt (blk_lt (g := gb458) (o := .cells #[.slice none 0 0, .slice none 0 0, .int .i64 0] 85 (0, 0)) (by (with_reducible repeat (first | refine Zag ?_ _ | refine Zah ?_ | refine Zaf ?_ _)); exact BK458.out)) : gb458 ≠ gb474)); have n10_ := Zab.mk ((by rw [hg]; exact Nat.ne_of_gt (blk_lt (g := gb458) (o := .cells #[.slice none 0 0, .slice none 0 0, .int .i64 0] 85 (0, 0)) (by (with_reducible repeat (first | refine Zag ?_ _ | refine Zah ?_ | refine Zaf ?_ _)); exact BK458.out)) : gb474 ≠ gb458)); clear HO_7; clear BK457; clear BK458; clear HB; have HO_7 := n0_; have BK457 := n1_; have BK458 := n2_; have HB := n3_; have BK474 := n4_; have GW474 := n5_; have GE474 := n6_; have NB457_474 := n7_; have NB474_457 := n8_; have NB458_474 := n9_; have NB474_458 := n10_; clear n0_ n1_ n2_ n3_ n4_ n5_ n6_ n7_ n8_ n9_ n10_; clear hb hbox hg; have hnb48 := NB474_457.out; have hnc48 := NB457_474.out; have hnb49 := NB474_458.out; have hnc49 := NB458_474.out; have hcz50_0 : w47.cell? ⟨gb474, 0, none⟩ = some (.slice none 0 0) := (Zaj BK474.out 0).trans rfl; have hcz50_1 : w47.cell? ⟨gb474, 1, none⟩ = some (.slice none 0 0) := (Zaj BK474.out 1).trans rfl; have hcz50_2 : w47.cell? ⟨gb474, 2, none⟩ = some (.int .i64 0) := (Zaj BK474.out 2).trans rfl; have hfz50_0 := Zak BK474.out 0; have hfz50_1 := Zak BK474.out 1; have hfz50_2 := Zak BK474.out 2))
        have n0_ : Zab (Kd.R (Kd.int .i64) 3 (((w47.setCell ⟨gb474, 0, none⟩ (.slice none 0 0)).setCell ⟨gb474, 1, none⟩ (.slice none 0 0)).setCell ⟨gb474, 2, none⟩ (.int .i64 a1)) w.heap.size (fun _ => True) (.slice Ao45 x7_1.length co45) t473) := ⟨by (with_reducible repeat (first | apply Kd.R_alloc | apply Kd.R_drewN | apply Kd.R_drew)); exact Kd.R_mono (Kd.R_far (p := ⟨gb474, 2, none⟩) (Kd.R_far (p := ⟨gb474, 1, none⟩) (Kd.R_far (p := ⟨gb474, 0, none⟩) (Kd.R_types HO_7.out BK474.out (by decide)) (fun _ hk => hk.2) (.slice none 0 0)) (fun _ hk => hk.2) (.slice none 0 0)) (fun _ hk => hk.2) (.int .i64 a1)) (fun _ hk => trivial)⟩
        have n1_ : Zab ((((w47.setCell ⟨gb474, 0, none⟩ (.slice none 0 0)).setCell ⟨gb474, 1, none⟩ (.slice none 0 0)).setCell ⟨gb474, 2, none⟩ (.int .i64 a1)).heap[gb457]? = some (.cells #[.int .i64 a0_0, .slice A0_1 l0_1.length c0_1] 28 (0, 0))) := ⟨by (with_reducible repeat (first | refine Zag ?_ _ | refine Zah ?_ | refine Zaf ?_ _)); refine blk_far ?_ NB457_474.out _; (with_reducible repeat (first | refine Zag ?_ _ | refine Zah ?_ | refine Zaf ?_ _)); refine blk_far ?_ NB457_474.out _; (with_reducible repeat (first | refine Zag ?_ _ | refine Zah ?_ | refine Zaf ?_ _)); refine blk_far ?_ NB457_474.out _; (with_reducible repeat (first | refine Zag ?_ _ | refine Zah ?_ | refine Zaf ?_ _)); exact BK457.out⟩
        have n2_ : Zab ((((w47.setCell ⟨gb474, 0, none⟩ (.slice none 0 0)).setCell ⟨gb474, 1, none⟩ (.slice none 0 0)).setCell ⟨gb474, 2, none⟩ (.int .i64 a1)).heap[gb458]? = some (.cells #[.slice none 0 0, .slice none 0 0, .int .i64 0] 85 (0, 0))) := ⟨by (with_reducible repeat (first | refine Zag ?_ _ | refine Zah ?_ | refine Zaf ?_ _)); refine blk_far ?_ NB458_474.out _; (with_reducible repeat (first | refine Zag ?_ _ | refine Zah ?_ | refine Zaf ?_ _)); refine blk_far ?_ NB458_474.out _; (with_reducible repeat (first | refine Zag ?_ _ | refine Zah ?_ | refine Zaf ?_ _)); refine blk_far ?_ NB458_474.out _; (with_reducible repeat (first | refine Zag ?_ _ | refine Zah ?_ | refine Zaf ?_ _)); exact BK458.out⟩
        have n3_ : Zab ((((w47.setCell ⟨gb474, 0, none⟩ (.slice none 0 0)).setCell ⟨gb474, 1, none⟩ (.slice none 0 0)).setCell ⟨gb474, 2, none⟩ (.int .i64 a1)).heap[gb474]? = some (.cells #[.slice none 0 0, .slice none 0 0, .int .i64 a1] 85 (0, 0))) := ⟨by (with_reducible repeat (first | refine Zag ?_ _ | refine Zah ?_ | refine Zaf ?_ _)); refine blk_put (cs := #[.slice none 0 0, .slice none 0 0, .int .i64 0]) ?_ 2 _ rfl; (with_reducible repeat (first | refine Zag ?_ _ | refine Zah ?_ | refine Zaf ?_ _)); refine blk_put (cs := #[.slice none 0 0, .slice none 0 0, .int .i64 0]) ?_ 1 _ rfl; (with_reducible repeat (first | refine Zag ?_ _ | refine Zah ?_ | refine Zaf ?_ _)); refine blk_put (cs := #[.slice none 0 0, .slice none 0 0, .int .i64 0]) ?_ 0 _ rfl; (with_reducible repeat (first | refine Zag ?_ _ | refine Zah ?_ | refine Zaf ?_ _)); exact BK474.out⟩
        have n4_ : Zab (Below w.heap.size w (((w47.setCell ⟨gb474, 0, none⟩ (.slice none 0 0)).setCell ⟨gb474, 1, none⟩ (.slice none 0 0)).setCell ⟨gb474, 2, none⟩ (.int .i64 a1))) := ⟨by repeat (first | (with_reducible first | exact HB.out | apply Zad | apply Zaa | apply Zac | refine Zae ?_ GE457.out | refine Zae ?_ GE458.out | refine Zae ?_ GE474.out) | exact HB.out)⟩
        (try clear HO_7)
        (try clear BK457)
        (try clear BK458)
        (try clear BK474)
        (try clear HB)
        generalize (((w47.setCell ⟨gb474, 0, none⟩ (.slice none 0 0)).setCell ⟨gb474, 1, none⟩ (.slice none 0 0)).setCell ⟨gb474, 2, none⟩ (.int .i64 a1)) = w51 at n0_ n1_ n2_ n3_ n4_ ⊢
        have HO_7 := n0_
        have BK457 := n1_
        have BK458 := n2_
        have BK474 := n3_
        have HB := n4_
        clear n0_ n1_ n2_ n3_ n4_
        have n0_ := Zab.mk (Kd.R_drew HO_7.out)
        have n1_ := Zab.mk (Zah BK457.out)
        have n2_ := Zab.mk (Zah BK458.out)
        have n3_ := Zab.mk (Zah BK474.out)
        have n4_ := Zab.mk (Zac HB.out)
        clear HO_7
        clear BK457
        clear BK458
        clear BK474
        clear HB
        have HO_7 := n0_
        have BK457 := n1_
        have BK458 := n2_
        have BK474 := n3_
        have HB := n4_
        clear n0_ n1_ n2_ n3_ n4_
        have p475 : 0 ≤ ((ji41) : Int) := of_decide_eq_true (by first | (with_reducible assumption) | assumption)
        have q475 : (ji41) < (t473.length : Int) := (by have h_ : ((ji41) : Int) < ((x7_1.length : Int) : Int) := of_decide_eq_true (by first | (with_reducible assumption) | assumption); have e_ := (Kd.R_reads' HO_7.out).1; omega)
        have ql475 : (((ji41) : Int) < ((x7_1.length : Int) : Int)) = True := eq_true (of_decide_eq_true (by first | (with_reducible assumption) | assumption))
        obtain ⟨ad475, e475, hx475_0⟩ := Kd.at_int (Kd.R_reads' HO_7.out).2.2 (ji41) p475 q475
        cases e475
        replace p475 := eq_true p475
        replace q475 := eq_true q475
        refine start_ (n := 8) (S := fun w' => w'.cell? ⟨gb457, 0, none⟩ = some (.int .i64 a0_0) ∧ w'.cell? ⟨gb457, 1, none⟩ = some (.slice A0_1 l0_1.length c0_1) ∧ w'.cell? (ad475.add ((ji41)).toNat) = some (.int .i64 (rd t473 (ji41)))) (ds := []) #[false, false, false, false, false, false, false, false] (by kernel_rfl) rfl rfl ⟨(Zaj BK457.out 0).trans rfl, (Zaj BK457.out 1).trans rfl, hx475_0⟩ (fun hHeld => ?_); refine with_tabW Zau.tab14 Zau.bits14 (fun HT_ HW_ => ?_)
        generalize w51.drew = w52 at HO_7 BK457 BK458 BK474 HB hx475_0 hHeld ⊢
        refine pure_ (i := 1) (N := some 43) (v := ?_) (a' := ?_) #[false, true, false, false, false, false, false, false] rfl rfl (Za1 HT_.out (by kernel_rfl)) (fun _ _ _ h => h) (Or.inl ⟨by rfl, ?_⟩) ?_ ?_
        rotate_left
        ·intro w'
         go_simp
         with_reducible rfl
        rotate_left
        ·simp only [Act.put, ZA, ZB, ZC, i64_w, i32_w]
         rfl
        refine pure_ (i := 2) (N := some 44) (v := ?_) (a' := ?_) #[false, true, true, false, false, false, false, false] rfl rfl (Za1 HT_.out (by kernel_rfl)) (fun _ _ _ h => h) (Or.inl ⟨by rfl, ?_⟩) ?_ ?_
        rotate_left
        ·intro w'
         go_simp
         with_reducible rfl
        rotate_left
        ·simp only [Act.put, ZA, ZB, ZC, i64_w, i32_w]
         rfl
        refine pure_ (i := 3) (N := some 45) (v := ?_) (a' := ?_) #[false, true, true, true, false, false, false, false] rfl rfl (Za1 HT_.out (by kernel_rfl)) (fun _ _ _ h => h) (Or.inl ⟨by rfl, ?_⟩) ?_ ?_
        rotate_left
        ·intro w'
         go_simp
         with_reducible rfl
        rotate_left
        ·simp only [Act.put, ZA, ZB, ZC, i64_w, i32_w]
         rfl
        refine pure_ (i := 4) (N := some 46) (v := ?_) (a' := ?_) #[false, true, true, true, true, false, false, false] rfl rfl (Za1 HT_.out (by kernel_rfl)) (fun _ _ _ h => h) (Or.inl ⟨by rfl, ?_⟩) ?_ ?_
        rotate_left
        ·intro w'
         go_simp
         with_reducible rfl
        rotate_left
        ·simp only [Act.put, ZA, ZB, ZC, i64_w, i32_w]
         rfl
        refine take_ (i := 0) (N := some 42) (v := ?_) (a' := ?_) #[true, true, true, true, true, false, false, false] rfl rfl (take_ofW HT_.out HW_.out (by kernel_rfl)) (fun _ _ _ h => h) (Or.inl ⟨by rfl, ?_⟩) hHeld ?_ ?_
        rotate_left
        ·rintro w' ⟨s0, s1, s2⟩
         go_simp
         with_reducible rfl
        rotate_left
        ·simp only [Act.put, ZA, ZB, ZC, i64_w, i32_w]
         rfl
        refine take_ (i := 5) (N := some 47) (v := ?_) (a' := ?_) #[true, true, true, true, true, true, false, false] rfl rfl (take_ofW HT_.out HW_.out (by kernel_rfl)) (fun _ _ _ h => h) (Or.inl ⟨by rfl, ?_⟩) hHeld ?_ ?_
        rotate_left
        ·rintro w' ⟨s0, s1, s2⟩
         go_simp
         with_reducible rfl
        rotate_left
        ·simp only [Act.put, ZA, ZB, ZC, i64_w, i32_w]
         rfl
        refine one_ (i := 6) (N := some 48) #[true, true, true, true, true, true, true, false] rfl rfl (one_of HT_.out (by kernel_rfl)) (by decide) (fun K hK => ?_)
        refine goes_ Try.func109 (by kernel_rfl) rfl #[.agg #[.int .i64 a0_0, .slice A0_1 l0_1.length c0_1], .int .i64 (rd t473 (ji41))] (by rfl) rfl rfl (by (try simp only [List.map_toArray, List.map_cons, List.map_nil]); first | done | (simp only [hji41]; rfl) | rfl | (simp only [List.length_drop, List.length_take]; rfl)) ?_
        with_reducible refine (Za3.calls a0_0 _ _ l0_1 (rd t473 (ji41)) t476 _ ?side1 ?side2 A44.out).mono ?_
        (case side1 => repeat (first | exact (Kd.C_below HR0_1.out HB.out) | (with_reducible refine Kd.C_alloc ?_ _) | (with_reducible refine Kd.C_drewN ?_ _) | (with_reducible refine Kd.C_drew ?_)))
        (case side2 => exact HC0_1.out)
        rintro e w53 ⟨rfl, hb⟩
        have HS2_ := (hb.cell (World.block_lt_of_cell? _ _ (hHeld.2.2))).trans (hHeld.2.2)
        refine ⟨_, rfl, ?_⟩
        have n0_ := Zab.mk (Kd.R_below (by (with_reducible repeat (first | apply Kd.R_alloc | apply Kd.R_drewN | apply Kd.R_drew)); exact HO_7.out) hb)
        have n1_ := Zab.mk (Zaq (g := gb457) (o := .cells #[.int .i64 a0_0, .slice A0_1 l0_1.length c0_1] 28 (0, 0)) (by (with_reducible repeat (first | refine Zag ?_ _ | refine Zah ?_ | refine Zaf ?_ _)); exact BK457.out) hb)
        have n2_ := Zab.mk (Zaq (g := gb458) (o := .cells #[.slice none 0 0, .slice none 0 0, .int .i64 0] 85 (0, 0)) (by (with_reducible repeat (first | refine Zag ?_ _ | refine Zah ?_ | refine Zaf ?_ _)); exact BK458.out) hb)
        have n3_ := Zab.mk (Zaq (g := gb474) (o := .cells #[.slice none 0 0, .slice none 0 0, .int .i64 a1] 85 (0, 0)) (by (with_reducible repeat (first | refine Zag ?_ _ | refine Zah ?_ | refine Zaf ?_ _)); exact BK474.out) hb)
        have n4_ := Zab.mk (Zap (by repeat (first | (with_reducible first | exact HB.out | apply Zad | apply Zaa | apply Zac | refine Zae ?_ GE457.out | refine Zae ?_ GE458.out | refine Zae ?_ GE474.out) | exact HB.out)) hb)
        clear HO_7
        clear BK457
        clear BK458
        clear BK474
        clear HB
        have HO_7 := n0_
        have BK457 := n1_
        have BK458 := n2_
        have BK474 := n3_
        have HB := n4_
        clear n0_ n1_ n2_ n3_ n4_
        (try clear hb)
        (try clear hb2)
        (try clear hk)
        (try clear hi)
        refine hK.out _ _ ⟨(Zaj BK457.out 0).trans rfl, (Zaj BK457.out 1).trans rfl, HS2_⟩ (fun hHeld => ?_)
        clear hK K
        refine norm_ (a' := ?_) ?_ ?_
        rotate_left
        ·show Act.put _ (some 48) _ = _
         simp only [Act.put, ZA, ZB, ZC, i64_w, i32_w]
         rfl
        refine pure_ (i := 7) (N := some 10) (v := ?_) (a' := ?_) #[true, true, true, true, true, true, true, true] rfl rfl (Za1 HT_.out (by kernel_rfl)) (fun _ _ _ h => h) (Or.inl ⟨by rfl, ?_⟩) ?_ ?_
        rotate_left
        ·intro w'
         go_simp
         with_reducible rfl
        rotate_left
        ·simp only [Act.put, ZA, ZB, ZC, i64_w, i32_w]
         rfl
        refine done_ (done_of HT_.out (by kernel_rfl)) ?_
        try go_wp2
        go_loopg [51] k1 (fun kq v51 w' => ∃ (x51_2 : Int) (x475000_2 : List Int) (x475001_2 : List Int) (x475002_2 : Int) (u475000 : Value) (u475001 : Value), v51 = .int .i64 x51_2 ∧ Zab (Zau.l1 kq t476 t473 (x7_1.length : Int) x51_2 a0_0 l0_1 x475000_2 x475001_2 x475002_2 = some (r1, r2, r3)) ∧ Zab (kq ≤ k1) ∧ Zab (Kd.R (Kd.int .i64) 3 w' w.heap.size (fun k_ => some k_ ≠ (u475000 : Value).ownBlock ∧ some k_ ≠ (u475001 : Value).ownBlock) (.slice (some ad475) x7_1.length co45) t473) ∧ Zab (Kd.R (Kd.int .i64) 3 w' w.heap.size (fun k_ => some k_ ≠ ((.slice (some ad475) x7_1.length co45) : Value).ownBlock ∧ some k_ ≠ (u475001 : Value).ownBlock) u475000 x475000_2) ∧ Zab (Kd.R (Kd.int .i64) 3 w' w.heap.size (fun k_ => some k_ ≠ ((.slice (some ad475) x7_1.length co45) : Value).ownBlock ∧ some k_ ≠ (u475000 : Value).ownBlock) u475001 x475001_2) ∧ Zab (w'.heap[gb457]? = some (.cells #[.int .i64 a0_0, (.slice A0_1 l0_1.length c0_1)] 28 (0, 0))) ∧ Zab (w'.heap[gb458]? = some (.cells #[(.slice none 0 0), (.slice none 0 0), .int .i64 0] 85 (0, 0))) ∧ Zab (w'.heap[gb474]? = some (.cells #[u475000, u475001, .int .i64 x475002_2] 85 (0, 0))) ∧ Zab (Below w.heap.size w w'))
        case atStart => exact ⟨(0), (([] : List Int)), (([] : List Int)), (a1), (.slice none 0 0), (.slice none 0 0), (by first | rfl | (simp; done) | (simp [*]; done) | (simp [IntWalk.i64_left, *]; done)), H', ⟨Nat.le_refl _⟩, ⟨by (with_reducible repeat (first | apply Kd.R_alloc | apply Kd.R_drewN | apply Kd.R_drew)); exact Kd.R_mono HO_7.out (fun _ hk => ⟨(by simp [Value.ownBlock]), (by simp [Value.ownBlock])⟩)⟩, ⟨by first | exact Kd.R_nil _ _ _ _ _ | exact Kd.N_nil _ _ _ _ _ | exact Kd.V_nil _ _ _ _ _ | exact Kd.Q_nil _ _ _ _ _ | exact Kd.S_nil _ _ _ _ _⟩, ⟨by first | exact Kd.R_nil _ _ _ _ _ | exact Kd.N_nil _ _ _ _ _ | exact Kd.V_nil _ _ _ _ _ | exact Kd.Q_nil _ _ _ _ _ | exact Kd.S_nil _ _ _ _ _⟩, ⟨by (with_reducible repeat (first | refine Zag ?_ _ | refine Zah ?_ | refine Zaf ?_ _)); exact BK457.out⟩, ⟨by (with_reducible repeat (first | refine Zag ?_ _ | refine Zah ?_ | refine Zaf ?_ _)); exact BK458.out⟩, ⟨by (with_reducible repeat (first | refine Zag ?_ _ | refine Zah ?_ | refine Zaf ?_ _)); exact BK474.out⟩, ⟨by repeat (first | (with_reducible first | exact HB.out | apply Zad | apply Zaa | apply Zac | refine Zae ?_ GE457.out | refine Zae ?_ GE458.out | refine Zae ?_ GE474.out) | exact HB.out)⟩⟩
        case round =>
         clear H'
         try clear c1
         try clear c2
         try clear p2
         try clear c3
         try clear c4
         try clear c4b0
         try clear c4b1
         try clear p4
         try clear q4
         try clear hx4
         try clear p6
         try clear c8
         try clear c9
         try clear c10
         try clear c18
         try clear c20
         try clear c20b0
         try clear c22
         try clear c22b0
         try clear c23
         try clear c24
         try clear c28
         try clear c32
         try clear c32b0
         try clear c32b1
         try clear c36
         try clear c37
         try clear c39
         try clear c42
         try clear c42b0
         try clear c43
         try clear c43b0
         try clear p47
         try clear q47
         try clear hx47
         try clear c48
         try clear c49
         try clear hcz12_0
         try clear hcz12_1
         try clear hcz12_2
         try clear hcz19_0
         try clear hcz19_1
         try clear hcz25_0
         try clear hcz25_1
         try clear hcz29_0
         try clear hcz29_1
         try clear hcz38_0
         try clear hcz38_1
         try clear hcz38_2
         try clear hcz40_0
         try clear hcz40_1
         try clear hcz40_2
         try clear hcz50_0
         try clear hcz50_1
         try clear hcz50_2
         try clear hcz9_0
         try clear hcz9_1
         try clear hfz12_0
         try clear hfz12_1
         try clear hfz12_2
         try clear hfz19_0
         try clear hfz19_1
         try clear hfz25_0
         try clear hfz25_1
         try clear hfz29_0
         try clear hfz29_1
         try clear hfz38_0
         try clear hfz38_1
         try clear hfz38_2
         try clear hfz40_0
         try clear hfz40_1
         try clear hfz40_2
         try clear hfz50_0
         try clear hfz50_1
         try clear hfz50_2
         try clear hfz9_0
         try clear hfz9_1
         try clear hx475_0
         try clear p2
         try clear p475
         try clear q475
         obtain ⟨x51_2, x475000_2, x475001_2, x475002_2, u475000, u475001, rfl, HA, HK2, HO_49, HO_475000, HO_475001, BK457, BK458, BK474, HB⟩ := hrel
         have hl49_2 := (Kd.R_reads' HO_49.out).1
         rw [hl49_2] at HO_49
         (try simp only [hl49_2])
         (try simp only [hl49_2] at BK457)
         (try simp only [hl49_2] at BK458)
         (try simp only [hl49_2] at BK474)
         (try simp only [hl49_2] at HO_475000)
         (try simp only [hl49_2] at HO_475001)
         cases gk with
         | zero => exact absurd HA.out (by simp [Zau.l1])
         | succ k2 =>
          have H := HA.out
          clear HA
          simp only [Zau.l1] at H
          by_cases c54 : x51_2 < (x7_1.length : Int)
          ·rw [if_pos c54] at H
           have c54b0 : decide (x51_2 < (x7_1.length : Int)) = true := decide_eq_true c54
           clear c54
           by_cases c55 : 0 ≤ x51_2
           ·rw [if_pos c55] at H
            have c55b0 : decide (0 ≤ x51_2) = true := decide_eq_true c55
            clear c55
            by_cases c56 : x51_2 < (t473.length : Int)
            ·rw [if_pos c56] at H
             have c56b0 : decide (x51_2 < (t473.length : Int)) = true := decide_eq_true c56
             clear c56
             replace H := Option.bind_eq_some_iff.mp H
             obtain ⟨t478, A570, H⟩ := H
             replace H : (if t478 > t476 then (if x475000_2.length < 17592186044416 then (Zau.l1 k2 t476 t473 (x7_1.length : Int) (wrap64 (x51_2 + 1)) a0_0 l0_1 (x475000_2 ++ [rd t473 x51_2]) x475001_2 (wrap64 (x475002_2 - 1))) else (none)) else ((Za3.f a0_0 l0_1 (rd t473 x51_2)).bind fun t482 => (if t482 = t476 then (if x475001_2.length < 17592186044416 then (Zau.l1 k2 t476 t473 (x7_1.length : Int) (wrap64 (x51_2 + 1)) a0_0 l0_1 x475000_2 (x475001_2 ++ [rd t473 x51_2]) x475002_2) else (none)) else (Zau.l1 k2 t476 t473 (x7_1.length : Int) (wrap64 (x51_2 + 1)) a0_0 l0_1 x475000_2 x475001_2 x475002_2)))) = some (r1, r2, r3) := H
             have A57 := Zab.mk A570
             clear A570
             by_cases c58 : t478 > t476
             ·rw [if_pos c58] at H
              have c58b0 : decide (t476 < t478) = true := decide_eq_true c58
              clear c58
              by_cases c59 : x475000_2.length < 17592186044416
              ·rw [if_pos c59] at H
               have LMc59 := Zab.mk c59
               clear c59
               obtain ⟨y479, hy479⟩ : ∃ y_ : List Int, y_ = (x475000_2 ++ [rd t473 x51_2]) := ⟨_, rfl⟩
               replace H : (Zau.l1 k2 t476 t473 (x7_1.length : Int) (wrap64 (x51_2 + 1)) a0_0 l0_1 y479 x475001_2 (wrap64 (x475002_2 - 1))) = some (r1, r2, r3) := by first | (rw [hy479]; with_reducible exact H) | (have H2_ := (Option.bind_some _ _).symm.trans H; rw [hy479]; with_reducible exact H2_) | (have H2_ := (Option.bind_some _ _).symm.trans H; with_reducible exact H2_) | with_reducible exact H | (rw [hy479]; exact H) | exact H
               have Ny479 := Zab.mk hy479
               clear hy479
               have H' := Zab.mk H
               clear H
               have p477 : 0 ≤ (x51_2 : Int) := of_decide_eq_true (by first | (with_reducible assumption) | assumption)
               have q477 : x51_2 < (t473.length : Int) := of_decide_eq_true (by first | (with_reducible assumption) | assumption)
               obtain ⟨ad477, e477, hx477_0⟩ := Kd.at_int (Kd.R_reads' HO_49.out).2.2 x51_2 p477 q477
               obtain rfl : ad475 = ad477 := (by injection e477)
               replace p477 := eq_true p477
               replace q477 := eq_true q477
               have hnb60 := NB457_458.out
               have hnc60 := NB458_457.out
               have hnb61 := NB457_474.out
               have hnc61 := NB474_457.out
               have hcz62_0 : wr.cell? ⟨gb457, 0, none⟩ = some (.int .i64 a0_0) := (Zaj BK457.out 0).trans rfl
               have hcz62_1 : wr.cell? ⟨gb457, 1, none⟩ = some (.slice A0_1 l0_1.length c0_1) := (Zaj BK457.out 1).trans rfl
               have hfz62_0 := Zak BK457.out 0
               have hfz62_1 := Zak BK457.out 1
               as_aux_lemma =>
                go_wp2_with (first | ((with_reducible refine Zay (f := 109) rfl ?_); refine goesL_ (some 58) rfl rfl Try.func109 (by kernel_rfl) rfl #[.agg #[.int .i64 a0_0, .slice A0_1 l0_1.length c0_1], .int .i64 (rd t473 x51_2)] rfl (by (try simp only [List.map_toArray, List.map_cons, List.map_nil]); first | done | rfl | (simp only [List.length_drop, List.length_take]; rfl)) ?_; (with_reducible refine (Za3.calls a0_0 _ _ l0_1 (rd t473 x51_2) t478 _ ?side1 ?side2 A57.out).mono ?_); (case side1 => repeat (first | exact (Kd.C_below HR0_1.out HB.out) | (with_reducible refine Kd.C_alloc ?_ _) | (with_reducible refine Kd.C_drewN ?_ _) | (with_reducible refine Kd.C_drew ?_))); (case side2 => exact HC0_1.out); rintro e w63 ⟨rfl, hb⟩; refine ⟨_, rfl, ?_⟩; have n0_ := Zab.mk (Kd.R_below (by (with_reducible repeat (first | apply Kd.R_alloc | apply Kd.R_drewN | apply Kd.R_drew)); exact HO_49.out) hb); have n1_ := Zab.mk (Kd.R_below (by (with_reducible repeat (first | apply Kd.R_alloc | apply Kd.R_drewN | apply Kd.R_drew)); exact HO_475000.out) hb); have n2_ := Zab.mk (Kd.R_below (by (with_reducible repeat (first | apply Kd.R_alloc | apply Kd.R_drewN | apply Kd.R_drew)); exact HO_475001.out) hb); have n3_ := Zab.mk (Zaq (g := gb457) (o := .cells #[.int .i64 a0_0, .slice A0_1 l0_1.length c0_1] 28 (0, 0)) (by (with_reducible repeat (first | refine Zag ?_ _ | refine Zah ?_ | refine Zaf ?_ _)); exact BK457.out) hb); have n4_ := Zab.mk (Zaq (g := gb458) (o := .cells #[.slice none 0 0, .slice none 0 0, .int .i64 0] 85 (0, 0)) (by (with_reducible repeat (first | refine Zag ?_ _ | refine Zah ?_ | refine Zaf ?_ _)); exact BK458.out) hb); have n5_ := Zab.mk (Zaq (g := gb474) (o := .cells #[u475000, u475001, .int .i64 x475002_2] 85 (0, 0)) (by (with_reducible repeat (first | refine Zag ?_ _ | refine Zah ?_ | refine Zaf ?_ _)); exact BK474.out) hb); have n6_ := Zab.mk (Zap (by repeat (first | (with_reducible first | exact HB.out | apply Zad | apply Zaa | apply Zac | refine Zae ?_ GE457.out | refine Zae ?_ GE458.out | refine Zae ?_ GE474.out) | exact HB.out)) hb); clear HO_49; clear HO_475000; clear HO_475001; clear BK457; clear BK458; clear BK474; clear HB; have HO_49 := n0_; have HO_475000 := n1_; have HO_475001 := n2_; have BK457 := n3_; have BK458 := n4_; have BK474 := n5_; have HB := n6_; clear n0_ n1_ n2_ n3_ n4_ n5_ n6_; (try clear hb); (try clear hb2); (try clear hk); (try clear hi); have hnb64 := NB474_458.out; have hnc64 := NB458_474.out; have hcz65_0 : w63.cell? ⟨gb474, 0, none⟩ = some (u475000) := (Zaj BK474.out 0).trans rfl; have hcz65_1 : w63.cell? ⟨gb474, 1, none⟩ = some (u475001) := (Zaj BK474.out 1).trans rfl; have hcz65_2 : w63.cell? ⟨gb474, 2, none⟩ = some (.int .i64 x475002_2) := (Zaj BK474.out 2).trans rfl; have hfz65_0 := Zak BK474.out 0; have hfz65_1 := Zak BK474.out 1; have hfz65_2 := Zak BK474.out 2) | ((with_reducible refine gate_builtin (b := .append) (xs := #[.tmp 62, .tmp 64]) rfl ?_); at_builtin; refine Kd.R_append (Kd.int .i64) (w0 := w) w.heap.size rfl (.tmp 62) (.tmp 64) 83 3 (.int .i64 0) 8 rfl Try.underlying83 info3 rfl (by decide) (by omega) u475000 x475000_2 (rd t473 x51_2) [.int .i64 (rd t473 x51_2)] (fun k_ => some k_ ≠ (.slice (some ad475) t473.length co45 : Value).ownBlock ∧ some k_ ≠ (u475001 : Value).ownBlock) (fun _ => False) rfl rfl ?aP (fun _ hk => hk.elim) ?aF ?aO ?aB ?aS ?aL ?_; (case aP => exact rfl); (case aB => exact (by repeat (first | (with_reducible first | exact HB.out | apply Zad | apply Zaa | apply Zac | refine Zae ?_ GE457.out | refine Zae ?_ GE458.out | refine Zae ?_ GE474.out) | exact HB.out))); (case aF => exact (fun k_ hk => ⟨Kd.fresh' (Kd.R_lt (by (with_reducible repeat (first | apply Kd.R_alloc | apply Kd.R_drewN | apply Kd.R_drew)); exact HO_49.out)) k_ hk, Kd.fresh' (Kd.R_lt (by (with_reducible repeat (first | apply Kd.R_alloc | apply Kd.R_drewN | apply Kd.R_drew)); exact HO_475001.out)) k_ hk⟩)); (case aO => exact (by (with_reducible repeat (first | apply Kd.R_alloc | apply Kd.R_drewN | apply Kd.R_drew)); exact HO_475000.out)); (case aS => exact (Zan (by repeat (first | (with_reducible first | exact HB.out | apply Zad | apply Zaa | apply Zac | refine Zae ?_ GE457.out | refine Zae ?_ GE458.out | refine Zae ?_ GE474.out) | exact HB.out)))); (case aL => have := LMc59.out; omega); intro v480 w66 ho hb hg hat; rw [← Ny479.out] at ho; have n0_ := Zab.mk (Kd.R_after (ok := (fun k_ => some k_ ≠ (u475001 : Value).ownBlock)) (by (with_reducible repeat (first | apply Kd.R_alloc | apply Kd.R_drewN | apply Kd.R_drew)); exact Kd.R_mono HO_49.out (fun _ hk => ⟨hk.2, hk.1⟩)) hg hat); have n1_ := Zab.mk (Kd.R_after (ok := (fun k_ => some k_ ≠ (.slice (some ad475) t473.length co45 : Value).ownBlock)) (by (with_reducible repeat (first | apply Kd.R_alloc | apply Kd.R_drewN | apply Kd.R_drew)); exact HO_475001.out) hg hat); have n2_ := Zab.mk (blk_grown (g := gb457) (o := .cells #[.int .i64 a0_0, .slice A0_1 l0_1.length c0_1] 28 (0, 0)) (by (with_reducible repeat (first | refine Zag ?_ _ | refine Zah ?_ | refine Zaf ?_ _)); exact BK457.out) hg (Kd.R_ne HO_475000.out BK457.out (by decide))); have n3_ := Zab.mk (blk_grown (g := gb458) (o := .cells #[.slice none 0 0, .slice none 0 0, .int .i64 0] 85 (0, 0)) (by (with_reducible repeat (first | refine Zag ?_ _ | refine Zah ?_ | refine Zaf ?_ _)); exact BK458.out) hg (Kd.R_ne HO_475000.out BK458.out (by decide))); have n4_ := Zab.mk (blk_grown (g := gb474) (o := .cells #[u475000, u475001, .int .i64 x475002_2] 85 (0, 0)) (by (with_reducible repeat (first | refine Zag ?_ _ | refine Zah ?_ | refine Zaf ?_ _)); exact BK474.out) hg (Kd.R_ne HO_475000.out BK474.out (by decide))); have n5_ := Zab.mk (hb); have n6_ := Zab.mk (ho); clear HO_49; clear HO_475001; clear BK457; clear BK458; clear BK474; clear HB; clear HO_475000; have HO_49 := n0_; have HO_475001 := n1_; have BK457 := n2_; have BK458 := n3_; have BK474 := n4_; have HB := n5_; have HO481 := n6_; clear n0_ n1_ n2_ n3_ n4_ n5_ n6_; clear ho hb hg hat; obtain ⟨Ao67, co67, eo67⟩ := Kd.R_slice HO481.out; subst eo67; have hcz68_0 : w66.cell? ⟨gb474, 0, none⟩ = some (u475000) := (Zaj BK474.out 0).trans rfl; have hcz68_1 : w66.cell? ⟨gb474, 1, none⟩ = some (u475001) := (Zaj BK474.out 1).trans rfl; have hcz68_2 : w66.cell? ⟨gb474, 2, none⟩ = some (.int .i64 x475002_2) := (Zaj BK474.out 2).trans rfl; have hfz68_0 := Zak BK474.out 0; have hfz68_1 := Zak BK474.out 1; have hfz68_2 := Zak BK474.out 2))
                (try simp only [← hl49_2])
                go_roundg k2
                case measure => have := HK1.out; have := HK2.out; omega
                case rel => exact ⟨(wrap64 (x51_2 + 1)), (y479), (x475001_2), (wrap64 (x475002_2 - 1)), (.slice Ao67 y479.length co67), (u475001), (by first | rfl | (simp; done) | (simp [*]; done) | (simp [IntWalk.i64_left, *]; done)), H', ⟨by have := HK1.out; have := HK2.out; omega⟩, ⟨by (try simp only [hl49_2]); (with_reducible repeat (first | apply Kd.R_alloc | apply Kd.R_drewN | apply Kd.R_drew)); exact Kd.R_mono (Kd.R_far (p := ⟨gb474, 2, none⟩) (Kd.R_far (p := ⟨gb474, 0, none⟩) (Kd.R_types HO_49.out BK474.out (by decide)) (fun _ hk => hk.2) (.slice Ao67 y479.length co67)) (fun _ hk => hk.2) (.int .i64 (wrap64 (x475002_2 - 1)))) (fun _ hk => ⟨hk.1.2, hk.1.1⟩)⟩, ⟨by (try simp only [hl49_2]); (with_reducible repeat (first | apply Kd.R_alloc | apply Kd.R_drewN | apply Kd.R_drew)); exact Kd.R_mono (Kd.R_far (p := ⟨gb474, 2, none⟩) (Kd.R_far (p := ⟨gb474, 0, none⟩) (Kd.R_types HO481.out BK474.out (by decide)) (fun _ hk => hk.2) (.slice Ao67 y479.length co67)) (fun _ hk => hk.2) (.int .i64 (wrap64 (x475002_2 - 1)))) (fun _ hk => ⟨hk.1.1, hk.1.2⟩)⟩, ⟨by (try simp only [hl49_2]); (with_reducible repeat (first | apply Kd.R_alloc | apply Kd.R_drewN | apply Kd.R_drew)); exact Kd.R_mono (Kd.R_far (p := ⟨gb474, 2, none⟩) (Kd.R_far (p := ⟨gb474, 0, none⟩) (Kd.R_types HO_475001.out BK474.out (by decide)) (fun _ hk => hk.2) (.slice Ao67 y479.length co67)) (fun _ hk => hk.2) (.int .i64 (wrap64 (x475002_2 - 1)))) (fun _ hk => ⟨hk.1.1, hk.1.2⟩)⟩, ⟨by (try simp only [hl49_2]); (with_reducible repeat (first | refine Zag ?_ _ | refine Zah ?_ | refine Zaf ?_ _)); refine blk_far ?_ NB457_474.out _; (with_reducible repeat (first | refine Zag ?_ _ | refine Zah ?_ | refine Zaf ?_ _)); refine blk_far ?_ NB457_474.out _; (with_reducible repeat (first | refine Zag ?_ _ | refine Zah ?_ | refine Zaf ?_ _)); exact BK457.out⟩, ⟨by (try simp only [hl49_2]); (with_reducible repeat (first | refine Zag ?_ _ | refine Zah ?_ | refine Zaf ?_ _)); refine blk_far ?_ NB458_474.out _; (with_reducible repeat (first | refine Zag ?_ _ | refine Zah ?_ | refine Zaf ?_ _)); refine blk_far ?_ NB458_474.out _; (with_reducible repeat (first | refine Zag ?_ _ | refine Zah ?_ | refine Zaf ?_ _)); exact BK458.out⟩, ⟨by (try simp only [hl49_2]); (with_reducible repeat (first | refine Zag ?_ _ | refine Zah ?_ | refine Zaf ?_ _)); refine blk_put (cs := #[.slice Ao67 y479.length co67, u475001, .int .i64 x475002_2]) ?_ 2 _ rfl; (with_reducible repeat (first | refine Zag ?_ _ | refine Zah ?_ | refine Zaf ?_ _)); refine blk_put (cs := #[u475000, u475001, .int .i64 x475002_2]) ?_ 0 _ rfl; (with_reducible repeat (first | refine Zag ?_ _ | refine Zah ?_ | refine Zaf ?_ _)); exact BK474.out⟩, ⟨by repeat (first | (with_reducible first | exact HB.out | apply Zad | apply Zaa | apply Zac | refine Zae ?_ GE457.out | refine Zae ?_ GE458.out | refine Zae ?_ GE474.out) | exact HB.out)⟩⟩
              ·rw [if_neg c59] at H
               exact absurd H (by simp)
             ·rw [if_neg c58] at H
              have c58b0 : decide (t476 < t478) = false := decide_eq_false c58
              clear c58
              replace H := Option.bind_eq_some_iff.mp H
              obtain ⟨t482, A690, H⟩ := H
              replace H : (if t482 = t476 then (if x475001_2.length < 17592186044416 then (Zau.l1 k2 t476 t473 (x7_1.length : Int) (wrap64 (x51_2 + 1)) a0_0 l0_1 x475000_2 (x475001_2 ++ [rd t473 x51_2]) x475002_2) else (none)) else (Zau.l1 k2 t476 t473 (x7_1.length : Int) (wrap64 (x51_2 + 1)) a0_0 l0_1 x475000_2 x475001_2 x475002_2)) = some (r1, r2, r3) := H
              have A69 := Zab.mk A690
              clear A690
              by_cases c70 : t482 = t476
              ·rw [if_pos c70] at H
               have c70b0 : (t482 == t476) = true := beq_iff_eq.mpr c70
               have c70b1 : (t482 != t476) = false := bne_eq_false_iff_eq.mpr c70
               clear c70
               by_cases c71 : x475001_2.length < 17592186044416
               ·rw [if_pos c71] at H
                have LMc71 := Zab.mk c71
                clear c71
                obtain ⟨y483, hy483⟩ : ∃ y_ : List Int, y_ = (x475001_2 ++ [rd t473 x51_2]) := ⟨_, rfl⟩
                replace H : (Zau.l1 k2 t476 t473 (x7_1.length : Int) (wrap64 (x51_2 + 1)) a0_0 l0_1 x475000_2 y483 x475002_2) = some (r1, r2, r3) := by first | (rw [hy483]; with_reducible exact H) | (have H2_ := (Option.bind_some _ _).symm.trans H; rw [hy483]; with_reducible exact H2_) | (have H2_ := (Option.bind_some _ _).symm.trans H; with_reducible exact H2_) | with_reducible exact H | (rw [hy483]; exact H) | exact H
                have Ny483 := Zab.mk hy483
                clear hy483
                have H' := Zab.mk H
                clear H
                have p477 : 0 ≤ (x51_2 : Int) := of_decide_eq_true (by first | (with_reducible assumption) | assumption)
                have q477 : x51_2 < (t473.length : Int) := of_decide_eq_true (by first | (with_reducible assumption) | assumption)
                obtain ⟨ad477, e477, hx477_0⟩ := Kd.at_int (Kd.R_reads' HO_49.out).2.2 x51_2 p477 q477
                obtain rfl : ad475 = ad477 := (by injection e477)
                replace p477 := eq_true p477
                replace q477 := eq_true q477
                have hnb72 := NB457_458.out
                have hnc72 := NB458_457.out
                have hnb73 := NB457_474.out
                have hnc73 := NB474_457.out
                have hcz74_0 : wr.cell? ⟨gb457, 0, none⟩ = some (.int .i64 a0_0) := (Zaj BK457.out 0).trans rfl
                have hcz74_1 : wr.cell? ⟨gb457, 1, none⟩ = some (.slice A0_1 l0_1.length c0_1) := (Zaj BK457.out 1).trans rfl
                have hfz74_0 := Zak BK457.out 0
                have hfz74_1 := Zak BK457.out 1
                as_aux_lemma =>
                 go_wp2_with (first | ((with_reducible refine Zay (f := 109) rfl ?_); refine goesL_ (some 58) rfl rfl Try.func109 (by kernel_rfl) rfl #[.agg #[.int .i64 a0_0, .slice A0_1 l0_1.length c0_1], .int .i64 (rd t473 x51_2)] rfl (by (try simp only [List.map_toArray, List.map_cons, List.map_nil]); first | done | rfl | (simp only [List.length_drop, List.length_take]; rfl)) ?_; (with_reducible refine (Za3.calls a0_0 _ _ l0_1 (rd t473 x51_2) t478 _ ?side1 ?side2 A57.out).mono ?_); (case side1 => repeat (first | exact (Kd.C_below HR0_1.out HB.out) | (with_reducible refine Kd.C_alloc ?_ _) | (with_reducible refine Kd.C_drewN ?_ _) | (with_reducible refine Kd.C_drew ?_))); (case side2 => exact HC0_1.out); rintro e w75 ⟨rfl, hb⟩; refine ⟨_, rfl, ?_⟩; have n0_ := Zab.mk (Kd.R_below (by (with_reducible repeat (first | apply Kd.R_alloc | apply Kd.R_drewN | apply Kd.R_drew)); exact HO_49.out) hb); have n1_ := Zab.mk (Kd.R_below (by (with_reducible repeat (first | apply Kd.R_alloc | apply Kd.R_drewN | apply Kd.R_drew)); exact HO_475000.out) hb); have n2_ := Zab.mk (Kd.R_below (by (with_reducible repeat (first | apply Kd.R_alloc | apply Kd.R_drewN | apply Kd.R_drew)); exact HO_475001.out) hb); have n3_ := Zab.mk (Zaq (g := gb457) (o := .cells #[.int .i64 a0_0, .slice A0_1 l0_1.length c0_1] 28 (0, 0)) (by (with_reducible repeat (first | refine Zag ?_ _ | refine Zah ?_ | refine Zaf ?_ _)); exact BK457.out) hb); have n4_ := Zab.mk (Zaq (g := gb458) (o := .cells #[.slice none 0 0, .slice none 0 0, .int .i64 0] 85 (0, 0)) (by (with_reducible repeat (first | refine Zag ?_ _ | refine Zah ?_ | refine Zaf ?_ _)); exact BK458.out) hb); have n5_ := Zab.mk (Zaq (g := gb474) (o := .cells #[u475000, u475001, .int .i64 x475002_2] 85 (0, 0)) (by (with_reducible repeat (first | refine Zag ?_ _ | refine Zah ?_ | refine Zaf ?_ _)); exact BK474.out) hb); have n6_ := Zab.mk (Zap (by repeat (first | (with_reducible first | exact HB.out | apply Zad | apply Zaa | apply Zac | refine Zae ?_ GE457.out | refine Zae ?_ GE458.out | refine Zae ?_ GE474.out) | exact HB.out)) hb); clear HO_49; clear HO_475000; clear HO_475001; clear BK457; clear BK458; clear BK474; clear HB; have HO_49 := n0_; have HO_475000 := n1_; have HO_475001 := n2_; have BK457 := n3_; have BK458 := n4_; have BK474 := n5_; have HB := n6_; clear n0_ n1_ n2_ n3_ n4_ n5_ n6_; (try clear hb); (try clear hb2); (try clear hk); (try clear hi); have hcz76_0 : w75.cell? ⟨gb457, 0, none⟩ = some (.int .i64 a0_0) := (Zaj BK457.out 0).trans rfl; have hcz76_1 : w75.cell? ⟨gb457, 1, none⟩ = some (.slice A0_1 l0_1.length c0_1) := (Zaj BK457.out 1).trans rfl; have hfz76_0 := Zak BK457.out 0; have hfz76_1 := Zak BK457.out 1) | ((with_reducible refine Zay (f := 109) rfl ?_); refine goesL_ (some 74) rfl rfl Try.func109 (by kernel_rfl) rfl #[.agg #[.int .i64 a0_0, .slice A0_1 l0_1.length c0_1], .int .i64 (rd t473 x51_2)] rfl (by (try simp only [List.map_toArray, List.map_cons, List.map_nil]); first | done | rfl | (simp only [List.length_drop, List.length_take]; rfl)) ?_; (with_reducible refine (Za3.calls a0_0 _ _ l0_1 (rd t473 x51_2) t482 _ ?side1 ?side2 A69.out).mono ?_); (case side1 => repeat (first | exact (Kd.C_below HR0_1.out HB.out) | (with_reducible refine Kd.C_alloc ?_ _) | (with_reducible refine Kd.C_drewN ?_ _) | (with_reducible refine Kd.C_drew ?_))); (case side2 => exact HC0_1.out); rintro e w77 ⟨rfl, hb⟩; refine ⟨_, rfl, ?_⟩; have n0_ := Zab.mk (Kd.R_below (by (with_reducible repeat (first | apply Kd.R_alloc | apply Kd.R_drewN | apply Kd.R_drew)); exact HO_49.out) hb); have n1_ := Zab.mk (Kd.R_below (by (with_reducible repeat (first | apply Kd.R_alloc | apply Kd.R_drewN | apply Kd.R_drew)); exact HO_475000.out) hb); have n2_ := Zab.mk (Kd.R_below (by (with_reducible repeat (first | apply Kd.R_alloc | apply Kd.R_drewN | apply Kd.R_drew)); exact HO_475001.out) hb); have n3_ := Zab.mk (Zaq (g := gb457) (o := .cells #[.int .i64 a0_0, .slice A0_1 l0_1.length c0_1] 28 (0, 0)) (by (with_reducible repeat (first | refine Zag ?_ _ | refine Zah ?_ | refine Zaf ?_ _)); exact BK457.out) hb); have n4_ := Zab.mk (Zaq (g := gb458) (o := .cells #[.slice none 0 0, .slice none 0 0, .int .i64 0] 85 (0, 0)) (by (with_reducible repeat (first | refine Zag ?_ _ | refine Zah ?_ | refine Zaf ?_ _)); exact BK458.out) hb); have n5_ := Zab.mk (Zaq (g := gb474) (o := .cells #[u475000, u475001, .int .i64 x475002_2] 85 (0, 0)) (by (with_reducible repeat (first | refine Zag ?_ _ | refine Zah ?_ | refine Zaf ?_ _)); exact BK474.out) hb); have n6_ := Zab.mk (Zap (by repeat (first | (with_reducible first | exact HB.out | apply Zad | apply Zaa | apply Zac | refine Zae ?_ GE457.out | refine Zae ?_ GE458.out | refine Zae ?_ GE474.out) | exact HB.out)) hb); clear HO_49; clear HO_475000; clear HO_475001; clear BK457; clear BK458; clear BK474; clear HB; have HO_49 := n0_; have HO_475000 := n1_; have HO_475001 := n2_; have BK457 := n3_; have BK458 := n4_; have BK474 := n5_; have HB := n6_; clear n0_ n1_ n2_ n3_ n4_ n5_ n6_; (try clear hb); (try clear hb2); (try clear hk); (try clear hi); have hnb78 := NB474_458.out; have hnc78 := NB458_474.out; have hcz79_0 : w77.cell? ⟨gb474, 0, none⟩ = some (u475000) := (Zaj BK474.out 0).trans rfl; have hcz79_1 : w77.cell? ⟨gb474, 1, none⟩ = some (u475001) := (Zaj BK474.out 1).trans rfl; have hcz79_2 : w77.cell? ⟨gb474, 2, none⟩ = some (.int .i64 x475002_2) := (Zaj BK474.out 2).trans rfl; have hfz79_0 := Zak BK474.out 0; have hfz79_1 := Zak BK474.out 1; have hfz79_2 := Zak BK474.out 2) | ((with_reducible refine gate_builtin (b := .append) (xs := #[.tmp 78, .tmp 80]) rfl ?_); at_builtin; refine Kd.R_append (Kd.int .i64) (w0 := w) w.heap.size rfl (.tmp 78) (.tmp 80) 83 3 (.int .i64 0) 8 rfl Try.underlying83 info3 rfl (by decide) (by omega) u475001 x475001_2 (rd t473 x51_2) [.int .i64 (rd t473 x51_2)] (fun k_ => some k_ ≠ (.slice (some ad475) t473.length co45 : Value).ownBlock ∧ some k_ ≠ (u475000 : Value).ownBlock) (fun _ => False) rfl rfl ?aP (fun _ hk => hk.elim) ?aF ?aO ?aB ?aS ?aL ?_; (case aP => exact rfl); (case aB => exact (by repeat (first | (with_reducible first | exact HB.out | apply Zad | apply Zaa | apply Zac | refine Zae ?_ GE457.out | refine Zae ?_ GE458.out | refine Zae ?_ GE474.out) | exact HB.out))); (case aF => exact (fun k_ hk => ⟨Kd.fresh' (Kd.R_lt (by (with_reducible repeat (first | apply Kd.R_alloc | apply Kd.R_drewN | apply Kd.R_drew)); exact HO_49.out)) k_ hk, Kd.fresh' (Kd.R_lt (by (with_reducible repeat (first | apply Kd.R_alloc | apply Kd.R_drewN | apply Kd.R_drew)); exact HO_475000.out)) k_ hk⟩)); (case aO => exact (by (with_reducible repeat (first | apply Kd.R_alloc | apply Kd.R_drewN | apply Kd.R_drew)); exact HO_475001.out)); (case aS => exact (Zan (by repeat (first | (with_reducible first | exact HB.out | apply Zad | apply Zaa | apply Zac | refine Zae ?_ GE457.out | refine Zae ?_ GE458.out | refine Zae ?_ GE474.out) | exact HB.out)))); (case aL => have := LMc71.out; omega); intro v484 w80 ho hb hg hat; rw [← Ny483.out] at ho; have n0_ := Zab.mk (Kd.R_after (ok := (fun k_ => some k_ ≠ (u475000 : Value).ownBlock)) (by (with_reducible repeat (first | apply Kd.R_alloc | apply Kd.R_drewN | apply Kd.R_drew)); exact HO_49.out) hg hat); have n1_ := Zab.mk (Kd.R_after (ok := (fun k_ => some k_ ≠ (.slice (some ad475) t473.length co45 : Value).ownBlock)) (by (with_reducible repeat (first | apply Kd.R_alloc | apply Kd.R_drewN | apply Kd.R_drew)); exact HO_475000.out) hg hat); have n2_ := Zab.mk (blk_grown (g := gb457) (o := .cells #[.int .i64 a0_0, .slice A0_1 l0_1.length c0_1] 28 (0, 0)) (by (with_reducible repeat (first | refine Zag ?_ _ | refine Zah ?_ | refine Zaf ?_ _)); exact BK457.out) hg (Kd.R_ne HO_475001.out BK457.out (by decide))); have n3_ := Zab.mk (blk_grown (g := gb458) (o := .cells #[.slice none 0 0, .slice none 0 0, .int .i64 0] 85 (0, 0)) (by (with_reducible repeat (first | refine Zag ?_ _ | refine Zah ?_ | refine Zaf ?_ _)); exact BK458.out) hg (Kd.R_ne HO_475001.out BK458.out (by decide))); have n4_ := Zab.mk (blk_grown (g := gb474) (o := .cells #[u475000, u475001, .int .i64 x475002_2] 85 (0, 0)) (by (with_reducible repeat (first | refine Zag ?_ _ | refine Zah ?_ | refine Zaf ?_ _)); exact BK474.out) hg (Kd.R_ne HO_475001.out BK474.out (by decide))); have n5_ := Zab.mk (hb); have n6_ := Zab.mk (ho); clear HO_49; clear HO_475000; clear BK457; clear BK458; clear BK474; clear HB; clear HO_475001; have HO_49 := n0_; have HO_475000 := n1_; have BK457 := n2_; have BK458 := n3_; have BK474 := n4_; have HB := n5_; have HO485 := n6_; clear n0_ n1_ n2_ n3_ n4_ n5_ n6_; clear ho hb hg hat; obtain ⟨Ao81, co81, eo81⟩ := Kd.R_slice HO485.out; subst eo81; have hcz82_0 : w80.cell? ⟨gb474, 0, none⟩ = some (u475000) := (Zaj BK474.out 0).trans rfl; have hcz82_1 : w80.cell? ⟨gb474, 1, none⟩ = some (u475001) := (Zaj BK474.out 1).trans rfl; have hcz82_2 : w80.cell? ⟨gb474, 2, none⟩ = some (.int .i64 x475002_2) := (Zaj BK474.out 2).trans rfl; have hfz82_0 := Zak BK474.out 0; have hfz82_1 := Zak BK474.out 1; have hfz82_2 := Zak BK474.out 2))
                 (try simp only [← hl49_2])
                 go_roundg k2
                 case measure => have := HK1.out; have := HK2.out; omega
                 case rel => exact ⟨(wrap64 (x51_2 + 1)), (x475000_2), (y483), (x475002_2), (u475000), (.slice Ao81 y483.length co81), (by first | rfl | (simp; done) | (simp [*]; done) | (simp [IntWalk.i64_left, *]; done)), H', ⟨by have := HK1.out; have := HK2.out; omega⟩, ⟨by (try simp only [hl49_2]); (with_reducible repeat (first | apply Kd.R_alloc | apply Kd.R_drewN | apply Kd.R_drew)); exact Kd.R_mono (Kd.R_far (p := ⟨gb474, 1, none⟩) (Kd.R_types HO_49.out BK474.out (by decide)) (fun _ hk => hk.2) (.slice Ao81 y483.length co81)) (fun _ hk => ⟨hk.1.1, hk.1.2⟩)⟩, ⟨by (try simp only [hl49_2]); (with_reducible repeat (first | apply Kd.R_alloc | apply Kd.R_drewN | apply Kd.R_drew)); exact Kd.R_mono (Kd.R_far (p := ⟨gb474, 1, none⟩) (Kd.R_types HO_475000.out BK474.out (by decide)) (fun _ hk => hk.2) (.slice Ao81 y483.length co81)) (fun _ hk => ⟨hk.1.1, hk.1.2⟩)⟩, ⟨by (try simp only [hl49_2]); (with_reducible repeat (first | apply Kd.R_alloc | apply Kd.R_drewN | apply Kd.R_drew)); exact Kd.R_mono (Kd.R_far (p := ⟨gb474, 1, none⟩) (Kd.R_types HO485.out BK474.out (by decide)) (fun _ hk => hk.2) (.slice Ao81 y483.length co81)) (fun _ hk => ⟨hk.1.1, hk.1.2⟩)⟩, ⟨by (try simp only [hl49_2]); (with_reducible repeat (first | refine Zag ?_ _ | refine Zah ?_ | refine Zaf ?_ _)); refine blk_far ?_ NB457_474.out _; (with_reducible repeat (first | refine Zag ?_ _ | refine Zah ?_ | refine Zaf ?_ _)); exact BK457.out⟩, ⟨by (try simp only [hl49_2]); (with_reducible repeat (first | refine Zag ?_ _ | refine Zah ?_ | refine Zaf ?_ _)); refine blk_far ?_ NB458_474.out _; (with_reducible repeat (first | refine Zag ?_ _ | refine Zah ?_ | refine Zaf ?_ _)); exact BK458.out⟩, ⟨by (try simp only [hl49_2]); (with_reducible repeat (first | refine Zag ?_ _ | refine Zah ?_ | refine Zaf ?_ _)); refine blk_put (cs := #[u475000, u475001, .int .i64 x475002_2]) ?_ 1 _ rfl; (with_reducible repeat (first | refine Zag ?_ _ | refine Zah ?_ | refine Zaf ?_ _)); exact BK474.out⟩, ⟨by repeat (first | (with_reducible first | exact HB.out | apply Zad | apply Zaa | apply Zac | refine Zae ?_ GE457.out | refine Zae ?_ GE458.out | refine Zae ?_ GE474.out) | exact HB.out)⟩⟩
               ·rw [if_neg c71] at H
                exact absurd H (by simp)
              ·rw [if_neg c70] at H
               have c70b0 : (t482 == t476) = false := beq_eq_false_iff_ne.mpr c70
               have c70b1 : (t482 != t476) = true := bne_iff_ne.mpr c70
               have H' := Zab.mk H
               clear H
               have p477 : 0 ≤ (x51_2 : Int) := of_decide_eq_true (by first | (with_reducible assumption) | assumption)
               have q477 : x51_2 < (t473.length : Int) := of_decide_eq_true (by first | (with_reducible assumption) | assumption)
               obtain ⟨ad477, e477, hx477_0⟩ := Kd.at_int (Kd.R_reads' HO_49.out).2.2 x51_2 p477 q477
               obtain rfl : ad475 = ad477 := (by injection e477)
               replace p477 := eq_true p477
               replace q477 := eq_true q477
               have hnb83 := NB457_458.out
               have hnc83 := NB458_457.out
               have hnb84 := NB457_474.out
               have hnc84 := NB474_457.out
               have hcz85_0 : wr.cell? ⟨gb457, 0, none⟩ = some (.int .i64 a0_0) := (Zaj BK457.out 0).trans rfl
               have hcz85_1 : wr.cell? ⟨gb457, 1, none⟩ = some (.slice A0_1 l0_1.length c0_1) := (Zaj BK457.out 1).trans rfl
               have hfz85_0 := Zak BK457.out 0
               have hfz85_1 := Zak BK457.out 1
               as_aux_lemma =>
                go_wp2_with (first | ((with_reducible refine Zay (f := 109) rfl ?_); refine goesL_ (some 58) rfl rfl Try.func109 (by kernel_rfl) rfl #[.agg #[.int .i64 a0_0, .slice A0_1 l0_1.length c0_1], .int .i64 (rd t473 x51_2)] rfl (by (try simp only [List.map_toArray, List.map_cons, List.map_nil]); first | done | rfl | (simp only [List.length_drop, List.length_take]; rfl)) ?_; (with_reducible refine (Za3.calls a0_0 _ _ l0_1 (rd t473 x51_2) t478 _ ?side1 ?side2 A57.out).mono ?_); (case side1 => repeat (first | exact (Kd.C_below HR0_1.out HB.out) | (with_reducible refine Kd.C_alloc ?_ _) | (with_reducible refine Kd.C_drewN ?_ _) | (with_reducible refine Kd.C_drew ?_))); (case side2 => exact HC0_1.out); rintro e w86 ⟨rfl, hb⟩; refine ⟨_, rfl, ?_⟩; have n0_ := Zab.mk (Kd.R_below (by (with_reducible repeat (first | apply Kd.R_alloc | apply Kd.R_drewN | apply Kd.R_drew)); exact HO_49.out) hb); have n1_ := Zab.mk (Kd.R_below (by (with_reducible repeat (first | apply Kd.R_alloc | apply Kd.R_drewN | apply Kd.R_drew)); exact HO_475000.out) hb); have n2_ := Zab.mk (Kd.R_below (by (with_reducible repeat (first | apply Kd.R_alloc | apply Kd.R_drewN | apply Kd.R_drew)); exact HO_475001.out) hb); have n3_ := Zab.mk (Zaq (g := gb457) (o := .cells #[.int .i64 a0_0, .slice A0_1 l0_1.length c0_1] 28 (0, 0)) (by (with_reducible repeat (first | refine Zag ?_ _ | refine Zah ?_ | refine Zaf ?_ _)); exact BK457.out) hb); have n4_ := Zab.mk (Zaq (g := gb458) (o := .cells #[.slice none 0 0, .slice none 0 0, .int .i64 0] 85 (0, 0)) (by (with_reducible repeat (first | refine Zag ?_ _ | refine Zah ?_ | refine Zaf ?_ _)); exact BK458.out) hb); have n5_ := Zab.mk (Zaq (g := gb474) (o := .cells #[u475000, u475001, .int .i64 x475002_2] 85 (0, 0)) (by (with_reducible repeat (first | refine Zag ?_ _ | refine Zah ?_ | refine Zaf ?_ _)); exact BK474.out) hb); have n6_ := Zab.mk (Zap (by repeat (first | (with_reducible first | exact HB.out | apply Zad | apply Zaa | apply Zac | refine Zae ?_ GE457.out | refine Zae ?_ GE458.out | refine Zae ?_ GE474.out) | exact HB.out)) hb); clear HO_49; clear HO_475000; clear HO_475001; clear BK457; clear BK458; clear BK474; clear HB; have HO_49 := n0_; have HO_475000 := n1_; have HO_475001 := n2_; have BK457 := n3_; have BK458 := n4_; have BK474 := n5_; have HB := n6_; clear n0_ n1_ n2_ n3_ n4_ n5_ n6_; (try clear hb); (try clear hb2); (try clear hk); (try clear hi); have hcz87_0 : w86.cell? ⟨gb457, 0, none⟩ = some (.int .i64 a0_0) := (Zaj BK457.out 0).trans rfl; have hcz87_1 : w86.cell? ⟨gb457, 1, none⟩ = some (.slice A0_1 l0_1.length c0_1) := (Zaj BK457.out 1).trans rfl; have hfz87_0 := Zak BK457.out 0; have hfz87_1 := Zak BK457.out 1) | ((with_reducible refine Zay (f := 109) rfl ?_); refine goesL_ (some 74) rfl rfl Try.func109 (by kernel_rfl) rfl #[.agg #[.int .i64 a0_0, .slice A0_1 l0_1.length c0_1], .int .i64 (rd t473 x51_2)] rfl (by (try simp only [List.map_toArray, List.map_cons, List.map_nil]); first | done | rfl | (simp only [List.length_drop, List.length_take]; rfl)) ?_; (with_reducible refine (Za3.calls a0_0 _ _ l0_1 (rd t473 x51_2) t482 _ ?side1 ?side2 A69.out).mono ?_); (case side1 => repeat (first | exact (Kd.C_below HR0_1.out HB.out) | (with_reducible refine Kd.C_alloc ?_ _) | (with_reducible refine Kd.C_drewN ?_ _) | (with_reducible refine Kd.C_drew ?_))); (case side2 => exact HC0_1.out); rintro e w88 ⟨rfl, hb⟩; refine ⟨_, rfl, ?_⟩; have n0_ := Zab.mk (Kd.R_below (by (with_reducible repeat (first | apply Kd.R_alloc | apply Kd.R_drewN | apply Kd.R_drew)); exact HO_49.out) hb); have n1_ := Zab.mk (Kd.R_below (by (with_reducible repeat (first | apply Kd.R_alloc | apply Kd.R_drewN | apply Kd.R_drew)); exact HO_475000.out) hb); have n2_ := Zab.mk (Kd.R_below (by (with_reducible repeat (first | apply Kd.R_alloc | apply Kd.R_drewN | apply Kd.R_drew)); exact HO_475001.out) hb); have n3_ := Zab.mk (Zaq (g := gb457) (o := .cells #[.int .i64 a0_0, .slice A0_1 l0_1.length c0_1] 28 (0, 0)) (by (with_reducible repeat (first | refine Zag ?_ _ | refine Zah ?_ | refine Zaf ?_ _)); exact BK457.out) hb); have n4_ := Zab.mk (Zaq (g := gb458) (o := .cells #[.slice none 0 0, .slice none 0 0, .int .i64 0] 85 (0, 0)) (by (with_reducible repeat (first | refine Zag ?_ _ | refine Zah ?_ | refine Zaf ?_ _)); exact BK458.out) hb); have n5_ := Zab.mk (Zaq (g := gb474) (o := .cells #[u475000, u475001, .int .i64 x475002_2] 85 (0, 0)) (by (with_reducible repeat (first | refine Zag ?_ _ | refine Zah ?_ | refine Zaf ?_ _)); exact BK474.out) hb); have n6_ := Zab.mk (Zap (by repeat (first | (with_reducible first | exact HB.out | apply Zad | apply Zaa | apply Zac | refine Zae ?_ GE457.out | refine Zae ?_ GE458.out | refine Zae ?_ GE474.out) | exact HB.out)) hb); clear HO_49; clear HO_475000; clear HO_475001; clear BK457; clear BK458; clear BK474; clear HB; have HO_49 := n0_; have HO_475000 := n1_; have HO_475001 := n2_; have BK457 := n3_; have BK458 := n4_; have BK474 := n5_; have HB := n6_; clear n0_ n1_ n2_ n3_ n4_ n5_ n6_; (try clear hb); (try clear hb2); (try clear hk); (try clear hi)))
                (try simp only [← hl49_2])
                go_roundg k2
                case measure => have := HK1.out; have := HK2.out; omega
                case rel => exact ⟨(wrap64 (x51_2 + 1)), (x475000_2), (x475001_2), (x475002_2), (u475000), (u475001), (by first | rfl | (simp; done) | (simp [*]; done) | (simp [IntWalk.i64_left, *]; done)), H', ⟨by have := HK1.out; have := HK2.out; omega⟩, ⟨by (try simp only [hl49_2]); (with_reducible repeat (first | apply Kd.R_alloc | apply Kd.R_drewN | apply Kd.R_drew)); exact HO_49.out⟩, ⟨by (try simp only [hl49_2]); (with_reducible repeat (first | apply Kd.R_alloc | apply Kd.R_drewN | apply Kd.R_drew)); exact HO_475000.out⟩, ⟨by (try simp only [hl49_2]); (with_reducible repeat (first | apply Kd.R_alloc | apply Kd.R_drewN | apply Kd.R_drew)); exact HO_475001.out⟩, ⟨by (try simp only [hl49_2]); (with_reducible repeat (first | refine Zag ?_ _ | refine Zah ?_ | refine Zaf ?_ _)); exact BK457.out⟩, ⟨by (try simp only [hl49_2]); (with_reducible repeat (first | refine Zag ?_ _ | refine Zah ?_ | refine Zaf ?_ _)); exact BK458.out⟩, ⟨by (try simp only [hl49_2]); (with_reducible repeat (first | refine Zag ?_ _ | refine Zah ?_ | refine Zaf ?_ _)); exact BK474.out⟩, ⟨by repeat (first | (with_reducible first | exact HB.out | apply Zad | apply Zaa | apply Zac | refine Zae ?_ GE457.out | refine Zae ?_ GE458.out | refine Zae ?_ GE474.out) | exact HB.out)⟩⟩
            ·rw [if_neg c56] at H
             exact absurd H (by simp)
           ·rw [if_neg c55] at H
            exact absurd H (by simp)
          ·rw [if_neg c54] at H
           have c54b0 : decide (x51_2 < (x7_1.length : Int)) = false := decide_eq_false c54
           have c54z0 := c54b0
           (try simp only [hl49_2] at c54z0)
           clear c54
           simp only [Option.some.injEq, Prod.mk.injEq] at H
           obtain ⟨rfl, rfl, rfl⟩ := H
           have hnb89 := NB474_457.out
           have hnc89 := NB457_474.out
           have hnb90 := NB474_458.out
           have hnc90 := NB458_474.out
           have hcz91_0 : wr.cell? ⟨gb474, 0, none⟩ = some (u475000) := (Zaj BK474.out 0).trans rfl
           have hcz91_1 : wr.cell? ⟨gb474, 1, none⟩ = some (u475001) := (Zaj BK474.out 1).trans rfl
           have hcz91_2 : wr.cell? ⟨gb474, 2, none⟩ = some (.int .i64 x475002_2) := (Zaj BK474.out 2).trans rfl
           have hfz91_0 := Zak BK474.out 0
           have hfz91_1 := Zak BK474.out 1
           have hfz91_2 := Zak BK474.out 2
           obtain ⟨Ao92, co92, eo92⟩ := Kd.R_slice HO_475000.out
           subst eo92
           have hnb93 := NB458_457.out
           have hnc93 := NB457_458.out
           have hcz94_0 : wr.cell? ⟨gb458, 0, none⟩ = some (.slice none 0 0) := (Zaj BK458.out 0).trans rfl
           have hcz94_1 : wr.cell? ⟨gb458, 1, none⟩ = some (.slice none 0 0) := (Zaj BK458.out 1).trans rfl
           have hcz94_2 : wr.cell? ⟨gb458, 2, none⟩ = some (.int .i64 0) := (Zaj BK458.out 2).trans rfl
           have hfz94_0 := Zak BK458.out 0
           have hfz94_1 := Zak BK458.out 1
           have hfz94_2 := Zak BK458.out 2
           obtain ⟨Ao95, co95, eo95⟩ := Kd.R_slice HO_475001.out
           subst eo95
           as_aux_lemma =>
            go_wp2
            refine bodyPost_ret (results_cell_row rfl _ _ gb458 85 #[.slice Ao92 x475000_2.length co92, .slice Ao95 x475001_2.length co95, .int .i64 x475002_2] (0, 0) _ rfl (by (with_reducible repeat (first | refine Zag ?_ _ | refine Zah ?_ | refine Zaf ?_ _)); refine blk_put (cs := #[.slice Ao92 x475000_2.length co92, .slice Ao95 x475001_2.length co95, .int .i64 0]) ?_ 2 _ rfl; (with_reducible repeat (first | refine Zag ?_ _ | refine Zah ?_ | refine Zaf ?_ _)); refine blk_put (cs := #[.slice Ao92 x475000_2.length co92, .slice none 0 0, .int .i64 0]) ?_ 1 _ rfl; (with_reducible repeat (first | refine Zag ?_ _ | refine Zah ?_ | refine Zaf ?_ _)); refine blk_put (cs := #[.slice none 0 0, .slice none 0 0, .int .i64 0]) ?_ 0 _ rfl; (with_reducible repeat (first | refine Zag ?_ _ | refine Zah ?_ | refine Zaf ?_ _)); exact BK458.out) Try.underlying85 rfl (by kernel_rfl)) rfl ?_
            exact ⟨_, _, by first | rfl | (simp [Zas, Zar] <;> rfl) | (simp only [← hji41]; first | rfl | (simp [Zas, Zar] <;> rfl)) | (simp [*, Zas, Zar] <;> rfl), by (with_reducible repeat (first | apply Kd.R_alloc | apply Kd.R_drewN | apply Kd.R_drew)); exact Kd.R_mono (Kd.R_far (p := ⟨gb458, 2, none⟩) (Kd.R_far (p := ⟨gb458, 1, none⟩) (Kd.R_far (p := ⟨gb458, 0, none⟩) (Kd.R_types HO_475000.out BK458.out (by decide)) (fun _ hk => hk.2) (.slice Ao92 x475000_2.length co92)) (fun _ hk => hk.2) (.slice Ao95 x475001_2.length co95)) (fun _ hk => hk.2) (.int .i64 x475002_2)) (fun _ hk => hk.1.2), by (with_reducible repeat (first | apply Kd.R_alloc | apply Kd.R_drewN | apply Kd.R_drew)); exact Kd.R_mono (Kd.R_far (p := ⟨gb458, 2, none⟩) (Kd.R_far (p := ⟨gb458, 1, none⟩) (Kd.R_far (p := ⟨gb458, 0, none⟩) (Kd.R_types HO_475001.out BK458.out (by decide)) (fun _ hk => hk.2) (.slice Ao92 x475000_2.length co92)) (fun _ hk => hk.2) (.slice Ao95 x475001_2.length co95)) (fun _ hk => hk.2) (.int .i64 x475002_2)) (fun _ hk => hk.1.2), by repeat (first | (with_reducible first | exact HB.out | apply Zad | apply Zaa | apply Zac | refine Zae ?_ GE457.out | refine Zae ?_ GE458.out | refine Zae ?_ GE474.out) | exact HB.out)⟩
       ·rw [if_neg c43] at H
        exact absurd H (by simp)
      ·rw [if_neg c42] at H
       exact absurd H (by simp)
def slices_Clone_int_int.f (l0 : List Int) : Option (List Int) := (some (([] : List Int) : List Int)).bind fun y486 => (if y486.length + l0.length < 17592186044416 then (some (y486 ++ l0)) else (none))
set_option maxHeartbeats 8000000 in
set_option maxRecDepth 100000 in
theorem slices_Clone_int_int.calls (A0 : Option Addr) (c0 : Nat) (l0 : List Int) (r : List Int) (w : World) (hr0 : Kd.C (Kd.int .i64) w A0 l0.length l0) (hc0 : l0.length ≤ c0) (h : slices_Clone_int_int.f l0 = some r) :
  Calls Try.prog 113 #[.slice A0 l0.length c0] w fun e w' => ∃ v0_ : Value, e = .returned (v0_) ∧ Kd.R (Kd.int .i64) 3 w' w.heap.size (fun _ => True) v0_ r ∧ Below w.heap.size w w' := by
 have q_ : ∀ (w : World) (a : Option Addr) (n c n' c' : Nat), (binOp .eql 83 (.slice a n c) (.slice none n' c')).run Try.prog w = .ok (.bool a.isNone) w := fun w a n c n' c' => Go.Lib.run_eql_slice_nil w _ _ a n c n' c' Try.underlying83
 rcases A0 with _ | ad0_
 ·have hz_ : l0.length = 0 := by
   rcases Nat.eq_zero_or_pos l0.length with e_ | e_
   ·exact e_
   ·obtain ⟨ad_, ea_, _⟩ := hr0.2.2 e_; cases ea_
  obtain rfl : l0 = [] := List.eq_nil_of_length_eq_zero hz_
  have HB := Zab.mk (Below.refl w.heap.size w)
  have hr_ : r = [] := by simp [slices_Clone_int_int.f] at h; first | exact h | exact h.symm
  subst hr_
  clear h hr0 hc0
  go_enter Try.func113, Try.ntmps113
  go_wp2
  go_ret
  exact ⟨_, by first | rfl | (simp [Zas, Zar] <;> rfl), by first | exact Kd.R_nil _ _ _ _ _ | exact Kd.N_nil _ _ _ _ _ | exact Kd.V_nil _ _ _ _ _ | exact Kd.Q_nil _ _ _ _ _ | exact Kd.S_nil _ _ _ _ _, by repeat (first | (with_reducible first | exact HB.out | apply Zad | apply Zaa | apply Zac) | exact HB.out)⟩
 have HR0 := Zab.mk hr0
 have HC0 := Zab.mk hc0
 clear hr0 hc0
 have HB := Zab.mk (Below.refl w.heap.size w)
 have H : ((some (([] : List Int) : List Int)).bind fun y486 => (if y486.length + l0.length < 17592186044416 then (some (y486 ++ l0)) else (none))) = some r := h
 clear h
 obtain ⟨y486, hy486⟩ : ∃ y_ : List Int, y_ = (([] : List Int)) := ⟨_, rfl⟩
 replace H : (if y486.length + l0.length < 17592186044416 then (some (y486 ++ l0)) else (none)) = some r := by first | (rw [hy486]; with_reducible exact H) | (have H2_ := (Option.bind_some _ _).symm.trans H; rw [hy486]; with_reducible exact H2_) | (have H2_ := (Option.bind_some _ _).symm.trans H; with_reducible exact H2_) | with_reducible exact H | (rw [hy486]; exact H) | exact H
 have Ny486 := Zab.mk hy486
 clear hy486
 by_cases c2 : y486.length + l0.length < 17592186044416
 ·rw [if_pos c2] at H
  have LMc2 := Zab.mk c2
  clear c2
  obtain ⟨y489, hy489⟩ : ∃ y_ : List Int, y_ = (y486 ++ l0) := ⟨_, rfl⟩
  replace H : (some y489) = some r := by first | (rw [hy489]; with_reducible exact H) | (have H2_ := (Option.bind_some _ _).symm.trans H; rw [hy489]; with_reducible exact H2_) | (have H2_ := (Option.bind_some _ _).symm.trans H; with_reducible exact H2_) | with_reducible exact H | (rw [hy489]; exact H) | exact H
  have Ny489 := Zab.mk hy489
  clear hy489
  obtain rfl := Option.some.inj H
  go_enter Try.func113, Try.ntmps113
  go_wp2_with (first | ((with_reducible refine gate_dst (N := 5) rfl ?_); refine Kd.R_lit (Kd.int .i64) _ 3 ?hg (N := 5) ?hd (xs := ([] : List Int)) (inner := []) (ok := fun _ => True) (okp := fun _ => True) ?hr ?hp (fun _ hk => hk) trivial (Below.refl _ _) (Nat.le_refl _) (by simp) ?_; (case hd => rfl); (case hg => rfl); (case hr => first | (go_simp; done) | (go_simp; rfl)); (case hp => exact (Reps.none _ _)); intro v487 w3 ho4 hb hg_ hnew_; clear hg_ hnew_; (first | rw [← Ny486.out] at ho4 | (simp only [Int.reduceToNat] at ho4; rw [← Ny486.out] at ho4)); have n0_ := Zab.mk (Kd.R_lower ho4 (Zan (by repeat (first | (with_reducible first | exact HB.out | apply Zad | apply Zaa | apply Zac) | exact HB.out)))); have n1_ := Zab.mk (Zap (by repeat (first | (with_reducible first | exact HB.out | apply Zad | apply Zaa | apply Zac) | exact HB.out)) hb); clear HB; have HO488 := n0_; have HB := n1_; clear n0_ n1_; clear hb ho4) | ((with_reducible refine gate_builtin (b := .append) (xs := #[.tmp 5, .tmp 6]) rfl ?_); at_builtin; refine Kd.R_append_rows (Kd.int .i64) (w0 := w) w.heap.size rfl (.tmp 5) (.tmp 6) 83 3 (.int .i64 0) 8 rfl Try.underlying83 info3 rfl (by decide) (by omega) v487 y486 l0 _ _ _ (fun _ => True) (fun _ => False) rfl rfl ?aO ?aR (fun _ _ h => h) (fun _ h => h.elim) ?aF ?aB ?aS ?aL ?_; (case aR => repeat (first | exact (Kd.C_below HR0.out HB.out) | (with_reducible refine Kd.C_alloc ?_ _) | (with_reducible refine Kd.C_drewN ?_ _) | (with_reducible refine Kd.C_drew ?_))); (case aB => exact (by repeat (first | (with_reducible first | exact HB.out | apply Zad | apply Zaa | apply Zac) | exact HB.out))); (case aF => exact (fun _ _ => trivial)); (case aO => exact (by (with_reducible repeat (first | apply Kd.R_alloc | apply Kd.R_drewN | apply Kd.R_drew)); exact HO488.out)); (case aS => exact (Zan (by repeat (first | (with_reducible first | exact HB.out | apply Zad | apply Zaa | apply Zac) | exact HB.out)))); (case aL => have := LMc2.out; omega); intro v490 w5 ho hb hg hat; rw [← Ny489.out] at ho; have n0_ := Zab.mk (hb); have n1_ := Zab.mk (ho); clear HB; clear HO488; have HB := n0_; have HO491 := n1_; clear n0_ n1_; clear ho hb hg hat))
  go_ret
  exact ⟨_, by first | rfl | (simp [Zas, Zar] <;> rfl) | (simp [*, Zas, Zar] <;> rfl), by (with_reducible repeat (first | apply Kd.R_alloc | apply Kd.R_drewN | apply Kd.R_drew)); exact HO491.out, by repeat (first | (with_reducible first | exact HB.out | apply Zad | apply Zaa | apply Zac) | exact HB.out)⟩
 ·rw [if_neg c2] at H
  exact absurd H (by simp)
end Go.Proofs.Ytgmmfdilfpkbmaa.P
