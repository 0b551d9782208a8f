import Derived.Test.YtgmmfdilfpkbmaaXP0FnExactCountBest
import Derived.Test.YtgmmfdilfpkbmaaXP1FnExactCountBest
import Derived.Test.YtgmmfdilfpkbmaaXP2FnExactCountBest
import Derived.Test.YtgmmfdilfpkbmaaXP25FnExactCountBest
import Derived.Test.YtgmmfdilfpkbmaaXP28FnExactCountBest
namespace Go.Proofs.Ytgmmfdilfpkbmaa.P
open Go.RowKit Go.Proofs.YtgmmfdilfpkbmaaW.PrintWords Go.Proofs.YtgmmfdilfpkbmaaW.PrintLast Go.Proofs.YtgmmfdilfpkbmaaW.PrintMore
attribute [local go_sem] max2_int min2_int max_two min_two max_three min_three max_four min_four
set_option linter.unusedVariables false
set_option linter.unusedSimpArgs false
def laws_FnExactCountBest.j0 : Nat → Bool → Int → List Int → Int → List Int → Option (Bool)
 | 0, _, _, _, _, _ => none
 | k + 1, x42, x861000, x861001, x873000, x873001 => if x42 = true then (some false) else ((laws_toValues.f k x861000 x861001).bind fun bt875 => ((laws_eqValues.f k x873000 x873001 bt875.1 bt875.2).bind fun t879 => (if t879 = true then (some true) else (some false))))
def laws_FnExactCountBest.f (k : Nat) (a0_0 : Int) (l0_1 : List Int) (a1 : Int) (a2 : Int) : Option (Bool) := (laws_szValues.f a0_0 l0_1 1048576).bind fun t861 => (if t861 < 0 then (some true) else ((laws_toValues.f k a0_0 l0_1).bind fun bt862 => ((Za2.f k bt862.1 bt862.2 a1 a2).bind fun bt866 => ((laws_toValues.f k a0_0 l0_1).bind fun bt868 => ((Za4.f k bt868.1 bt868.2 a1 a2).bind fun bt873 => (if bt873.1 = bt866.1 then (laws_FnExactCountBest.j0 k (bt873.2 != bt866.2) a0_0 l0_1 bt868.1 bt868.2) else (laws_FnExactCountBest.j0 k true a0_0 l0_1 bt868.1 bt868.2)))))))
set_option maxHeartbeats 8000000 in
set_option maxRecDepth 100000 in
theorem laws_FnExactCountBest.calls (k : Nat) (a0_0 : Int) (A0_1 : Option Addr) (c0_1 : Nat) (l0_1 : List Int) (a1 : Int) (a2 : Int) (r : Bool) (w : World) (hr0_1 : Kd.C (Kd.int .i64) w A0_1 l0_1.length l0_1) (hc0_1 : l0_1.length ≤ c0_1) (h : laws_FnExactCountBest.f k a0_0 l0_1 a1 a2 = some r) :
  Calls Try.prog 9 #[.agg #[.int .i64 a0_0, .slice A0_1 l0_1.length c0_1], .int .i64 a1, .int .i64 a2] w fun e w' => e = .returned (.bool r) ∧ Below w.heap.size w w' := by
 have hu24 := Try.underlying24
 have hu28 := Try.underlying28
 have HR0_1 := Zac.mk hr0_1
 have HC0_1 := Zac.mk hc0_1
 clear hr0_1 hc0_1
 have HB := Zac.mk (Below.refl w.heap.size w)
 have H : ((laws_szValues.f a0_0 l0_1 1048576).bind fun t861 => (if t861 < 0 then (some true) else ((laws_toValues.f k a0_0 l0_1).bind fun bt862 => ((Za2.f k bt862.1 bt862.2 a1 a2).bind fun bt866 => ((laws_toValues.f k a0_0 l0_1).bind fun bt868 => ((Za4.f k bt868.1 bt868.2 a1 a2).bind fun bt873 => (if bt873.1 = bt866.1 then (laws_FnExactCountBest.j0 k (bt873.2 != bt866.2) a0_0 l0_1 bt868.1 bt868.2) else (laws_FnExactCountBest.j0 k true a0_0 l0_1 bt868.1 bt868.2)))))))) = some r := h
 clear h
 replace H := Option.bind_eq_some_iff.mp H
 obtain ⟨t861, A40, H⟩ := H
 replace H : (if t861 < 0 then (some true) else ((laws_toValues.f k a0_0 l0_1).bind fun bt862 => ((Za2.f k bt862.1 bt862.2 a1 a2).bind fun bt866 => ((laws_toValues.f k a0_0 l0_1).bind fun bt868 => ((Za4.f k bt868.1 bt868.2 a1 a2).bind fun bt873 => (if bt873.1 = bt866.1 then (laws_FnExactCountBest.j0 k (bt873.2 != bt866.2) a0_0 l0_1 bt868.1 bt868.2) else (laws_FnExactCountBest.j0 k true a0_0 l0_1 bt868.1 bt868.2))))))) = some r := H
 have A4 := Zac.mk A40
 clear A40
 by_cases c5 : t861 < 0
 ·rw [if_pos c5] at H
  have c5b0 : decide (t861 < 0) = true := decide_eq_true c5
  clear c5
  obtain rfl := Option.some.inj H
  go_enter Try.func9, Try.ntmps9
  go_wp2_with (first | ((with_reducible refine gate_dst (N := 3) rfl ?_); refine box_event ?hg (N := 3) ?hd (cs := #[.int .i64 a0_0, .slice A0_1 l0_1.length c0_1]) (t := 24) ?hr ?_; (case hd => rfl); (case hg => rfl); (case hr => first | (go_simp; done) | (go_simp; rfl)); intro gb860 hg w6 hbox hb; have n0_ := Zac.mk (Zaq (by repeat (first | (with_reducible first | exact HB.out | apply Zae | apply Zab | apply Zad) | exact HB.out)) hb); have n1_ := Zac.mk (hbox); have n2_ := Zac.mk ((by rw [hg]; exact (Zap (by repeat (first | (with_reducible first | exact HB.out | apply Zae | apply Zab | apply Zad) | exact HB.out))) : w.heap.size ≤ gb860)); have n3_ := Zac.mk ((by rw [hg]; exact (Zap (by repeat (first | (with_reducible first | exact HB.out | apply Zae | apply Zab | apply Zad) | exact HB.out))) : w.heap.size ≤ gb860)); clear HB; have HB := n0_; have BK860 := n1_; have GW860 := n2_; have GE860 := n3_; clear n0_ n1_ n2_ n3_; clear hb hbox hg; have hcz7_0 : w6.cell? ⟨gb860, 0, none⟩ = some (.int .i64 a0_0) := (Zak BK860.out 0).trans rfl; have hcz7_1 : w6.cell? ⟨gb860, 1, none⟩ = some (.slice A0_1 l0_1.length c0_1) := (Zak BK860.out 1).trans rfl; have hfz7_0 := Zao BK860.out 0; have hfz7_1 := Zao BK860.out 1) | ((with_reducible refine Zaz (f := 11) rfl ?_); refine goesL_ (some 15) rfl rfl Try.func11 (by kernel_rfl) rfl #[.agg #[.int .i64 a0_0, .slice A0_1 l0_1.length c0_1], .int .i64 1048576] rfl (by (try simp only [List.map_toArray, List.map_cons, List.map_nil]); first | done | rfl | (simp only [List.length_drop, List.length_take]; rfl)) ?_; (with_reducible refine (laws_szValues.calls a0_0 _ _ l0_1 1048576 t861 _ ?side1 ?side2 A4.out).mono ?_); (case side1 => repeat (first | exact (Kd.C_below HR0_1.out HB.out) | (with_reducible refine Kd.C_alloc ?_ _) | (with_reducible refine Kd.C_drewN ?_ _) | (with_reducible refine Kd.C_drew ?_))); (case side2 => exact HC0_1.out); rintro e w8 ⟨rfl, hb⟩; refine ⟨_, rfl, ?_⟩; have n0_ := Zac.mk (Zar (g := gb860) (o := .cells #[.int .i64 a0_0, .slice A0_1 l0_1.length c0_1] 24 (0, 0)) (by (with_reducible repeat (first | refine Zag ?_ _ | refine Zai ?_ | refine Zah ?_ _)); exact BK860.out) hb); have n1_ := Zac.mk (Zaq (by repeat (first | (with_reducible first | exact HB.out | apply Zae | apply Zab | apply Zad | refine Zaf ?_ GE860.out) | exact HB.out)) hb); clear BK860; clear HB; have BK860 := n0_; have HB := n1_; clear n0_ n1_; (try clear hb); (try clear hb2); (try clear hk); (try clear hi)))
  go_ret
  exact ⟨by first | rfl | (simp [Zas, Zat] <;> rfl) | (simp [*, Zas, Zat] <;> rfl), by repeat (first | (with_reducible first | exact HB.out | apply Zae | apply Zab | apply Zad | refine Zaf ?_ GE860.out) | exact HB.out)⟩
 ·rw [if_neg c5] at H
  have c5b0 : decide (t861 < 0) = false := decide_eq_false c5
  clear c5
  replace H := Option.bind_eq_some_iff.mp H
  obtain ⟨⟨t862, t863⟩, A90, H⟩ := H
  replace H : ((Za2.f k t862 t863 a1 a2).bind fun bt866 => ((laws_toValues.f k a0_0 l0_1).bind fun bt868 => ((Za4.f k bt868.1 bt868.2 a1 a2).bind fun bt873 => (if bt873.1 = bt866.1 then (laws_FnExactCountBest.j0 k (bt873.2 != bt866.2) a0_0 l0_1 bt868.1 bt868.2) else (laws_FnExactCountBest.j0 k true a0_0 l0_1 bt868.1 bt868.2))))) = some r := H
  have A9 := Zac.mk A90
  clear A90
  replace H := Option.bind_eq_some_iff.mp H
  obtain ⟨⟨t866, t867⟩, A100, H⟩ := H
  replace H : ((laws_toValues.f k a0_0 l0_1).bind fun bt868 => ((Za4.f k bt868.1 bt868.2 a1 a2).bind fun bt873 => (if bt873.1 = t866 then (laws_FnExactCountBest.j0 k (bt873.2 != t867) a0_0 l0_1 bt868.1 bt868.2) else (laws_FnExactCountBest.j0 k true a0_0 l0_1 bt868.1 bt868.2)))) = some r := H
  have A10 := Zac.mk A100
  clear A100
  replace H := Option.bind_eq_some_iff.mp H
  obtain ⟨⟨t868, t869⟩, A110, H⟩ := H
  replace H : ((Za4.f k t868 t869 a1 a2).bind fun bt873 => (if bt873.1 = t866 then (laws_FnExactCountBest.j0 k (bt873.2 != t867) a0_0 l0_1 t868 t869) else (laws_FnExactCountBest.j0 k true a0_0 l0_1 t868 t869))) = some r := H
  have A11 := Zac.mk A110
  clear A110
  replace H := Option.bind_eq_some_iff.mp H
  obtain ⟨⟨t873, t874⟩, A120, H⟩ := H
  replace H : (if t873 = t866 then (laws_FnExactCountBest.j0 k (t874 != t867) a0_0 l0_1 t868 t869) else (laws_FnExactCountBest.j0 k true a0_0 l0_1 t868 t869)) = some r := H
  have A12 := Zac.mk A120
  clear A120
  have HC13 := Zac.mk H
  clear H
  go_enter Try.func9, Try.ntmps9
  go_upto_region 8 with (first | ((with_reducible refine gate_dst (N := 3) rfl ?_); refine box_event ?hg (N := 3) ?hd (cs := #[.int .i64 a0_0, .slice A0_1 l0_1.length c0_1]) (t := 24) ?hr ?_; (case hd => rfl); (case hg => rfl); (case hr => first | (go_simp; done) | (go_simp; rfl)); intro gb860 hg w14 hbox hb; have n0_ := Zac.mk (Zaq (by repeat (first | (with_reducible first | exact HB.out | apply Zae | apply Zab | apply Zad) | exact HB.out)) hb); have n1_ := Zac.mk (hbox); have n2_ := Zac.mk ((by rw [hg]; exact (Zap (by repeat (first | (with_reducible first | exact HB.out | apply Zae | apply Zab | apply Zad) | exact HB.out))) : w.heap.size ≤ gb860)); have n3_ := Zac.mk ((by rw [hg]; exact (Zap (by repeat (first | (with_reducible first | exact HB.out | apply Zae | apply Zab | apply Zad) | exact HB.out))) : w.heap.size ≤ gb860)); clear HB; have HB := n0_; have BK860 := n1_; have GW860 := n2_; have GE860 := n3_; clear n0_ n1_ n2_ n3_; clear hb hbox hg; have hcz15_0 : w14.cell? ⟨gb860, 0, none⟩ = some (.int .i64 a0_0) := (Zak BK860.out 0).trans rfl; have hcz15_1 : w14.cell? ⟨gb860, 1, none⟩ = some (.slice A0_1 l0_1.length c0_1) := (Zak BK860.out 1).trans rfl; have hfz15_0 := Zao BK860.out 0; have hfz15_1 := Zao BK860.out 1) | ((with_reducible refine Zaz (f := 11) rfl ?_); refine goesL_ (some 15) rfl rfl Try.func11 (by kernel_rfl) rfl #[.agg #[.int .i64 a0_0, .slice A0_1 l0_1.length c0_1], .int .i64 1048576] rfl (by (try simp only [List.map_toArray, List.map_cons, List.map_nil]); first | done | rfl | (simp only [List.length_drop, List.length_take]; rfl)) ?_; (with_reducible refine (laws_szValues.calls a0_0 _ _ l0_1 1048576 t861 _ ?side1 ?side2 A4.out).mono ?_); (case side1 => repeat (first | exact (Kd.C_below HR0_1.out HB.out) | (with_reducible refine Kd.C_alloc ?_ _) | (with_reducible refine Kd.C_drewN ?_ _) | (with_reducible refine Kd.C_drew ?_))); (case side2 => exact HC0_1.out); rintro e w16 ⟨rfl, hb⟩; refine ⟨_, rfl, ?_⟩; have n0_ := Zac.mk (Zar (g := gb860) (o := .cells #[.int .i64 a0_0, .slice A0_1 l0_1.length c0_1] 24 (0, 0)) (by (with_reducible repeat (first | refine Zag ?_ _ | refine Zai ?_ | refine Zah ?_ _)); exact BK860.out) hb); have n1_ := Zac.mk (Zaq (by repeat (first | (with_reducible first | exact HB.out | apply Zae | apply Zab | apply Zad | refine Zaf ?_ GE860.out) | exact HB.out)) hb); clear BK860; clear HB; have BK860 := n0_; have HB := n1_; clear n0_ n1_; (try clear hb); (try clear hb2); (try clear hk); (try clear hi); have hcz17_0 : w16.cell? ⟨gb860, 0, none⟩ = some (.int .i64 a0_0) := (Zak BK860.out 0).trans rfl; have hcz17_1 : w16.cell? ⟨gb860, 1, none⟩ = some (.slice A0_1 l0_1.length c0_1) := (Zak BK860.out 1).trans rfl; have hfz17_0 := Zao BK860.out 0; have hfz17_1 := Zao BK860.out 1) | ((with_reducible refine Zaz (f := 13) rfl ?_); refine goesL_ (some 20) rfl rfl Try.func13 (by kernel_rfl) rfl #[.agg #[.int .i64 a0_0, .slice A0_1 l0_1.length c0_1]] rfl (by (try simp only [List.map_toArray, List.map_cons, List.map_nil]); first | done | rfl | (simp only [List.length_drop, List.length_take]; rfl)) ?_; (with_reducible refine (laws_toValues.calls k a0_0 _ _ l0_1 t862 t863 _ ?side1 ?side2 A9.out).mono ?_); (case side1 => repeat (first | exact (Kd.C_below HR0_1.out HB.out) | (with_reducible refine Kd.C_alloc ?_ _) | (with_reducible refine Kd.C_drewN ?_ _) | (with_reducible refine Kd.C_drew ?_))); (case side2 => exact HC0_1.out); rintro e w18 ⟨v864, rfl, ho0, hb⟩; refine ⟨_, rfl, ?_⟩; have n0_ := Zac.mk (Kd.R_lower ho0 (Zap (by repeat (first | (with_reducible first | exact HB.out | apply Zae | apply Zab | apply Zad | refine Zaf ?_ GE860.out) | exact HB.out)))); have n1_ := Zac.mk (Zar (g := gb860) (o := .cells #[.int .i64 a0_0, .slice A0_1 l0_1.length c0_1] 24 (0, 0)) (by (with_reducible repeat (first | refine Zag ?_ _ | refine Zai ?_ | refine Zah ?_ _)); exact BK860.out) hb); have n2_ := Zac.mk (Zaq (by repeat (first | (with_reducible first | exact HB.out | apply Zae | apply Zab | apply Zad | refine Zaf ?_ GE860.out) | exact HB.out)) hb); clear BK860; clear HB; have HO865 := n0_; have BK860 := n1_; have HB := n2_; clear n0_ n1_ n2_; (try clear hb); (try clear hb2); (try clear hk); (try clear hi); (try clear ho0); obtain ⟨Ao19, co19, eo19⟩ := Kd.R_slice HO865.out; subst eo19) | ((with_reducible refine Zaz (f := 49) rfl ?_); refine goesL_ (some 23) rfl rfl Try.func49 (by kernel_rfl) rfl #[.agg #[.int .i64 t862, .slice Ao19 t863.length co19], .int .i64 a1, .int .i64 a2] rfl (by (try simp only [List.map_toArray, List.map_cons, List.map_nil]); first | done | rfl | (simp only [List.length_drop, List.length_take]; rfl)) ?_; (with_reducible refine (Za2.calls k t862 _ _ t863 a1 a2 t866 t867 _ ?side1 ?side2 A10.out).mono ?_); (case side1 => repeat (first | exact (Kd.R_reads' HO865.out).2.2 | (with_reducible refine Kd.C_alloc ?_ _) | (with_reducible refine Kd.C_drewN ?_ _) | (with_reducible refine Kd.C_drew ?_))); (case side2 => exact (Kd.R_reads' HO865.out).2.1); rintro e w20 ⟨rfl, hb⟩; refine ⟨_, rfl, ?_⟩; have n0_ := Zac.mk (Kd.R_below (by (with_reducible repeat (first | apply Kd.R_alloc | apply Kd.R_drewN | apply Kd.R_drew)); exact HO865.out) hb); have n1_ := Zac.mk (Zar (g := gb860) (o := .cells #[.int .i64 a0_0, .slice A0_1 l0_1.length c0_1] 24 (0, 0)) (by (with_reducible repeat (first | refine Zag ?_ _ | refine Zai ?_ | refine Zah ?_ _)); exact BK860.out) hb); have n2_ := Zac.mk (Zaq (by repeat (first | (with_reducible first | exact HB.out | apply Zae | apply Zab | apply Zad | refine Zaf ?_ GE860.out) | exact HB.out)) hb); clear HO865; clear BK860; clear HB; have HO865 := n0_; have BK860 := n1_; have HB := n2_; clear n0_ n1_ n2_; (try clear hb); (try clear hb2); (try clear hk); (try clear hi); have hcz21_0 : w20.cell? ⟨gb860, 0, none⟩ = some (.int .i64 a0_0) := (Zak BK860.out 0).trans rfl; have hcz21_1 : w20.cell? ⟨gb860, 1, none⟩ = some (.slice A0_1 l0_1.length c0_1) := (Zak BK860.out 1).trans rfl; have hfz21_0 := Zao BK860.out 0; have hfz21_1 := Zao BK860.out 1) | ((with_reducible refine Zaz (f := 13) rfl ?_); refine goesL_ (some 27) rfl rfl Try.func13 (by kernel_rfl) rfl #[.agg #[.int .i64 a0_0, .slice A0_1 l0_1.length c0_1]] rfl (by (try simp only [List.map_toArray, List.map_cons, List.map_nil]); first | done | rfl | (simp only [List.length_drop, List.length_take]; rfl)) ?_; (with_reducible refine (laws_toValues.calls k a0_0 _ _ l0_1 t868 t869 _ ?side1 ?side2 A11.out).mono ?_); (case side1 => repeat (first | exact (Kd.C_below HR0_1.out HB.out) | (with_reducible refine Kd.C_alloc ?_ _) | (with_reducible refine Kd.C_drewN ?_ _) | (with_reducible refine Kd.C_drew ?_))); (case side2 => exact HC0_1.out); rintro e w22 ⟨v870, rfl, ho0, hb⟩; refine ⟨_, rfl, ?_⟩; have n0_ := Zac.mk (Kd.R_elder' (by (with_reducible repeat (first | apply Kd.R_alloc | apply Kd.R_drewN | apply Kd.R_drew)); exact HO865.out) (Kd.R_base ho0) hb); have n1_ := Zac.mk (Kd.R_lower (Kd.R_new' ho0 (Kd.R_lt (by (with_reducible repeat (first | apply Kd.R_alloc | apply Kd.R_drewN | apply Kd.R_drew)); exact HO865.out))) (Zap (by repeat (first | (with_reducible first | exact HB.out | apply Zae | apply Zab | apply Zad | refine Zaf ?_ GE860.out) | exact HB.out)))); have n2_ := Zac.mk (Zar (g := gb860) (o := .cells #[.int .i64 a0_0, .slice A0_1 l0_1.length c0_1] 24 (0, 0)) (by (with_reducible repeat (first | refine Zag ?_ _ | refine Zai ?_ | refine Zah ?_ _)); exact BK860.out) hb); have n3_ := Zac.mk (Zaq (by repeat (first | (with_reducible first | exact HB.out | apply Zae | apply Zab | apply Zad | refine Zaf ?_ GE860.out) | exact HB.out)) hb); clear HO865; clear BK860; clear HB; have HO865 := n0_; have HO871 := n1_; have BK860 := n2_; have HB := n3_; clear n0_ n1_ n2_ n3_; (try clear hb); (try clear hb2); (try clear hk); (try clear hi); (try clear ho0)) | ((with_reducible refine gate_dst (N := 10) rfl ?_); refine box_event ?hg (N := 10) ?hd (cs := #[.int .i64 0, .slice none 0 0]) (t := 28) ?hr ?_; (case hd => rfl); (case hg => rfl); (case hr => first | (go_simp; done) | (go_simp; rfl)); intro gb872 hg w23 hbox hb; have n0_ := Zac.mk (Kd.R_below (by (with_reducible repeat (first | apply Kd.R_alloc | apply Kd.R_drewN | apply Kd.R_drew)); exact HO865.out) hb); have n1_ := Zac.mk (Kd.R_below (by (with_reducible repeat (first | apply Kd.R_alloc | apply Kd.R_drewN | apply Kd.R_drew)); exact HO871.out) hb); have n2_ := Zac.mk (Zar (g := gb860) (o := .cells #[.int .i64 a0_0, .slice A0_1 l0_1.length c0_1] 24 (0, 0)) (by (with_reducible repeat (first | refine Zag ?_ _ | refine Zai ?_ | refine Zah ?_ _)); exact BK860.out) hb); have n3_ := Zac.mk (Zaq (by repeat (first | (with_reducible first | exact HB.out | apply Zae | apply Zab | apply Zad | refine Zaf ?_ GE860.out) | exact HB.out)) hb); have n4_ := Zac.mk (hbox); have n5_ := Zac.mk ((by rw [hg]; exact (Zap (by repeat (first | (with_reducible first | exact HB.out | apply Zae | apply Zab | apply Zad | refine Zaf ?_ GE860.out) | exact HB.out))) : w.heap.size ≤ gb872)); have n6_ := Zac.mk ((by rw [hg]; exact (Zap (by repeat (first | (with_reducible first | exact HB.out | apply Zae | apply Zab | apply Zad | refine Zaf ?_ GE860.out) | exact HB.out))) : w.heap.size ≤ gb872)); have n7_ := Zac.mk ((by rw [hg]; exact Nat.ne_of_lt (blk_lt (g := gb860) (o := .cells #[.int .i64 a0_0, .slice A0_1 l0_1.length c0_1] 24 (0, 0)) (by (with_reducible repeat (first | refine Zag ?_ _ | refine Zai ?_ | refine Zah ?_ _)); exact BK860.out)) : gb860 ≠ gb872)); have n8_ := Zac.mk ((by rw [hg]; exact Nat.ne_of_gt (blk_lt (g := gb860) (o := .cells #[.int .i64 a0_0, .slice A0_1 l0_1.length c0_1] 24 (0, 0)) (by (with_reducible repeat (first | refine Zag ?_ _ | refine Zai ?_ | refine Zah ?_ _)); exact BK860.out)) : gb872 ≠ gb860)); clear HO865; clear HO871; clear BK860; clear HB; have HO865 := n0_; have HO871 := n1_; have BK860 := n2_; have HB := n3_; have BK872 := n4_; have GW872 := n5_; have GE872 := n6_; have NB860_872 := n7_; have NB872_860 := n8_; clear n0_ n1_ n2_ n3_ n4_ n5_ n6_ n7_ n8_; clear hb hbox hg; have hnb24 := NB872_860.out; have hnc24 := NB860_872.out; have hcz25_0 : w23.cell? ⟨gb872, 0, none⟩ = some (.int .i64 0) := (Zak BK872.out 0).trans rfl; have hcz25_1 : w23.cell? ⟨gb872, 1, none⟩ = some (.slice none 0 0) := (Zak BK872.out 1).trans rfl; have hfz25_0 := Zao BK872.out 0; have hfz25_1 := Zao BK872.out 1; obtain ⟨Ao26, co26, eo26⟩ := Kd.R_slice HO871.out; subst eo26) | ((with_reducible refine Zaz (f := 46) rfl ?_); refine goesL_ (some 32) rfl rfl Try.func46 (by kernel_rfl) rfl #[.agg #[.int .i64 t868, .slice Ao26 t869.length co26], .int .i64 a1, .int .i64 a2] rfl (by (try simp only [List.map_toArray, List.map_cons, List.map_nil]); first | done | rfl | (simp only [List.length_drop, List.length_take]; rfl)) ?_; (with_reducible refine (Za4.calls k t868 _ _ t869 a1 a2 t873 t874 _ ?side1 ?side2 A12.out).mono ?_); (case side1 => refine (Kd.R_reads' (e := 2) (base := w.heap.size) (ok := fun k_ => (True ∧ some k_ ≠ (.slice Ao19 t863.length co19 : Value).ownBlock)) (n := t869.length) (c := co26) ?_).2.2; exact (by (with_reducible repeat (first | apply Kd.R_alloc | apply Kd.R_drewN | apply Kd.R_drew)); exact (Kd.R_mono (Kd.R_far (p := ⟨gb872, 1, none⟩) (Kd.R_far (p := ⟨gb872, 0, none⟩) (Kd.R_types HO871.out BK872.out (by decide)) (fun _ hk => hk.2) (.int .i64 t868)) (fun _ hk => hk.2) (.slice Ao26 t869.length co26)) (fun _ h_ => h_.1)))); (case side2 => exact (Kd.R_reads' HO871.out).2.1); rintro e w27 ⟨rfl, hb⟩; refine ⟨_, rfl, ?_⟩; have n0_ := Zac.mk (Kd.R_below (by (with_reducible repeat (first | apply Kd.R_alloc | apply Kd.R_drewN | apply Kd.R_drew)); exact (Kd.R_mono (Kd.R_far (p := ⟨gb872, 1, none⟩) (Kd.R_far (p := ⟨gb872, 0, none⟩) (Kd.R_types HO865.out BK872.out (by decide)) (fun _ hk => hk.2) (.int .i64 t868)) (fun _ hk => hk.2) (.slice Ao26 t869.length co26)) (fun _ h_ => h_.1))) hb); have n1_ := Zac.mk (Kd.R_below (by (with_reducible repeat (first | apply Kd.R_alloc | apply Kd.R_drewN | apply Kd.R_drew)); exact (Kd.R_mono (Kd.R_far (p := ⟨gb872, 1, none⟩) (Kd.R_far (p := ⟨gb872, 0, none⟩) (Kd.R_types HO871.out BK872.out (by decide)) (fun _ hk => hk.2) (.int .i64 t868)) (fun _ hk => hk.2) (.slice Ao26 t869.length co26)) (fun _ h_ => h_.1))) hb); have n2_ := Zac.mk (Zar (g := gb860) (o := .cells #[.int .i64 a0_0, .slice A0_1 l0_1.length c0_1] 24 (0, 0)) (by (with_reducible repeat (first | refine Zag ?_ _ | refine Zai ?_ | refine Zah ?_ _)); refine blk_far ?_ NB860_872.out _; (with_reducible repeat (first | refine Zag ?_ _ | refine Zai ?_ | refine Zah ?_ _)); refine blk_far ?_ NB860_872.out _; (with_reducible repeat (first | refine Zag ?_ _ | refine Zai ?_ | refine Zah ?_ _)); exact BK860.out) hb); have n3_ := Zac.mk (Zar (g := gb872) (o := .cells #[.int .i64 t868, .slice Ao26 t869.length co26] 28 (0, 0)) (by (with_reducible repeat (first | refine Zag ?_ _ | refine Zai ?_ | refine Zah ?_ _)); refine blk_put (cs := #[.int .i64 t868, .slice none 0 0]) ?_ 1 _ rfl; (with_reducible repeat (first | refine Zag ?_ _ | refine Zai ?_ | refine Zah ?_ _)); refine blk_put (cs := #[.int .i64 0, .slice none 0 0]) ?_ 0 _ rfl; (with_reducible repeat (first | refine Zag ?_ _ | refine Zai ?_ | refine Zah ?_ _)); exact BK872.out) hb); have n4_ := Zac.mk (Zaq (by repeat (first | (with_reducible first | exact HB.out | apply Zae | apply Zab | apply Zad | refine Zaf ?_ GE860.out | refine Zaf ?_ GE872.out) | exact HB.out)) hb); clear HO865; clear HO871; clear BK860; clear BK872; clear HB; have HO865 := n0_; have HO871 := n1_; have BK860 := n2_; have BK872 := n3_; have HB := n4_; clear n0_ n1_ n2_ n3_ n4_; (try clear hb); (try clear hb2); (try clear hk); (try clear hi)))
  (try simp only [Act.put, List.setIfInBounds_toArray, List.set_cons_zero, List.set_cons_succ])
  go_cut [42] (fun v42 wc => ∃ (kq : Nat) (x42_12 : Bool), v42 = .bool x42_12 ∧ Zac (laws_FnExactCountBest.j0 kq x42_12 a0_0 l0_1 t868 t869 = some r) ∧ Zac (kq ≤ k) ∧ Zac (Kd.R (Kd.int .i64) 2 wc w.heap.size (fun _ => True) (.slice Ao26 t869.length co26) t869) ∧ Zac (wc.heap[gb860]? = some (.cells #[.int .i64 a0_0, (.slice A0_1 l0_1.length c0_1)] 24 (0, 0))) ∧ Zac (wc.heap[gb872]? = some (.cells #[.int .i64 t868, (.slice Ao26 t869.length co26)] 28 (0, 0))) ∧ Zac (Below w.heap.size w wc))
  case first =>
   have H := HC13.out
   clear HC13
   by_cases c28 : t873 = t866
   ·rw [if_pos c28] at H
    have c28b0 : (t873 == t866) = true := beq_iff_eq.mpr c28
    have c28b1 : (t873 != t866) = false := bne_eq_false_iff_eq.mpr c28
    clear c28
    (first | rw [c28b0] | (simp only [i64_w, i32_w]; rw [c28b0]) | skip)
    have H' := Zac.mk H
    clear H
    go_wp2
    go_meet
    case rel => exact ⟨_, ((t874 != t867)), (by first | rfl | (simp; done) | (simp [*]; done) | (simp [IntWalk.i64_left, *]; done)), H', ⟨by first | omega | exact Nat.le_refl _⟩, ⟨by (with_reducible repeat (first | apply Kd.R_alloc | apply Kd.R_drewN | apply Kd.R_drew)); exact Kd.R_mono HO871.out (fun _ hk => trivial)⟩, ⟨by (with_reducible repeat (first | refine Zag ?_ _ | refine Zai ?_ | refine Zah ?_ _)); exact BK860.out⟩, ⟨by (with_reducible repeat (first | refine Zag ?_ _ | refine Zai ?_ | refine Zah ?_ _)); exact BK872.out⟩, ⟨by repeat (first | (with_reducible first | exact HB.out | apply Zae | apply Zab | apply Zad | refine Zaf ?_ GE860.out | refine Zaf ?_ GE872.out) | exact HB.out)⟩⟩
   ·rw [if_neg c28] at H
    have c28b0 : (t873 == t866) = false := beq_eq_false_iff_ne.mpr c28
    have c28b1 : (t873 != t866) = true := bne_iff_ne.mpr c28
    (first | rw [c28b0] | (simp only [i64_w, i32_w]; rw [c28b0]) | skip)
    have H' := Zac.mk H
    clear H
    go_wp2
    go_meet
    case rel => exact ⟨_, (true), (by first | rfl | (simp; done) | (simp [*]; done) | (simp [IntWalk.i64_left, *]; done)), H', ⟨by first | omega | exact Nat.le_refl _⟩, ⟨by (with_reducible repeat (first | apply Kd.R_alloc | apply Kd.R_drewN | apply Kd.R_drew)); exact Kd.R_mono HO871.out (fun _ hk => trivial)⟩, ⟨by (with_reducible repeat (first | refine Zag ?_ _ | refine Zai ?_ | refine Zah ?_ _)); exact BK860.out⟩, ⟨by (with_reducible repeat (first | refine Zag ?_ _ | refine Zai ?_ | refine Zah ?_ _)); exact BK872.out⟩, ⟨by repeat (first | (with_reducible first | exact HB.out | apply Zae | apply Zab | apply Zad | refine Zaf ?_ GE860.out | refine Zaf ?_ GE872.out) | exact HB.out)⟩⟩
  case rest =>
   clear HC13
   try clear c1
   try clear c2
   try clear p2
   try clear c4
   try clear c5
   try clear c5b0
   try clear c9
   try clear c11
   try clear c13
   try clear c24
   try clear c28
   try clear c28b0
   try clear c28b1
   try clear hcz15_0
   try clear hcz15_1
   try clear hcz17_0
   try clear hcz17_1
   try clear hcz21_0
   try clear hcz21_1
   try clear hcz25_0
   try clear hcz25_1
   try clear hcz7_0
   try clear hcz7_1
   try clear hfz15_0
   try clear hfz15_1
   try clear hfz17_0
   try clear hfz17_1
   try clear hfz21_0
   try clear hfz21_1
   try clear hfz25_0
   try clear hfz25_1
   try clear hfz7_0
   try clear hfz7_1
   obtain ⟨kq, x42_12, rfl, HA, HJ12, HO_873001, BK860, BK872, HB⟩ := hcut
   cases kq with
   | zero => exact absurd HA.out (by simp [laws_FnExactCountBest.j0])
   | succ kj12 =>
    have H := HA.out
    clear HA
    simp only [laws_FnExactCountBest.j0] at H
    by_cases c29 : x42_12 = true
    ·subst c29
     have H1 : (some false) = some r := by rw [if_pos rfl] at H; exact H
     clear H
     have H := H1
     clear H1
     obtain rfl := Option.some.inj H
     go_wp2
     go_ret
     exact ⟨by first | rfl | (simp [Zas, Zat] <;> rfl) | (simp [*, Zas, Zat] <;> rfl), by repeat (first | (with_reducible first | exact HB.out | apply Zae | apply Zab | apply Zad | refine Zaf ?_ GE860.out | refine Zaf ?_ GE872.out) | exact HB.out)⟩
    ·replace c29 := Bool.eq_false_iff.mpr c29
     subst c29
     have H1 : ((laws_toValues.f kj12 a0_0 l0_1).bind fun bt875 => ((laws_eqValues.f kj12 t868 t869 bt875.1 bt875.2).bind fun t879 => (if t879 = true then (some true) else (some false)))) = some r := by rw [if_neg (show ¬ (false = true) by decide)] at H; exact H
     clear H
     have H := H1
     clear H1
     replace H := Option.bind_eq_some_iff.mp H
     obtain ⟨⟨t875, t876⟩, A300, H⟩ := H
     replace H : ((laws_eqValues.f kj12 t868 t869 t875 t876).bind fun t879 => (if t879 = true then (some true) else (some false))) = some r := H
     have A30 := Zac.mk A300
     clear A300
     replace H := Option.bind_eq_some_iff.mp H
     obtain ⟨t879, A310, H⟩ := H
     replace H : (if t879 = true then (some true) else (some false)) = some r := H
     have A31 := Zac.mk A310
     clear A310
     by_cases c32 : t879 = true
     ·subst c32
      have H1 : (some true) = some r := by rw [if_pos rfl] at H; exact H
      clear H
      have H := H1
      clear H1
      obtain rfl := Option.some.inj H
      try go_wp2
      have n0_ := Zac.mk (Kd.R_drew HO_873001.out)
      have n1_ := Zac.mk (Zai BK860.out)
      have n2_ := Zac.mk (Zai BK872.out)
      have n3_ := Zac.mk (Zad HB.out)
      clear HO_873001
      clear BK860
      clear BK872
      clear HB
      have HO_873001 := n0_
      have BK860 := n1_
      have BK872 := n2_
      have HB := n3_
      clear n0_ n1_ n2_ n3_
      refine start_ (n := 5) (S := fun w' => w'.cell? ⟨gb872, 0, none⟩ = some (.int .i64 t868) ∧ w'.cell? ⟨gb872, 1, none⟩ = some (.slice Ao26 t869.length co26) ∧ w'.cell? ⟨gb860, 0, none⟩ = some (.int .i64 a0_0) ∧ w'.cell? ⟨gb860, 1, none⟩ = some (.slice A0_1 l0_1.length c0_1)) (ds := []) #[false, false, false, false, false] (by kernel_rfl) rfl rfl ⟨(Zak BK872.out 0).trans rfl, (Zak BK872.out 1).trans rfl, (Zak BK860.out 0).trans rfl, (Zak BK860.out 1).trans rfl⟩ (fun hHeld => ?_)
      generalize wc.drew = w33 at HO_873001 BK860 BK872 HB hHeld ⊢
      refine take_ (i := 0) (N := some 43) (v := ?_) (a' := ?_) #[true, false, false, false, false] rfl rfl (by kernel_rfl) (fun _ _ _ h => h) (Or.inl ⟨by rfl, ?_⟩) hHeld ?_ ?_
      rotate_left
      ·rintro w' ⟨s0, s1, s2, s3⟩
       go_simp
       with_reducible rfl
      rotate_left
      ·simp only [Act.put, ZA, ZB, ZC, i64_w, i32_w]
       rfl
      refine take_ (i := 1) (N := some 44) (v := ?_) (a' := ?_) #[true, true, false, false, false] rfl rfl (by kernel_rfl) (fun _ _ _ h => h) (Or.inl ⟨by rfl, ?_⟩) hHeld ?_ ?_
      rotate_left
      ·rintro w' ⟨s0, s1, s2, s3⟩
       go_simp
       with_reducible rfl
      rotate_left
      ·simp only [Act.put, ZA, ZB, ZC, i64_w, i32_w]
       rfl
      refine one_ (i := 2) (N := some 45) #[true, true, true, false, false] rfl rfl (by kernel_rfl) (by decide) (fun K hK => ?_)
      refine goes_ Try.func13 (by kernel_rfl) rfl #[.agg #[.int .i64 a0_0, .slice A0_1 l0_1.length c0_1]] (by rfl) rfl rfl (by (try simp only [List.map_toArray, List.map_cons, List.map_nil]); first | done | rfl | (simp only [List.length_drop, List.length_take]; rfl)) ?_
      with_reducible refine (laws_toValues.calls kj12 a0_0 _ _ l0_1 t875 t876 _ ?side1 ?side2 A30.out).mono ?_
      (case side1 => repeat (first | exact (Kd.C_below HR0_1.out HB.out) | (with_reducible refine Kd.C_alloc ?_ _) | (with_reducible refine Kd.C_drewN ?_ _) | (with_reducible refine Kd.C_drew ?_)))
      (case side2 => exact HC0_1.out)
      rintro e w34 ⟨v877, rfl, ho0, hb⟩
      refine ⟨_, rfl, ?_⟩
      have n0_ := Zac.mk (Kd.R_elder' (by (with_reducible repeat (first | apply Kd.R_alloc | apply Kd.R_drewN | apply Kd.R_drew)); exact HO_873001.out) (Kd.R_base ho0) hb)
      have n1_ := Zac.mk (Kd.R_lower (Kd.R_new' ho0 (Kd.R_lt (by (with_reducible repeat (first | apply Kd.R_alloc | apply Kd.R_drewN | apply Kd.R_drew)); exact HO_873001.out))) (Zap (by repeat (first | (with_reducible first | exact HB.out | apply Zae | apply Zab | apply Zad | refine Zaf ?_ GE860.out | refine Zaf ?_ GE872.out) | exact HB.out))))
      have n2_ := Zac.mk (Zar (g := gb860) (o := .cells #[.int .i64 a0_0, .slice A0_1 l0_1.length c0_1] 24 (0, 0)) (by (with_reducible repeat (first | refine Zag ?_ _ | refine Zai ?_ | refine Zah ?_ _)); exact BK860.out) hb)
      have n3_ := Zac.mk (Zar (g := gb872) (o := .cells #[.int .i64 t868, .slice Ao26 t869.length co26] 28 (0, 0)) (by (with_reducible repeat (first | refine Zag ?_ _ | refine Zai ?_ | refine Zah ?_ _)); exact BK872.out) hb)
      have n4_ := Zac.mk (Zaq (by repeat (first | (with_reducible first | exact HB.out | apply Zae | apply Zab | apply Zad | refine Zaf ?_ GE860.out | refine Zaf ?_ GE872.out) | exact HB.out)) hb)
      clear HO_873001
      clear BK860
      clear BK872
      clear HB
      have HO_873001 := n0_
      have HO878 := n1_
      have BK860 := n2_
      have BK872 := n3_
      have HB := n4_
      clear n0_ n1_ n2_ n3_ n4_
      (try clear hb)
      (try clear hb2)
      (try clear hk)
      (try clear hi)
      (try clear ho0)
      obtain ⟨Ao35, co35, eo35⟩ := Kd.R_slice HO878.out
      (first | subst eo35 | (injection eo35 with f1_ f2_ f3_; have f4_ := f1_.symm; have f5_ := f3_.symm; clear f1_ f2_ f3_; subst f4_; subst f5_))
      refine hK.out _ _ ⟨(Zak BK872.out 0).trans rfl, (Zak BK872.out 1).trans rfl, (Zak BK860.out 0).trans rfl, (Zak BK860.out 1).trans rfl⟩ (fun hHeld => ?_)
      clear hK K
      refine norm_ (a' := ?_) ?_ ?_
      rotate_left
      ·show Act.put _ (some 45) _ = _
       simp only [Act.put, ZA, ZB, ZC, i64_w, i32_w]
       rfl
      refine one_ (i := 3) (N := some 46) #[true, true, true, true, false] rfl rfl (by kernel_rfl) (by decide) (fun K hK => ?_)
      refine goes_ Try.func16 (by kernel_rfl) rfl #[.agg #[.int .i64 t868, .slice Ao26 t869.length co26], .agg #[.int .i64 t875, .slice Ao35 t876.length co35]] (by rfl) rfl rfl (by (try simp only [List.map_toArray, List.map_cons, List.map_nil]); first | done | rfl | (simp only [List.length_drop, List.length_take]; rfl)) ?_
      with_reducible refine (laws_eqValues.calls kj12 t868 _ _ t869 t875 _ _ t876 true _ ?side1 ?side2 ?side3 ?side4 A31.out).mono ?_
      (case side1 => repeat (first | exact (Kd.R_reads' HO_873001.out).2.2 | (with_reducible refine Kd.C_alloc ?_ _) | (with_reducible refine Kd.C_drewN ?_ _) | (with_reducible refine Kd.C_drew ?_)))
      (case side2 => exact (Kd.R_reads' HO_873001.out).2.1)
      (case side3 => repeat (first | exact (Kd.R_reads' HO878.out).2.2 | (with_reducible refine Kd.C_alloc ?_ _) | (with_reducible refine Kd.C_drewN ?_ _) | (with_reducible refine Kd.C_drew ?_)))
      (case side4 => exact (Kd.R_reads' HO878.out).2.1)
      rintro e w36 ⟨rfl, hb⟩
      refine ⟨_, rfl, ?_⟩
      have n0_ := Zac.mk (Kd.R_below (by (with_reducible repeat (first | apply Kd.R_alloc | apply Kd.R_drewN | apply Kd.R_drew)); exact HO_873001.out) hb)
      have n1_ := Zac.mk (Kd.R_below (by (with_reducible repeat (first | apply Kd.R_alloc | apply Kd.R_drewN | apply Kd.R_drew)); exact HO878.out) hb)
      have n2_ := Zac.mk (Zar (g := gb860) (o := .cells #[.int .i64 a0_0, .slice A0_1 l0_1.length c0_1] 24 (0, 0)) (by (with_reducible repeat (first | refine Zag ?_ _ | refine Zai ?_ | refine Zah ?_ _)); exact BK860.out) hb)
      have n3_ := Zac.mk (Zar (g := gb872) (o := .cells #[.int .i64 t868, .slice Ao26 t869.length co26] 28 (0, 0)) (by (with_reducible repeat (first | refine Zag ?_ _ | refine Zai ?_ | refine Zah ?_ _)); exact BK872.out) hb)
      have n4_ := Zac.mk (Zaq (by repeat (first | (with_reducible first | exact HB.out | apply Zae | apply Zab | apply Zad | refine Zaf ?_ GE860.out | refine Zaf ?_ GE872.out) | exact HB.out)) hb)
      clear HO_873001
      clear HO878
      clear BK860
      clear BK872
      clear HB
      have HO_873001 := n0_
      have HO878 := n1_
      have BK860 := n2_
      have BK872 := n3_
      have HB := n4_
      clear n0_ n1_ n2_ n3_ n4_
      (try clear hb)
      (try clear hb2)
      (try clear hk)
      (try clear hi)
      refine hK.out _ _ ⟨(Zak BK872.out 0).trans rfl, (Zak BK872.out 1).trans rfl, (Zak BK860.out 0).trans rfl, (Zak BK860.out 1).trans rfl⟩ (fun hHeld => ?_)
      clear hK K
      refine norm_ (a' := ?_) ?_ ?_
      rotate_left
      ·show Act.put _ (some 46) _ = _
       simp only [Act.put, ZA, ZB, ZC, i64_w, i32_w]
       rfl
      refine pure_ (i := 4) (N := some 47) (v := ?_) (a' := ?_) #[true, true, true, true, true] rfl rfl (by kernel_rfl) (fun _ _ _ h => h) (Or.inl ⟨by rfl, ?_⟩) ?_ ?_
      rotate_left
      ·intro w'
       go_simp
       with_reducible rfl
      rotate_left
      ·simp only [Act.put, ZA, ZB, ZC, i64_w, i32_w]
       rfl
      refine done_ (by kernel_rfl) ?_
      try go_wp2
      go_ret
      exact ⟨by first | rfl | (simp [Zas, Zat] <;> rfl) | (simp [*, Zas, Zat] <;> rfl), by repeat (first | (with_reducible first | exact HB.out | apply Zae | apply Zab | apply Zad | refine Zaf ?_ GE860.out | refine Zaf ?_ GE872.out) | exact HB.out)⟩
     ·replace c32 := Bool.eq_false_iff.mpr c32
      subst c32
      have H1 : (some false) = some r := by rw [if_neg (show ¬ (false = true) by decide)] at H; exact H
      clear H
      have H := H1
      clear H1
      obtain rfl := Option.some.inj H
      try go_wp2
      have n0_ := Zac.mk (Kd.R_drew HO_873001.out)
      have n1_ := Zac.mk (Zai BK860.out)
      have n2_ := Zac.mk (Zai BK872.out)
      have n3_ := Zac.mk (Zad HB.out)
      clear HO_873001
      clear BK860
      clear BK872
      clear HB
      have HO_873001 := n0_
      have BK860 := n1_
      have BK872 := n2_
      have HB := n3_
      clear n0_ n1_ n2_ n3_
      refine start_ (n := 5) (S := fun w' => w'.cell? ⟨gb872, 0, none⟩ = some (.int .i64 t868) ∧ w'.cell? ⟨gb872, 1, none⟩ = some (.slice Ao26 t869.length co26) ∧ w'.cell? ⟨gb860, 0, none⟩ = some (.int .i64 a0_0) ∧ w'.cell? ⟨gb860, 1, none⟩ = some (.slice A0_1 l0_1.length c0_1)) (ds := []) #[false, false, false, false, false] (by kernel_rfl) rfl rfl ⟨(Zak BK872.out 0).trans rfl, (Zak BK872.out 1).trans rfl, (Zak BK860.out 0).trans rfl, (Zak BK860.out 1).trans rfl⟩ (fun hHeld => ?_)
      generalize wc.drew = w37 at HO_873001 BK860 BK872 HB hHeld ⊢
      refine take_ (i := 0) (N := some 43) (v := ?_) (a' := ?_) #[true, false, false, false, false] rfl rfl (by kernel_rfl) (fun _ _ _ h => h) (Or.inl ⟨by rfl, ?_⟩) hHeld ?_ ?_
      rotate_left
      ·rintro w' ⟨s0, s1, s2, s3⟩
       go_simp
       with_reducible rfl
      rotate_left
      ·simp only [Act.put, ZA, ZB, ZC, i64_w, i32_w]
       rfl
      refine take_ (i := 1) (N := some 44) (v := ?_) (a' := ?_) #[true, true, false, false, false] rfl rfl (by kernel_rfl) (fun _ _ _ h => h) (Or.inl ⟨by rfl, ?_⟩) hHeld ?_ ?_
      rotate_left
      ·rintro w' ⟨s0, s1, s2, s3⟩
       go_simp
       with_reducible rfl
      rotate_left
      ·simp only [Act.put, ZA, ZB, ZC, i64_w, i32_w]
       rfl
      refine one_ (i := 2) (N := some 45) #[true, true, true, false, false] rfl rfl (by kernel_rfl) (by decide) (fun K hK => ?_)
      refine goes_ Try.func13 (by kernel_rfl) rfl #[.agg #[.int .i64 a0_0, .slice A0_1 l0_1.length c0_1]] (by rfl) rfl rfl (by (try simp only [List.map_toArray, List.map_cons, List.map_nil]); first | done | rfl | (simp only [List.length_drop, List.length_take]; rfl)) ?_
      with_reducible refine (laws_toValues.calls kj12 a0_0 _ _ l0_1 t875 t876 _ ?side1 ?side2 A30.out).mono ?_
      (case side1 => repeat (first | exact (Kd.C_below HR0_1.out HB.out) | (with_reducible refine Kd.C_alloc ?_ _) | (with_reducible refine Kd.C_drewN ?_ _) | (with_reducible refine Kd.C_drew ?_)))
      (case side2 => exact HC0_1.out)
      rintro e w38 ⟨v877, rfl, ho0, hb⟩
      refine ⟨_, rfl, ?_⟩
      have n0_ := Zac.mk (Kd.R_elder' (by (with_reducible repeat (first | apply Kd.R_alloc | apply Kd.R_drewN | apply Kd.R_drew)); exact HO_873001.out) (Kd.R_base ho0) hb)
      have n1_ := Zac.mk (Kd.R_lower (Kd.R_new' ho0 (Kd.R_lt (by (with_reducible repeat (first | apply Kd.R_alloc | apply Kd.R_drewN | apply Kd.R_drew)); exact HO_873001.out))) (Zap (by repeat (first | (with_reducible first | exact HB.out | apply Zae | apply Zab | apply Zad | refine Zaf ?_ GE860.out | refine Zaf ?_ GE872.out) | exact HB.out))))
      have n2_ := Zac.mk (Zar (g := gb860) (o := .cells #[.int .i64 a0_0, .slice A0_1 l0_1.length c0_1] 24 (0, 0)) (by (with_reducible repeat (first | refine Zag ?_ _ | refine Zai ?_ | refine Zah ?_ _)); exact BK860.out) hb)
      have n3_ := Zac.mk (Zar (g := gb872) (o := .cells #[.int .i64 t868, .slice Ao26 t869.length co26] 28 (0, 0)) (by (with_reducible repeat (first | refine Zag ?_ _ | refine Zai ?_ | refine Zah ?_ _)); exact BK872.out) hb)
      have n4_ := Zac.mk (Zaq (by repeat (first | (with_reducible first | exact HB.out | apply Zae | apply Zab | apply Zad | refine Zaf ?_ GE860.out | refine Zaf ?_ GE872.out) | exact HB.out)) hb)
      clear HO_873001
      clear BK860
      clear BK872
      clear HB
      have HO_873001 := n0_
      have HO878 := n1_
      have BK860 := n2_
      have BK872 := n3_
      have HB := n4_
      clear n0_ n1_ n2_ n3_ n4_
      (try clear hb)
      (try clear hb2)
      (try clear hk)
      (try clear hi)
      (try clear ho0)
      obtain ⟨Ao39, co39, eo39⟩ := Kd.R_slice HO878.out
      (first | subst eo39 | (injection eo39 with f1_ f2_ f3_; have f4_ := f1_.symm; have f5_ := f3_.symm; clear f1_ f2_ f3_; subst f4_; subst f5_))
      refine hK.out _ _ ⟨(Zak BK872.out 0).trans rfl, (Zak BK872.out 1).trans rfl, (Zak BK860.out 0).trans rfl, (Zak BK860.out 1).trans rfl⟩ (fun hHeld => ?_)
      clear hK K
      refine norm_ (a' := ?_) ?_ ?_
      rotate_left
      ·show Act.put _ (some 45) _ = _
       simp only [Act.put, ZA, ZB, ZC, i64_w, i32_w]
       rfl
      refine one_ (i := 3) (N := some 46) #[true, true, true, true, false] rfl rfl (by kernel_rfl) (by decide) (fun K hK => ?_)
      refine goes_ Try.func16 (by kernel_rfl) rfl #[.agg #[.int .i64 t868, .slice Ao26 t869.length co26], .agg #[.int .i64 t875, .slice Ao39 t876.length co39]] (by rfl) rfl rfl (by (try simp only [List.map_toArray, List.map_cons, List.map_nil]); first | done | rfl | (simp only [List.length_drop, List.length_take]; rfl)) ?_
      with_reducible refine (laws_eqValues.calls kj12 t868 _ _ t869 t875 _ _ t876 false _ ?side1 ?side2 ?side3 ?side4 A31.out).mono ?_
      (case side1 => repeat (first | exact (Kd.R_reads' HO_873001.out).2.2 | (with_reducible refine Kd.C_alloc ?_ _) | (with_reducible refine Kd.C_drewN ?_ _) | (with_reducible refine Kd.C_drew ?_)))
      (case side2 => exact (Kd.R_reads' HO_873001.out).2.1)
      (case side3 => repeat (first | exact (Kd.R_reads' HO878.out).2.2 | (with_reducible refine Kd.C_alloc ?_ _) | (with_reducible refine Kd.C_drewN ?_ _) | (with_reducible refine Kd.C_drew ?_)))
      (case side4 => exact (Kd.R_reads' HO878.out).2.1)
      rintro e w40 ⟨rfl, hb⟩
      refine ⟨_, rfl, ?_⟩
      have n0_ := Zac.mk (Kd.R_below (by (with_reducible repeat (first | apply Kd.R_alloc | apply Kd.R_drewN | apply Kd.R_drew)); exact HO_873001.out) hb)
      have n1_ := Zac.mk (Kd.R_below (by (with_reducible repeat (first | apply Kd.R_alloc | apply Kd.R_drewN | apply Kd.R_drew)); exact HO878.out) hb)
      have n2_ := Zac.mk (Zar (g := gb860) (o := .cells #[.int .i64 a0_0, .slice A0_1 l0_1.length c0_1] 24 (0, 0)) (by (with_reducible repeat (first | refine Zag ?_ _ | refine Zai ?_ | refine Zah ?_ _)); exact BK860.out) hb)
      have n3_ := Zac.mk (Zar (g := gb872) (o := .cells #[.int .i64 t868, .slice Ao26 t869.length co26] 28 (0, 0)) (by (with_reducible repeat (first | refine Zag ?_ _ | refine Zai ?_ | refine Zah ?_ _)); exact BK872.out) hb)
      have n4_ := Zac.mk (Zaq (by repeat (first | (with_reducible first | exact HB.out | apply Zae | apply Zab | apply Zad | refine Zaf ?_ GE860.out | refine Zaf ?_ GE872.out) | exact HB.out)) hb)
      clear HO_873001
      clear HO878
      clear BK860
      clear BK872
      clear HB
      have HO_873001 := n0_
      have HO878 := n1_
      have BK860 := n2_
      have BK872 := n3_
      have HB := n4_
      clear n0_ n1_ n2_ n3_ n4_
      (try clear hb)
      (try clear hb2)
      (try clear hk)
      (try clear hi)
      refine hK.out _ _ ⟨(Zak BK872.out 0).trans rfl, (Zak BK872.out 1).trans rfl, (Zak BK860.out 0).trans rfl, (Zak BK860.out 1).trans rfl⟩ (fun hHeld => ?_)
      clear hK K
      refine norm_ (a' := ?_) ?_ ?_
      rotate_left
      ·show Act.put _ (some 46) _ = _
       simp only [Act.put, ZA, ZB, ZC, i64_w, i32_w]
       rfl
      refine pure_ (i := 4) (N := some 47) (v := ?_) (a' := ?_) #[true, true, true, true, true] rfl rfl (by kernel_rfl) (fun _ _ _ h => h) (Or.inl ⟨by rfl, ?_⟩) ?_ ?_
      rotate_left
      ·intro w'
       go_simp
       with_reducible rfl
      rotate_left
      ·simp only [Act.put, ZA, ZB, ZC, i64_w, i32_w]
       rfl
      refine done_ (by kernel_rfl) ?_
      try go_wp2
      go_ret
      exact ⟨by first | rfl | (simp [Zas, Zat] <;> rfl) | (simp [*, Zas, Zat] <;> rfl), by repeat (first | (with_reducible first | exact HB.out | apply Zae | apply Zab | apply Zad | refine Zaf ?_ GE860.out | refine Zaf ?_ GE872.out) | exact HB.out)⟩
def laws_FnExactCountBest.Pure : Prop := ∀ (a0_0 : Int) (l0_1 : List Int) (a1 : Int) (a2 : Int), (Lit.int .i64 a0_0).wf = true → l0_1.length ≤ maxLen → (∀ x ∈ l0_1, (Lit.int .i64 x).wf = true) → (Lit.int .i64 a1).wf = true → (Lit.int .i64 a2).wf = true → ∃ k, laws_FnExactCountBest.f k a0_0 l0_1 a1 a2 = some true
theorem laws_FnExactCountBest.walk (P : laws_FnExactCountBest.Pure) (a0_0 : Int) (A0_1 : Option Addr) (len0_1 cap0_1 : Nat) (z0_1 : List Int) (a1 : Int) (a2 : Int) (w : World) (w0_0 : (Lit.int .i64 a0_0).wf = true) (w0_1 : (A0_1 = none ∧ len0_1 = 0 ∧ cap0_1 = 0 ∧ z0_1 = []) ∨ ∃ x, A0_1 = some x ∧ len0_1 ≤ cap0_1 ∧ cap0_1 ≤ maxLen ∧ z0_1.length = cap0_1 ∧ (∀ i, i < z0_1.length → w.cell? (x.add i) = some (.int .i64 (z0_1.getD i 0))) ∧ ∀ n ∈ z0_1, (Lit.int .i64 n).wf = true) (w1 : (Lit.int .i64 a1).wf = true) (w2 : (Lit.int .i64 a2).wf = true) :
  Calls Try.prog 9 #[.agg #[.int .i64 a0_0, .slice A0_1 len0_1 cap0_1], .int .i64 a1, .int .i64 a2] w fun e w' => e = .returned (.bool true) ∧ Below w.heap.size w w' := by
 obtain ⟨l0_1, rfl, hr0_1, hm0_1, hw0_1, hc0_1⟩ := ReadsInt.ofRowC w0_1
 obtain ⟨k, h⟩ := P a0_0 l0_1 a1 a2 w0_0 hm0_1 hw0_1 w1 w2
 refine (laws_FnExactCountBest.calls k a0_0 _ _ l0_1 a1 a2 true w (Kd.C_of_reads (d := (0 : Int)) (h1 := fun _ => rfl) hr0_1) hc0_1 h).mono ?_
 rintro e w' ⟨rfl, hd⟩
 exact ⟨rfl, hd⟩
end Go.Proofs.Ytgmmfdilfpkbmaa.P
