import Derived.Test.YtgmmfdilfpkbmaaXP0FnExactBestRounding
import Derived.Test.YtgmmfdilfpkbmaaXP1FnExactBestRounding
import Derived.Test.YtgmmfdilfpkbmaaXP2FnExactBestRounding
import Derived.Test.YtgmmfdilfpkbmaaXP3FnExactBestRounding
import Derived.Test.YtgmmfdilfpkbmaaXP23FnExactBestRounding
import Derived.Test.YtgmmfdilfpkbmaaXP29FnExactBestRounding
namespace Go.Proofs.Ytgmmfdilfpkbmaa.P
open Go.RowKit Go.Proofs.YtgmmfdilfpkbmaaW.PrintWords Go.Proofs.YtgmmfdilfpkbmaaW.PrintLast Go.Proofs.YtgmmfdilfpkbmaaW.PrintMore
attribute [local go_sem] max2_int min2_int max_two min_two max_three min_three max_four min_four
set_option linter.unusedVariables false
set_option linter.unusedSimpArgs false
mutual
def laws_FnExactBestRounding.j0 : Nat → Int → Int → List Int → Bool → List Int → Bool → Bool → Int → List Int → Int → List Int → Option (Bool)
 | 0, _, _, _, _, _, _, _, _, _, _, _ => none
 | k + 1, x1, x2, x8, x9, x11, x12, x48, x913000, x913001, x927000, x927001 => if x48 = true then (some false) else ((laws_toValues.f k x913000 x913001).bind fun bt932 => ((laws_eqValues.f k x927000 x927001 bt932.1 bt932.2).bind fun t936 => (if t936 = true then ((laws_markValues.f k x927000 x927001 1).bind fun bt937 => (if bt937.1 < 0 then (laws_FnExactBestRounding.j1 k x1 x2 x8 x9 x11 true x913000 x913001) else ((Za4.f k x11 x8).bind fun t939 => (if t939 = true then (laws_FnExactBestRounding.j1 k x1 x2 x8 x9 x11 (x12 != x9) x913000 x913001) else (laws_FnExactBestRounding.j1 k x1 x2 x8 x9 x11 true x913000 x913001))))) else (some false))))
def laws_FnExactBestRounding.j1 : Nat → Int → Int → List Int → Bool → List Int → Bool → Int → List Int → Option (Bool)
 | 0, _, _, _, _, _, _, _, _ => none
 | k + 1, x1, x2, x8, x9, x11, x69, x913000, x913001 => if x69 = true then (some false) else ((laws_markInt64S.f k x11 1).bind fun bt940 => ((Zba.f k bt940.2 1).bind fun t942 => (if t942 < 0 then (some false) else (if t942 = bt940.1 then ((laws_toValues.f k x913000 x913001).bind fun bt943 => ((Za7.f k bt943.1 bt943.2 x1 x2).bind fun bt947 => ((Za4.f k bt947.1 x8).bind fun t951 => (if t951 = true then (laws_FnExactBestRounding.j2 k bt940.2 bt940.1 (bt947.2 != x9)) else (laws_FnExactBestRounding.j2 k bt940.2 bt940.1 true))))) else (some false)))))
def laws_FnExactBestRounding.j2 : Nat → List Int → Int → Bool → Option (Bool)
 | 0, _, _, _ => none
 | k + 1, x11, x14, x97 => if x97 = true then (some false) else ((Zba.f k x11 1).bind fun t952 => (if t952 < 0 then (some false) else (if t952 = x14 then (some true) else (some false))))
end
def laws_FnExactBestRounding.f (k : Nat) (a0_0 : Int) (l0_1 : List Int) (a1 : Int) (a2 : Int) : Option (Bool) := (laws_szValues.f a0_0 l0_1 1048576).bind fun t913 => (if t913 < 0 then (some true) else ((laws_toValues.f k a0_0 l0_1).bind fun bt914 => ((spec_BestRounding.f k bt914.1 bt914.2 a1 a2).bind fun bt918 => ((laws_toValues.f k a0_0 l0_1).bind fun bt922 => ((Za7.f k bt922.1 bt922.2 a1 a2).bind fun bt927 => ((Za4.f k bt927.1 bt918.1).bind fun t931 => (if t931 = true then (laws_FnExactBestRounding.j0 k a1 a2 bt918.1 bt918.2 bt927.1 bt927.2 (bt927.2 != bt918.2) a0_0 l0_1 bt922.1 bt922.2) else (laws_FnExactBestRounding.j0 k a1 a2 bt918.1 bt918.2 bt927.1 bt927.2 true a0_0 l0_1 bt922.1 bt922.2))))))))
set_option maxHeartbeats 8000000 in
set_option maxRecDepth 100000 in
theorem laws_FnExactBestRounding.calls (k : Nat) (a0_0 : Int) (A0_1 : Option Addr) (c0_1 : Nat) (l0_1 : List Int) (a1 : Int) (a2 : Int) (r : Bool) (w : World) (hr0_1 : Kd.C (Kd.int .i64) w A0_1 l0_1.length l0_1) (hc0_1 : l0_1.length ≤ c0_1) (h : laws_FnExactBestRounding.f k a0_0 l0_1 a1 a2 = some r) :
  Calls Try.prog 10 #[.agg #[.int .i64 a0_0, .slice A0_1 l0_1.length c0_1], .int .i64 a1, .int .i64 a2] w fun e w' => e = .returned (.bool r) ∧ Below w.heap.size w w' := by
 have hu24 := Try.underlying24
 have hu28 := Try.underlying28
 have HR0_1 := Zac.mk hr0_1
 have HC0_1 := Zac.mk hc0_1
 clear hr0_1 hc0_1
 have HB := Zac.mk (Below.refl w.heap.size w)
 have H : ((laws_szValues.f a0_0 l0_1 1048576).bind fun t913 => (if t913 < 0 then (some true) else ((laws_toValues.f k a0_0 l0_1).bind fun bt914 => ((spec_BestRounding.f k bt914.1 bt914.2 a1 a2).bind fun bt918 => ((laws_toValues.f k a0_0 l0_1).bind fun bt922 => ((Za7.f k bt922.1 bt922.2 a1 a2).bind fun bt927 => ((Za4.f k bt927.1 bt918.1).bind fun t931 => (if t931 = true then (laws_FnExactBestRounding.j0 k a1 a2 bt918.1 bt918.2 bt927.1 bt927.2 (bt927.2 != bt918.2) a0_0 l0_1 bt922.1 bt922.2) else (laws_FnExactBestRounding.j0 k a1 a2 bt918.1 bt918.2 bt927.1 bt927.2 true a0_0 l0_1 bt922.1 bt922.2))))))))) = some r := h
 clear h
 replace H := Option.bind_eq_some_iff.mp H
 obtain ⟨t913, A40, H⟩ := H
 replace H : (if t913 < 0 then (some true) else ((laws_toValues.f k a0_0 l0_1).bind fun bt914 => ((spec_BestRounding.f k bt914.1 bt914.2 a1 a2).bind fun bt918 => ((laws_toValues.f k a0_0 l0_1).bind fun bt922 => ((Za7.f k bt922.1 bt922.2 a1 a2).bind fun bt927 => ((Za4.f k bt927.1 bt918.1).bind fun t931 => (if t931 = true then (laws_FnExactBestRounding.j0 k a1 a2 bt918.1 bt918.2 bt927.1 bt927.2 (bt927.2 != bt918.2) a0_0 l0_1 bt922.1 bt922.2) else (laws_FnExactBestRounding.j0 k a1 a2 bt918.1 bt918.2 bt927.1 bt927.2 true a0_0 l0_1 bt922.1 bt922.2)))))))) = some r := H
 have A4 := Zac.mk A40
 clear A40
 by_cases c5 : t913 < 0
 ·rw [if_pos c5] at H
  have c5b0 : decide (t913 < 0) = true := decide_eq_true c5
  clear c5
  obtain rfl := Option.some.inj H
  as_aux_lemma =>
   go_enter Try.func10, Try.ntmps10
   go_wp2_with (first | ((with_reducible refine gate_dst (N := 3) rfl ?_); refine box_event ?hg (N := 3) ?hd (cs := #[.int .i64 a0_0, .slice A0_1 l0_1.length c0_1]) (t := 24) ?hr ?_; (case hd => rfl); (case hg => rfl); (case hr => first | (go_simp; done) | (go_simp; rfl)); intro gb912 hg w6 hbox hb; have n0_ := Zac.mk (Zas (by repeat (first | (with_reducible first | exact HB.out | apply Zae | apply Zab | apply Zad) | exact HB.out)) hb); have n1_ := Zac.mk (hbox); have n2_ := Zac.mk ((by rw [hg]; exact (Zap (by repeat (first | (with_reducible first | exact HB.out | apply Zae | apply Zab | apply Zad) | exact HB.out))) : w.heap.size ≤ gb912)); have n3_ := Zac.mk ((by rw [hg]; exact (Zap (by repeat (first | (with_reducible first | exact HB.out | apply Zae | apply Zab | apply Zad) | exact HB.out))) : w.heap.size ≤ gb912)); clear HB; have HB := n0_; have BK912 := n1_; have GW912 := n2_; have GE912 := n3_; clear n0_ n1_ n2_ n3_; clear hb hbox hg; have hcz7_0 : w6.cell? ⟨gb912, 0, none⟩ = some (.int .i64 a0_0) := (Zak BK912.out 0).trans rfl; have hcz7_1 : w6.cell? ⟨gb912, 1, none⟩ = some (.slice A0_1 l0_1.length c0_1) := (Zak BK912.out 1).trans rfl; have hfz7_0 := Zan BK912.out 0; have hfz7_1 := Zan BK912.out 1) | ((with_reducible refine Zaw (f := 11) rfl ?_); refine goesL_ (some 20) rfl rfl Try.func11 (by kernel_rfl) rfl #[.agg #[.int .i64 a0_0, .slice A0_1 l0_1.length c0_1], .int .i64 1048576] rfl (by (try simp only [List.map_toArray, List.map_cons, List.map_nil]); first | done | rfl | (simp only [List.length_drop, List.length_take]; rfl)) ?_; (with_reducible refine (laws_szValues.calls a0_0 _ _ l0_1 1048576 t913 _ ?side1 ?side2 A4.out).mono ?_); (case side1 => repeat (first | exact (Kd.C_below HR0_1.out HB.out) | (with_reducible refine Kd.C_alloc ?_ _) | (with_reducible refine Kd.C_drewN ?_ _) | (with_reducible refine Kd.C_drew ?_))); (case side2 => exact HC0_1.out); rintro e w8 ⟨rfl, hb⟩; refine ⟨_, rfl, ?_⟩; have n0_ := Zac.mk (Zat (g := gb912) (o := .cells #[.int .i64 a0_0, .slice A0_1 l0_1.length c0_1] 24 (0, 0)) (by (with_reducible repeat (first | refine Zah ?_ _ | refine Zai ?_ | refine Zag ?_ _)); exact BK912.out) hb); have n1_ := Zac.mk (Zas (by repeat (first | (with_reducible first | exact HB.out | apply Zae | apply Zab | apply Zad | refine Zaf ?_ GE912.out) | exact HB.out)) hb); clear BK912; clear HB; have BK912 := n0_; have HB := n1_; clear n0_ n1_; (try clear hb); (try clear hb2); (try clear hk); (try clear hi)))
   go_ret
   exact ⟨by first | rfl | (simp [Zaq, Zar] <;> rfl) | (simp [*, Zaq, Zar] <;> rfl), by repeat (first | (with_reducible first | exact HB.out | apply Zae | apply Zab | apply Zad | refine Zaf ?_ GE912.out) | exact HB.out)⟩
 ·rw [if_neg c5] at H
  have c5b0 : decide (t913 < 0) = false := decide_eq_false c5
  clear c5
  replace H := Option.bind_eq_some_iff.mp H
  obtain ⟨⟨t914, t915⟩, A90, H⟩ := H
  replace H : ((spec_BestRounding.f k t914 t915 a1 a2).bind fun bt918 => ((laws_toValues.f k a0_0 l0_1).bind fun bt922 => ((Za7.f k bt922.1 bt922.2 a1 a2).bind fun bt927 => ((Za4.f k bt927.1 bt918.1).bind fun t931 => (if t931 = true then (laws_FnExactBestRounding.j0 k a1 a2 bt918.1 bt918.2 bt927.1 bt927.2 (bt927.2 != bt918.2) a0_0 l0_1 bt922.1 bt922.2) else (laws_FnExactBestRounding.j0 k a1 a2 bt918.1 bt918.2 bt927.1 bt927.2 true a0_0 l0_1 bt922.1 bt922.2)))))) = some r := H
  have A9 := Zac.mk A90
  clear A90
  replace H := Option.bind_eq_some_iff.mp H
  obtain ⟨⟨t918, t921⟩, A100, H⟩ := H
  replace H : ((laws_toValues.f k a0_0 l0_1).bind fun bt922 => ((Za7.f k bt922.1 bt922.2 a1 a2).bind fun bt927 => ((Za4.f k bt927.1 t918).bind fun t931 => (if t931 = true then (laws_FnExactBestRounding.j0 k a1 a2 t918 t921 bt927.1 bt927.2 (bt927.2 != t921) a0_0 l0_1 bt922.1 bt922.2) else (laws_FnExactBestRounding.j0 k a1 a2 t918 t921 bt927.1 bt927.2 true a0_0 l0_1 bt922.1 bt922.2))))) = some r := H
  have A10 := Zac.mk A100
  clear A100
  replace H := Option.bind_eq_some_iff.mp H
  obtain ⟨⟨t922, t923⟩, A110, H⟩ := H
  replace H : ((Za7.f k t922 t923 a1 a2).bind fun bt927 => ((Za4.f k bt927.1 t918).bind fun t931 => (if t931 = true then (laws_FnExactBestRounding.j0 k a1 a2 t918 t921 bt927.1 bt927.2 (bt927.2 != t921) a0_0 l0_1 t922 t923) else (laws_FnExactBestRounding.j0 k a1 a2 t918 t921 bt927.1 bt927.2 true a0_0 l0_1 t922 t923)))) = some r := H
  have A11 := Zac.mk A110
  clear A110
  replace H := Option.bind_eq_some_iff.mp H
  obtain ⟨⟨t927, t930⟩, A120, H⟩ := H
  replace H : ((Za4.f k t927 t918).bind fun t931 => (if t931 = true then (laws_FnExactBestRounding.j0 k a1 a2 t918 t921 t927 t930 (t930 != t921) a0_0 l0_1 t922 t923) else (laws_FnExactBestRounding.j0 k a1 a2 t918 t921 t927 t930 true a0_0 l0_1 t922 t923))) = some r := H
  have A12 := Zac.mk A120
  clear A120
  have HC13 := Zac.mk H
  clear H
  go_enter Try.func10, Try.ntmps10
  go_upto_region 8 with (first | ((with_reducible refine gate_dst (N := 3) rfl ?_); refine box_event ?hg (N := 3) ?hd (cs := #[.int .i64 a0_0, .slice A0_1 l0_1.length c0_1]) (t := 24) ?hr ?_; (case hd => rfl); (case hg => rfl); (case hr => first | (go_simp; done) | (go_simp; rfl)); intro gb912 hg w14 hbox hb; have n0_ := Zac.mk (Zas (by repeat (first | (with_reducible first | exact HB.out | apply Zae | apply Zab | apply Zad) | exact HB.out)) hb); have n1_ := Zac.mk (hbox); have n2_ := Zac.mk ((by rw [hg]; exact (Zap (by repeat (first | (with_reducible first | exact HB.out | apply Zae | apply Zab | apply Zad) | exact HB.out))) : w.heap.size ≤ gb912)); have n3_ := Zac.mk ((by rw [hg]; exact (Zap (by repeat (first | (with_reducible first | exact HB.out | apply Zae | apply Zab | apply Zad) | exact HB.out))) : w.heap.size ≤ gb912)); clear HB; have HB := n0_; have BK912 := n1_; have GW912 := n2_; have GE912 := n3_; clear n0_ n1_ n2_ n3_; clear hb hbox hg; have hcz15_0 : w14.cell? ⟨gb912, 0, none⟩ = some (.int .i64 a0_0) := (Zak BK912.out 0).trans rfl; have hcz15_1 : w14.cell? ⟨gb912, 1, none⟩ = some (.slice A0_1 l0_1.length c0_1) := (Zak BK912.out 1).trans rfl; have hfz15_0 := Zan BK912.out 0; have hfz15_1 := Zan BK912.out 1) | ((with_reducible refine Zaw (f := 11) rfl ?_); refine goesL_ (some 20) rfl rfl Try.func11 (by kernel_rfl) rfl #[.agg #[.int .i64 a0_0, .slice A0_1 l0_1.length c0_1], .int .i64 1048576] rfl (by (try simp only [List.map_toArray, List.map_cons, List.map_nil]); first | done | rfl | (simp only [List.length_drop, List.length_take]; rfl)) ?_; (with_reducible refine (laws_szValues.calls a0_0 _ _ l0_1 1048576 t913 _ ?side1 ?side2 A4.out).mono ?_); (case side1 => repeat (first | exact (Kd.C_below HR0_1.out HB.out) | (with_reducible refine Kd.C_alloc ?_ _) | (with_reducible refine Kd.C_drewN ?_ _) | (with_reducible refine Kd.C_drew ?_))); (case side2 => exact HC0_1.out); rintro e w16 ⟨rfl, hb⟩; refine ⟨_, rfl, ?_⟩; have n0_ := Zac.mk (Zat (g := gb912) (o := .cells #[.int .i64 a0_0, .slice A0_1 l0_1.length c0_1] 24 (0, 0)) (by (with_reducible repeat (first | refine Zah ?_ _ | refine Zai ?_ | refine Zag ?_ _)); exact BK912.out) hb); have n1_ := Zac.mk (Zas (by repeat (first | (with_reducible first | exact HB.out | apply Zae | apply Zab | apply Zad | refine Zaf ?_ GE912.out) | exact HB.out)) hb); clear BK912; clear HB; have BK912 := n0_; have HB := n1_; clear n0_ n1_; (try clear hb); (try clear hb2); (try clear hk); (try clear hi); have hcz17_0 : w16.cell? ⟨gb912, 0, none⟩ = some (.int .i64 a0_0) := (Zak BK912.out 0).trans rfl; have hcz17_1 : w16.cell? ⟨gb912, 1, none⟩ = some (.slice A0_1 l0_1.length c0_1) := (Zak BK912.out 1).trans rfl; have hfz17_0 := Zan BK912.out 0; have hfz17_1 := Zan BK912.out 1) | ((with_reducible refine Zaw (f := 13) rfl ?_); refine goesL_ (some 25) rfl rfl Try.func13 (by kernel_rfl) rfl #[.agg #[.int .i64 a0_0, .slice A0_1 l0_1.length c0_1]] rfl (by (try simp only [List.map_toArray, List.map_cons, List.map_nil]); first | done | rfl | (simp only [List.length_drop, List.length_take]; rfl)) ?_; (with_reducible refine (laws_toValues.calls k a0_0 _ _ l0_1 t914 t915 _ ?side1 ?side2 A9.out).mono ?_); (case side1 => repeat (first | exact (Kd.C_below HR0_1.out HB.out) | (with_reducible refine Kd.C_alloc ?_ _) | (with_reducible refine Kd.C_drewN ?_ _) | (with_reducible refine Kd.C_drew ?_))); (case side2 => exact HC0_1.out); rintro e w18 ⟨v916, rfl, ho0, hb⟩; refine ⟨_, rfl, ?_⟩; have n0_ := Zac.mk (Kd.R_lower ho0 (Zap (by repeat (first | (with_reducible first | exact HB.out | apply Zae | apply Zab | apply Zad | refine Zaf ?_ GE912.out) | exact HB.out)))); have n1_ := Zac.mk (Zat (g := gb912) (o := .cells #[.int .i64 a0_0, .slice A0_1 l0_1.length c0_1] 24 (0, 0)) (by (with_reducible repeat (first | refine Zah ?_ _ | refine Zai ?_ | refine Zag ?_ _)); exact BK912.out) hb); have n2_ := Zac.mk (Zas (by repeat (first | (with_reducible first | exact HB.out | apply Zae | apply Zab | apply Zad | refine Zaf ?_ GE912.out) | exact HB.out)) hb); clear BK912; clear HB; have HO917 := n0_; have BK912 := n1_; have HB := n2_; clear n0_ n1_ n2_; (try clear hb); (try clear hb2); (try clear hk); (try clear hi); (try clear ho0); obtain ⟨Ao19, co19, eo19⟩ := Kd.R_slice HO917.out; subst eo19) | ((with_reducible refine Zaw (f := 50) rfl ?_); refine goesL_ (some 28) rfl rfl Try.func50 (by kernel_rfl) rfl #[.agg #[.int .i64 t914, .slice Ao19 t915.length co19], .int .i64 a1, .int .i64 a2] rfl (by (try simp only [List.map_toArray, List.map_cons, List.map_nil]); first | done | rfl | (simp only [List.length_drop, List.length_take]; rfl)) ?_; (with_reducible refine (spec_BestRounding.calls k t914 _ _ t915 a1 a2 t918 t921 _ ?side1 ?side2 A10.out).mono ?_); (case side1 => repeat (first | exact (Kd.R_reads' HO917.out).2.2 | (with_reducible refine Kd.C_alloc ?_ _) | (with_reducible refine Kd.C_drewN ?_ _) | (with_reducible refine Kd.C_drew ?_))); (case side2 => exact (Kd.R_reads' HO917.out).2.1); rintro e w20 ⟨v919, rfl, ho0, hb⟩; refine ⟨_, rfl, ?_⟩; have n0_ := Zac.mk (Kd.R_elder' (by (with_reducible repeat (first | apply Kd.R_alloc | apply Kd.R_drewN | apply Kd.R_drew)); exact HO917.out) (Kd.R_base ho0) hb); have n1_ := Zac.mk (Kd.R_lower (Kd.R_new' ho0 (Kd.R_lt (by (with_reducible repeat (first | apply Kd.R_alloc | apply Kd.R_drewN | apply Kd.R_drew)); exact HO917.out))) (Zap (by repeat (first | (with_reducible first | exact HB.out | apply Zae | apply Zab | apply Zad | refine Zaf ?_ GE912.out) | exact HB.out)))); have n2_ := Zac.mk (Zat (g := gb912) (o := .cells #[.int .i64 a0_0, .slice A0_1 l0_1.length c0_1] 24 (0, 0)) (by (with_reducible repeat (first | refine Zah ?_ _ | refine Zai ?_ | refine Zag ?_ _)); exact BK912.out) hb); have n3_ := Zac.mk (Zas (by repeat (first | (with_reducible first | exact HB.out | apply Zae | apply Zab | apply Zad | refine Zaf ?_ GE912.out) | exact HB.out)) hb); clear HO917; clear BK912; clear HB; have HO917 := n0_; have HO920 := n1_; have BK912 := n2_; have HB := n3_; clear n0_ n1_ n2_ n3_; (try clear hb); (try clear hb2); (try clear hk); (try clear hi); (try clear ho0); have hcz21_0 : w20.cell? ⟨gb912, 0, none⟩ = some (.int .i64 a0_0) := (Zak BK912.out 0).trans rfl; have hcz21_1 : w20.cell? ⟨gb912, 1, none⟩ = some (.slice A0_1 l0_1.length c0_1) := (Zak BK912.out 1).trans rfl; have hfz21_0 := Zan BK912.out 0; have hfz21_1 := Zan BK912.out 1) | ((with_reducible refine Zaw (f := 13) rfl ?_); refine goesL_ (some 32) rfl rfl Try.func13 (by kernel_rfl) rfl #[.agg #[.int .i64 a0_0, .slice A0_1 l0_1.length c0_1]] rfl (by (try simp only [List.map_toArray, List.map_cons, List.map_nil]); first | done | rfl | (simp only [List.length_drop, List.length_take]; rfl)) ?_; (with_reducible refine (laws_toValues.calls k a0_0 _ _ l0_1 t922 t923 _ ?side1 ?side2 A11.out).mono ?_); (case side1 => repeat (first | exact (Kd.C_below HR0_1.out HB.out) | (with_reducible refine Kd.C_alloc ?_ _) | (with_reducible refine Kd.C_drewN ?_ _) | (with_reducible refine Kd.C_drew ?_))); (case side2 => exact HC0_1.out); rintro e w22 ⟨v924, rfl, ho0, hb⟩; refine ⟨_, rfl, ?_⟩; have n0_ := Zac.mk (Kd.R_elder' (by (with_reducible repeat (first | apply Kd.R_alloc | apply Kd.R_drewN | apply Kd.R_drew)); exact HO917.out) (Kd.R_base ho0) hb); have n1_ := Zac.mk (Kd.R_elder' (by (with_reducible repeat (first | apply Kd.R_alloc | apply Kd.R_drewN | apply Kd.R_drew)); exact HO920.out) (Kd.R_base ho0) hb); have n2_ := Zac.mk (Kd.R_lower (Kd.R_new' (Kd.R_new' ho0 (Kd.R_lt (by (with_reducible repeat (first | apply Kd.R_alloc | apply Kd.R_drewN | apply Kd.R_drew)); exact HO917.out))) (Kd.R_lt (by (with_reducible repeat (first | apply Kd.R_alloc | apply Kd.R_drewN | apply Kd.R_drew)); exact HO920.out))) (Zap (by repeat (first | (with_reducible first | exact HB.out | apply Zae | apply Zab | apply Zad | refine Zaf ?_ GE912.out) | exact HB.out)))); have n3_ := Zac.mk (Zat (g := gb912) (o := .cells #[.int .i64 a0_0, .slice A0_1 l0_1.length c0_1] 24 (0, 0)) (by (with_reducible repeat (first | refine Zah ?_ _ | refine Zai ?_ | refine Zag ?_ _)); exact BK912.out) hb); have n4_ := Zac.mk (Zas (by repeat (first | (with_reducible first | exact HB.out | apply Zae | apply Zab | apply Zad | refine Zaf ?_ GE912.out) | exact HB.out)) hb); clear HO917; clear HO920; clear BK912; clear HB; have HO917 := n0_; have HO920 := n1_; have HO925 := n2_; have BK912 := n3_; have HB := n4_; clear n0_ n1_ n2_ n3_ n4_; (try clear hb); (try clear hb2); (try clear hk); (try clear hi); (try clear ho0)) | ((with_reducible refine gate_dst (N := 10) rfl ?_); refine box_event ?hg (N := 10) ?hd (cs := #[.int .i64 0, .slice none 0 0]) (t := 28) ?hr ?_; (case hd => rfl); (case hg => rfl); (case hr => first | (go_simp; done) | (go_simp; rfl)); intro gb926 hg w23 hbox hb; have n0_ := Zac.mk (Kd.R_below (by (with_reducible repeat (first | apply Kd.R_alloc | apply Kd.R_drewN | apply Kd.R_drew)); exact HO917.out) hb); have n1_ := Zac.mk (Kd.R_below (by (with_reducible repeat (first | apply Kd.R_alloc | apply Kd.R_drewN | apply Kd.R_drew)); exact HO920.out) hb); have n2_ := Zac.mk (Kd.R_below (by (with_reducible repeat (first | apply Kd.R_alloc | apply Kd.R_drewN | apply Kd.R_drew)); exact HO925.out) hb); have n3_ := Zac.mk (Zat (g := gb912) (o := .cells #[.int .i64 a0_0, .slice A0_1 l0_1.length c0_1] 24 (0, 0)) (by (with_reducible repeat (first | refine Zah ?_ _ | refine Zai ?_ | refine Zag ?_ _)); exact BK912.out) hb); have n4_ := Zac.mk (Zas (by repeat (first | (with_reducible first | exact HB.out | apply Zae | apply Zab | apply Zad | refine Zaf ?_ GE912.out) | exact HB.out)) hb); have n5_ := Zac.mk (hbox); have n6_ := Zac.mk ((by rw [hg]; exact (Zap (by repeat (first | (with_reducible first | exact HB.out | apply Zae | apply Zab | apply Zad | refine Zaf ?_ GE912.out) | exact HB.out))) : w.heap.size ≤ gb926)); have n7_ := Zac.mk ((by rw [hg]; exact (Zap (by repeat (first | (with_reducible first | exact HB.out | apply Zae | apply Zab | apply Zad | refine Zaf ?_ GE912.out) | exact HB.out))) : w.heap.size ≤ gb926)); have n8_ := Zac.mk ((by rw [hg]; exact Nat.ne_of_lt (blk_lt (g := gb912) (o := .cells #[.int .i64 a0_0, .slice A0_1 l0_1.length c0_1] 24 (0, 0)) (by (with_reducible repeat (first | refine Zah ?_ _ | refine Zai ?_ | refine Zag ?_ _)); exact BK912.out)) : gb912 ≠ gb926)); have n9_ := Zac.mk ((by rw [hg]; exact Nat.ne_of_gt (blk_lt (g := gb912) (o := .cells #[.int .i64 a0_0, .slice A0_1 l0_1.length c0_1] 24 (0, 0)) (by (with_reducible repeat (first | refine Zah ?_ _ | refine Zai ?_ | refine Zag ?_ _)); exact BK912.out)) : gb926 ≠ gb912)); clear HO917; clear HO920; clear HO925; clear BK912; clear HB; have HO917 := n0_; have HO920 := n1_; have HO925 := n2_; have BK912 := n3_; have HB := n4_; have BK926 := n5_; have GW926 := n6_; have GE926 := n7_; have NB912_926 := n8_; have NB926_912 := n9_; clear n0_ n1_ n2_ n3_ n4_ n5_ n6_ n7_ n8_ n9_; clear hb hbox hg; have hnb24 := NB926_912.out; have hnc24 := NB912_926.out; have hcz25_0 : w23.cell? ⟨gb926, 0, none⟩ = some (.int .i64 0) := (Zak BK926.out 0).trans rfl; have hcz25_1 : w23.cell? ⟨gb926, 1, none⟩ = some (.slice none 0 0) := (Zak BK926.out 1).trans rfl; have hfz25_0 := Zan BK926.out 0; have hfz25_1 := Zan BK926.out 1; obtain ⟨Ao26, co26, eo26⟩ := Kd.R_slice HO925.out; subst eo26) | ((with_reducible refine Zaw (f := 44) rfl ?_); refine goesL_ (some 37) rfl rfl Try.func44 (by kernel_rfl) rfl #[.agg #[.int .i64 t922, .slice Ao26 t923.length co26], .int .i64 a1, .int .i64 a2] rfl (by (try simp only [List.map_toArray, List.map_cons, List.map_nil]); first | done | rfl | (simp only [List.length_drop, List.length_take]; rfl)) ?_; (with_reducible refine (Za7.calls k t922 _ _ t923 a1 a2 t927 t930 _ ?side1 ?side2 A12.out).mono ?_); (case side1 => refine (Kd.R_reads' (e := 2) (base := w.heap.size) (ok := fun k_ => ((True ∧ some k_ ≠ (.slice Ao19 t915.length co19 : Value).ownBlock) ∧ some k_ ≠ (v919 : Value).ownBlock)) (n := t923.length) (c := co26) ?_).2.2; exact (by (with_reducible repeat (first | apply Kd.R_alloc | apply Kd.R_drewN | apply Kd.R_drew)); exact (Kd.R_mono (Kd.R_far (p := ⟨gb926, 1, none⟩) (Kd.R_far (p := ⟨gb926, 0, none⟩) (Kd.R_types HO925.out BK926.out (by decide)) (fun _ hk => hk.2) (.int .i64 t922)) (fun _ hk => hk.2) (.slice Ao26 t923.length co26)) (fun _ h_ => h_.1)))); (case side2 => exact (Kd.R_reads' HO925.out).2.1); rintro e w27 ⟨v928, rfl, ho0, hb⟩; refine ⟨_, rfl, ?_⟩; have n0_ := Zac.mk (Kd.R_elder' (by (with_reducible repeat (first | apply Kd.R_alloc | apply Kd.R_drewN | apply Kd.R_drew)); exact (Kd.R_mono (Kd.R_far (p := ⟨gb926, 1, none⟩) (Kd.R_far (p := ⟨gb926, 0, none⟩) (Kd.R_types HO917.out BK926.out (by decide)) (fun _ hk => hk.2) (.int .i64 t922)) (fun _ hk => hk.2) (.slice Ao26 t923.length co26)) (fun _ h_ => h_.1))) (Kd.R_base ho0) hb); have n1_ := Zac.mk (Kd.R_elder' (by (with_reducible repeat (first | apply Kd.R_alloc | apply Kd.R_drewN | apply Kd.R_drew)); exact (Kd.R_mono (Kd.R_far (p := ⟨gb926, 1, none⟩) (Kd.R_far (p := ⟨gb926, 0, none⟩) (Kd.R_types HO920.out BK926.out (by decide)) (fun _ hk => hk.2) (.int .i64 t922)) (fun _ hk => hk.2) (.slice Ao26 t923.length co26)) (fun _ h_ => h_.1))) (Kd.R_base ho0) hb); have n2_ := Zac.mk (Kd.R_elder' (by (with_reducible repeat (first | apply Kd.R_alloc | apply Kd.R_drewN | apply Kd.R_drew)); exact (Kd.R_mono (Kd.R_far (p := ⟨gb926, 1, none⟩) (Kd.R_far (p := ⟨gb926, 0, none⟩) (Kd.R_types HO925.out BK926.out (by decide)) (fun _ hk => hk.2) (.int .i64 t922)) (fun _ hk => hk.2) (.slice Ao26 t923.length co26)) (fun _ h_ => h_.1))) (Kd.R_base ho0) hb); have n3_ := Zac.mk (Kd.R_lower (Kd.R_new' (Kd.R_new' (Kd.R_new' ho0 (Kd.R_lt (by (with_reducible repeat (first | apply Kd.R_alloc | apply Kd.R_drewN | apply Kd.R_drew)); exact (Kd.R_mono (Kd.R_far (p := ⟨gb926, 1, none⟩) (Kd.R_far (p := ⟨gb926, 0, none⟩) (Kd.R_types HO917.out BK926.out (by decide)) (fun _ hk => hk.2) (.int .i64 t922)) (fun _ hk => hk.2) (.slice Ao26 t923.length co26)) (fun _ h_ => h_.1))))) (Kd.R_lt (by (with_reducible repeat (first | apply Kd.R_alloc | apply Kd.R_drewN | apply Kd.R_drew)); exact (Kd.R_mono (Kd.R_far (p := ⟨gb926, 1, none⟩) (Kd.R_far (p := ⟨gb926, 0, none⟩) (Kd.R_types HO920.out BK926.out (by decide)) (fun _ hk => hk.2) (.int .i64 t922)) (fun _ hk => hk.2) (.slice Ao26 t923.length co26)) (fun _ h_ => h_.1))))) (Kd.R_lt (by (with_reducible repeat (first | apply Kd.R_alloc | apply Kd.R_drewN | apply Kd.R_drew)); exact (Kd.R_mono (Kd.R_far (p := ⟨gb926, 1, none⟩) (Kd.R_far (p := ⟨gb926, 0, none⟩) (Kd.R_types HO925.out BK926.out (by decide)) (fun _ hk => hk.2) (.int .i64 t922)) (fun _ hk => hk.2) (.slice Ao26 t923.length co26)) (fun _ h_ => h_.1))))) (Zap (by repeat (first | (with_reducible first | exact HB.out | apply Zae | apply Zab | apply Zad | refine Zaf ?_ GE912.out | refine Zaf ?_ GE926.out) | exact HB.out)))); have n4_ := Zac.mk (Zat (g := gb912) (o := .cells #[.int .i64 a0_0, .slice A0_1 l0_1.length c0_1] 24 (0, 0)) (by (with_reducible repeat (first | refine Zah ?_ _ | refine Zai ?_ | refine Zag ?_ _)); refine blk_far ?_ NB912_926.out _; (with_reducible repeat (first | refine Zah ?_ _ | refine Zai ?_ | refine Zag ?_ _)); refine blk_far ?_ NB912_926.out _; (with_reducible repeat (first | refine Zah ?_ _ | refine Zai ?_ | refine Zag ?_ _)); exact BK912.out) hb); have n5_ := Zac.mk (Zat (g := gb926) (o := .cells #[.int .i64 t922, .slice Ao26 t923.length co26] 28 (0, 0)) (by (with_reducible repeat (first | refine Zah ?_ _ | refine Zai ?_ | refine Zag ?_ _)); refine blk_put (cs := #[.int .i64 t922, .slice none 0 0]) ?_ 1 _ rfl; (with_reducible repeat (first | refine Zah ?_ _ | refine Zai ?_ | refine Zag ?_ _)); refine blk_put (cs := #[.int .i64 0, .slice none 0 0]) ?_ 0 _ rfl; (with_reducible repeat (first | refine Zah ?_ _ | refine Zai ?_ | refine Zag ?_ _)); exact BK926.out) hb); have n6_ := Zac.mk (Zas (by repeat (first | (with_reducible first | exact HB.out | apply Zae | apply Zab | apply Zad | refine Zaf ?_ GE912.out | refine Zaf ?_ GE926.out) | exact HB.out)) hb); clear HO917; clear HO920; clear HO925; clear BK912; clear BK926; clear HB; have HO917 := n0_; have HO920 := n1_; have HO925 := n2_; have HO929 := n3_; have BK912 := n4_; have BK926 := n5_; have HB := n6_; clear n0_ n1_ n2_ n3_ n4_ n5_ n6_; (try clear hb); (try clear hb2); (try clear hk); (try clear hi); (try clear ho0)))
  (try simp only [Act.put, List.setIfInBounds_toArray, List.set_cons_zero, List.set_cons_succ])
  go_cut [48] (fun v48 wc => ∃ (kq : Nat) (x48_12 : Bool), v48 = .bool x48_12 ∧ Zac (laws_FnExactBestRounding.j0 kq a1 a2 t918 t921 t927 t930 x48_12 a0_0 l0_1 t922 t923 = some r) ∧ Zac (kq ≤ k) ∧ Zac (Kd.R (Kd.int .i64) 2 wc w.heap.size (fun k_ => some k_ ≠ (v928 : Value).ownBlock ∧ some k_ ≠ ((.slice Ao26 t923.length co26) : Value).ownBlock) v919 t918) ∧ Zac (Kd.R (Kd.int .i64) 2 wc w.heap.size (fun k_ => some k_ ≠ (v919 : Value).ownBlock ∧ some k_ ≠ ((.slice Ao26 t923.length co26) : Value).ownBlock) v928 t927) ∧ Zac (Kd.R (Kd.int .i64) 2 wc w.heap.size (fun k_ => some k_ ≠ (v919 : Value).ownBlock ∧ some k_ ≠ (v928 : Value).ownBlock) (.slice Ao26 t923.length co26) t923) ∧ Zac (wc.heap[gb912]? = some (.cells #[.int .i64 a0_0, (.slice A0_1 l0_1.length c0_1)] 24 (0, 0))) ∧ Zac (wc.heap[gb926]? = some (.cells #[.int .i64 t922, (.slice Ao26 t923.length co26)] 28 (0, 0))) ∧ Zac (Below w.heap.size w wc))
  case first =>
   have H := HC13.out
   clear HC13
   replace H := Option.bind_eq_some_iff.mp H
   obtain ⟨t931, A280, H⟩ := H
   replace H : (if t931 = true then (laws_FnExactBestRounding.j0 k a1 a2 t918 t921 t927 t930 (t930 != t921) a0_0 l0_1 t922 t923) else (laws_FnExactBestRounding.j0 k a1 a2 t918 t921 t927 t930 true a0_0 l0_1 t922 t923)) = some r := H
   have A28 := Zac.mk A280
   clear A280
   by_cases c29 : t931 = true
   ·subst c29
    have H1 : (laws_FnExactBestRounding.j0 k a1 a2 t918 t921 t927 t930 (t930 != t921) a0_0 l0_1 t922 t923) = some r := by rw [if_pos rfl] at H; exact H
    clear H
    have H := H1
    clear H1
    have H' := Zac.mk H
    clear H
    obtain ⟨Ao30, co30, eo30⟩ := Kd.R_slice HO929.out
    subst eo30
    obtain ⟨Ao31, co31, eo31⟩ := Kd.R_slice HO920.out
    subst eo31
    as_aux_lemma =>
     go_wp2_with (first | ((with_reducible refine Zaw (f := 15) rfl ?_); refine goesL_ (some 42) rfl rfl Try.func15 (by kernel_rfl) rfl #[.slice Ao30 t927.length co30, .slice Ao31 t918.length co31] rfl (by (try simp only [List.map_toArray, List.map_cons, List.map_nil]); first | done | rfl | (simp only [List.length_drop, List.length_take]; rfl)) ?_; (with_reducible refine (Za4.calls k _ _ t927 _ _ t918 true _ ?side1 ?side2 ?side3 ?side4 A28.out).mono ?_); (case side1 => repeat (first | exact (Kd.R_reads' HO929.out).2.2 | (with_reducible refine Kd.C_alloc ?_ _) | (with_reducible refine Kd.C_drewN ?_ _) | (with_reducible refine Kd.C_drew ?_))); (case side2 => exact (Kd.R_reads' HO929.out).2.1); (case side3 => repeat (first | exact (Kd.R_reads' HO920.out).2.2 | (with_reducible refine Kd.C_alloc ?_ _) | (with_reducible refine Kd.C_drewN ?_ _) | (with_reducible refine Kd.C_drew ?_))); (case side4 => exact (Kd.R_reads' HO920.out).2.1); rintro e w' ⟨rfl, ⟨nd, rfl⟩⟩; refine ⟨_, rfl, ?_⟩))
     go_meet
     case rel => exact ⟨_, ((t930 != t921)), (by first | rfl | (simp; done) | (simp [*]; done) | (simp [IntWalk.i64_left, *]; done)), H', ⟨by first | omega | exact Nat.le_refl _⟩, ⟨by (with_reducible repeat (first | apply Kd.R_alloc | apply Kd.R_drewN | apply Kd.R_drew)); exact Kd.R_mono HO920.out (fun _ hk => ⟨hk.2, hk.1.2⟩)⟩, ⟨by (with_reducible repeat (first | apply Kd.R_alloc | apply Kd.R_drewN | apply Kd.R_drew)); exact Kd.R_mono HO929.out (fun _ hk => ⟨hk.1.2, hk.2⟩)⟩, ⟨by (with_reducible repeat (first | apply Kd.R_alloc | apply Kd.R_drewN | apply Kd.R_drew)); exact Kd.R_mono HO925.out (fun _ hk => ⟨hk.1.2, hk.2⟩)⟩, ⟨by (with_reducible repeat (first | refine Zah ?_ _ | refine Zai ?_ | refine Zag ?_ _)); exact BK912.out⟩, ⟨by (with_reducible repeat (first | refine Zah ?_ _ | refine Zai ?_ | refine Zag ?_ _)); exact BK926.out⟩, ⟨by repeat (first | (with_reducible first | exact HB.out | apply Zae | apply Zab | apply Zad | refine Zaf ?_ GE912.out | refine Zaf ?_ GE926.out) | exact HB.out)⟩⟩
   ·replace c29 := Bool.eq_false_iff.mpr c29
    subst c29
    have H1 : (laws_FnExactBestRounding.j0 k a1 a2 t918 t921 t927 t930 true a0_0 l0_1 t922 t923) = some r := by rw [if_neg (show ¬ (false = true) by decide)] at H; exact H
    clear H
    have H := H1
    clear H1
    have H' := Zac.mk H
    clear H
    obtain ⟨Ao32, co32, eo32⟩ := Kd.R_slice HO929.out
    subst eo32
    obtain ⟨Ao33, co33, eo33⟩ := Kd.R_slice HO920.out
    subst eo33
    as_aux_lemma =>
     go_wp2_with (first | ((with_reducible refine Zaw (f := 15) rfl ?_); refine goesL_ (some 42) rfl rfl Try.func15 (by kernel_rfl) rfl #[.slice Ao32 t927.length co32, .slice Ao33 t918.length co33] rfl (by (try simp only [List.map_toArray, List.map_cons, List.map_nil]); first | done | rfl | (simp only [List.length_drop, List.length_take]; rfl)) ?_; (with_reducible refine (Za4.calls k _ _ t927 _ _ t918 false _ ?side1 ?side2 ?side3 ?side4 A28.out).mono ?_); (case side1 => repeat (first | exact (Kd.R_reads' HO929.out).2.2 | (with_reducible refine Kd.C_alloc ?_ _) | (with_reducible refine Kd.C_drewN ?_ _) | (with_reducible refine Kd.C_drew ?_))); (case side2 => exact (Kd.R_reads' HO929.out).2.1); (case side3 => repeat (first | exact (Kd.R_reads' HO920.out).2.2 | (with_reducible refine Kd.C_alloc ?_ _) | (with_reducible refine Kd.C_drewN ?_ _) | (with_reducible refine Kd.C_drew ?_))); (case side4 => exact (Kd.R_reads' HO920.out).2.1); rintro e w' ⟨rfl, ⟨nd, rfl⟩⟩; refine ⟨_, rfl, ?_⟩))
     go_meet
     case rel => exact ⟨_, (true), (by first | rfl | (simp; done) | (simp [*]; done) | (simp [IntWalk.i64_left, *]; done)), H', ⟨by first | omega | exact Nat.le_refl _⟩, ⟨by (with_reducible repeat (first | apply Kd.R_alloc | apply Kd.R_drewN | apply Kd.R_drew)); exact Kd.R_mono HO920.out (fun _ hk => ⟨hk.2, hk.1.2⟩)⟩, ⟨by (with_reducible repeat (first | apply Kd.R_alloc | apply Kd.R_drewN | apply Kd.R_drew)); exact Kd.R_mono HO929.out (fun _ hk => ⟨hk.1.2, hk.2⟩)⟩, ⟨by (with_reducible repeat (first | apply Kd.R_alloc | apply Kd.R_drewN | apply Kd.R_drew)); exact Kd.R_mono HO925.out (fun _ hk => ⟨hk.1.2, hk.2⟩)⟩, ⟨by (with_reducible repeat (first | refine Zah ?_ _ | refine Zai ?_ | refine Zag ?_ _)); exact BK912.out⟩, ⟨by (with_reducible repeat (first | refine Zah ?_ _ | refine Zai ?_ | refine Zag ?_ _)); exact BK926.out⟩, ⟨by repeat (first | (with_reducible first | exact HB.out | apply Zae | apply Zab | apply Zad | refine Zaf ?_ GE912.out | refine Zaf ?_ GE926.out) | exact HB.out)⟩⟩
  case rest =>
   clear HC13
   try clear c1
   try clear c2
   try clear p2
   try clear c4
   try clear c5
   try clear c5b0
   try clear c10
   try clear c11
   try clear c13
   try clear c15
   try clear c24
   try clear c29
   try clear hcz15_0
   try clear hcz15_1
   try clear hcz17_0
   try clear hcz17_1
   try clear hcz21_0
   try clear hcz21_1
   try clear hcz25_0
   try clear hcz25_1
   try clear hcz7_0
   try clear hcz7_1
   try clear hfz15_0
   try clear hfz15_1
   try clear hfz17_0
   try clear hfz17_1
   try clear hfz21_0
   try clear hfz21_1
   try clear hfz25_0
   try clear hfz25_1
   try clear hfz7_0
   try clear hfz7_1
   obtain ⟨kq, x48_12, rfl, HA, HJ12, HO_8, HO_11, HO_927001, BK912, BK926, HB⟩ := hcut
   cases kq with
   | zero => exact absurd HA.out (by simp [laws_FnExactBestRounding.j0])
   | succ kj12 =>
    have H := HA.out
    clear HA
    simp only [laws_FnExactBestRounding.j0] at H
    by_cases c34 : x48_12 = true
    ·subst c34
     have H1 : (some false) = some r := by rw [if_pos rfl] at H; exact H
     clear H
     have H := H1
     clear H1
     obtain rfl := Option.some.inj H
     as_aux_lemma =>
      go_wp2
      go_ret
      exact ⟨by first | rfl | (simp [Zaq, Zar] <;> rfl) | (simp [*, Zaq, Zar] <;> rfl), by repeat (first | (with_reducible first | exact HB.out | apply Zae | apply Zab | apply Zad | refine Zaf ?_ GE912.out | refine Zaf ?_ GE926.out) | exact HB.out)⟩
    ·replace c34 := Bool.eq_false_iff.mpr c34
     subst c34
     have H1 : ((laws_toValues.f kj12 a0_0 l0_1).bind fun bt932 => ((laws_eqValues.f kj12 t922 t923 bt932.1 bt932.2).bind fun t936 => (if t936 = true then ((laws_markValues.f kj12 t922 t923 1).bind fun bt937 => (if bt937.1 < 0 then (laws_FnExactBestRounding.j1 kj12 a1 a2 t918 t921 t927 true a0_0 l0_1) else ((Za4.f kj12 t927 t918).bind fun t939 => (if t939 = true then (laws_FnExactBestRounding.j1 kj12 a1 a2 t918 t921 t927 (t930 != t921) a0_0 l0_1) else (laws_FnExactBestRounding.j1 kj12 a1 a2 t918 t921 t927 true a0_0 l0_1))))) else (some false)))) = some r := by rw [if_neg (show ¬ (false = true) by decide)] at H; exact H
     clear H
     have H := H1
     clear H1
     replace H := Option.bind_eq_some_iff.mp H
     obtain ⟨⟨t932, t933⟩, A350, H⟩ := H
     replace H : ((laws_eqValues.f kj12 t922 t923 t932 t933).bind fun t936 => (if t936 = true then ((laws_markValues.f kj12 t922 t923 1).bind fun bt937 => (if bt937.1 < 0 then (laws_FnExactBestRounding.j1 kj12 a1 a2 t918 t921 t927 true a0_0 l0_1) else ((Za4.f kj12 t927 t918).bind fun t939 => (if t939 = true then (laws_FnExactBestRounding.j1 kj12 a1 a2 t918 t921 t927 (t930 != t921) a0_0 l0_1) else (laws_FnExactBestRounding.j1 kj12 a1 a2 t918 t921 t927 true a0_0 l0_1))))) else (some false))) = some r := H
     have A35 := Zac.mk A350
     clear A350
     replace H := Option.bind_eq_some_iff.mp H
     obtain ⟨t936, A360, H⟩ := H
     replace H : (if t936 = true then ((laws_markValues.f kj12 t922 t923 1).bind fun bt937 => (if bt937.1 < 0 then (laws_FnExactBestRounding.j1 kj12 a1 a2 t918 t921 t927 true a0_0 l0_1) else ((Za4.f kj12 t927 t918).bind fun t939 => (if t939 = true then (laws_FnExactBestRounding.j1 kj12 a1 a2 t918 t921 t927 (t930 != t921) a0_0 l0_1) else (laws_FnExactBestRounding.j1 kj12 a1 a2 t918 t921 t927 true a0_0 l0_1))))) else (some false)) = some r := H
     have A36 := Zac.mk A360
     clear A360
     by_cases c37 : t936 = true
     ·subst c37
      have H1 : ((laws_markValues.f kj12 t922 t923 1).bind fun bt937 => (if bt937.1 < 0 then (laws_FnExactBestRounding.j1 kj12 a1 a2 t918 t921 t927 true a0_0 l0_1) else ((Za4.f kj12 t927 t918).bind fun t939 => (if t939 = true then (laws_FnExactBestRounding.j1 kj12 a1 a2 t918 t921 t927 (t930 != t921) a0_0 l0_1) else (laws_FnExactBestRounding.j1 kj12 a1 a2 t918 t921 t927 true a0_0 l0_1))))) = some r := by rw [if_pos rfl] at H; exact H
      clear H
      have H := H1
      clear H1
      replace H := Option.bind_eq_some_iff.mp H
      obtain ⟨⟨t937, t938⟩, A380, H⟩ := H
      replace H : (if t937 < 0 then (laws_FnExactBestRounding.j1 kj12 a1 a2 t918 t921 t927 true a0_0 l0_1) else ((Za4.f kj12 t927 t918).bind fun t939 => (if t939 = true then (laws_FnExactBestRounding.j1 kj12 a1 a2 t918 t921 t927 (t930 != t921) a0_0 l0_1) else (laws_FnExactBestRounding.j1 kj12 a1 a2 t918 t921 t927 true a0_0 l0_1)))) = some r := H
      have A38 := Zac.mk A380
      clear A380
      have HC39 := Zac.mk H
      clear H
      try go_wp2
      have n0_ := Zac.mk (Kd.R_drew HO_8.out)
      have n1_ := Zac.mk (Kd.R_drew HO_11.out)
      have n2_ := Zac.mk (Kd.R_drew HO_927001.out)
      have n3_ := Zac.mk (Zai BK912.out)
      have n4_ := Zac.mk (Zai BK926.out)
      have n5_ := Zac.mk (Zad HB.out)
      clear HO_8
      clear HO_11
      clear HO_927001
      clear BK912
      clear BK926
      clear HB
      have HO_8 := n0_
      have HO_11 := n1_
      have HO_927001 := n2_
      have BK912 := n3_
      have BK926 := n4_
      have HB := n5_
      clear n0_ n1_ n2_ n3_ n4_ n5_
      refine start_ (n := 5) (S := fun w' => w'.cell? ⟨gb926, 0, none⟩ = some (.int .i64 t922) ∧ w'.cell? ⟨gb926, 1, none⟩ = some (.slice Ao26 t923.length co26) ∧ w'.cell? ⟨gb912, 0, none⟩ = some (.int .i64 a0_0) ∧ w'.cell? ⟨gb912, 1, none⟩ = some (.slice A0_1 l0_1.length c0_1)) (ds := []) #[false, false, false, false, false] (by kernel_rfl) rfl rfl ⟨(Zak BK926.out 0).trans rfl, (Zak BK926.out 1).trans rfl, (Zak BK912.out 0).trans rfl, (Zak BK912.out 1).trans rfl⟩ (fun hHeld => ?_)
      generalize wc.drew = w40 at HO_8 HO_11 HO_927001 BK912 BK926 HB hHeld ⊢
      refine take_ (i := 0) (N := some 49) (v := ?_) (a' := ?_) #[true, false, false, false, false] rfl rfl (by kernel_rfl) (fun _ _ _ h => h) (Or.inl ⟨by rfl, ?_⟩) hHeld ?_ ?_
      rotate_left
      ·rintro w' ⟨s0, s1, s2, s3⟩
       go_simp
       with_reducible rfl
      rotate_left
      ·simp only [Act.put, ZA, ZB, ZC, i64_w, i32_w]
       rfl
      refine take_ (i := 1) (N := some 50) (v := ?_) (a' := ?_) #[true, true, false, false, false] rfl rfl (by kernel_rfl) (fun _ _ _ h => h) (Or.inl ⟨by rfl, ?_⟩) hHeld ?_ ?_
      rotate_left
      ·rintro w' ⟨s0, s1, s2, s3⟩
       go_simp
       with_reducible rfl
      rotate_left
      ·simp only [Act.put, ZA, ZB, ZC, i64_w, i32_w]
       rfl
      refine one_ (i := 2) (N := some 51) #[true, true, true, false, false] rfl rfl (by kernel_rfl) (by decide) (fun K hK => ?_)
      refine goes_ Try.func13 (by kernel_rfl) rfl #[.agg #[.int .i64 a0_0, .slice A0_1 l0_1.length c0_1]] (by rfl) rfl rfl (by (try simp only [List.map_toArray, List.map_cons, List.map_nil]); first | done | rfl | (simp only [List.length_drop, List.length_take]; rfl)) ?_
      with_reducible refine (laws_toValues.calls kj12 a0_0 _ _ l0_1 t932 t933 _ ?side1 ?side2 A35.out).mono ?_
      (case side1 => repeat (first | exact (Kd.C_below HR0_1.out HB.out) | (with_reducible refine Kd.C_alloc ?_ _) | (with_reducible refine Kd.C_drewN ?_ _) | (with_reducible refine Kd.C_drew ?_)))
      (case side2 => exact HC0_1.out)
      rintro e w41 ⟨v934, rfl, ho0, hb⟩
      refine ⟨_, rfl, ?_⟩
      have n0_ := Zac.mk (Kd.R_elder' (by (with_reducible repeat (first | apply Kd.R_alloc | apply Kd.R_drewN | apply Kd.R_drew)); exact HO_8.out) (Kd.R_base ho0) hb)
      have n1_ := Zac.mk (Kd.R_elder' (by (with_reducible repeat (first | apply Kd.R_alloc | apply Kd.R_drewN | apply Kd.R_drew)); exact HO_11.out) (Kd.R_base ho0) hb)
      have n2_ := Zac.mk (Kd.R_elder' (by (with_reducible repeat (first | apply Kd.R_alloc | apply Kd.R_drewN | apply Kd.R_drew)); exact HO_927001.out) (Kd.R_base ho0) hb)
      have n3_ := Zac.mk (Kd.R_lower (Kd.R_new' (Kd.R_new' (Kd.R_new' ho0 (Kd.R_lt (by (with_reducible repeat (first | apply Kd.R_alloc | apply Kd.R_drewN | apply Kd.R_drew)); exact HO_8.out))) (Kd.R_lt (by (with_reducible repeat (first | apply Kd.R_alloc | apply Kd.R_drewN | apply Kd.R_drew)); exact HO_11.out))) (Kd.R_lt (by (with_reducible repeat (first | apply Kd.R_alloc | apply Kd.R_drewN | apply Kd.R_drew)); exact HO_927001.out))) (Zap (by repeat (first | (with_reducible first | exact HB.out | apply Zae | apply Zab | apply Zad | refine Zaf ?_ GE912.out | refine Zaf ?_ GE926.out) | exact HB.out))))
      have n4_ := Zac.mk (Zat (g := gb912) (o := .cells #[.int .i64 a0_0, .slice A0_1 l0_1.length c0_1] 24 (0, 0)) (by (with_reducible repeat (first | refine Zah ?_ _ | refine Zai ?_ | refine Zag ?_ _)); exact BK912.out) hb)
      have n5_ := Zac.mk (Zat (g := gb926) (o := .cells #[.int .i64 t922, .slice Ao26 t923.length co26] 28 (0, 0)) (by (with_reducible repeat (first | refine Zah ?_ _ | refine Zai ?_ | refine Zag ?_ _)); exact BK926.out) hb)
      have n6_ := Zac.mk (Zas (by repeat (first | (with_reducible first | exact HB.out | apply Zae | apply Zab | apply Zad | refine Zaf ?_ GE912.out | refine Zaf ?_ GE926.out) | exact HB.out)) hb)
      clear HO_8
      clear HO_11
      clear HO_927001
      clear BK912
      clear BK926
      clear HB
      have HO_8 := n0_
      have HO_11 := n1_
      have HO_927001 := n2_
      have HO935 := n3_
      have BK912 := n4_
      have BK926 := n5_
      have HB := n6_
      clear n0_ n1_ n2_ n3_ n4_ n5_ n6_
      (try clear hb)
      (try clear hb2)
      (try clear hk)
      (try clear hi)
      (try clear ho0)
      obtain ⟨Ao42, co42, eo42⟩ := Kd.R_slice HO935.out
      (first | subst eo42 | (injection eo42 with f1_ f2_ f3_; have f4_ := f1_.symm; have f5_ := f3_.symm; clear f1_ f2_ f3_; subst f4_; subst f5_))
      refine hK.out _ _ ⟨(Zak BK926.out 0).trans rfl, (Zak BK926.out 1).trans rfl, (Zak BK912.out 0).trans rfl, (Zak BK912.out 1).trans rfl⟩ (fun hHeld => ?_)
      clear hK K
      refine norm_ (a' := ?_) ?_ ?_
      rotate_left
      ·show Act.put _ (some 51) _ = _
       simp only [Act.put, ZA, ZB, ZC, i64_w, i32_w]
       rfl
      refine one_ (i := 3) (N := some 52) #[true, true, true, true, false] rfl rfl (by kernel_rfl) (by decide) (fun K hK => ?_)
      refine goes_ Try.func16 (by kernel_rfl) rfl #[.agg #[.int .i64 t922, .slice Ao26 t923.length co26], .agg #[.int .i64 t932, .slice Ao42 t933.length co42]] (by rfl) rfl rfl (by (try simp only [List.map_toArray, List.map_cons, List.map_nil]); first | done | rfl | (simp only [List.length_drop, List.length_take]; rfl)) ?_
      with_reducible refine (laws_eqValues.calls kj12 t922 _ _ t923 t932 _ _ t933 true _ ?side1 ?side2 ?side3 ?side4 A36.out).mono ?_
      (case side1 => repeat (first | exact (Kd.R_reads' HO_927001.out).2.2 | (with_reducible refine Kd.C_alloc ?_ _) | (with_reducible refine Kd.C_drewN ?_ _) | (with_reducible refine Kd.C_drew ?_)))
      (case side2 => exact (Kd.R_reads' HO_927001.out).2.1)
      (case side3 => repeat (first | exact (Kd.R_reads' HO935.out).2.2 | (with_reducible refine Kd.C_alloc ?_ _) | (with_reducible refine Kd.C_drewN ?_ _) | (with_reducible refine Kd.C_drew ?_)))
      (case side4 => exact (Kd.R_reads' HO935.out).2.1)
      rintro e w43 ⟨rfl, hb⟩
      refine ⟨_, rfl, ?_⟩
      have n0_ := Zac.mk (Kd.R_below (by (with_reducible repeat (first | apply Kd.R_alloc | apply Kd.R_drewN | apply Kd.R_drew)); exact HO_8.out) hb)
      have n1_ := Zac.mk (Kd.R_below (by (with_reducible repeat (first | apply Kd.R_alloc | apply Kd.R_drewN | apply Kd.R_drew)); exact HO_11.out) hb)
      have n2_ := Zac.mk (Kd.R_below (by (with_reducible repeat (first | apply Kd.R_alloc | apply Kd.R_drewN | apply Kd.R_drew)); exact HO_927001.out) hb)
      have n3_ := Zac.mk (Kd.R_below (by (with_reducible repeat (first | apply Kd.R_alloc | apply Kd.R_drewN | apply Kd.R_drew)); exact HO935.out) hb)
      have n4_ := Zac.mk (Zat (g := gb912) (o := .cells #[.int .i64 a0_0, .slice A0_1 l0_1.length c0_1] 24 (0, 0)) (by (with_reducible repeat (first | refine Zah ?_ _ | refine Zai ?_ | refine Zag ?_ _)); exact BK912.out) hb)
      have n5_ := Zac.mk (Zat (g := gb926) (o := .cells #[.int .i64 t922, .slice Ao26 t923.length co26] 28 (0, 0)) (by (with_reducible repeat (first | refine Zah ?_ _ | refine Zai ?_ | refine Zag ?_ _)); exact BK926.out) hb)
      have n6_ := Zac.mk (Zas (by repeat (first | (with_reducible first | exact HB.out | apply Zae | apply Zab | apply Zad | refine Zaf ?_ GE912.out | refine Zaf ?_ GE926.out) | exact HB.out)) hb)
      clear HO_8
      clear HO_11
      clear HO_927001
      clear HO935
      clear BK912
      clear BK926
      clear HB
      have HO_8 := n0_
      have HO_11 := n1_
      have HO_927001 := n2_
      have HO935 := n3_
      have BK912 := n4_
      have BK926 := n5_
      have HB := n6_
      clear n0_ n1_ n2_ n3_ n4_ n5_ n6_
      (try clear hb)
      (try clear hb2)
      (try clear hk)
      (try clear hi)
      refine hK.out _ _ ⟨(Zak BK926.out 0).trans rfl, (Zak BK926.out 1).trans rfl, (Zak BK912.out 0).trans rfl, (Zak BK912.out 1).trans rfl⟩ (fun hHeld => ?_)
      clear hK K
      refine norm_ (a' := ?_) ?_ ?_
      rotate_left
      ·show Act.put _ (some 52) _ = _
       simp only [Act.put, ZA, ZB, ZC, i64_w, i32_w]
       rfl
      refine pure_ (i := 4) (N := some 53) (v := ?_) (a' := ?_) #[true, true, true, true, true] rfl rfl (by kernel_rfl) (fun _ _ _ h => h) (Or.inl ⟨by rfl, ?_⟩) ?_ ?_
      rotate_left
      ·intro w'
       go_simp
       with_reducible rfl
      rotate_left
      ·simp only [Act.put, ZA, ZB, ZC, i64_w, i32_w]
       rfl
      refine done_ (by kernel_rfl) ?_
      have hnb44 := NB926_912.out
      have hnc44 := NB912_926.out
      have hcz45_0 : w43.cell? ⟨gb926, 0, none⟩ = some (.int .i64 t922) := (Zak BK926.out 0).trans rfl
      have hcz45_1 : w43.cell? ⟨gb926, 1, none⟩ = some (.slice Ao26 t923.length co26) := (Zak BK926.out 1).trans rfl
      have hfz45_0 := Zan BK926.out 0
      have hfz45_1 := Zan BK926.out 1
      go_upto_region 14 with (first | ((with_reducible refine Zaw (f := 17) rfl ?_); refine goesL_ (some 56) rfl rfl Try.func17 (by kernel_rfl) rfl #[.agg #[.int .i64 t922, .slice Ao26 t923.length co26], .int .i64 1] rfl (by (try simp only [List.map_toArray, List.map_cons, List.map_nil]); first | done | rfl | (simp only [List.length_drop, List.length_take]; rfl)) ?_; (with_reducible refine (laws_markValues.calls kj12 t922 (fun k_ => some k_ = (.slice Ao26 t923.length co26 : Value).ownBlock) (.slice Ao26 t923.length co26) t923 1 t937 t938 w _ ?side1 ?side2 A38.out).mono ?_); (case side1 => repeat (first | (with_reducible first | exact HB.out | apply Zae | apply Zab | apply Zad | refine Zaf ?_ GE912.out | refine Zaf ?_ GE926.out) | exact HB.out)); (case side2 => exact Kd.R_tight rfl HO_927001.out); rintro e w46 ⟨rfl, hy0, hb, hkp⟩; refine ⟨_, rfl, ?_⟩; have n0_ := Zac.mk (Kd.R_mono (ok' := fun k_ => some k_ ≠ (v928 : Value).ownBlock ∧ some k_ ≠ (.slice Ao26 t923.length co26 : Value).ownBlock ∧ some k_ ≠ (.slice Ao42 t933.length co42 : Value).ownBlock) (Kd.R_keptB (HO_8.out) hkp (fun k_ hk_ hs_ => (hk_.1.2) hs_)) (fun k_ hk_ => ⟨hk_.1.1.1, hk_.1.1.2, hk_.1.2⟩)); have n1_ := Zac.mk (Kd.R_mono (ok' := fun k_ => some k_ ≠ (v919 : Value).ownBlock ∧ some k_ ≠ (.slice Ao26 t923.length co26 : Value).ownBlock ∧ some k_ ≠ (.slice Ao42 t933.length co42 : Value).ownBlock) (Kd.R_keptB (HO_11.out) hkp (fun k_ hk_ hs_ => (hk_.1.2) hs_)) (fun k_ hk_ => ⟨hk_.1.1.1, hk_.1.1.2, hk_.1.2⟩)); have n2_ := Zac.mk (Kd.R_reok rfl hy0 (fun k_ e_ => HO_927001.out.1 k_ e_)); have n3_ := Zac.mk (blk_kept (by (with_reducible repeat (first | refine Zah ?_ _ | refine Zai ?_ | refine Zag ?_ _)); exact BK912.out) hkp (fun hs_ => (fun e_ => (Kd.R_ne HO_927001.out BK912.out (by decide)) e_) hs_)); have n4_ := Zac.mk (blk_kept (by (with_reducible repeat (first | refine Zah ?_ _ | refine Zai ?_ | refine Zag ?_ _)); exact BK926.out) hkp (fun hs_ => (fun e_ => (Kd.R_ne HO_927001.out BK926.out (by decide)) e_) hs_)); have n5_ := Zac.mk (Kd.R_mono (ok' := fun k_ => some k_ ≠ (v919 : Value).ownBlock ∧ some k_ ≠ (v928 : Value).ownBlock ∧ some k_ ≠ (.slice Ao26 t923.length co26 : Value).ownBlock) (Kd.R_keptB (HO935.out) hkp (fun k_ hk_ hs_ => (hk_.2) hs_)) (fun k_ hk_ => ⟨hk_.1.1.1.2, hk_.1.1.2, hk_.1.2⟩)); have n6_ := Zac.mk (hb); clear HO_8; clear HO_11; clear HO_927001; clear BK912; clear BK926; clear HO935; clear HB; have HO_8 := n0_; have HO_11 := n1_; have HO_927001 := n2_; have BK912 := n3_; have BK926 := n4_; have HO935 := n5_; have HB := n6_; clear n0_ n1_ n2_ n3_ n4_ n5_ n6_; (try clear hb); (try clear hkp); (try clear hy0)))
      (try simp only [Act.put, List.setIfInBounds_toArray, List.set_cons_zero, List.set_cons_succ])
      go_cut [69] (fun v69 wc => ∃ (kq : Nat) (x69_38 : Bool), v69 = .bool x69_38 ∧ Zac (laws_FnExactBestRounding.j1 kq a1 a2 t918 t921 t927 x69_38 a0_0 l0_1 = some r) ∧ Zac (kq ≤ kj12) ∧ Zac (Kd.R (Kd.int .i64) 2 wc w.heap.size (fun k_ => some k_ ≠ (v928 : Value).ownBlock ∧ some k_ ≠ ((.slice Ao26 t923.length co26) : Value).ownBlock) v919 t918) ∧ Zac (Kd.R (Kd.int .i64) 2 wc w.heap.size (fun k_ => some k_ ≠ (v919 : Value).ownBlock ∧ some k_ ≠ ((.slice Ao26 t923.length co26) : Value).ownBlock) v928 t927) ∧ Zac (Kd.R (Kd.int .i64) 2 wc w.heap.size (fun k_ => some k_ ≠ (v919 : Value).ownBlock ∧ some k_ ≠ (v928 : Value).ownBlock) (.slice Ao26 t923.length co26) t938) ∧ Zac (wc.heap[gb912]? = some (.cells #[.int .i64 a0_0, (.slice A0_1 l0_1.length c0_1)] 24 (0, 0))) ∧ Zac (wc.heap[gb926]? = some (.cells #[.int .i64 t922, (.slice Ao26 t923.length co26)] 28 (0, 0))) ∧ Zac (Below w.heap.size w wc))
      case first =>
       have H := HC39.out
       clear HC39
       by_cases c47 : t937 < 0
       ·rw [if_pos c47] at H
        have c47b0 : decide (t937 < 0) = true := decide_eq_true c47
        clear c47
        (first | rw [c47b0] | (simp only [i64_w, i32_w]; rw [c47b0]) | skip)
        have H' := Zac.mk H
        clear H
        as_aux_lemma =>
         go_wp2
         go_meet
         case rel => exact ⟨_, (true), (by first | rfl | (simp; done) | (simp [*]; done) | (simp [IntWalk.i64_left, *]; done)), H', ⟨by have := HJ12.out; first | omega | exact Nat.le_refl _⟩, ⟨by (with_reducible repeat (first | apply Kd.R_alloc | apply Kd.R_drewN | apply Kd.R_drew)); exact Kd.R_mono HO_8.out (fun _ hk => ⟨hk.1, hk.2.1⟩)⟩, ⟨by (with_reducible repeat (first | apply Kd.R_alloc | apply Kd.R_drewN | apply Kd.R_drew)); exact Kd.R_mono HO_11.out (fun _ hk => ⟨hk.1, hk.2.1⟩)⟩, ⟨by (with_reducible repeat (first | apply Kd.R_alloc | apply Kd.R_drewN | apply Kd.R_drew)); exact Kd.R_mono HO_927001.out (fun _ hk => ⟨hk.1.1, hk.1.2⟩)⟩, ⟨by (with_reducible repeat (first | refine Zah ?_ _ | refine Zai ?_ | refine Zag ?_ _)); exact BK912.out⟩, ⟨by (with_reducible repeat (first | refine Zah ?_ _ | refine Zai ?_ | refine Zag ?_ _)); exact BK926.out⟩, ⟨by repeat (first | (with_reducible first | exact HB.out | apply Zae | apply Zab | apply Zad | refine Zaf ?_ GE912.out | refine Zaf ?_ GE926.out) | exact HB.out)⟩⟩
       ·rw [if_neg c47] at H
        have c47b0 : decide (t937 < 0) = false := decide_eq_false c47
        clear c47
        (first | rw [c47b0] | (simp only [i64_w, i32_w]; rw [c47b0]) | skip)
        replace H := Option.bind_eq_some_iff.mp H
        obtain ⟨t939, A480, H⟩ := H
        replace H : (if t939 = true then (laws_FnExactBestRounding.j1 kj12 a1 a2 t918 t921 t927 (t930 != t921) a0_0 l0_1) else (laws_FnExactBestRounding.j1 kj12 a1 a2 t918 t921 t927 true a0_0 l0_1)) = some r := H
        have A48 := Zac.mk A480
        clear A480
        by_cases c49 : t939 = true
        ·subst c49
         have H1 : (laws_FnExactBestRounding.j1 kj12 a1 a2 t918 t921 t927 (t930 != t921) a0_0 l0_1) = some r := by rw [if_pos rfl] at H; exact H
         clear H
         have H := H1
         clear H1
         have H' := Zac.mk H
         clear H
         obtain ⟨Ao50, co50, eo50⟩ := Kd.R_slice HO_11.out
         subst eo50
         obtain ⟨Ao51, co51, eo51⟩ := Kd.R_slice HO_8.out
         subst eo51
         as_aux_lemma =>
          go_wp2_with (first | (go_at_call 15; (with_reducible refine (Za4.calls kj12 _ _ t927 _ _ t918 true _ ?side1 ?side2 ?side3 ?side4 A48.out).mono ?_); (case side1 => repeat (first | exact (Kd.R_reads' HO_11.out).2.2 | (with_reducible refine Kd.C_alloc ?_ _) | (with_reducible refine Kd.C_drewN ?_ _) | (with_reducible refine Kd.C_drew ?_))); (case side2 => exact (Kd.R_reads' HO_11.out).2.1); (case side3 => repeat (first | exact (Kd.R_reads' HO_8.out).2.2 | (with_reducible refine Kd.C_alloc ?_ _) | (with_reducible refine Kd.C_drewN ?_ _) | (with_reducible refine Kd.C_drew ?_))); (case side4 => exact (Kd.R_reads' HO_8.out).2.1); rintro e w' ⟨rfl, ⟨nd, rfl⟩⟩))
          go_meet
          case rel => exact ⟨_, ((t930 != t921)), (by first | rfl | (simp; done) | (simp [*]; done) | (simp [IntWalk.i64_left, *]; done)), H', ⟨by have := HJ12.out; first | omega | exact Nat.le_refl _⟩, ⟨by (with_reducible repeat (first | apply Kd.R_alloc | apply Kd.R_drewN | apply Kd.R_drew)); exact Kd.R_mono HO_8.out (fun _ hk => ⟨hk.1, hk.2.1⟩)⟩, ⟨by (with_reducible repeat (first | apply Kd.R_alloc | apply Kd.R_drewN | apply Kd.R_drew)); exact Kd.R_mono HO_11.out (fun _ hk => ⟨hk.1, hk.2.1⟩)⟩, ⟨by (with_reducible repeat (first | apply Kd.R_alloc | apply Kd.R_drewN | apply Kd.R_drew)); exact Kd.R_mono HO_927001.out (fun _ hk => ⟨hk.1.1, hk.1.2⟩)⟩, ⟨by (with_reducible repeat (first | refine Zah ?_ _ | refine Zai ?_ | refine Zag ?_ _)); exact BK912.out⟩, ⟨by (with_reducible repeat (first | refine Zah ?_ _ | refine Zai ?_ | refine Zag ?_ _)); exact BK926.out⟩, ⟨by repeat (first | (with_reducible first | exact HB.out | apply Zae | apply Zab | apply Zad | refine Zaf ?_ GE912.out | refine Zaf ?_ GE926.out) | exact HB.out)⟩⟩
        ·replace c49 := Bool.eq_false_iff.mpr c49
         subst c49
         have H1 : (laws_FnExactBestRounding.j1 kj12 a1 a2 t918 t921 t927 true a0_0 l0_1) = some r := by rw [if_neg (show ¬ (false = true) by decide)] at H; exact H
         clear H
         have H := H1
         clear H1
         have H' := Zac.mk H
         clear H
         obtain ⟨Ao52, co52, eo52⟩ := Kd.R_slice HO_11.out
         subst eo52
         obtain ⟨Ao53, co53, eo53⟩ := Kd.R_slice HO_8.out
         subst eo53
         as_aux_lemma =>
          go_wp2_with (first | (go_at_call 15; (with_reducible refine (Za4.calls kj12 _ _ t927 _ _ t918 false _ ?side1 ?side2 ?side3 ?side4 A48.out).mono ?_); (case side1 => repeat (first | exact (Kd.R_reads' HO_11.out).2.2 | (with_reducible refine Kd.C_alloc ?_ _) | (with_reducible refine Kd.C_drewN ?_ _) | (with_reducible refine Kd.C_drew ?_))); (case side2 => exact (Kd.R_reads' HO_11.out).2.1); (case side3 => repeat (first | exact (Kd.R_reads' HO_8.out).2.2 | (with_reducible refine Kd.C_alloc ?_ _) | (with_reducible refine Kd.C_drewN ?_ _) | (with_reducible refine Kd.C_drew ?_))); (case side4 => exact (Kd.R_reads' HO_8.out).2.1); rintro e w' ⟨rfl, ⟨nd, rfl⟩⟩))
          go_meet
          case rel => exact ⟨_, (true), (by first | rfl | (simp; done) | (simp [*]; done) | (simp [IntWalk.i64_left, *]; done)), H', ⟨by have := HJ12.out; first | omega | exact Nat.le_refl _⟩, ⟨by (with_reducible repeat (first | apply Kd.R_alloc | apply Kd.R_drewN | apply Kd.R_drew)); exact Kd.R_mono HO_8.out (fun _ hk => ⟨hk.1, hk.2.1⟩)⟩, ⟨by (with_reducible repeat (first | apply Kd.R_alloc | apply Kd.R_drewN | apply Kd.R_drew)); exact Kd.R_mono HO_11.out (fun _ hk => ⟨hk.1, hk.2.1⟩)⟩, ⟨by (with_reducible repeat (first | apply Kd.R_alloc | apply Kd.R_drewN | apply Kd.R_drew)); exact Kd.R_mono HO_927001.out (fun _ hk => ⟨hk.1.1, hk.1.2⟩)⟩, ⟨by (with_reducible repeat (first | refine Zah ?_ _ | refine Zai ?_ | refine Zag ?_ _)); exact BK912.out⟩, ⟨by (with_reducible repeat (first | refine Zah ?_ _ | refine Zai ?_ | refine Zag ?_ _)); exact BK926.out⟩, ⟨by repeat (first | (with_reducible first | exact HB.out | apply Zae | apply Zab | apply Zad | refine Zaf ?_ GE912.out | refine Zaf ?_ GE926.out) | exact HB.out)⟩⟩
      case rest =>
       clear HC39
       try clear c1
       try clear c2
       try clear p2
       try clear c3
       try clear c4
       try clear c5
       try clear c5b0
       try clear c10
       try clear c11
       try clear c13
       try clear c15
       try clear c16
       try clear c17
       try clear c24
       try clear c29
       try clear c34
       try clear c37
       try clear c44
       try clear c47
       try clear c47b0
       try clear c49
       try clear c50
       try clear hcz15_0
       try clear hcz15_1
       try clear hcz17_0
       try clear hcz17_1
       try clear hcz21_0
       try clear hcz21_1
       try clear hcz25_0
       try clear hcz25_1
       try clear hcz45_0
       try clear hcz45_1
       try clear hcz7_0
       try clear hcz7_1
       try clear hfz15_0
       try clear hfz15_1
       try clear hfz17_0
       try clear hfz17_1
       try clear hfz21_0
       try clear hfz21_1
       try clear hfz25_0
       try clear hfz25_1
       try clear hfz45_0
       try clear hfz45_1
       try clear hfz7_0
       try clear hfz7_1
       try clear p2
       obtain ⟨kq, x69_38, rfl, HA, HJ38, HO_8, HO_11, HO_927001, BK912, BK926, HB⟩ := hcut
       have hl927001_38 := (Kd.R_reads' HO_927001.out).1
       rw [hl927001_38] at HO_927001
       (try simp only [hl927001_38])
       (try simp only [hl927001_38] at BK912)
       (try simp only [hl927001_38] at BK926)
       (try simp only [hl927001_38] at HO_8)
       (try simp only [hl927001_38] at HO_11)
       cases kq with
       | zero => exact absurd HA.out (by simp [laws_FnExactBestRounding.j1])
       | succ kj38 =>
        have H := HA.out
        clear HA
        simp only [laws_FnExactBestRounding.j1] at H
        by_cases c54 : x69_38 = true
        ·subst c54
         have H1 : (some false) = some r := by rw [if_pos rfl] at H; exact H
         clear H
         have H := H1
         clear H1
         obtain rfl := Option.some.inj H
         as_aux_lemma =>
          go_wp2
          go_ret
          exact ⟨by first | rfl | (simp [Zaq, Zar] <;> rfl) | (simp [*, Zaq, Zar] <;> rfl), by repeat (first | (with_reducible first | exact HB.out | apply Zae | apply Zab | apply Zad | refine Zaf ?_ GE912.out | refine Zaf ?_ GE926.out) | exact HB.out)⟩
        ·replace c54 := Bool.eq_false_iff.mpr c54
         subst c54
         have H1 : ((laws_markInt64S.f kj38 t927 1).bind fun bt940 => ((Zba.f kj38 bt940.2 1).bind fun t942 => (if t942 < 0 then (some false) else (if t942 = bt940.1 then ((laws_toValues.f kj38 a0_0 l0_1).bind fun bt943 => ((Za7.f kj38 bt943.1 bt943.2 a1 a2).bind fun bt947 => ((Za4.f kj38 bt947.1 t918).bind fun t951 => (if t951 = true then (laws_FnExactBestRounding.j2 kj38 bt940.2 bt940.1 (bt947.2 != t921)) else (laws_FnExactBestRounding.j2 kj38 bt940.2 bt940.1 true))))) else (some false))))) = some r := by rw [if_neg (show ¬ (false = true) by decide)] at H; exact H
         clear H
         have H := H1
         clear H1
         replace H := Option.bind_eq_some_iff.mp H
         obtain ⟨⟨t940, t941⟩, A550, H⟩ := H
         replace H : ((Zba.f kj38 t941 1).bind fun t942 => (if t942 < 0 then (some false) else (if t942 = t940 then ((laws_toValues.f kj38 a0_0 l0_1).bind fun bt943 => ((Za7.f kj38 bt943.1 bt943.2 a1 a2).bind fun bt947 => ((Za4.f kj38 bt947.1 t918).bind fun t951 => (if t951 = true then (laws_FnExactBestRounding.j2 kj38 t941 t940 (bt947.2 != t921)) else (laws_FnExactBestRounding.j2 kj38 t941 t940 true))))) else (some false)))) = some r := H
         have A55 := Zac.mk A550
         clear A550
         replace H := Option.bind_eq_some_iff.mp H
         obtain ⟨t942, A560, H⟩ := H
         replace H : (if t942 < 0 then (some false) else (if t942 = t940 then ((laws_toValues.f kj38 a0_0 l0_1).bind fun bt943 => ((Za7.f kj38 bt943.1 bt943.2 a1 a2).bind fun bt947 => ((Za4.f kj38 bt947.1 t918).bind fun t951 => (if t951 = true then (laws_FnExactBestRounding.j2 kj38 t941 t940 (bt947.2 != t921)) else (laws_FnExactBestRounding.j2 kj38 t941 t940 true))))) else (some false))) = some r := H
         have A56 := Zac.mk A560
         clear A560
         by_cases c57 : t942 < 0
         ·rw [if_pos c57] at H
          have c57b0 : decide (t942 < 0) = true := decide_eq_true c57
          clear c57
          obtain rfl := Option.some.inj H
          obtain ⟨Ao58, co58, eo58⟩ := Kd.R_slice HO_11.out
          subst eo58
          as_aux_lemma =>
           go_wp2_with (first | ((with_reducible refine Zaw (f := 18) rfl ?_); refine goesL_ (some 72) rfl rfl Try.func18 (by kernel_rfl) rfl #[.slice Ao58 t927.length co58, .int .i64 1] rfl (by (try simp only [List.map_toArray, List.map_cons, List.map_nil]); first | done | rfl | (simp only [List.length_drop, List.length_take]; rfl)) ?_; (with_reducible refine (laws_markInt64S.calls kj38 (fun k_ => some k_ = (.slice Ao58 t927.length co58 : Value).ownBlock) (.slice Ao58 t927.length co58) t927 1 t940 t941 w _ ?side1 ?side2 A55.out).mono ?_); (case side1 => repeat (first | (with_reducible first | exact HB.out | apply Zae | apply Zab | apply Zad | refine Zaf ?_ GE912.out | refine Zaf ?_ GE926.out) | exact HB.out)); (case side2 => exact Kd.R_tight rfl HO_11.out); rintro e w59 ⟨rfl, hy0, hb, hkp⟩; refine ⟨_, rfl, ?_⟩; have n0_ := Zac.mk (Kd.R_mono (ok' := fun k_ => some k_ ≠ (.slice Ao58 t927.length co58 : Value).ownBlock ∧ some k_ ≠ (.slice Ao26 t938.length co26 : Value).ownBlock) (Kd.R_keptB (HO_8.out) hkp (fun k_ hk_ hs_ => (hk_.1) hs_)) (fun k_ hk_ => ⟨hk_.1.1, hk_.1.2⟩)); have n1_ := Zac.mk (Kd.R_reok rfl hy0 (fun k_ e_ => HO_11.out.1 k_ e_)); have n2_ := Zac.mk (Kd.R_mono (ok' := fun k_ => some k_ ≠ (v919 : Value).ownBlock ∧ some k_ ≠ (.slice Ao58 t927.length co58 : Value).ownBlock) (Kd.R_keptB (HO_927001.out) hkp (fun k_ hk_ hs_ => (hk_.2) hs_)) (fun k_ hk_ => ⟨hk_.1.1, hk_.1.2⟩)); have n3_ := Zac.mk (blk_kept (by (with_reducible repeat (first | refine Zah ?_ _ | refine Zai ?_ | refine Zag ?_ _)); exact BK912.out) hkp (fun hs_ => (fun e_ => (Kd.R_ne HO_11.out BK912.out (by decide)) e_) hs_)); have n4_ := Zac.mk (blk_kept (by (with_reducible repeat (first | refine Zah ?_ _ | refine Zai ?_ | refine Zag ?_ _)); exact BK926.out) hkp (fun hs_ => (fun e_ => (Kd.R_ne HO_11.out BK926.out (by decide)) e_) hs_)); have n5_ := Zac.mk (hb); clear HO_8; clear HO_11; clear HO_927001; clear BK912; clear BK926; clear HB; have HO_8 := n0_; have HO_11 := n1_; have HO_927001 := n2_; have BK912 := n3_; have BK926 := n4_; have HB := n5_; clear n0_ n1_ n2_ n3_ n4_ n5_; (try clear hb); (try clear hkp); (try clear hy0)) | ((with_reducible refine Zaw (f := 19) rfl ?_); refine goesL_ (some 75) rfl rfl Try.func19 (by kernel_rfl) rfl #[.slice Ao58 t941.length co58, .int .i64 1] rfl (by (try simp only [List.map_toArray, List.map_cons, List.map_nil]); first | done | (rw [show t941.length = t927.length from (Kd.R_reads' HO_11.out).1.symm] <;> rfl) | rfl | (simp only [List.length_drop, List.length_take]; rfl)) ?_; (with_reducible refine (Zba.calls kj38 _ _ t941 1 t942 _ ?side1 ?side2 A56.out).mono ?_); (case side1 => repeat (first | exact (Kd.R_reads' HO_11.out).2.2 | (with_reducible refine Kd.C_alloc ?_ _) | (with_reducible refine Kd.C_drewN ?_ _) | (with_reducible refine Kd.C_drew ?_))); (case side2 => rw [show t941.length = t927.length from (Kd.R_reads' HO_11.out).1.symm]; exact (Kd.R_reads' HO_11.out).2.1); rintro e w' ⟨rfl, ⟨nd, rfl⟩⟩; refine ⟨_, rfl, ?_⟩))
           go_ret
           exact ⟨by first | rfl | (simp [Zaq, Zar] <;> rfl) | (simp [*, Zaq, Zar] <;> rfl), by repeat (first | (with_reducible first | exact HB.out | apply Zae | apply Zab | apply Zad | refine Zaf ?_ GE912.out | refine Zaf ?_ GE926.out) | exact HB.out)⟩
         ·rw [if_neg c57] at H
          have c57b0 : decide (t942 < 0) = false := decide_eq_false c57
          clear c57
          by_cases c60 : t942 = t940
          ·rw [if_pos c60] at H
           have c60b0 : (t942 == t940) = true := beq_iff_eq.mpr c60
           have c60b1 : (t942 != t940) = false := bne_eq_false_iff_eq.mpr c60
           clear c60
           replace H := Option.bind_eq_some_iff.mp H
           obtain ⟨⟨t943, t944⟩, A610, H⟩ := H
           replace H : ((Za7.f kj38 t943 t944 a1 a2).bind fun bt947 => ((Za4.f kj38 bt947.1 t918).bind fun t951 => (if t951 = true then (laws_FnExactBestRounding.j2 kj38 t941 t940 (bt947.2 != t921)) else (laws_FnExactBestRounding.j2 kj38 t941 t940 true)))) = some r := H
           have A61 := Zac.mk A610
           clear A610
           replace H := Option.bind_eq_some_iff.mp H
           obtain ⟨⟨t947, t950⟩, A620, H⟩ := H
           replace H : ((Za4.f kj38 t947 t918).bind fun t951 => (if t951 = true then (laws_FnExactBestRounding.j2 kj38 t941 t940 (t950 != t921)) else (laws_FnExactBestRounding.j2 kj38 t941 t940 true))) = some r := H
           have A62 := Zac.mk A620
           clear A620
           have HC63 := Zac.mk H
           clear H
           obtain ⟨Ao64, co64, eo64⟩ := Kd.R_slice HO_11.out
           subst eo64
           go_upto_region 25 with (first | ((with_reducible refine Zaw (f := 18) rfl ?_); refine goesL_ (some 72) rfl rfl Try.func18 (by kernel_rfl) rfl #[.slice Ao64 t927.length co64, .int .i64 1] rfl (by (try simp only [List.map_toArray, List.map_cons, List.map_nil]); first | done | rfl | (simp only [List.length_drop, List.length_take]; rfl)) ?_; (with_reducible refine (laws_markInt64S.calls kj38 (fun k_ => some k_ = (.slice Ao64 t927.length co64 : Value).ownBlock) (.slice Ao64 t927.length co64) t927 1 t940 t941 w _ ?side1 ?side2 A55.out).mono ?_); (case side1 => repeat (first | (with_reducible first | exact HB.out | apply Zae | apply Zab | apply Zad | refine Zaf ?_ GE912.out | refine Zaf ?_ GE926.out) | exact HB.out)); (case side2 => exact Kd.R_tight rfl HO_11.out); rintro e w65 ⟨rfl, hy0, hb, hkp⟩; refine ⟨_, rfl, ?_⟩; have n0_ := Zac.mk (Kd.R_mono (ok' := fun k_ => some k_ ≠ (.slice Ao64 t927.length co64 : Value).ownBlock ∧ some k_ ≠ (.slice Ao26 t938.length co26 : Value).ownBlock) (Kd.R_keptB (HO_8.out) hkp (fun k_ hk_ hs_ => (hk_.1) hs_)) (fun k_ hk_ => ⟨hk_.1.1, hk_.1.2⟩)); have n1_ := Zac.mk (Kd.R_reok rfl hy0 (fun k_ e_ => HO_11.out.1 k_ e_)); have n2_ := Zac.mk (Kd.R_mono (ok' := fun k_ => some k_ ≠ (v919 : Value).ownBlock ∧ some k_ ≠ (.slice Ao64 t927.length co64 : Value).ownBlock) (Kd.R_keptB (HO_927001.out) hkp (fun k_ hk_ hs_ => (hk_.2) hs_)) (fun k_ hk_ => ⟨hk_.1.1, hk_.1.2⟩)); have n3_ := Zac.mk (blk_kept (by (with_reducible repeat (first | refine Zah ?_ _ | refine Zai ?_ | refine Zag ?_ _)); exact BK912.out) hkp (fun hs_ => (fun e_ => (Kd.R_ne HO_11.out BK912.out (by decide)) e_) hs_)); have n4_ := Zac.mk (blk_kept (by (with_reducible repeat (first | refine Zah ?_ _ | refine Zai ?_ | refine Zag ?_ _)); exact BK926.out) hkp (fun hs_ => (fun e_ => (Kd.R_ne HO_11.out BK926.out (by decide)) e_) hs_)); have n5_ := Zac.mk (hb); clear HO_8; clear HO_11; clear HO_927001; clear BK912; clear BK926; clear HB; have HO_8 := n0_; have HO_11 := n1_; have HO_927001 := n2_; have BK912 := n3_; have BK926 := n4_; have HB := n5_; clear n0_ n1_ n2_ n3_ n4_ n5_; (try clear hb); (try clear hkp); (try clear hy0)) | ((with_reducible refine Zaw (f := 19) rfl ?_); refine goesL_ (some 75) rfl rfl Try.func19 (by kernel_rfl) rfl #[.slice Ao64 t941.length co64, .int .i64 1] rfl (by (try simp only [List.map_toArray, List.map_cons, List.map_nil]); first | done | (rw [show t941.length = t927.length from (Kd.R_reads' HO_11.out).1.symm] <;> rfl) | rfl | (simp only [List.length_drop, List.length_take]; rfl)) ?_; (with_reducible refine (Zba.calls kj38 _ _ t941 1 t942 _ ?side1 ?side2 A56.out).mono ?_); (case side1 => repeat (first | exact (Kd.R_reads' HO_11.out).2.2 | (with_reducible refine Kd.C_alloc ?_ _) | (with_reducible refine Kd.C_drewN ?_ _) | (with_reducible refine Kd.C_drew ?_))); (case side2 => rw [show t941.length = t927.length from (Kd.R_reads' HO_11.out).1.symm]; exact (Kd.R_reads' HO_11.out).2.1); rintro e w' ⟨rfl, ⟨nd, rfl⟩⟩; refine ⟨_, rfl, ?_⟩; have hnb66 := NB912_926.out; have hnc66 := NB926_912.out; have hcz67_0 : w65.cell? ⟨gb912, 0, none⟩ = some (.int .i64 a0_0) := (Zak BK912.out 0).trans rfl; have hcz67_1 : w65.cell? ⟨gb912, 1, none⟩ = some (.slice A0_1 l0_1.length c0_1) := (Zak BK912.out 1).trans rfl; have hfz67_0 := Zan BK912.out 0; have hfz67_1 := Zan BK912.out 1) | ((with_reducible refine Zaw (f := 13) rfl ?_); refine goesL_ (some 83) rfl rfl Try.func13 (by kernel_rfl) rfl #[.agg #[.int .i64 a0_0, .slice A0_1 l0_1.length c0_1]] rfl (by (try simp only [List.map_toArray, List.map_cons, List.map_nil]); first | done | rfl | (simp only [List.length_drop, List.length_take]; rfl)) ?_; (with_reducible refine (laws_toValues.calls kj38 a0_0 _ _ l0_1 t943 t944 _ ?side1 ?side2 A61.out).mono ?_); (case side1 => repeat (first | exact (Kd.C_below HR0_1.out (by repeat (first | (with_reducible first | exact HB.out | apply Zae | apply Zab | apply Zad | refine Zaf ?_ GE912.out | refine Zaf ?_ GE926.out) | exact HB.out))) | (with_reducible refine Kd.C_alloc ?_ _) | (with_reducible refine Kd.C_drewN ?_ _) | (with_reducible refine Kd.C_drew ?_))); (case side2 => exact HC0_1.out); rintro e w68 ⟨v945, rfl, ho0, hb⟩; refine ⟨_, rfl, ?_⟩; have n0_ := Zac.mk (Kd.R_elder' (by (with_reducible repeat (first | apply Kd.R_alloc | apply Kd.R_drewN | apply Kd.R_drew)); exact HO_8.out) (Kd.R_base ho0) hb); have n1_ := Zac.mk (Kd.R_elder' (by (with_reducible repeat (first | apply Kd.R_alloc | apply Kd.R_drewN | apply Kd.R_drew)); exact HO_11.out) (Kd.R_base ho0) hb); have n2_ := Zac.mk (Kd.R_elder' (by (with_reducible repeat (first | apply Kd.R_alloc | apply Kd.R_drewN | apply Kd.R_drew)); exact HO_927001.out) (Kd.R_base ho0) hb); have n3_ := Zac.mk (Kd.R_lower (Kd.R_new' (Kd.R_new' (Kd.R_new' ho0 (Kd.R_lt (by (with_reducible repeat (first | apply Kd.R_alloc | apply Kd.R_drewN | apply Kd.R_drew)); exact HO_8.out))) (Kd.R_lt (by (with_reducible repeat (first | apply Kd.R_alloc | apply Kd.R_drewN | apply Kd.R_drew)); exact HO_11.out))) (Kd.R_lt (by (with_reducible repeat (first | apply Kd.R_alloc | apply Kd.R_drewN | apply Kd.R_drew)); exact HO_927001.out))) (Zap (by repeat (first | (with_reducible first | exact HB.out | apply Zae | apply Zab | apply Zad | refine Zaf ?_ GE912.out | refine Zaf ?_ GE926.out) | exact HB.out)))); have n4_ := Zac.mk (Zat (g := gb912) (o := .cells #[.int .i64 a0_0, .slice A0_1 l0_1.length c0_1] 24 (0, 0)) (by (with_reducible repeat (first | refine Zah ?_ _ | refine Zai ?_ | refine Zag ?_ _)); exact BK912.out) hb); have n5_ := Zac.mk (Zat (g := gb926) (o := .cells #[.int .i64 t922, .slice Ao26 t938.length co26] 28 (0, 0)) (by (with_reducible repeat (first | refine Zah ?_ _ | refine Zai ?_ | refine Zag ?_ _)); exact BK926.out) hb); have n6_ := Zac.mk (Zas (by repeat (first | (with_reducible first | exact HB.out | apply Zae | apply Zab | apply Zad | refine Zaf ?_ GE912.out | refine Zaf ?_ GE926.out) | exact HB.out)) hb); clear HO_8; clear HO_11; clear HO_927001; clear BK912; clear BK926; clear HB; have HO_8 := n0_; have HO_11 := n1_; have HO_927001 := n2_; have HO946 := n3_; have BK912 := n4_; have BK926 := n5_; have HB := n6_; clear n0_ n1_ n2_ n3_ n4_ n5_ n6_; (try clear hb); (try clear hb2); (try clear hk); (try clear hi); (try clear ho0); obtain ⟨Ao69, co69, eo69⟩ := Kd.R_slice HO946.out; subst eo69) | ((with_reducible refine Zaw (f := 44) rfl ?_); refine goesL_ (some 86) rfl rfl Try.func44 (by kernel_rfl) rfl #[.agg #[.int .i64 t943, .slice Ao69 t944.length co69], .int .i64 a1, .int .i64 a2] rfl (by (try simp only [List.map_toArray, List.map_cons, List.map_nil]); first | done | rfl | (simp only [List.length_drop, List.length_take]; rfl)) ?_; (with_reducible refine (Za7.calls kj38 t943 _ _ t944 a1 a2 t947 t950 _ ?side1 ?side2 A62.out).mono ?_); (case side1 => repeat (first | exact (Kd.R_reads' HO946.out).2.2 | (with_reducible refine Kd.C_alloc ?_ _) | (with_reducible refine Kd.C_drewN ?_ _) | (with_reducible refine Kd.C_drew ?_))); (case side2 => exact (Kd.R_reads' HO946.out).2.1); rintro e w70 ⟨v948, rfl, ho0, hb⟩; refine ⟨_, rfl, ?_⟩; have n0_ := Zac.mk (Kd.R_elder' (by (with_reducible repeat (first | apply Kd.R_alloc | apply Kd.R_drewN | apply Kd.R_drew)); exact HO_8.out) (Kd.R_base ho0) hb); have n1_ := Zac.mk (Kd.R_elder' (by (with_reducible repeat (first | apply Kd.R_alloc | apply Kd.R_drewN | apply Kd.R_drew)); exact HO_11.out) (Kd.R_base ho0) hb); have n2_ := Zac.mk (Kd.R_elder' (by (with_reducible repeat (first | apply Kd.R_alloc | apply Kd.R_drewN | apply Kd.R_drew)); exact HO_927001.out) (Kd.R_base ho0) hb); have n3_ := Zac.mk (Kd.R_elder' (by (with_reducible repeat (first | apply Kd.R_alloc | apply Kd.R_drewN | apply Kd.R_drew)); exact HO946.out) (Kd.R_base ho0) hb); have n4_ := Zac.mk (Kd.R_lower (Kd.R_new' (Kd.R_new' (Kd.R_new' (Kd.R_new' ho0 (Kd.R_lt (by (with_reducible repeat (first | apply Kd.R_alloc | apply Kd.R_drewN | apply Kd.R_drew)); exact HO_8.out))) (Kd.R_lt (by (with_reducible repeat (first | apply Kd.R_alloc | apply Kd.R_drewN | apply Kd.R_drew)); exact HO_11.out))) (Kd.R_lt (by (with_reducible repeat (first | apply Kd.R_alloc | apply Kd.R_drewN | apply Kd.R_drew)); exact HO_927001.out))) (Kd.R_lt (by (with_reducible repeat (first | apply Kd.R_alloc | apply Kd.R_drewN | apply Kd.R_drew)); exact HO946.out))) (Zap (by repeat (first | (with_reducible first | exact HB.out | apply Zae | apply Zab | apply Zad | refine Zaf ?_ GE912.out | refine Zaf ?_ GE926.out) | exact HB.out)))); have n5_ := Zac.mk (Zat (g := gb912) (o := .cells #[.int .i64 a0_0, .slice A0_1 l0_1.length c0_1] 24 (0, 0)) (by (with_reducible repeat (first | refine Zah ?_ _ | refine Zai ?_ | refine Zag ?_ _)); exact BK912.out) hb); have n6_ := Zac.mk (Zat (g := gb926) (o := .cells #[.int .i64 t922, .slice Ao26 t938.length co26] 28 (0, 0)) (by (with_reducible repeat (first | refine Zah ?_ _ | refine Zai ?_ | refine Zag ?_ _)); exact BK926.out) hb); have n7_ := Zac.mk (Zas (by repeat (first | (with_reducible first | exact HB.out | apply Zae | apply Zab | apply Zad | refine Zaf ?_ GE912.out | refine Zaf ?_ GE926.out) | exact HB.out)) hb); clear HO_8; clear HO_11; clear HO_927001; clear HO946; clear BK912; clear BK926; clear HB; have HO_8 := n0_; have HO_11 := n1_; have HO_927001 := n2_; have HO946 := n3_; have HO949 := n4_; have BK912 := n5_; have BK926 := n6_; have HB := n7_; clear n0_ n1_ n2_ n3_ n4_ n5_ n6_ n7_; (try clear hb); (try clear hb2); (try clear hk); (try clear hi); (try clear ho0)))
           (try simp only [Act.put, List.setIfInBounds_toArray, List.set_cons_zero, List.set_cons_succ])
           go_cut [97] (fun v97 wc => ∃ (kq : Nat) (x97_62 : Bool), v97 = .bool x97_62 ∧ Zac (laws_FnExactBestRounding.j2 kq t941 t940 x97_62 = some r) ∧ Zac (kq ≤ kj38) ∧ Zac (Kd.R (Kd.int .i64) 2 wc w.heap.size (fun k_ => some k_ ≠ ((.slice Ao26 t938.length co26) : Value).ownBlock) (.slice Ao64 t927.length co64) t941) ∧ Zac (Kd.R (Kd.int .i64) 2 wc w.heap.size (fun k_ => some k_ ≠ ((.slice Ao64 t927.length co64) : Value).ownBlock) (.slice Ao26 t938.length co26) t938) ∧ Zac (wc.heap[gb912]? = some (.cells #[.int .i64 a0_0, (.slice A0_1 l0_1.length c0_1)] 24 (0, 0))) ∧ Zac (wc.heap[gb926]? = some (.cells #[.int .i64 t922, (.slice Ao26 t938.length co26)] 28 (0, 0))) ∧ Zac (Below w.heap.size w wc))
           case first =>
            have H := HC63.out
            clear HC63
            replace H := Option.bind_eq_some_iff.mp H
            obtain ⟨t951, A710, H⟩ := H
            replace H : (if t951 = true then (laws_FnExactBestRounding.j2 kj38 t941 t940 (t950 != t921)) else (laws_FnExactBestRounding.j2 kj38 t941 t940 true)) = some r := H
            have A71 := Zac.mk A710
            clear A710
            by_cases c72 : t951 = true
            ·subst c72
             have H1 : (laws_FnExactBestRounding.j2 kj38 t941 t940 (t950 != t921)) = some r := by rw [if_pos rfl] at H; exact H
             clear H
             have H := H1
             clear H1
             have H' := Zac.mk H
             clear H
             obtain ⟨Ao73, co73, eo73⟩ := Kd.R_slice HO949.out
             subst eo73
             obtain ⟨Ao74, co74, eo74⟩ := Kd.R_slice HO_8.out
             subst eo74
             as_aux_lemma =>
              go_wp2_with (first | ((with_reducible refine Zaw (f := 15) rfl ?_); refine goesL_ (some 91) rfl rfl Try.func15 (by kernel_rfl) rfl #[.slice Ao73 t947.length co73, .slice Ao74 t918.length co74] rfl (by (try simp only [List.map_toArray, List.map_cons, List.map_nil]); first | done | rfl | (simp only [List.length_drop, List.length_take]; rfl)) ?_; (with_reducible refine (Za4.calls kj38 _ _ t947 _ _ t918 true _ ?side1 ?side2 ?side3 ?side4 A71.out).mono ?_); (case side1 => repeat (first | exact (Kd.R_reads' HO949.out).2.2 | (with_reducible refine Kd.C_alloc ?_ _) | (with_reducible refine Kd.C_drewN ?_ _) | (with_reducible refine Kd.C_drew ?_))); (case side2 => exact (Kd.R_reads' HO949.out).2.1); (case side3 => repeat (first | exact (Kd.R_reads' HO_8.out).2.2 | (with_reducible refine Kd.C_alloc ?_ _) | (with_reducible refine Kd.C_drewN ?_ _) | (with_reducible refine Kd.C_drew ?_))); (case side4 => exact (Kd.R_reads' HO_8.out).2.1); rintro e w' ⟨rfl, ⟨nd, rfl⟩⟩; refine ⟨_, rfl, ?_⟩))
              go_meet
              case rel => exact ⟨_, ((t950 != t921)), (by first | rfl | (simp; done) | (simp [*]; done) | (simp [IntWalk.i64_left, *]; done)), H', ⟨by have := HJ12.out; have := HJ38.out; first | omega | exact Nat.le_refl _⟩, ⟨by (try simp only [hl927001_38]); (with_reducible repeat (first | apply Kd.R_alloc | apply Kd.R_drewN | apply Kd.R_drew)); exact Kd.R_mono HO_11.out (fun _ hk => hk.1.1.2)⟩, ⟨by (try simp only [hl927001_38]); (with_reducible repeat (first | apply Kd.R_alloc | apply Kd.R_drewN | apply Kd.R_drew)); exact Kd.R_mono HO_927001.out (fun _ hk => hk.1.1.2)⟩, ⟨by (try simp only [hl927001_38]); (with_reducible repeat (first | refine Zah ?_ _ | refine Zai ?_ | refine Zag ?_ _)); exact BK912.out⟩, ⟨by (try simp only [hl927001_38]); (with_reducible repeat (first | refine Zah ?_ _ | refine Zai ?_ | refine Zag ?_ _)); exact BK926.out⟩, ⟨by repeat (first | (with_reducible first | exact HB.out | apply Zae | apply Zab | apply Zad | refine Zaf ?_ GE912.out | refine Zaf ?_ GE926.out) | exact HB.out)⟩⟩
            ·replace c72 := Bool.eq_false_iff.mpr c72
             subst c72
             have H1 : (laws_FnExactBestRounding.j2 kj38 t941 t940 true) = some r := by rw [if_neg (show ¬ (false = true) by decide)] at H; exact H
             clear H
             have H := H1
             clear H1
             have H' := Zac.mk H
             clear H
             obtain ⟨Ao75, co75, eo75⟩ := Kd.R_slice HO949.out
             subst eo75
             obtain ⟨Ao76, co76, eo76⟩ := Kd.R_slice HO_8.out
             subst eo76
             as_aux_lemma =>
              go_wp2_with (first | ((with_reducible refine Zaw (f := 15) rfl ?_); refine goesL_ (some 91) rfl rfl Try.func15 (by kernel_rfl) rfl #[.slice Ao75 t947.length co75, .slice Ao76 t918.length co76] rfl (by (try simp only [List.map_toArray, List.map_cons, List.map_nil]); first | done | rfl | (simp only [List.length_drop, List.length_take]; rfl)) ?_; (with_reducible refine (Za4.calls kj38 _ _ t947 _ _ t918 false _ ?side1 ?side2 ?side3 ?side4 A71.out).mono ?_); (case side1 => repeat (first | exact (Kd.R_reads' HO949.out).2.2 | (with_reducible refine Kd.C_alloc ?_ _) | (with_reducible refine Kd.C_drewN ?_ _) | (with_reducible refine Kd.C_drew ?_))); (case side2 => exact (Kd.R_reads' HO949.out).2.1); (case side3 => repeat (first | exact (Kd.R_reads' HO_8.out).2.2 | (with_reducible refine Kd.C_alloc ?_ _) | (with_reducible refine Kd.C_drewN ?_ _) | (with_reducible refine Kd.C_drew ?_))); (case side4 => exact (Kd.R_reads' HO_8.out).2.1); rintro e w' ⟨rfl, ⟨nd, rfl⟩⟩; refine ⟨_, rfl, ?_⟩))
              go_meet
              case rel => exact ⟨_, (true), (by first | rfl | (simp; done) | (simp [*]; done) | (simp [IntWalk.i64_left, *]; done)), H', ⟨by have := HJ12.out; have := HJ38.out; first | omega | exact Nat.le_refl _⟩, ⟨by (try simp only [hl927001_38]); (with_reducible repeat (first | apply Kd.R_alloc | apply Kd.R_drewN | apply Kd.R_drew)); exact Kd.R_mono HO_11.out (fun _ hk => hk.1.1.2)⟩, ⟨by (try simp only [hl927001_38]); (with_reducible repeat (first | apply Kd.R_alloc | apply Kd.R_drewN | apply Kd.R_drew)); exact Kd.R_mono HO_927001.out (fun _ hk => hk.1.1.2)⟩, ⟨by (try simp only [hl927001_38]); (with_reducible repeat (first | refine Zah ?_ _ | refine Zai ?_ | refine Zag ?_ _)); exact BK912.out⟩, ⟨by (try simp only [hl927001_38]); (with_reducible repeat (first | refine Zah ?_ _ | refine Zai ?_ | refine Zag ?_ _)); exact BK926.out⟩, ⟨by repeat (first | (with_reducible first | exact HB.out | apply Zae | apply Zab | apply Zad | refine Zaf ?_ GE912.out | refine Zaf ?_ GE926.out) | exact HB.out)⟩⟩
           case rest =>
            clear HC63
            try clear c1
            try clear c2
            try clear p2
            try clear c3
            try clear c4
            try clear c5
            try clear c5b0
            try clear c6
            try clear c7
            try clear c10
            try clear c11
            try clear c13
            try clear c15
            try clear c16
            try clear c17
            try clear c18
            try clear c19
            try clear c24
            try clear c29
            try clear c34
            try clear c37
            try clear c44
            try clear c47
            try clear c47b0
            try clear c49
            try clear c50
            try clear c54
            try clear c57
            try clear c57b0
            try clear c60
            try clear c60b0
            try clear c60b1
            try clear c66
            try clear c72
            try clear hcz15_0
            try clear hcz15_1
            try clear hcz17_0
            try clear hcz17_1
            try clear hcz21_0
            try clear hcz21_1
            try clear hcz25_0
            try clear hcz25_1
            try clear hcz45_0
            try clear hcz45_1
            try clear hcz67_0
            try clear hcz67_1
            try clear hcz7_0
            try clear hcz7_1
            try clear hfz15_0
            try clear hfz15_1
            try clear hfz17_0
            try clear hfz17_1
            try clear hfz21_0
            try clear hfz21_1
            try clear hfz25_0
            try clear hfz25_1
            try clear hfz45_0
            try clear hfz45_1
            try clear hfz67_0
            try clear hfz67_1
            try clear hfz7_0
            try clear hfz7_1
            try clear p2
            obtain ⟨kq, x97_62, rfl, HA, HJ62, HO_11, HO_927001, BK912, BK926, HB⟩ := hcut
            have hl11_62 := (Kd.R_reads' HO_11.out).1
            rw [hl11_62] at HO_11
            (try simp only [hl11_62])
            (try simp only [hl11_62] at BK912)
            (try simp only [hl11_62] at BK926)
            (try simp only [hl11_62] at HO_927001)
            cases kq with
            | zero => exact absurd HA.out (by simp [laws_FnExactBestRounding.j2])
            | succ kj62 =>
             have H := HA.out
             clear HA
             simp only [laws_FnExactBestRounding.j2] at H
             by_cases c77 : x97_62 = true
             ·subst c77
              have H1 : (some false) = some r := by rw [if_pos rfl] at H; exact H
              clear H
              have H := H1
              clear H1
              obtain rfl := Option.some.inj H
              as_aux_lemma =>
               go_wp2
               go_ret
               exact ⟨by first | rfl | (simp [Zaq, Zar] <;> rfl) | (simp [*, Zaq, Zar] <;> rfl), by repeat (first | (with_reducible first | exact HB.out | apply Zae | apply Zab | apply Zad | refine Zaf ?_ GE912.out | refine Zaf ?_ GE926.out) | exact HB.out)⟩
             ·replace c77 := Bool.eq_false_iff.mpr c77
              subst c77
              have H1 : ((Zba.f kj62 t941 1).bind fun t952 => (if t952 < 0 then (some false) else (if t952 = t940 then (some true) else (some false)))) = some r := by rw [if_neg (show ¬ (false = true) by decide)] at H; exact H
              clear H
              have H := H1
              clear H1
              replace H := Option.bind_eq_some_iff.mp H
              obtain ⟨t952, A780, H⟩ := H
              replace H : (if t952 < 0 then (some false) else (if t952 = t940 then (some true) else (some false))) = some r := H
              have A78 := Zac.mk A780
              clear A780
              by_cases c79 : t952 < 0
              ·rw [if_pos c79] at H
               have c79b0 : decide (t952 < 0) = true := decide_eq_true c79
               clear c79
               obtain rfl := Option.some.inj H
               as_aux_lemma =>
                go_wp2_with (first | ((with_reducible refine Zaw (f := 19) rfl ?_); refine goesL_ (some 100) rfl rfl Try.func19 (by kernel_rfl) rfl #[.slice Ao64 t941.length co64, .int .i64 1] rfl (by (try simp only [List.map_toArray, List.map_cons, List.map_nil]); first | done | rfl | (simp only [List.length_drop, List.length_take]; rfl)) ?_; (with_reducible refine (Zba.calls kj62 _ _ t941 1 t952 _ ?side1 ?side2 A78.out).mono ?_); (case side1 => repeat (first | exact (Kd.R_reads' HO_11.out).2.2 | (with_reducible refine Kd.C_alloc ?_ _) | (with_reducible refine Kd.C_drewN ?_ _) | (with_reducible refine Kd.C_drew ?_))); (case side2 => exact (Kd.R_reads' HO_11.out).2.1); rintro e w' ⟨rfl, ⟨nd, rfl⟩⟩; refine ⟨_, rfl, ?_⟩))
                go_ret
                exact ⟨by first | rfl | (simp [Zaq, Zar] <;> rfl) | (simp [*, Zaq, Zar] <;> rfl), by repeat (first | (with_reducible first | exact HB.out | apply Zae | apply Zab | apply Zad | refine Zaf ?_ GE912.out | refine Zaf ?_ GE926.out) | exact HB.out)⟩
              ·rw [if_neg c79] at H
               have c79b0 : decide (t952 < 0) = false := decide_eq_false c79
               clear c79
               by_cases c80 : t952 = t940
               ·rw [if_pos c80] at H
                have c80b0 : (t952 == t940) = true := beq_iff_eq.mpr c80
                have c80b1 : (t952 != t940) = false := bne_eq_false_iff_eq.mpr c80
                clear c80
                obtain rfl := Option.some.inj H
                as_aux_lemma =>
                 go_wp2_with (first | ((with_reducible refine Zaw (f := 19) rfl ?_); refine goesL_ (some 100) rfl rfl Try.func19 (by kernel_rfl) rfl #[.slice Ao64 t941.length co64, .int .i64 1] rfl (by (try simp only [List.map_toArray, List.map_cons, List.map_nil]); first | done | rfl | (simp only [List.length_drop, List.length_take]; rfl)) ?_; (with_reducible refine (Zba.calls kj62 _ _ t941 1 t952 _ ?side1 ?side2 A78.out).mono ?_); (case side1 => repeat (first | exact (Kd.R_reads' HO_11.out).2.2 | (with_reducible refine Kd.C_alloc ?_ _) | (with_reducible refine Kd.C_drewN ?_ _) | (with_reducible refine Kd.C_drew ?_))); (case side2 => exact (Kd.R_reads' HO_11.out).2.1); rintro e w' ⟨rfl, ⟨nd, rfl⟩⟩; refine ⟨_, rfl, ?_⟩))
                 go_ret
                 exact ⟨by first | rfl | (simp [Zaq, Zar] <;> rfl) | (simp [*, Zaq, Zar] <;> rfl), by repeat (first | (with_reducible first | exact HB.out | apply Zae | apply Zab | apply Zad | refine Zaf ?_ GE912.out | refine Zaf ?_ GE926.out) | exact HB.out)⟩
               ·rw [if_neg c80] at H
                have c80b0 : (t952 == t940) = false := beq_eq_false_iff_ne.mpr c80
                have c80b1 : (t952 != t940) = true := bne_iff_ne.mpr c80
                obtain rfl := Option.some.inj H
                as_aux_lemma =>
                 go_wp2_with (first | ((with_reducible refine Zaw (f := 19) rfl ?_); refine goesL_ (some 100) rfl rfl Try.func19 (by kernel_rfl) rfl #[.slice Ao64 t941.length co64, .int .i64 1] rfl (by (try simp only [List.map_toArray, List.map_cons, List.map_nil]); first | done | rfl | (simp only [List.length_drop, List.length_take]; rfl)) ?_; (with_reducible refine (Zba.calls kj62 _ _ t941 1 t952 _ ?side1 ?side2 A78.out).mono ?_); (case side1 => repeat (first | exact (Kd.R_reads' HO_11.out).2.2 | (with_reducible refine Kd.C_alloc ?_ _) | (with_reducible refine Kd.C_drewN ?_ _) | (with_reducible refine Kd.C_drew ?_))); (case side2 => exact (Kd.R_reads' HO_11.out).2.1); rintro e w' ⟨rfl, ⟨nd, rfl⟩⟩; refine ⟨_, rfl, ?_⟩))
                 go_ret
                 exact ⟨by first | rfl | (simp [Zaq, Zar] <;> rfl) | (simp [*, Zaq, Zar] <;> rfl), by repeat (first | (with_reducible first | exact HB.out | apply Zae | apply Zab | apply Zad | refine Zaf ?_ GE912.out | refine Zaf ?_ GE926.out) | exact HB.out)⟩
          ·rw [if_neg c60] at H
           have c60b0 : (t942 == t940) = false := beq_eq_false_iff_ne.mpr c60
           have c60b1 : (t942 != t940) = true := bne_iff_ne.mpr c60
           obtain rfl := Option.some.inj H
           obtain ⟨Ao81, co81, eo81⟩ := Kd.R_slice HO_11.out
           subst eo81
           as_aux_lemma =>
            go_wp2_with (first | ((with_reducible refine Zaw (f := 18) rfl ?_); refine goesL_ (some 72) rfl rfl Try.func18 (by kernel_rfl) rfl #[.slice Ao81 t927.length co81, .int .i64 1] rfl (by (try simp only [List.map_toArray, List.map_cons, List.map_nil]); first | done | rfl | (simp only [List.length_drop, List.length_take]; rfl)) ?_; (with_reducible refine (laws_markInt64S.calls kj38 (fun k_ => some k_ = (.slice Ao81 t927.length co81 : Value).ownBlock) (.slice Ao81 t927.length co81) t927 1 t940 t941 w _ ?side1 ?side2 A55.out).mono ?_); (case side1 => repeat (first | (with_reducible first | exact HB.out | apply Zae | apply Zab | apply Zad | refine Zaf ?_ GE912.out | refine Zaf ?_ GE926.out) | exact HB.out)); (case side2 => exact Kd.R_tight rfl HO_11.out); rintro e w82 ⟨rfl, hy0, hb, hkp⟩; refine ⟨_, rfl, ?_⟩; have n0_ := Zac.mk (Kd.R_mono (ok' := fun k_ => some k_ ≠ (.slice Ao81 t927.length co81 : Value).ownBlock ∧ some k_ ≠ (.slice Ao26 t938.length co26 : Value).ownBlock) (Kd.R_keptB (HO_8.out) hkp (fun k_ hk_ hs_ => (hk_.1) hs_)) (fun k_ hk_ => ⟨hk_.1.1, hk_.1.2⟩)); have n1_ := Zac.mk (Kd.R_reok rfl hy0 (fun k_ e_ => HO_11.out.1 k_ e_)); have n2_ := Zac.mk (Kd.R_mono (ok' := fun k_ => some k_ ≠ (v919 : Value).ownBlock ∧ some k_ ≠ (.slice Ao81 t927.length co81 : Value).ownBlock) (Kd.R_keptB (HO_927001.out) hkp (fun k_ hk_ hs_ => (hk_.2) hs_)) (fun k_ hk_ => ⟨hk_.1.1, hk_.1.2⟩)); have n3_ := Zac.mk (blk_kept (by (with_reducible repeat (first | refine Zah ?_ _ | refine Zai ?_ | refine Zag ?_ _)); exact BK912.out) hkp (fun hs_ => (fun e_ => (Kd.R_ne HO_11.out BK912.out (by decide)) e_) hs_)); have n4_ := Zac.mk (blk_kept (by (with_reducible repeat (first | refine Zah ?_ _ | refine Zai ?_ | refine Zag ?_ _)); exact BK926.out) hkp (fun hs_ => (fun e_ => (Kd.R_ne HO_11.out BK926.out (by decide)) e_) hs_)); have n5_ := Zac.mk (hb); clear HO_8; clear HO_11; clear HO_927001; clear BK912; clear BK926; clear HB; have HO_8 := n0_; have HO_11 := n1_; have HO_927001 := n2_; have BK912 := n3_; have BK926 := n4_; have HB := n5_; clear n0_ n1_ n2_ n3_ n4_ n5_; (try clear hb); (try clear hkp); (try clear hy0)) | ((with_reducible refine Zaw (f := 19) rfl ?_); refine goesL_ (some 75) rfl rfl Try.func19 (by kernel_rfl) rfl #[.slice Ao81 t941.length co81, .int .i64 1] rfl (by (try simp only [List.map_toArray, List.map_cons, List.map_nil]); first | done | (rw [show t941.length = t927.length from (Kd.R_reads' HO_11.out).1.symm] <;> rfl) | rfl | (simp only [List.length_drop, List.length_take]; rfl)) ?_; (with_reducible refine (Zba.calls kj38 _ _ t941 1 t942 _ ?side1 ?side2 A56.out).mono ?_); (case side1 => repeat (first | exact (Kd.R_reads' HO_11.out).2.2 | (with_reducible refine Kd.C_alloc ?_ _) | (with_reducible refine Kd.C_drewN ?_ _) | (with_reducible refine Kd.C_drew ?_))); (case side2 => rw [show t941.length = t927.length from (Kd.R_reads' HO_11.out).1.symm]; exact (Kd.R_reads' HO_11.out).2.1); rintro e w' ⟨rfl, ⟨nd, rfl⟩⟩; refine ⟨_, rfl, ?_⟩))
            go_ret
            exact ⟨by first | rfl | (simp [Zaq, Zar] <;> rfl) | (simp [*, Zaq, Zar] <;> rfl), by repeat (first | (with_reducible first | exact HB.out | apply Zae | apply Zab | apply Zad | refine Zaf ?_ GE912.out | refine Zaf ?_ GE926.out) | exact HB.out)⟩
     ·replace c37 := Bool.eq_false_iff.mpr c37
      subst c37
      have H1 : (some false) = some r := by rw [if_neg (show ¬ (false = true) by decide)] at H; exact H
      clear H
      have H := H1
      clear H1
      obtain rfl := Option.some.inj H
      try go_wp2
      have n0_ := Zac.mk (Kd.R_drew HO_8.out)
      have n1_ := Zac.mk (Kd.R_drew HO_11.out)
      have n2_ := Zac.mk (Kd.R_drew HO_927001.out)
      have n3_ := Zac.mk (Zai BK912.out)
      have n4_ := Zac.mk (Zai BK926.out)
      have n5_ := Zac.mk (Zad HB.out)
      clear HO_8
      clear HO_11
      clear HO_927001
      clear BK912
      clear BK926
      clear HB
      have HO_8 := n0_
      have HO_11 := n1_
      have HO_927001 := n2_
      have BK912 := n3_
      have BK926 := n4_
      have HB := n5_
      clear n0_ n1_ n2_ n3_ n4_ n5_
      refine start_ (n := 5) (S := fun w' => w'.cell? ⟨gb926, 0, none⟩ = some (.int .i64 t922) ∧ w'.cell? ⟨gb926, 1, none⟩ = some (.slice Ao26 t923.length co26) ∧ w'.cell? ⟨gb912, 0, none⟩ = some (.int .i64 a0_0) ∧ w'.cell? ⟨gb912, 1, none⟩ = some (.slice A0_1 l0_1.length c0_1)) (ds := []) #[false, false, false, false, false] (by kernel_rfl) rfl rfl ⟨(Zak BK926.out 0).trans rfl, (Zak BK926.out 1).trans rfl, (Zak BK912.out 0).trans rfl, (Zak BK912.out 1).trans rfl⟩ (fun hHeld => ?_)
      generalize wc.drew = w83 at HO_8 HO_11 HO_927001 BK912 BK926 HB hHeld ⊢
      refine take_ (i := 0) (N := some 49) (v := ?_) (a' := ?_) #[true, false, false, false, false] rfl rfl (by kernel_rfl) (fun _ _ _ h => h) (Or.inl ⟨by rfl, ?_⟩) hHeld ?_ ?_
      rotate_left
      ·rintro w' ⟨s0, s1, s2, s3⟩
       go_simp
       with_reducible rfl
      rotate_left
      ·simp only [Act.put, ZA, ZB, ZC, i64_w, i32_w]
       rfl
      refine take_ (i := 1) (N := some 50) (v := ?_) (a' := ?_) #[true, true, false, false, false] rfl rfl (by kernel_rfl) (fun _ _ _ h => h) (Or.inl ⟨by rfl, ?_⟩) hHeld ?_ ?_
      rotate_left
      ·rintro w' ⟨s0, s1, s2, s3⟩
       go_simp
       with_reducible rfl
      rotate_left
      ·simp only [Act.put, ZA, ZB, ZC, i64_w, i32_w]
       rfl
      refine one_ (i := 2) (N := some 51) #[true, true, true, false, false] rfl rfl (by kernel_rfl) (by decide) (fun K hK => ?_)
      refine goes_ Try.func13 (by kernel_rfl) rfl #[.agg #[.int .i64 a0_0, .slice A0_1 l0_1.length c0_1]] (by rfl) rfl rfl (by (try simp only [List.map_toArray, List.map_cons, List.map_nil]); first | done | rfl | (simp only [List.length_drop, List.length_take]; rfl)) ?_
      with_reducible refine (laws_toValues.calls kj12 a0_0 _ _ l0_1 t932 t933 _ ?side1 ?side2 A35.out).mono ?_
      (case side1 => repeat (first | exact (Kd.C_below HR0_1.out HB.out) | (with_reducible refine Kd.C_alloc ?_ _) | (with_reducible refine Kd.C_drewN ?_ _) | (with_reducible refine Kd.C_drew ?_)))
      (case side2 => exact HC0_1.out)
      rintro e w84 ⟨v934, rfl, ho0, hb⟩
      refine ⟨_, rfl, ?_⟩
      have n0_ := Zac.mk (Kd.R_elder' (by (with_reducible repeat (first | apply Kd.R_alloc | apply Kd.R_drewN | apply Kd.R_drew)); exact HO_8.out) (Kd.R_base ho0) hb)
      have n1_ := Zac.mk (Kd.R_elder' (by (with_reducible repeat (first | apply Kd.R_alloc | apply Kd.R_drewN | apply Kd.R_drew)); exact HO_11.out) (Kd.R_base ho0) hb)
      have n2_ := Zac.mk (Kd.R_elder' (by (with_reducible repeat (first | apply Kd.R_alloc | apply Kd.R_drewN | apply Kd.R_drew)); exact HO_927001.out) (Kd.R_base ho0) hb)
      have n3_ := Zac.mk (Kd.R_lower (Kd.R_new' (Kd.R_new' (Kd.R_new' ho0 (Kd.R_lt (by (with_reducible repeat (first | apply Kd.R_alloc | apply Kd.R_drewN | apply Kd.R_drew)); exact HO_8.out))) (Kd.R_lt (by (with_reducible repeat (first | apply Kd.R_alloc | apply Kd.R_drewN | apply Kd.R_drew)); exact HO_11.out))) (Kd.R_lt (by (with_reducible repeat (first | apply Kd.R_alloc | apply Kd.R_drewN | apply Kd.R_drew)); exact HO_927001.out))) (Zap (by repeat (first | (with_reducible first | exact HB.out | apply Zae | apply Zab | apply Zad | refine Zaf ?_ GE912.out | refine Zaf ?_ GE926.out) | exact HB.out))))
      have n4_ := Zac.mk (Zat (g := gb912) (o := .cells #[.int .i64 a0_0, .slice A0_1 l0_1.length c0_1] 24 (0, 0)) (by (with_reducible repeat (first | refine Zah ?_ _ | refine Zai ?_ | refine Zag ?_ _)); exact BK912.out) hb)
      have n5_ := Zac.mk (Zat (g := gb926) (o := .cells #[.int .i64 t922, .slice Ao26 t923.length co26] 28 (0, 0)) (by (with_reducible repeat (first | refine Zah ?_ _ | refine Zai ?_ | refine Zag ?_ _)); exact BK926.out) hb)
      have n6_ := Zac.mk (Zas (by repeat (first | (with_reducible first | exact HB.out | apply Zae | apply Zab | apply Zad | refine Zaf ?_ GE912.out | refine Zaf ?_ GE926.out) | exact HB.out)) hb)
      clear HO_8
      clear HO_11
      clear HO_927001
      clear BK912
      clear BK926
      clear HB
      have HO_8 := n0_
      have HO_11 := n1_
      have HO_927001 := n2_
      have HO935 := n3_
      have BK912 := n4_
      have BK926 := n5_
      have HB := n6_
      clear n0_ n1_ n2_ n3_ n4_ n5_ n6_
      (try clear hb)
      (try clear hb2)
      (try clear hk)
      (try clear hi)
      (try clear ho0)
      obtain ⟨Ao85, co85, eo85⟩ := Kd.R_slice HO935.out
      (first | subst eo85 | (injection eo85 with f1_ f2_ f3_; have f4_ := f1_.symm; have f5_ := f3_.symm; clear f1_ f2_ f3_; subst f4_; subst f5_))
      refine hK.out _ _ ⟨(Zak BK926.out 0).trans rfl, (Zak BK926.out 1).trans rfl, (Zak BK912.out 0).trans rfl, (Zak BK912.out 1).trans rfl⟩ (fun hHeld => ?_)
      clear hK K
      refine norm_ (a' := ?_) ?_ ?_
      rotate_left
      ·show Act.put _ (some 51) _ = _
       simp only [Act.put, ZA, ZB, ZC, i64_w, i32_w]
       rfl
      refine one_ (i := 3) (N := some 52) #[true, true, true, true, false] rfl rfl (by kernel_rfl) (by decide) (fun K hK => ?_)
      refine goes_ Try.func16 (by kernel_rfl) rfl #[.agg #[.int .i64 t922, .slice Ao26 t923.length co26], .agg #[.int .i64 t932, .slice Ao85 t933.length co85]] (by rfl) rfl rfl (by (try simp only [List.map_toArray, List.map_cons, List.map_nil]); first | done | rfl | (simp only [List.length_drop, List.length_take]; rfl)) ?_
      with_reducible refine (laws_eqValues.calls kj12 t922 _ _ t923 t932 _ _ t933 false _ ?side1 ?side2 ?side3 ?side4 A36.out).mono ?_
      (case side1 => repeat (first | exact (Kd.R_reads' HO_927001.out).2.2 | (with_reducible refine Kd.C_alloc ?_ _) | (with_reducible refine Kd.C_drewN ?_ _) | (with_reducible refine Kd.C_drew ?_)))
      (case side2 => exact (Kd.R_reads' HO_927001.out).2.1)
      (case side3 => repeat (first | exact (Kd.R_reads' HO935.out).2.2 | (with_reducible refine Kd.C_alloc ?_ _) | (with_reducible refine Kd.C_drewN ?_ _) | (with_reducible refine Kd.C_drew ?_)))
      (case side4 => exact (Kd.R_reads' HO935.out).2.1)
      rintro e w86 ⟨rfl, hb⟩
      refine ⟨_, rfl, ?_⟩
      have n0_ := Zac.mk (Kd.R_below (by (with_reducible repeat (first | apply Kd.R_alloc | apply Kd.R_drewN | apply Kd.R_drew)); exact HO_8.out) hb)
      have n1_ := Zac.mk (Kd.R_below (by (with_reducible repeat (first | apply Kd.R_alloc | apply Kd.R_drewN | apply Kd.R_drew)); exact HO_11.out) hb)
      have n2_ := Zac.mk (Kd.R_below (by (with_reducible repeat (first | apply Kd.R_alloc | apply Kd.R_drewN | apply Kd.R_drew)); exact HO_927001.out) hb)
      have n3_ := Zac.mk (Kd.R_below (by (with_reducible repeat (first | apply Kd.R_alloc | apply Kd.R_drewN | apply Kd.R_drew)); exact HO935.out) hb)
      have n4_ := Zac.mk (Zat (g := gb912) (o := .cells #[.int .i64 a0_0, .slice A0_1 l0_1.length c0_1] 24 (0, 0)) (by (with_reducible repeat (first | refine Zah ?_ _ | refine Zai ?_ | refine Zag ?_ _)); exact BK912.out) hb)
      have n5_ := Zac.mk (Zat (g := gb926) (o := .cells #[.int .i64 t922, .slice Ao26 t923.length co26] 28 (0, 0)) (by (with_reducible repeat (first | refine Zah ?_ _ | refine Zai ?_ | refine Zag ?_ _)); exact BK926.out) hb)
      have n6_ := Zac.mk (Zas (by repeat (first | (with_reducible first | exact HB.out | apply Zae | apply Zab | apply Zad | refine Zaf ?_ GE912.out | refine Zaf ?_ GE926.out) | exact HB.out)) hb)
      clear HO_8
      clear HO_11
      clear HO_927001
      clear HO935
      clear BK912
      clear BK926
      clear HB
      have HO_8 := n0_
      have HO_11 := n1_
      have HO_927001 := n2_
      have HO935 := n3_
      have BK912 := n4_
      have BK926 := n5_
      have HB := n6_
      clear n0_ n1_ n2_ n3_ n4_ n5_ n6_
      (try clear hb)
      (try clear hb2)
      (try clear hk)
      (try clear hi)
      refine hK.out _ _ ⟨(Zak BK926.out 0).trans rfl, (Zak BK926.out 1).trans rfl, (Zak BK912.out 0).trans rfl, (Zak BK912.out 1).trans rfl⟩ (fun hHeld => ?_)
      clear hK K
      refine norm_ (a' := ?_) ?_ ?_
      rotate_left
      ·show Act.put _ (some 52) _ = _
       simp only [Act.put, ZA, ZB, ZC, i64_w, i32_w]
       rfl
      refine pure_ (i := 4) (N := some 53) (v := ?_) (a' := ?_) #[true, true, true, true, true] rfl rfl (by kernel_rfl) (fun _ _ _ h => h) (Or.inl ⟨by rfl, ?_⟩) ?_ ?_
      rotate_left
      ·intro w'
       go_simp
       with_reducible rfl
      rotate_left
      ·simp only [Act.put, ZA, ZB, ZC, i64_w, i32_w]
       rfl
      refine done_ (by kernel_rfl) ?_
      try go_wp2
      go_ret
      exact ⟨by first | rfl | (simp [Zaq, Zar] <;> rfl) | (simp [*, Zaq, Zar] <;> rfl), by repeat (first | (with_reducible first | exact HB.out | apply Zae | apply Zab | apply Zad | refine Zaf ?_ GE912.out | refine Zaf ?_ GE926.out) | exact HB.out)⟩
def laws_FnExactBestRounding.Pure : Prop := ∀ (a0_0 : Int) (l0_1 : List Int) (a1 : Int) (a2 : Int), (Lit.int .i64 a0_0).wf = true → l0_1.length ≤ maxLen → (∀ x ∈ l0_1, (Lit.int .i64 x).wf = true) → (Lit.int .i64 a1).wf = true → (Lit.int .i64 a2).wf = true → ∃ k, laws_FnExactBestRounding.f k a0_0 l0_1 a1 a2 = some true
theorem laws_FnExactBestRounding.walk (P : laws_FnExactBestRounding.Pure) (a0_0 : Int) (A0_1 : Option Addr) (len0_1 cap0_1 : Nat) (z0_1 : List Int) (a1 : Int) (a2 : Int) (w : World) (w0_0 : (Lit.int .i64 a0_0).wf = true) (w0_1 : (A0_1 = none ∧ len0_1 = 0 ∧ cap0_1 = 0 ∧ z0_1 = []) ∨ ∃ x, A0_1 = some x ∧ len0_1 ≤ cap0_1 ∧ cap0_1 ≤ maxLen ∧ z0_1.length = cap0_1 ∧ (∀ i, i < z0_1.length → w.cell? (x.add i) = some (.int .i64 (z0_1.getD i 0))) ∧ ∀ n ∈ z0_1, (Lit.int .i64 n).wf = true) (w1 : (Lit.int .i64 a1).wf = true) (w2 : (Lit.int .i64 a2).wf = true) :
  Calls Try.prog 10 #[.agg #[.int .i64 a0_0, .slice A0_1 len0_1 cap0_1], .int .i64 a1, .int .i64 a2] w fun e w' => e = .returned (.bool true) ∧ Below w.heap.size w w' := by
 obtain ⟨l0_1, rfl, hr0_1, hm0_1, hw0_1, hc0_1⟩ := ReadsInt.ofRowC w0_1
 obtain ⟨k, h⟩ := P a0_0 l0_1 a1 a2 w0_0 hm0_1 hw0_1 w1 w2
 refine (laws_FnExactBestRounding.calls k a0_0 _ _ l0_1 a1 a2 true w (Kd.C_of_reads (d := (0 : Int)) (h1 := fun _ => rfl) hr0_1) hc0_1 h).mono ?_
 rintro e w' ⟨rfl, hd⟩
 exact ⟨rfl, hd⟩
end Go.Proofs.Ytgmmfdilfpkbmaa.P
