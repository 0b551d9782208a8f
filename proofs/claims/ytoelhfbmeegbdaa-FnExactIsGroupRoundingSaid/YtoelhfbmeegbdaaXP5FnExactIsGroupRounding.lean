import Derived.Test.YtoelhfbmeegbdaaXP0FnExactIsGroupRounding
import Derived.Test.YtoelhfbmeegbdaaXP2FnExactIsGroupRounding
import Derived.Test.YtoelhfbmeegbdaaXP4FnExactIsGroupRounding
namespace Go.Proofs.Ytoelhfbmeegbdaa.P
open Go.RowKit Go.Proofs.YtoelhfbmeegbdaaW.PrintWords Go.Proofs.YtoelhfbmeegbdaaW.PrintLast Go.Proofs.YtoelhfbmeegbdaaW.PrintMore
attribute [local go_sem] max2_int min2_int max_two min_two max_three min_three max_four min_four
set_option linter.unusedVariables false
set_option linter.unusedSimpArgs false
def spec_l04Laminar.f (k : Nat) (a0_0 : Int) (l0_1 : List Int) (l1 : List (List Int)) : Option (Bool) := (spec_l01Is.f k a0_0 l0_1).bind fun t150 => (if t150 = true then ((Zaq.f k (l0_1.length : Int) l1).bind fun t151 => (some t151)) else (some false))
set_option maxHeartbeats 8000000 in
set_option maxRecDepth 100000 in
theorem spec_l04Laminar.calls (k : Nat) (gp50 : Nat) (a0_0 : Int) (A0_1 : Option Addr) (c0_1 : Nat) (l0_1 : List Int) (A1 : Option Addr) (c1 : Nat) (l1 : List (List Int)) (r : Bool) (w : World) (hb50 : w.heap[gp50]? = some (.cells #[.int .i64 a0_0, .slice A0_1 l0_1.length c0_1] 29 (0, 0))) (hr0_1 : Kd.C (Kd.int .i64) w A0_1 l0_1.length l0_1) (hc0_1 : l0_1.length ≤ c0_1) (hr1 : Kd.C (Kd.slice 2 (Kd.int .i64)) w A1 l1.length l1) (hc1 : l1.length ≤ c1) (h : spec_l04Laminar.f k a0_0 l0_1 l1 = some r) :
  Calls Try.prog 18 #[.pointer (some ⟨gp50, 0, none⟩), .slice A1 l1.length c1] w fun e w' => e = .returned (.bool r) ∧ Below w.heap.size w w' := by
 have HR0_1 := Zab.mk hr0_1
 have HC0_1 := Zab.mk hc0_1
 clear hr0_1 hc0_1
 have HR1 := Zab.mk hr1
 have HC1 := Zab.mk hc1
 clear hr1 hc1
 have BK50 := Zab.mk hb50
 clear hb50
 have HB := Zab.mk (Below.refl w.heap.size w)
 have H : ((spec_l01Is.f k a0_0 l0_1).bind fun t150 => (if t150 = true then ((Zaq.f k (l0_1.length : Int) l1).bind fun t151 => (some t151)) else (some false))) = some r := h
 clear h
 replace H := Option.bind_eq_some_iff.mp H
 obtain ⟨t150, A30, H⟩ := H
 replace H : (if t150 = true then ((Zaq.f k (l0_1.length : Int) l1).bind fun t151 => (some t151)) else (some false)) = some r := H
 have A3 := Zab.mk A30
 clear A30
 by_cases c4 : t150 = true
 ·subst c4
  have H1 : ((Zaq.f k (l0_1.length : Int) l1).bind fun t151 => (some t151)) = some r := by rw [if_pos rfl] at H; exact H
  clear H
  have H := H1
  clear H1
  replace H := Option.bind_eq_some_iff.mp H
  obtain ⟨t151, A50, H⟩ := H
  replace H : (some t151) = some r := H
  have A5 := Zab.mk A50
  clear A50
  obtain rfl := Option.some.inj H
  go_enter Try.func18, Try.ntmps18
  go_wp2_with (first | ((with_reducible refine Zap (f := 32) rfl ?_); refine Za9 (some 6) rfl rfl Try.func32 (by kernel_rfl) rfl #[.pointer (some ⟨gp50, 0, none⟩)] rfl (by (try simp only [List.map_toArray, List.map_cons, List.map_nil]); first | done | rfl | (simp only [List.length_drop, List.length_take]; rfl)) ?_; (with_reducible refine (spec_l01Is.calls k gp50 a0_0 A0_1 c0_1 l0_1 true _ ?side1 ?side2 ?side3 A3.out).mono ?_); (case side1 => exact (by (with_reducible repeat (first | refine Zag ?_ _ | refine Zah ?_ | refine Zaf ?_ _)); exact BK50.out)); (case side2 => repeat (first | exact HR0_1.out | (with_reducible refine Kd.C_alloc ?_ _) | (with_reducible refine Kd.C_drewN ?_ _) | (with_reducible refine Kd.C_drew ?_))); (case side3 => exact HC0_1.out); rintro e w6 ⟨rfl, hb⟩; refine ⟨_, rfl, ?_⟩; have n0_ := Zab.mk (Zal (g := gp50) (o := .cells #[.int .i64 a0_0, .slice A0_1 l0_1.length c0_1] 29 (0, 0)) (by (with_reducible repeat (first | refine Zag ?_ _ | refine Zah ?_ | refine Zaf ?_ _)); exact BK50.out) hb); have n1_ := Zab.mk (Zaj (by repeat (first | (with_reducible first | exact HB.out | apply Zad | apply Zaa | apply Zac | refine Zae ?_ GE50.out) | exact HB.out)) hb); clear BK50; clear HB; have BK50 := n0_; have HB := n1_; clear n0_ n1_; (try clear hb); (try clear hb2); (try clear hk); (try clear hi); have hcz7_0 : w6.cell? ⟨gp50, 0, none⟩ = some (.int .i64 a0_0) := (Zak BK50.out 0).trans rfl; have hcz7_1 : w6.cell? ⟨gp50, 1, none⟩ = some (.slice A0_1 l0_1.length c0_1) := (Zak BK50.out 1).trans rfl; have hfz7_0 := Zam BK50.out 0; have hfz7_1 := Zam BK50.out 1) | (go_at_call 33; (with_reducible refine (Zaq.calls k (l0_1.length : Int) _ _ l1 t151 _ ?side1 ?side2 A5.out).mono ?_); (case side1 => repeat (first | exact (Kd.C_below HR1.out HB.out) | (with_reducible refine Kd.C_alloc ?_ _) | (with_reducible refine Kd.C_drewN ?_ _) | (with_reducible refine Kd.C_drew ?_))); (case side2 => exact HC1.out); rintro e w' ⟨rfl, ⟨nd, rfl⟩⟩))
  go_ret
  exact ⟨by first | rfl | (simp [Zas, Zat] <;> rfl) | (simp [*, Zas, Zat] <;> rfl), by repeat (first | (with_reducible first | exact HB.out | apply Zad | apply Zaa | apply Zac | refine Zae ?_ GE50.out) | exact HB.out)⟩
 ·replace c4 := Bool.eq_false_iff.mpr c4
  subst c4
  have H1 : (some false) = some r := by rw [if_neg (show ¬ (false = true) by decide)] at H; exact H
  clear H
  have H := H1
  clear H1
  obtain rfl := Option.some.inj H
  go_enter Try.func18, Try.ntmps18
  go_wp2_with (first | ((with_reducible refine Zap (f := 32) rfl ?_); refine Za9 (some 6) rfl rfl Try.func32 (by kernel_rfl) rfl #[.pointer (some ⟨gp50, 0, none⟩)] rfl (by (try simp only [List.map_toArray, List.map_cons, List.map_nil]); first | done | rfl | (simp only [List.length_drop, List.length_take]; rfl)) ?_; (with_reducible refine (spec_l01Is.calls k gp50 a0_0 A0_1 c0_1 l0_1 false _ ?side1 ?side2 ?side3 A3.out).mono ?_); (case side1 => exact (by (with_reducible repeat (first | refine Zag ?_ _ | refine Zah ?_ | refine Zaf ?_ _)); exact BK50.out)); (case side2 => repeat (first | exact HR0_1.out | (with_reducible refine Kd.C_alloc ?_ _) | (with_reducible refine Kd.C_drewN ?_ _) | (with_reducible refine Kd.C_drew ?_))); (case side3 => exact HC0_1.out); rintro e w8 ⟨rfl, hb⟩; refine ⟨_, rfl, ?_⟩; have n0_ := Zab.mk (Zal (g := gp50) (o := .cells #[.int .i64 a0_0, .slice A0_1 l0_1.length c0_1] 29 (0, 0)) (by (with_reducible repeat (first | refine Zag ?_ _ | refine Zah ?_ | refine Zaf ?_ _)); exact BK50.out) hb); have n1_ := Zab.mk (Zaj (by repeat (first | (with_reducible first | exact HB.out | apply Zad | apply Zaa | apply Zac | refine Zae ?_ GE50.out) | exact HB.out)) hb); clear BK50; clear HB; have BK50 := n0_; have HB := n1_; clear n0_ n1_; (try clear hb); (try clear hb2); (try clear hk); (try clear hi)))
  go_ret
  exact ⟨by first | rfl | (simp [Zas, Zat] <;> rfl) | (simp [*, Zas, Zat] <;> rfl), by repeat (first | (with_reducible first | exact HB.out | apply Zad | apply Zaa | apply Zac | refine Zae ?_ GE50.out) | exact HB.out)⟩
def spec_l01Floor.f (a0 : Int) (a1 : Int) : Option (Int) := if a1 = 0 then (none) else (if (wrap64 ((wrap64 (Int.tdiv a0 a1)) * a1)) > a0 then (some (wrap64 ((wrap64 (Int.tdiv a0 a1)) - 1))) else (some (wrap64 (Int.tdiv a0 a1))))
set_option maxHeartbeats 8000000 in
set_option maxRecDepth 100000 in
theorem spec_l01Floor.calls (a0 : Int) (a1 : Int) (r : Int) (w : World) (h : spec_l01Floor.f a0 a1 = some r) :
  Calls Try.prog 27 #[.int .i64 a0, .int .i64 a1] w fun e w' => e = .returned (.int .i64 r) ∧ Za1 w w' := by
 have H : (if a1 = 0 then (none) else (if (wrap64 ((wrap64 (Int.tdiv a0 a1)) * a1)) > a0 then (some (wrap64 ((wrap64 (Int.tdiv a0 a1)) - 1))) else (some (wrap64 (Int.tdiv a0 a1))))) = some r := h
 clear h
 by_cases c3 : a1 = 0
 ·rw [if_pos c3] at H
  exact absurd H (by simp)
 ·rw [if_neg c3] at H
  have c3b0 : (a1 == 0) = false := beq_eq_false_iff_ne.mpr c3
  have c3b1 : (a1 != 0) = true := bne_iff_ne.mpr c3
  by_cases c4 : (wrap64 ((wrap64 (Int.tdiv a0 a1)) * a1)) > a0
  ·rw [if_pos c4] at H
   have c4b0 : decide (a0 < (wrap64 ((wrap64 (Int.tdiv a0 a1)) * a1))) = true := decide_eq_true c4
   clear c4
   obtain rfl := Option.some.inj H
   go_enter Try.func27, Try.ntmps27
   go_wp2
   go_ret
   exact ⟨by first | rfl | (simp; done) | (simp [*]; done), by repeat (first | exact Za1.refl _ | apply Za1.step)⟩
  ·rw [if_neg c4] at H
   have c4b0 : decide (a0 < (wrap64 ((wrap64 (Int.tdiv a0 a1)) * a1))) = false := decide_eq_false c4
   clear c4
   obtain rfl := Option.some.inj H
   go_enter Try.func27, Try.ntmps27
   go_wp2
   go_ret
   exact ⟨by first | rfl | (simp; done) | (simp [*]; done), by repeat (first | exact Za1.refl _ | apply Za1.step)⟩
def spec_l01Ceil.f (a0 : Int) (a1 : Int) : Option (Int) := (spec_l01Floor.f (wrap64 (-a0)) a1).bind fun t152 => (some (wrap64 (-t152)))
set_option maxHeartbeats 8000000 in
set_option maxRecDepth 100000 in
theorem spec_l01Ceil.calls (a0 : Int) (a1 : Int) (r : Int) (w : World) (h : spec_l01Ceil.f a0 a1 = some r) :
  Calls Try.prog 28 #[.int .i64 a0, .int .i64 a1] w fun e w' => e = .returned (.int .i64 r) ∧ Za1 w w' := by
 have H : ((spec_l01Floor.f (wrap64 (-a0)) a1).bind fun t152 => (some (wrap64 (-t152)))) = some r := h
 clear h
 replace H := Option.bind_eq_some_iff.mp H
 obtain ⟨t152, A30, H⟩ := H
 replace H : (some (wrap64 (-t152))) = some r := H
 have A3 := Zab.mk A30
 clear A30
 obtain rfl := Option.some.inj H
 go_enter Try.func28, Try.ntmps28
 go_wp2_with (first | ((with_reducible refine Zap (f := 27) rfl ?_); refine Za9 (some 8) rfl rfl Try.func27 (by kernel_rfl) rfl #[.int .i64 (wrap64 (-a0)), .int .i64 a1] rfl (by (try simp only [List.map_toArray, List.map_cons, List.map_nil]); first | done | rfl | (simp only [List.length_drop, List.length_take]; rfl)) ?_; (with_reducible refine (spec_l01Floor.calls (wrap64 (-a0)) a1 t152 _ A3.out).mono ?_); rintro e w' ⟨rfl, ⟨nd, rfl⟩⟩; refine ⟨_, rfl, ?_⟩))
 go_ret
 exact ⟨by first | rfl | (simp; done) | (simp [*]; done), by repeat (first | exact Za1.refl _ | apply Za1.step)⟩
end Go.Proofs.Ytoelhfbmeegbdaa.P
