import Derived.Test.YtgmmfdilfpkbmaaXP0FnCountedBest
import Derived.Test.YtgmmfdilfpkbmaaXP10FnCountedBest
namespace Go.Proofs.Ytgmmfdilfpkbmaa.P
open Go.RowKit Go.Proofs.YtgmmfdilfpkbmaaW.PrintWords Go.Proofs.YtgmmfdilfpkbmaaW.PrintLast Go.Proofs.YtgmmfdilfpkbmaaW.PrintMore
attribute [local go_sem] max2_int min2_int max_two min_two max_three min_three max_four min_four
set_option linter.unusedVariables false
set_option linter.unusedSimpArgs false
def impl_compare.f (a0 : Int) (a1 : Int) : Option (Int) := if a0 < a1 then (some (-1)) else (if a0 > a1 then (some 1) else (some 0))
set_option maxHeartbeats 8000000 in
set_option maxRecDepth 100000 in
theorem impl_compare.calls (a0 : Int) (a1 : Int) (r : Int) (w : World) (h : impl_compare.f a0 a1 = some r) :
  Calls Try.prog 112 #[.int .i64 a0, .int .i64 a1] w fun e w' => e = .returned (.int .i64 r) ∧ Drawn0 w w' := by
 have H : (if a0 < a1 then (some (-1)) else (if a0 > a1 then (some 1) else (some 0))) = some r := h
 clear h
 by_cases c3 : a0 < a1
 ·rw [if_pos c3] at H
  have c3b0 : decide (a0 < a1) = true := decide_eq_true c3
  clear c3
  obtain rfl := Option.some.inj H
  go_enter Try.func112, Try.ntmps112
  go_wp2
  go_ret
  exact ⟨by first | rfl | (simp; done) | (simp [*]; done), by repeat (first | exact Drawn0.refl _ | apply Drawn0.step)⟩
 ·rw [if_neg c3] at H
  have c3b0 : decide (a0 < a1) = false := decide_eq_false c3
  clear c3
  by_cases c4 : a0 > a1
  ·rw [if_pos c4] at H
   have c4b0 : decide (a1 < a0) = true := decide_eq_true c4
   clear c4
   obtain rfl := Option.some.inj H
   go_enter Try.func112, Try.ntmps112
   go_wp2
   go_ret
   exact ⟨by first | rfl | (simp; done) | (simp [*]; done), by repeat (first | exact Drawn0.refl _ | apply Drawn0.step)⟩
  ·rw [if_neg c4] at H
   have c4b0 : decide (a1 < a0) = false := decide_eq_false c4
   clear c4
   obtain rfl := Option.some.inj H
   go_enter Try.func112, Try.ntmps112
   go_wp2
   go_ret
   exact ⟨by first | rfl | (simp; done) | (simp [*]; done), by repeat (first | exact Drawn0.refl _ | apply Drawn0.step)⟩
def impl_planFor_1_v.f (a0 : Int) (a1 : Int) (a2_0 : Int) (l2_1 : List Int) : Option (Int) := (Za3.f a2_0 l2_1 a1).bind fun t457 => ((Za3.f a2_0 l2_1 a0).bind fun t458 => ((impl_compare.f t457 t458).bind fun t459 => (some t459)))
def impl_planFor_1_v.T1 : Bool × List (List Nat × List Nat) := (true, [([], []), ([], []), ([0, 1], [0, 1]), ([], []), ([], []), ([3, 4, 2], [3, 4]), ([2, 5, 5], [2, 5]), ([6, 6, 0, 1, 2, 3, 4, 5, 6], [6])])
def impl_planFor_1_v.B1 : List Nat := [0, 0, 3, 0, 0, 31, 63, 127]
theorem impl_planFor_1_v.tab1 : rtab .any (opsOf Try.f111 1) = impl_planFor_1_v.T1 := by kernel_rfl
theorem impl_planFor_1_v.bits1 : waitsOk impl_planFor_1_v.T1.2 impl_planFor_1_v.B1 = true := by kernel_rfl
set_option maxHeartbeats 8000000 in
set_option maxRecDepth 100000 in
theorem impl_planFor_1_v.calls (a0 : Int) (a1 : Int) (gp50 : Nat) (a2_0 : Int) (A2_1 : Option Addr) (c2_1 : Nat) (l2_1 : List Int) (r : Int) (w : World) (hb50 : w.heap[gp50]? = some (.cells #[.int .i64 a2_0, .slice A2_1 l2_1.length c2_1] 28 (0, 0))) (hr2_1 : Kd.C (Kd.int .i64) w A2_1 l2_1.length l2_1) (hc2_1 : l2_1.length ≤ c2_1) (h : impl_planFor_1_v.f a0 a1 a2_0 l2_1 = some r) :
  Calls Try.prog 111 #[.int .i64 a0, .int .i64 a1, .pointer (some ⟨gp50, 0, none⟩)] w fun e w' => e = .returned (.int .i64 r) ∧ Below w.heap.size w w' := by
 have hu28 := Try.underlying28
 have HR2_1 := Zab.mk hr2_1
 have HC2_1 := Zab.mk hc2_1
 clear hr2_1 hc2_1
 have BK50 := Zab.mk hb50
 clear hb50
 have HB := Zab.mk (Below.refl w.heap.size w)
 have H : ((Za3.f a2_0 l2_1 a1).bind fun t457 => ((Za3.f a2_0 l2_1 a0).bind fun t458 => ((impl_compare.f t457 t458).bind fun t459 => (some t459)))) = some r := h
 clear h
 replace H := Option.bind_eq_some_iff.mp H
 obtain ⟨t457, A40, H⟩ := H
 replace H : ((Za3.f a2_0 l2_1 a0).bind fun t458 => ((impl_compare.f t457 t458).bind fun t459 => (some t459))) = some r := H
 have A4 := Zab.mk A40
 clear A40
 replace H := Option.bind_eq_some_iff.mp H
 obtain ⟨t458, A50, H⟩ := H
 replace H : ((impl_compare.f t457 t458).bind fun t459 => (some t459)) = some r := H
 have A5 := Zab.mk A50
 clear A50
 replace H := Option.bind_eq_some_iff.mp H
 obtain ⟨t459, A60, H⟩ := H
 replace H : (some t459) = some r := H
 have A6 := Zab.mk A60
 clear A60
 obtain rfl := Option.some.inj H
 go_enter Try.func111, Try.ntmps111
 try go_wp2
 have n0_ := Zab.mk (Zah BK50.out)
 have n1_ := Zab.mk (Zac HB.out)
 clear BK50
 clear HB
 have BK50 := n0_
 have HB := n1_
 clear n0_ n1_
 refine start_ (n := 8) (S := fun w' => w'.cell? ⟨gp50, 0, none⟩ = some (.int .i64 a2_0) ∧ w'.cell? ⟨gp50, 1, none⟩ = some (.slice A2_1 l2_1.length c2_1)) (ds := []) #[false, false, false, false, false, false, false, false] (by kernel_rfl) rfl rfl ⟨(Zaj BK50.out 0).trans rfl, (Zaj BK50.out 1).trans rfl⟩ (fun hHeld => ?_); refine with_tabW impl_planFor_1_v.tab1 impl_planFor_1_v.bits1 (fun HT_ HW_ => ?_)
 generalize w.drew = w7 at BK50 HB hHeld ⊢
 refine pure_ (i := 1) (N := some 7) (v := ?_) (a' := ?_) #[false, true, false, false, false, false, false, false] rfl rfl (Za1 HT_.out (by kernel_rfl)) (fun _ _ _ h => h) (Or.inl ⟨by rfl, ?_⟩) ?_ ?_
 rotate_left
 ·intro w'
  go_simp
  with_reducible rfl
 rotate_left
 ·simp only [Act.put, ZA, ZB, ZC, i64_w, i32_w]
  rfl
 refine pure_ (i := 4) (N := some 10) (v := ?_) (a' := ?_) #[false, true, false, false, true, false, false, false] rfl rfl (Za1 HT_.out (by kernel_rfl)) (fun _ _ _ h => h) (Or.inl ⟨by rfl, ?_⟩) ?_ ?_
 rotate_left
 ·intro w'
  go_simp
  with_reducible rfl
 rotate_left
 ·simp only [Act.put, ZA, ZB, ZC, i64_w, i32_w]
  rfl
 refine take_ (i := 0) (N := some 6) (v := ?_) (a' := ?_) #[true, true, false, false, true, false, false, false] rfl rfl (take_ofW HT_.out HW_.out (by kernel_rfl)) (fun _ _ _ h => h) (Or.inl ⟨by rfl, ?_⟩) hHeld ?_ ?_
 rotate_left
 ·rintro w' ⟨s0, s1⟩
  go_simp
  with_reducible rfl
 rotate_left
 ·simp only [Act.put, ZA, ZB, ZC, i64_w, i32_w]
  rfl
 refine take_ (i := 3) (N := some 9) (v := ?_) (a' := ?_) #[true, true, false, true, true, false, false, false] rfl rfl (take_ofW HT_.out HW_.out (by kernel_rfl)) (fun _ _ _ h => h) (Or.inl ⟨by rfl, ?_⟩) hHeld ?_ ?_
 rotate_left
 ·rintro w' ⟨s0, s1⟩
  go_simp
  with_reducible rfl
 rotate_left
 ·simp only [Act.put, ZA, ZB, ZC, i64_w, i32_w]
  rfl
 refine one_ (i := 2) (N := some 8) #[true, true, true, true, true, false, false, false] rfl rfl (one_of HT_.out (by kernel_rfl)) (by decide) (fun K hK => ?_)
 refine goes_ Try.func109 (by kernel_rfl) rfl #[.agg #[.int .i64 a2_0, .slice A2_1 l2_1.length c2_1], .int .i64 a1] (by rfl) rfl rfl (by (try simp only [List.map_toArray, List.map_cons, List.map_nil]); first | done | rfl | (simp only [List.length_drop, List.length_take]; rfl)) ?_
 with_reducible refine (Za3.calls a2_0 _ _ l2_1 a1 t457 _ ?side1 ?side2 A4.out).mono ?_
 (case side1 => repeat (first | exact (Kd.C_below HR2_1.out HB.out) | (with_reducible refine Kd.C_alloc ?_ _) | (with_reducible refine Kd.C_drewN ?_ _) | (with_reducible refine Kd.C_drew ?_)))
 (case side2 => exact HC2_1.out)
 rintro e w8 ⟨rfl, hb⟩
 refine ⟨_, rfl, ?_⟩
 have n0_ := Zab.mk (Zaq (g := gp50) (o := .cells #[.int .i64 a2_0, .slice A2_1 l2_1.length c2_1] 28 (0, 0)) (by (with_reducible repeat (first | refine Zag ?_ _ | refine Zah ?_ | refine Zaf ?_ _)); exact BK50.out) hb)
 have n1_ := Zab.mk (Zap (by repeat (first | (with_reducible first | exact HB.out | apply Zad | apply Zaa | apply Zac | refine Zae ?_ GE50.out) | exact HB.out)) hb)
 clear BK50
 clear HB
 have BK50 := n0_
 have HB := n1_
 clear n0_ n1_
 (try clear hb)
 (try clear hb2)
 (try clear hk)
 (try clear hi)
 refine hK.out _ _ ⟨(Zaj BK50.out 0).trans rfl, (Zaj BK50.out 1).trans rfl⟩ (fun hHeld => ?_)
 clear hK K
 refine norm_ (a' := ?_) ?_ ?_
 rotate_left
 ·show Act.put _ (some 8) _ = _
  simp only [Act.put, ZA, ZB, ZC, i64_w, i32_w]
  rfl
 refine one_ (i := 5) (N := some 11) #[true, true, true, true, true, true, false, false] rfl rfl (one_of HT_.out (by kernel_rfl)) (by decide) (fun K hK => ?_)
 refine goes_ Try.func109 (by kernel_rfl) rfl #[.agg #[.int .i64 a2_0, .slice A2_1 l2_1.length c2_1], .int .i64 a0] (by rfl) rfl rfl (by (try simp only [List.map_toArray, List.map_cons, List.map_nil]); first | done | rfl | (simp only [List.length_drop, List.length_take]; rfl)) ?_
 with_reducible refine (Za3.calls a2_0 _ _ l2_1 a0 t458 _ ?side1 ?side2 A5.out).mono ?_
 (case side1 => repeat (first | exact (Kd.C_below HR2_1.out HB.out) | (with_reducible refine Kd.C_alloc ?_ _) | (with_reducible refine Kd.C_drewN ?_ _) | (with_reducible refine Kd.C_drew ?_)))
 (case side2 => exact HC2_1.out)
 rintro e w9 ⟨rfl, hb⟩
 refine ⟨_, rfl, ?_⟩
 have n0_ := Zab.mk (Zaq (g := gp50) (o := .cells #[.int .i64 a2_0, .slice A2_1 l2_1.length c2_1] 28 (0, 0)) (by (with_reducible repeat (first | refine Zag ?_ _ | refine Zah ?_ | refine Zaf ?_ _)); exact BK50.out) hb)
 have n1_ := Zab.mk (Zap (by repeat (first | (with_reducible first | exact HB.out | apply Zad | apply Zaa | apply Zac | refine Zae ?_ GE50.out) | exact HB.out)) hb)
 clear BK50
 clear HB
 have BK50 := n0_
 have HB := n1_
 clear n0_ n1_
 (try clear hb)
 (try clear hb2)
 (try clear hk)
 (try clear hi)
 refine hK.out _ _ ⟨(Zaj BK50.out 0).trans rfl, (Zaj BK50.out 1).trans rfl⟩ (fun hHeld => ?_)
 clear hK K
 refine norm_ (a' := ?_) ?_ ?_
 rotate_left
 ·show Act.put _ (some 11) _ = _
  simp only [Act.put, ZA, ZB, ZC, i64_w, i32_w]
  rfl
 refine one_ (i := 6) (N := some 12) #[true, true, true, true, true, true, true, false] rfl rfl (one_of HT_.out (by kernel_rfl)) (by decide) (fun K hK => ?_)
 refine goes_ Try.func112 (by kernel_rfl) rfl #[.int .i64 t457, .int .i64 t458] (by rfl) rfl rfl (by (try simp only [List.map_toArray, List.map_cons, List.map_nil]); first | done | rfl | (simp only [List.length_drop, List.length_take]; rfl)) ?_
 with_reducible refine (impl_compare.calls t457 t458 t459 _ A6.out).mono ?_
 rintro e w' ⟨rfl, ⟨nd, rfl⟩⟩
 refine ⟨_, rfl, ?_⟩
 refine hK.out _ _ ⟨(Zaj BK50.out 0).trans rfl, (Zaj BK50.out 1).trans rfl⟩ (fun hHeld => ?_)
 clear hK K
 refine norm_ (a' := ?_) ?_ ?_
 rotate_left
 ·show Act.put _ (some 12) _ = _
  simp only [Act.put, ZA, ZB, ZC, i64_w, i32_w]
  rfl
 refine pure_ (i := 7) (N := some 5) (v := ?_) (a' := ?_) #[true, true, true, true, true, true, true, true] rfl rfl (Za1 HT_.out (by kernel_rfl)) (fun _ _ _ h => h) (Or.inl ⟨by rfl, ?_⟩) ?_ ?_
 rotate_left
 ·intro w'
  go_simp
  with_reducible rfl
 rotate_left
 ·simp only [Act.put, ZA, ZB, ZC, i64_w, i32_w]
  rfl
 refine done_ (done_of HT_.out (by kernel_rfl)) ?_
 try go_wp2
 go_ret
 exact ⟨by first | rfl | (simp [Zas, Zar] <;> rfl) | (simp [*, Zas, Zar] <;> rfl), by repeat (first | (with_reducible first | exact HB.out | apply Zad | apply Zaa | apply Zac | refine Zae ?_ GE50.out) | exact HB.out)⟩
end Go.Proofs.Ytgmmfdilfpkbmaa.P
