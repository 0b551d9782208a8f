import Derived.Test.YtgmmfdilfpkbmaaXP0FnExactCountBest
import Derived.Test.YtgmmfdilfpkbmaaXP20FnExactCountBest
import Derived.Test.YtgmmfdilfpkbmaaXP26FnExactCountBest
import Derived.Test.YtgmmfdilfpkbmaaXP27FnExactCountBest
namespace Go.Proofs.Ytgmmfdilfpkbmaa.P
open Go.RowKit Go.Proofs.YtgmmfdilfpkbmaaW.PrintWords Go.Proofs.YtgmmfdilfpkbmaaW.PrintLast Go.Proofs.YtgmmfdilfpkbmaaW.PrintMore
attribute [local go_sem] max2_int min2_int max_two min_two max_three min_three max_four min_four
set_option linter.unusedVariables false
set_option linter.unusedSimpArgs false
def spec_l00Min.f (a0 : Int) (a1 : Int) : Option (Int) := if a0 < a1 then (some a0) else (some a1)
set_option maxHeartbeats 8000000 in
set_option maxRecDepth 100000 in
theorem spec_l00Min.calls (a0 : Int) (a1 : Int) (r : Int) (w : World) (h : spec_l00Min.f a0 a1 = some r) :
  Calls Try.prog 94 #[.int .i64 a0, .int .i64 a1] w fun e w' => e = .returned (.int .i64 r) ∧ Drawn0 w w' := by
 have H : (if a0 < a1 then (some a0) else (some a1)) = some r := h
 clear h
 by_cases c3 : a0 < a1
 ·rw [if_pos c3] at H
  have c3b0 : decide (a0 < a1) = true := decide_eq_true c3
  clear c3
  obtain rfl := Option.some.inj H
  go_enter Try.func94, Try.ntmps94
  go_wp2
  go_ret
  exact ⟨by first | rfl | (simp; done) | (simp [*]; done), by repeat (first | exact Drawn0.refl _ | apply Drawn0.step)⟩
 ·rw [if_neg c3] at H
  have c3b0 : decide (a0 < a1) = false := decide_eq_false c3
  clear c3
  obtain rfl := Option.some.inj H
  go_enter Try.func94, Try.ntmps94
  go_wp2
  go_ret
  exact ⟨by first | rfl | (simp; done) | (simp [*]; done), by repeat (first | exact Drawn0.refl _ | apply Drawn0.step)⟩
mutual
def Za2.l0 : Nat → List Int → Int → Int → Int → Option (Int × Bool)
 | 0, _, _, _, _ => none
 | k + 1, x10, x11, x12, x13 => if x13 < (x10.length : Int) then (if 0 ≤ x13 then (if (rd x10 x13) = 0 then (Za2.l0 k x10 x11 (wrap64 (x12 + 1)) (wrap64 (x13 + 1))) else (Za2.l0 k x10 x11 x12 (wrap64 (x13 + 1)))) else (none)) else (Za2.l1 k x11 x12 1 0)
def Za2.l1 : Nat → Int → Int → Int → Int → Option (Int × Bool)
 | 0, _, _, _, _ => none
 | k + 1, x11, x12, x14, x15 => (spec_l00Min.f x11 (wrap64 (x12 - x11))).bind fun t859 => (if x15 < t859 then (if (wrap64 (x15 + 1)) = 0 then (none) else (Za2.l1 k x11 x12 (wrap64 (Int.tdiv (wrap64 (x14 * (wrap64 (x12 - x15)))) (wrap64 (x15 + 1)))) (wrap64 (x15 + 1)))) else (if x14 > 1000000 then (some (0, false)) else (some (x14, true))))
end
def Za2.f (k : Nat) (a0_0 : Int) (l0_1 : List Int) (a1 : Int) (a2 : Int) : Option (Int × Bool) := (spec_l04Ask.f k a0_0 l0_1 a1 a2).bind fun t848 => (if t848 = true then ((spec_l04Bounds.f k a0_0 l0_1).bind fun bt849 => ((Za7.f k l0_1 a0_0).bind fun t851 => ((Zaw.f k t851 a0_0 (wrap64 (a1 - bt849.1)) a2).bind fun bt854 => (Za2.l0 k bt854.1 bt854.2 0 0)))) else (some (0, false)))
def Za2.T4 : Bool × List (List Nat × List Nat) := (true, [([], []), ([0], [0]), ([], []), ([2], [2]), ([1, 3], [1, 3]), ([], []), ([5], [5]), ([], []), ([], []), ([7, 8], [7, 8]), ([], []), ([4, 6, 9, 10, 4], [4, 6, 9, 10]), ([11], [11]), ([12], [12]), ([12], [12]), ([13, 11, 0, 1, 2, 3, 4, 5, 6, 7, 8, 9, 10, 11, 12, 13], [13]), ([14, 15, 0, 1, 2, 3, 4, 5, 6, 7, 8, 9, 10, 11, 12, 13, 14, 15], [14])])
def Za2.B4 : List Nat := [0, 1, 0, 4, 15, 0, 32, 0, 0, 384, 0, 2047, 4095, 8191, 8191, 16383, 65535]
theorem Za2.tab4 : rtab .any (opsOf Try.f49 4) = Za2.T4 := by kernel_rfl
theorem Za2.bits4 : waitsOk Za2.T4.2 Za2.B4 = true := by kernel_rfl
set_option maxHeartbeats 8000000 in
set_option maxRecDepth 100000 in
theorem Za2.calls (k : Nat) (a0_0 : Int) (A0_1 : Option Addr) (c0_1 : Nat) (l0_1 : List Int) (a1 : Int) (a2 : Int) (r1 : Int) (r2 : Bool) (w : World) (hr0_1 : Kd.C (Kd.int .i64) w A0_1 l0_1.length l0_1) (hc0_1 : l0_1.length ≤ c0_1) (h : Za2.f k a0_0 l0_1 a1 a2 = some (r1, r2)) :
  Calls Try.prog 49 #[.agg #[.int .i64 a0_0, .slice A0_1 l0_1.length c0_1], .int .i64 a1, .int .i64 a2] w fun e w' => e = .returned (.tuple #[.int .i64 r1, .bool r2]) ∧ Below w.heap.size w w' := by
 have hu28 := Try.underlying28
 have HR0_1 := Zac.mk hr0_1
 have HC0_1 := Zac.mk hc0_1
 clear hr0_1 hc0_1
 have HB := Zac.mk (Below.refl w.heap.size w)
 have H : ((spec_l04Ask.f k a0_0 l0_1 a1 a2).bind fun t848 => (if t848 = true then ((spec_l04Bounds.f k a0_0 l0_1).bind fun bt849 => ((Za7.f k l0_1 a0_0).bind fun t851 => ((Zaw.f k t851 a0_0 (wrap64 (a1 - bt849.1)) a2).bind fun bt854 => (Za2.l0 k bt854.1 bt854.2 0 0)))) else (some (0, false)))) = some (r1, r2) := h
 clear h
 replace H := Option.bind_eq_some_iff.mp H
 obtain ⟨t848, A40, H⟩ := H
 replace H : (if t848 = true then ((spec_l04Bounds.f k a0_0 l0_1).bind fun bt849 => ((Za7.f k l0_1 a0_0).bind fun t851 => ((Zaw.f k t851 a0_0 (wrap64 (a1 - bt849.1)) a2).bind fun bt854 => (Za2.l0 k bt854.1 bt854.2 0 0)))) else (some (0, false))) = some (r1, r2) := H
 have A4 := Zac.mk A40
 clear A40
 by_cases c5 : t848 = true
 ·subst c5
  have H1 : ((spec_l04Bounds.f k a0_0 l0_1).bind fun bt849 => ((Za7.f k l0_1 a0_0).bind fun t851 => ((Zaw.f k t851 a0_0 (wrap64 (a1 - bt849.1)) a2).bind fun bt854 => (Za2.l0 k bt854.1 bt854.2 0 0)))) = some (r1, r2) := by rw [if_pos rfl] at H; exact H
  clear H
  have H := H1
  clear H1
  replace H := Option.bind_eq_some_iff.mp H
  obtain ⟨⟨t849, t850⟩, A60, H⟩ := H
  replace H : ((Za7.f k l0_1 a0_0).bind fun t851 => ((Zaw.f k t851 a0_0 (wrap64 (a1 - t849)) a2).bind fun bt854 => (Za2.l0 k bt854.1 bt854.2 0 0))) = some (r1, r2) := H
  have A6 := Zac.mk A60
  clear A60
  replace H := Option.bind_eq_some_iff.mp H
  obtain ⟨t851, A70, H⟩ := H
  replace H : ((Zaw.f k t851 a0_0 (wrap64 (a1 - t849)) a2).bind fun bt854 => (Za2.l0 k bt854.1 bt854.2 0 0)) = some (r1, r2) := H
  have A7 := Zac.mk A70
  clear A70
  replace H := Option.bind_eq_some_iff.mp H
  obtain ⟨⟨t854, t855⟩, A80, H⟩ := H
  replace H : (Za2.l0 k t854 t855 0 0) = some (r1, r2) := H
  have A8 := Zac.mk A80
  clear A80
  have H' := Zac.mk H
  clear H
  go_enter Try.func49, Try.ntmps49
  try go_wp2_with (first | ((with_reducible refine gate_dst (N := 3) rfl ?_); refine box_event ?hg (N := 3) ?hd (cs := #[.int .i64 a0_0, .slice A0_1 l0_1.length c0_1]) (t := 28) ?hr ?_; (case hd => rfl); (case hg => rfl); (case hr => first | (go_simp; done) | (go_simp; rfl)); intro gb847 hg w9 hbox hb; have n0_ := Zac.mk (Zaq (by repeat (first | (with_reducible first | exact HB.out | apply Zae | apply Zab | apply Zad) | exact HB.out)) hb); have n1_ := Zac.mk (hbox); have n2_ := Zac.mk ((by rw [hg]; exact (Zap (by repeat (first | (with_reducible first | exact HB.out | apply Zae | apply Zab | apply Zad) | exact HB.out))) : w.heap.size ≤ gb847)); have n3_ := Zac.mk ((by rw [hg]; exact (Zap (by repeat (first | (with_reducible first | exact HB.out | apply Zae | apply Zab | apply Zad) | exact HB.out))) : w.heap.size ≤ gb847)); clear HB; have HB := n0_; have BK847 := n1_; have GW847 := n2_; have GE847 := n3_; clear n0_ n1_ n2_ n3_; clear hb hbox hg) | ((with_reducible refine Zaz (f := 91) rfl ?_); refine goesL_ (some 18) rfl rfl Try.func91 (by kernel_rfl) rfl #[.pointer (some ⟨gb847, 0, none⟩), .int .i64 a1, .int .i64 a2] rfl (by (try simp only [List.map_toArray, List.map_cons, List.map_nil]); first | done | rfl | (simp only [List.length_drop, List.length_take]; rfl)) ?_; (with_reducible refine (spec_l04Ask.calls k gb847 a0_0 A0_1 c0_1 l0_1 a1 a2 true _ ?side1 ?side2 ?side3 A4.out).mono ?_); (case side1 => exact (by (with_reducible repeat (first | refine Zag ?_ _ | refine Zai ?_ | refine Zah ?_ _)); exact BK847.out)); (case side2 => repeat (first | exact (Kd.C_below HR0_1.out HB.out) | (with_reducible refine Kd.C_alloc ?_ _) | (with_reducible refine Kd.C_drewN ?_ _) | (with_reducible refine Kd.C_drew ?_))); (case side3 => exact HC0_1.out); rintro e w10 ⟨rfl, hb⟩; refine ⟨_, rfl, ?_⟩; have n0_ := Zac.mk (Zar (g := gb847) (o := .cells #[.int .i64 a0_0, .slice A0_1 l0_1.length c0_1] 28 (0, 0)) (by (with_reducible repeat (first | refine Zag ?_ _ | refine Zai ?_ | refine Zah ?_ _)); exact BK847.out) hb); have n1_ := Zac.mk (Zaq (by repeat (first | (with_reducible first | exact HB.out | apply Zae | apply Zab | apply Zad | refine Zaf ?_ GE847.out) | exact HB.out)) hb); clear BK847; clear HB; have BK847 := n0_; have HB := n1_; clear n0_ n1_; (try clear hb); (try clear hb2); (try clear hk); (try clear hi)) | ((with_reducible refine Zaz (f := 92) rfl ?_); refine goesL_ (some 21) rfl rfl Try.func92 (by kernel_rfl) rfl #[.pointer (some ⟨gb847, 0, none⟩)] rfl (by (try simp only [List.map_toArray, List.map_cons, List.map_nil]); first | done | rfl | (simp only [List.length_drop, List.length_take]; rfl)) ?_; (with_reducible refine (spec_l04Bounds.calls k gb847 a0_0 A0_1 c0_1 l0_1 t849 t850 _ ?side1 ?side2 ?side3 A6.out).mono ?_); (case side1 => exact (by (with_reducible repeat (first | refine Zag ?_ _ | refine Zai ?_ | refine Zah ?_ _)); exact BK847.out)); (case side2 => repeat (first | exact (Kd.C_below HR0_1.out HB.out) | (with_reducible refine Kd.C_alloc ?_ _) | (with_reducible refine Kd.C_drewN ?_ _) | (with_reducible refine Kd.C_drew ?_))); (case side3 => exact HC0_1.out); rintro e w11 ⟨rfl, hb⟩; refine ⟨_, rfl, ?_⟩; have n0_ := Zac.mk (Zar (g := gb847) (o := .cells #[.int .i64 a0_0, .slice A0_1 l0_1.length c0_1] 28 (0, 0)) (by (with_reducible repeat (first | refine Zag ?_ _ | refine Zai ?_ | refine Zah ?_ _)); exact BK847.out) hb); have n1_ := Zac.mk (Zaq (by repeat (first | (with_reducible first | exact HB.out | apply Zae | apply Zab | apply Zad | refine Zaf ?_ GE847.out) | exact HB.out)) hb); clear BK847; clear HB; have BK847 := n0_; have HB := n1_; clear n0_ n1_; (try clear hb); (try clear hb2); (try clear hk); (try clear hi)))
  have n0_ := Zac.mk (Zai BK847.out)
  have n1_ := Zac.mk (Zad HB.out)
  clear BK847
  clear HB
  have BK847 := n0_
  have HB := n1_
  clear n0_ n1_
  refine start_ (n := 17) (S := fun w' => w'.cell? ⟨gb847, 0, none⟩ = some (.int .i64 a0_0) ∧ w'.cell? ⟨gb847, 1, none⟩ = some (.slice A0_1 l0_1.length c0_1)) (ds := []) #[false, false, false, false, false, false, false, false, false, false, false, false, false, false, false, false, false] (by kernel_rfl) rfl rfl ⟨(Zak BK847.out 0).trans rfl, (Zak BK847.out 1).trans rfl⟩ (fun hHeld => ?_); refine with_tabW Za2.tab4 Za2.bits4 (fun HT_ HW_ => ?_)
  generalize w11.drew = w12 at BK847 HB hHeld ⊢
  refine pure_ (i := 0) (N := some 25) (v := ?_) (a' := ?_) #[true, false, false, false, false, false, false, false, false, false, false, false, false, false, false, false, false] rfl rfl (Zau HT_.out (by kernel_rfl)) (fun _ _ _ h => h) (Or.inl ⟨by rfl, ?_⟩) ?_ ?_
  rotate_left
  ·intro w'
   go_simp
   with_reducible rfl
  rotate_left
  ·simp only [Act.put, ZA, ZB, ZC, i64_w, i32_w]
   rfl
  refine pure_ (i := 2) (N := some 27) (v := ?_) (a' := ?_) #[true, false, true, false, false, false, false, false, false, false, false, false, false, false, false, false, false] rfl rfl (Zau HT_.out (by kernel_rfl)) (fun _ _ _ h => h) (Or.inl ⟨by rfl, ?_⟩) ?_ ?_
  rotate_left
  ·intro w'
   go_simp
   with_reducible rfl
  rotate_left
  ·simp only [Act.put, ZA, ZB, ZC, i64_w, i32_w]
   rfl
  refine pure_ (i := 5) (N := some 30) (v := ?_) (a' := ?_) #[true, false, true, false, false, true, false, false, false, false, false, false, false, false, false, false, false] rfl rfl (Zau HT_.out (by kernel_rfl)) (fun _ _ _ h => h) (Or.inl ⟨by rfl, ?_⟩) ?_ ?_
  rotate_left
  ·intro w'
   go_simp
   with_reducible rfl
  rotate_left
  ·simp only [Act.put, ZA, ZB, ZC, i64_w, i32_w]
   rfl
  refine pure_ (i := 7) (N := some 32) (v := ?_) (a' := ?_) #[true, false, true, false, false, true, false, true, false, false, false, false, false, false, false, false, false] rfl rfl (Zau HT_.out (by kernel_rfl)) (fun _ _ _ h => h) (Or.inl ⟨by rfl, ?_⟩) ?_ ?_
  rotate_left
  ·intro w'
   go_simp
   with_reducible rfl
  rotate_left
  ·simp only [Act.put, ZA, ZB, ZC, i64_w, i32_w]
   rfl
  refine pure_ (i := 8) (N := some 33) (v := ?_) (a' := ?_) #[true, false, true, false, false, true, false, true, true, false, false, false, false, false, false, false, false] rfl rfl (Zau HT_.out (by kernel_rfl)) (fun _ _ _ h => h) (Or.inl ⟨by rfl, ?_⟩) ?_ ?_
  rotate_left
  ·intro w'
   go_simp
   with_reducible rfl
  rotate_left
  ·simp only [Act.put, ZA, ZB, ZC, i64_w, i32_w]
   rfl
  refine pure_ (i := 9) (N := some 34) (v := ?_) (a' := ?_) #[true, false, true, false, false, true, false, true, true, true, false, false, false, false, false, false, false] rfl rfl (Zau HT_.out (by kernel_rfl)) (fun _ _ _ h => h) (Or.inl ⟨by rfl, ?_⟩) ?_ ?_
  rotate_left
  ·intro w'
   go_simp
   with_reducible rfl
  rotate_left
  ·simp only [Act.put, ZA, ZB, ZC, i64_w, i32_w]
   rfl
  refine pure_ (i := 10) (N := some 35) (v := ?_) (a' := ?_) #[true, false, true, false, false, true, false, true, true, true, true, false, false, false, false, false, false] rfl rfl (Zau HT_.out (by kernel_rfl)) (fun _ _ _ h => h) (Or.inl ⟨by rfl, ?_⟩) ?_ ?_
  rotate_left
  ·intro w'
   go_simp
   with_reducible rfl
  rotate_left
  ·simp only [Act.put, ZA, ZB, ZC, i64_w, i32_w]
   rfl
  refine take_ (i := 1) (N := some 26) (v := ?_) (a' := ?_) #[true, true, true, false, false, true, false, true, true, true, true, false, false, false, false, false, false] rfl rfl (take_ofW HT_.out HW_.out (by kernel_rfl)) (fun _ _ _ h => h) (Or.inl ⟨by rfl, ?_⟩) hHeld ?_ ?_
  rotate_left
  ·rintro w' ⟨s0, s1⟩
   go_simp
   with_reducible rfl
  rotate_left
  ·simp only [Act.put, ZA, ZB, ZC, i64_w, i32_w]
   rfl
  refine take_ (i := 3) (N := some 28) (v := ?_) (a' := ?_) #[true, true, true, true, false, true, false, true, true, true, true, false, false, false, false, false, false] rfl rfl (take_ofW HT_.out HW_.out (by kernel_rfl)) (fun _ _ _ h => h) (Or.inl ⟨by rfl, ?_⟩) hHeld ?_ ?_
  rotate_left
  ·rintro w' ⟨s0, s1⟩
   go_simp
   with_reducible rfl
  rotate_left
  ·simp only [Act.put, ZA, ZB, ZC, i64_w, i32_w]
   rfl
  refine take_ (i := 6) (N := some 31) (v := ?_) (a' := ?_) #[true, true, true, true, false, true, true, true, true, true, true, false, false, false, false, false, false] rfl rfl (take_ofW HT_.out HW_.out (by kernel_rfl)) (fun _ _ _ h => h) (Or.inl ⟨by rfl, ?_⟩) hHeld ?_ ?_
  rotate_left
  ·rintro w' ⟨s0, s1⟩
   go_simp
   with_reducible rfl
  rotate_left
  ·simp only [Act.put, ZA, ZB, ZC, i64_w, i32_w]
   rfl
  refine one_ (i := 4) (N := some 29) #[true, true, true, true, true, true, true, true, true, true, true, false, false, false, false, false, false] rfl rfl (one_of HT_.out (by kernel_rfl)) (by decide) (fun K hK => ?_)
  refine goes_ Try.func83 (by kernel_rfl) rfl #[.slice A0_1 l0_1.length c0_1, .int .i64 a0_0] (by rfl) rfl rfl (by (try simp only [List.map_toArray, List.map_cons, List.map_nil]); first | done | rfl | (simp only [List.length_drop, List.length_take]; rfl)) ?_
  with_reducible refine (Za7.calls k _ _ l0_1 a0_0 t851 _ ?side1 ?side2 A7.out).mono ?_
  (case side1 => repeat (first | exact (Kd.C_below HR0_1.out HB.out) | (with_reducible refine Kd.C_alloc ?_ _) | (with_reducible refine Kd.C_drewN ?_ _) | (with_reducible refine Kd.C_drew ?_)))
  (case side2 => exact HC0_1.out)
  rintro e w13 ⟨v852, rfl, ho0, hb⟩
  refine ⟨_, rfl, ?_⟩
  have n0_ := Zac.mk (Kd.R_lower ho0 (Zap (by repeat (first | (with_reducible first | exact HB.out | apply Zae | apply Zab | apply Zad | refine Zaf ?_ GE847.out) | exact HB.out))))
  have n1_ := Zac.mk (Zar (g := gb847) (o := .cells #[.int .i64 a0_0, .slice A0_1 l0_1.length c0_1] 28 (0, 0)) (by (with_reducible repeat (first | refine Zag ?_ _ | refine Zai ?_ | refine Zah ?_ _)); exact BK847.out) hb)
  have n2_ := Zac.mk (Zaq (by repeat (first | (with_reducible first | exact HB.out | apply Zae | apply Zab | apply Zad | refine Zaf ?_ GE847.out) | exact HB.out)) hb)
  clear BK847
  clear HB
  have HO853 := n0_
  have BK847 := n1_
  have HB := n2_
  clear n0_ n1_ n2_
  (try clear hb)
  (try clear hb2)
  (try clear hk)
  (try clear hi)
  (try clear ho0)
  obtain ⟨Ao14, co14, eo14⟩ := Kd.R_slice HO853.out
  (first | subst eo14 | (injection eo14 with f1_ f2_ f3_; have f4_ := f1_.symm; have f5_ := f3_.symm; clear f1_ f2_ f3_; subst f4_; subst f5_))
  refine hK.out _ _ ⟨(Zak BK847.out 0).trans rfl, (Zak BK847.out 1).trans rfl⟩ (fun hHeld => ?_)
  clear hK K
  refine norm_ (a' := ?_) ?_ ?_
  rotate_left
  ·show Act.put _ (some 29) _ = _
   simp only [Act.put, ZA, ZB, ZC, i64_w, i32_w]
   rfl
  refine one_ (i := 11) (N := some 36) #[true, true, true, true, true, true, true, true, true, true, true, true, false, false, false, false, false] rfl rfl (one_of HT_.out (by kernel_rfl)) (by decide) (fun K hK => ?_)
  refine goes_ Try.func93 (by kernel_rfl) rfl #[.slice Ao14 t851.length co14, .int .i64 a0_0, .int .i64 (wrap64 (a1 - t849)), .int .i64 a2] (by rfl) rfl rfl (by (try simp only [List.map_toArray, List.map_cons, List.map_nil]); first | done | rfl | (simp only [List.length_drop, List.length_take]; rfl)) ?_
  with_reducible refine (Zaw.calls k _ _ t851 a0_0 (wrap64 (a1 - t849)) a2 t854 t855 _ ?side1 ?side2 A8.out).mono ?_
  (case side1 => repeat (first | exact (Kd.R_reads' HO853.out).2.2 | (with_reducible refine Kd.C_alloc ?_ _) | (with_reducible refine Kd.C_drewN ?_ _) | (with_reducible refine Kd.C_drew ?_)))
  (case side2 => exact (Kd.R_reads' HO853.out).2.1)
  rintro e w15 ⟨v856, rfl, ho0, hb⟩
  refine ⟨_, rfl, ?_⟩
  have n0_ := Zac.mk (Kd.R_elder' (by (with_reducible repeat (first | apply Kd.R_alloc | apply Kd.R_drewN | apply Kd.R_drew)); exact HO853.out) (Kd.R_base ho0) hb)
  have n1_ := Zac.mk (Kd.R_lower (Kd.R_new' ho0 (Kd.R_lt (by (with_reducible repeat (first | apply Kd.R_alloc | apply Kd.R_drewN | apply Kd.R_drew)); exact HO853.out))) (Zap (by repeat (first | (with_reducible first | exact HB.out | apply Zae | apply Zab | apply Zad | refine Zaf ?_ GE847.out) | exact HB.out))))
  have n2_ := Zac.mk (Zar (g := gb847) (o := .cells #[.int .i64 a0_0, .slice A0_1 l0_1.length c0_1] 28 (0, 0)) (by (with_reducible repeat (first | refine Zag ?_ _ | refine Zai ?_ | refine Zah ?_ _)); exact BK847.out) hb)
  have n3_ := Zac.mk (Zaq (by repeat (first | (with_reducible first | exact HB.out | apply Zae | apply Zab | apply Zad | refine Zaf ?_ GE847.out) | exact HB.out)) hb)
  clear HO853
  clear BK847
  clear HB
  have HO853 := n0_
  have HO857 := n1_
  have BK847 := n2_
  have HB := n3_
  clear n0_ n1_ n2_ n3_
  (try clear hb)
  (try clear hb2)
  (try clear hk)
  (try clear hi)
  (try clear ho0)
  refine hK.out _ _ ⟨(Zak BK847.out 0).trans rfl, (Zak BK847.out 1).trans rfl⟩ (fun hHeld => ?_)
  clear hK K
  refine norm_ (a' := ?_) ?_ ?_
  rotate_left
  ·show Act.put _ (some 36) _ = _
   simp only [Act.put, ZA, ZB, ZC, i64_w, i32_w]
   rfl
  refine pure_ (i := 12) (N := some 24) (v := ?_) (a' := ?_) #[true, true, true, true, true, true, true, true, true, true, true, true, true, false, false, false, false] rfl rfl (Zau HT_.out (by kernel_rfl)) (fun _ _ _ h => h) (Or.inl ⟨by rfl, ?_⟩) ?_ ?_
  rotate_left
  ·intro w'
   go_simp
   with_reducible rfl
  rotate_left
  ·simp only [Act.put, ZA, ZB, ZC, i64_w, i32_w]
   rfl
  refine pure_ (i := 13) (N := some 37) (v := ?_) (a' := ?_) #[true, true, true, true, true, true, true, true, true, true, true, true, true, true, false, false, false] rfl rfl (Zau HT_.out (by kernel_rfl)) (fun _ _ _ h => h) (Or.inl ⟨by rfl, ?_⟩) ?_ ?_
  rotate_left
  ·intro w'
   go_simp
   with_reducible rfl
  rotate_left
  ·simp only [Act.put, ZA, ZB, ZC, i64_w, i32_w]
   rfl
  refine pure_ (i := 14) (N := some 38) (v := ?_) (a' := ?_) #[true, true, true, true, true, true, true, true, true, true, true, true, true, true, true, false, false] rfl rfl (Zau HT_.out (by kernel_rfl)) (fun _ _ _ h => h) (Or.inl ⟨by rfl, ?_⟩) ?_ ?_
  rotate_left
  ·intro w'
   go_simp
   with_reducible rfl
  rotate_left
  ·simp only [Act.put, ZA, ZB, ZC, i64_w, i32_w]
   rfl
  refine pure_ (i := 15) (N := some 10) (v := ?_) (a' := ?_) #[true, true, true, true, true, true, true, true, true, true, true, true, true, true, true, true, false] rfl rfl (Zau HT_.out (by kernel_rfl)) (fun _ _ _ h => h) (Or.inl ⟨by rfl, ?_⟩) ?_ ?_
  rotate_left
  ·intro w'
   go_simp
   with_reducible rfl
  rotate_left
  ·simp only [Act.put, ZA, ZB, ZC, i64_w, i32_w]
   rfl
  refine pure_ (i := 16) (N := some 11) (v := ?_) (a' := ?_) #[true, true, true, true, true, true, true, true, true, true, true, true, true, true, true, true, true] rfl rfl (Zau HT_.out (by kernel_rfl)) (fun _ _ _ h => h) (Or.inl ⟨by rfl, ?_⟩) ?_ ?_
  rotate_left
  ·intro w'
   go_simp
   with_reducible rfl
  rotate_left
  ·simp only [Act.put, ZA, ZB, ZC, i64_w, i32_w]
   rfl
  refine done_ (done_of HT_.out (by kernel_rfl)) ?_
  try go_wp2
  go_loopg [12, 13] k (fun kq v12 v13 w' => ∃ (x12_1 : Int) (x13_1 : Int), v12 = .int .i64 x12_1 ∧ v13 = .int .i64 x13_1 ∧ Zac (Za2.l0 kq t854 t855 x12_1 x13_1 = some (r1, r2)) ∧ Zac (kq ≤ k) ∧ Zac (Kd.R (Kd.int .i64) 2 w' w.heap.size (fun _ => True) v856 t854) ∧ Zac (w'.heap[gb847]? = some (.cells #[.int .i64 a0_0, (.slice A0_1 l0_1.length c0_1)] 28 (0, 0))) ∧ Zac (Below w.heap.size w w'))
  case atStart => exact ⟨(0), (0), (by first | rfl | (simp; done) | (simp [*]; done) | (simp [IntWalk.i64_left, *]; done)), (by first | rfl | (simp; done) | (simp [*]; done) | (simp [IntWalk.i64_left, *]; done)), H', ⟨Nat.le_refl _⟩, ⟨by (with_reducible repeat (first | apply Kd.R_alloc | apply Kd.R_drewN | apply Kd.R_drew)); exact Kd.R_mono HO857.out (fun _ hk => trivial)⟩, ⟨by (with_reducible repeat (first | refine Zag ?_ _ | refine Zai ?_ | refine Zah ?_ _)); exact BK847.out⟩, ⟨by repeat (first | (with_reducible first | exact HB.out | apply Zae | apply Zab | apply Zad | refine Zaf ?_ GE847.out) | exact HB.out)⟩⟩
  case round =>
   clear H'
   try clear p2
   try clear c4
   try clear c5
   try clear p6
   try clear c8
   try clear c9
   obtain ⟨x12_1, x13_1, rfl, rfl, HA, HK1, HO_10, BK847, HB⟩ := hrel
   cases gk with
   | zero => exact absurd HA.out (by simp [Za2.l0])
   | succ k1 =>
    have H := HA.out
    clear HA
    simp only [Za2.l0] at H
    by_cases c16 : x13_1 < (t854.length : Int)
    ·rw [if_pos c16] at H
     have c16b0 : decide (x13_1 < (t854.length : Int)) = true := decide_eq_true c16
     clear c16
     by_cases c17 : 0 ≤ x13_1
     ·rw [if_pos c17] at H
      have c17b0 : decide (0 ≤ x13_1) = true := decide_eq_true c17
      clear c17
      by_cases c18 : (rd t854 x13_1) = 0
      ·rw [if_pos c18] at H
       have c18b0 : ((rd t854 x13_1) == 0) = true := beq_iff_eq.mpr c18
       have c18b1 : ((rd t854 x13_1) != 0) = false := bne_eq_false_iff_eq.mpr c18
       clear c18
       have H' := Zac.mk H
       clear H
       obtain ⟨Ao19, co19, eo19⟩ := Kd.R_slice HO_10.out
       subst eo19
       have p858 : 0 ≤ (x13_1 : Int) := of_decide_eq_true (by first | (with_reducible assumption) | assumption)
       have q858 : x13_1 < (t854.length : Int) := of_decide_eq_true (by first | (with_reducible assumption) | assumption)
       obtain ⟨ad858, e858, hx858_0⟩ := Kd.at_int (Kd.R_reads' HO_10.out).2.2 x13_1 p858 q858
       cases e858
       replace p858 := eq_true p858
       replace q858 := eq_true q858
       go_wp2
       go_roundg k1
       case measure => have := HK1.out; omega
       case rel => exact ⟨(wrap64 (x12_1 + 1)), (wrap64 (x13_1 + 1)), (by first | rfl | (simp; done) | (simp [*]; done) | (simp [IntWalk.i64_left, *]; done)), (by first | rfl | (simp; done) | (simp [*]; done) | (simp [IntWalk.i64_left, *]; done)), H', ⟨by have := HK1.out; omega⟩, ⟨by (with_reducible repeat (first | apply Kd.R_alloc | apply Kd.R_drewN | apply Kd.R_drew)); exact HO_10.out⟩, ⟨by (with_reducible repeat (first | refine Zag ?_ _ | refine Zai ?_ | refine Zah ?_ _)); exact BK847.out⟩, ⟨by repeat (first | (with_reducible first | exact HB.out | apply Zae | apply Zab | apply Zad | refine Zaf ?_ GE847.out) | exact HB.out)⟩⟩
      ·rw [if_neg c18] at H
       have c18b0 : ((rd t854 x13_1) == 0) = false := beq_eq_false_iff_ne.mpr c18
       have c18b1 : ((rd t854 x13_1) != 0) = true := bne_iff_ne.mpr c18
       have H' := Zac.mk H
       clear H
       obtain ⟨Ao20, co20, eo20⟩ := Kd.R_slice HO_10.out
       subst eo20
       have p858 : 0 ≤ (x13_1 : Int) := of_decide_eq_true (by first | (with_reducible assumption) | assumption)
       have q858 : x13_1 < (t854.length : Int) := of_decide_eq_true (by first | (with_reducible assumption) | assumption)
       obtain ⟨ad858, e858, hx858_0⟩ := Kd.at_int (Kd.R_reads' HO_10.out).2.2 x13_1 p858 q858
       cases e858
       replace p858 := eq_true p858
       replace q858 := eq_true q858
       go_wp2
       go_roundg k1
       case measure => have := HK1.out; omega
       case rel => exact ⟨(x12_1), (wrap64 (x13_1 + 1)), (by first | rfl | (simp; done) | (simp [*]; done) | (simp [IntWalk.i64_left, *]; done)), (by first | rfl | (simp; done) | (simp [*]; done) | (simp [IntWalk.i64_left, *]; done)), H', ⟨by have := HK1.out; omega⟩, ⟨by (with_reducible repeat (first | apply Kd.R_alloc | apply Kd.R_drewN | apply Kd.R_drew)); exact HO_10.out⟩, ⟨by (with_reducible repeat (first | refine Zag ?_ _ | refine Zai ?_ | refine Zah ?_ _)); exact BK847.out⟩, ⟨by repeat (first | (with_reducible first | exact HB.out | apply Zae | apply Zab | apply Zad | refine Zaf ?_ GE847.out) | exact HB.out)⟩⟩
     ·rw [if_neg c17] at H
      exact absurd H (by simp)
    ·rw [if_neg c16] at H
     have c16b0 : decide (x13_1 < (t854.length : Int)) = false := decide_eq_false c16
     clear c16
     have H' := Zac.mk H
     clear H
     obtain ⟨Ao21, co21, eo21⟩ := Kd.R_slice HO_10.out
     subst eo21
     go_wp2
     go_loopg [14, 15] k1 (fun kq v14 v15 w' => ∃ (x14_2 : Int) (x15_2 : Int), v14 = .int .i64 x14_2 ∧ v15 = .int .i64 x15_2 ∧ Zac (Za2.l1 kq t855 x12_1 x14_2 x15_2 = some (r1, r2)) ∧ Zac (kq ≤ k1) ∧ Zac (w'.heap[gb847]? = some (.cells #[.int .i64 a0_0, (.slice A0_1 l0_1.length c0_1)] 28 (0, 0))) ∧ Zac (Below w.heap.size w w'))
     case atStart => exact ⟨(1), (0), (by first | rfl | (simp; done) | (simp [*]; done) | (simp [IntWalk.i64_left, *]; done)), (by first | rfl | (simp; done) | (simp [*]; done) | (simp [IntWalk.i64_left, *]; done)), H', ⟨Nat.le_refl _⟩, ⟨by (with_reducible repeat (first | refine Zag ?_ _ | refine Zai ?_ | refine Zah ?_ _)); exact BK847.out⟩, ⟨by repeat (first | (with_reducible first | exact HB.out | apply Zae | apply Zab | apply Zad | refine Zaf ?_ GE847.out) | exact HB.out)⟩⟩
     case round =>
      clear H'
      try clear c1
      try clear p2
      try clear c4
      try clear c5
      try clear p6
      try clear c8
      try clear p8
      try clear q8
      try clear hx8
      try clear c9
      try clear c16
      try clear c16b0
      try clear c17
      try clear c17b0
      try clear c18
      try clear c18b0
      try clear c18b1
      try clear hx858_0
      try clear p2
      try clear p6
      try clear p858
      try clear q858
      obtain ⟨x14_2, x15_2, rfl, rfl, HA, HK2, BK847, HB⟩ := hrel
      cases gk with
      | zero => exact absurd HA.out (by simp [Za2.l1])
      | succ k2 =>
       have H := HA.out
       clear HA
       simp only [Za2.l1] at H
       replace H := Option.bind_eq_some_iff.mp H
       obtain ⟨t859, A220, H⟩ := H
       replace H : (if x15_2 < t859 then (if (wrap64 (x15_2 + 1)) = 0 then (none) else (Za2.l1 k2 t855 x12_1 (wrap64 (Int.tdiv (wrap64 (x14_2 * (wrap64 (x12_1 - x15_2)))) (wrap64 (x15_2 + 1)))) (wrap64 (x15_2 + 1)))) else (if x14_2 > 1000000 then (some (0, false)) else (some (x14_2, true)))) = some (r1, r2) := H
       have A22 := Zac.mk A220
       clear A220
       by_cases c23 : x15_2 < t859
       ·rw [if_pos c23] at H
        have c23b0 : decide (x15_2 < t859) = true := decide_eq_true c23
        clear c23
        by_cases c24 : (wrap64 (x15_2 + 1)) = 0
        ·rw [if_pos c24] at H
         exact absurd H (by simp)
        ·rw [if_neg c24] at H
         have c24b0 : ((wrap64 (x15_2 + 1)) == 0) = false := beq_eq_false_iff_ne.mpr c24
         have c24b1 : ((wrap64 (x15_2 + 1)) != 0) = true := bne_iff_ne.mpr c24
         have H' := Zac.mk H
         clear H
         go_wp2_with (first | ((with_reducible refine Zaz (f := 94) rfl ?_); refine goesL_ (some 57) rfl rfl Try.func94 (by kernel_rfl) rfl #[.int .i64 t855, .int .i64 (wrap64 (x12_1 - t855))] rfl (by (try simp only [List.map_toArray, List.map_cons, List.map_nil]); first | done | rfl | (simp only [List.length_drop, List.length_take]; rfl)) ?_; (with_reducible refine (spec_l00Min.calls t855 (wrap64 (x12_1 - t855)) t859 _ A22.out).mono ?_); rintro e w' ⟨rfl, ⟨nd, rfl⟩⟩; refine ⟨_, rfl, ?_⟩))
         go_roundg k2
         case measure => have := HK1.out; have := HK2.out; omega
         case rel => exact ⟨(wrap64 (Int.tdiv (wrap64 (x14_2 * (wrap64 (x12_1 - x15_2)))) (wrap64 (x15_2 + 1)))), (wrap64 (x15_2 + 1)), (by first | rfl | (simp; done) | (simp [*]; done) | (simp [IntWalk.i64_left, *]; done)), (by first | rfl | (simp; done) | (simp [*]; done) | (simp [IntWalk.i64_left, *]; done)), H', ⟨by have := HK1.out; have := HK2.out; omega⟩, ⟨by (with_reducible repeat (first | refine Zag ?_ _ | refine Zai ?_ | refine Zah ?_ _)); exact BK847.out⟩, ⟨by repeat (first | (with_reducible first | exact HB.out | apply Zae | apply Zab | apply Zad | refine Zaf ?_ GE847.out) | exact HB.out)⟩⟩
       ·rw [if_neg c23] at H
        have c23b0 : decide (x15_2 < t859) = false := decide_eq_false c23
        clear c23
        by_cases c25 : x14_2 > 1000000
        ·rw [if_pos c25] at H
         have c25b0 : decide (1000000 < x14_2) = true := decide_eq_true c25
         clear c25
         simp only [Option.some.injEq, Prod.mk.injEq] at H
         obtain ⟨rfl, rfl⟩ := H
         go_wp2_with (first | ((with_reducible refine Zaz (f := 94) rfl ?_); refine goesL_ (some 57) rfl rfl Try.func94 (by kernel_rfl) rfl #[.int .i64 t855, .int .i64 (wrap64 (x12_1 - t855))] rfl (by (try simp only [List.map_toArray, List.map_cons, List.map_nil]); first | done | rfl | (simp only [List.length_drop, List.length_take]; rfl)) ?_; (with_reducible refine (spec_l00Min.calls t855 (wrap64 (x12_1 - t855)) t859 _ A22.out).mono ?_); rintro e w' ⟨rfl, ⟨nd, rfl⟩⟩; refine ⟨_, rfl, ?_⟩))
         go_ret2
         exact ⟨by first | rfl | (simp [Zas, Zat] <;> rfl) | (simp [*, Zas, Zat] <;> rfl), by repeat (first | (with_reducible first | exact HB.out | apply Zae | apply Zab | apply Zad | refine Zaf ?_ GE847.out) | exact HB.out)⟩
        ·rw [if_neg c25] at H
         have c25b0 : decide (1000000 < x14_2) = false := decide_eq_false c25
         clear c25
         simp only [Option.some.injEq, Prod.mk.injEq] at H
         obtain ⟨rfl, rfl⟩ := H
         go_wp2_with (first | ((with_reducible refine Zaz (f := 94) rfl ?_); refine goesL_ (some 57) rfl rfl Try.func94 (by kernel_rfl) rfl #[.int .i64 t855, .int .i64 (wrap64 (x12_1 - t855))] rfl (by (try simp only [List.map_toArray, List.map_cons, List.map_nil]); first | done | rfl | (simp only [List.length_drop, List.length_take]; rfl)) ?_; (with_reducible refine (spec_l00Min.calls t855 (wrap64 (x12_1 - t855)) t859 _ A22.out).mono ?_); rintro e w' ⟨rfl, ⟨nd, rfl⟩⟩; refine ⟨_, rfl, ?_⟩))
         go_ret2
         exact ⟨by first | rfl | (simp [Zas, Zat] <;> rfl) | (simp [*, Zas, Zat] <;> rfl), by repeat (first | (with_reducible first | exact HB.out | apply Zae | apply Zab | apply Zad | refine Zaf ?_ GE847.out) | exact HB.out)⟩
 ·replace c5 := Bool.eq_false_iff.mpr c5
  subst c5
  have H1 : (some (0, false)) = some (r1, r2) := by rw [if_neg (show ¬ (false = true) by decide)] at H; exact H
  clear H
  have H := H1
  clear H1
  simp only [Option.some.injEq, Prod.mk.injEq] at H
  obtain ⟨rfl, rfl⟩ := H
  go_enter Try.func49, Try.ntmps49
  go_wp2_with (first | ((with_reducible refine gate_dst (N := 3) rfl ?_); refine box_event ?hg (N := 3) ?hd (cs := #[.int .i64 a0_0, .slice A0_1 l0_1.length c0_1]) (t := 28) ?hr ?_; (case hd => rfl); (case hg => rfl); (case hr => first | (go_simp; done) | (go_simp; rfl)); intro gb847 hg w26 hbox hb; have n0_ := Zac.mk (Zaq (by repeat (first | (with_reducible first | exact HB.out | apply Zae | apply Zab | apply Zad) | exact HB.out)) hb); have n1_ := Zac.mk (hbox); have n2_ := Zac.mk ((by rw [hg]; exact (Zap (by repeat (first | (with_reducible first | exact HB.out | apply Zae | apply Zab | apply Zad) | exact HB.out))) : w.heap.size ≤ gb847)); have n3_ := Zac.mk ((by rw [hg]; exact (Zap (by repeat (first | (with_reducible first | exact HB.out | apply Zae | apply Zab | apply Zad) | exact HB.out))) : w.heap.size ≤ gb847)); clear HB; have HB := n0_; have BK847 := n1_; have GW847 := n2_; have GE847 := n3_; clear n0_ n1_ n2_ n3_; clear hb hbox hg) | ((with_reducible refine Zaz (f := 91) rfl ?_); refine goesL_ (some 18) rfl rfl Try.func91 (by kernel_rfl) rfl #[.pointer (some ⟨gb847, 0, none⟩), .int .i64 a1, .int .i64 a2] rfl (by (try simp only [List.map_toArray, List.map_cons, List.map_nil]); first | done | rfl | (simp only [List.length_drop, List.length_take]; rfl)) ?_; (with_reducible refine (spec_l04Ask.calls k gb847 a0_0 A0_1 c0_1 l0_1 a1 a2 false _ ?side1 ?side2 ?side3 A4.out).mono ?_); (case side1 => exact (by (with_reducible repeat (first | refine Zag ?_ _ | refine Zai ?_ | refine Zah ?_ _)); exact BK847.out)); (case side2 => repeat (first | exact (Kd.C_below HR0_1.out HB.out) | (with_reducible refine Kd.C_alloc ?_ _) | (with_reducible refine Kd.C_drewN ?_ _) | (with_reducible refine Kd.C_drew ?_))); (case side3 => exact HC0_1.out); rintro e w27 ⟨rfl, hb⟩; refine ⟨_, rfl, ?_⟩; have n0_ := Zac.mk (Zar (g := gb847) (o := .cells #[.int .i64 a0_0, .slice A0_1 l0_1.length c0_1] 28 (0, 0)) (by (with_reducible repeat (first | refine Zag ?_ _ | refine Zai ?_ | refine Zah ?_ _)); exact BK847.out) hb); have n1_ := Zac.mk (Zaq (by repeat (first | (with_reducible first | exact HB.out | apply Zae | apply Zab | apply Zad | refine Zaf ?_ GE847.out) | exact HB.out)) hb); clear BK847; clear HB; have BK847 := n0_; have HB := n1_; clear n0_ n1_; (try clear hb); (try clear hb2); (try clear hk); (try clear hi)))
  go_ret2
  exact ⟨by first | rfl | (simp [Zas, Zat] <;> rfl) | (simp [*, Zas, Zat] <;> rfl), by repeat (first | (with_reducible first | exact HB.out | apply Zae | apply Zab | apply Zad | refine Zaf ?_ GE847.out) | exact HB.out)⟩
end Go.Proofs.Ytgmmfdilfpkbmaa.P
