import Derived.Test.YtgmmfdilfpkbmaaXP0FnPercents
import Derived.Test.YtgmmfdilfpkbmaaXP1FnPercents
import Derived.Test.YtgmmfdilfpkbmaaXP2FnPercents
import Derived.Test.YtgmmfdilfpkbmaaXP6FnPercents
import Derived.Test.YtgmmfdilfpkbmaaXP10FnPercents
import Derived.Test.YtgmmfdilfpkbmaaXP17FnPercents
import Derived.Test.YtgmmfdilfpkbmaaXP18FnPercents
namespace Go.Proofs.Ytgmmfdilfpkbmaa.P
open Go.RowKit Go.Proofs.YtgmmfdilfpkbmaaW.PrintWords Go.Proofs.YtgmmfdilfpkbmaaW.PrintLast Go.Proofs.YtgmmfdilfpkbmaaW.PrintMore
attribute [local go_sem] max2_int min2_int max_two min_two max_three min_three max_four min_four
set_option linter.unusedVariables false
set_option linter.unusedSimpArgs false
mutual
def Zan.j0 : Nat → List Int → Int → Bool → Option (List Int × Bool)
 | 0, _, _, _ => none
 | k + 1, x0, x1, x28 => if x28 = true then (some (([] : List Int), false)) else (Zan.l0 k x0 100 x1 0)
def Zan.l0 : Nat → List Int → Int → Int → Int → Option (List Int × Bool)
 | 0, _, _, _, _ => none
 | k + 1, x0, x6, x29, x30 => if x30 < x29 then (Zan.l0 k x0 (wrap64 (x6 * 10)) x29 (wrap64 (x30 + 1))) else ((impl_sum.f k x0).bind fun t513 => (Zan.l1 k x6 x0 (x0.length : Int) 0 t513 ([] : List Int)))
def Zan.l1 : Nat → Int → List Int → Int → Int → Int → List Int → Option (List Int × Bool)
 | 0, _, _, _, _, _, _ => none
 | k + 1, x6, x38, x39, x40, x515000, x515001 => if x40 < x39 then (if 0 ≤ x40 then (if x40 < (x38.length : Int) then (if x515001.length < 17592186044416 then (Zan.l1 k x6 x38 x39 (wrap64 (x40 + 1)) x515000 (x515001 ++ [wrap64 ((rd x38 x40) * x6)])) else (none)) else (none)) else (none)) else ((impl_Values_floors.f k x515000 x515001).bind fun t519 => ((impl_sum.f k t519).bind fun t522 => ((Zay.f k x515000 x515001 (wrap64 (x6 - t522)) 0).bind fun bt523 => ((Zax.f k bt523.1 bt523.2.1 bt523.2.2 x515000 x515001).bind fun t530 => (some (t530, true))))))
end
def Zan.f (k : Nat) (l0 : List Int) (a1 : Int) : Option (List Int × Bool) := (impl_size_int64.f l0).bind fun t508 => ((impl_within.f t508 1 40).bind fun t509 => (if t509 = true then ((impl_areWithin.f k l0 0 1000000).bind fun t510 => (if t510 = true then ((impl_sum.f k l0).bind fun t511 => (if t511 = 0 then (Zan.j0 k l0 a1 true) else ((impl_within.f a1 0 3).bind fun t512 => (Zan.j0 k l0 a1 (!t512))))) else (Zan.j0 k l0 a1 true))) else (Zan.j0 k l0 a1 true)))
def Zan.T14 : Bool × List (List Nat × List Nat) := (true, [([], []), ([], []), ([], []), ([2], [2]), ([3, 3], [3]), ([1, 4], [1, 4]), ([0, 5, 4], [0, 5]), ([], []), ([6, 7, 6], [6, 7]), ([8, 8, 0, 1, 2, 3, 4, 5, 6, 7, 8], [8]), ([9, 0, 1, 2, 3, 4, 5, 6, 7, 8, 9], [])])
def Zan.B14 : List Nat := [0, 0, 0, 4, 12, 30, 63, 0, 255, 511, 1023]
theorem Zan.tab14 : rtab .any (opsOf Try.f36 14) = Zan.T14 := by kernel_rfl
theorem Zan.bits14 : waitsOk Zan.T14.2 Zan.B14 = true := by kernel_rfl
set_option maxHeartbeats 8000000 in
set_option maxRecDepth 100000 in
theorem Zan.calls (k : Nat) (A0 : Option Addr) (c0 : Nat) (l0 : List Int) (a1 : Int) (r1 : List Int) (r2 : Bool) (w : World) (hr0 : Kd.C (Kd.int .i64) w A0 l0.length l0) (hc0 : l0.length ≤ c0) (h : Zan.f k l0 a1 = some (r1, r2)) :
  Calls Try.prog 36 #[.slice A0 l0.length c0, .int .i64 a1] w fun e w' => ∃ v0_ : Value, e = .returned (.tuple #[v0_, .bool r2]) ∧ Kd.R (Kd.int .i64) 2 w' w.heap.size (fun _ => True) v0_ r1 ∧ Below w.heap.size w w' := by
 have hu28 := Try.underlying28
 have HR0 := Zac.mk hr0
 have HC0 := Zac.mk hc0
 clear hr0 hc0
 have HB := Zac.mk (Below.refl w.heap.size w)
 have H : ((impl_size_int64.f l0).bind fun t508 => ((impl_within.f t508 1 40).bind fun t509 => (if t509 = true then ((impl_areWithin.f k l0 0 1000000).bind fun t510 => (if t510 = true then ((impl_sum.f k l0).bind fun t511 => (if t511 = 0 then (Zan.j0 k l0 a1 true) else ((impl_within.f a1 0 3).bind fun t512 => (Zan.j0 k l0 a1 (!t512))))) else (Zan.j0 k l0 a1 true))) else (Zan.j0 k l0 a1 true)))) = some (r1, r2) := h
 clear h
 have HC3 := Zac.mk H
 clear H
 go_enter Try.func36, Try.ntmps36
 go_upto_region 1 with (fail)
 go_cut [28] (fun v28 wc => ∃ (kq : Nat) (x28_2 : Bool), v28 = .bool x28_2 ∧ Zac (Zan.j0 kq l0 a1 x28_2 = some (r1, r2)) ∧ Zac (kq ≤ k) ∧ Zac (Below w.heap.size w wc))
 case first =>
  have H := HC3.out
  clear HC3
  replace H := Option.bind_eq_some_iff.mp H
  obtain ⟨t508, A40, H⟩ := H
  replace H : ((impl_within.f t508 1 40).bind fun t509 => (if t509 = true then ((impl_areWithin.f k l0 0 1000000).bind fun t510 => (if t510 = true then ((impl_sum.f k l0).bind fun t511 => (if t511 = 0 then (Zan.j0 k l0 a1 true) else ((impl_within.f a1 0 3).bind fun t512 => (Zan.j0 k l0 a1 (!t512))))) else (Zan.j0 k l0 a1 true))) else (Zan.j0 k l0 a1 true))) = some (r1, r2) := H
  have A4 := Zac.mk A40
  clear A40
  replace H := Option.bind_eq_some_iff.mp H
  obtain ⟨t509, A50, H⟩ := H
  replace H : (if t509 = true then ((impl_areWithin.f k l0 0 1000000).bind fun t510 => (if t510 = true then ((impl_sum.f k l0).bind fun t511 => (if t511 = 0 then (Zan.j0 k l0 a1 true) else ((impl_within.f a1 0 3).bind fun t512 => (Zan.j0 k l0 a1 (!t512))))) else (Zan.j0 k l0 a1 true))) else (Zan.j0 k l0 a1 true)) = some (r1, r2) := H
  have A5 := Zac.mk A50
  clear A50
  by_cases c6 : t509 = true
  ·subst c6
   have H1 : ((impl_areWithin.f k l0 0 1000000).bind fun t510 => (if t510 = true then ((impl_sum.f k l0).bind fun t511 => (if t511 = 0 then (Zan.j0 k l0 a1 true) else ((impl_within.f a1 0 3).bind fun t512 => (Zan.j0 k l0 a1 (!t512))))) else (Zan.j0 k l0 a1 true))) = some (r1, r2) := by rw [if_pos rfl] at H; exact H
   clear H
   have H := H1
   clear H1
   replace H := Option.bind_eq_some_iff.mp H
   obtain ⟨t510, A70, H⟩ := H
   replace H : (if t510 = true then ((impl_sum.f k l0).bind fun t511 => (if t511 = 0 then (Zan.j0 k l0 a1 true) else ((impl_within.f a1 0 3).bind fun t512 => (Zan.j0 k l0 a1 (!t512))))) else (Zan.j0 k l0 a1 true)) = some (r1, r2) := H
   have A7 := Zac.mk A70
   clear A70
   by_cases c8 : t510 = true
   ·subst c8
    have H1 : ((impl_sum.f k l0).bind fun t511 => (if t511 = 0 then (Zan.j0 k l0 a1 true) else ((impl_within.f a1 0 3).bind fun t512 => (Zan.j0 k l0 a1 (!t512))))) = some (r1, r2) := by rw [if_pos rfl] at H; exact H
    clear H
    have H := H1
    clear H1
    replace H := Option.bind_eq_some_iff.mp H
    obtain ⟨t511, A90, H⟩ := H
    replace H : (if t511 = 0 then (Zan.j0 k l0 a1 true) else ((impl_within.f a1 0 3).bind fun t512 => (Zan.j0 k l0 a1 (!t512)))) = some (r1, r2) := H
    have A9 := Zac.mk A90
    clear A90
    by_cases c10 : t511 = 0
    ·rw [if_pos c10] at H
     have c10b0 : (t511 == 0) = true := beq_iff_eq.mpr c10
     have c10b1 : (t511 != 0) = false := bne_eq_false_iff_eq.mpr c10
     clear c10
     (first | rw [c10b0] | (simp only [i64_w, i32_w]; rw [c10b0]) | skip)
     have H' := Zac.mk H
     clear H
     go_wp2_with (first | ((with_reducible refine Za4 (f := 78) rfl ?_); refine goesL_ (some 11) rfl rfl Try.func78 (by kernel_rfl) rfl #[.slice A0 l0.length c0] rfl (by (try simp only [List.map_toArray, List.map_cons, List.map_nil]); first | done | rfl | (simp only [List.length_drop, List.length_take]; rfl)) ?_; (with_reducible refine (impl_size_int64.calls _ _ l0 t508 _ ?side1 ?side2 A4.out).mono ?_); (case side1 => repeat (first | exact (Kd.C_below HR0.out HB.out) | (with_reducible refine Kd.C_alloc ?_ _) | (with_reducible refine Kd.C_drewN ?_ _) | (with_reducible refine Kd.C_drew ?_))); (case side2 => exact HC0.out); rintro e w' ⟨rfl, ⟨nd, rfl⟩⟩; refine ⟨_, rfl, ?_⟩) | ((with_reducible refine Za4 (f := 64) rfl ?_); refine goesL_ (some 12) rfl rfl Try.func64 (by kernel_rfl) rfl #[.int .i64 t508, .int .i64 1, .int .i64 40] rfl (by (try simp only [List.map_toArray, List.map_cons, List.map_nil]); first | done | rfl | (simp only [List.length_drop, List.length_take]; rfl)) ?_; (with_reducible refine (impl_within.calls t508 1 40 true _ A5.out).mono ?_); rintro e w' ⟨rfl, ⟨nd, rfl⟩⟩; refine ⟨_, rfl, ?_⟩) | (go_at_call 69; (with_reducible refine (impl_areWithin.calls k _ _ l0 0 1000000 true _ ?side1 ?side2 A7.out).mono ?_); (case side1 => repeat (first | exact (Kd.C_below HR0.out (by repeat (first | (with_reducible first | exact HB.out | apply Zae | apply Zab | apply Zad) | exact HB.out))) | (with_reducible refine Kd.C_alloc ?_ _) | (with_reducible refine Kd.C_drewN ?_ _) | (with_reducible refine Kd.C_drew ?_))); (case side2 => exact HC0.out); rintro e w11 ⟨rfl, hb⟩; have n0_ := Zac.mk (Zaz (by repeat (first | (with_reducible first | exact HB.out | apply Zae | apply Zab | apply Zad) | exact HB.out)) hb); clear HB; have HB := n0_; clear n0_; (try clear hb); (try clear hb2); (try clear hk); (try clear hi)) | (go_at_call 79; (with_reducible refine (impl_sum.calls k _ _ l0 t511 _ ?side1 ?side2 A9.out).mono ?_); (case side1 => repeat (first | exact (Kd.C_below HR0.out HB.out) | (with_reducible refine Kd.C_alloc ?_ _) | (with_reducible refine Kd.C_drewN ?_ _) | (with_reducible refine Kd.C_drew ?_))); (case side2 => exact HC0.out); rintro e w' ⟨rfl, ⟨nd, rfl⟩⟩))
     go_meet
     case rel => exact ⟨_, (true), (by first | rfl | (simp; done) | (simp [*]; done) | (simp [IntWalk.i64_left, *]; done)), H', ⟨by first | omega | exact Nat.le_refl _⟩, ⟨by repeat (first | (with_reducible first | exact HB.out | apply Zae | apply Zab | apply Zad) | exact HB.out)⟩⟩
    ·rw [if_neg c10] at H
     have c10b0 : (t511 == 0) = false := beq_eq_false_iff_ne.mpr c10
     have c10b1 : (t511 != 0) = true := bne_iff_ne.mpr c10
     (first | rw [c10b0] | (simp only [i64_w, i32_w]; rw [c10b0]) | skip)
     replace H := Option.bind_eq_some_iff.mp H
     obtain ⟨t512, A120, H⟩ := H
     replace H : (Zan.j0 k l0 a1 (!t512)) = some (r1, r2) := H
     have A12 := Zac.mk A120
     clear A120
     have H' := Zac.mk H
     clear H
     go_wp2_with (first | ((with_reducible refine Za4 (f := 78) rfl ?_); refine goesL_ (some 11) rfl rfl Try.func78 (by kernel_rfl) rfl #[.slice A0 l0.length c0] rfl (by (try simp only [List.map_toArray, List.map_cons, List.map_nil]); first | done | rfl | (simp only [List.length_drop, List.length_take]; rfl)) ?_; (with_reducible refine (impl_size_int64.calls _ _ l0 t508 _ ?side1 ?side2 A4.out).mono ?_); (case side1 => repeat (first | exact (Kd.C_below HR0.out HB.out) | (with_reducible refine Kd.C_alloc ?_ _) | (with_reducible refine Kd.C_drewN ?_ _) | (with_reducible refine Kd.C_drew ?_))); (case side2 => exact HC0.out); rintro e w' ⟨rfl, ⟨nd, rfl⟩⟩; refine ⟨_, rfl, ?_⟩) | ((with_reducible refine Za4 (f := 64) rfl ?_); refine goesL_ (some 12) rfl rfl Try.func64 (by kernel_rfl) rfl #[.int .i64 t508, .int .i64 1, .int .i64 40] rfl (by (try simp only [List.map_toArray, List.map_cons, List.map_nil]); first | done | rfl | (simp only [List.length_drop, List.length_take]; rfl)) ?_; (with_reducible refine (impl_within.calls t508 1 40 true _ A5.out).mono ?_); rintro e w' ⟨rfl, ⟨nd, rfl⟩⟩; refine ⟨_, rfl, ?_⟩) | (go_at_call 69; (with_reducible refine (impl_areWithin.calls k _ _ l0 0 1000000 true _ ?side1 ?side2 A7.out).mono ?_); (case side1 => repeat (first | exact (Kd.C_below HR0.out (by repeat (first | (with_reducible first | exact HB.out | apply Zae | apply Zab | apply Zad) | exact HB.out))) | (with_reducible refine Kd.C_alloc ?_ _) | (with_reducible refine Kd.C_drewN ?_ _) | (with_reducible refine Kd.C_drew ?_))); (case side2 => exact HC0.out); rintro e w13 ⟨rfl, hb⟩; have n0_ := Zac.mk (Zaz (by repeat (first | (with_reducible first | exact HB.out | apply Zae | apply Zab | apply Zad) | exact HB.out)) hb); clear HB; have HB := n0_; clear n0_; (try clear hb); (try clear hb2); (try clear hk); (try clear hi)) | (go_at_call 79; (with_reducible refine (impl_sum.calls k _ _ l0 t511 _ ?side1 ?side2 A9.out).mono ?_); (case side1 => repeat (first | exact (Kd.C_below HR0.out HB.out) | (with_reducible refine Kd.C_alloc ?_ _) | (with_reducible refine Kd.C_drewN ?_ _) | (with_reducible refine Kd.C_drew ?_))); (case side2 => exact HC0.out); rintro e w' ⟨rfl, ⟨nd, rfl⟩⟩) | (go_at_call 64; (with_reducible refine (impl_within.calls a1 0 3 t512 _ A12.out).mono ?_); rintro e w' ⟨rfl, ⟨nd, rfl⟩⟩))
     go_meet
     case rel => exact ⟨_, (!t512), (by first | rfl | (simp; done) | (simp [*]; done) | (simp [IntWalk.i64_left, *]; done)), H', ⟨by first | omega | exact Nat.le_refl _⟩, ⟨by repeat (first | (with_reducible first | exact HB.out | apply Zae | apply Zab | apply Zad) | exact HB.out)⟩⟩
   ·replace c8 := Bool.eq_false_iff.mpr c8
    subst c8
    have H1 : (Zan.j0 k l0 a1 true) = some (r1, r2) := by rw [if_neg (show ¬ (false = true) by decide)] at H; exact H
    clear H
    have H := H1
    clear H1
    have H' := Zac.mk H
    clear H
    go_wp2_with (first | ((with_reducible refine Za4 (f := 78) rfl ?_); refine goesL_ (some 11) rfl rfl Try.func78 (by kernel_rfl) rfl #[.slice A0 l0.length c0] rfl (by (try simp only [List.map_toArray, List.map_cons, List.map_nil]); first | done | rfl | (simp only [List.length_drop, List.length_take]; rfl)) ?_; (with_reducible refine (impl_size_int64.calls _ _ l0 t508 _ ?side1 ?side2 A4.out).mono ?_); (case side1 => repeat (first | exact (Kd.C_below HR0.out HB.out) | (with_reducible refine Kd.C_alloc ?_ _) | (with_reducible refine Kd.C_drewN ?_ _) | (with_reducible refine Kd.C_drew ?_))); (case side2 => exact HC0.out); rintro e w' ⟨rfl, ⟨nd, rfl⟩⟩; refine ⟨_, rfl, ?_⟩) | ((with_reducible refine Za4 (f := 64) rfl ?_); refine goesL_ (some 12) rfl rfl Try.func64 (by kernel_rfl) rfl #[.int .i64 t508, .int .i64 1, .int .i64 40] rfl (by (try simp only [List.map_toArray, List.map_cons, List.map_nil]); first | done | rfl | (simp only [List.length_drop, List.length_take]; rfl)) ?_; (with_reducible refine (impl_within.calls t508 1 40 true _ A5.out).mono ?_); rintro e w' ⟨rfl, ⟨nd, rfl⟩⟩; refine ⟨_, rfl, ?_⟩) | (go_at_call 69; (with_reducible refine (impl_areWithin.calls k _ _ l0 0 1000000 false _ ?side1 ?side2 A7.out).mono ?_); (case side1 => repeat (first | exact (Kd.C_below HR0.out (by repeat (first | (with_reducible first | exact HB.out | apply Zae | apply Zab | apply Zad) | exact HB.out))) | (with_reducible refine Kd.C_alloc ?_ _) | (with_reducible refine Kd.C_drewN ?_ _) | (with_reducible refine Kd.C_drew ?_))); (case side2 => exact HC0.out); rintro e w14 ⟨rfl, hb⟩; have n0_ := Zac.mk (Zaz (by repeat (first | (with_reducible first | exact HB.out | apply Zae | apply Zab | apply Zad) | exact HB.out)) hb); clear HB; have HB := n0_; clear n0_; (try clear hb); (try clear hb2); (try clear hk); (try clear hi)))
    go_meet
    case rel => exact ⟨_, (true), (by first | rfl | (simp; done) | (simp [*]; done) | (simp [IntWalk.i64_left, *]; done)), H', ⟨by first | omega | exact Nat.le_refl _⟩, ⟨by repeat (first | (with_reducible first | exact HB.out | apply Zae | apply Zab | apply Zad) | exact HB.out)⟩⟩
  ·replace c6 := Bool.eq_false_iff.mpr c6
   subst c6
   have H1 : (Zan.j0 k l0 a1 true) = some (r1, r2) := by rw [if_neg (show ¬ (false = true) by decide)] at H; exact H
   clear H
   have H := H1
   clear H1
   have H' := Zac.mk H
   clear H
   go_wp2_with (first | ((with_reducible refine Za4 (f := 78) rfl ?_); refine goesL_ (some 11) rfl rfl Try.func78 (by kernel_rfl) rfl #[.slice A0 l0.length c0] rfl (by (try simp only [List.map_toArray, List.map_cons, List.map_nil]); first | done | rfl | (simp only [List.length_drop, List.length_take]; rfl)) ?_; (with_reducible refine (impl_size_int64.calls _ _ l0 t508 _ ?side1 ?side2 A4.out).mono ?_); (case side1 => repeat (first | exact (Kd.C_below HR0.out HB.out) | (with_reducible refine Kd.C_alloc ?_ _) | (with_reducible refine Kd.C_drewN ?_ _) | (with_reducible refine Kd.C_drew ?_))); (case side2 => exact HC0.out); rintro e w' ⟨rfl, ⟨nd, rfl⟩⟩; refine ⟨_, rfl, ?_⟩) | ((with_reducible refine Za4 (f := 64) rfl ?_); refine goesL_ (some 12) rfl rfl Try.func64 (by kernel_rfl) rfl #[.int .i64 t508, .int .i64 1, .int .i64 40] rfl (by (try simp only [List.map_toArray, List.map_cons, List.map_nil]); first | done | rfl | (simp only [List.length_drop, List.length_take]; rfl)) ?_; (with_reducible refine (impl_within.calls t508 1 40 false _ A5.out).mono ?_); rintro e w' ⟨rfl, ⟨nd, rfl⟩⟩; refine ⟨_, rfl, ?_⟩))
   go_meet
   case rel => exact ⟨_, (true), (by first | rfl | (simp; done) | (simp [*]; done) | (simp [IntWalk.i64_left, *]; done)), H', ⟨by first | omega | exact Nat.le_refl _⟩, ⟨by repeat (first | (with_reducible first | exact HB.out | apply Zae | apply Zab | apply Zad) | exact HB.out)⟩⟩
 case rest =>
  clear HC3
  try clear c1
  try clear p2
  try clear c3
  try clear c6
  try clear c7
  try clear c8
  try clear c10
  try clear c10b0
  try clear c10b1
  obtain ⟨kq, x28_2, rfl, HA, HJ2, HB⟩ := hcut
  cases kq with
  | zero => exact absurd HA.out (by simp [Zan.j0])
  | succ kj2 =>
   have H := HA.out
   clear HA
   simp only [Zan.j0] at H
   by_cases c15 : x28_2 = true
   ·subst c15
    have H1 : (some (([] : List Int), false)) = some (r1, r2) := by rw [if_pos rfl] at H; exact H
    clear H
    have H := H1
    clear H1
    simp only [Option.some.injEq, Prod.mk.injEq] at H
    obtain ⟨rfl, rfl⟩ := H
    go_wp2
    go_ret2
    exact ⟨_, by first | rfl | (simp [Zau, Zav] <;> rfl) | (simp [*, Zau, Zav] <;> rfl), by first | exact Kd.R_nil _ _ _ _ _ | exact Kd.N_nil _ _ _ _ _ | exact Kd.V_nil _ _ _ _ _ | exact Kd.Q_nil _ _ _ _ _ | exact Kd.S_nil _ _ _ _ _, by repeat (first | (with_reducible first | exact HB.out | apply Zae | apply Zab | apply Zad) | exact HB.out)⟩
   ·replace c15 := Bool.eq_false_iff.mpr c15
    subst c15
    have H1 : (Zan.l0 kj2 l0 100 a1 0) = some (r1, r2) := by rw [if_neg (show ¬ (false = true) by decide)] at H; exact H
    clear H
    have H := H1
    clear H1
    have H' := Zac.mk H
    clear H
    go_wp2
    go_loopg [6, 30] kj2 (fun kq v6 v30 w' => ∃ (x6_2 : Int) (x30_2 : Int), v6 = .int .i64 x6_2 ∧ v30 = .int .i64 x30_2 ∧ Zac (Zan.l0 kq l0 x6_2 a1 x30_2 = some (r1, r2)) ∧ Zac (kq ≤ kj2) ∧ Zac (Below w.heap.size w w'))
    case atStart => exact ⟨(100), (0), (by first | rfl | (simp; done) | (simp [*]; done) | (simp [IntWalk.i64_left, *]; done)), (by first | rfl | (simp; done) | (simp [*]; done) | (simp [IntWalk.i64_left, *]; done)), H', ⟨Nat.le_refl _⟩, ⟨by repeat (first | (with_reducible first | exact HB.out | apply Zae | apply Zab | apply Zad) | exact HB.out)⟩⟩
    case round =>
     clear H'
     try clear c1
     try clear p2
     try clear c3
     try clear c6
     try clear c7
     try clear c8
     try clear c10
     try clear c10b0
     try clear c10b1
     try clear c15
     try clear p2
     obtain ⟨x6_2, x30_2, rfl, rfl, HA, HK2, HB⟩ := hrel
     cases gk with
     | zero => exact absurd HA.out (by simp [Zan.l0])
     | succ k2 =>
      have H := HA.out
      clear HA
      simp only [Zan.l0] at H
      by_cases c16 : x30_2 < a1
      ·rw [if_pos c16] at H
       have c16b0 : decide (x30_2 < a1) = true := decide_eq_true c16
       clear c16
       have H' := Zac.mk H
       clear H
       go_wp2
       go_roundg k2
       case measure => have := HJ2.out; have := HK2.out; omega
       case rel => exact ⟨(wrap64 (x6_2 * 10)), (wrap64 (x30_2 + 1)), (by first | rfl | (simp; done) | (simp [*]; done) | (simp [IntWalk.i64_left, *]; done)), (by first | rfl | (simp; done) | (simp [*]; done) | (simp [IntWalk.i64_left, *]; done)), H', ⟨by have := HJ2.out; have := HK2.out; omega⟩, ⟨by repeat (first | (with_reducible first | exact HB.out | apply Zae | apply Zab | apply Zad) | exact HB.out)⟩⟩
      ·rw [if_neg c16] at H
       have c16b0 : decide (x30_2 < a1) = false := decide_eq_false c16
       clear c16
       replace H := Option.bind_eq_some_iff.mp H
       obtain ⟨t513, A170, H⟩ := H
       replace H : (Zan.l1 k2 x6_2 l0 (l0.length : Int) 0 t513 ([] : List Int)) = some (r1, r2) := H
       have A17 := Zac.mk A170
       clear A170
       have H' := Zac.mk H
       clear H
       go_wp2_with (first | ((with_reducible refine Za4 (f := 79) rfl ?_); refine goesL_ (some 36) rfl rfl Try.func79 (by kernel_rfl) rfl #[.slice A0 l0.length c0] rfl (by (try simp only [List.map_toArray, List.map_cons, List.map_nil]); first | done | rfl | (simp only [List.length_drop, List.length_take]; rfl)) ?_; (with_reducible refine (impl_sum.calls k2 _ _ l0 t513 _ ?side1 ?side2 A17.out).mono ?_); (case side1 => repeat (first | exact (Kd.C_below HR0.out HB.out) | (with_reducible refine Kd.C_alloc ?_ _) | (with_reducible refine Kd.C_drewN ?_ _) | (with_reducible refine Kd.C_drew ?_))); (case side2 => exact HC0.out); rintro e w' ⟨rfl, ⟨nd, rfl⟩⟩; refine ⟨_, rfl, ?_⟩; (try (rw [drewN_self wr]; generalize hq_ : World.drewN wr _ = wr; have n0_ : Zac (Below w.heap.size w wr) := ⟨by rw [← hq_]; exact (by repeat (first | (with_reducible first | exact HB.out | apply Zae | apply Zab | apply Zad) | exact HB.out))⟩; clear HB hq_; have HB := n0_; clear n0_))) | ((with_reducible refine gate_dst (N := 7) rfl ?_); refine box_event ?hg (N := 7) ?hd (cs := #[.int .i64 0, .slice none 0 0]) (t := 28) ?hr ?_; (case hd => rfl); (case hg => rfl); (case hr => first | (go_simp; done) | (go_simp; rfl)); intro gb514 hg w18 hbox hb; have n0_ := Zac.mk (Zaz (by repeat (first | (with_reducible first | exact HB.out | apply Zae | apply Zab | apply Zad) | exact HB.out)) hb); have n1_ := Zac.mk (hbox); have n2_ := Zac.mk ((by rw [hg]; exact (Zaw (by repeat (first | (with_reducible first | exact HB.out | apply Zae | apply Zab | apply Zad) | exact HB.out))) : w.heap.size ≤ gb514)); have n3_ := Zac.mk ((by rw [hg]; exact (Zaw (by repeat (first | (with_reducible first | exact HB.out | apply Zae | apply Zab | apply Zad) | exact HB.out))) : w.heap.size ≤ gb514)); clear HB; have HB := n0_; have BK514 := n1_; have GW514 := n2_; have GE514 := n3_; clear n0_ n1_ n2_ n3_; clear hb hbox hg; have hcz19_0 : w18.cell? ⟨gb514, 0, none⟩ = some (.int .i64 0) := (Zao BK514.out 0).trans rfl; have hcz19_1 : w18.cell? ⟨gb514, 1, none⟩ = some (.slice none 0 0) := (Zao BK514.out 1).trans rfl; have hfz19_0 := Zap BK514.out 0; have hfz19_1 := Zap BK514.out 1))
       try simp only [Act.put, List.setIfInBounds_toArray, List.set_cons_zero, List.set_cons_succ]
       go_loopg [40] k2 (fun kq v40 w' => ∃ (x40_3 : Int) (x515001_3 : List Int) (u515001 : Value), v40 = .int .i64 x40_3 ∧ Zac (Zan.l1 kq x6_2 l0 (l0.length : Int) x40_3 t513 x515001_3 = some (r1, r2)) ∧ Zac (kq ≤ k2) ∧ Zac (Kd.R (Kd.int .i64) 2 w' w.heap.size (fun _ => True) u515001 x515001_3) ∧ Zac (w'.heap[gb514]? = some (.cells #[.int .i64 t513, u515001] 28 (0, 0))) ∧ Zac (Below w.heap.size w w'))
       case atStart => exact ⟨(0), (([] : List Int)), (.slice none 0 0), (by first | rfl | (simp; done) | (simp [*]; done) | (simp [IntWalk.i64_left, *]; done)), H', ⟨Nat.le_refl _⟩, ⟨by first | exact Kd.R_nil _ _ _ _ _ | exact Kd.N_nil _ _ _ _ _ | exact Kd.V_nil _ _ _ _ _ | exact Kd.Q_nil _ _ _ _ _ | exact Kd.S_nil _ _ _ _ _⟩, ⟨by (with_reducible repeat (first | refine Zah ?_ _ | refine Zaj ?_ | refine Zai ?_ _)); refine blk_put (cs := #[.int .i64 t513, .slice none 0 0]) ?_ 1 _ rfl; (with_reducible repeat (first | refine Zah ?_ _ | refine Zaj ?_ | refine Zai ?_ _)); refine blk_put (cs := #[.int .i64 0, .slice none 0 0]) ?_ 0 _ rfl; (with_reducible repeat (first | refine Zah ?_ _ | refine Zaj ?_ | refine Zai ?_ _)); exact BK514.out⟩, ⟨by repeat (first | (with_reducible first | exact HB.out | apply Zae | apply Zab | apply Zad | refine Zag ?_ GE514.out) | exact HB.out)⟩⟩
       case round =>
        clear H'
        try clear c1
        try clear p2
        try clear c3
        try clear c6
        try clear p6
        try clear c7
        try clear c8
        try clear c10
        try clear c10b0
        try clear c10b1
        try clear c15
        try clear c16
        try clear c16b0
        try clear hcz19_0
        try clear hcz19_1
        try clear hfz19_0
        try clear hfz19_1
        try clear p2
        obtain ⟨x40_3, x515001_3, u515001, rfl, HA, HK3, HO_515001, BK514, HB⟩ := hrel
        cases gk with
        | zero => exact absurd HA.out (by simp [Zan.l1])
        | succ k3 =>
         have H := HA.out
         clear HA
         simp only [Zan.l1] at H
         by_cases c20 : x40_3 < (l0.length : Int)
         ·rw [if_pos c20] at H
          have c20b0 : decide (x40_3 < (l0.length : Int)) = true := decide_eq_true c20
          clear c20
          by_cases c21 : 0 ≤ x40_3
          ·rw [if_pos c21] at H
           have c21b0 : decide (0 ≤ x40_3) = true := decide_eq_true c21
           clear c21
           by_cases c22 : x40_3 < (l0.length : Int)
           ·rw [if_pos c22] at H
            have c22b0 : decide (x40_3 < (l0.length : Int)) = true := decide_eq_true c22
            clear c22
            by_cases c23 : x515001_3.length < 17592186044416
            ·rw [if_pos c23] at H
             have LMc23 := Zac.mk c23
             clear c23
             obtain ⟨y516, hy516⟩ : ∃ y_ : List Int, y_ = (x515001_3 ++ [wrap64 ((rd l0 x40_3) * x6_2)]) := ⟨_, rfl⟩
             replace H : (Zan.l1 k3 x6_2 l0 (l0.length : Int) (wrap64 (x40_3 + 1)) t513 y516) = some (r1, r2) := by first | (rw [hy516]; with_reducible exact H) | (have H2_ := (Option.bind_some _ _).symm.trans H; rw [hy516]; with_reducible exact H2_) | (have H2_ := (Option.bind_some _ _).symm.trans H; with_reducible exact H2_) | with_reducible exact H | (rw [hy516]; exact H) | exact H
             have Ny516 := Zac.mk hy516
             clear hy516
             have H' := Zac.mk H
             clear H
             have p515 : 0 ≤ (x40_3 : Int) := of_decide_eq_true (by first | (with_reducible assumption) | assumption)
             have q515 : x40_3 < (l0.length : Int) := of_decide_eq_true (by first | (with_reducible assumption) | assumption)
             obtain ⟨ad515, e515, hx515_0⟩ := Kd.at_int HR0.out x40_3 p515 q515
             cases e515
             replace hx515_0 := (HB.out.cell (World.block_lt_of_cell? w _ hx515_0)).trans hx515_0
             replace p515 := eq_true p515
             replace q515 := eq_true q515
             have hcz24_0 : wr.cell? ⟨gb514, 0, none⟩ = some (.int .i64 t513) := (Zao BK514.out 0).trans rfl
             have hcz24_1 : wr.cell? ⟨gb514, 1, none⟩ = some (u515001) := (Zao BK514.out 1).trans rfl
             have hfz24_0 := Zap BK514.out 0
             have hfz24_1 := Zap BK514.out 1
             go_wp2_with (first | ((with_reducible refine gate_builtin (b := .append) (xs := #[.tmp 45, .tmp 49]) rfl ?_); at_builtin; refine Kd.R_append (Kd.int .i64) (w0 := w) w.heap.size rfl (.tmp 45) (.tmp 49) 22 2 (.int .i64 0) 8 rfl Try.underlying22 info2 rfl (by decide) (by omega) u515001 x515001_3 (wrap64 ((rd l0 x40_3) * x6_2)) [.int .i64 (wrap64 ((rd l0 x40_3) * x6_2))] (fun _ => True) (fun _ => False) rfl rfl ?aP (fun _ hk => hk.elim) ?aF ?aO ?aB ?aS ?aL ?_; (case aP => exact rfl); (case aB => exact (by repeat (first | (with_reducible first | exact HB.out | apply Zae | apply Zab | apply Zad | refine Zag ?_ GE514.out) | exact HB.out))); (case aF => exact (fun _ _ => trivial)); (case aO => exact (by (with_reducible repeat (first | apply Kd.R_alloc | apply Kd.R_drewN | apply Kd.R_drew)); exact HO_515001.out)); (case aS => exact (Zaw (by repeat (first | (with_reducible first | exact HB.out | apply Zae | apply Zab | apply Zad | refine Zag ?_ GE514.out) | exact HB.out)))); (case aL => have := LMc23.out; omega); intro v517 w25 ho hb hg hat; rw [← Ny516.out] at ho; have n0_ := Zac.mk (blk_grown (g := gb514) (o := .cells #[.int .i64 t513, u515001] 28 (0, 0)) (by (with_reducible repeat (first | refine Zah ?_ _ | refine Zaj ?_ | refine Zai ?_ _)); exact BK514.out) hg (Kd.R_ne HO_515001.out BK514.out (by decide))); have n1_ := Zac.mk (hb); have n2_ := Zac.mk (ho); clear BK514; clear HB; clear HO_515001; have BK514 := n0_; have HB := n1_; have HO518 := n2_; clear n0_ n1_ n2_; clear ho hb hg hat; obtain ⟨Ao26, co26, eo26⟩ := Kd.R_slice HO518.out; subst eo26; have hcz27_0 : w25.cell? ⟨gb514, 0, none⟩ = some (.int .i64 t513) := (Zao BK514.out 0).trans rfl; have hcz27_1 : w25.cell? ⟨gb514, 1, none⟩ = some (u515001) := (Zao BK514.out 1).trans rfl; have hfz27_0 := Zap BK514.out 0; have hfz27_1 := Zap BK514.out 1))
             go_roundg k3
             case measure => have := HJ2.out; have := HK2.out; have := HK3.out; omega
             case rel => exact ⟨(wrap64 (x40_3 + 1)), (y516), (.slice Ao26 y516.length co26), (by first | rfl | (simp; done) | (simp [*]; done) | (simp [IntWalk.i64_left, *]; done)), H', ⟨by have := HJ2.out; have := HK2.out; have := HK3.out; omega⟩, ⟨by (with_reducible repeat (first | apply Kd.R_alloc | apply Kd.R_drewN | apply Kd.R_drew)); exact Kd.R_mono (Kd.R_far (p := ⟨gb514, 1, none⟩) (Kd.R_types HO518.out BK514.out (by decide)) (fun _ hk => hk.2) (.slice Ao26 y516.length co26)) (fun _ hk => trivial)⟩, ⟨by (with_reducible repeat (first | refine Zah ?_ _ | refine Zaj ?_ | refine Zai ?_ _)); refine blk_put (cs := #[.int .i64 t513, u515001]) ?_ 1 _ rfl; (with_reducible repeat (first | refine Zah ?_ _ | refine Zaj ?_ | refine Zai ?_ _)); exact BK514.out⟩, ⟨by repeat (first | (with_reducible first | exact HB.out | apply Zae | apply Zab | apply Zad | refine Zag ?_ GE514.out) | exact HB.out)⟩⟩
            ·rw [if_neg c23] at H
             exact absurd H (by simp)
           ·rw [if_neg c22] at H
            exact absurd H (by simp)
          ·rw [if_neg c21] at H
           exact absurd H (by simp)
         ·rw [if_neg c20] at H
          have c20b0 : decide (x40_3 < (l0.length : Int)) = false := decide_eq_false c20
          clear c20
          replace H := Option.bind_eq_some_iff.mp H
          obtain ⟨t519, A280, H⟩ := H
          replace H : ((impl_sum.f k3 t519).bind fun t522 => ((Zay.f k3 t513 x515001_3 (wrap64 (x6_2 - t522)) 0).bind fun bt523 => ((Zax.f k3 bt523.1 bt523.2.1 bt523.2.2 t513 x515001_3).bind fun t530 => (some (t530, true))))) = some (r1, r2) := H
          have A28 := Zac.mk A280
          clear A280
          replace H := Option.bind_eq_some_iff.mp H
          obtain ⟨t522, A290, H⟩ := H
          replace H : ((Zay.f k3 t513 x515001_3 (wrap64 (x6_2 - t522)) 0).bind fun bt523 => ((Zax.f k3 bt523.1 bt523.2.1 bt523.2.2 t513 x515001_3).bind fun t530 => (some (t530, true)))) = some (r1, r2) := H
          have A29 := Zac.mk A290
          clear A290
          replace H := Option.bind_eq_some_iff.mp H
          obtain ⟨⟨t523, t526, t529⟩, A300, H⟩ := H
          replace H : ((Zax.f k3 t523 t526 t529 t513 x515001_3).bind fun t530 => (some (t530, true))) = some (r1, r2) := H
          have A30 := Zac.mk A300
          clear A300
          replace H := Option.bind_eq_some_iff.mp H
          obtain ⟨t530, A310, H⟩ := H
          replace H : (some (t530, true)) = some (r1, r2) := H
          have A31 := Zac.mk A310
          clear A310
          simp only [Option.some.injEq, Prod.mk.injEq] at H
          obtain ⟨rfl, rfl⟩ := H
          try go_wp2
          have n0_ := Zac.mk (Kd.R_drew HO_515001.out)
          have n1_ := Zac.mk (Zaj BK514.out)
          have n2_ := Zac.mk (Zad HB.out)
          clear HO_515001
          clear BK514
          clear HB
          have HO_515001 := n0_
          have BK514 := n1_
          have HB := n2_
          clear n0_ n1_ n2_
          obtain ⟨Ao33, co33, eo33⟩ := Kd.R_slice HO_515001.out
          (first | subst eo33 | (injection eo33 with f1_ f2_ f3_; have f4_ := f1_.symm; have f5_ := f3_.symm; clear f1_ f2_ f3_; subst f4_; subst f5_))
          refine start_ (n := 11) (S := fun w' => w'.cell? ⟨gb514, 0, none⟩ = some (.int .i64 t513) ∧ w'.cell? ⟨gb514, 1, none⟩ = some (.slice Ao33 x515001_3.length co33)) (ds := []) #[false, false, false, false, false, false, false, false, false, false, false] (by kernel_rfl) rfl rfl ⟨(Zao BK514.out 0).trans rfl, (Zao BK514.out 1).trans rfl⟩ (fun hHeld => ?_); refine with_tabW Zan.tab14 Zan.bits14 (fun HT_ HW_ => ?_)
          generalize wr.drew = w32 at HO_515001 BK514 HB hHeld ⊢
          refine pure_ (i := 1) (N := some 54) (v := ?_) (a' := ?_) #[false, true, false, false, false, false, false, false, false, false, false] rfl rfl (Zar HT_.out (by kernel_rfl)) (fun _ _ _ h => h) (Or.inl ⟨by rfl, ?_⟩) ?_ ?_
          rotate_left
          ·intro w'
           go_simp
           with_reducible rfl
          rotate_left
          ·simp only [Act.put, ZA, ZB, ZC, i64_w, i32_w]
           rfl
          refine take_ (i := 0) (N := some 53) (v := ?_) (a' := ?_) #[true, true, false, false, false, false, false, false, false, false, false] rfl rfl (take_ofW HT_.out HW_.out (by kernel_rfl)) (fun _ _ _ h => h) (Or.inl ⟨by rfl, ?_⟩) hHeld ?_ ?_
          rotate_left
          ·rintro w' ⟨s0, s1⟩
           go_simp
           with_reducible rfl
          rotate_left
          ·simp only [Act.put, ZA, ZB, ZC, i64_w, i32_w]
           rfl
          refine take_ (i := 2) (N := some 55) (v := ?_) (a' := ?_) #[true, true, true, false, false, false, false, false, false, false, false] rfl rfl (take_ofW HT_.out HW_.out (by kernel_rfl)) (fun _ _ _ h => h) (Or.inl ⟨by rfl, ?_⟩) hHeld ?_ ?_
          rotate_left
          ·rintro w' ⟨s0, s1⟩
           go_simp
           with_reducible rfl
          rotate_left
          ·simp only [Act.put, ZA, ZB, ZC, i64_w, i32_w]
           rfl
          refine take_ (i := 7) (N := some 60) (v := ?_) (a' := ?_) #[true, true, true, false, false, false, false, true, false, false, false] rfl rfl (take_ofW HT_.out HW_.out (by kernel_rfl)) (fun _ _ _ h => h) (Or.inl ⟨by rfl, ?_⟩) hHeld ?_ ?_
          rotate_left
          ·rintro w' ⟨s0, s1⟩
           go_simp
           with_reducible rfl
          rotate_left
          ·simp only [Act.put, ZA, ZB, ZC, i64_w, i32_w]
           rfl
          refine one_ (i := 3) (N := some 56) #[true, true, true, true, false, false, false, true, false, false, false] rfl rfl (one_of HT_.out (by kernel_rfl)) (by decide) (fun K hK => ?_)
          refine goes_ Try.func71 (by kernel_rfl) rfl #[.agg #[.int .i64 t513, .slice Ao33 x515001_3.length co33]] (by rfl) rfl rfl (by (try simp only [List.map_toArray, List.map_cons, List.map_nil]); first | done | rfl | (simp only [List.length_drop, List.length_take]; rfl)) ?_
          with_reducible refine (impl_Values_floors.calls k3 t513 _ _ x515001_3 t519 _ ?side1 ?side2 A28.out).mono ?_
          (case side1 => repeat (first | exact (Kd.R_reads' HO_515001.out).2.2 | (with_reducible refine Kd.C_alloc ?_ _) | (with_reducible refine Kd.C_drewN ?_ _) | (with_reducible refine Kd.C_drew ?_)))
          (case side2 => exact (Kd.R_reads' HO_515001.out).2.1)
          rintro e w34 ⟨v520, rfl, ho0, hb⟩
          refine ⟨_, rfl, ?_⟩
          have n0_ := Zac.mk (Kd.R_elder' (by (with_reducible repeat (first | apply Kd.R_alloc | apply Kd.R_drewN | apply Kd.R_drew)); exact HO_515001.out) (Kd.R_base ho0) hb)
          have n1_ := Zac.mk (Kd.R_lower (Kd.R_new' ho0 (Kd.R_lt (by (with_reducible repeat (first | apply Kd.R_alloc | apply Kd.R_drewN | apply Kd.R_drew)); exact HO_515001.out))) (Zaw (by repeat (first | (with_reducible first | exact HB.out | apply Zae | apply Zab | apply Zad | refine Zag ?_ GE514.out) | exact HB.out))))
          have n2_ := Zac.mk (Za0 (g := gb514) (o := .cells #[.int .i64 t513, .slice Ao33 x515001_3.length co33] 28 (0, 0)) (by (with_reducible repeat (first | refine Zah ?_ _ | refine Zaj ?_ | refine Zai ?_ _)); exact BK514.out) hb)
          have n3_ := Zac.mk (Zaz (by repeat (first | (with_reducible first | exact HB.out | apply Zae | apply Zab | apply Zad | refine Zag ?_ GE514.out) | exact HB.out)) hb)
          clear HO_515001
          clear BK514
          clear HB
          have HO_515001 := n0_
          have HO521 := n1_
          have BK514 := n2_
          have HB := n3_
          clear n0_ n1_ n2_ n3_
          (try clear hb)
          (try clear hb2)
          (try clear hk)
          (try clear hi)
          (try clear ho0)
          obtain ⟨Ao35, co35, eo35⟩ := Kd.R_slice HO521.out
          (first | subst eo35 | (injection eo35 with f1_ f2_ f3_; have f4_ := f1_.symm; have f5_ := f3_.symm; clear f1_ f2_ f3_; subst f4_; subst f5_))
          refine hK.out _ _ ⟨(Zao BK514.out 0).trans rfl, (Zao BK514.out 1).trans rfl⟩ (fun hHeld => ?_)
          clear hK K
          refine norm_ (a' := ?_) ?_ ?_
          rotate_left
          ·show Act.put _ (some 56) _ = _
           simp only [Act.put, ZA, ZB, ZC, i64_w, i32_w]
           rfl
          refine one_ (i := 4) (N := some 57) #[true, true, true, true, true, false, false, true, false, false, false] rfl rfl (one_of HT_.out (by kernel_rfl)) (by decide) (fun K hK => ?_)
          refine goes_ Try.func79 (by kernel_rfl) rfl #[.slice Ao35 t519.length co35] (by rfl) rfl rfl (by (try simp only [List.map_toArray, List.map_cons, List.map_nil]); first | done | rfl | (simp only [List.length_drop, List.length_take]; rfl)) ?_
          with_reducible refine (impl_sum.calls k3 _ _ t519 t522 _ ?side1 ?side2 A29.out).mono ?_
          (case side1 => repeat (first | exact (Kd.R_reads' HO521.out).2.2 | (with_reducible refine Kd.C_alloc ?_ _) | (with_reducible refine Kd.C_drewN ?_ _) | (with_reducible refine Kd.C_drew ?_)))
          (case side2 => exact (Kd.R_reads' HO521.out).2.1)
          rintro e w' ⟨rfl, ⟨nd, rfl⟩⟩
          refine ⟨_, rfl, ?_⟩
          refine hK.out _ _ ⟨(Zao BK514.out 0).trans rfl, (Zao BK514.out 1).trans rfl⟩ (fun hHeld => ?_)
          clear hK K
          refine norm_ (a' := ?_) ?_ ?_
          rotate_left
          ·show Act.put _ (some 57) _ = _
           simp only [Act.put, ZA, ZB, ZC, i64_w, i32_w]
           rfl
          refine pure_ (i := 5) (N := some 58) (v := ?_) (a' := ?_) #[true, true, true, true, true, true, false, true, false, false, false] rfl rfl (Zar HT_.out (by kernel_rfl)) (fun _ _ _ h => h) (Or.inl ⟨by rfl, ?_⟩) ?_ ?_
          rotate_left
          ·intro w'
           go_simp
           with_reducible rfl
          rotate_left
          ·simp only [Act.put, ZA, ZB, ZC, i64_w, i32_w]
           rfl
          refine one_ (i := 6) (N := some 59) #[true, true, true, true, true, true, true, true, false, false, false] rfl rfl (one_of HT_.out (by kernel_rfl)) (by decide) (fun K hK => ?_)
          refine goes_ Try.func80 (by kernel_rfl) rfl #[.agg #[.int .i64 t513, .slice Ao33 x515001_3.length co33], .int .i64 (wrap64 (x6_2 - t522)), .int .i64 0] (by rfl) rfl rfl (by (try simp only [List.map_toArray, List.map_cons, List.map_nil]); first | done | rfl | (simp only [List.length_drop, List.length_take]; rfl)) ?_
          with_reducible refine (Zay.calls k3 t513 _ _ x515001_3 (wrap64 (x6_2 - t522)) 0 t523 t526 t529 _ ?side1 ?side2 A30.out).mono ?_
          (case side1 => repeat (first | exact (Kd.R_reads' HO_515001.out).2.2 | (with_reducible refine Kd.C_alloc ?_ _) | (with_reducible refine Kd.C_drewN ?_ _) | (with_reducible refine Kd.C_drew ?_)))
          (case side2 => exact (Kd.R_reads' HO_515001.out).2.1)
          rintro e w36 ⟨v524, v527, rfl, ho0, ho1, hb⟩
          refine ⟨_, rfl, ?_⟩
          have n0_ := Zac.mk (Kd.R_below (by (with_reducible repeat (first | apply Kd.R_alloc | apply Kd.R_drewN | apply Kd.R_drew)); exact HO_515001.out) hb)
          have n1_ := Zac.mk (Kd.R_below (by (with_reducible repeat (first | apply Kd.R_alloc | apply Kd.R_drewN | apply Kd.R_drew)); exact HO521.out) hb)
          have n2_ := Zac.mk (Kd.R_lower ho0 (Zaw (by repeat (first | (with_reducible first | exact HB.out | apply Zae | apply Zab | apply Zad | refine Zag ?_ GE514.out) | exact HB.out))))
          have n3_ := Zac.mk (Kd.R_lower ho1 (Zaw (by repeat (first | (with_reducible first | exact HB.out | apply Zae | apply Zab | apply Zad | refine Zag ?_ GE514.out) | exact HB.out))))
          have n4_ := Zac.mk (Za0 (g := gb514) (o := .cells #[.int .i64 t513, .slice Ao33 x515001_3.length co33] 28 (0, 0)) (by (with_reducible repeat (first | refine Zah ?_ _ | refine Zaj ?_ | refine Zai ?_ _)); exact BK514.out) hb)
          have n5_ := Zac.mk (Zaz (by repeat (first | (with_reducible first | exact HB.out | apply Zae | apply Zab | apply Zad | refine Zag ?_ GE514.out) | exact HB.out)) hb)
          clear HO_515001
          clear HO521
          clear BK514
          clear HB
          have HO_515001 := n0_
          have HO521 := n1_
          have HO525 := n2_
          have HO528 := n3_
          have BK514 := n4_
          have HB := n5_
          clear n0_ n1_ n2_ n3_ n4_ n5_
          (try clear hb)
          (try clear hb2)
          (try clear hk)
          (try clear hi)
          (try clear ho0)
          (try clear ho1)
          obtain ⟨Ao37, co37, eo37⟩ := Kd.R_slice HO525.out
          (first | subst eo37 | (injection eo37 with f1_ f2_ f3_; have f4_ := f1_.symm; have f5_ := f3_.symm; clear f1_ f2_ f3_; subst f4_; subst f5_))
          obtain ⟨Ao38, co38, eo38⟩ := Kd.R_slice HO528.out
          (first | subst eo38 | (injection eo38 with f1_ f2_ f3_; have f4_ := f1_.symm; have f5_ := f3_.symm; clear f1_ f2_ f3_; subst f4_; subst f5_))
          refine hK.out _ _ ⟨(Zao BK514.out 0).trans rfl, (Zao BK514.out 1).trans rfl⟩ (fun hHeld => ?_)
          clear hK K
          refine norm_ (a' := ?_) ?_ ?_
          rotate_left
          ·show Act.put _ (some 59) _ = _
           simp only [Act.put, ZA, ZB, ZC, i64_w, i32_w]
           rfl
          refine one_ (i := 8) (N := some 61) #[true, true, true, true, true, true, true, true, true, false, false] rfl rfl (one_of HT_.out (by kernel_rfl)) (by decide) (fun K hK => ?_)
          refine goes_ Try.func81 (by kernel_rfl) rfl #[.agg #[.slice Ao37 t523.length co37, .slice Ao38 t526.length co38, .int .i64 t529], .agg #[.int .i64 t513, .slice Ao33 x515001_3.length co33]] (by rfl) rfl rfl (by (try simp only [List.map_toArray, List.map_cons, List.map_nil]); first | done | rfl | (simp only [List.length_drop, List.length_take]; rfl)) ?_
          with_reducible refine (Zax.calls k3 _ _ t523 _ _ t526 t529 t513 _ _ x515001_3 t530 _ ?side1 ?side2 ?side3 ?side4 ?side5 ?side6 A31.out).mono ?_
          (case side1 => repeat (first | exact (Kd.R_reads' HO525.out).2.2 | (with_reducible refine Kd.C_alloc ?_ _) | (with_reducible refine Kd.C_drewN ?_ _) | (with_reducible refine Kd.C_drew ?_)))
          (case side2 => exact (Kd.R_reads' HO525.out).2.1)
          (case side3 => repeat (first | exact (Kd.R_reads' HO528.out).2.2 | (with_reducible refine Kd.C_alloc ?_ _) | (with_reducible refine Kd.C_drewN ?_ _) | (with_reducible refine Kd.C_drew ?_)))
          (case side4 => exact (Kd.R_reads' HO528.out).2.1)
          (case side5 => repeat (first | exact (Kd.R_reads' HO_515001.out).2.2 | (with_reducible refine Kd.C_alloc ?_ _) | (with_reducible refine Kd.C_drewN ?_ _) | (with_reducible refine Kd.C_drew ?_)))
          (case side6 => exact (Kd.R_reads' HO_515001.out).2.1)
          rintro e w39 ⟨v531, rfl, ho0, hb⟩
          refine ⟨_, rfl, ?_⟩
          have n0_ := Zac.mk (Kd.R_elder' (by (with_reducible repeat (first | apply Kd.R_alloc | apply Kd.R_drewN | apply Kd.R_drew)); exact HO_515001.out) (Kd.R_base ho0) hb)
          have n1_ := Zac.mk (Kd.R_elder' (by (with_reducible repeat (first | apply Kd.R_alloc | apply Kd.R_drewN | apply Kd.R_drew)); exact HO521.out) (Kd.R_base ho0) hb)
          have n2_ := Zac.mk (Kd.R_below (by (with_reducible repeat (first | apply Kd.R_alloc | apply Kd.R_drewN | apply Kd.R_drew)); exact HO525.out) hb)
          have n3_ := Zac.mk (Kd.R_below (by (with_reducible repeat (first | apply Kd.R_alloc | apply Kd.R_drewN | apply Kd.R_drew)); exact HO528.out) hb)
          have n4_ := Zac.mk (Kd.R_lower (Kd.R_new' (Kd.R_new' ho0 (Kd.R_lt (by (with_reducible repeat (first | apply Kd.R_alloc | apply Kd.R_drewN | apply Kd.R_drew)); exact HO_515001.out))) (Kd.R_lt (by (with_reducible repeat (first | apply Kd.R_alloc | apply Kd.R_drewN | apply Kd.R_drew)); exact HO521.out))) (Zaw (by repeat (first | (with_reducible first | exact HB.out | apply Zae | apply Zab | apply Zad | refine Zag ?_ GE514.out) | exact HB.out))))
          have n5_ := Zac.mk (Za0 (g := gb514) (o := .cells #[.int .i64 t513, .slice Ao33 x515001_3.length co33] 28 (0, 0)) (by (with_reducible repeat (first | refine Zah ?_ _ | refine Zaj ?_ | refine Zai ?_ _)); exact BK514.out) hb)
          have n6_ := Zac.mk (Zaz (by repeat (first | (with_reducible first | exact HB.out | apply Zae | apply Zab | apply Zad | refine Zag ?_ GE514.out) | exact HB.out)) hb)
          clear HO_515001
          clear HO521
          clear HO525
          clear HO528
          clear BK514
          clear HB
          have HO_515001 := n0_
          have HO521 := n1_
          have HO525 := n2_
          have HO528 := n3_
          have HO532 := n4_
          have BK514 := n5_
          have HB := n6_
          clear n0_ n1_ n2_ n3_ n4_ n5_ n6_
          (try clear hb)
          (try clear hb2)
          (try clear hk)
          (try clear hi)
          (try clear ho0)
          refine hK.out _ _ ⟨(Zao BK514.out 0).trans rfl, (Zao BK514.out 1).trans rfl⟩ (fun hHeld => ?_)
          clear hK K
          refine norm_ (a' := ?_) ?_ ?_
          rotate_left
          ·show Act.put _ (some 61) _ = _
           simp only [Act.put, ZA, ZB, ZC, i64_w, i32_w]
           rfl
          refine pure_ (i := 9) (N := some 4) (v := ?_) (a' := ?_) #[true, true, true, true, true, true, true, true, true, true, false] rfl rfl (Zar HT_.out (by kernel_rfl)) (fun _ _ _ h => h) (Or.inl ⟨by rfl, ?_⟩) ?_ ?_
          rotate_left
          ·intro w'
           go_simp
           with_reducible rfl
          rotate_left
          ·simp only [Act.put, ZA, ZB, ZC, i64_w, i32_w]
           rfl
          refine pure_ (i := 10) (N := some 5) (v := ?_) (a' := ?_) #[true, true, true, true, true, true, true, true, true, true, true] rfl rfl (Zar HT_.out (by kernel_rfl)) (fun _ _ _ h => h) (Or.inl ⟨by rfl, ?_⟩) ?_ ?_
          rotate_left
          ·intro w'
           go_simp
           with_reducible rfl
          rotate_left
          ·simp only [Act.put, ZA, ZB, ZC, i64_w, i32_w]
           rfl
          refine done_ (done_of HT_.out (by kernel_rfl)) ?_
          try go_wp2
          go_ret2
          exact ⟨_, by first | rfl | (simp [Zau, Zav] <;> rfl) | (simp [*, Zau, Zav] <;> rfl), by (with_reducible repeat (first | apply Kd.R_alloc | apply Kd.R_drewN | apply Kd.R_drew)); exact Kd.R_mono HO532.out (fun _ hk => trivial), by repeat (first | (with_reducible first | exact HB.out | apply Zae | apply Zab | apply Zad | refine Zag ?_ GE514.out) | exact HB.out)⟩
def laws_r8Sum.l0 : Nat → List Int → Int → Int → Option (Int)
 | 0, _, _, _ => none
 | k + 1, x0, x3, x4 => if x4 < (x0.length : Int) then (if 0 ≤ x4 then (laws_r8Sum.l0 k x0 (wrap64 (x3 + (rd x0 x4))) (wrap64 (x4 + 1))) else (none)) else (some x3)
def laws_r8Sum.f (k : Nat) (l0 : List Int) : Option (Int) := laws_r8Sum.l0 k l0 0 0
set_option maxHeartbeats 8000000 in
set_option maxRecDepth 100000 in
theorem laws_r8Sum.calls (k : Nat) (A0 : Option Addr) (c0 : Nat) (l0 : List Int) (r : Int) (w : World) (hr0 : Kd.C (Kd.int .i64) w A0 l0.length l0) (hc0 : l0.length ≤ c0) (h : laws_r8Sum.f k l0 = some r) :
  Calls Try.prog 37 #[.slice A0 l0.length c0] w fun e w' => e = .returned (.int .i64 r) ∧ Drawn0 w w' := by
 have HR0 := Zac.mk hr0
 have HC0 := Zac.mk hc0
 clear hr0 hc0
 have H : (laws_r8Sum.l0 k l0 0 0) = some r := h
 clear h
 have H' := Zac.mk H
 clear H
 go_enter Try.func37, Try.ntmps37
 go_wp2
 go_loopg [3, 4] k (fun kq v3 v4 w' => ∃ (x3_1 : Int) (x4_1 : Int), v3 = .int .i64 x3_1 ∧ v4 = .int .i64 x4_1 ∧ Zac (laws_r8Sum.l0 kq l0 x3_1 x4_1 = some r) ∧ Zac (kq ≤ k) ∧ Drawn0 w w')
 case atStart => exact ⟨(0), (0), (by first | rfl | (simp; done) | (simp [*]; done)), (by first | rfl | (simp; done) | (simp [*]; done)), H', ⟨Nat.le_refl _⟩, by repeat (first | exact Drawn0.refl _ | apply Drawn0.step)⟩
 case round =>
  clear H'
  obtain ⟨x3_1, x4_1, rfl, rfl, HA, HK1, ⟨m1, rfl⟩⟩ := hrel
  cases gk with
  | zero => exact absurd HA.out (by simp [laws_r8Sum.l0])
  | succ k1 =>
   have H := HA.out
   clear HA
   simp only [laws_r8Sum.l0] at H
   by_cases c2 : x4_1 < (l0.length : Int)
   ·rw [if_pos c2] at H
    have c2b0 : decide (x4_1 < (l0.length : Int)) = true := decide_eq_true c2
    clear c2
    by_cases c3 : 0 ≤ x4_1
    ·rw [if_pos c3] at H
     have c3b0 : decide (0 ≤ x4_1) = true := decide_eq_true c3
     clear c3
     have H' := Zac.mk H
     clear H
     have p533 : 0 ≤ (x4_1 : Int) := of_decide_eq_true (by first | (with_reducible assumption) | assumption)
     have q533 : x4_1 < (l0.length : Int) := of_decide_eq_true (by first | (with_reducible assumption) | assumption)
     obtain ⟨ad533, e533, hx533_0⟩ := Kd.at_int HR0.out x4_1 p533 q533
     cases e533
     replace p533 := eq_true p533
     replace q533 := eq_true q533
     go_wp2
     go_roundg k1
     case measure => have := HK1.out; omega
     case rel => exact ⟨(wrap64 (x3_1 + (rd l0 x4_1))), (wrap64 (x4_1 + 1)), (by first | rfl | (simp; done) | (simp [*]; done)), (by first | rfl | (simp; done) | (simp [*]; done)), H', ⟨by have := HK1.out; omega⟩, by repeat (first | exact Drawn0.refl _ | apply Drawn0.step)⟩
    ·rw [if_neg c3] at H
     exact absurd H (by simp)
   ·rw [if_neg c2] at H
    have c2b0 : decide (x4_1 < (l0.length : Int)) = false := decide_eq_false c2
    clear c2
    obtain rfl := Option.some.inj H
    go_wp2
    go_ret
    exact ⟨by first | rfl | (simp; done) | (simp [*]; done), by repeat (first | exact Drawn0.refl _ | apply Drawn0.step)⟩
end Go.Proofs.Ytgmmfdilfpkbmaa.P
