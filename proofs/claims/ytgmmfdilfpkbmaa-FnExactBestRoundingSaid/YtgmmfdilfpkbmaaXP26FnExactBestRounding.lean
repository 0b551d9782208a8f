import Derived.Test.YtgmmfdilfpkbmaaXP0FnExactBestRounding
import Derived.Test.YtgmmfdilfpkbmaaXP1FnExactBestRounding
import Derived.Test.YtgmmfdilfpkbmaaXP2FnExactBestRounding
import Derived.Test.YtgmmfdilfpkbmaaXP6FnExactBestRounding
namespace Go.Proofs.Ytgmmfdilfpkbmaa.P
open Go.RowKit Go.Proofs.YtgmmfdilfpkbmaaW.PrintWords Go.Proofs.YtgmmfdilfpkbmaaW.PrintLast Go.Proofs.YtgmmfdilfpkbmaaW.PrintMore
attribute [local go_sem] max2_int min2_int max_two min_two max_three min_three max_four min_four
set_option linter.unusedVariables false
set_option linter.unusedSimpArgs false
def spec_l04Bounds.l0 : Nat → Int → Int → Int → Int → List Int → Option (Int × Int)
 | 0, _, _, _, _, _ => none
 | k + 1, x4, x5, x6, x51000, x51001 => if x6 < (x51001.length : Int) then (if 0 ≤ x6 then ((spec_l01Floor.f (rd x51001 x6) x51000).bind fun t811 => ((spec_l01Ceil.f (rd x51001 x6) x51000).bind fun t813 => (spec_l04Bounds.l0 k (wrap64 (x4 + t811)) (wrap64 (x5 + t813)) (wrap64 (x6 + 1)) x51000 x51001))) else (none)) else (some (x4, x5))
def spec_l04Bounds.f (k : Nat) (a0_0 : Int) (l0_1 : List Int) : Option (Int × Int) := spec_l04Bounds.l0 k 0 0 0 a0_0 l0_1
set_option maxHeartbeats 8000000 in
set_option maxRecDepth 100000 in
theorem spec_l04Bounds.calls (k : Nat) (gp50 : Nat) (a0_0 : Int) (A0_1 : Option Addr) (c0_1 : Nat) (l0_1 : List Int) (r1 : Int) (r2 : Int) (w : World) (hb50 : w.heap[gp50]? = some (.cells #[.int .i64 a0_0, .slice A0_1 l0_1.length c0_1] 28 (0, 0))) (hr0_1 : Kd.C (Kd.int .i64) w A0_1 l0_1.length l0_1) (hc0_1 : l0_1.length ≤ c0_1) (h : spec_l04Bounds.f k a0_0 l0_1 = some (r1, r2)) :
  Calls Try.prog 92 #[.pointer (some ⟨gp50, 0, none⟩)] w fun e w' => e = .returned (.tuple #[.int .i64 r1, .int .i64 r2]) ∧ Below w.heap.size w w' := by
 have HR0_1 := Zac.mk hr0_1
 have HC0_1 := Zac.mk hc0_1
 clear hr0_1 hc0_1
 have BK50 := Zac.mk hb50
 clear hb50
 have HB := Zac.mk (Below.refl w.heap.size w)
 have H : (spec_l04Bounds.l0 k 0 0 0 a0_0 l0_1) = some (r1, r2) := h
 clear h
 have H' := Zac.mk H
 clear H
 go_enter Try.func92, Try.ntmps92
 go_wp2
 repeat (go_quiet (fail); try go_wp2)
 go_loopg [4, 5, 6] k (fun kq v4 v5 v6 w' => ∃ (x4_1 : Int) (x5_1 : Int) (x6_1 : Int), v4 = .int .i64 x4_1 ∧ v5 = .int .i64 x5_1 ∧ v6 = .int .i64 x6_1 ∧ Zac (spec_l04Bounds.l0 kq x4_1 x5_1 x6_1 a0_0 l0_1 = some (r1, r2)) ∧ Zac (kq ≤ k) ∧ Zac (w'.heap[gp50]? = some (.cells #[.int .i64 a0_0, (.slice A0_1 l0_1.length c0_1)] 28 (0, 0))) ∧ Zac (Below w.heap.size w w'))
 case atStart => exact ⟨(0), (0), (0), (by first | rfl | (simp; done) | (simp [*]; done) | (simp [IntWalk.i64_left, *]; done)), (by first | rfl | (simp; done) | (simp [*]; done) | (simp [IntWalk.i64_left, *]; done)), (by first | rfl | (simp; done) | (simp [*]; done) | (simp [IntWalk.i64_left, *]; done)), H', ⟨Nat.le_refl _⟩, ⟨by (with_reducible repeat (first | refine Zah ?_ _ | refine Zai ?_ | refine Zag ?_ _)); exact BK50.out⟩, ⟨by repeat (first | (with_reducible first | exact HB.out | apply Zae | apply Zab | apply Zad | refine Zaf ?_ GE50.out) | exact HB.out)⟩⟩
 case round =>
  clear H'
  obtain ⟨x4_1, x5_1, x6_1, rfl, rfl, rfl, HA, HK1, BK50, HB⟩ := hrel
  cases gk with
  | zero => exact absurd HA.out (by simp [spec_l04Bounds.l0])
  | succ k1 =>
   have H := HA.out
   clear HA
   simp only [spec_l04Bounds.l0] at H
   by_cases c2 : x6_1 < (l0_1.length : Int)
   ·rw [if_pos c2] at H
    have c2b0 : decide (x6_1 < (l0_1.length : Int)) = true := decide_eq_true c2
    clear c2
    by_cases c3 : 0 ≤ x6_1
    ·rw [if_pos c3] at H
     have c3b0 : decide (0 ≤ x6_1) = true := decide_eq_true c3
     clear c3
     replace H := Option.bind_eq_some_iff.mp H
     obtain ⟨t811, A40, H⟩ := H
     replace H : ((spec_l01Ceil.f (rd l0_1 x6_1) a0_0).bind fun t813 => (spec_l04Bounds.l0 k1 (wrap64 (x4_1 + t811)) (wrap64 (x5_1 + t813)) (wrap64 (x6_1 + 1)) a0_0 l0_1)) = some (r1, r2) := H
     have A4 := Zac.mk A40
     clear A40
     replace H := Option.bind_eq_some_iff.mp H
     obtain ⟨t813, A50, H⟩ := H
     replace H : (spec_l04Bounds.l0 k1 (wrap64 (x4_1 + t811)) (wrap64 (x5_1 + t813)) (wrap64 (x6_1 + 1)) a0_0 l0_1) = some (r1, r2) := H
     have A5 := Zac.mk A50
     clear A50
     have H' := Zac.mk H
     clear H
     have hcz6_0 : wr.cell? ⟨gp50, 0, none⟩ = some (.int .i64 a0_0) := (Zak BK50.out 0).trans rfl
     have hcz6_1 : wr.cell? ⟨gp50, 1, none⟩ = some (.slice A0_1 l0_1.length c0_1) := (Zak BK50.out 1).trans rfl
     have hfz6_0 := Zan BK50.out 0
     have hfz6_1 := Zan BK50.out 1
     have p810 : 0 ≤ (x6_1 : Int) := of_decide_eq_true (by first | (with_reducible assumption) | assumption)
     have q810 : x6_1 < (l0_1.length : Int) := of_decide_eq_true (by first | (with_reducible assumption) | assumption)
     obtain ⟨ad810, e810, hx810_0⟩ := Kd.at_int HR0_1.out x6_1 p810 q810
     cases e810
     replace hx810_0 := (HB.out.cell (World.block_lt_of_cell? w _ hx810_0)).trans hx810_0
     replace p810 := eq_true p810
     replace q810 := eq_true q810
     go_wp2_with (first | (go_at_call 85; (with_reducible refine (spec_l01Floor.calls (rd l0_1 x6_1) a0_0 t811 _ A4.out).mono ?_); rintro e w' ⟨rfl, ⟨nd, rfl⟩⟩; (try first | exact ⟨rfl, _, World.drewN_drewN _ _ _⟩ | exact ⟨rfl, _, Eq.trans (World.drewN_drewN _ _ _) (congrArg (World.drewN _) (Nat.add_assoc _ _ _))⟩); have p812 : 0 ≤ (x6_1 : Int) := of_decide_eq_true (by first | (with_reducible assumption) | assumption); have q812 : x6_1 < (l0_1.length : Int) := of_decide_eq_true (by first | (with_reducible assumption) | assumption); obtain ⟨ad812, e812, hx812_0⟩ := Kd.at_int HR0_1.out x6_1 p812 q812; obtain rfl : ad810 = ad812 := (by injection e812); replace hx812_0 := (HB.out.cell (World.block_lt_of_cell? w _ hx812_0)).trans hx812_0; replace p812 := eq_true p812; replace q812 := eq_true q812) | (go_at_call 87; (with_reducible refine (spec_l01Ceil.calls (rd l0_1 x6_1) a0_0 t813 _ A5.out).mono ?_); rintro e w' ⟨rfl, ⟨nd, rfl⟩⟩; (try first | exact ⟨rfl, _, World.drewN_drewN _ _ _⟩ | exact ⟨rfl, _, Eq.trans (World.drewN_drewN _ _ _) (congrArg (World.drewN _) (Nat.add_assoc _ _ _))⟩)))
     repeat (go_quiet (first | (go_at_call 85; (with_reducible refine (spec_l01Floor.calls (rd l0_1 x6_1) a0_0 t811 _ A4.out).mono ?_); rintro e w' ⟨rfl, ⟨nd, rfl⟩⟩; (try first | exact ⟨rfl, _, World.drewN_drewN _ _ _⟩ | exact ⟨rfl, _, Eq.trans (World.drewN_drewN _ _ _) (congrArg (World.drewN _) (Nat.add_assoc _ _ _))⟩); have p812 : 0 ≤ (x6_1 : Int) := of_decide_eq_true (by first | (with_reducible assumption) | assumption); have q812 : x6_1 < (l0_1.length : Int) := of_decide_eq_true (by first | (with_reducible assumption) | assumption); obtain ⟨ad812, e812, hx812_0⟩ := Kd.at_int HR0_1.out x6_1 p812 q812; obtain rfl : ad810 = ad812 := (by injection e812); replace hx812_0 := (HB.out.cell (World.block_lt_of_cell? w _ hx812_0)).trans hx812_0; replace p812 := eq_true p812; replace q812 := eq_true q812) | (go_at_call 87; (with_reducible refine (spec_l01Ceil.calls (rd l0_1 x6_1) a0_0 t813 _ A5.out).mono ?_); rintro e w' ⟨rfl, ⟨nd, rfl⟩⟩; (try first | exact ⟨rfl, _, World.drewN_drewN _ _ _⟩ | exact ⟨rfl, _, Eq.trans (World.drewN_drewN _ _ _) (congrArg (World.drewN _) (Nat.add_assoc _ _ _))⟩))); try go_wp2_with (first | (go_at_call 85; (with_reducible refine (spec_l01Floor.calls (rd l0_1 x6_1) a0_0 t811 _ A4.out).mono ?_); rintro e w' ⟨rfl, ⟨nd, rfl⟩⟩; (try first | exact ⟨rfl, _, World.drewN_drewN _ _ _⟩ | exact ⟨rfl, _, Eq.trans (World.drewN_drewN _ _ _) (congrArg (World.drewN _) (Nat.add_assoc _ _ _))⟩); have p812 : 0 ≤ (x6_1 : Int) := of_decide_eq_true (by first | (with_reducible assumption) | assumption); have q812 : x6_1 < (l0_1.length : Int) := of_decide_eq_true (by first | (with_reducible assumption) | assumption); obtain ⟨ad812, e812, hx812_0⟩ := Kd.at_int HR0_1.out x6_1 p812 q812; obtain rfl : ad810 = ad812 := (by injection e812); replace hx812_0 := (HB.out.cell (World.block_lt_of_cell? w _ hx812_0)).trans hx812_0; replace p812 := eq_true p812; replace q812 := eq_true q812) | (go_at_call 87; (with_reducible refine (spec_l01Ceil.calls (rd l0_1 x6_1) a0_0 t813 _ A5.out).mono ?_); rintro e w' ⟨rfl, ⟨nd, rfl⟩⟩; (try first | exact ⟨rfl, _, World.drewN_drewN _ _ _⟩ | exact ⟨rfl, _, Eq.trans (World.drewN_drewN _ _ _) (congrArg (World.drewN _) (Nat.add_assoc _ _ _))⟩))))
     go_roundg k1
     case measure => have := HK1.out; omega
     case rel => exact ⟨(wrap64 (x4_1 + t811)), (wrap64 (x5_1 + t813)), (wrap64 (x6_1 + 1)), (by first | rfl | (simp; done) | (simp [*]; done) | (simp [IntWalk.i64_left, *]; done)), (by first | rfl | (simp; done) | (simp [*]; done) | (simp [IntWalk.i64_left, *]; done)), (by first | rfl | (simp; done) | (simp [*]; done) | (simp [IntWalk.i64_left, *]; done)), H', ⟨by have := HK1.out; omega⟩, ⟨by (with_reducible repeat (first | refine Zah ?_ _ | refine Zai ?_ | refine Zag ?_ _)); exact BK50.out⟩, ⟨by repeat (first | (with_reducible first | exact HB.out | apply Zae | apply Zab | apply Zad | refine Zaf ?_ GE50.out) | exact HB.out)⟩⟩
    ·rw [if_neg c3] at H
     exact absurd H (by simp)
   ·rw [if_neg c2] at H
    have c2b0 : decide (x6_1 < (l0_1.length : Int)) = false := decide_eq_false c2
    clear c2
    simp only [Option.some.injEq, Prod.mk.injEq] at H
    obtain ⟨rfl, rfl⟩ := H
    have hcz7_0 : wr.cell? ⟨gp50, 0, none⟩ = some (.int .i64 a0_0) := (Zak BK50.out 0).trans rfl
    have hcz7_1 : wr.cell? ⟨gp50, 1, none⟩ = some (.slice A0_1 l0_1.length c0_1) := (Zak BK50.out 1).trans rfl
    have hfz7_0 := Zan BK50.out 0
    have hfz7_1 := Zan BK50.out 1
    go_wp2
    repeat (go_quiet (fail); try go_wp2)
    go_ret2
    exact ⟨by first | rfl | (simp [Zaq, Zar] <;> rfl) | (simp [*, Zaq, Zar] <;> rfl), by repeat (first | (with_reducible first | exact HB.out | apply Zae | apply Zab | apply Zad | refine Zaf ?_ GE50.out) | exact HB.out)⟩
def spec_l04Norm.f (a0 : Int) : Option (Bool) := (spec_l00In.f a0 0 2).bind fun t814 => (some t814)
set_option maxHeartbeats 8000000 in
set_option maxRecDepth 100000 in
theorem spec_l04Norm.calls (a0 : Int) (r : Bool) (w : World) (h : spec_l04Norm.f a0 = some r) :
  Calls Try.prog 115 #[.int .i64 a0] w fun e w' => e = .returned (.bool r) ∧ Drawn0 w w' := by
 have H : ((spec_l00In.f a0 0 2).bind fun t814 => (some t814)) = some r := h
 clear h
 replace H := Option.bind_eq_some_iff.mp H
 obtain ⟨t814, A20, H⟩ := H
 replace H : (some t814) = some r := H
 have A2 := Zac.mk A20
 clear A20
 obtain rfl := Option.some.inj H
 go_enter Try.func115, Try.ntmps115
 go_wp2_with (first | ((with_reducible refine Zaw (f := 75) rfl ?_); refine goesL_ (some 4) rfl rfl Try.func75 (by kernel_rfl) rfl #[.int .i64 a0, .int .i64 0, .int .i64 2] rfl (by (try simp only [List.map_toArray, List.map_cons, List.map_nil]); first | done | rfl | (simp only [List.length_drop, List.length_take]; rfl)) ?_; (with_reducible refine (spec_l00In.calls a0 0 2 t814 _ A2.out).mono ?_); rintro e w' ⟨rfl, ⟨nd, rfl⟩⟩; refine ⟨_, rfl, ?_⟩))
 go_ret
 exact ⟨by first | rfl | (simp; done) | (simp [*]; done), by repeat (first | exact Drawn0.refl _ | apply Drawn0.step)⟩
def spec_l04Ask.j0 : Nat → Int → Bool → Int → List Int → Option (Bool)
 | 0, _, _, _, _ => none
 | k + 1, x1, x16, x51000, x51001 => if x16 = true then (some false) else ((spec_l04Bounds.f k x51000 x51001).bind fun bt817 => ((spec_l00In.f x1 bt817.1 bt817.2).bind fun t819 => (some t819)))
def spec_l04Ask.f (k : Nat) (a0_0 : Int) (l0_1 : List Int) (a1 : Int) (a2 : Int) : Option (Bool) := (spec_l01Is.f k a0_0 l0_1).bind fun t815 => (if t815 = true then ((spec_l04Norm.f a2).bind fun t816 => (spec_l04Ask.j0 k a1 (!t816) a0_0 l0_1)) else (spec_l04Ask.j0 k a1 true a0_0 l0_1))
set_option maxHeartbeats 8000000 in
set_option maxRecDepth 100000 in
theorem spec_l04Ask.calls (k : Nat) (gp50 : Nat) (a0_0 : Int) (A0_1 : Option Addr) (c0_1 : Nat) (l0_1 : List Int) (a1 : Int) (a2 : Int) (r : Bool) (w : World) (hb50 : w.heap[gp50]? = some (.cells #[.int .i64 a0_0, .slice A0_1 l0_1.length c0_1] 28 (0, 0))) (hr0_1 : Kd.C (Kd.int .i64) w A0_1 l0_1.length l0_1) (hc0_1 : l0_1.length ≤ c0_1) (h : spec_l04Ask.f k a0_0 l0_1 a1 a2 = some r) :
  Calls Try.prog 91 #[.pointer (some ⟨gp50, 0, none⟩), .int .i64 a1, .int .i64 a2] w fun e w' => e = .returned (.bool r) ∧ Below w.heap.size w w' := by
 have HR0_1 := Zac.mk hr0_1
 have HC0_1 := Zac.mk hc0_1
 clear hr0_1 hc0_1
 have BK50 := Zac.mk hb50
 clear hb50
 have HB := Zac.mk (Below.refl w.heap.size w)
 have H : ((spec_l01Is.f k a0_0 l0_1).bind fun t815 => (if t815 = true then ((spec_l04Norm.f a2).bind fun t816 => (spec_l04Ask.j0 k a1 (!t816) a0_0 l0_1)) else (spec_l04Ask.j0 k a1 true a0_0 l0_1))) = some r := h
 clear h
 have HC4 := Zac.mk H
 clear H
 go_enter Try.func91, Try.ntmps91
 go_upto_region 1 with (fail)
 go_cut [16] (fun v16 wc => ∃ (kq : Nat) (x16_3 : Bool), v16 = .bool x16_3 ∧ Zac (spec_l04Ask.j0 kq a1 x16_3 a0_0 l0_1 = some r) ∧ Zac (kq ≤ k) ∧ Zac (wc.heap[gp50]? = some (.cells #[.int .i64 a0_0, (.slice A0_1 l0_1.length c0_1)] 28 (0, 0))) ∧ Zac (Below w.heap.size w wc))
 case first =>
  have H := HC4.out
  clear HC4
  replace H := Option.bind_eq_some_iff.mp H
  obtain ⟨t815, A50, H⟩ := H
  replace H : (if t815 = true then ((spec_l04Norm.f a2).bind fun t816 => (spec_l04Ask.j0 k a1 (!t816) a0_0 l0_1)) else (spec_l04Ask.j0 k a1 true a0_0 l0_1)) = some r := H
  have A5 := Zac.mk A50
  clear A50
  by_cases c6 : t815 = true
  ·subst c6
   have H1 : ((spec_l04Norm.f a2).bind fun t816 => (spec_l04Ask.j0 k a1 (!t816) a0_0 l0_1)) = some r := by rw [if_pos rfl] at H; exact H
   clear H
   have H := H1
   clear H1
   replace H := Option.bind_eq_some_iff.mp H
   obtain ⟨t816, A70, H⟩ := H
   replace H : (spec_l04Ask.j0 k a1 (!t816) a0_0 l0_1) = some r := H
   have A7 := Zac.mk A70
   clear A70
   have H' := Zac.mk H
   clear H
   go_wp2_with (first | ((with_reducible refine Zaw (f := 52) rfl ?_); refine goesL_ (some 10) rfl rfl Try.func52 (by kernel_rfl) rfl #[.pointer (some ⟨gp50, 0, none⟩)] rfl (by (try simp only [List.map_toArray, List.map_cons, List.map_nil]); first | done | rfl | (simp only [List.length_drop, List.length_take]; rfl)) ?_; (with_reducible refine (spec_l01Is.calls k gp50 a0_0 A0_1 c0_1 l0_1 true _ ?side1 ?side2 ?side3 A5.out).mono ?_); (case side1 => exact (by (with_reducible repeat (first | refine Zah ?_ _ | refine Zai ?_ | refine Zag ?_ _)); exact BK50.out)); (case side2 => repeat (first | exact (Kd.C_below HR0_1.out HB.out) | (with_reducible refine Kd.C_alloc ?_ _) | (with_reducible refine Kd.C_drewN ?_ _) | (with_reducible refine Kd.C_drew ?_))); (case side3 => exact HC0_1.out); rintro e w8 ⟨rfl, hb⟩; refine ⟨_, rfl, ?_⟩; have n0_ := Zac.mk (Zat (g := gp50) (o := .cells #[.int .i64 a0_0, .slice A0_1 l0_1.length c0_1] 28 (0, 0)) (by (with_reducible repeat (first | refine Zah ?_ _ | refine Zai ?_ | refine Zag ?_ _)); exact BK50.out) hb); have n1_ := Zac.mk (Zas (by repeat (first | (with_reducible first | exact HB.out | apply Zae | apply Zab | apply Zad | refine Zaf ?_ GE50.out) | exact HB.out)) hb); clear BK50; clear HB; have BK50 := n0_; have HB := n1_; clear n0_ n1_; (try clear hb); (try clear hb2); (try clear hk); (try clear hi)) | (go_at_call 115; (with_reducible refine (spec_l04Norm.calls a2 t816 _ A7.out).mono ?_); rintro e w' ⟨rfl, ⟨nd, rfl⟩⟩))
   go_meet
   case rel => exact ⟨_, (!t816), (by first | rfl | (simp; done) | (simp [*]; done)), H', ⟨by first | omega | exact Nat.le_refl _⟩, ⟨by (with_reducible repeat (first | refine Zah ?_ _ | refine Zai ?_ | refine Zag ?_ _)); exact BK50.out⟩, ⟨by repeat (first | (with_reducible first | exact HB.out | apply Zae | apply Zab | apply Zad | refine Zaf ?_ GE50.out) | exact HB.out)⟩⟩
  ·replace c6 := Bool.eq_false_iff.mpr c6
   subst c6
   have H1 : (spec_l04Ask.j0 k a1 true a0_0 l0_1) = some r := by rw [if_neg (show ¬ (false = true) by decide)] at H; exact H
   clear H
   have H := H1
   clear H1
   have H' := Zac.mk H
   clear H
   go_wp2_with (first | ((with_reducible refine Zaw (f := 52) rfl ?_); refine goesL_ (some 10) rfl rfl Try.func52 (by kernel_rfl) rfl #[.pointer (some ⟨gp50, 0, none⟩)] rfl (by (try simp only [List.map_toArray, List.map_cons, List.map_nil]); first | done | rfl | (simp only [List.length_drop, List.length_take]; rfl)) ?_; (with_reducible refine (spec_l01Is.calls k gp50 a0_0 A0_1 c0_1 l0_1 false _ ?side1 ?side2 ?side3 A5.out).mono ?_); (case side1 => exact (by (with_reducible repeat (first | refine Zah ?_ _ | refine Zai ?_ | refine Zag ?_ _)); exact BK50.out)); (case side2 => repeat (first | exact (Kd.C_below HR0_1.out HB.out) | (with_reducible refine Kd.C_alloc ?_ _) | (with_reducible refine Kd.C_drewN ?_ _) | (with_reducible refine Kd.C_drew ?_))); (case side3 => exact HC0_1.out); rintro e w9 ⟨rfl, hb⟩; refine ⟨_, rfl, ?_⟩; have n0_ := Zac.mk (Zat (g := gp50) (o := .cells #[.int .i64 a0_0, .slice A0_1 l0_1.length c0_1] 28 (0, 0)) (by (with_reducible repeat (first | refine Zah ?_ _ | refine Zai ?_ | refine Zag ?_ _)); exact BK50.out) hb); have n1_ := Zac.mk (Zas (by repeat (first | (with_reducible first | exact HB.out | apply Zae | apply Zab | apply Zad | refine Zaf ?_ GE50.out) | exact HB.out)) hb); clear BK50; clear HB; have BK50 := n0_; have HB := n1_; clear n0_ n1_; (try clear hb); (try clear hb2); (try clear hk); (try clear hi)))
   go_meet
   case rel => exact ⟨_, (true), (by first | rfl | (simp; done) | (simp [*]; done)), H', ⟨by first | omega | exact Nat.le_refl _⟩, ⟨by (with_reducible repeat (first | refine Zah ?_ _ | refine Zai ?_ | refine Zag ?_ _)); exact BK50.out⟩, ⟨by repeat (first | (with_reducible first | exact HB.out | apply Zae | apply Zab | apply Zad | refine Zaf ?_ GE50.out) | exact HB.out)⟩⟩
 case rest =>
  clear HC4
  try clear p2
  try clear c5
  try clear p5
  try clear c6
  try clear c9
  obtain ⟨kq, x16_3, rfl, HA, HJ3, BK50, HB⟩ := hcut
  cases kq with
  | zero => exact absurd HA.out (by simp [spec_l04Ask.j0])
  | succ kj3 =>
   have H := HA.out
   clear HA
   simp only [spec_l04Ask.j0] at H
   by_cases c10 : x16_3 = true
   ·subst c10
    have H1 : (some false) = some r := by rw [if_pos rfl] at H; exact H
    clear H
    have H := H1
    clear H1
    obtain rfl := Option.some.inj H
    go_wp2
    go_ret
    exact ⟨by first | rfl | (simp [Zaq, Zar] <;> rfl) | (simp [*, Zaq, Zar] <;> rfl), by repeat (first | (with_reducible first | exact HB.out | apply Zae | apply Zab | apply Zad | refine Zaf ?_ GE50.out) | exact HB.out)⟩
   ·replace c10 := Bool.eq_false_iff.mpr c10
    subst c10
    have H1 : ((spec_l04Bounds.f kj3 a0_0 l0_1).bind fun bt817 => ((spec_l00In.f a1 bt817.1 bt817.2).bind fun t819 => (some t819))) = some r := by rw [if_neg (show ¬ (false = true) by decide)] at H; exact H
    clear H
    have H := H1
    clear H1
    replace H := Option.bind_eq_some_iff.mp H
    obtain ⟨⟨t817, t818⟩, A110, H⟩ := H
    replace H : ((spec_l00In.f a1 t817 t818).bind fun t819 => (some t819)) = some r := H
    have A11 := Zac.mk A110
    clear A110
    replace H := Option.bind_eq_some_iff.mp H
    obtain ⟨t819, A120, H⟩ := H
    replace H : (some t819) = some r := H
    have A12 := Zac.mk A120
    clear A120
    obtain rfl := Option.some.inj H
    go_wp2_with (first | ((with_reducible refine Zaw (f := 92) rfl ?_); refine goesL_ (some 19) rfl rfl Try.func92 (by kernel_rfl) rfl #[.pointer (some ⟨gp50, 0, none⟩)] rfl (by (try simp only [List.map_toArray, List.map_cons, List.map_nil]); first | done | rfl | (simp only [List.length_drop, List.length_take]; rfl)) ?_; (with_reducible refine (spec_l04Bounds.calls kj3 gp50 a0_0 A0_1 c0_1 l0_1 t817 t818 _ ?side1 ?side2 ?side3 A11.out).mono ?_); (case side1 => exact (by (with_reducible repeat (first | refine Zah ?_ _ | refine Zai ?_ | refine Zag ?_ _)); exact BK50.out)); (case side2 => repeat (first | exact (Kd.C_below HR0_1.out HB.out) | (with_reducible refine Kd.C_alloc ?_ _) | (with_reducible refine Kd.C_drewN ?_ _) | (with_reducible refine Kd.C_drew ?_))); (case side3 => exact HC0_1.out); rintro e w13 ⟨rfl, hb⟩; refine ⟨_, rfl, ?_⟩; have n0_ := Zac.mk (Zat (g := gp50) (o := .cells #[.int .i64 a0_0, .slice A0_1 l0_1.length c0_1] 28 (0, 0)) (by (with_reducible repeat (first | refine Zah ?_ _ | refine Zai ?_ | refine Zag ?_ _)); exact BK50.out) hb); have n1_ := Zac.mk (Zas (by repeat (first | (with_reducible first | exact HB.out | apply Zae | apply Zab | apply Zad | refine Zaf ?_ GE50.out) | exact HB.out)) hb); clear BK50; clear HB; have BK50 := n0_; have HB := n1_; clear n0_ n1_; (try clear hb); (try clear hb2); (try clear hk); (try clear hi)) | ((with_reducible refine Zaw (f := 75) rfl ?_); refine goesL_ (some 25) rfl rfl Try.func75 (by kernel_rfl) rfl #[.int .i64 a1, .int .i64 t817, .int .i64 t818] rfl (by (try simp only [List.map_toArray, List.map_cons, List.map_nil]); first | done | rfl | (simp only [List.length_drop, List.length_take]; rfl)) ?_; (with_reducible refine (spec_l00In.calls a1 t817 t818 t819 _ A12.out).mono ?_); rintro e w' ⟨rfl, ⟨nd, rfl⟩⟩; refine ⟨_, rfl, ?_⟩))
    go_ret
    exact ⟨by first | rfl | (simp [Zaq, Zar] <;> rfl) | (simp [*, Zaq, Zar] <;> rfl), by repeat (first | (with_reducible first | exact HB.out | apply Zae | apply Zab | apply Zad | refine Zaf ?_ GE50.out) | exact HB.out)⟩
end Go.Proofs.Ytgmmfdilfpkbmaa.P
