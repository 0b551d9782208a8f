import Derived.Test.YtoelhfbmeegbdaaXP0FnExactIsGroupRounding
import Derived.Test.YtoelhfbmeegbdaaXP2FnExactIsGroupRounding
import Derived.Test.YtoelhfbmeegbdaaXP3FnExactIsGroupRounding
namespace Go.Proofs.Ytoelhfbmeegbdaa.P
open Go.RowKit Go.Proofs.YtoelhfbmeegbdaaW.PrintWords Go.Proofs.YtoelhfbmeegbdaaW.PrintLast Go.Proofs.YtoelhfbmeegbdaaW.PrintMore
attribute [local go_sem] max2_int min2_int max_two min_two max_three min_three max_four min_four
set_option linter.unusedVariables false
set_option linter.unusedSimpArgs false
mutual
def Zaq.l0 : Nat → Int → List (List Int) → Int → Option (Bool)
 | 0, _, _, _ => none
 | k + 1, x0, x1, x5 => if x5 < (x1.length : Int) then (if 0 ≤ x5 then ((spec_l00Rises.f k (rd_L1 x1 x5) 0 (wrap64 (x0 - 1))).bind fun t141 => (if t141 = true then (Zaq.j1 k x0 x1 x5 (((rd_L1 x1 x5).length : Int) == 0)) else (Zaq.j1 k x0 x1 x5 true))) else (none)) else (some (decide ((x1.length : Int) ≤ 12)))
def Zaq.j1 : Nat → Int → List (List Int) → Int → Bool → Option (Bool)
 | 0, _, _, _, _ => none
 | k + 1, x0, x1, x5, x30 => if x30 = true then (some false) else (Zaq.l1 k x0 x1 x5 0)
def Zaq.l1 : Nat → Int → List (List Int) → Int → Int → Option (Bool)
 | 0, _, _, _, _ => none
 | k + 1, x0, x1, x5, x6 => if x6 < x5 then (Zaq.j3 k x0 x1 x5 x6 (decide ((x1.length : Int) ≤ 12))) else (Zaq.j3 k x0 x1 x5 x6 false)
def Zaq.j3 : Nat → Int → List (List Int) → Int → Int → Bool → Option (Bool)
 | 0, _, _, _, _, _ => none
 | k + 1, x0, x1, x5, x6, x38 => if x38 = true then (Zaq.l2 k x0 x1 x5 x6 0 0) else (Zaq.l0 k x0 x1 (wrap64 (x5 + 1)))
def Zaq.l2 : Nat → Int → List (List Int) → Int → Int → Int → Int → Option (Bool)
 | 0, _, _, _, _, _, _ => none
 | k + 1, x0, x1, x5, x6, x7, x8 => if 0 ≤ x6 then (if x6 < (x1.length : Int) then (if x8 < ((rd_L1 x1 x6).length : Int) then (if 0 ≤ x5 then (if x5 < (x1.length : Int) then (if 0 ≤ x8 then ((spec_l00Has.f k (rd_L1 x1 x5) (rd (rd_L1 x1 x6) x8)).bind fun t147 => (if t147 = true then (Zaq.l2 k x0 x1 x5 x6 (wrap64 (x7 + 1)) (wrap64 (x8 + 1))) else (Zaq.l2 k x0 x1 x5 x6 x7 (wrap64 (x8 + 1))))) else (none)) else (none)) else (none)) else (if x7 > 0 then (if 0 ≤ x5 then (if x5 < (x1.length : Int) then (if x7 < ((rd_L1 x1 x5).length : Int) then (if x7 < ((rd_L1 x1 x6).length : Int) then (some false) else (Zaq.l1 k x0 x1 x5 (wrap64 (x6 + 1)))) else (Zaq.l1 k x0 x1 x5 (wrap64 (x6 + 1)))) else (none)) else (none)) else (Zaq.l1 k x0 x1 x5 (wrap64 (x6 + 1))))) else (none)) else (none)
end
def Zaq.f (k : Nat) (a0 : Int) (l1 : List (List Int)) : Option (Bool) := Zaq.l0 k a0 l1 0
set_option maxHeartbeats 8000000 in
set_option maxRecDepth 100000 in
theorem Zaq.calls (k : Nat) (a0 : Int) (A1 : Option Addr) (c1 : Nat) (l1 : List (List Int)) (r : Bool) (w : World) (hr1 : Kd.C (Kd.slice 2 (Kd.int .i64)) w A1 l1.length l1) (hc1 : l1.length ≤ c1) (h : Zaq.f k a0 l1 = some r) :
  Calls Try.prog 33 #[.int .i64 a0, .slice A1 l1.length c1] w fun e w' => e = .returned (.bool r) ∧ Za1 w w' := by
 have HR1 := Zab.mk hr1
 have HC1 := Zab.mk hc1
 clear hr1 hc1
 have H : (Zaq.l0 k a0 l1 0) = some r := h
 clear h
 have H' := Zab.mk H
 clear H
 go_enter Try.func33, Try.ntmps33
 go_wp2
 repeat (go_quiet (fail); try go_wp2)
 go_loopg [5] k (fun kq v5 w' => ∃ (x5_1 : Int), v5 = .int .i64 x5_1 ∧ Zab (Zaq.l0 kq a0 l1 x5_1 = some r) ∧ Zab (kq ≤ k) ∧ Za1 w w')
 case atStart => exact ⟨(0), (by first | rfl | (simp; done) | (simp [*]; done) | (simp [IntWalk.i64_left, *]; done)), H', ⟨Nat.le_refl _⟩, by repeat (first | exact Za1.refl _ | apply Za1.step)⟩
 case round =>
  clear H'
  try clear c1
  try clear p2
  obtain ⟨x5_1, rfl, HA, HK1, ⟨m1, rfl⟩⟩ := hrel
  cases gk with
  | zero => exact absurd HA.out (by simp [Zaq.l0])
  | succ k1 =>
   have H := HA.out
   clear HA
   simp only [Zaq.l0] at H
   by_cases c3 : x5_1 < (l1.length : Int)
   ·rw [if_pos c3] at H
    have c3b0 : decide (x5_1 < (l1.length : Int)) = true := decide_eq_true c3
    clear c3
    have HC4 := Zab.mk H
    clear H
    go_upto_region 4 with (fail)
    repeat (go_quiet (fail); go_upto_region 4 with (fail))
    go_cut [30] (fun v30 wc => ∃ (kq : Nat) (x30_3 : Bool), v30 = .bool x30_3 ∧ Zab (Zaq.j1 kq a0 l1 x5_1 x30_3 = some r) ∧ Zab (kq ≤ k1) ∧ Za1 w wc)
    case first =>
     have H := HC4.out
     clear HC4
     by_cases c5 : 0 ≤ x5_1
     ·rw [if_pos c5] at H
      have c5b0 : decide (0 ≤ x5_1) = true := decide_eq_true c5
      clear c5
      (first | rw [c5b0] | (simp only [i64_w, i32_w]; rw [c5b0]) | skip)
      replace H := Option.bind_eq_some_iff.mp H
      obtain ⟨t141, A60, H⟩ := H
      replace H : (if t141 = true then (Zaq.j1 k1 a0 l1 x5_1 (((rd_L1 l1 x5_1).length : Int) == 0)) else (Zaq.j1 k1 a0 l1 x5_1 true)) = some r := H
      have A6 := Zab.mk A60
      clear A60
      by_cases c7 : t141 = true
      ·subst c7
       have H1 : (Zaq.j1 k1 a0 l1 x5_1 (((rd_L1 l1 x5_1).length : Int) == 0)) = some r := by rw [if_pos rfl] at H; exact H
       clear H
       have H := H1
       clear H1
       have H' := Zab.mk H
       clear H
       have p140 : 0 ≤ (x5_1 : Int) := of_decide_eq_true (by first | (with_reducible assumption) | assumption)
       have q140 : x5_1 < (l1.length : Int) := of_decide_eq_true (by first | (with_reducible assumption) | assumption)
       obtain ⟨ad140, A140_0, c140_0, e140, hx140_0, hl140_0, hi140_0⟩ := at_L1 HR1.out x5_1 p140 q140
       cases e140
       have HR140_0 := Zab.mk hi140_0
       have HC140_0 := Zab.mk hl140_0
       clear hi140_0 hl140_0
       replace p140 := eq_true p140
       replace q140 := eq_true q140
       as_aux_lemma =>
        go_wp2_with (first | (go_at_call 44; (with_reducible refine (spec_l00Rises.calls k1 _ _ (rd_L1 l1 x5_1) 0 (wrap64 (a0 - 1)) true _ ?side1 ?side2 A6.out).mono ?_); (case side1 => repeat (first | exact HR140_0.out | (with_reducible refine Kd.C_alloc ?_ _) | (with_reducible refine Kd.C_drewN ?_ _) | (with_reducible refine Kd.C_drew ?_))); (case side2 => exact HC140_0.out); rintro e w' ⟨rfl, ⟨nd, rfl⟩⟩; (try first | exact ⟨rfl, _, World.drewN_drewN _ _ _⟩ | exact ⟨rfl, _, Eq.trans (World.drewN_drewN _ _ _) (congrArg (World.drewN _) (Nat.add_assoc _ _ _))⟩); have p142 : 0 ≤ (x5_1 : Int) := of_decide_eq_true (by first | (with_reducible assumption) | assumption); have q142 : x5_1 < (l1.length : Int) := of_decide_eq_true (by first | (with_reducible assumption) | assumption); obtain ⟨ad142, A142_0, c142_0, e142, hx142_0, hl142_0, hi142_0⟩ := at_L1 HR1.out x5_1 p142 q142; obtain rfl : ad140 = ad142 := (by injection e142); have HR142_0 := Zab.mk hi142_0; have HC142_0 := Zab.mk hl142_0; clear hi142_0 hl142_0; replace p142 := eq_true p142; replace q142 := eq_true q142; have ea_ := Option.some.inj (hx140_0.symm.trans hx142_0); injection ea_ with ea_ en_ ec_; subst ea_; subst ec_; clear en_))
        repeat (go_quiet (first | (go_at_call 44; (with_reducible refine (spec_l00Rises.calls k1 _ _ (rd_L1 l1 x5_1) 0 (wrap64 (a0 - 1)) true _ ?side1 ?side2 A6.out).mono ?_); (case side1 => repeat (first | exact HR140_0.out | (with_reducible refine Kd.C_alloc ?_ _) | (with_reducible refine Kd.C_drewN ?_ _) | (with_reducible refine Kd.C_drew ?_))); (case side2 => exact HC140_0.out); rintro e w' ⟨rfl, ⟨nd, rfl⟩⟩; (try first | exact ⟨rfl, _, World.drewN_drewN _ _ _⟩ | exact ⟨rfl, _, Eq.trans (World.drewN_drewN _ _ _) (congrArg (World.drewN _) (Nat.add_assoc _ _ _))⟩); have p142 : 0 ≤ (x5_1 : Int) := of_decide_eq_true (by first | (with_reducible assumption) | assumption); have q142 : x5_1 < (l1.length : Int) := of_decide_eq_true (by first | (with_reducible assumption) | assumption); obtain ⟨ad142, A142_0, c142_0, e142, hx142_0, hl142_0, hi142_0⟩ := at_L1 HR1.out x5_1 p142 q142; obtain rfl : ad140 = ad142 := (by injection e142); have HR142_0 := Zab.mk hi142_0; have HC142_0 := Zab.mk hl142_0; clear hi142_0 hl142_0; replace p142 := eq_true p142; replace q142 := eq_true q142; have ea_ := Option.some.inj (hx140_0.symm.trans hx142_0); injection ea_ with ea_ en_ ec_; subst ea_; subst ec_; clear en_)); try go_wp2_with (first | (go_at_call 44; (with_reducible refine (spec_l00Rises.calls k1 _ _ (rd_L1 l1 x5_1) 0 (wrap64 (a0 - 1)) true _ ?side1 ?side2 A6.out).mono ?_); (case side1 => repeat (first | exact HR140_0.out | (with_reducible refine Kd.C_alloc ?_ _) | (with_reducible refine Kd.C_drewN ?_ _) | (with_reducible refine Kd.C_drew ?_))); (case side2 => exact HC140_0.out); rintro e w' ⟨rfl, ⟨nd, rfl⟩⟩; (try first | exact ⟨rfl, _, World.drewN_drewN _ _ _⟩ | exact ⟨rfl, _, Eq.trans (World.drewN_drewN _ _ _) (congrArg (World.drewN _) (Nat.add_assoc _ _ _))⟩); have p142 : 0 ≤ (x5_1 : Int) := of_decide_eq_true (by first | (with_reducible assumption) | assumption); have q142 : x5_1 < (l1.length : Int) := of_decide_eq_true (by first | (with_reducible assumption) | assumption); obtain ⟨ad142, A142_0, c142_0, e142, hx142_0, hl142_0, hi142_0⟩ := at_L1 HR1.out x5_1 p142 q142; obtain rfl : ad140 = ad142 := (by injection e142); have HR142_0 := Zab.mk hi142_0; have HC142_0 := Zab.mk hl142_0; clear hi142_0 hl142_0; replace p142 := eq_true p142; replace q142 := eq_true q142; have ea_ := Option.some.inj (hx140_0.symm.trans hx142_0); injection ea_ with ea_ en_ ec_; subst ea_; subst ec_; clear en_)))
        go_meet
        case rel => exact ⟨_, ((((rd_L1 l1 x5_1).length : Int) == 0)), (by first | rfl | (simp; done) | (simp [*]; done) | (simp [IntWalk.i64_left, *]; done)), H', ⟨by have := HK1.out; first | omega | exact Nat.le_refl _⟩, by repeat (first | exact Za1.refl _ | apply Za1.step)⟩
      ·replace c7 := Bool.eq_false_iff.mpr c7
       subst c7
       have H1 : (Zaq.j1 k1 a0 l1 x5_1 true) = some r := by rw [if_neg (show ¬ (false = true) by decide)] at H; exact H
       clear H
       have H := H1
       clear H1
       have H' := Zab.mk H
       clear H
       have p140 : 0 ≤ (x5_1 : Int) := of_decide_eq_true (by first | (with_reducible assumption) | assumption)
       have q140 : x5_1 < (l1.length : Int) := of_decide_eq_true (by first | (with_reducible assumption) | assumption)
       obtain ⟨ad140, A140_0, c140_0, e140, hx140_0, hl140_0, hi140_0⟩ := at_L1 HR1.out x5_1 p140 q140
       cases e140
       have HR140_0 := Zab.mk hi140_0
       have HC140_0 := Zab.mk hl140_0
       clear hi140_0 hl140_0
       replace p140 := eq_true p140
       replace q140 := eq_true q140
       as_aux_lemma =>
        go_wp2_with (first | (go_at_call 44; (with_reducible refine (spec_l00Rises.calls k1 _ _ (rd_L1 l1 x5_1) 0 (wrap64 (a0 - 1)) false _ ?side1 ?side2 A6.out).mono ?_); (case side1 => repeat (first | exact HR140_0.out | (with_reducible refine Kd.C_alloc ?_ _) | (with_reducible refine Kd.C_drewN ?_ _) | (with_reducible refine Kd.C_drew ?_))); (case side2 => exact HC140_0.out); rintro e w' ⟨rfl, ⟨nd, rfl⟩⟩; (try first | exact ⟨rfl, _, World.drewN_drewN _ _ _⟩ | exact ⟨rfl, _, Eq.trans (World.drewN_drewN _ _ _) (congrArg (World.drewN _) (Nat.add_assoc _ _ _))⟩)))
        repeat (go_quiet (first | (go_at_call 44; (with_reducible refine (spec_l00Rises.calls k1 _ _ (rd_L1 l1 x5_1) 0 (wrap64 (a0 - 1)) false _ ?side1 ?side2 A6.out).mono ?_); (case side1 => repeat (first | exact HR140_0.out | (with_reducible refine Kd.C_alloc ?_ _) | (with_reducible refine Kd.C_drewN ?_ _) | (with_reducible refine Kd.C_drew ?_))); (case side2 => exact HC140_0.out); rintro e w' ⟨rfl, ⟨nd, rfl⟩⟩; (try first | exact ⟨rfl, _, World.drewN_drewN _ _ _⟩ | exact ⟨rfl, _, Eq.trans (World.drewN_drewN _ _ _) (congrArg (World.drewN _) (Nat.add_assoc _ _ _))⟩))); try go_wp2_with (first | (go_at_call 44; (with_reducible refine (spec_l00Rises.calls k1 _ _ (rd_L1 l1 x5_1) 0 (wrap64 (a0 - 1)) false _ ?side1 ?side2 A6.out).mono ?_); (case side1 => repeat (first | exact HR140_0.out | (with_reducible refine Kd.C_alloc ?_ _) | (with_reducible refine Kd.C_drewN ?_ _) | (with_reducible refine Kd.C_drew ?_))); (case side2 => exact HC140_0.out); rintro e w' ⟨rfl, ⟨nd, rfl⟩⟩; (try first | exact ⟨rfl, _, World.drewN_drewN _ _ _⟩ | exact ⟨rfl, _, Eq.trans (World.drewN_drewN _ _ _) (congrArg (World.drewN _) (Nat.add_assoc _ _ _))⟩))))
        go_meet
        case rel => exact ⟨_, (true), (by first | rfl | (simp; done) | (simp [*]; done) | (simp [IntWalk.i64_left, *]; done)), H', ⟨by have := HK1.out; first | omega | exact Nat.le_refl _⟩, by repeat (first | exact Za1.refl _ | apply Za1.step)⟩
     ·rw [if_neg c5] at H
      exact absurd H (by simp)
    case rest =>
     clear HC4
     try clear c1
     try clear p1
     try clear q1
     try clear hx1
     try clear p2
     try clear c3
     try clear c3b0
     try clear c5
     try clear c5b0
     try clear p6
     try clear c7
     try clear hx140_0
     try clear hx142_0
     try clear p140
     try clear p142
     try clear p2
     try clear q140
     try clear q142
     obtain ⟨kq, x30_3, rfl, HA, HJ3, ⟨mc3, rfl⟩⟩ := hcut
     cases kq with
     | zero => exact absurd HA.out (by simp [Zaq.j1])
     | succ kj3 =>
      have H := HA.out
      clear HA
      simp only [Zaq.j1] at H
      by_cases c8 : x30_3 = true
      ·subst c8
       have H1 : (some false) = some r := by rw [if_pos rfl] at H; exact H
       clear H
       have H := H1
       clear H1
       obtain rfl := Option.some.inj H
       as_aux_lemma =>
        go_wp2
        repeat (go_quiet (fail); try go_wp2)
        go_ret
        exact ⟨by first | rfl | (simp; done) | (simp [*]; done), by repeat (first | exact Za1.refl _ | apply Za1.step)⟩
      ·replace c8 := Bool.eq_false_iff.mpr c8
       subst c8
       have H1 : (Zaq.l1 kj3 a0 l1 x5_1 0) = some r := by rw [if_neg (show ¬ (false = true) by decide)] at H; exact H
       clear H
       have H := H1
       clear H1
       have H' := Zab.mk H
       clear H
       go_wp2
       repeat (go_quiet (fail); try go_wp2)
       go_loopg [6] kj3 (fun kq v6 w' => ∃ (x6_3 : Int), v6 = .int .i64 x6_3 ∧ Zab (Zaq.l1 kq a0 l1 x5_1 x6_3 = some r) ∧ Zab (kq ≤ kj3) ∧ Za1 w w')
       case atStart => exact ⟨(0), (by first | rfl | (simp; done) | (simp [*]; done) | (simp [IntWalk.i64_left, *]; done)), H', ⟨Nat.le_refl _⟩, by repeat (first | exact Za1.refl _ | apply Za1.step)⟩
       case round =>
        clear H'
        try clear c1
        try clear p1
        try clear q1
        try clear hx1
        try clear p2
        try clear c3
        try clear c3b0
        try clear c5
        try clear c5b0
        try clear p6
        try clear c7
        try clear c8
        try clear hx140_0
        try clear hx142_0
        try clear p1
        try clear p140
        try clear p142
        try clear p2
        try clear p6
        try clear q1
        try clear q140
        try clear q142
        obtain ⟨x6_3, rfl, HA, HK3, ⟨m3, rfl⟩⟩ := hrel
        cases gk with
        | zero => exact absurd HA.out (by simp [Zaq.l1])
        | succ k3 =>
         have H := HA.out
         clear HA
         simp only [Zaq.l1] at H
         have HC9 := Zab.mk H
         clear H
         go_upto_region 7 with (fail)
         repeat (go_quiet (fail); go_upto_region 7 with (fail))
         go_cut [38] (fun v38 wc => ∃ (kq : Nat) (x38_8 : Bool), v38 = .bool x38_8 ∧ Zab (Zaq.j3 kq a0 l1 x5_1 x6_3 x38_8 = some r) ∧ Zab (kq ≤ k3) ∧ Za1 w wc)
         case first =>
          have H := HC9.out
          clear HC9
          by_cases c10 : x6_3 < x5_1
          ·rw [if_pos c10] at H
           have c10b0 : decide (x6_3 < x5_1) = true := decide_eq_true c10
           clear c10
           (first | rw [c10b0] | (simp only [i64_w, i32_w]; rw [c10b0]) | skip)
           have H' := Zab.mk H
           clear H
           as_aux_lemma =>
            go_wp2
            repeat (go_quiet (fail); try go_wp2)
            go_meet
            case rel => exact ⟨_, (decide ((l1.length : Int) ≤ 12)), (by first | rfl | (simp; done) | (simp [*]; done) | (simp [IntWalk.i64_left, *]; done)), H', ⟨by have := HK1.out; have := HJ3.out; have := HK3.out; first | omega | exact Nat.le_refl _⟩, by repeat (first | exact Za1.refl _ | apply Za1.step)⟩
          ·rw [if_neg c10] at H
           have c10b0 : decide (x6_3 < x5_1) = false := decide_eq_false c10
           clear c10
           (first | rw [c10b0] | (simp only [i64_w, i32_w]; rw [c10b0]) | skip)
           have H' := Zab.mk H
           clear H
           as_aux_lemma =>
            go_wp2
            repeat (go_quiet (fail); try go_wp2)
            go_meet
            case rel => exact ⟨_, (false), (by first | rfl | (simp; done) | (simp [*]; done) | (simp [IntWalk.i64_left, *]; done)), H', ⟨by have := HK1.out; have := HJ3.out; have := HK3.out; first | omega | exact Nat.le_refl _⟩, by repeat (first | exact Za1.refl _ | apply Za1.step)⟩
         case rest =>
          clear HC9
          try clear c1
          try clear p1
          try clear q1
          try clear hx1
          try clear p2
          try clear c3
          try clear c3b0
          try clear c5
          try clear c5b0
          try clear p6
          try clear c7
          try clear c8
          try clear c10
          try clear c10b0
          try clear hx140_0
          try clear hx142_0
          try clear p1
          try clear p140
          try clear p142
          try clear p2
          try clear p6
          try clear q1
          try clear q140
          try clear q142
          obtain ⟨kq, x38_8, rfl, HA, HJ8, ⟨mc8, rfl⟩⟩ := hcut
          cases kq with
          | zero => exact absurd HA.out (by simp [Zaq.j3])
          | succ kj8 =>
           have H := HA.out
           clear HA
           simp only [Zaq.j3] at H
           by_cases c11 : x38_8 = true
           ·subst c11
            have H1 : (Zaq.l2 kj8 a0 l1 x5_1 x6_3 0 0) = some r := by rw [if_pos rfl] at H; exact H
            clear H
            have H := H1
            clear H1
            have H' := Zab.mk H
            clear H
            go_wp2
            repeat (go_quiet (fail); try go_wp2)
            go_loopg [7, 8] kj8 (fun kq v7 v8 w' => ∃ (x7_5 : Int) (x8_5 : Int), v7 = .int .i64 x7_5 ∧ v8 = .int .i64 x8_5 ∧ Zab (Zaq.l2 kq a0 l1 x5_1 x6_3 x7_5 x8_5 = some r) ∧ Zab (kq ≤ kj8) ∧ Za1 w w')
            case atStart => exact ⟨(0), (0), (by first | rfl | (simp; done) | (simp [*]; done) | (simp [IntWalk.i64_left, *]; done)), (by first | rfl | (simp; done) | (simp [*]; done) | (simp [IntWalk.i64_left, *]; done)), H', ⟨Nat.le_refl _⟩, by repeat (first | exact Za1.refl _ | apply Za1.step)⟩
            case round =>
             clear H'
             try clear c1
             try clear p1
             try clear q1
             try clear hx1
             try clear p2
             try clear c3
             try clear c3b0
             try clear c5
             try clear c5b0
             try clear p6
             try clear c7
             try clear c8
             try clear c10
             try clear c10b0
             try clear c11
             try clear hx140_0
             try clear hx142_0
             try clear p1
             try clear p140
             try clear p142
             try clear p2
             try clear p6
             try clear q1
             try clear q140
             try clear q142
             obtain ⟨x7_5, x8_5, rfl, rfl, HA, HK5, ⟨m5, rfl⟩⟩ := hrel
             cases gk with
             | zero => exact absurd HA.out (by simp [Zaq.l2])
             | succ k5 =>
              have H := HA.out
              clear HA
              simp only [Zaq.l2] at H
              by_cases c12 : 0 ≤ x6_3
              ·rw [if_pos c12] at H
               have c12b0 : decide (0 ≤ x6_3) = true := decide_eq_true c12
               clear c12
               by_cases c13 : x6_3 < (l1.length : Int)
               ·rw [if_pos c13] at H
                have c13b0 : decide (x6_3 < (l1.length : Int)) = true := decide_eq_true c13
                clear c13
                by_cases c14 : x8_5 < ((rd_L1 l1 x6_3).length : Int)
                ·rw [if_pos c14] at H
                 have c14b0 : decide (x8_5 < ((rd_L1 l1 x6_3).length : Int)) = true := decide_eq_true c14
                 clear c14
                 by_cases c15 : 0 ≤ x5_1
                 ·rw [if_pos c15] at H
                  have c15b0 : decide (0 ≤ x5_1) = true := decide_eq_true c15
                  clear c15
                  by_cases c16 : x5_1 < (l1.length : Int)
                  ·rw [if_pos c16] at H
                   have c16b0 : decide (x5_1 < (l1.length : Int)) = true := decide_eq_true c16
                   clear c16
                   by_cases c17 : 0 ≤ x8_5
                   ·rw [if_pos c17] at H
                    have c17b0 : decide (0 ≤ x8_5) = true := decide_eq_true c17
                    clear c17
                    replace H := Option.bind_eq_some_iff.mp H
                    obtain ⟨t147, A180, H⟩ := H
                    replace H : (if t147 = true then (Zaq.l2 k5 a0 l1 x5_1 x6_3 (wrap64 (x7_5 + 1)) (wrap64 (x8_5 + 1))) else (Zaq.l2 k5 a0 l1 x5_1 x6_3 x7_5 (wrap64 (x8_5 + 1)))) = some r := H
                    have A18 := Zab.mk A180
                    clear A180
                    by_cases c19 : t147 = true
                    ·subst c19
                     have H1 : (Zaq.l2 k5 a0 l1 x5_1 x6_3 (wrap64 (x7_5 + 1)) (wrap64 (x8_5 + 1))) = some r := by rw [if_pos rfl] at H; exact H
                     clear H
                     have H := H1
                     clear H1
                     have H' := Zab.mk H
                     clear H
                     have p143 : 0 ≤ (x6_3 : Int) := of_decide_eq_true (by first | (with_reducible assumption) | assumption)
                     have q143 : x6_3 < (l1.length : Int) := of_decide_eq_true (by first | (with_reducible assumption) | assumption)
                     obtain ⟨ad143, A143_0, c143_0, e143, hx143_0, hl143_0, hi143_0⟩ := at_L1 HR1.out x6_3 p143 q143
                     cases e143
                     have HR143_0 := Zab.mk hi143_0
                     have HC143_0 := Zab.mk hl143_0
                     clear hi143_0 hl143_0
                     replace p143 := eq_true p143
                     replace q143 := eq_true q143
                     have p144 : 0 ≤ (x5_1 : Int) := of_decide_eq_true (by first | (with_reducible assumption) | assumption)
                     have q144 : x5_1 < (l1.length : Int) := of_decide_eq_true (by first | (with_reducible assumption) | assumption)
                     obtain ⟨ad144, A144_0, c144_0, e144, hx144_0, hl144_0, hi144_0⟩ := at_L1 HR1.out x5_1 p144 q144
                     obtain rfl : ad143 = ad144 := (by injection e144)
                     have HR144_0 := Zab.mk hi144_0
                     have HC144_0 := Zab.mk hl144_0
                     clear hi144_0 hl144_0
                     replace p144 := eq_true p144
                     replace q144 := eq_true q144
                     have p145 : 0 ≤ (x6_3 : Int) := of_decide_eq_true (by first | (with_reducible assumption) | assumption)
                     have q145 : x6_3 < (l1.length : Int) := of_decide_eq_true (by first | (with_reducible assumption) | assumption)
                     obtain ⟨ad145, A145_0, c145_0, e145, hx145_0, hl145_0, hi145_0⟩ := at_L1 HR1.out x6_3 p145 q145
                     obtain rfl : ad143 = ad145 := (by injection e145)
                     have HR145_0 := Zab.mk hi145_0
                     have HC145_0 := Zab.mk hl145_0
                     clear hi145_0 hl145_0
                     replace p145 := eq_true p145
                     replace q145 := eq_true q145
                     have ea_ := Option.some.inj (hx143_0.symm.trans hx145_0)
                     injection ea_ with ea_ en_ ec_
                     subst ea_
                     subst ec_
                     clear en_
                     have p146 : 0 ≤ (x8_5 : Int) := of_decide_eq_true (by first | (with_reducible assumption) | assumption)
                     have q146 : x8_5 < ((rd_L1 l1 x6_3).length : Int) := of_decide_eq_true (by first | (with_reducible assumption) | assumption)
                     obtain ⟨ad146, e146, hx146_0⟩ := Kd.at_int HR145_0.out x8_5 p146 q146
                     cases e146
                     replace p146 := eq_true p146
                     replace q146 := eq_true q146
                     as_aux_lemma =>
                      go_wp2_with (first | (go_at_call 45; (with_reducible refine (spec_l00Has.calls k5 _ _ (rd_L1 l1 x5_1) (rd (rd_L1 l1 x6_3) x8_5) true _ ?side1 ?side2 A18.out).mono ?_); (case side1 => repeat (first | exact HR144_0.out | (with_reducible refine Kd.C_alloc ?_ _) | (with_reducible refine Kd.C_drewN ?_ _) | (with_reducible refine Kd.C_drew ?_))); (case side2 => exact HC144_0.out); rintro e w' ⟨rfl, ⟨nd, rfl⟩⟩; (try first | exact ⟨rfl, _, World.drewN_drewN _ _ _⟩ | exact ⟨rfl, _, Eq.trans (World.drewN_drewN _ _ _) (congrArg (World.drewN _) (Nat.add_assoc _ _ _))⟩)))
                      repeat (go_quiet (first | (go_at_call 45; (with_reducible refine (spec_l00Has.calls k5 _ _ (rd_L1 l1 x5_1) (rd (rd_L1 l1 x6_3) x8_5) true _ ?side1 ?side2 A18.out).mono ?_); (case side1 => repeat (first | exact HR144_0.out | (with_reducible refine Kd.C_alloc ?_ _) | (with_reducible refine Kd.C_drewN ?_ _) | (with_reducible refine Kd.C_drew ?_))); (case side2 => exact HC144_0.out); rintro e w' ⟨rfl, ⟨nd, rfl⟩⟩; (try first | exact ⟨rfl, _, World.drewN_drewN _ _ _⟩ | exact ⟨rfl, _, Eq.trans (World.drewN_drewN _ _ _) (congrArg (World.drewN _) (Nat.add_assoc _ _ _))⟩))); try go_wp2_with (first | (go_at_call 45; (with_reducible refine (spec_l00Has.calls k5 _ _ (rd_L1 l1 x5_1) (rd (rd_L1 l1 x6_3) x8_5) true _ ?side1 ?side2 A18.out).mono ?_); (case side1 => repeat (first | exact HR144_0.out | (with_reducible refine Kd.C_alloc ?_ _) | (with_reducible refine Kd.C_drewN ?_ _) | (with_reducible refine Kd.C_drew ?_))); (case side2 => exact HC144_0.out); rintro e w' ⟨rfl, ⟨nd, rfl⟩⟩; (try first | exact ⟨rfl, _, World.drewN_drewN _ _ _⟩ | exact ⟨rfl, _, Eq.trans (World.drewN_drewN _ _ _) (congrArg (World.drewN _) (Nat.add_assoc _ _ _))⟩))))
                      go_roundg k5
                      case measure => have := HK1.out; have := HJ3.out; have := HK3.out; have := HJ8.out; have := HK5.out; omega
                      case rel => exact ⟨(wrap64 (x7_5 + 1)), (wrap64 (x8_5 + 1)), (by first | rfl | (simp; done) | (simp [*]; done) | (simp [IntWalk.i64_left, *]; done)), (by first | rfl | (simp; done) | (simp [*]; done) | (simp [IntWalk.i64_left, *]; done)), H', ⟨by have := HK1.out; have := HJ3.out; have := HK3.out; have := HJ8.out; have := HK5.out; omega⟩, by repeat (first | exact Za1.refl _ | apply Za1.step)⟩
                    ·replace c19 := Bool.eq_false_iff.mpr c19
                     subst c19
                     have H1 : (Zaq.l2 k5 a0 l1 x5_1 x6_3 x7_5 (wrap64 (x8_5 + 1))) = some r := by rw [if_neg (show ¬ (false = true) by decide)] at H; exact H
                     clear H
                     have H := H1
                     clear H1
                     have H' := Zab.mk H
                     clear H
                     have p143 : 0 ≤ (x6_3 : Int) := of_decide_eq_true (by first | (with_reducible assumption) | assumption)
                     have q143 : x6_3 < (l1.length : Int) := of_decide_eq_true (by first | (with_reducible assumption) | assumption)
                     obtain ⟨ad143, A143_0, c143_0, e143, hx143_0, hl143_0, hi143_0⟩ := at_L1 HR1.out x6_3 p143 q143
                     cases e143
                     have HR143_0 := Zab.mk hi143_0
                     have HC143_0 := Zab.mk hl143_0
                     clear hi143_0 hl143_0
                     replace p143 := eq_true p143
                     replace q143 := eq_true q143
                     have p144 : 0 ≤ (x5_1 : Int) := of_decide_eq_true (by first | (with_reducible assumption) | assumption)
                     have q144 : x5_1 < (l1.length : Int) := of_decide_eq_true (by first | (with_reducible assumption) | assumption)
                     obtain ⟨ad144, A144_0, c144_0, e144, hx144_0, hl144_0, hi144_0⟩ := at_L1 HR1.out x5_1 p144 q144
                     obtain rfl : ad143 = ad144 := (by injection e144)
                     have HR144_0 := Zab.mk hi144_0
                     have HC144_0 := Zab.mk hl144_0
                     clear hi144_0 hl144_0
                     replace p144 := eq_true p144
                     replace q144 := eq_true q144
                     have p145 : 0 ≤ (x6_3 : Int) := of_decide_eq_true (by first | (with_reducible assumption) | assumption)
                     have q145 : x6_3 < (l1.length : Int) := of_decide_eq_true (by first | (with_reducible assumption) | assumption)
                     obtain ⟨ad145, A145_0, c145_0, e145, hx145_0, hl145_0, hi145_0⟩ := at_L1 HR1.out x6_3 p145 q145
                     obtain rfl : ad143 = ad145 := (by injection e145)
                     have HR145_0 := Zab.mk hi145_0
                     have HC145_0 := Zab.mk hl145_0
                     clear hi145_0 hl145_0
                     replace p145 := eq_true p145
                     replace q145 := eq_true q145
                     have ea_ := Option.some.inj (hx143_0.symm.trans hx145_0)
                     injection ea_ with ea_ en_ ec_
                     subst ea_
                     subst ec_
                     clear en_
                     have p146 : 0 ≤ (x8_5 : Int) := of_decide_eq_true (by first | (with_reducible assumption) | assumption)
                     have q146 : x8_5 < ((rd_L1 l1 x6_3).length : Int) := of_decide_eq_true (by first | (with_reducible assumption) | assumption)
                     obtain ⟨ad146, e146, hx146_0⟩ := Kd.at_int HR145_0.out x8_5 p146 q146
                     cases e146
                     replace p146 := eq_true p146
                     replace q146 := eq_true q146
                     as_aux_lemma =>
                      go_wp2_with (first | (go_at_call 45; (with_reducible refine (spec_l00Has.calls k5 _ _ (rd_L1 l1 x5_1) (rd (rd_L1 l1 x6_3) x8_5) false _ ?side1 ?side2 A18.out).mono ?_); (case side1 => repeat (first | exact HR144_0.out | (with_reducible refine Kd.C_alloc ?_ _) | (with_reducible refine Kd.C_drewN ?_ _) | (with_reducible refine Kd.C_drew ?_))); (case side2 => exact HC144_0.out); rintro e w' ⟨rfl, ⟨nd, rfl⟩⟩; (try first | exact ⟨rfl, _, World.drewN_drewN _ _ _⟩ | exact ⟨rfl, _, Eq.trans (World.drewN_drewN _ _ _) (congrArg (World.drewN _) (Nat.add_assoc _ _ _))⟩)))
                      repeat (go_quiet (first | (go_at_call 45; (with_reducible refine (spec_l00Has.calls k5 _ _ (rd_L1 l1 x5_1) (rd (rd_L1 l1 x6_3) x8_5) false _ ?side1 ?side2 A18.out).mono ?_); (case side1 => repeat (first | exact HR144_0.out | (with_reducible refine Kd.C_alloc ?_ _) | (with_reducible refine Kd.C_drewN ?_ _) | (with_reducible refine Kd.C_drew ?_))); (case side2 => exact HC144_0.out); rintro e w' ⟨rfl, ⟨nd, rfl⟩⟩; (try first | exact ⟨rfl, _, World.drewN_drewN _ _ _⟩ | exact ⟨rfl, _, Eq.trans (World.drewN_drewN _ _ _) (congrArg (World.drewN _) (Nat.add_assoc _ _ _))⟩))); try go_wp2_with (first | (go_at_call 45; (with_reducible refine (spec_l00Has.calls k5 _ _ (rd_L1 l1 x5_1) (rd (rd_L1 l1 x6_3) x8_5) false _ ?side1 ?side2 A18.out).mono ?_); (case side1 => repeat (first | exact HR144_0.out | (with_reducible refine Kd.C_alloc ?_ _) | (with_reducible refine Kd.C_drewN ?_ _) | (with_reducible refine Kd.C_drew ?_))); (case side2 => exact HC144_0.out); rintro e w' ⟨rfl, ⟨nd, rfl⟩⟩; (try first | exact ⟨rfl, _, World.drewN_drewN _ _ _⟩ | exact ⟨rfl, _, Eq.trans (World.drewN_drewN _ _ _) (congrArg (World.drewN _) (Nat.add_assoc _ _ _))⟩))))
                      go_roundg k5
                      case measure => have := HK1.out; have := HJ3.out; have := HK3.out; have := HJ8.out; have := HK5.out; omega
                      case rel => exact ⟨(x7_5), (wrap64 (x8_5 + 1)), (by first | rfl | (simp; done) | (simp [*]; done) | (simp [IntWalk.i64_left, *]; done)), (by first | rfl | (simp; done) | (simp [*]; done) | (simp [IntWalk.i64_left, *]; done)), H', ⟨by have := HK1.out; have := HJ3.out; have := HK3.out; have := HJ8.out; have := HK5.out; omega⟩, by repeat (first | exact Za1.refl _ | apply Za1.step)⟩
                   ·rw [if_neg c17] at H
                    exact absurd H (by simp)
                  ·rw [if_neg c16] at H
                   exact absurd H (by simp)
                 ·rw [if_neg c15] at H
                  exact absurd H (by simp)
                ·rw [if_neg c14] at H
                 have c14b0 : decide (x8_5 < ((rd_L1 l1 x6_3).length : Int)) = false := decide_eq_false c14
                 clear c14
                 by_cases c20 : x7_5 > 0
                 ·rw [if_pos c20] at H
                  have c20b0 : decide (0 < x7_5) = true := decide_eq_true c20
                  clear c20
                  by_cases c21 : 0 ≤ x5_1
                  ·rw [if_pos c21] at H
                   have c21b0 : decide (0 ≤ x5_1) = true := decide_eq_true c21
                   clear c21
                   by_cases c22 : x5_1 < (l1.length : Int)
                   ·rw [if_pos c22] at H
                    have c22b0 : decide (x5_1 < (l1.length : Int)) = true := decide_eq_true c22
                    clear c22
                    by_cases c23 : x7_5 < ((rd_L1 l1 x5_1).length : Int)
                    ·rw [if_pos c23] at H
                     have c23b0 : decide (x7_5 < ((rd_L1 l1 x5_1).length : Int)) = true := decide_eq_true c23
                     clear c23
                     by_cases c24 : x7_5 < ((rd_L1 l1 x6_3).length : Int)
                     ·rw [if_pos c24] at H
                      have c24b0 : decide (x7_5 < ((rd_L1 l1 x6_3).length : Int)) = true := decide_eq_true c24
                      clear c24
                      obtain rfl := Option.some.inj H
                      have p143 : 0 ≤ (x6_3 : Int) := of_decide_eq_true (by first | (with_reducible assumption) | assumption)
                      have q143 : x6_3 < (l1.length : Int) := of_decide_eq_true (by first | (with_reducible assumption) | assumption)
                      obtain ⟨ad143, A143_0, c143_0, e143, hx143_0, hl143_0, hi143_0⟩ := at_L1 HR1.out x6_3 p143 q143
                      cases e143
                      have HR143_0 := Zab.mk hi143_0
                      have HC143_0 := Zab.mk hl143_0
                      clear hi143_0 hl143_0
                      replace p143 := eq_true p143
                      replace q143 := eq_true q143
                      have p148 : 0 ≤ (x5_1 : Int) := of_decide_eq_true (by first | (with_reducible assumption) | assumption)
                      have q148 : x5_1 < (l1.length : Int) := of_decide_eq_true (by first | (with_reducible assumption) | assumption)
                      obtain ⟨ad148, A148_0, c148_0, e148, hx148_0, hl148_0, hi148_0⟩ := at_L1 HR1.out x5_1 p148 q148
                      obtain rfl : ad143 = ad148 := (by injection e148)
                      have HR148_0 := Zab.mk hi148_0
                      have HC148_0 := Zab.mk hl148_0
                      clear hi148_0 hl148_0
                      replace p148 := eq_true p148
                      replace q148 := eq_true q148
                      have p149 : 0 ≤ (x6_3 : Int) := of_decide_eq_true (by first | (with_reducible assumption) | assumption)
                      have q149 : x6_3 < (l1.length : Int) := of_decide_eq_true (by first | (with_reducible assumption) | assumption)
                      obtain ⟨ad149, A149_0, c149_0, e149, hx149_0, hl149_0, hi149_0⟩ := at_L1 HR1.out x6_3 p149 q149
                      obtain rfl : ad143 = ad149 := (by injection e149)
                      have HR149_0 := Zab.mk hi149_0
                      have HC149_0 := Zab.mk hl149_0
                      clear hi149_0 hl149_0
                      replace p149 := eq_true p149
                      replace q149 := eq_true q149
                      have ea_ := Option.some.inj (hx143_0.symm.trans hx149_0)
                      injection ea_ with ea_ en_ ec_
                      subst ea_
                      subst ec_
                      clear en_
                      as_aux_lemma =>
                       go_wp2
                       repeat (go_quiet (fail); try go_wp2)
                       go_ret
                       exact ⟨by first | rfl | (simp; done) | (simp [*]; done), by repeat (first | exact Za1.refl _ | apply Za1.step)⟩
                     ·rw [if_neg c24] at H
                      have c24b0 : decide (x7_5 < ((rd_L1 l1 x6_3).length : Int)) = false := decide_eq_false c24
                      clear c24
                      have H' := Zab.mk H
                      clear H
                      have p143 : 0 ≤ (x6_3 : Int) := of_decide_eq_true (by first | (with_reducible assumption) | assumption)
                      have q143 : x6_3 < (l1.length : Int) := of_decide_eq_true (by first | (with_reducible assumption) | assumption)
                      obtain ⟨ad143, A143_0, c143_0, e143, hx143_0, hl143_0, hi143_0⟩ := at_L1 HR1.out x6_3 p143 q143
                      cases e143
                      have HR143_0 := Zab.mk hi143_0
                      have HC143_0 := Zab.mk hl143_0
                      clear hi143_0 hl143_0
                      replace p143 := eq_true p143
                      replace q143 := eq_true q143
                      have p148 : 0 ≤ (x5_1 : Int) := of_decide_eq_true (by first | (with_reducible assumption) | assumption)
                      have q148 : x5_1 < (l1.length : Int) := of_decide_eq_true (by first | (with_reducible assumption) | assumption)
                      obtain ⟨ad148, A148_0, c148_0, e148, hx148_0, hl148_0, hi148_0⟩ := at_L1 HR1.out x5_1 p148 q148
                      obtain rfl : ad143 = ad148 := (by injection e148)
                      have HR148_0 := Zab.mk hi148_0
                      have HC148_0 := Zab.mk hl148_0
                      clear hi148_0 hl148_0
                      replace p148 := eq_true p148
                      replace q148 := eq_true q148
                      have p149 : 0 ≤ (x6_3 : Int) := of_decide_eq_true (by first | (with_reducible assumption) | assumption)
                      have q149 : x6_3 < (l1.length : Int) := of_decide_eq_true (by first | (with_reducible assumption) | assumption)
                      obtain ⟨ad149, A149_0, c149_0, e149, hx149_0, hl149_0, hi149_0⟩ := at_L1 HR1.out x6_3 p149 q149
                      obtain rfl : ad143 = ad149 := (by injection e149)
                      have HR149_0 := Zab.mk hi149_0
                      have HC149_0 := Zab.mk hl149_0
                      clear hi149_0 hl149_0
                      replace p149 := eq_true p149
                      replace q149 := eq_true q149
                      have ea_ := Option.some.inj (hx143_0.symm.trans hx149_0)
                      injection ea_ with ea_ en_ ec_
                      subst ea_
                      subst ec_
                      clear en_
                      as_aux_lemma =>
                       go_wp2
                       repeat (go_quiet (fail); try go_wp2)
                       go_roundg k5
                       case measure => have := HK1.out; have := HJ3.out; have := HK3.out; have := HJ8.out; have := HK5.out; omega
                       case rel => exact ⟨(wrap64 (x6_3 + 1)), (by first | rfl | (simp; done) | (simp [*]; done) | (simp [IntWalk.i64_left, *]; done)), H', ⟨by have := HK1.out; have := HJ3.out; have := HK3.out; have := HJ8.out; have := HK5.out; omega⟩, by repeat (first | exact Za1.refl _ | apply Za1.step)⟩
                    ·rw [if_neg c23] at H
                     have c23b0 : decide (x7_5 < ((rd_L1 l1 x5_1).length : Int)) = false := decide_eq_false c23
                     clear c23
                     have H' := Zab.mk H
                     clear H
                     have p143 : 0 ≤ (x6_3 : Int) := of_decide_eq_true (by first | (with_reducible assumption) | assumption)
                     have q143 : x6_3 < (l1.length : Int) := of_decide_eq_true (by first | (with_reducible assumption) | assumption)
                     obtain ⟨ad143, A143_0, c143_0, e143, hx143_0, hl143_0, hi143_0⟩ := at_L1 HR1.out x6_3 p143 q143
                     cases e143
                     have HR143_0 := Zab.mk hi143_0
                     have HC143_0 := Zab.mk hl143_0
                     clear hi143_0 hl143_0
                     replace p143 := eq_true p143
                     replace q143 := eq_true q143
                     have p148 : 0 ≤ (x5_1 : Int) := of_decide_eq_true (by first | (with_reducible assumption) | assumption)
                     have q148 : x5_1 < (l1.length : Int) := of_decide_eq_true (by first | (with_reducible assumption) | assumption)
                     obtain ⟨ad148, A148_0, c148_0, e148, hx148_0, hl148_0, hi148_0⟩ := at_L1 HR1.out x5_1 p148 q148
                     obtain rfl : ad143 = ad148 := (by injection e148)
                     have HR148_0 := Zab.mk hi148_0
                     have HC148_0 := Zab.mk hl148_0
                     clear hi148_0 hl148_0
                     replace p148 := eq_true p148
                     replace q148 := eq_true q148
                     as_aux_lemma =>
                      go_wp2
                      repeat (go_quiet (fail); try go_wp2)
                      go_roundg k5
                      case measure => have := HK1.out; have := HJ3.out; have := HK3.out; have := HJ8.out; have := HK5.out; omega
                      case rel => exact ⟨(wrap64 (x6_3 + 1)), (by first | rfl | (simp; done) | (simp [*]; done) | (simp [IntWalk.i64_left, *]; done)), H', ⟨by have := HK1.out; have := HJ3.out; have := HK3.out; have := HJ8.out; have := HK5.out; omega⟩, by repeat (first | exact Za1.refl _ | apply Za1.step)⟩
                   ·rw [if_neg c22] at H
                    exact absurd H (by simp)
                  ·rw [if_neg c21] at H
                   exact absurd H (by simp)
                 ·rw [if_neg c20] at H
                  have c20b0 : decide (0 < x7_5) = false := decide_eq_false c20
                  clear c20
                  have H' := Zab.mk H
                  clear H
                  have p143 : 0 ≤ (x6_3 : Int) := of_decide_eq_true (by first | (with_reducible assumption) | assumption)
                  have q143 : x6_3 < (l1.length : Int) := of_decide_eq_true (by first | (with_reducible assumption) | assumption)
                  obtain ⟨ad143, A143_0, c143_0, e143, hx143_0, hl143_0, hi143_0⟩ := at_L1 HR1.out x6_3 p143 q143
                  cases e143
                  have HR143_0 := Zab.mk hi143_0
                  have HC143_0 := Zab.mk hl143_0
                  clear hi143_0 hl143_0
                  replace p143 := eq_true p143
                  replace q143 := eq_true q143
                  as_aux_lemma =>
                   go_wp2
                   repeat (go_quiet (fail); try go_wp2)
                   go_roundg k5
                   case measure => have := HK1.out; have := HJ3.out; have := HK3.out; have := HJ8.out; have := HK5.out; omega
                   case rel => exact ⟨(wrap64 (x6_3 + 1)), (by first | rfl | (simp; done) | (simp [*]; done) | (simp [IntWalk.i64_left, *]; done)), H', ⟨by have := HK1.out; have := HJ3.out; have := HK3.out; have := HJ8.out; have := HK5.out; omega⟩, by repeat (first | exact Za1.refl _ | apply Za1.step)⟩
               ·rw [if_neg c13] at H
                exact absurd H (by simp)
              ·rw [if_neg c12] at H
               exact absurd H (by simp)
           ·replace c11 := Bool.eq_false_iff.mpr c11
            subst c11
            have H1 : (Zaq.l0 kj8 a0 l1 (wrap64 (x5_1 + 1))) = some r := by rw [if_neg (show ¬ (false = true) by decide)] at H; exact H
            clear H
            have H := H1
            clear H1
            have H' := Zab.mk H
            clear H
            as_aux_lemma =>
             go_wp2
             repeat (go_quiet (fail); try go_wp2)
             go_roundg kj8
             case measure => have := HK1.out; have := HJ3.out; have := HK3.out; have := HJ8.out; omega
             case rel => exact ⟨(wrap64 (x5_1 + 1)), (by first | rfl | (simp; done) | (simp [*]; done) | (simp [IntWalk.i64_left, *]; done)), H', ⟨by have := HK1.out; have := HJ3.out; have := HK3.out; have := HJ8.out; omega⟩, by repeat (first | exact Za1.refl _ | apply Za1.step)⟩
   ·rw [if_neg c3] at H
    have c3b0 : decide (x5_1 < (l1.length : Int)) = false := decide_eq_false c3
    clear c3
    obtain rfl := Option.some.inj H
    as_aux_lemma =>
     go_wp2
     repeat (go_quiet (fail); try go_wp2)
     go_ret
     exact ⟨by first | rfl | (simp; done) | (simp [*]; done), by repeat (first | exact Za1.refl _ | apply Za1.step)⟩
end Go.Proofs.Ytoelhfbmeegbdaa.P
