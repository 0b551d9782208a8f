import Derived.Test.YtgmmfdilfpkbmaaXP0FnExactPercentsOf
import Derived.Test.YtgmmfdilfpkbmaaXP1FnExactPercentsOf
import Derived.Test.YtgmmfdilfpkbmaaXP20FnExactPercentsOf
namespace Go.Proofs.Ytgmmfdilfpkbmaa.P
open Go.RowKit Go.Proofs.YtgmmfdilfpkbmaaW.PrintWords Go.Proofs.YtgmmfdilfpkbmaaW.PrintLast Go.Proofs.YtgmmfdilfpkbmaaW.PrintMore
attribute [local go_sem] max2_int min2_int max_two min_two max_three min_three max_four min_four
set_option linter.unusedVariables false
set_option linter.unusedSimpArgs false
mutual
def Zan.j0 : Nat → List Int → Int → Bool → Option (List Int × Bool)
 | 0, _, _, _ => none
 | k + 1, x0, x1, x25 => if x25 = true then (some (([] : List Int), false)) else (Zan.l0 k x0 x1 0 0)
def Zan.l0 : Nat → List Int → Int → Int → Int → Option (List Int × Bool)
 | 0, _, _, _, _ => none
 | k + 1, x0, x1, x6, x7 => if x7 < (x0.length : Int) then (if 0 ≤ x7 then ((spec_l00In.f (rd x0 x7) 0 1000000).bind fun t582 => (if t582 = true then (Zan.l0 k x0 x1 (wrap64 (x6 + (rd x0 x7))) (wrap64 (x7 + 1))) else (some (([] : List Int), false)))) else (none)) else (if x6 = 0 then (some (([] : List Int), false)) else (Zan.l1 k x0 x1 x6 100 0))
def Zan.l1 : Nat → List Int → Int → Int → Int → Int → Option (List Int × Bool)
 | 0, _, _, _, _, _ => none
 | k + 1, x0, x1, x6, x8, x9 => if x9 < x1 then (Zan.l1 k x0 x1 x6 (wrap64 (x8 * 10)) (wrap64 (x9 + 1))) else (Zan.l2 k x0 x6 x8 (([] : List Int)) 0)
def Zan.l2 : Nat → List Int → Int → Int → List Int → Int → Option (List Int × Bool)
 | 0, _, _, _, _, _ => none
 | k + 1, x0, x6, x8, x10, x11 => if x11 < (x0.length : Int) then (if 0 ≤ x11 then (if x10.length < 17592186044416 then (Zan.l2 k x0 x6 x8 (x10 ++ [wrap64 (x8 * (rd x0 x11))]) (wrap64 (x11 + 1))) else (none)) else (none)) else ((spec_l04Floors.f k x10 x6).bind fun t591 => ((Zba.f k x10 x6).bind fun t594 => ((spec_l01Sum.f k t591).bind fun t597 => (Zan.l3 k t591 t594 (wrap64 (x8 - t597))))))
def Zan.l3 : Nat → List Int → List Int → Int → Option (List Int × Bool)
 | 0, _, _, _ => none
 | k + 1, x12, x13, x14 => if x14 > 0 then (Zan.l4 k x12 x13 x14 (-1) 0) else (some (x12, true))
def Zan.l4 : Nat → List Int → List Int → Int → Int → Int → Option (List Int × Bool)
 | 0, _, _, _, _, _ => none
 | k + 1, x12, x13, x14, x15, x16 => if x16 < (x13.length : Int) then (if 0 ≤ x16 then (if (rd x13 x16) > 0 then (if x15 < 0 then (Zan.l4 k x12 x13 x14 x16 (wrap64 (x16 + 1))) else (if 0 ≤ x15 then (if x15 < (x13.length : Int) then (if (rd x13 x16) ≥ (rd x13 x15) then (Zan.l4 k x12 x13 x14 x16 (wrap64 (x16 + 1))) else (Zan.l4 k x12 x13 x14 x15 (wrap64 (x16 + 1)))) else (none)) else (none))) else (Zan.l4 k x12 x13 x14 x15 (wrap64 (x16 + 1)))) else (none)) else (if 0 ≤ x15 then (if x15 < (x12.length : Int) then (if x15 < (x13.length : Int) then (Zan.l3 k (x12.set (x15 : Int).toNat (wrap64 ((rd x12 x15) + 1))) (x13.set (x15 : Int).toNat 0) (wrap64 (x14 - 1))) else (none)) else (none)) else (none))
end
def Zan.f (k : Nat) (l0 : List Int) (a1 : Int) : Option (List Int × Bool) := (spec_l00In.f (l0.length : Int) 1 40).bind fun t579 => (if t579 = true then ((spec_l00In.f a1 0 3).bind fun t580 => (Zan.j0 k l0 a1 (!t580))) else (Zan.j0 k l0 a1 true))
set_option maxHeartbeats 8000000 in
set_option maxRecDepth 100000 in
theorem Zan.calls (k : Nat) (A0 : Option Addr) (c0 : Nat) (l0 : List Int) (a1 : Int) (r1 : List Int) (r2 : Bool) (w : World) (hr0 : Kd.C (Kd.int .i64) w A0 l0.length l0) (hc0 : l0.length ≤ c0) (h : Zan.f k l0 a1 = some (r1, r2)) :
  Calls Try.prog 39 #[.slice A0 l0.length c0, .int .i64 a1] w fun e w' => ∃ v0_ : Value, e = .returned (.tuple #[v0_, .bool r2]) ∧ Kd.R (Kd.int .i64) 2 w' w.heap.size (fun _ => True) v0_ r1 ∧ Below w.heap.size w w' := by
 have HR0 := Zac.mk hr0
 have HC0 := Zac.mk hc0
 clear hr0 hc0
 have HB := Zac.mk (Below.refl w.heap.size w)
 have H : ((spec_l00In.f (l0.length : Int) 1 40).bind fun t579 => (if t579 = true then ((spec_l00In.f a1 0 3).bind fun t580 => (Zan.j0 k l0 a1 (!t580))) else (Zan.j0 k l0 a1 true))) = some (r1, r2) := h
 clear h
 have HC3 := Zac.mk H
 clear H
 go_enter Try.func39, Try.ntmps39
 go_upto_region 1 with (fail)
 repeat (go_quiet (fail); go_upto_region 1 with (fail))
 go_cut [25] (fun v25 wc => ∃ (kq : Nat) (x25_2 : Bool), v25 = .bool x25_2 ∧ Zac (Zan.j0 kq l0 a1 x25_2 = some (r1, r2)) ∧ Zac (kq ≤ k) ∧ Zac (Below w.heap.size w wc))
 case first =>
  have H := HC3.out
  clear HC3
  replace H := Option.bind_eq_some_iff.mp H
  obtain ⟨t579, A40, H⟩ := H
  replace H : (if t579 = true then ((spec_l00In.f a1 0 3).bind fun t580 => (Zan.j0 k l0 a1 (!t580))) else (Zan.j0 k l0 a1 true)) = some (r1, r2) := H
  have A4 := Zac.mk A40
  clear A40
  by_cases c5 : t579 = true
  ·subst c5
   have H1 : ((spec_l00In.f a1 0 3).bind fun t580 => (Zan.j0 k l0 a1 (!t580))) = some (r1, r2) := by rw [if_pos rfl] at H; exact H
   clear H
   have H := H1
   clear H1
   replace H := Option.bind_eq_some_iff.mp H
   obtain ⟨t580, A60, H⟩ := H
   replace H : (Zan.j0 k l0 a1 (!t580)) = some (r1, r2) := H
   have A6 := Zac.mk A60
   clear A60
   have H' := Zac.mk H
   clear H
   as_aux_lemma =>
    go_wp2_with (first | (go_at_call 75; (with_reducible refine (spec_l00In.calls (l0.length : Int) 1 40 true _ A4.out).mono ?_); rintro e w' ⟨rfl, ⟨nd, rfl⟩⟩; (try first | exact ⟨rfl, _, World.drewN_drewN _ _ _⟩ | exact ⟨rfl, _, Eq.trans (World.drewN_drewN _ _ _) (congrArg (World.drewN _) (Nat.add_assoc _ _ _))⟩)) | (go_at_call 75; (with_reducible refine (spec_l00In.calls a1 0 3 t580 _ A6.out).mono ?_); rintro e w' ⟨rfl, ⟨nd, rfl⟩⟩; (try first | exact ⟨rfl, _, World.drewN_drewN _ _ _⟩ | exact ⟨rfl, _, Eq.trans (World.drewN_drewN _ _ _) (congrArg (World.drewN _) (Nat.add_assoc _ _ _))⟩)))
    repeat (go_quiet (first | (go_at_call 75; (with_reducible refine (spec_l00In.calls (l0.length : Int) 1 40 true _ A4.out).mono ?_); rintro e w' ⟨rfl, ⟨nd, rfl⟩⟩; (try first | exact ⟨rfl, _, World.drewN_drewN _ _ _⟩ | exact ⟨rfl, _, Eq.trans (World.drewN_drewN _ _ _) (congrArg (World.drewN _) (Nat.add_assoc _ _ _))⟩)) | (go_at_call 75; (with_reducible refine (spec_l00In.calls a1 0 3 t580 _ A6.out).mono ?_); rintro e w' ⟨rfl, ⟨nd, rfl⟩⟩; (try first | exact ⟨rfl, _, World.drewN_drewN _ _ _⟩ | exact ⟨rfl, _, Eq.trans (World.drewN_drewN _ _ _) (congrArg (World.drewN _) (Nat.add_assoc _ _ _))⟩))); try go_wp2_with (first | (go_at_call 75; (with_reducible refine (spec_l00In.calls (l0.length : Int) 1 40 true _ A4.out).mono ?_); rintro e w' ⟨rfl, ⟨nd, rfl⟩⟩; (try first | exact ⟨rfl, _, World.drewN_drewN _ _ _⟩ | exact ⟨rfl, _, Eq.trans (World.drewN_drewN _ _ _) (congrArg (World.drewN _) (Nat.add_assoc _ _ _))⟩)) | (go_at_call 75; (with_reducible refine (spec_l00In.calls a1 0 3 t580 _ A6.out).mono ?_); rintro e w' ⟨rfl, ⟨nd, rfl⟩⟩; (try first | exact ⟨rfl, _, World.drewN_drewN _ _ _⟩ | exact ⟨rfl, _, Eq.trans (World.drewN_drewN _ _ _) (congrArg (World.drewN _) (Nat.add_assoc _ _ _))⟩))))
    go_meet
    case rel => exact ⟨_, (!t580), (by first | rfl | (simp; done) | (simp [*]; done) | (simp [IntWalk.i64_left, *]; done)), H', ⟨by first | omega | exact Nat.le_refl _⟩, ⟨by repeat (first | (with_reducible first | exact HB.out | apply Zae | apply Zab | apply Zad) | exact HB.out)⟩⟩
  ·replace c5 := Bool.eq_false_iff.mpr c5
   subst c5
   have H1 : (Zan.j0 k l0 a1 true) = some (r1, r2) := by rw [if_neg (show ¬ (false = true) by decide)] at H; exact H
   clear H
   have H := H1
   clear H1
   have H' := Zac.mk H
   clear H
   as_aux_lemma =>
    go_wp2_with (first | (go_at_call 75; (with_reducible refine (spec_l00In.calls (l0.length : Int) 1 40 false _ A4.out).mono ?_); rintro e w' ⟨rfl, ⟨nd, rfl⟩⟩; (try first | exact ⟨rfl, _, World.drewN_drewN _ _ _⟩ | exact ⟨rfl, _, Eq.trans (World.drewN_drewN _ _ _) (congrArg (World.drewN _) (Nat.add_assoc _ _ _))⟩)))
    repeat (go_quiet (first | (go_at_call 75; (with_reducible refine (spec_l00In.calls (l0.length : Int) 1 40 false _ A4.out).mono ?_); rintro e w' ⟨rfl, ⟨nd, rfl⟩⟩; (try first | exact ⟨rfl, _, World.drewN_drewN _ _ _⟩ | exact ⟨rfl, _, Eq.trans (World.drewN_drewN _ _ _) (congrArg (World.drewN _) (Nat.add_assoc _ _ _))⟩))); try go_wp2_with (first | (go_at_call 75; (with_reducible refine (spec_l00In.calls (l0.length : Int) 1 40 false _ A4.out).mono ?_); rintro e w' ⟨rfl, ⟨nd, rfl⟩⟩; (try first | exact ⟨rfl, _, World.drewN_drewN _ _ _⟩ | exact ⟨rfl, _, Eq.trans (World.drewN_drewN _ _ _) (congrArg (World.drewN _) (Nat.add_assoc _ _ _))⟩))))
    go_meet
    case rel => exact ⟨_, (true), (by first | rfl | (simp; done) | (simp [*]; done) | (simp [IntWalk.i64_left, *]; done)), H', ⟨by first | omega | exact Nat.le_refl _⟩, ⟨by repeat (first | (with_reducible first | exact HB.out | apply Zae | apply Zab | apply Zad) | exact HB.out)⟩⟩
 case rest =>
  clear HC3
  try clear p2
  try clear c3
  try clear c5
  obtain ⟨kq, x25_2, rfl, HA, HJ2, HB⟩ := hcut
  cases kq with
  | zero => exact absurd HA.out (by simp [Zan.j0])
  | succ kj2 =>
   have H := HA.out
   clear HA
   simp only [Zan.j0] at H
   by_cases c7 : x25_2 = true
   ·subst c7
    have H1 : (some (([] : List Int), false)) = some (r1, r2) := by rw [if_pos rfl] at H; exact H
    clear H
    have H := H1
    clear H1
    simp only [Option.some.injEq, Prod.mk.injEq] at H
    obtain ⟨rfl, rfl⟩ := H
    as_aux_lemma =>
     go_wp2
     repeat (go_quiet (fail); try go_wp2)
     go_ret2
     exact ⟨_, by first | rfl | (simp [Zat, Zau] <;> rfl) | (simp [*, Zat, Zau] <;> rfl), by first | exact Kd.R_nil _ _ _ _ _ | exact Kd.N_nil _ _ _ _ _ | exact Kd.V_nil _ _ _ _ _ | exact Kd.Q_nil _ _ _ _ _ | exact Kd.S_nil _ _ _ _ _, by repeat (first | (with_reducible first | exact HB.out | apply Zae | apply Zab | apply Zad) | exact HB.out)⟩
   ·replace c7 := Bool.eq_false_iff.mpr c7
    subst c7
    have H1 : (Zan.l0 kj2 l0 a1 0 0) = some (r1, r2) := by rw [if_neg (show ¬ (false = true) by decide)] at H; exact H
    clear H
    have H := H1
    clear H1
    have H' := Zac.mk H
    clear H
    go_wp2
    repeat (go_quiet (fail); try go_wp2)
    go_loopg [6, 7] kj2 (fun kq v6 v7 w' => ∃ (x6_2 : Int) (x7_2 : Int), v6 = .int .i64 x6_2 ∧ v7 = .int .i64 x7_2 ∧ Zac (Zan.l0 kq l0 a1 x6_2 x7_2 = some (r1, r2)) ∧ Zac (kq ≤ kj2) ∧ Zac (Below w.heap.size w w'))
    case atStart => exact ⟨(0), (0), (by first | rfl | (simp; done) | (simp [*]; done) | (simp [IntWalk.i64_left, *]; done)), (by first | rfl | (simp; done) | (simp [*]; done) | (simp [IntWalk.i64_left, *]; done)), H', ⟨Nat.le_refl _⟩, ⟨by repeat (first | (with_reducible first | exact HB.out | apply Zae | apply Zab | apply Zad) | exact HB.out)⟩⟩
    case round =>
     clear H'
     try clear p2
     try clear c3
     try clear c5
     try clear c7
     try clear p2
     obtain ⟨x6_2, x7_2, rfl, rfl, HA, HK2, HB⟩ := hrel
     cases gk with
     | zero => exact absurd HA.out (by simp [Zan.l0])
     | succ k2 =>
      have H := HA.out
      clear HA
      simp only [Zan.l0] at H
      by_cases c8 : x7_2 < (l0.length : Int)
      ·rw [if_pos c8] at H
       have c8b0 : decide (x7_2 < (l0.length : Int)) = true := decide_eq_true c8
       clear c8
       by_cases c9 : 0 ≤ x7_2
       ·rw [if_pos c9] at H
        have c9b0 : decide (0 ≤ x7_2) = true := decide_eq_true c9
        clear c9
        replace H := Option.bind_eq_some_iff.mp H
        obtain ⟨t582, A100, H⟩ := H
        replace H : (if t582 = true then (Zan.l0 k2 l0 a1 (wrap64 (x6_2 + (rd l0 x7_2))) (wrap64 (x7_2 + 1))) else (some (([] : List Int), false))) = some (r1, r2) := H
        have A10 := Zac.mk A100
        clear A100
        by_cases c11 : t582 = true
        ·subst c11
         have H1 : (Zan.l0 k2 l0 a1 (wrap64 (x6_2 + (rd l0 x7_2))) (wrap64 (x7_2 + 1))) = some (r1, r2) := by rw [if_pos rfl] at H; exact H
         clear H
         have H := H1
         clear H1
         have H' := Zac.mk H
         clear H
         have p581 : 0 ≤ (x7_2 : Int) := of_decide_eq_true (by first | (with_reducible assumption) | assumption)
         have q581 : x7_2 < (l0.length : Int) := of_decide_eq_true (by first | (with_reducible assumption) | assumption)
         obtain ⟨ad581, e581, hx581_0⟩ := Kd.at_int HR0.out x7_2 p581 q581
         cases e581
         replace hx581_0 := (HB.out.cell (World.block_lt_of_cell? w _ hx581_0)).trans hx581_0
         replace p581 := eq_true p581
         replace q581 := eq_true q581
         as_aux_lemma =>
          go_wp2_with (first | (go_at_call 75; (with_reducible refine (spec_l00In.calls (rd l0 x7_2) 0 1000000 true _ A10.out).mono ?_); rintro e w' ⟨rfl, ⟨nd, rfl⟩⟩; (try first | exact ⟨rfl, _, World.drewN_drewN _ _ _⟩ | exact ⟨rfl, _, Eq.trans (World.drewN_drewN _ _ _) (congrArg (World.drewN _) (Nat.add_assoc _ _ _))⟩); have p583 : 0 ≤ (x7_2 : Int) := of_decide_eq_true (by first | (with_reducible assumption) | assumption); have q583 : x7_2 < (l0.length : Int) := of_decide_eq_true (by first | (with_reducible assumption) | assumption); obtain ⟨ad583, e583, hx583_0⟩ := Kd.at_int HR0.out x7_2 p583 q583; obtain rfl : ad581 = ad583 := (by injection e583); replace hx583_0 := (HB.out.cell (World.block_lt_of_cell? w _ hx583_0)).trans hx583_0; replace p583 := eq_true p583; replace q583 := eq_true q583))
          repeat (go_quiet (first | (go_at_call 75; (with_reducible refine (spec_l00In.calls (rd l0 x7_2) 0 1000000 true _ A10.out).mono ?_); rintro e w' ⟨rfl, ⟨nd, rfl⟩⟩; (try first | exact ⟨rfl, _, World.drewN_drewN _ _ _⟩ | exact ⟨rfl, _, Eq.trans (World.drewN_drewN _ _ _) (congrArg (World.drewN _) (Nat.add_assoc _ _ _))⟩); have p583 : 0 ≤ (x7_2 : Int) := of_decide_eq_true (by first | (with_reducible assumption) | assumption); have q583 : x7_2 < (l0.length : Int) := of_decide_eq_true (by first | (with_reducible assumption) | assumption); obtain ⟨ad583, e583, hx583_0⟩ := Kd.at_int HR0.out x7_2 p583 q583; obtain rfl : ad581 = ad583 := (by injection e583); replace hx583_0 := (HB.out.cell (World.block_lt_of_cell? w _ hx583_0)).trans hx583_0; replace p583 := eq_true p583; replace q583 := eq_true q583)); try go_wp2_with (first | (go_at_call 75; (with_reducible refine (spec_l00In.calls (rd l0 x7_2) 0 1000000 true _ A10.out).mono ?_); rintro e w' ⟨rfl, ⟨nd, rfl⟩⟩; (try first | exact ⟨rfl, _, World.drewN_drewN _ _ _⟩ | exact ⟨rfl, _, Eq.trans (World.drewN_drewN _ _ _) (congrArg (World.drewN _) (Nat.add_assoc _ _ _))⟩); have p583 : 0 ≤ (x7_2 : Int) := of_decide_eq_true (by first | (with_reducible assumption) | assumption); have q583 : x7_2 < (l0.length : Int) := of_decide_eq_true (by first | (with_reducible assumption) | assumption); obtain ⟨ad583, e583, hx583_0⟩ := Kd.at_int HR0.out x7_2 p583 q583; obtain rfl : ad581 = ad583 := (by injection e583); replace hx583_0 := (HB.out.cell (World.block_lt_of_cell? w _ hx583_0)).trans hx583_0; replace p583 := eq_true p583; replace q583 := eq_true q583)))
          go_roundg k2
          case measure => have := HJ2.out; have := HK2.out; omega
          case rel => exact ⟨(wrap64 (x6_2 + (rd l0 x7_2))), (wrap64 (x7_2 + 1)), (by first | rfl | (simp; done) | (simp [*]; done) | (simp [IntWalk.i64_left, *]; done)), (by first | rfl | (simp; done) | (simp [*]; done) | (simp [IntWalk.i64_left, *]; done)), H', ⟨by have := HJ2.out; have := HK2.out; omega⟩, ⟨by repeat (first | (with_reducible first | exact HB.out | apply Zae | apply Zab | apply Zad) | exact HB.out)⟩⟩
        ·replace c11 := Bool.eq_false_iff.mpr c11
         subst c11
         have H1 : (some (([] : List Int), false)) = some (r1, r2) := by rw [if_neg (show ¬ (false = true) by decide)] at H; exact H
         clear H
         have H := H1
         clear H1
         simp only [Option.some.injEq, Prod.mk.injEq] at H
         obtain ⟨rfl, rfl⟩ := H
         have p581 : 0 ≤ (x7_2 : Int) := of_decide_eq_true (by first | (with_reducible assumption) | assumption)
         have q581 : x7_2 < (l0.length : Int) := of_decide_eq_true (by first | (with_reducible assumption) | assumption)
         obtain ⟨ad581, e581, hx581_0⟩ := Kd.at_int HR0.out x7_2 p581 q581
         cases e581
         replace hx581_0 := (HB.out.cell (World.block_lt_of_cell? w _ hx581_0)).trans hx581_0
         replace p581 := eq_true p581
         replace q581 := eq_true q581
         as_aux_lemma =>
          go_wp2_with (first | (go_at_call 75; (with_reducible refine (spec_l00In.calls (rd l0 x7_2) 0 1000000 false _ A10.out).mono ?_); rintro e w' ⟨rfl, ⟨nd, rfl⟩⟩; (try first | exact ⟨rfl, _, World.drewN_drewN _ _ _⟩ | exact ⟨rfl, _, Eq.trans (World.drewN_drewN _ _ _) (congrArg (World.drewN _) (Nat.add_assoc _ _ _))⟩)))
          repeat (go_quiet (first | (go_at_call 75; (with_reducible refine (spec_l00In.calls (rd l0 x7_2) 0 1000000 false _ A10.out).mono ?_); rintro e w' ⟨rfl, ⟨nd, rfl⟩⟩; (try first | exact ⟨rfl, _, World.drewN_drewN _ _ _⟩ | exact ⟨rfl, _, Eq.trans (World.drewN_drewN _ _ _) (congrArg (World.drewN _) (Nat.add_assoc _ _ _))⟩))); try go_wp2_with (first | (go_at_call 75; (with_reducible refine (spec_l00In.calls (rd l0 x7_2) 0 1000000 false _ A10.out).mono ?_); rintro e w' ⟨rfl, ⟨nd, rfl⟩⟩; (try first | exact ⟨rfl, _, World.drewN_drewN _ _ _⟩ | exact ⟨rfl, _, Eq.trans (World.drewN_drewN _ _ _) (congrArg (World.drewN _) (Nat.add_assoc _ _ _))⟩))))
          go_ret2
          exact ⟨_, by first | rfl | (simp [Zat, Zau] <;> rfl) | (simp [*, Zat, Zau] <;> rfl), by first | exact Kd.R_nil _ _ _ _ _ | exact Kd.N_nil _ _ _ _ _ | exact Kd.V_nil _ _ _ _ _ | exact Kd.Q_nil _ _ _ _ _ | exact Kd.S_nil _ _ _ _ _, by repeat (first | (with_reducible first | exact HB.out | apply Zae | apply Zab | apply Zad) | exact HB.out)⟩
       ·rw [if_neg c9] at H
        exact absurd H (by simp)
      ·rw [if_neg c8] at H
       have c8b0 : decide (x7_2 < (l0.length : Int)) = false := decide_eq_false c8
       clear c8
       by_cases c12 : x6_2 = 0
       ·rw [if_pos c12] at H
        have c12b0 : (x6_2 == 0) = true := beq_iff_eq.mpr c12
        have c12b1 : (x6_2 != 0) = false := bne_eq_false_iff_eq.mpr c12
        clear c12
        simp only [Option.some.injEq, Prod.mk.injEq] at H
        obtain ⟨rfl, rfl⟩ := H
        as_aux_lemma =>
         go_wp2
         repeat (go_quiet (fail); try go_wp2)
         go_ret2
         exact ⟨_, by first | rfl | (simp [Zat, Zau] <;> rfl) | (simp [*, Zat, Zau] <;> rfl), by first | exact Kd.R_nil _ _ _ _ _ | exact Kd.N_nil _ _ _ _ _ | exact Kd.V_nil _ _ _ _ _ | exact Kd.Q_nil _ _ _ _ _ | exact Kd.S_nil _ _ _ _ _, by repeat (first | (with_reducible first | exact HB.out | apply Zae | apply Zab | apply Zad) | exact HB.out)⟩
       ·rw [if_neg c12] at H
        have c12b0 : (x6_2 == 0) = false := beq_eq_false_iff_ne.mpr c12
        have c12b1 : (x6_2 != 0) = true := bne_iff_ne.mpr c12
        have H' := Zac.mk H
        clear H
        go_wp2
        repeat (go_quiet (fail); try go_wp2)
        go_loopg [8, 9] k2 (fun kq v8 v9 w' => ∃ (x8_3 : Int) (x9_3 : Int), v8 = .int .i64 x8_3 ∧ v9 = .int .i64 x9_3 ∧ Zac (Zan.l1 kq l0 a1 x6_2 x8_3 x9_3 = some (r1, r2)) ∧ Zac (kq ≤ k2) ∧ Zac (Below w.heap.size w w'))
        case atStart => exact ⟨(100), (0), (by first | rfl | (simp; done) | (simp [*]; done) | (simp [IntWalk.i64_left, *]; done)), (by first | rfl | (simp; done) | (simp [*]; done) | (simp [IntWalk.i64_left, *]; done)), H', ⟨Nat.le_refl _⟩, ⟨by repeat (first | (with_reducible first | exact HB.out | apply Zae | apply Zab | apply Zad) | exact HB.out)⟩⟩
        case round =>
         clear H'
         try clear c1
         try clear p2
         try clear c3
         try clear c5
         try clear p5
         try clear q5
         try clear hx5
         try clear p6
         try clear c7
         try clear c8
         try clear c8b0
         try clear c9
         try clear c9b0
         try clear c11
         try clear c12
         try clear c12b0
         try clear c12b1
         try clear hx581_0
         try clear hx583_0
         try clear p2
         try clear p581
         try clear p583
         try clear q581
         try clear q583
         obtain ⟨x8_3, x9_3, rfl, rfl, HA, HK3, HB⟩ := hrel
         cases gk with
         | zero => exact absurd HA.out (by simp [Zan.l1])
         | succ k3 =>
          have H := HA.out
          clear HA
          simp only [Zan.l1] at H
          by_cases c13 : x9_3 < a1
          ·rw [if_pos c13] at H
           have c13b0 : decide (x9_3 < a1) = true := decide_eq_true c13
           clear c13
           have H' := Zac.mk H
           clear H
           as_aux_lemma =>
            go_wp2
            repeat (go_quiet (fail); try go_wp2)
            go_roundg k3
            case measure => have := HJ2.out; have := HK2.out; have := HK3.out; omega
            case rel => exact ⟨(wrap64 (x8_3 * 10)), (wrap64 (x9_3 + 1)), (by first | rfl | (simp; done) | (simp [*]; done) | (simp [IntWalk.i64_left, *]; done)), (by first | rfl | (simp; done) | (simp [*]; done) | (simp [IntWalk.i64_left, *]; done)), H', ⟨by have := HJ2.out; have := HK2.out; have := HK3.out; omega⟩, ⟨by repeat (first | (with_reducible first | exact HB.out | apply Zae | apply Zab | apply Zad) | exact HB.out)⟩⟩
          ·rw [if_neg c13] at H
           have c13b0 : decide (x9_3 < a1) = false := decide_eq_false c13
           clear c13
           obtain ⟨y584, hy584⟩ : ∃ y_ : List Int, y_ = (([] : List Int)) := ⟨_, rfl⟩
           replace H : (Zan.l2 k3 l0 x6_2 x8_3 y584 0) = some (r1, r2) := by first | (rw [hy584]; with_reducible exact H) | (have H2_ := (Option.bind_some _ _).symm.trans H; rw [hy584]; with_reducible exact H2_) | (have H2_ := (Option.bind_some _ _).symm.trans H; with_reducible exact H2_) | with_reducible exact H | (rw [hy584]; exact H) | exact H
           have Ny584 := Zac.mk hy584
           clear hy584
           have H' := Zac.mk H
           clear H
           go_wp2_with (first | ((with_reducible refine gate_dst (N := 53) rfl ?_); refine Kd.R_lit (Kd.int .i64) _ 2 ?hg (N := 53) ?hd (xs := ([] : List Int)) (inner := []) (ok := fun _ => True) (okp := fun _ => True) ?hr ?hp (fun _ hk => hk) trivial (Below.refl _ _) (Nat.le_refl _) (by simp) ?_; (case hd => rfl); (case hg => rfl); (case hr => first | (go_simp; done) | (go_simp; rfl)); (case hp => exact (Reps.none _ _)); intro v585 w14 ho15 hb hg_ hnew_; clear hg_ hnew_; (first | rw [← Ny584.out] at ho15 | (simp only [Int.reduceToNat] at ho15; rw [← Ny584.out] at ho15)); have n0_ := Zac.mk (Kd.R_lower ho15 (Zaw (by repeat (first | (with_reducible first | exact HB.out | apply Zae | apply Zab | apply Zad) | exact HB.out)))); have n1_ := Zac.mk (Zay (by repeat (first | (with_reducible first | exact HB.out | apply Zae | apply Zab | apply Zad) | exact HB.out)) hb); clear HB; have HO586 := n0_; have HB := n1_; clear n0_ n1_; clear hb ho15))
           repeat (go_quiet (first | ((with_reducible refine gate_dst (N := 53) rfl ?_); refine Kd.R_lit (Kd.int .i64) _ 2 ?hg (N := 53) ?hd (xs := ([] : List Int)) (inner := []) (ok := fun _ => True) (okp := fun _ => True) ?hr ?hp (fun _ hk => hk) trivial (Below.refl _ _) (Nat.le_refl _) (by simp) ?_; (case hd => rfl); (case hg => rfl); (case hr => first | (go_simp; done) | (go_simp; rfl)); (case hp => exact (Reps.none _ _)); intro v585 w14 ho15 hb hg_ hnew_; clear hg_ hnew_; (first | rw [← Ny584.out] at ho15 | (simp only [Int.reduceToNat] at ho15; rw [← Ny584.out] at ho15)); have n0_ := Zac.mk (Kd.R_lower ho15 (Zaw (by repeat (first | (with_reducible first | exact HB.out | apply Zae | apply Zab | apply Zad) | exact HB.out)))); have n1_ := Zac.mk (Zay (by repeat (first | (with_reducible first | exact HB.out | apply Zae | apply Zab | apply Zad) | exact HB.out)) hb); clear HB; have HO586 := n0_; have HB := n1_; clear n0_ n1_; clear hb ho15)); try go_wp2_with (first | ((with_reducible refine gate_dst (N := 53) rfl ?_); refine Kd.R_lit (Kd.int .i64) _ 2 ?hg (N := 53) ?hd (xs := ([] : List Int)) (inner := []) (ok := fun _ => True) (okp := fun _ => True) ?hr ?hp (fun _ hk => hk) trivial (Below.refl _ _) (Nat.le_refl _) (by simp) ?_; (case hd => rfl); (case hg => rfl); (case hr => first | (go_simp; done) | (go_simp; rfl)); (case hp => exact (Reps.none _ _)); intro v585 w14 ho15 hb hg_ hnew_; clear hg_ hnew_; (first | rw [← Ny584.out] at ho15 | (simp only [Int.reduceToNat] at ho15; rw [← Ny584.out] at ho15)); have n0_ := Zac.mk (Kd.R_lower ho15 (Zaw (by repeat (first | (with_reducible first | exact HB.out | apply Zae | apply Zab | apply Zad) | exact HB.out)))); have n1_ := Zac.mk (Zay (by repeat (first | (with_reducible first | exact HB.out | apply Zae | apply Zab | apply Zad) | exact HB.out)) hb); clear HB; have HO586 := n0_; have HB := n1_; clear n0_ n1_; clear hb ho15)))
           go_loopg [10, 11] k3 (fun kq v10 v11 w' => ∃ (x10_4 : List Int) (x11_4 : Int), v11 = .int .i64 x11_4 ∧ Zac (Zan.l2 kq l0 x6_2 x8_3 x10_4 x11_4 = some (r1, r2)) ∧ Zac (kq ≤ k3) ∧ Zac (Kd.R (Kd.int .i64) 2 w' w.heap.size (fun _ => True) v10 x10_4) ∧ Zac (Below w.heap.size w w'))
           case atStart => exact ⟨(y584), (0), (by first | rfl | (simp; done) | (simp [*]; done) | (simp [IntWalk.i64_left, *]; done)), H', ⟨Nat.le_refl _⟩, ⟨by (with_reducible repeat (first | apply Kd.R_alloc | apply Kd.R_drewN | apply Kd.R_drew)); exact HO586.out⟩, ⟨by repeat (first | (with_reducible first | exact HB.out | apply Zae | apply Zab | apply Zad) | exact HB.out)⟩⟩
           case round =>
            clear H'
            try clear c1
            try clear p2
            try clear c3
            try clear c5
            try clear p5
            try clear q5
            try clear hx5
            try clear p6
            try clear c7
            try clear c8
            try clear c8b0
            try clear c9
            try clear c9b0
            try clear c11
            try clear c12
            try clear c12b0
            try clear c12b1
            try clear c13
            try clear c13b0
            try clear hx581_0
            try clear hx583_0
            try clear p2
            try clear p5
            try clear p581
            try clear p583
            try clear p6
            try clear q5
            try clear q581
            try clear q583
            obtain ⟨x10_4, x11_4, rfl, HA, HK4, HO_10, HB⟩ := hrel
            cases gk with
            | zero => exact absurd HA.out (by simp [Zan.l2])
            | succ k4 =>
             have H := HA.out
             clear HA
             simp only [Zan.l2] at H
             by_cases c16 : x11_4 < (l0.length : Int)
             ·rw [if_pos c16] at H
              have c16b0 : decide (x11_4 < (l0.length : Int)) = true := decide_eq_true c16
              clear c16
              by_cases c17 : 0 ≤ x11_4
              ·rw [if_pos c17] at H
               have c17b0 : decide (0 ≤ x11_4) = true := decide_eq_true c17
               clear c17
               by_cases c18 : x10_4.length < 17592186044416
               ·rw [if_pos c18] at H
                have LMc18 := Zac.mk c18
                clear c18
                obtain ⟨y588, hy588⟩ : ∃ y_ : List Int, y_ = (x10_4 ++ [wrap64 (x8_3 * (rd l0 x11_4))]) := ⟨_, rfl⟩
                replace H : (Zan.l2 k4 l0 x6_2 x8_3 y588 (wrap64 (x11_4 + 1))) = some (r1, r2) := by first | (rw [hy588]; with_reducible exact H) | (have H2_ := (Option.bind_some _ _).symm.trans H; rw [hy588]; with_reducible exact H2_) | (have H2_ := (Option.bind_some _ _).symm.trans H; with_reducible exact H2_) | with_reducible exact H | (rw [hy588]; exact H) | exact H
                have Ny588 := Zac.mk hy588
                clear hy588
                have H' := Zac.mk H
                clear H
                have p587 : 0 ≤ (x11_4 : Int) := of_decide_eq_true (by first | (with_reducible assumption) | assumption)
                have q587 : x11_4 < (l0.length : Int) := of_decide_eq_true (by first | (with_reducible assumption) | assumption)
                obtain ⟨ad587, e587, hx587_0⟩ := Kd.at_int HR0.out x11_4 p587 q587
                cases e587
                replace hx587_0 := (HB.out.cell (World.block_lt_of_cell? w _ hx587_0)).trans hx587_0
                replace p587 := eq_true p587
                replace q587 := eq_true q587
                as_aux_lemma =>
                 go_wp2_with (first | ((with_reducible refine gate_builtin (b := .append) (xs := #[.tmp 60, .tmp 67]) rfl ?_); at_builtin; refine Kd.R_append (Kd.int .i64) (w0 := w) w.heap.size rfl (.tmp 60) (.tmp 67) 22 2 (.int .i64 0) 8 rfl Try.underlying22 info2 rfl (by decide) (by omega) u10 x10_4 (wrap64 (x8_3 * (rd l0 x11_4))) [.int .i64 (wrap64 (x8_3 * (rd l0 x11_4)))] (fun _ => True) (fun _ => False) rfl rfl ?aP (fun _ hk => hk.elim) ?aF ?aO ?aB ?aS ?aL ?_; (case aP => exact rfl); (case aB => exact (by repeat (first | (with_reducible first | exact HB.out | apply Zae | apply Zab | apply Zad) | exact HB.out))); (case aF => exact (fun _ _ => trivial)); (case aO => exact (by (with_reducible repeat (first | apply Kd.R_alloc | apply Kd.R_drewN | apply Kd.R_drew)); exact HO_10.out)); (case aS => exact (Zaw (by repeat (first | (with_reducible first | exact HB.out | apply Zae | apply Zab | apply Zad) | exact HB.out)))); (case aL => have := LMc18.out; omega); intro v589 w19 ho hb hg hat; rw [← Ny588.out] at ho; have n0_ := Zac.mk (hb); have n1_ := Zac.mk (ho); clear HB; clear HO_10; have HB := n0_; have HO590 := n1_; clear n0_ n1_; clear ho hb hg hat))
                 repeat (go_quiet (first | ((with_reducible refine gate_builtin (b := .append) (xs := #[.tmp 60, .tmp 67]) rfl ?_); at_builtin; refine Kd.R_append (Kd.int .i64) (w0 := w) w.heap.size rfl (.tmp 60) (.tmp 67) 22 2 (.int .i64 0) 8 rfl Try.underlying22 info2 rfl (by decide) (by omega) u10 x10_4 (wrap64 (x8_3 * (rd l0 x11_4))) [.int .i64 (wrap64 (x8_3 * (rd l0 x11_4)))] (fun _ => True) (fun _ => False) rfl rfl ?aP (fun _ hk => hk.elim) ?aF ?aO ?aB ?aS ?aL ?_; (case aP => exact rfl); (case aB => exact (by repeat (first | (with_reducible first | exact HB.out | apply Zae | apply Zab | apply Zad) | exact HB.out))); (case aF => exact (fun _ _ => trivial)); (case aO => exact (by (with_reducible repeat (first | apply Kd.R_alloc | apply Kd.R_drewN | apply Kd.R_drew)); exact HO_10.out)); (case aS => exact (Zaw (by repeat (first | (with_reducible first | exact HB.out | apply Zae | apply Zab | apply Zad) | exact HB.out)))); (case aL => have := LMc18.out; omega); intro v589 w19 ho hb hg hat; rw [← Ny588.out] at ho; have n0_ := Zac.mk (hb); have n1_ := Zac.mk (ho); clear HB; clear HO_10; have HB := n0_; have HO590 := n1_; clear n0_ n1_; clear ho hb hg hat)); try go_wp2_with (first | ((with_reducible refine gate_builtin (b := .append) (xs := #[.tmp 60, .tmp 67]) rfl ?_); at_builtin; refine Kd.R_append (Kd.int .i64) (w0 := w) w.heap.size rfl (.tmp 60) (.tmp 67) 22 2 (.int .i64 0) 8 rfl Try.underlying22 info2 rfl (by decide) (by omega) u10 x10_4 (wrap64 (x8_3 * (rd l0 x11_4))) [.int .i64 (wrap64 (x8_3 * (rd l0 x11_4)))] (fun _ => True) (fun _ => False) rfl rfl ?aP (fun _ hk => hk.elim) ?aF ?aO ?aB ?aS ?aL ?_; (case aP => exact rfl); (case aB => exact (by repeat (first | (with_reducible first | exact HB.out | apply Zae | apply Zab | apply Zad) | exact HB.out))); (case aF => exact (fun _ _ => trivial)); (case aO => exact (by (with_reducible repeat (first | apply Kd.R_alloc | apply Kd.R_drewN | apply Kd.R_drew)); exact HO_10.out)); (case aS => exact (Zaw (by repeat (first | (with_reducible first | exact HB.out | apply Zae | apply Zab | apply Zad) | exact HB.out)))); (case aL => have := LMc18.out; omega); intro v589 w19 ho hb hg hat; rw [← Ny588.out] at ho; have n0_ := Zac.mk (hb); have n1_ := Zac.mk (ho); clear HB; clear HO_10; have HB := n0_; have HO590 := n1_; clear n0_ n1_; clear ho hb hg hat)))
                 go_roundg k4
                 case measure => have := HJ2.out; have := HK2.out; have := HK3.out; have := HK4.out; omega
                 case rel => exact ⟨(y588), (wrap64 (x11_4 + 1)), (by first | rfl | (simp; done) | (simp [*]; done) | (simp [IntWalk.i64_left, *]; done)), H', ⟨by have := HJ2.out; have := HK2.out; have := HK3.out; have := HK4.out; omega⟩, ⟨by (with_reducible repeat (first | apply Kd.R_alloc | apply Kd.R_drewN | apply Kd.R_drew)); exact HO590.out⟩, ⟨by repeat (first | (with_reducible first | exact HB.out | apply Zae | apply Zab | apply Zad) | exact HB.out)⟩⟩
               ·rw [if_neg c18] at H
                exact absurd H (by simp)
              ·rw [if_neg c17] at H
               exact absurd H (by simp)
             ·rw [if_neg c16] at H
              have c16b0 : decide (x11_4 < (l0.length : Int)) = false := decide_eq_false c16
              clear c16
              replace H := Option.bind_eq_some_iff.mp H
              obtain ⟨t591, A200, H⟩ := H
              replace H : ((Zba.f k4 x10_4 x6_2).bind fun t594 => ((spec_l01Sum.f k4 t591).bind fun t597 => (Zan.l3 k4 t591 t594 (wrap64 (x8_3 - t597))))) = some (r1, r2) := H
              have A20 := Zac.mk A200
              clear A200
              replace H := Option.bind_eq_some_iff.mp H
              obtain ⟨t594, A210, H⟩ := H
              replace H : ((spec_l01Sum.f k4 t591).bind fun t597 => (Zan.l3 k4 t591 t594 (wrap64 (x8_3 - t597)))) = some (r1, r2) := H
              have A21 := Zac.mk A210
              clear A210
              replace H := Option.bind_eq_some_iff.mp H
              obtain ⟨t597, A220, H⟩ := H
              replace H : (Zan.l3 k4 t591 t594 (wrap64 (x8_3 - t597))) = some (r1, r2) := H
              have A22 := Zac.mk A220
              clear A220
              have H' := Zac.mk H
              clear H
              obtain ⟨Ao23, co23, eo23⟩ := Kd.R_slice HO_10.out
              subst eo23
              go_wp2_with (first | (go_at_call 82; (with_reducible refine (spec_l04Floors.calls k4 _ _ x10_4 x6_2 t591 _ ?side1 ?side2 A20.out).mono ?_); (case side1 => repeat (first | exact (Kd.R_reads' HO_10.out).2.2 | (with_reducible refine Kd.C_alloc ?_ _) | (with_reducible refine Kd.C_drewN ?_ _) | (with_reducible refine Kd.C_drew ?_))); (case side2 => exact (Kd.R_reads' HO_10.out).2.1); rintro e w24 ⟨v592, rfl, ho0, hb⟩; have n0_ := Zac.mk (Kd.R_elder' (by (with_reducible repeat (first | apply Kd.R_alloc | apply Kd.R_drewN | apply Kd.R_drew)); exact HO_10.out) (Kd.R_base ho0) hb); have n1_ := Zac.mk (Kd.R_lower (Kd.R_new' ho0 (Kd.R_lt (by (with_reducible repeat (first | apply Kd.R_alloc | apply Kd.R_drewN | apply Kd.R_drew)); exact HO_10.out))) (Zaw (by repeat (first | (with_reducible first | exact HB.out | apply Zae | apply Zab | apply Zad) | exact HB.out)))); have n2_ := Zac.mk (Zay (by repeat (first | (with_reducible first | exact HB.out | apply Zae | apply Zab | apply Zad) | exact HB.out)) hb); clear HO_10; clear HB; have HO_10 := n0_; have HO593 := n1_; have HB := n2_; clear n0_ n1_ n2_; (try clear hb); (try clear hb2); (try clear hk); (try clear hi); (try clear ho0)) | (go_at_call 83; (with_reducible refine (Zba.calls k4 _ _ x10_4 x6_2 t594 _ ?side1 ?side2 A21.out).mono ?_); (case side1 => repeat (first | exact (Kd.R_reads' HO_10.out).2.2 | (with_reducible refine Kd.C_alloc ?_ _) | (with_reducible refine Kd.C_drewN ?_ _) | (with_reducible refine Kd.C_drew ?_))); (case side2 => exact (Kd.R_reads' HO_10.out).2.1); rintro e w25 ⟨v595, rfl, ho0, hb⟩; have n0_ := Zac.mk (Kd.R_elder' (by (with_reducible repeat (first | apply Kd.R_alloc | apply Kd.R_drewN | apply Kd.R_drew)); exact HO_10.out) (Kd.R_base ho0) hb); have n1_ := Zac.mk (Kd.R_elder' (by (with_reducible repeat (first | apply Kd.R_alloc | apply Kd.R_drewN | apply Kd.R_drew)); exact HO593.out) (Kd.R_base ho0) hb); have n2_ := Zac.mk (Kd.R_lower (Kd.R_new' (Kd.R_new' ho0 (Kd.R_lt (by (with_reducible repeat (first | apply Kd.R_alloc | apply Kd.R_drewN | apply Kd.R_drew)); exact HO_10.out))) (Kd.R_lt (by (with_reducible repeat (first | apply Kd.R_alloc | apply Kd.R_drewN | apply Kd.R_drew)); exact HO593.out))) (Zaw (by repeat (first | (with_reducible first | exact HB.out | apply Zae | apply Zab | apply Zad) | exact HB.out)))); have n3_ := Zac.mk (Zay (by repeat (first | (with_reducible first | exact HB.out | apply Zae | apply Zab | apply Zad) | exact HB.out)) hb); clear HO_10; clear HO593; clear HB; have HO_10 := n0_; have HO593 := n1_; have HO596 := n2_; have HB := n3_; clear n0_ n1_ n2_ n3_; (try clear hb); (try clear hb2); (try clear hk); (try clear hi); (try clear ho0); obtain ⟨Ao26, co26, eo26⟩ := Kd.R_slice HO593.out; subst eo26) | (go_at_call 84; (with_reducible refine (spec_l01Sum.calls k4 _ _ t591 t597 _ ?side1 ?side2 A22.out).mono ?_); (case side1 => repeat (first | exact (Kd.R_reads' HO593.out).2.2 | (with_reducible refine Kd.C_alloc ?_ _) | (with_reducible refine Kd.C_drewN ?_ _) | (with_reducible refine Kd.C_drew ?_))); (case side2 => exact (Kd.R_reads' HO593.out).2.1); rintro e w' ⟨rfl, ⟨nd, rfl⟩⟩; (try first | exact ⟨rfl, _, World.drewN_drewN _ _ _⟩ | exact ⟨rfl, _, Eq.trans (World.drewN_drewN _ _ _) (congrArg (World.drewN _) (Nat.add_assoc _ _ _))⟩)))
              repeat (go_quiet (first | (go_at_call 82; (with_reducible refine (spec_l04Floors.calls k4 _ _ x10_4 x6_2 t591 _ ?side1 ?side2 A20.out).mono ?_); (case side1 => repeat (first | exact (Kd.R_reads' HO_10.out).2.2 | (with_reducible refine Kd.C_alloc ?_ _) | (with_reducible refine Kd.C_drewN ?_ _) | (with_reducible refine Kd.C_drew ?_))); (case side2 => exact (Kd.R_reads' HO_10.out).2.1); rintro e w24 ⟨v592, rfl, ho0, hb⟩; have n0_ := Zac.mk (Kd.R_elder' (by (with_reducible repeat (first | apply Kd.R_alloc | apply Kd.R_drewN | apply Kd.R_drew)); exact HO_10.out) (Kd.R_base ho0) hb); have n1_ := Zac.mk (Kd.R_lower (Kd.R_new' ho0 (Kd.R_lt (by (with_reducible repeat (first | apply Kd.R_alloc | apply Kd.R_drewN | apply Kd.R_drew)); exact HO_10.out))) (Zaw (by repeat (first | (with_reducible first | exact HB.out | apply Zae | apply Zab | apply Zad) | exact HB.out)))); have n2_ := Zac.mk (Zay (by repeat (first | (with_reducible first | exact HB.out | apply Zae | apply Zab | apply Zad) | exact HB.out)) hb); clear HO_10; clear HB; have HO_10 := n0_; have HO593 := n1_; have HB := n2_; clear n0_ n1_ n2_; (try clear hb); (try clear hb2); (try clear hk); (try clear hi); (try clear ho0)) | (go_at_call 83; (with_reducible refine (Zba.calls k4 _ _ x10_4 x6_2 t594 _ ?side1 ?side2 A21.out).mono ?_); (case side1 => repeat (first | exact (Kd.R_reads' HO_10.out).2.2 | (with_reducible refine Kd.C_alloc ?_ _) | (with_reducible refine Kd.C_drewN ?_ _) | (with_reducible refine Kd.C_drew ?_))); (case side2 => exact (Kd.R_reads' HO_10.out).2.1); rintro e w25 ⟨v595, rfl, ho0, hb⟩; have n0_ := Zac.mk (Kd.R_elder' (by (with_reducible repeat (first | apply Kd.R_alloc | apply Kd.R_drewN | apply Kd.R_drew)); exact HO_10.out) (Kd.R_base ho0) hb); have n1_ := Zac.mk (Kd.R_elder' (by (with_reducible repeat (first | apply Kd.R_alloc | apply Kd.R_drewN | apply Kd.R_drew)); exact HO593.out) (Kd.R_base ho0) hb); have n2_ := Zac.mk (Kd.R_lower (Kd.R_new' (Kd.R_new' ho0 (Kd.R_lt (by (with_reducible repeat (first | apply Kd.R_alloc | apply Kd.R_drewN | apply Kd.R_drew)); exact HO_10.out))) (Kd.R_lt (by (with_reducible repeat (first | apply Kd.R_alloc | apply Kd.R_drewN | apply Kd.R_drew)); exact HO593.out))) (Zaw (by repeat (first | (with_reducible first | exact HB.out | apply Zae | apply Zab | apply Zad) | exact HB.out)))); have n3_ := Zac.mk (Zay (by repeat (first | (with_reducible first | exact HB.out | apply Zae | apply Zab | apply Zad) | exact HB.out)) hb); clear HO_10; clear HO593; clear HB; have HO_10 := n0_; have HO593 := n1_; have HO596 := n2_; have HB := n3_; clear n0_ n1_ n2_ n3_; (try clear hb); (try clear hb2); (try clear hk); (try clear hi); (try clear ho0); obtain ⟨Ao26, co26, eo26⟩ := Kd.R_slice HO593.out; subst eo26) | (go_at_call 84; (with_reducible refine (spec_l01Sum.calls k4 _ _ t591 t597 _ ?side1 ?side2 A22.out).mono ?_); (case side1 => repeat (first | exact (Kd.R_reads' HO593.out).2.2 | (with_reducible refine Kd.C_alloc ?_ _) | (with_reducible refine Kd.C_drewN ?_ _) | (with_reducible refine Kd.C_drew ?_))); (case side2 => exact (Kd.R_reads' HO593.out).2.1); rintro e w' ⟨rfl, ⟨nd, rfl⟩⟩; (try first | exact ⟨rfl, _, World.drewN_drewN _ _ _⟩ | exact ⟨rfl, _, Eq.trans (World.drewN_drewN _ _ _) (congrArg (World.drewN _) (Nat.add_assoc _ _ _))⟩))); try go_wp2_with (first | (go_at_call 82; (with_reducible refine (spec_l04Floors.calls k4 _ _ x10_4 x6_2 t591 _ ?side1 ?side2 A20.out).mono ?_); (case side1 => repeat (first | exact (Kd.R_reads' HO_10.out).2.2 | (with_reducible refine Kd.C_alloc ?_ _) | (with_reducible refine Kd.C_drewN ?_ _) | (with_reducible refine Kd.C_drew ?_))); (case side2 => exact (Kd.R_reads' HO_10.out).2.1); rintro e w24 ⟨v592, rfl, ho0, hb⟩; have n0_ := Zac.mk (Kd.R_elder' (by (with_reducible repeat (first | apply Kd.R_alloc | apply Kd.R_drewN | apply Kd.R_drew)); exact HO_10.out) (Kd.R_base ho0) hb); have n1_ := Zac.mk (Kd.R_lower (Kd.R_new' ho0 (Kd.R_lt (by (with_reducible repeat (first | apply Kd.R_alloc | apply Kd.R_drewN | apply Kd.R_drew)); exact HO_10.out))) (Zaw (by repeat (first | (with_reducible first | exact HB.out | apply Zae | apply Zab | apply Zad) | exact HB.out)))); have n2_ := Zac.mk (Zay (by repeat (first | (with_reducible first | exact HB.out | apply Zae | apply Zab | apply Zad) | exact HB.out)) hb); clear HO_10; clear HB; have HO_10 := n0_; have HO593 := n1_; have HB := n2_; clear n0_ n1_ n2_; (try clear hb); (try clear hb2); (try clear hk); (try clear hi); (try clear ho0)) | (go_at_call 83; (with_reducible refine (Zba.calls k4 _ _ x10_4 x6_2 t594 _ ?side1 ?side2 A21.out).mono ?_); (case side1 => repeat (first | exact (Kd.R_reads' HO_10.out).2.2 | (with_reducible refine Kd.C_alloc ?_ _) | (with_reducible refine Kd.C_drewN ?_ _) | (with_reducible refine Kd.C_drew ?_))); (case side2 => exact (Kd.R_reads' HO_10.out).2.1); rintro e w25 ⟨v595, rfl, ho0, hb⟩; have n0_ := Zac.mk (Kd.R_elder' (by (with_reducible repeat (first | apply Kd.R_alloc | apply Kd.R_drewN | apply Kd.R_drew)); exact HO_10.out) (Kd.R_base ho0) hb); have n1_ := Zac.mk (Kd.R_elder' (by (with_reducible repeat (first | apply Kd.R_alloc | apply Kd.R_drewN | apply Kd.R_drew)); exact HO593.out) (Kd.R_base ho0) hb); have n2_ := Zac.mk (Kd.R_lower (Kd.R_new' (Kd.R_new' ho0 (Kd.R_lt (by (with_reducible repeat (first | apply Kd.R_alloc | apply Kd.R_drewN | apply Kd.R_drew)); exact HO_10.out))) (Kd.R_lt (by (with_reducible repeat (first | apply Kd.R_alloc | apply Kd.R_drewN | apply Kd.R_drew)); exact HO593.out))) (Zaw (by repeat (first | (with_reducible first | exact HB.out | apply Zae | apply Zab | apply Zad) | exact HB.out)))); have n3_ := Zac.mk (Zay (by repeat (first | (with_reducible first | exact HB.out | apply Zae | apply Zab | apply Zad) | exact HB.out)) hb); clear HO_10; clear HO593; clear HB; have HO_10 := n0_; have HO593 := n1_; have HO596 := n2_; have HB := n3_; clear n0_ n1_ n2_ n3_; (try clear hb); (try clear hb2); (try clear hk); (try clear hi); (try clear ho0); obtain ⟨Ao26, co26, eo26⟩ := Kd.R_slice HO593.out; subst eo26) | (go_at_call 84; (with_reducible refine (spec_l01Sum.calls k4 _ _ t591 t597 _ ?side1 ?side2 A22.out).mono ?_); (case side1 => repeat (first | exact (Kd.R_reads' HO593.out).2.2 | (with_reducible refine Kd.C_alloc ?_ _) | (with_reducible refine Kd.C_drewN ?_ _) | (with_reducible refine Kd.C_drew ?_))); (case side2 => exact (Kd.R_reads' HO593.out).2.1); rintro e w' ⟨rfl, ⟨nd, rfl⟩⟩; (try first | exact ⟨rfl, _, World.drewN_drewN _ _ _⟩ | exact ⟨rfl, _, Eq.trans (World.drewN_drewN _ _ _) (congrArg (World.drewN _) (Nat.add_assoc _ _ _))⟩))))
              go_loopg [14] k4 (fun kq v14 w' => ∃ (x12_5 : List Int) (x13_5 : List Int) (x14_5 : Int), v14 = .int .i64 x14_5 ∧ Zac (Zan.l3 kq x12_5 x13_5 x14_5 = some (r1, r2)) ∧ Zac (kq ≤ k4) ∧ Zac (Kd.R (Kd.int .i64) 2 w' w.heap.size (fun k_ => some k_ ≠ (v595 : Value).ownBlock) (.slice Ao26 t591.length co26) x12_5) ∧ Zac (Kd.R (Kd.int .i64) 2 w' w.heap.size (fun k_ => some k_ ≠ ((.slice Ao26 t591.length co26) : Value).ownBlock) v595 x13_5) ∧ Zac (Below w.heap.size w w'))
              case atStart => exact ⟨(t591), (t594), (wrap64 (x8_3 - t597)), (by first | rfl | (simp; done) | (simp [*]; done) | (simp [IntWalk.i64_left, *]; done)), H', ⟨Nat.le_refl _⟩, ⟨by (with_reducible repeat (first | apply Kd.R_alloc | apply Kd.R_drewN | apply Kd.R_drew)); exact Kd.R_mono HO593.out (fun _ hk => hk.2)⟩, ⟨by (with_reducible repeat (first | apply Kd.R_alloc | apply Kd.R_drewN | apply Kd.R_drew)); exact Kd.R_mono HO596.out (fun _ hk => hk.2)⟩, ⟨by repeat (first | (with_reducible first | exact HB.out | apply Zae | apply Zab | apply Zad) | exact HB.out)⟩⟩
              case round =>
               clear H'
               try clear c1
               try clear p2
               try clear c3
               try clear c5
               try clear p5
               try clear q5
               try clear hx5
               try clear p6
               try clear c7
               try clear c8
               try clear c8b0
               try clear c9
               try clear c9b0
               try clear c11
               try clear c12
               try clear c12b0
               try clear c12b1
               try clear c13
               try clear c13b0
               try clear c16
               try clear c16b0
               try clear c17
               try clear c17b0
               try clear c18
               try clear hx581_0
               try clear hx583_0
               try clear hx587_0
               try clear p2
               try clear p5
               try clear p581
               try clear p583
               try clear p587
               try clear p6
               try clear q5
               try clear q581
               try clear q583
               try clear q587
               obtain ⟨x12_5, x13_5, x14_5, rfl, HA, HK5, HO_12, HO_13, HB⟩ := hrel
               have hl12_5 := (Kd.R_reads' HO_12.out).1
               rw [hl12_5] at HO_12
               (try simp only [hl12_5])
               (try simp only [hl12_5] at HO_13)
               cases gk with
               | zero => exact absurd HA.out (by simp [Zan.l3])
               | succ k5 =>
                have H := HA.out
                clear HA
                simp only [Zan.l3] at H
                by_cases c27 : x14_5 > 0
                ·rw [if_pos c27] at H
                 have c27b0 : decide (0 < x14_5) = true := decide_eq_true c27
                 clear c27
                 have H' := Zac.mk H
                 clear H
                 go_wp2
                 repeat (go_quiet (fail); try go_wp2)
                 go_loopg [15, 16] k5 (fun kq v15 v16 w' => ∃ (x15_6 : Int) (x16_6 : Int), v15 = .int .i64 x15_6 ∧ v16 = .int .i64 x16_6 ∧ Zac (Zan.l4 kq x12_5 x13_5 x14_5 x15_6 x16_6 = some (r1, r2)) ∧ Zac (kq ≤ k5) ∧ Zac (Kd.R (Kd.int .i64) 2 w' w.heap.size (fun k_ => some k_ ≠ (v595 : Value).ownBlock) (.slice Ao26 x12_5.length co26) x12_5) ∧ Zac (Kd.R (Kd.int .i64) 2 w' w.heap.size (fun k_ => some k_ ≠ ((.slice Ao26 x12_5.length co26) : Value).ownBlock) v595 x13_5) ∧ Zac (Below w.heap.size w w'))
                 case atStart => exact ⟨((-1)), (0), (by first | rfl | (simp; done) | (simp [*]; done) | (simp [IntWalk.i64_left, *]; done)), (by first | rfl | (simp; done) | (simp [*]; done) | (simp [IntWalk.i64_left, *]; done)), H', ⟨Nat.le_refl _⟩, ⟨by (try simp only [hl12_5]); (with_reducible repeat (first | apply Kd.R_alloc | apply Kd.R_drewN | apply Kd.R_drew)); exact HO_12.out⟩, ⟨by (try simp only [hl12_5]); (with_reducible repeat (first | apply Kd.R_alloc | apply Kd.R_drewN | apply Kd.R_drew)); exact HO_13.out⟩, ⟨by repeat (first | (with_reducible first | exact HB.out | apply Zae | apply Zab | apply Zad) | exact HB.out)⟩⟩
                 case round =>
                  clear H'
                  try clear c1
                  try clear c2
                  try clear p2
                  try clear c3
                  try clear c5
                  try clear p5
                  try clear q5
                  try clear hx5
                  try clear p6
                  try clear c7
                  try clear c8
                  try clear c8b0
                  try clear c9
                  try clear c9b0
                  try clear c11
                  try clear c12
                  try clear c12b0
                  try clear c12b1
                  try clear c13
                  try clear c13b0
                  try clear c16
                  try clear c16b0
                  try clear c17
                  try clear c17b0
                  try clear c18
                  try clear c27
                  try clear c27b0
                  try clear hx581_0
                  try clear hx583_0
                  try clear hx587_0
                  try clear p2
                  try clear p5
                  try clear p581
                  try clear p583
                  try clear p587
                  try clear p6
                  try clear q5
                  try clear q581
                  try clear q583
                  try clear q587
                  obtain ⟨x15_6, x16_6, rfl, rfl, HA, HK6, HO_12, HO_13, HB⟩ := hrel
                  cases gk with
                  | zero => exact absurd HA.out (by simp [Zan.l4])
                  | succ k6 =>
                   have H := HA.out
                   clear HA
                   simp only [Zan.l4] at H
                   by_cases c28 : x16_6 < (x13_5.length : Int)
                   ·rw [if_pos c28] at H
                    have c28b0 : decide (x16_6 < (x13_5.length : Int)) = true := decide_eq_true c28
                    clear c28
                    by_cases c29 : 0 ≤ x16_6
                    ·rw [if_pos c29] at H
                     have c29b0 : decide (0 ≤ x16_6) = true := decide_eq_true c29
                     clear c29
                     by_cases c30 : (rd x13_5 x16_6) > 0
                     ·rw [if_pos c30] at H
                      have c30b0 : decide (0 < (rd x13_5 x16_6)) = true := decide_eq_true c30
                      clear c30
                      by_cases c31 : x15_6 < 0
                      ·rw [if_pos c31] at H
                       have c31b0 : decide (x15_6 < 0) = true := decide_eq_true c31
                       clear c31
                       have H' := Zac.mk H
                       clear H
                       obtain ⟨Ao32, co32, eo32⟩ := Kd.R_slice HO_13.out
                       subst eo32
                       have p598 : 0 ≤ (x16_6 : Int) := of_decide_eq_true (by first | (with_reducible assumption) | assumption)
                       have q598 : x16_6 < (x13_5.length : Int) := of_decide_eq_true (by first | (with_reducible assumption) | assumption)
                       obtain ⟨ad598, e598, hx598_0⟩ := Kd.at_int (Kd.R_reads' HO_13.out).2.2 x16_6 p598 q598
                       cases e598
                       replace p598 := eq_true p598
                       replace q598 := eq_true q598
                       as_aux_lemma =>
                        go_wp2
                        repeat (go_quiet (fail); try go_wp2)
                        go_roundg k6
                        case measure => have := HJ2.out; have := HK2.out; have := HK3.out; have := HK4.out; have := HK5.out; have := HK6.out; omega
                        case rel => exact ⟨(x16_6), (wrap64 (x16_6 + 1)), (by first | rfl | (simp; done) | (simp [*]; done) | (simp [IntWalk.i64_left, *]; done)), (by first | rfl | (simp; done) | (simp [*]; done) | (simp [IntWalk.i64_left, *]; done)), H', ⟨by have := HJ2.out; have := HK2.out; have := HK3.out; have := HK4.out; have := HK5.out; have := HK6.out; omega⟩, ⟨by (try simp only [hl12_5]); (with_reducible repeat (first | apply Kd.R_alloc | apply Kd.R_drewN | apply Kd.R_drew)); exact HO_12.out⟩, ⟨by (try simp only [hl12_5]); (with_reducible repeat (first | apply Kd.R_alloc | apply Kd.R_drewN | apply Kd.R_drew)); exact HO_13.out⟩, ⟨by repeat (first | (with_reducible first | exact HB.out | apply Zae | apply Zab | apply Zad) | exact HB.out)⟩⟩
                      ·rw [if_neg c31] at H
                       have c31b0 : decide (x15_6 < 0) = false := decide_eq_false c31
                       clear c31
                       by_cases c33 : 0 ≤ x15_6
                       ·rw [if_pos c33] at H
                        have c33b0 : decide (0 ≤ x15_6) = true := decide_eq_true c33
                        clear c33
                        by_cases c34 : x15_6 < (x13_5.length : Int)
                        ·rw [if_pos c34] at H
                         have c34b0 : decide (x15_6 < (x13_5.length : Int)) = true := decide_eq_true c34
                         clear c34
                         by_cases c35 : (rd x13_5 x16_6) ≥ (rd x13_5 x15_6)
                         ·rw [if_pos c35] at H
                          have c35b0 : decide ((rd x13_5 x15_6) ≤ (rd x13_5 x16_6)) = true := decide_eq_true c35
                          clear c35
                          have H' := Zac.mk H
                          clear H
                          obtain ⟨Ao36, co36, eo36⟩ := Kd.R_slice HO_13.out
                          subst eo36
                          have p598 : 0 ≤ (x16_6 : Int) := of_decide_eq_true (by first | (with_reducible assumption) | assumption)
                          have q598 : x16_6 < (x13_5.length : Int) := of_decide_eq_true (by first | (with_reducible assumption) | assumption)
                          obtain ⟨ad598, e598, hx598_0⟩ := Kd.at_int (Kd.R_reads' HO_13.out).2.2 x16_6 p598 q598
                          cases e598
                          replace p598 := eq_true p598
                          replace q598 := eq_true q598
                          have p599 : 0 ≤ (x16_6 : Int) := of_decide_eq_true (by first | (with_reducible assumption) | assumption)
                          have q599 : x16_6 < (x13_5.length : Int) := of_decide_eq_true (by first | (with_reducible assumption) | assumption)
                          obtain ⟨ad599, e599, hx599_0⟩ := Kd.at_int (Kd.R_reads' HO_13.out).2.2 x16_6 p599 q599
                          obtain rfl : ad598 = ad599 := (by injection e599)
                          replace p599 := eq_true p599
                          replace q599 := eq_true q599
                          have p600 : 0 ≤ (x15_6 : Int) := of_decide_eq_true (by first | (with_reducible assumption) | assumption)
                          have q600 : x15_6 < (x13_5.length : Int) := of_decide_eq_true (by first | (with_reducible assumption) | assumption)
                          obtain ⟨ad600, e600, hx600_0⟩ := Kd.at_int (Kd.R_reads' HO_13.out).2.2 x15_6 p600 q600
                          obtain rfl : ad598 = ad600 := (by injection e600)
                          replace p600 := eq_true p600
                          replace q600 := eq_true q600
                          as_aux_lemma =>
                           go_wp2
                           repeat (go_quiet (fail); try go_wp2)
                           go_roundg k6
                           case measure => have := HJ2.out; have := HK2.out; have := HK3.out; have := HK4.out; have := HK5.out; have := HK6.out; omega
                           case rel => exact ⟨(x16_6), (wrap64 (x16_6 + 1)), (by first | rfl | (simp; done) | (simp [*]; done) | (simp [IntWalk.i64_left, *]; done)), (by first | rfl | (simp; done) | (simp [*]; done) | (simp [IntWalk.i64_left, *]; done)), H', ⟨by have := HJ2.out; have := HK2.out; have := HK3.out; have := HK4.out; have := HK5.out; have := HK6.out; omega⟩, ⟨by (try simp only [hl12_5]); (with_reducible repeat (first | apply Kd.R_alloc | apply Kd.R_drewN | apply Kd.R_drew)); exact HO_12.out⟩, ⟨by (try simp only [hl12_5]); (with_reducible repeat (first | apply Kd.R_alloc | apply Kd.R_drewN | apply Kd.R_drew)); exact HO_13.out⟩, ⟨by repeat (first | (with_reducible first | exact HB.out | apply Zae | apply Zab | apply Zad) | exact HB.out)⟩⟩
                         ·rw [if_neg c35] at H
                          have c35b0 : decide ((rd x13_5 x15_6) ≤ (rd x13_5 x16_6)) = false := decide_eq_false c35
                          clear c35
                          have H' := Zac.mk H
                          clear H
                          obtain ⟨Ao37, co37, eo37⟩ := Kd.R_slice HO_13.out
                          subst eo37
                          have p598 : 0 ≤ (x16_6 : Int) := of_decide_eq_true (by first | (with_reducible assumption) | assumption)
                          have q598 : x16_6 < (x13_5.length : Int) := of_decide_eq_true (by first | (with_reducible assumption) | assumption)
                          obtain ⟨ad598, e598, hx598_0⟩ := Kd.at_int (Kd.R_reads' HO_13.out).2.2 x16_6 p598 q598
                          cases e598
                          replace p598 := eq_true p598
                          replace q598 := eq_true q598
                          have p599 : 0 ≤ (x16_6 : Int) := of_decide_eq_true (by first | (with_reducible assumption) | assumption)
                          have q599 : x16_6 < (x13_5.length : Int) := of_decide_eq_true (by first | (with_reducible assumption) | assumption)
                          obtain ⟨ad599, e599, hx599_0⟩ := Kd.at_int (Kd.R_reads' HO_13.out).2.2 x16_6 p599 q599
                          obtain rfl : ad598 = ad599 := (by injection e599)
                          replace p599 := eq_true p599
                          replace q599 := eq_true q599
                          have p600 : 0 ≤ (x15_6 : Int) := of_decide_eq_true (by first | (with_reducible assumption) | assumption)
                          have q600 : x15_6 < (x13_5.length : Int) := of_decide_eq_true (by first | (with_reducible assumption) | assumption)
                          obtain ⟨ad600, e600, hx600_0⟩ := Kd.at_int (Kd.R_reads' HO_13.out).2.2 x15_6 p600 q600
                          obtain rfl : ad598 = ad600 := (by injection e600)
                          replace p600 := eq_true p600
                          replace q600 := eq_true q600
                          as_aux_lemma =>
                           go_wp2
                           repeat (go_quiet (fail); try go_wp2)
                           go_roundg k6
                           case measure => have := HJ2.out; have := HK2.out; have := HK3.out; have := HK4.out; have := HK5.out; have := HK6.out; omega
                           case rel => exact ⟨(x15_6), (wrap64 (x16_6 + 1)), (by first | rfl | (simp; done) | (simp [*]; done) | (simp [IntWalk.i64_left, *]; done)), (by first | rfl | (simp; done) | (simp [*]; done) | (simp [IntWalk.i64_left, *]; done)), H', ⟨by have := HJ2.out; have := HK2.out; have := HK3.out; have := HK4.out; have := HK5.out; have := HK6.out; omega⟩, ⟨by (try simp only [hl12_5]); (with_reducible repeat (first | apply Kd.R_alloc | apply Kd.R_drewN | apply Kd.R_drew)); exact HO_12.out⟩, ⟨by (try simp only [hl12_5]); (with_reducible repeat (first | apply Kd.R_alloc | apply Kd.R_drewN | apply Kd.R_drew)); exact HO_13.out⟩, ⟨by repeat (first | (with_reducible first | exact HB.out | apply Zae | apply Zab | apply Zad) | exact HB.out)⟩⟩
                        ·rw [if_neg c34] at H
                         exact absurd H (by simp)
                       ·rw [if_neg c33] at H
                        exact absurd H (by simp)
                     ·rw [if_neg c30] at H
                      have c30b0 : decide (0 < (rd x13_5 x16_6)) = false := decide_eq_false c30
                      clear c30
                      have H' := Zac.mk H
                      clear H
                      obtain ⟨Ao38, co38, eo38⟩ := Kd.R_slice HO_13.out
                      subst eo38
                      have p598 : 0 ≤ (x16_6 : Int) := of_decide_eq_true (by first | (with_reducible assumption) | assumption)
                      have q598 : x16_6 < (x13_5.length : Int) := of_decide_eq_true (by first | (with_reducible assumption) | assumption)
                      obtain ⟨ad598, e598, hx598_0⟩ := Kd.at_int (Kd.R_reads' HO_13.out).2.2 x16_6 p598 q598
                      cases e598
                      replace p598 := eq_true p598
                      replace q598 := eq_true q598
                      as_aux_lemma =>
                       go_wp2
                       repeat (go_quiet (fail); try go_wp2)
                       go_roundg k6
                       case measure => have := HJ2.out; have := HK2.out; have := HK3.out; have := HK4.out; have := HK5.out; have := HK6.out; omega
                       case rel => exact ⟨(x15_6), (wrap64 (x16_6 + 1)), (by first | rfl | (simp; done) | (simp [*]; done) | (simp [IntWalk.i64_left, *]; done)), (by first | rfl | (simp; done) | (simp [*]; done) | (simp [IntWalk.i64_left, *]; done)), H', ⟨by have := HJ2.out; have := HK2.out; have := HK3.out; have := HK4.out; have := HK5.out; have := HK6.out; omega⟩, ⟨by (try simp only [hl12_5]); (with_reducible repeat (first | apply Kd.R_alloc | apply Kd.R_drewN | apply Kd.R_drew)); exact HO_12.out⟩, ⟨by (try simp only [hl12_5]); (with_reducible repeat (first | apply Kd.R_alloc | apply Kd.R_drewN | apply Kd.R_drew)); exact HO_13.out⟩, ⟨by repeat (first | (with_reducible first | exact HB.out | apply Zae | apply Zab | apply Zad) | exact HB.out)⟩⟩
                    ·rw [if_neg c29] at H
                     exact absurd H (by simp)
                   ·rw [if_neg c28] at H
                    have c28b0 : decide (x16_6 < (x13_5.length : Int)) = false := decide_eq_false c28
                    have c28z0 := c28b0
                    (try simp only [hl12_5] at c28z0)
                    clear c28
                    by_cases c39 : 0 ≤ x15_6
                    ·rw [if_pos c39] at H
                     have c39b0 : decide (0 ≤ x15_6) = true := decide_eq_true c39
                     clear c39
                     by_cases c40 : x15_6 < (x12_5.length : Int)
                     ·rw [if_pos c40] at H
                      have c40b0 : decide (x15_6 < (x12_5.length : Int)) = true := decide_eq_true c40
                      clear c40
                      obtain ⟨y602, hy602⟩ : ∃ y_ : List Int, y_ = (x12_5.set (x15_6 : Int).toNat (wrap64 ((rd x12_5 x15_6) + 1))) := ⟨_, rfl⟩
                      replace H : (if x15_6 < (x13_5.length : Int) then (Zan.l3 k6 y602 (x13_5.set (x15_6 : Int).toNat 0) (wrap64 (x14_5 - 1))) else (none)) = some (r1, r2) := by first | (rw [hy602]; with_reducible exact H) | (have H2_ := (Option.bind_some _ _).symm.trans H; rw [hy602]; with_reducible exact H2_) | (have H2_ := (Option.bind_some _ _).symm.trans H; with_reducible exact H2_) | with_reducible exact H | (rw [hy602]; exact H) | exact H
                      have Ny602 := Zac.mk hy602
                      clear hy602
                      by_cases c42 : x15_6 < (x13_5.length : Int)
                      ·rw [if_pos c42] at H
                       have c42b0 : decide (x15_6 < (x13_5.length : Int)) = true := decide_eq_true c42
                       clear c42
                       obtain ⟨y603, hy603⟩ : ∃ y_ : List Int, y_ = (x13_5.set (x15_6 : Int).toNat 0) := ⟨_, rfl⟩
                       replace H : (Zan.l3 k6 y602 y603 (wrap64 (x14_5 - 1))) = some (r1, r2) := by first | (rw [hy603]; with_reducible exact H) | (have H2_ := (Option.bind_some _ _).symm.trans H; rw [hy603]; with_reducible exact H2_) | (have H2_ := (Option.bind_some _ _).symm.trans H; with_reducible exact H2_) | with_reducible exact H | (rw [hy603]; exact H) | exact H
                       have Ny603 := Zac.mk hy603
                       clear hy603
                       have H' := Zac.mk H
                       clear H
                       obtain ⟨Ao44, co44, eo44⟩ := Kd.R_slice HO_13.out
                       subst eo44
                       have p601 : 0 ≤ (x15_6 : Int) := of_decide_eq_true (by first | (with_reducible assumption) | assumption)
                       have q601 : x15_6 < (x12_5.length : Int) := of_decide_eq_true (by first | (with_reducible assumption) | assumption)
                       obtain ⟨ad601, e601, hx601_0⟩ := Kd.at_int (Kd.R_reads' HO_12.out).2.2 x15_6 p601 q601
                       cases e601
                       replace p601 := eq_true p601
                       replace q601 := eq_true q601
                       have p41 : 0 ≤ (x15_6 : Int) := of_decide_eq_true (by first | (with_reducible assumption) | assumption)
                       have q41 : (x15_6 : Int) < ((x12_5.length : Int) : Int) := of_decide_eq_true (by first | (with_reducible assumption) | assumption)
                       obtain ⟨go41, co41, eo41, gb41, gl41, cl41, HG41⟩ := Kd.R_form HO_12.out (by omega)
                       (first | cases eo41 | (injection eo41 with ea_ en_ ec_; (first | subst ea_ | (injection ea_ with ea_; subst ea_)); subst ec_; clear en_))
                       have GB41 := Zac.mk gb41
                       have GG41 := Zac.mk HG41
                       clear gb41 gl41 HG41
                       (first | simp only [add_plain] at hx601_0 | skip)
                       obtain ⟨hx41_0, hf41_0⟩ := Kd.R_celln 0 HO_12.out (x15_6 : Int) p41 q41
                       replace p41 := eq_true p41
                       replace q41 := eq_true q41
                       have HP45 := Kd.R_putg HO_12.out (x15_6 : Int) (wrap64 ((rd x12_5 x15_6) + 1))
                       as_aux_lemma =>
                        go_wp2_with (first | ((with_reducible refine gate_store (t := 2) (p := 115) rfl ?_); (try (rw [drewN_self wr]; generalize hq_ : World.drewN wr _ = wr; have n0_ := Zac.mk (Kd.R_at hq_ HO_12.out); have n1_ := Zac.mk (Kd.R_at hq_ HO_13.out); have n2_ := Zac.mk (below_at hq_ HB.out); clear hq_ HO_12 HO_13 HB; have HO_12 := n0_; have HO_13 := n1_; have HB := n2_; clear n0_ n1_ n2_; (try (have HP45 := Kd.R_putg HO_12.out (x15_6 : Int) (wrap64 ((rd x12_5 x15_6) + 1)))))); refine store_event (t := 2) (p := 115) (v := ?vo_w46) (w1 := (wr.setCell ⟨go41, (x15_6 : Int).toNat, none⟩ (.int .i64 (wrap64 ((rd x12_5 x15_6) + 1))))) ?hg ?ho ?hn ?hr ?_; (case ho => rfl); (case hg => rfl); (case hn => rfl); (case hr => first | (go_simp; done) | (go_simp; rfl)); intro w46 hw; have hg : wr.grownBy w46 (some go41) := (by rw [hw]; exact HP45.2); have hp_ : Kd.R (Kd.int .i64) 2 w46 w.heap.size (fun k_ => some k_ ≠ (.slice Ao44 x13_5.length co44 : Value).ownBlock) (.slice (some ⟨go41, 0, none⟩) x12_5.length co26) y602 := (by rw [hw, Ny602.out]; exact HP45.1); clear HP45; have n0_ := Zac.mk (hp_); have n1_ := Zac.mk (Kd.R_after (v := (.slice (some ⟨go41, 0, none⟩) x12_5.length co26)) (v1 := (.slice (some ⟨go41, 0, none⟩) x12_5.length co26)) (ok := (fun _ => True)) (by (with_reducible repeat (first | apply Kd.R_alloc | apply Kd.R_drewN | apply Kd.R_drew)); exact Kd.R_mono HO_13.out (fun _ hk => ⟨trivial, hk⟩)) hg (.inl rfl)); have n2_ := Zac.mk ((by rw [hw]; exact Zag (HB.out) GB41.out : Below w.heap.size w w46)); clear HO_12; clear HO_13; clear HB; have HO_12 := n0_; have HO_13 := n1_; have HB := n2_; clear n0_ n1_ n2_; clear hg hw hp_; have p43 : 0 ≤ (x15_6 : Int) := of_decide_eq_true (by first | (with_reducible assumption) | assumption); have q43 : (x15_6 : Int) < ((x13_5.length : Int) : Int) := of_decide_eq_true (by first | (with_reducible assumption) | assumption); obtain ⟨go43, co43, eo43, gb43, gl43, cl43, HG43⟩ := Kd.R_form HO_13.out (by omega); (first | cases eo43 | (injection eo43 with ea_ en_ ec_; (first | subst ea_ | (injection ea_ with ea_; subst ea_)); subst ec_; clear en_)); have GB43 := Zac.mk gb43; have GG43 := Zac.mk HG43; clear gb43 gl43 HG43; obtain ⟨hx43_0, hf43_0⟩ := Kd.R_celln 0 HO_13.out (x15_6 : Int) p43 q43; replace p43 := eq_true p43; replace q43 := eq_true q43; have n_ := Zac.mk (Kd.R_mono (ok' := (fun k_ => some k_ ≠ (.slice (some ⟨go41, 0, none⟩) x12_5.length co26 : Value).ownBlock)) HO_13.out (fun k_ hk => hk.2)); clear HO_13; have HO_13 := n_; clear n_; obtain ⟨hy47_, hz47_⟩ := Kd.R_celln 0 HO_13.out (x15_6 : Int) (of_decide_eq_true (by first | (with_reducible assumption) | assumption)) (of_decide_eq_true (by first | (with_reducible assumption) | assumption)); have HP47 := Kd.R_putg HO_13.out (x15_6 : Int) 0) | ((with_reducible refine gate_store (t := 2) (p := 118) rfl ?_); (try (rw [drewN_self w46]; generalize hq_ : World.drewN w46 _ = w46; have n0_ := Zac.mk (Kd.R_at hq_ HO_12.out); have n1_ := Zac.mk (Kd.R_at hq_ HO_13.out); have n2_ := Zac.mk (below_at hq_ HB.out); clear hq_ HO_12 HO_13 HB; have HO_12 := n0_; have HO_13 := n1_; have HB := n2_; clear n0_ n1_ n2_; (try (have n_ := Zac.mk (Kd.R_mono (ok' := (fun k_ => some k_ ≠ (.slice (some ⟨go41, 0, none⟩) x12_5.length co26 : Value).ownBlock)) HO_13.out (fun k_ hk => hk.2)); clear HO_13; have HO_13 := n_; clear n_)); (try (obtain ⟨hy47_, hz47_⟩ := Kd.R_celln 0 HO_13.out (x15_6 : Int) (of_decide_eq_true (by first | (with_reducible assumption) | assumption)) (of_decide_eq_true (by first | (with_reducible assumption) | assumption)))); (try (have HP47 := Kd.R_putg HO_13.out (x15_6 : Int) 0)))); refine store_event (t := 2) (p := 118) (v := ?vo_w48) (w1 := (w46.setCell ⟨go43, (x15_6 : Int).toNat, none⟩ (.int .i64 0))) ?hg ?ho ?hn ?hr ?_; (case ho => rfl); (case hg => rfl); (case hn => rfl); (case hr => first | (go_simp; done) | (go_simp; rfl)); intro w48 hw; have hg : w46.grownBy w48 (some go43) := (by rw [hw]; exact HP47.2); have hp_ : Kd.R (Kd.int .i64) 2 w48 w.heap.size (fun k_ => some k_ ≠ (.slice (some ⟨go41, 0, none⟩) x12_5.length co26 : Value).ownBlock) (.slice (some ⟨go43, 0, none⟩) x13_5.length co44) y603 := (by rw [hw, Ny603.out]; exact HP47.1); clear HP47; have n0_ := Zac.mk (Kd.R_after (v := (.slice (some ⟨go43, 0, none⟩) x13_5.length co44)) (v1 := (.slice (some ⟨go43, 0, none⟩) x13_5.length co44)) (ok := (fun _ => True)) (by (with_reducible repeat (first | apply Kd.R_alloc | apply Kd.R_drewN | apply Kd.R_drew)); exact Kd.R_mono HO_12.out (fun _ hk => ⟨trivial, hk⟩)) hg (.inl rfl)); have n1_ := Zac.mk (hp_); have n2_ := Zac.mk ((by rw [hw]; exact Zag (HB.out) GB43.out : Below w.heap.size w w48)); clear HO_12; clear HO_13; clear HB; have HO_12 := n0_; have HO_13 := n1_; have HB := n2_; clear n0_ n1_ n2_; clear hg hw hp_))
                        repeat (go_quiet (first | ((with_reducible refine gate_store (t := 2) (p := 115) rfl ?_); (try (rw [drewN_self wr]; generalize hq_ : World.drewN wr _ = wr; have n0_ := Zac.mk (Kd.R_at hq_ HO_12.out); have n1_ := Zac.mk (Kd.R_at hq_ HO_13.out); have n2_ := Zac.mk (below_at hq_ HB.out); clear hq_ HO_12 HO_13 HB; have HO_12 := n0_; have HO_13 := n1_; have HB := n2_; clear n0_ n1_ n2_; (try (have HP45 := Kd.R_putg HO_12.out (x15_6 : Int) (wrap64 ((rd x12_5 x15_6) + 1)))))); refine store_event (t := 2) (p := 115) (v := ?vo_w46) (w1 := (wr.setCell ⟨go41, (x15_6 : Int).toNat, none⟩ (.int .i64 (wrap64 ((rd x12_5 x15_6) + 1))))) ?hg ?ho ?hn ?hr ?_; (case ho => rfl); (case hg => rfl); (case hn => rfl); (case hr => first | (go_simp; done) | (go_simp; rfl)); intro w46 hw; have hg : wr.grownBy w46 (some go41) := (by rw [hw]; exact HP45.2); have hp_ : Kd.R (Kd.int .i64) 2 w46 w.heap.size (fun k_ => some k_ ≠ (.slice Ao44 x13_5.length co44 : Value).ownBlock) (.slice (some ⟨go41, 0, none⟩) x12_5.length co26) y602 := (by rw [hw, Ny602.out]; exact HP45.1); clear HP45; have n0_ := Zac.mk (hp_); have n1_ := Zac.mk (Kd.R_after (v := (.slice (some ⟨go41, 0, none⟩) x12_5.length co26)) (v1 := (.slice (some ⟨go41, 0, none⟩) x12_5.length co26)) (ok := (fun _ => True)) (by (with_reducible repeat (first | apply Kd.R_alloc | apply Kd.R_drewN | apply Kd.R_drew)); exact Kd.R_mono HO_13.out (fun _ hk => ⟨trivial, hk⟩)) hg (.inl rfl)); have n2_ := Zac.mk ((by rw [hw]; exact Zag (HB.out) GB41.out : Below w.heap.size w w46)); clear HO_12; clear HO_13; clear HB; have HO_12 := n0_; have HO_13 := n1_; have HB := n2_; clear n0_ n1_ n2_; clear hg hw hp_; have p43 : 0 ≤ (x15_6 : Int) := of_decide_eq_true (by first | (with_reducible assumption) | assumption); have q43 : (x15_6 : Int) < ((x13_5.length : Int) : Int) := of_decide_eq_true (by first | (with_reducible assumption) | assumption); obtain ⟨go43, co43, eo43, gb43, gl43, cl43, HG43⟩ := Kd.R_form HO_13.out (by omega); (first | cases eo43 | (injection eo43 with ea_ en_ ec_; (first | subst ea_ | (injection ea_ with ea_; subst ea_)); subst ec_; clear en_)); have GB43 := Zac.mk gb43; have GG43 := Zac.mk HG43; clear gb43 gl43 HG43; obtain ⟨hx43_0, hf43_0⟩ := Kd.R_celln 0 HO_13.out (x15_6 : Int) p43 q43; replace p43 := eq_true p43; replace q43 := eq_true q43; have n_ := Zac.mk (Kd.R_mono (ok' := (fun k_ => some k_ ≠ (.slice (some ⟨go41, 0, none⟩) x12_5.length co26 : Value).ownBlock)) HO_13.out (fun k_ hk => hk.2)); clear HO_13; have HO_13 := n_; clear n_; obtain ⟨hy47_, hz47_⟩ := Kd.R_celln 0 HO_13.out (x15_6 : Int) (of_decide_eq_true (by first | (with_reducible assumption) | assumption)) (of_decide_eq_true (by first | (with_reducible assumption) | assumption)); have HP47 := Kd.R_putg HO_13.out (x15_6 : Int) 0) | ((with_reducible refine gate_store (t := 2) (p := 118) rfl ?_); (try (rw [drewN_self w46]; generalize hq_ : World.drewN w46 _ = w46; have n0_ := Zac.mk (Kd.R_at hq_ HO_12.out); have n1_ := Zac.mk (Kd.R_at hq_ HO_13.out); have n2_ := Zac.mk (below_at hq_ HB.out); clear hq_ HO_12 HO_13 HB; have HO_12 := n0_; have HO_13 := n1_; have HB := n2_; clear n0_ n1_ n2_; (try (have n_ := Zac.mk (Kd.R_mono (ok' := (fun k_ => some k_ ≠ (.slice (some ⟨go41, 0, none⟩) x12_5.length co26 : Value).ownBlock)) HO_13.out (fun k_ hk => hk.2)); clear HO_13; have HO_13 := n_; clear n_)); (try (obtain ⟨hy47_, hz47_⟩ := Kd.R_celln 0 HO_13.out (x15_6 : Int) (of_decide_eq_true (by first | (with_reducible assumption) | assumption)) (of_decide_eq_true (by first | (with_reducible assumption) | assumption)))); (try (have HP47 := Kd.R_putg HO_13.out (x15_6 : Int) 0)))); refine store_event (t := 2) (p := 118) (v := ?vo_w48) (w1 := (w46.setCell ⟨go43, (x15_6 : Int).toNat, none⟩ (.int .i64 0))) ?hg ?ho ?hn ?hr ?_; (case ho => rfl); (case hg => rfl); (case hn => rfl); (case hr => first | (go_simp; done) | (go_simp; rfl)); intro w48 hw; have hg : w46.grownBy w48 (some go43) := (by rw [hw]; exact HP47.2); have hp_ : Kd.R (Kd.int .i64) 2 w48 w.heap.size (fun k_ => some k_ ≠ (.slice (some ⟨go41, 0, none⟩) x12_5.length co26 : Value).ownBlock) (.slice (some ⟨go43, 0, none⟩) x13_5.length co44) y603 := (by rw [hw, Ny603.out]; exact HP47.1); clear HP47; have n0_ := Zac.mk (Kd.R_after (v := (.slice (some ⟨go43, 0, none⟩) x13_5.length co44)) (v1 := (.slice (some ⟨go43, 0, none⟩) x13_5.length co44)) (ok := (fun _ => True)) (by (with_reducible repeat (first | apply Kd.R_alloc | apply Kd.R_drewN | apply Kd.R_drew)); exact Kd.R_mono HO_12.out (fun _ hk => ⟨trivial, hk⟩)) hg (.inl rfl)); have n1_ := Zac.mk (hp_); have n2_ := Zac.mk ((by rw [hw]; exact Zag (HB.out) GB43.out : Below w.heap.size w w48)); clear HO_12; clear HO_13; clear HB; have HO_12 := n0_; have HO_13 := n1_; have HB := n2_; clear n0_ n1_ n2_; clear hg hw hp_)); try go_wp2_with (first | ((with_reducible refine gate_store (t := 2) (p := 115) rfl ?_); (try (rw [drewN_self wr]; generalize hq_ : World.drewN wr _ = wr; have n0_ := Zac.mk (Kd.R_at hq_ HO_12.out); have n1_ := Zac.mk (Kd.R_at hq_ HO_13.out); have n2_ := Zac.mk (below_at hq_ HB.out); clear hq_ HO_12 HO_13 HB; have HO_12 := n0_; have HO_13 := n1_; have HB := n2_; clear n0_ n1_ n2_; (try (have HP45 := Kd.R_putg HO_12.out (x15_6 : Int) (wrap64 ((rd x12_5 x15_6) + 1)))))); refine store_event (t := 2) (p := 115) (v := ?vo_w46) (w1 := (wr.setCell ⟨go41, (x15_6 : Int).toNat, none⟩ (.int .i64 (wrap64 ((rd x12_5 x15_6) + 1))))) ?hg ?ho ?hn ?hr ?_; (case ho => rfl); (case hg => rfl); (case hn => rfl); (case hr => first | (go_simp; done) | (go_simp; rfl)); intro w46 hw; have hg : wr.grownBy w46 (some go41) := (by rw [hw]; exact HP45.2); have hp_ : Kd.R (Kd.int .i64) 2 w46 w.heap.size (fun k_ => some k_ ≠ (.slice Ao44 x13_5.length co44 : Value).ownBlock) (.slice (some ⟨go41, 0, none⟩) x12_5.length co26) y602 := (by rw [hw, Ny602.out]; exact HP45.1); clear HP45; have n0_ := Zac.mk (hp_); have n1_ := Zac.mk (Kd.R_after (v := (.slice (some ⟨go41, 0, none⟩) x12_5.length co26)) (v1 := (.slice (some ⟨go41, 0, none⟩) x12_5.length co26)) (ok := (fun _ => True)) (by (with_reducible repeat (first | apply Kd.R_alloc | apply Kd.R_drewN | apply Kd.R_drew)); exact Kd.R_mono HO_13.out (fun _ hk => ⟨trivial, hk⟩)) hg (.inl rfl)); have n2_ := Zac.mk ((by rw [hw]; exact Zag (HB.out) GB41.out : Below w.heap.size w w46)); clear HO_12; clear HO_13; clear HB; have HO_12 := n0_; have HO_13 := n1_; have HB := n2_; clear n0_ n1_ n2_; clear hg hw hp_; have p43 : 0 ≤ (x15_6 : Int) := of_decide_eq_true (by first | (with_reducible assumption) | assumption); have q43 : (x15_6 : Int) < ((x13_5.length : Int) : Int) := of_decide_eq_true (by first | (with_reducible assumption) | assumption); obtain ⟨go43, co43, eo43, gb43, gl43, cl43, HG43⟩ := Kd.R_form HO_13.out (by omega); (first | cases eo43 | (injection eo43 with ea_ en_ ec_; (first | subst ea_ | (injection ea_ with ea_; subst ea_)); subst ec_; clear en_)); have GB43 := Zac.mk gb43; have GG43 := Zac.mk HG43; clear gb43 gl43 HG43; obtain ⟨hx43_0, hf43_0⟩ := Kd.R_celln 0 HO_13.out (x15_6 : Int) p43 q43; replace p43 := eq_true p43; replace q43 := eq_true q43; have n_ := Zac.mk (Kd.R_mono (ok' := (fun k_ => some k_ ≠ (.slice (some ⟨go41, 0, none⟩) x12_5.length co26 : Value).ownBlock)) HO_13.out (fun k_ hk => hk.2)); clear HO_13; have HO_13 := n_; clear n_; obtain ⟨hy47_, hz47_⟩ := Kd.R_celln 0 HO_13.out (x15_6 : Int) (of_decide_eq_true (by first | (with_reducible assumption) | assumption)) (of_decide_eq_true (by first | (with_reducible assumption) | assumption)); have HP47 := Kd.R_putg HO_13.out (x15_6 : Int) 0) | ((with_reducible refine gate_store (t := 2) (p := 118) rfl ?_); (try (rw [drewN_self w46]; generalize hq_ : World.drewN w46 _ = w46; have n0_ := Zac.mk (Kd.R_at hq_ HO_12.out); have n1_ := Zac.mk (Kd.R_at hq_ HO_13.out); have n2_ := Zac.mk (below_at hq_ HB.out); clear hq_ HO_12 HO_13 HB; have HO_12 := n0_; have HO_13 := n1_; have HB := n2_; clear n0_ n1_ n2_; (try (have n_ := Zac.mk (Kd.R_mono (ok' := (fun k_ => some k_ ≠ (.slice (some ⟨go41, 0, none⟩) x12_5.length co26 : Value).ownBlock)) HO_13.out (fun k_ hk => hk.2)); clear HO_13; have HO_13 := n_; clear n_)); (try (obtain ⟨hy47_, hz47_⟩ := Kd.R_celln 0 HO_13.out (x15_6 : Int) (of_decide_eq_true (by first | (with_reducible assumption) | assumption)) (of_decide_eq_true (by first | (with_reducible assumption) | assumption)))); (try (have HP47 := Kd.R_putg HO_13.out (x15_6 : Int) 0)))); refine store_event (t := 2) (p := 118) (v := ?vo_w48) (w1 := (w46.setCell ⟨go43, (x15_6 : Int).toNat, none⟩ (.int .i64 0))) ?hg ?ho ?hn ?hr ?_; (case ho => rfl); (case hg => rfl); (case hn => rfl); (case hr => first | (go_simp; done) | (go_simp; rfl)); intro w48 hw; have hg : w46.grownBy w48 (some go43) := (by rw [hw]; exact HP47.2); have hp_ : Kd.R (Kd.int .i64) 2 w48 w.heap.size (fun k_ => some k_ ≠ (.slice (some ⟨go41, 0, none⟩) x12_5.length co26 : Value).ownBlock) (.slice (some ⟨go43, 0, none⟩) x13_5.length co44) y603 := (by rw [hw, Ny603.out]; exact HP47.1); clear HP47; have n0_ := Zac.mk (Kd.R_after (v := (.slice (some ⟨go43, 0, none⟩) x13_5.length co44)) (v1 := (.slice (some ⟨go43, 0, none⟩) x13_5.length co44)) (ok := (fun _ => True)) (by (with_reducible repeat (first | apply Kd.R_alloc | apply Kd.R_drewN | apply Kd.R_drew)); exact Kd.R_mono HO_12.out (fun _ hk => ⟨trivial, hk⟩)) hg (.inl rfl)); have n1_ := Zac.mk (hp_); have n2_ := Zac.mk ((by rw [hw]; exact Zag (HB.out) GB43.out : Below w.heap.size w w48)); clear HO_12; clear HO_13; clear HB; have HO_12 := n0_; have HO_13 := n1_; have HB := n2_; clear n0_ n1_ n2_; clear hg hw hp_)))
                        (try simp only [← hl12_5])
                        go_roundg k6
                        case measure => have := HJ2.out; have := HK2.out; have := HK3.out; have := HK4.out; have := HK5.out; have := HK6.out; omega
                        case rel => exact ⟨(y602), (y603), (wrap64 (x14_5 - 1)), (by first | rfl | (simp; done) | (simp [*]; done) | (simp [IntWalk.i64_left, *]; done)), H', ⟨by have := HJ2.out; have := HK2.out; have := HK3.out; have := HK4.out; have := HK5.out; have := HK6.out; omega⟩, ⟨by (try simp only [hl12_5]); (with_reducible repeat (first | apply Kd.R_alloc | apply Kd.R_drewN | apply Kd.R_drew)); exact Kd.R_mono HO_12.out (fun _ hk => hk.2)⟩, ⟨by (try simp only [hl12_5]); (with_reducible repeat (first | apply Kd.R_alloc | apply Kd.R_drewN | apply Kd.R_drew)); exact HO_13.out⟩, ⟨by repeat (first | (with_reducible first | exact HB.out | apply Zae | apply Zab | apply Zad) | exact HB.out)⟩⟩
                      ·rw [if_neg c42] at H
                       exact absurd H (by simp)
                     ·rw [if_neg c40] at H
                      exact absurd H (by simp)
                    ·rw [if_neg c39] at H
                     exact absurd H (by simp)
                ·rw [if_neg c27] at H
                 have c27b0 : decide (0 < x14_5) = false := decide_eq_false c27
                 clear c27
                 simp only [Option.some.injEq, Prod.mk.injEq] at H
                 obtain ⟨rfl, rfl⟩ := H
                 as_aux_lemma =>
                  go_wp2
                  repeat (go_quiet (fail); try go_wp2)
                  go_ret2
                  exact ⟨_, by first | rfl | (simp [Zat, Zau] <;> rfl) | (simp [*, Zat, Zau] <;> rfl), by (with_reducible repeat (first | apply Kd.R_alloc | apply Kd.R_drewN | apply Kd.R_drew)); exact Kd.R_mono HO_12.out (fun _ hk => trivial), by repeat (first | (with_reducible first | exact HB.out | apply Zae | apply Zab | apply Zad) | exact HB.out)⟩
end Go.Proofs.Ytgmmfdilfpkbmaa.P
