import Derived.Test.YtgmmfdilfpkbmaaXP0FnExactBestRounding
namespace Go.Proofs.Ytgmmfdilfpkbmaa.P
open Go.RowKit Go.Proofs.YtgmmfdilfpkbmaaW.PrintWords Go.Proofs.YtgmmfdilfpkbmaaW.PrintLast Go.Proofs.YtgmmfdilfpkbmaaW.PrintMore
attribute [local go_sem] max2_int min2_int max_two min_two max_three min_three max_four min_four
set_option linter.unusedVariables false
set_option linter.unusedSimpArgs false
mutual
def Zax.l0 : Nat → List Int → Int → Int → Int → Int → Option (List Int × Int)
 | 0, _, _, _, _, _ => none
 | k + 1, x0, x1, x2, x3, x10 => if x10 ≤ x1 then (Zax.l1 k x0 x1 x2 x3 x10 (([] : List Int)) 0 0 0) else (some ((([] : List Int)), 0))
def Zax.l1 : Nat → List Int → Int → Int → Int → Int → List Int → Int → Int → Int → Option (List Int × Int)
 | 0, _, _, _, _, _, _, _, _, _ => none
 | k + 1, x0, x1, x2, x3, x10, x11, x12, x13, x14 => if x14 < (x0.length : Int) then (if x3 = 2 then (if 0 ≤ x14 then (if (rd x0 x14) > x10 then (if (wrap64 (x1 - (rd x0 x14))) > x10 then (Zax.j2 k x0 x1 x2 x3 x10 x11 (wrap64 (x2 + 1)) x13 x14 1) else (Zax.j2 k x0 x1 x2 x3 x10 x11 x12 x13 x14 1)) else (if (wrap64 (x1 - (rd x0 x14))) > x10 then (Zax.j2 k x0 x1 x2 x3 x10 x11 x12 x13 x14 (-1)) else (Zax.j2 k x0 x1 x2 x3 x10 x11 x12 x13 x14 0))) else (none)) else (if 0 ≤ x14 then (if (rd x0 x14) > (wrap64 (x1 - x10)) then (Zax.j2 k x0 x1 x2 x3 x10 x11 x12 x13 x14 1) else (if (rd x0 x14) < (wrap64 (x1 - x10)) then (Zax.j2 k x0 x1 x2 x3 x10 x11 x12 x13 x14 (-1)) else (Zax.j2 k x0 x1 x2 x3 x10 x11 x12 x13 x14 0))) else (none))) else (if x12 ≤ x2 then (if x2 ≤ (wrap64 (x12 + x13)) then (some (x11, wrap64 (x2 - x12))) else (Zax.l0 k x0 x1 x2 x3 (wrap64 (x10 + 1)))) else (Zax.l0 k x0 x1 x2 x3 (wrap64 (x10 + 1))))
def Zax.j2 : Nat → List Int → Int → Int → Int → Int → List Int → Int → Int → Int → Int → Option (List Int × Int)
 | 0, _, _, _, _, _, _, _, _, _, _ => none
 | k + 1, x0, x1, x2, x3, x10, x11, x12, x13, x14, x15 => if 0 ≤ x14 then (if x14 < (x0.length : Int) then (if (rd x0 x14) = 0 then (Zax.j3 k x0 x1 x2 x3 x10 x11 x12 x13 x14 (-1)) else (Zax.j3 k x0 x1 x2 x3 x10 x11 x12 x13 x14 x15)) else (none)) else (none)
def Zax.j3 : Nat → List Int → Int → Int → Int → Int → List Int → Int → Int → Int → Int → Option (List Int × Int)
 | 0, _, _, _, _, _, _, _, _, _, _ => none
 | k + 1, x0, x1, x2, x3, x10, x11, x12, x13, x14, x15 => if x15 = 1 then (if x15 = 0 then (if x11.length < 17592186044416 then (Zax.l1 k x0 x1 x2 x3 x10 (x11 ++ [x15]) (wrap64 (x12 + 1)) (wrap64 (x13 + 1)) (wrap64 (x14 + 1))) else (none)) else (if x11.length < 17592186044416 then (Zax.l1 k x0 x1 x2 x3 x10 (x11 ++ [x15]) (wrap64 (x12 + 1)) x13 (wrap64 (x14 + 1))) else (none))) else (if x15 = 0 then (if x11.length < 17592186044416 then (Zax.l1 k x0 x1 x2 x3 x10 (x11 ++ [x15]) x12 (wrap64 (x13 + 1)) (wrap64 (x14 + 1))) else (none)) else (if x11.length < 17592186044416 then (Zax.l1 k x0 x1 x2 x3 x10 (x11 ++ [x15]) x12 x13 (wrap64 (x14 + 1))) else (none)))
end
def Zax.f (k : Nat) (l0 : List Int) (a1 : Int) (a2 : Int) (a3 : Int) : Option (List Int × Int) := Zax.l0 k l0 a1 a2 a3 0
set_option maxHeartbeats 8000000 in
set_option maxRecDepth 100000 in
theorem Zax.calls (k : Nat) (A0 : Option Addr) (c0 : Nat) (l0 : List Int) (a1 : Int) (a2 : Int) (a3 : Int) (r1 : List Int) (r2 : Int) (w : World) (hr0 : Kd.C (Kd.int .i64) w A0 l0.length l0) (hc0 : l0.length ≤ c0) (h : Zax.f k l0 a1 a2 a3 = some (r1, r2)) :
  Calls Try.prog 93 #[.slice A0 l0.length c0, .int .i64 a1, .int .i64 a2, .int .i64 a3] w fun e w' => ∃ v0_ : Value, e = .returned (.tuple #[v0_, .int .i64 r2]) ∧ Kd.R (Kd.int .i64) 2 w' w.heap.size (fun _ => True) v0_ r1 ∧ Below w.heap.size w w' := by
 have HR0 := Zac.mk hr0
 have HC0 := Zac.mk hc0
 clear hr0 hc0
 have HB := Zac.mk (Below.refl w.heap.size w)
 have H : (Zax.l0 k l0 a1 a2 a3 0) = some (r1, r2) := h
 clear h
 have H' := Zac.mk H
 clear H
 go_enter Try.func93, Try.ntmps93
 go_wp2
 go_loopg [10] k (fun kq v10 w' => ∃ (x10_1 : Int), v10 = .int .i64 x10_1 ∧ Zac (Zax.l0 kq l0 a1 a2 a3 x10_1 = some (r1, r2)) ∧ Zac (kq ≤ k) ∧ Zac (Below w.heap.size w w'))
 case atStart => exact ⟨(0), (by first | rfl | (simp; done) | (simp [*]; done)), H', ⟨Nat.le_refl _⟩, ⟨by repeat (first | (with_reducible first | exact HB.out | apply Zae | apply Zab | apply Zad) | exact HB.out)⟩⟩
 case round =>
  clear H'
  try clear p2
  obtain ⟨x10_1, rfl, HA, HK1, HB⟩ := hrel
  cases gk with
  | zero => exact absurd HA.out (by simp [Zax.l0])
  | succ k1 =>
   have H := HA.out
   clear HA
   simp only [Zax.l0] at H
   by_cases c5 : x10_1 ≤ a1
   ·rw [if_pos c5] at H
    have c5b0 : decide (x10_1 ≤ a1) = true := decide_eq_true c5
    clear c5
    obtain ⟨y823, hy823⟩ : ∃ y_ : List Int, y_ = (([] : List Int)) := ⟨_, rfl⟩
    replace H : (Zax.l1 k1 l0 a1 a2 a3 x10_1 y823 0 0 0) = some (r1, r2) := by first | (rw [hy823]; with_reducible exact H) | (have H2_ := (Option.bind_some _ _).symm.trans H; rw [hy823]; with_reducible exact H2_) | (have H2_ := (Option.bind_some _ _).symm.trans H; with_reducible exact H2_) | with_reducible exact H | (rw [hy823]; exact H) | exact H
    have Ny823 := Zac.mk hy823
    clear hy823
    have H' := Zac.mk H
    clear H
    go_wp2_with (first | ((with_reducible refine gate_dst (N := 21) rfl ?_); refine Kd.R_lit (Kd.int .i64) _ 2 ?hg (N := 21) ?hd (xs := ([] : List Int)) (inner := []) (ok := fun _ => True) (okp := fun _ => True) ?hr ?hp (fun _ hk => hk) trivial (Below.refl _ _) (Nat.le_refl _) (by simp) ?_; (case hd => rfl); (case hg => rfl); (case hr => first | (go_simp; done) | (go_simp; rfl)); (case hp => exact (Reps.none _ _)); intro v824 w6 ho7 hb hg_ hnew_; clear hg_ hnew_; (first | rw [← Ny823.out] at ho7 | (simp only [Int.reduceToNat] at ho7; rw [← Ny823.out] at ho7)); have n0_ := Zac.mk (Kd.R_lower ho7 (Zap (by repeat (first | (with_reducible first | exact HB.out | apply Zae | apply Zab | apply Zad) | exact HB.out)))); have n1_ := Zac.mk (Zas (by repeat (first | (with_reducible first | exact HB.out | apply Zae | apply Zab | apply Zad) | exact HB.out)) hb); clear HB; have HO825 := n0_; have HB := n1_; clear n0_ n1_; clear hb ho7))
    go_loopg [11, 12, 13, 14] k1 (fun kq v11 v12 v13 v14 w' => ∃ (x11_2 : List Int) (x12_2 : Int) (x13_2 : Int) (x14_2 : Int), v12 = .int .i64 x12_2 ∧ v13 = .int .i64 x13_2 ∧ v14 = .int .i64 x14_2 ∧ Zac (Zax.l1 kq l0 a1 a2 a3 x10_1 x11_2 x12_2 x13_2 x14_2 = some (r1, r2)) ∧ Zac (kq ≤ k1) ∧ Zac (Kd.R (Kd.int .i64) 2 w' w.heap.size (fun _ => True) v11 x11_2) ∧ Zac (Below w.heap.size w w'))
    case atStart => exact ⟨(y823), (0), (0), (0), (by first | rfl | (simp; done) | (simp [*]; done)), (by first | rfl | (simp; done) | (simp [*]; done)), (by first | rfl | (simp; done) | (simp [*]; done)), H', ⟨Nat.le_refl _⟩, ⟨by (with_reducible repeat (first | apply Kd.R_alloc | apply Kd.R_drewN | apply Kd.R_drew)); exact HO825.out⟩, ⟨by repeat (first | (with_reducible first | exact HB.out | apply Zae | apply Zab | apply Zad) | exact HB.out)⟩⟩
    case round =>
     clear H'
     try clear p2
     try clear c5
     try clear c5b0
     try clear p2
     obtain ⟨x11_2, x12_2, x13_2, x14_2, rfl, rfl, rfl, HA, HK2, HO_11, HB⟩ := hrel
     cases gk with
     | zero => exact absurd HA.out (by simp [Zax.l1])
     | succ k2 =>
      have H := HA.out
      clear HA
      simp only [Zax.l1] at H
      by_cases c8 : x14_2 < (l0.length : Int)
      ·rw [if_pos c8] at H
       have c8b0 : decide (x14_2 < (l0.length : Int)) = true := decide_eq_true c8
       clear c8
       have HC9 := Zac.mk H
       clear H
       go_upto_if 29 with (fail)
       go_cut [12, 15] (fun v12 v15 wc => ∃ (kq : Nat) (x12_8 : Int) (x15_8 : Int), v12 = .int .i64 x12_8 ∧ v15 = .int .i64 x15_8 ∧ Zac (Zax.j2 kq l0 a1 a2 a3 x10_1 x11_2 x12_8 x13_2 x14_2 x15_8 = some (r1, r2)) ∧ Zac (kq ≤ k2) ∧ Zac (Kd.R (Kd.int .i64) 2 wc w.heap.size (fun _ => True) u11 x11_2) ∧ Zac (Below w.heap.size w wc))
       case first =>
        have H := HC9.out
        clear HC9
        by_cases c10 : a3 = 2
        ·rw [if_pos c10] at H
         have c10b0 : (a3 == 2) = true := beq_iff_eq.mpr c10
         have c10b1 : (a3 != 2) = false := bne_eq_false_iff_eq.mpr c10
         clear c10
         (first | rw [c10b0] | (simp only [i64_w, i32_w]; rw [c10b0]) | skip)
         by_cases c11 : 0 ≤ x14_2
         ·rw [if_pos c11] at H
          have c11b0 : decide (0 ≤ x14_2) = true := decide_eq_true c11
          clear c11
          by_cases c12 : (rd l0 x14_2) > x10_1
          ·rw [if_pos c12] at H
           have c12b0 : decide (x10_1 < (rd l0 x14_2)) = true := decide_eq_true c12
           clear c12
           by_cases c13 : (wrap64 (a1 - (rd l0 x14_2))) > x10_1
           ·rw [if_pos c13] at H
            have c13b0 : decide (x10_1 < (wrap64 (a1 - (rd l0 x14_2)))) = true := decide_eq_true c13
            clear c13
            have H' := Zac.mk H
            clear H
            have p826 : 0 ≤ (x14_2 : Int) := of_decide_eq_true (by first | (with_reducible assumption) | assumption)
            have q826 : x14_2 < (l0.length : Int) := of_decide_eq_true (by first | (with_reducible assumption) | assumption)
            obtain ⟨ad826, e826, hx826_0⟩ := Kd.at_int HR0.out x14_2 p826 q826
            cases e826
            replace hx826_0 := (HB.out.cell (World.block_lt_of_cell? w _ hx826_0)).trans hx826_0
            replace p826 := eq_true p826
            replace q826 := eq_true q826
            have p827 : 0 ≤ (x14_2 : Int) := of_decide_eq_true (by first | (with_reducible assumption) | assumption)
            have q827 : x14_2 < (l0.length : Int) := of_decide_eq_true (by first | (with_reducible assumption) | assumption)
            obtain ⟨ad827, e827, hx827_0⟩ := Kd.at_int HR0.out x14_2 p827 q827
            obtain rfl : ad826 = ad827 := (by injection e827)
            replace hx827_0 := (HB.out.cell (World.block_lt_of_cell? w _ hx827_0)).trans hx827_0
            replace p827 := eq_true p827
            replace q827 := eq_true q827
            have p828 : 0 ≤ (x14_2 : Int) := of_decide_eq_true (by first | (with_reducible assumption) | assumption)
            have q828 : x14_2 < (l0.length : Int) := of_decide_eq_true (by first | (with_reducible assumption) | assumption)
            obtain ⟨ad828, e828, hx828_0⟩ := Kd.at_int HR0.out x14_2 p828 q828
            obtain rfl : ad826 = ad828 := (by injection e828)
            replace hx828_0 := (HB.out.cell (World.block_lt_of_cell? w _ hx828_0)).trans hx828_0
            replace p828 := eq_true p828
            replace q828 := eq_true q828
            as_aux_lemma =>
             go_wp2
             go_meet
             case rel => exact ⟨_, (wrap64 (a2 + 1)), (1), (by first | rfl | (simp; done) | (simp [*]; done)), (by first | rfl | (simp; done) | (simp [*]; done)), H', ⟨by have := HK1.out; have := HK2.out; first | omega | exact Nat.le_refl _⟩, ⟨by (with_reducible repeat (first | apply Kd.R_alloc | apply Kd.R_drewN | apply Kd.R_drew)); exact HO_11.out⟩, ⟨by repeat (first | (with_reducible first | exact HB.out | apply Zae | apply Zab | apply Zad) | exact HB.out)⟩⟩
           ·rw [if_neg c13] at H
            have c13b0 : decide (x10_1 < (wrap64 (a1 - (rd l0 x14_2)))) = false := decide_eq_false c13
            clear c13
            have H' := Zac.mk H
            clear H
            have p826 : 0 ≤ (x14_2 : Int) := of_decide_eq_true (by first | (with_reducible assumption) | assumption)
            have q826 : x14_2 < (l0.length : Int) := of_decide_eq_true (by first | (with_reducible assumption) | assumption)
            obtain ⟨ad826, e826, hx826_0⟩ := Kd.at_int HR0.out x14_2 p826 q826
            cases e826
            replace hx826_0 := (HB.out.cell (World.block_lt_of_cell? w _ hx826_0)).trans hx826_0
            replace p826 := eq_true p826
            replace q826 := eq_true q826
            have p827 : 0 ≤ (x14_2 : Int) := of_decide_eq_true (by first | (with_reducible assumption) | assumption)
            have q827 : x14_2 < (l0.length : Int) := of_decide_eq_true (by first | (with_reducible assumption) | assumption)
            obtain ⟨ad827, e827, hx827_0⟩ := Kd.at_int HR0.out x14_2 p827 q827
            obtain rfl : ad826 = ad827 := (by injection e827)
            replace hx827_0 := (HB.out.cell (World.block_lt_of_cell? w _ hx827_0)).trans hx827_0
            replace p827 := eq_true p827
            replace q827 := eq_true q827
            have p828 : 0 ≤ (x14_2 : Int) := of_decide_eq_true (by first | (with_reducible assumption) | assumption)
            have q828 : x14_2 < (l0.length : Int) := of_decide_eq_true (by first | (with_reducible assumption) | assumption)
            obtain ⟨ad828, e828, hx828_0⟩ := Kd.at_int HR0.out x14_2 p828 q828
            obtain rfl : ad826 = ad828 := (by injection e828)
            replace hx828_0 := (HB.out.cell (World.block_lt_of_cell? w _ hx828_0)).trans hx828_0
            replace p828 := eq_true p828
            replace q828 := eq_true q828
            as_aux_lemma =>
             go_wp2
             go_meet
             case rel => exact ⟨_, (x12_2), (1), (by first | rfl | (simp; done) | (simp [*]; done)), (by first | rfl | (simp; done) | (simp [*]; done)), H', ⟨by have := HK1.out; have := HK2.out; first | omega | exact Nat.le_refl _⟩, ⟨by (with_reducible repeat (first | apply Kd.R_alloc | apply Kd.R_drewN | apply Kd.R_drew)); exact HO_11.out⟩, ⟨by repeat (first | (with_reducible first | exact HB.out | apply Zae | apply Zab | apply Zad) | exact HB.out)⟩⟩
          ·rw [if_neg c12] at H
           have c12b0 : decide (x10_1 < (rd l0 x14_2)) = false := decide_eq_false c12
           clear c12
           by_cases c14 : (wrap64 (a1 - (rd l0 x14_2))) > x10_1
           ·rw [if_pos c14] at H
            have c14b0 : decide (x10_1 < (wrap64 (a1 - (rd l0 x14_2)))) = true := decide_eq_true c14
            clear c14
            have H' := Zac.mk H
            clear H
            have p826 : 0 ≤ (x14_2 : Int) := of_decide_eq_true (by first | (with_reducible assumption) | assumption)
            have q826 : x14_2 < (l0.length : Int) := of_decide_eq_true (by first | (with_reducible assumption) | assumption)
            obtain ⟨ad826, e826, hx826_0⟩ := Kd.at_int HR0.out x14_2 p826 q826
            cases e826
            replace hx826_0 := (HB.out.cell (World.block_lt_of_cell? w _ hx826_0)).trans hx826_0
            replace p826 := eq_true p826
            replace q826 := eq_true q826
            have p829 : 0 ≤ (x14_2 : Int) := of_decide_eq_true (by first | (with_reducible assumption) | assumption)
            have q829 : x14_2 < (l0.length : Int) := of_decide_eq_true (by first | (with_reducible assumption) | assumption)
            obtain ⟨ad829, e829, hx829_0⟩ := Kd.at_int HR0.out x14_2 p829 q829
            obtain rfl : ad826 = ad829 := (by injection e829)
            replace hx829_0 := (HB.out.cell (World.block_lt_of_cell? w _ hx829_0)).trans hx829_0
            replace p829 := eq_true p829
            replace q829 := eq_true q829
            have p830 : 0 ≤ (x14_2 : Int) := of_decide_eq_true (by first | (with_reducible assumption) | assumption)
            have q830 : x14_2 < (l0.length : Int) := of_decide_eq_true (by first | (with_reducible assumption) | assumption)
            obtain ⟨ad830, e830, hx830_0⟩ := Kd.at_int HR0.out x14_2 p830 q830
            obtain rfl : ad826 = ad830 := (by injection e830)
            replace hx830_0 := (HB.out.cell (World.block_lt_of_cell? w _ hx830_0)).trans hx830_0
            replace p830 := eq_true p830
            replace q830 := eq_true q830
            as_aux_lemma =>
             go_wp2
             go_meet
             case rel => exact ⟨_, (x12_2), ((-1)), (by first | rfl | (simp; done) | (simp [*]; done)), (by first | rfl | (simp; done) | (simp [*]; done)), H', ⟨by have := HK1.out; have := HK2.out; first | omega | exact Nat.le_refl _⟩, ⟨by (with_reducible repeat (first | apply Kd.R_alloc | apply Kd.R_drewN | apply Kd.R_drew)); exact HO_11.out⟩, ⟨by repeat (first | (with_reducible first | exact HB.out | apply Zae | apply Zab | apply Zad) | exact HB.out)⟩⟩
           ·rw [if_neg c14] at H
            have c14b0 : decide (x10_1 < (wrap64 (a1 - (rd l0 x14_2)))) = false := decide_eq_false c14
            clear c14
            have H' := Zac.mk H
            clear H
            have p826 : 0 ≤ (x14_2 : Int) := of_decide_eq_true (by first | (with_reducible assumption) | assumption)
            have q826 : x14_2 < (l0.length : Int) := of_decide_eq_true (by first | (with_reducible assumption) | assumption)
            obtain ⟨ad826, e826, hx826_0⟩ := Kd.at_int HR0.out x14_2 p826 q826
            cases e826
            replace hx826_0 := (HB.out.cell (World.block_lt_of_cell? w _ hx826_0)).trans hx826_0
            replace p826 := eq_true p826
            replace q826 := eq_true q826
            have p829 : 0 ≤ (x14_2 : Int) := of_decide_eq_true (by first | (with_reducible assumption) | assumption)
            have q829 : x14_2 < (l0.length : Int) := of_decide_eq_true (by first | (with_reducible assumption) | assumption)
            obtain ⟨ad829, e829, hx829_0⟩ := Kd.at_int HR0.out x14_2 p829 q829
            obtain rfl : ad826 = ad829 := (by injection e829)
            replace hx829_0 := (HB.out.cell (World.block_lt_of_cell? w _ hx829_0)).trans hx829_0
            replace p829 := eq_true p829
            replace q829 := eq_true q829
            have p831 : 0 ≤ (x14_2 : Int) := of_decide_eq_true (by first | (with_reducible assumption) | assumption)
            have q831 : x14_2 < (l0.length : Int) := of_decide_eq_true (by first | (with_reducible assumption) | assumption)
            obtain ⟨ad831, e831, hx831_0⟩ := Kd.at_int HR0.out x14_2 p831 q831
            obtain rfl : ad826 = ad831 := (by injection e831)
            replace hx831_0 := (HB.out.cell (World.block_lt_of_cell? w _ hx831_0)).trans hx831_0
            replace p831 := eq_true p831
            replace q831 := eq_true q831
            as_aux_lemma =>
             go_wp2
             go_meet
             case rel => exact ⟨_, (x12_2), (0), (by first | rfl | (simp; done) | (simp [*]; done)), (by first | rfl | (simp; done) | (simp [*]; done)), H', ⟨by have := HK1.out; have := HK2.out; first | omega | exact Nat.le_refl _⟩, ⟨by (with_reducible repeat (first | apply Kd.R_alloc | apply Kd.R_drewN | apply Kd.R_drew)); exact HO_11.out⟩, ⟨by repeat (first | (with_reducible first | exact HB.out | apply Zae | apply Zab | apply Zad) | exact HB.out)⟩⟩
         ·rw [if_neg c11] at H
          exact absurd H (by simp)
        ·rw [if_neg c10] at H
         have c10b0 : (a3 == 2) = false := beq_eq_false_iff_ne.mpr c10
         have c10b1 : (a3 != 2) = true := bne_iff_ne.mpr c10
         (first | rw [c10b0] | (simp only [i64_w, i32_w]; rw [c10b0]) | skip)
         by_cases c15 : 0 ≤ x14_2
         ·rw [if_pos c15] at H
          have c15b0 : decide (0 ≤ x14_2) = true := decide_eq_true c15
          clear c15
          by_cases c16 : (rd l0 x14_2) > (wrap64 (a1 - x10_1))
          ·rw [if_pos c16] at H
           have c16b0 : decide ((wrap64 (a1 - x10_1)) < (rd l0 x14_2)) = true := decide_eq_true c16
           clear c16
           have H' := Zac.mk H
           clear H
           have p832 : 0 ≤ (x14_2 : Int) := of_decide_eq_true (by first | (with_reducible assumption) | assumption)
           have q832 : x14_2 < (l0.length : Int) := of_decide_eq_true (by first | (with_reducible assumption) | assumption)
           obtain ⟨ad832, e832, hx832_0⟩ := Kd.at_int HR0.out x14_2 p832 q832
           cases e832
           replace hx832_0 := (HB.out.cell (World.block_lt_of_cell? w _ hx832_0)).trans hx832_0
           replace p832 := eq_true p832
           replace q832 := eq_true q832
           as_aux_lemma =>
            go_wp2
            go_meet
            case rel => exact ⟨_, (x12_2), (1), (by first | rfl | (simp; done) | (simp [*]; done)), (by first | rfl | (simp; done) | (simp [*]; done)), H', ⟨by have := HK1.out; have := HK2.out; first | omega | exact Nat.le_refl _⟩, ⟨by (with_reducible repeat (first | apply Kd.R_alloc | apply Kd.R_drewN | apply Kd.R_drew)); exact HO_11.out⟩, ⟨by repeat (first | (with_reducible first | exact HB.out | apply Zae | apply Zab | apply Zad) | exact HB.out)⟩⟩
          ·rw [if_neg c16] at H
           have c16b0 : decide ((wrap64 (a1 - x10_1)) < (rd l0 x14_2)) = false := decide_eq_false c16
           clear c16
           by_cases c17 : (rd l0 x14_2) < (wrap64 (a1 - x10_1))
           ·rw [if_pos c17] at H
            have c17b0 : decide ((rd l0 x14_2) < (wrap64 (a1 - x10_1))) = true := decide_eq_true c17
            clear c17
            have H' := Zac.mk H
            clear H
            have p832 : 0 ≤ (x14_2 : Int) := of_decide_eq_true (by first | (with_reducible assumption) | assumption)
            have q832 : x14_2 < (l0.length : Int) := of_decide_eq_true (by first | (with_reducible assumption) | assumption)
            obtain ⟨ad832, e832, hx832_0⟩ := Kd.at_int HR0.out x14_2 p832 q832
            cases e832
            replace hx832_0 := (HB.out.cell (World.block_lt_of_cell? w _ hx832_0)).trans hx832_0
            replace p832 := eq_true p832
            replace q832 := eq_true q832
            have p833 : 0 ≤ (x14_2 : Int) := of_decide_eq_true (by first | (with_reducible assumption) | assumption)
            have q833 : x14_2 < (l0.length : Int) := of_decide_eq_true (by first | (with_reducible assumption) | assumption)
            obtain ⟨ad833, e833, hx833_0⟩ := Kd.at_int HR0.out x14_2 p833 q833
            obtain rfl : ad832 = ad833 := (by injection e833)
            replace hx833_0 := (HB.out.cell (World.block_lt_of_cell? w _ hx833_0)).trans hx833_0
            replace p833 := eq_true p833
            replace q833 := eq_true q833
            as_aux_lemma =>
             go_wp2
             go_meet
             case rel => exact ⟨_, (x12_2), ((-1)), (by first | rfl | (simp; done) | (simp [*]; done)), (by first | rfl | (simp; done) | (simp [*]; done)), H', ⟨by have := HK1.out; have := HK2.out; first | omega | exact Nat.le_refl _⟩, ⟨by (with_reducible repeat (first | apply Kd.R_alloc | apply Kd.R_drewN | apply Kd.R_drew)); exact HO_11.out⟩, ⟨by repeat (first | (with_reducible first | exact HB.out | apply Zae | apply Zab | apply Zad) | exact HB.out)⟩⟩
           ·rw [if_neg c17] at H
            have c17b0 : decide ((rd l0 x14_2) < (wrap64 (a1 - x10_1))) = false := decide_eq_false c17
            clear c17
            have H' := Zac.mk H
            clear H
            have p832 : 0 ≤ (x14_2 : Int) := of_decide_eq_true (by first | (with_reducible assumption) | assumption)
            have q832 : x14_2 < (l0.length : Int) := of_decide_eq_true (by first | (with_reducible assumption) | assumption)
            obtain ⟨ad832, e832, hx832_0⟩ := Kd.at_int HR0.out x14_2 p832 q832
            cases e832
            replace hx832_0 := (HB.out.cell (World.block_lt_of_cell? w _ hx832_0)).trans hx832_0
            replace p832 := eq_true p832
            replace q832 := eq_true q832
            have p833 : 0 ≤ (x14_2 : Int) := of_decide_eq_true (by first | (with_reducible assumption) | assumption)
            have q833 : x14_2 < (l0.length : Int) := of_decide_eq_true (by first | (with_reducible assumption) | assumption)
            obtain ⟨ad833, e833, hx833_0⟩ := Kd.at_int HR0.out x14_2 p833 q833
            obtain rfl : ad832 = ad833 := (by injection e833)
            replace hx833_0 := (HB.out.cell (World.block_lt_of_cell? w _ hx833_0)).trans hx833_0
            replace p833 := eq_true p833
            replace q833 := eq_true q833
            as_aux_lemma =>
             go_wp2
             go_meet
             case rel => exact ⟨_, (x12_2), (0), (by first | rfl | (simp; done) | (simp [*]; done)), (by first | rfl | (simp; done) | (simp [*]; done)), H', ⟨by have := HK1.out; have := HK2.out; first | omega | exact Nat.le_refl _⟩, ⟨by (with_reducible repeat (first | apply Kd.R_alloc | apply Kd.R_drewN | apply Kd.R_drew)); exact HO_11.out⟩, ⟨by repeat (first | (with_reducible first | exact HB.out | apply Zae | apply Zab | apply Zad) | exact HB.out)⟩⟩
         ·rw [if_neg c15] at H
          exact absurd H (by simp)
       case rest =>
        clear HC9
        try clear c1
        try clear p2
        try clear c5
        try clear c5b0
        try clear p6
        try clear c8
        try clear c8b0
        try clear p8
        try clear q8
        try clear hx8
        try clear c9
        try clear c10
        try clear c10b0
        try clear c10b1
        try clear c11
        try clear c11b0
        try clear c12
        try clear c12b0
        try clear c13
        try clear c13b0
        try clear c14
        try clear c14b0
        try clear c15
        try clear c15b0
        try clear c16
        try clear c16b0
        try clear c17
        try clear c17b0
        try clear hx826_0
        try clear hx827_0
        try clear hx828_0
        try clear hx829_0
        try clear hx830_0
        try clear hx831_0
        try clear hx832_0
        try clear hx833_0
        try clear p2
        try clear p826
        try clear p827
        try clear p828
        try clear p829
        try clear p830
        try clear p831
        try clear p832
        try clear p833
        try clear q826
        try clear q827
        try clear q828
        try clear q829
        try clear q830
        try clear q831
        try clear q832
        try clear q833
        obtain ⟨kq, x12_8, x15_8, rfl, rfl, HA, HJ8, HO_11, HB⟩ := hcut
        cases kq with
        | zero => exact absurd HA.out (by simp [Zax.j2])
        | succ kj8 =>
         have H := HA.out
         clear HA
         simp only [Zax.j2] at H
         by_cases c18 : 0 ≤ x14_2
         ·rw [if_pos c18] at H
          have c18b0 : decide (0 ≤ x14_2) = true := decide_eq_true c18
          clear c18
          by_cases c19 : x14_2 < (l0.length : Int)
          ·rw [if_pos c19] at H
           have c19b0 : decide (x14_2 < (l0.length : Int)) = true := decide_eq_true c19
           clear c19
           have HC20 := Zac.mk H
           clear H
           have p834 : 0 ≤ (x14_2 : Int) := of_decide_eq_true (by first | (with_reducible assumption) | assumption)
           have q834 : x14_2 < (l0.length : Int) := of_decide_eq_true (by first | (with_reducible assumption) | assumption)
           obtain ⟨ad834, e834, hx834_0⟩ := Kd.at_int HR0.out x14_2 p834 q834
           cases e834
           replace hx834_0 := (HB.out.cell (World.block_lt_of_cell? w _ hx834_0)).trans hx834_0
           replace p834 := eq_true p834
           replace q834 := eq_true q834
           go_upto_if 82 with (fail)
           go_cut [15] (fun v15 wc => ∃ (kq : Nat) (x15_19 : Int), v15 = .int .i64 x15_19 ∧ Zac (Zax.j3 kq l0 a1 a2 a3 x10_1 x11_2 x12_8 x13_2 x14_2 x15_19 = some (r1, r2)) ∧ Zac (kq ≤ kj8) ∧ Zac (Kd.R (Kd.int .i64) 2 wc w.heap.size (fun _ => True) u11 x11_2) ∧ Zac (Below w.heap.size w wc))
           case first =>
            have H := HC20.out
            clear HC20
            by_cases c21 : (rd l0 x14_2) = 0
            ·rw [if_pos c21] at H
             have c21b0 : ((rd l0 x14_2) == 0) = true := beq_iff_eq.mpr c21
             have c21b1 : ((rd l0 x14_2) != 0) = false := bne_eq_false_iff_eq.mpr c21
             clear c21
             (first | rw [c21b0] | (simp only [i64_w, i32_w]; rw [c21b0]) | skip)
             have H' := Zac.mk H
             clear H
             as_aux_lemma =>
              go_wp2
              go_meet
              case rel => exact ⟨_, ((-1)), (by first | rfl | (simp; done) | (simp [*]; done)), H', ⟨by have := HK1.out; have := HK2.out; have := HJ8.out; first | omega | exact Nat.le_refl _⟩, ⟨by (with_reducible repeat (first | apply Kd.R_alloc | apply Kd.R_drewN | apply Kd.R_drew)); exact HO_11.out⟩, ⟨by repeat (first | (with_reducible first | exact HB.out | apply Zae | apply Zab | apply Zad) | exact HB.out)⟩⟩
            ·rw [if_neg c21] at H
             have c21b0 : ((rd l0 x14_2) == 0) = false := beq_eq_false_iff_ne.mpr c21
             have c21b1 : ((rd l0 x14_2) != 0) = true := bne_iff_ne.mpr c21
             (first | rw [c21b0] | (simp only [i64_w, i32_w]; rw [c21b0]) | skip)
             have H' := Zac.mk H
             clear H
             as_aux_lemma =>
              go_wp2
              go_meet
              case rel => exact ⟨_, (x15_8), (by first | rfl | (simp; done) | (simp [*]; done)), H', ⟨by have := HK1.out; have := HK2.out; have := HJ8.out; first | omega | exact Nat.le_refl _⟩, ⟨by (with_reducible repeat (first | apply Kd.R_alloc | apply Kd.R_drewN | apply Kd.R_drew)); exact HO_11.out⟩, ⟨by repeat (first | (with_reducible first | exact HB.out | apply Zae | apply Zab | apply Zad) | exact HB.out)⟩⟩
           case rest =>
            clear HC20
            try clear c1
            try clear c2
            try clear p2
            try clear c5
            try clear c5b0
            try clear p6
            try clear c8
            try clear c8b0
            try clear p8
            try clear q8
            try clear hx8
            try clear c9
            try clear c10
            try clear c10b0
            try clear c10b1
            try clear c11
            try clear c11b0
            try clear c12
            try clear c12b0
            try clear c13
            try clear c13b0
            try clear c14
            try clear c14b0
            try clear c15
            try clear c15b0
            try clear c16
            try clear c16b0
            try clear c17
            try clear c17b0
            try clear c18
            try clear c18b0
            try clear c19
            try clear c19b0
            try clear c21
            try clear c21b0
            try clear c21b1
            try clear hx826_0
            try clear hx827_0
            try clear hx828_0
            try clear hx829_0
            try clear hx830_0
            try clear hx831_0
            try clear hx832_0
            try clear hx833_0
            try clear hx834_0
            try clear p2
            try clear p6
            try clear p8
            try clear p826
            try clear p827
            try clear p828
            try clear p829
            try clear p830
            try clear p831
            try clear p832
            try clear p833
            try clear p834
            try clear q8
            try clear q826
            try clear q827
            try clear q828
            try clear q829
            try clear q830
            try clear q831
            try clear q832
            try clear q833
            try clear q834
            obtain ⟨kq, x15_19, rfl, HA, HJ19, HO_11, HB⟩ := hcut
            cases kq with
            | zero => exact absurd HA.out (by simp [Zax.j3])
            | succ kj19 =>
             have H := HA.out
             clear HA
             simp only [Zax.j3] at H
             by_cases c22 : x15_19 = 1
             ·rw [if_pos c22] at H
              have c22b0 : (x15_19 == 1) = true := beq_iff_eq.mpr c22
              have c22b1 : (x15_19 != 1) = false := bne_eq_false_iff_eq.mpr c22
              clear c22
              by_cases c23 : x15_19 = 0
              ·rw [if_pos c23] at H
               have c23b0 : (x15_19 == 0) = true := beq_iff_eq.mpr c23
               have c23b1 : (x15_19 != 0) = false := bne_eq_false_iff_eq.mpr c23
               clear c23
               by_cases c24 : x11_2.length < 17592186044416
               ·rw [if_pos c24] at H
                have LMc24 := Zac.mk c24
                clear c24
                obtain ⟨y835, hy835⟩ : ∃ y_ : List Int, y_ = (x11_2 ++ [x15_19]) := ⟨_, rfl⟩
                replace H : (Zax.l1 kj19 l0 a1 a2 a3 x10_1 y835 (wrap64 (x12_8 + 1)) (wrap64 (x13_2 + 1)) (wrap64 (x14_2 + 1))) = some (r1, r2) := by first | (rw [hy835]; with_reducible exact H) | (have H2_ := (Option.bind_some _ _).symm.trans H; rw [hy835]; with_reducible exact H2_) | (have H2_ := (Option.bind_some _ _).symm.trans H; with_reducible exact H2_) | with_reducible exact H | (rw [hy835]; exact H) | exact H
                have Ny835 := Zac.mk hy835
                clear hy835
                have H' := Zac.mk H
                clear H
                as_aux_lemma =>
                 go_wp2_with (first | ((with_reducible refine gate_builtin (b := .append) (xs := #[.tmp 91, .tmp 93]) rfl ?_); at_builtin; refine Kd.R_append (Kd.int .i64) (w0 := w) w.heap.size rfl (.tmp 91) (.tmp 93) 22 2 (.int .i64 0) 8 rfl Try.underlying22 info2 rfl (by decide) (by omega) u11 x11_2 x15_19 [.int .i64 x15_19] (fun _ => True) (fun _ => False) rfl rfl ?aP (fun _ hk => hk.elim) ?aF ?aO ?aB ?aS ?aL ?_; (case aP => exact rfl); (case aB => exact (by repeat (first | (with_reducible first | exact HB.out | apply Zae | apply Zab | apply Zad) | exact HB.out))); (case aF => exact (fun _ _ => trivial)); (case aO => exact (by (with_reducible repeat (first | apply Kd.R_alloc | apply Kd.R_drewN | apply Kd.R_drew)); exact HO_11.out)); (case aS => exact (Zap (by repeat (first | (with_reducible first | exact HB.out | apply Zae | apply Zab | apply Zad) | exact HB.out)))); (case aL => have := LMc24.out; omega); intro v836 w25 ho hb hg hat; rw [← Ny835.out] at ho; have n0_ := Zac.mk (hb); have n1_ := Zac.mk (ho); clear HB; clear HO_11; have HB := n0_; have HO837 := n1_; clear n0_ n1_; clear ho hb hg hat))
                 go_roundg kj19
                 case measure => have := HK1.out; have := HK2.out; have := HJ8.out; have := HJ19.out; omega
                 case rel => exact ⟨(y835), (wrap64 (x12_8 + 1)), (wrap64 (x13_2 + 1)), (wrap64 (x14_2 + 1)), (by first | rfl | (simp; done) | (simp [*]; done)), (by first | rfl | (simp; done) | (simp [*]; done)), (by first | rfl | (simp; done) | (simp [*]; done)), H', ⟨by have := HK1.out; have := HK2.out; have := HJ8.out; have := HJ19.out; omega⟩, ⟨by (with_reducible repeat (first | apply Kd.R_alloc | apply Kd.R_drewN | apply Kd.R_drew)); exact HO837.out⟩, ⟨by repeat (first | (with_reducible first | exact HB.out | apply Zae | apply Zab | apply Zad) | exact HB.out)⟩⟩
               ·rw [if_neg c24] at H
                exact absurd H (by simp)
              ·rw [if_neg c23] at H
               have c23b0 : (x15_19 == 0) = false := beq_eq_false_iff_ne.mpr c23
               have c23b1 : (x15_19 != 0) = true := bne_iff_ne.mpr c23
               by_cases c26 : x11_2.length < 17592186044416
               ·rw [if_pos c26] at H
                have LMc26 := Zac.mk c26
                clear c26
                obtain ⟨y838, hy838⟩ : ∃ y_ : List Int, y_ = (x11_2 ++ [x15_19]) := ⟨_, rfl⟩
                replace H : (Zax.l1 kj19 l0 a1 a2 a3 x10_1 y838 (wrap64 (x12_8 + 1)) x13_2 (wrap64 (x14_2 + 1))) = some (r1, r2) := by first | (rw [hy838]; with_reducible exact H) | (have H2_ := (Option.bind_some _ _).symm.trans H; rw [hy838]; with_reducible exact H2_) | (have H2_ := (Option.bind_some _ _).symm.trans H; with_reducible exact H2_) | with_reducible exact H | (rw [hy838]; exact H) | exact H
                have Ny838 := Zac.mk hy838
                clear hy838
                have H' := Zac.mk H
                clear H
                as_aux_lemma =>
                 go_wp2_with (first | ((with_reducible refine gate_builtin (b := .append) (xs := #[.tmp 91, .tmp 93]) rfl ?_); at_builtin; refine Kd.R_append (Kd.int .i64) (w0 := w) w.heap.size rfl (.tmp 91) (.tmp 93) 22 2 (.int .i64 0) 8 rfl Try.underlying22 info2 rfl (by decide) (by omega) u11 x11_2 x15_19 [.int .i64 x15_19] (fun _ => True) (fun _ => False) rfl rfl ?aP (fun _ hk => hk.elim) ?aF ?aO ?aB ?aS ?aL ?_; (case aP => exact rfl); (case aB => exact (by repeat (first | (with_reducible first | exact HB.out | apply Zae | apply Zab | apply Zad) | exact HB.out))); (case aF => exact (fun _ _ => trivial)); (case aO => exact (by (with_reducible repeat (first | apply Kd.R_alloc | apply Kd.R_drewN | apply Kd.R_drew)); exact HO_11.out)); (case aS => exact (Zap (by repeat (first | (with_reducible first | exact HB.out | apply Zae | apply Zab | apply Zad) | exact HB.out)))); (case aL => have := LMc26.out; omega); intro v839 w27 ho hb hg hat; rw [← Ny838.out] at ho; have n0_ := Zac.mk (hb); have n1_ := Zac.mk (ho); clear HB; clear HO_11; have HB := n0_; have HO840 := n1_; clear n0_ n1_; clear ho hb hg hat))
                 go_roundg kj19
                 case measure => have := HK1.out; have := HK2.out; have := HJ8.out; have := HJ19.out; omega
                 case rel => exact ⟨(y838), (wrap64 (x12_8 + 1)), (x13_2), (wrap64 (x14_2 + 1)), (by first | rfl | (simp; done) | (simp [*]; done)), (by first | rfl | (simp; done) | (simp [*]; done)), (by first | rfl | (simp; done) | (simp [*]; done)), H', ⟨by have := HK1.out; have := HK2.out; have := HJ8.out; have := HJ19.out; omega⟩, ⟨by (with_reducible repeat (first | apply Kd.R_alloc | apply Kd.R_drewN | apply Kd.R_drew)); exact HO840.out⟩, ⟨by repeat (first | (with_reducible first | exact HB.out | apply Zae | apply Zab | apply Zad) | exact HB.out)⟩⟩
               ·rw [if_neg c26] at H
                exact absurd H (by simp)
             ·rw [if_neg c22] at H
              have c22b0 : (x15_19 == 1) = false := beq_eq_false_iff_ne.mpr c22
              have c22b1 : (x15_19 != 1) = true := bne_iff_ne.mpr c22
              by_cases c28 : x15_19 = 0
              ·rw [if_pos c28] at H
               have c28b0 : (x15_19 == 0) = true := beq_iff_eq.mpr c28
               have c28b1 : (x15_19 != 0) = false := bne_eq_false_iff_eq.mpr c28
               clear c28
               by_cases c29 : x11_2.length < 17592186044416
               ·rw [if_pos c29] at H
                have LMc29 := Zac.mk c29
                clear c29
                obtain ⟨y841, hy841⟩ : ∃ y_ : List Int, y_ = (x11_2 ++ [x15_19]) := ⟨_, rfl⟩
                replace H : (Zax.l1 kj19 l0 a1 a2 a3 x10_1 y841 x12_8 (wrap64 (x13_2 + 1)) (wrap64 (x14_2 + 1))) = some (r1, r2) := by first | (rw [hy841]; with_reducible exact H) | (have H2_ := (Option.bind_some _ _).symm.trans H; rw [hy841]; with_reducible exact H2_) | (have H2_ := (Option.bind_some _ _).symm.trans H; with_reducible exact H2_) | with_reducible exact H | (rw [hy841]; exact H) | exact H
                have Ny841 := Zac.mk hy841
                clear hy841
                have H' := Zac.mk H
                clear H
                as_aux_lemma =>
                 go_wp2_with (first | ((with_reducible refine gate_builtin (b := .append) (xs := #[.tmp 91, .tmp 93]) rfl ?_); at_builtin; refine Kd.R_append (Kd.int .i64) (w0 := w) w.heap.size rfl (.tmp 91) (.tmp 93) 22 2 (.int .i64 0) 8 rfl Try.underlying22 info2 rfl (by decide) (by omega) u11 x11_2 x15_19 [.int .i64 x15_19] (fun _ => True) (fun _ => False) rfl rfl ?aP (fun _ hk => hk.elim) ?aF ?aO ?aB ?aS ?aL ?_; (case aP => exact rfl); (case aB => exact (by repeat (first | (with_reducible first | exact HB.out | apply Zae | apply Zab | apply Zad) | exact HB.out))); (case aF => exact (fun _ _ => trivial)); (case aO => exact (by (with_reducible repeat (first | apply Kd.R_alloc | apply Kd.R_drewN | apply Kd.R_drew)); exact HO_11.out)); (case aS => exact (Zap (by repeat (first | (with_reducible first | exact HB.out | apply Zae | apply Zab | apply Zad) | exact HB.out)))); (case aL => have := LMc29.out; omega); intro v842 w30 ho hb hg hat; rw [← Ny841.out] at ho; have n0_ := Zac.mk (hb); have n1_ := Zac.mk (ho); clear HB; clear HO_11; have HB := n0_; have HO843 := n1_; clear n0_ n1_; clear ho hb hg hat))
                 go_roundg kj19
                 case measure => have := HK1.out; have := HK2.out; have := HJ8.out; have := HJ19.out; omega
                 case rel => exact ⟨(y841), (x12_8), (wrap64 (x13_2 + 1)), (wrap64 (x14_2 + 1)), (by first | rfl | (simp; done) | (simp [*]; done)), (by first | rfl | (simp; done) | (simp [*]; done)), (by first | rfl | (simp; done) | (simp [*]; done)), H', ⟨by have := HK1.out; have := HK2.out; have := HJ8.out; have := HJ19.out; omega⟩, ⟨by (with_reducible repeat (first | apply Kd.R_alloc | apply Kd.R_drewN | apply Kd.R_drew)); exact HO843.out⟩, ⟨by repeat (first | (with_reducible first | exact HB.out | apply Zae | apply Zab | apply Zad) | exact HB.out)⟩⟩
               ·rw [if_neg c29] at H
                exact absurd H (by simp)
              ·rw [if_neg c28] at H
               have c28b0 : (x15_19 == 0) = false := beq_eq_false_iff_ne.mpr c28
               have c28b1 : (x15_19 != 0) = true := bne_iff_ne.mpr c28
               by_cases c31 : x11_2.length < 17592186044416
               ·rw [if_pos c31] at H
                have LMc31 := Zac.mk c31
                clear c31
                obtain ⟨y844, hy844⟩ : ∃ y_ : List Int, y_ = (x11_2 ++ [x15_19]) := ⟨_, rfl⟩
                replace H : (Zax.l1 kj19 l0 a1 a2 a3 x10_1 y844 x12_8 x13_2 (wrap64 (x14_2 + 1))) = some (r1, r2) := by first | (rw [hy844]; with_reducible exact H) | (have H2_ := (Option.bind_some _ _).symm.trans H; rw [hy844]; with_reducible exact H2_) | (have H2_ := (Option.bind_some _ _).symm.trans H; with_reducible exact H2_) | with_reducible exact H | (rw [hy844]; exact H) | exact H
                have Ny844 := Zac.mk hy844
                clear hy844
                have H' := Zac.mk H
                clear H
                as_aux_lemma =>
                 go_wp2_with (first | ((with_reducible refine gate_builtin (b := .append) (xs := #[.tmp 91, .tmp 93]) rfl ?_); at_builtin; refine Kd.R_append (Kd.int .i64) (w0 := w) w.heap.size rfl (.tmp 91) (.tmp 93) 22 2 (.int .i64 0) 8 rfl Try.underlying22 info2 rfl (by decide) (by omega) u11 x11_2 x15_19 [.int .i64 x15_19] (fun _ => True) (fun _ => False) rfl rfl ?aP (fun _ hk => hk.elim) ?aF ?aO ?aB ?aS ?aL ?_; (case aP => exact rfl); (case aB => exact (by repeat (first | (with_reducible first | exact HB.out | apply Zae | apply Zab | apply Zad) | exact HB.out))); (case aF => exact (fun _ _ => trivial)); (case aO => exact (by (with_reducible repeat (first | apply Kd.R_alloc | apply Kd.R_drewN | apply Kd.R_drew)); exact HO_11.out)); (case aS => exact (Zap (by repeat (first | (with_reducible first | exact HB.out | apply Zae | apply Zab | apply Zad) | exact HB.out)))); (case aL => have := LMc31.out; omega); intro v845 w32 ho hb hg hat; rw [← Ny844.out] at ho; have n0_ := Zac.mk (hb); have n1_ := Zac.mk (ho); clear HB; clear HO_11; have HB := n0_; have HO846 := n1_; clear n0_ n1_; clear ho hb hg hat))
                 go_roundg kj19
                 case measure => have := HK1.out; have := HK2.out; have := HJ8.out; have := HJ19.out; omega
                 case rel => exact ⟨(y844), (x12_8), (x13_2), (wrap64 (x14_2 + 1)), (by first | rfl | (simp; done) | (simp [*]; done)), (by first | rfl | (simp; done) | (simp [*]; done)), (by first | rfl | (simp; done) | (simp [*]; done)), H', ⟨by have := HK1.out; have := HK2.out; have := HJ8.out; have := HJ19.out; omega⟩, ⟨by (with_reducible repeat (first | apply Kd.R_alloc | apply Kd.R_drewN | apply Kd.R_drew)); exact HO846.out⟩, ⟨by repeat (first | (with_reducible first | exact HB.out | apply Zae | apply Zab | apply Zad) | exact HB.out)⟩⟩
               ·rw [if_neg c31] at H
                exact absurd H (by simp)
          ·rw [if_neg c19] at H
           exact absurd H (by simp)
         ·rw [if_neg c18] at H
          exact absurd H (by simp)
      ·rw [if_neg c8] at H
       have c8b0 : decide (x14_2 < (l0.length : Int)) = false := decide_eq_false c8
       clear c8
       by_cases c33 : x12_2 ≤ a2
       ·rw [if_pos c33] at H
        have c33b0 : decide (x12_2 ≤ a2) = true := decide_eq_true c33
        clear c33
        by_cases c34 : a2 ≤ (wrap64 (x12_2 + x13_2))
        ·rw [if_pos c34] at H
         have c34b0 : decide (a2 ≤ (wrap64 (x12_2 + x13_2))) = true := decide_eq_true c34
         clear c34
         simp only [Option.some.injEq, Prod.mk.injEq] at H
         obtain ⟨rfl, rfl⟩ := H
         as_aux_lemma =>
          go_wp2
          go_ret2
          exact ⟨_, by first | rfl | (simp [Zaq, Zar] <;> rfl) | (simp [*, Zaq, Zar] <;> rfl), by (with_reducible repeat (first | apply Kd.R_alloc | apply Kd.R_drewN | apply Kd.R_drew)); exact HO_11.out, by repeat (first | (with_reducible first | exact HB.out | apply Zae | apply Zab | apply Zad) | exact HB.out)⟩
        ·rw [if_neg c34] at H
         have c34b0 : decide (a2 ≤ (wrap64 (x12_2 + x13_2))) = false := decide_eq_false c34
         clear c34
         have H' := Zac.mk H
         clear H
         as_aux_lemma =>
          go_wp2
          go_roundg k2
          case measure => have := HK1.out; have := HK2.out; omega
          case rel => exact ⟨(wrap64 (x10_1 + 1)), (by first | rfl | (simp; done) | (simp [*]; done)), H', ⟨by have := HK1.out; have := HK2.out; omega⟩, ⟨by repeat (first | (with_reducible first | exact HB.out | apply Zae | apply Zab | apply Zad) | exact HB.out)⟩⟩
       ·rw [if_neg c33] at H
        have c33b0 : decide (x12_2 ≤ a2) = false := decide_eq_false c33
        clear c33
        have H' := Zac.mk H
        clear H
        as_aux_lemma =>
         go_wp2
         go_roundg k2
         case measure => have := HK1.out; have := HK2.out; omega
         case rel => exact ⟨(wrap64 (x10_1 + 1)), (by first | rfl | (simp; done) | (simp [*]; done)), H', ⟨by have := HK1.out; have := HK2.out; omega⟩, ⟨by repeat (first | (with_reducible first | exact HB.out | apply Zae | apply Zab | apply Zad) | exact HB.out)⟩⟩
   ·rw [if_neg c5] at H
    have c5b0 : decide (x10_1 ≤ a1) = false := decide_eq_false c5
    clear c5
    obtain ⟨y820, hy820⟩ : ∃ y_ : List Int, y_ = (([] : List Int)) := ⟨_, rfl⟩
    replace H : (some (y820, 0)) = some (r1, r2) := by first | (rw [hy820]; with_reducible exact H) | (have H2_ := (Option.bind_some _ _).symm.trans H; rw [hy820]; with_reducible exact H2_) | (have H2_ := (Option.bind_some _ _).symm.trans H; with_reducible exact H2_) | with_reducible exact H | (rw [hy820]; exact H) | exact H
    have Ny820 := Zac.mk hy820
    clear hy820
    simp only [Option.some.injEq, Prod.mk.injEq] at H
    obtain ⟨rfl, rfl⟩ := H
    as_aux_lemma =>
     go_wp2_with (first | ((with_reducible refine gate_dst (N := 109) rfl ?_); refine Kd.R_lit (Kd.int .i64) _ 2 ?hg (N := 109) ?hd (xs := ([] : List Int)) (inner := []) (ok := fun _ => True) (okp := fun _ => True) ?hr ?hp (fun _ hk => hk) trivial (Below.refl _ _) (Nat.le_refl _) (by simp) ?_; (case hd => rfl); (case hg => rfl); (case hr => first | (go_simp; done) | (go_simp; rfl)); (case hp => exact (Reps.none _ _)); intro v821 w35 ho36 hb hg_ hnew_; clear hg_ hnew_; (first | rw [← Ny820.out] at ho36 | (simp only [Int.reduceToNat] at ho36; rw [← Ny820.out] at ho36)); have n0_ := Zac.mk (Kd.R_lower ho36 (Zap (by repeat (first | (with_reducible first | exact HB.out | apply Zae | apply Zab | apply Zad) | exact HB.out)))); have n1_ := Zac.mk (Zas (by repeat (first | (with_reducible first | exact HB.out | apply Zae | apply Zab | apply Zad) | exact HB.out)) hb); clear HB; have HO822 := n0_; have HB := n1_; clear n0_ n1_; clear hb ho36))
     go_ret2
     exact ⟨_, by first | rfl | (simp [Zaq, Zar] <;> rfl) | (simp [*, Zaq, Zar] <;> rfl), by (with_reducible repeat (first | apply Kd.R_alloc | apply Kd.R_drewN | apply Kd.R_drew)); exact HO822.out, by repeat (first | (with_reducible first | exact HB.out | apply Zae | apply Zab | apply Zad) | exact HB.out)⟩
end Go.Proofs.Ytgmmfdilfpkbmaa.P
