import Derived.Test.YtanflefkbbhimaaXP0FnRunning
import Derived.Test.YtanflefkbbhimaaXP6FnRunning
namespace Go.Proofs.Ytanflefkbbhimaa.P
open Go.RowKit Go.Proofs.YtanflefkbbhimaaW.PrintWords Go.Proofs.YtanflefkbbhimaaW.PrintLast Go.Proofs.YtanflefkbbhimaaW.PrintMore
attribute [local go_sem] max2_int min2_int max_two min_two max_three min_three max_four min_four
set_option linter.unusedVariables false
set_option linter.unusedSimpArgs false
def Za3.l0 : Nat → Int → List Int → Int → Int → List Int → Option (List Int)
 | 0, _, _, _, _, _ => none
 | k + 1, x1, x5, x6, x256000, x256001 => if x6 < (x256001.length : Int) then (if 0 ≤ x6 then ((spec_DivFloor.f (rd x256001 x6) x256000).bind fun bt260 => ((spec_DivCeiling.f (rd x256001 x6) x256000).bind fun bt263 => (if 0 ≤ (IntKind.u64.wrap (x6)) then (if (Go.bits .and .i64 (shr .i64 x1 (IntKind.u64.wrap (x6))) 1) = 1 then (if x5.length < 17592186044416 then (Za3.l0 k x1 (x5 ++ [bt263.1]) (wrap64 (x6 + 1)) x256000 x256001) else (none)) else (if x5.length < 17592186044416 then (Za3.l0 k x1 (x5 ++ [bt260.1]) (wrap64 (x6 + 1)) x256000 x256001) else (none))) else (none)))) else (none)) else (some x5)
def Za3.f (k : Nat) (a0_0 : Int) (l0_1 : List Int) (a1 : Int) : Option (List Int) := Za3.l0 k a1 (([] : List Int)) 0 a0_0 l0_1
set_option maxHeartbeats 8000000 in
set_option maxRecDepth 100000 in
theorem Za3.calls (k : Nat) (a0_0 : Int) (A0_1 : Option Addr) (c0_1 : Nat) (l0_1 : List Int) (a1 : Int) (r : List Int) (w : World) (hr0_1 : Kd.C (Kd.int .i64) w A0_1 l0_1.length l0_1) (hc0_1 : l0_1.length ≤ c0_1) (h : Za3.f k a0_0 l0_1 a1 = some r) :
  Calls Try.prog 25 #[.agg #[.int .i64 a0_0, .slice A0_1 l0_1.length c0_1], .int .i64 a1] w fun e w' => ∃ v0_ : Value, e = .returned (v0_) ∧ Kd.R (Kd.int .i64) 2 w' w.heap.size (fun _ => True) v0_ r ∧ Below w.heap.size w w' := by
 have hu28 := Try.underlying28
 have HR0_1 := Zab.mk hr0_1
 have HC0_1 := Zab.mk hc0_1
 clear hr0_1 hc0_1
 have HB := Zab.mk (Below.refl w.heap.size w)
 have H : (Za3.l0 k a1 (([] : List Int)) 0 a0_0 l0_1) = some r := h
 clear h
 obtain ⟨y256, hy256⟩ : ∃ y_ : List Int, y_ = (([] : List Int)) := ⟨_, rfl⟩
 replace H : (Za3.l0 k a1 y256 0 a0_0 l0_1) = some r := by first | (rw [hy256]; with_reducible exact H) | (have H2_ := (Option.bind_some _ _).symm.trans H; rw [hy256]; with_reducible exact H2_) | (have H2_ := (Option.bind_some _ _).symm.trans H; with_reducible exact H2_) | with_reducible exact H | (rw [hy256]; exact H) | exact H
 have Ny256 := Zab.mk hy256
 clear hy256
 have H' := Zab.mk H
 clear H
 go_enter Try.func25, Try.ntmps25
 go_wp2_with (first | ((with_reducible refine gate_dst (N := 2) rfl ?_); refine box_event ?hg (N := 2) ?hd (cs := #[.int .i64 a0_0, .slice A0_1 l0_1.length c0_1]) (t := 28) ?hr ?_; (case hd => rfl); (case hg => rfl); (case hr => first | (go_simp; done) | (go_simp; rfl)); intro gb255 hg w3 hbox hb; have n0_ := Zab.mk (Zal (by repeat (first | (with_reducible first | exact HB.out | apply Zac | apply Zaa | apply Zad) | exact HB.out)) hb); have n1_ := Zab.mk (hbox); have n2_ := Zab.mk ((by rw [hg]; exact (Zam (by repeat (first | (with_reducible first | exact HB.out | apply Zac | apply Zaa | apply Zad) | exact HB.out))) : w.heap.size ≤ gb255)); have n3_ := Zab.mk ((by rw [hg]; exact (Zam (by repeat (first | (with_reducible first | exact HB.out | apply Zac | apply Zaa | apply Zad) | exact HB.out))) : w.heap.size ≤ gb255)); clear HB; have HB := n0_; have BK255 := n1_; have GW255 := n2_; have GE255 := n3_; clear n0_ n1_ n2_ n3_; clear hb hbox hg) | ((with_reducible refine gate_dst (N := 11) rfl ?_); refine Kd.R_lit (Kd.int .i64) _ 2 ?hg (N := 11) ?hd (xs := ([] : List Int)) (inner := []) (ok := fun _ => True) (okp := fun _ => True) ?hr ?hp (fun _ hk => hk) trivial (Below.refl _ _) (Nat.le_refl _) (by simp) ?_; (case hd => rfl); (case hg => rfl); (case hr => first | (go_simp; done) | (go_simp; rfl)); (case hp => exact (Reps.none _ _)); intro v257 w4 ho5 hb hg_ hnew_; clear hg_ hnew_; (first | rw [← Ny256.out] at ho5 | (simp only [Int.reduceToNat] at ho5; rw [← Ny256.out] at ho5)); have n0_ := Zab.mk (Kd.R_lower ho5 (Zam (by repeat (first | (with_reducible first | exact HB.out | apply Zac | apply Zaa | apply Zad | refine Zae ?_ GE255.out) | exact HB.out)))); have n1_ := Zab.mk (Zao (g := gb255) (o := .cells #[.int .i64 a0_0, .slice A0_1 l0_1.length c0_1] 28 (0, 0)) (by (with_reducible repeat (first | refine Zag ?_ _ | refine Zak ?_ | refine Zaf ?_ _)); exact BK255.out) hb); have n2_ := Zab.mk (Zal (by repeat (first | (with_reducible first | exact HB.out | apply Zac | apply Zaa | apply Zad | refine Zae ?_ GE255.out) | exact HB.out)) hb); clear BK255; clear HB; have HO258 := n0_; have BK255 := n1_; have HB := n2_; clear n0_ n1_ n2_; clear hb ho5))
 repeat (go_quiet (first | ((with_reducible refine gate_dst (N := 2) rfl ?_); refine box_event ?hg (N := 2) ?hd (cs := #[.int .i64 a0_0, .slice A0_1 l0_1.length c0_1]) (t := 28) ?hr ?_; (case hd => rfl); (case hg => rfl); (case hr => first | (go_simp; done) | (go_simp; rfl)); intro gb255 hg w3 hbox hb; have n0_ := Zab.mk (Zal (by repeat (first | (with_reducible first | exact HB.out | apply Zac | apply Zaa | apply Zad) | exact HB.out)) hb); have n1_ := Zab.mk (hbox); have n2_ := Zab.mk ((by rw [hg]; exact (Zam (by repeat (first | (with_reducible first | exact HB.out | apply Zac | apply Zaa | apply Zad) | exact HB.out))) : w.heap.size ≤ gb255)); have n3_ := Zab.mk ((by rw [hg]; exact (Zam (by repeat (first | (with_reducible first | exact HB.out | apply Zac | apply Zaa | apply Zad) | exact HB.out))) : w.heap.size ≤ gb255)); clear HB; have HB := n0_; have BK255 := n1_; have GW255 := n2_; have GE255 := n3_; clear n0_ n1_ n2_ n3_; clear hb hbox hg) | ((with_reducible refine gate_dst (N := 11) rfl ?_); refine Kd.R_lit (Kd.int .i64) _ 2 ?hg (N := 11) ?hd (xs := ([] : List Int)) (inner := []) (ok := fun _ => True) (okp := fun _ => True) ?hr ?hp (fun _ hk => hk) trivial (Below.refl _ _) (Nat.le_refl _) (by simp) ?_; (case hd => rfl); (case hg => rfl); (case hr => first | (go_simp; done) | (go_simp; rfl)); (case hp => exact (Reps.none _ _)); intro v257 w4 ho5 hb hg_ hnew_; clear hg_ hnew_; (first | rw [← Ny256.out] at ho5 | (simp only [Int.reduceToNat] at ho5; rw [← Ny256.out] at ho5)); have n0_ := Zab.mk (Kd.R_lower ho5 (Zam (by repeat (first | (with_reducible first | exact HB.out | apply Zac | apply Zaa | apply Zad | refine Zae ?_ GE255.out) | exact HB.out)))); have n1_ := Zab.mk (Zao (g := gb255) (o := .cells #[.int .i64 a0_0, .slice A0_1 l0_1.length c0_1] 28 (0, 0)) (by (with_reducible repeat (first | refine Zag ?_ _ | refine Zak ?_ | refine Zaf ?_ _)); exact BK255.out) hb); have n2_ := Zab.mk (Zal (by repeat (first | (with_reducible first | exact HB.out | apply Zac | apply Zaa | apply Zad | refine Zae ?_ GE255.out) | exact HB.out)) hb); clear BK255; clear HB; have HO258 := n0_; have BK255 := n1_; have HB := n2_; clear n0_ n1_ n2_; clear hb ho5)); try go_wp2_with (first | ((with_reducible refine gate_dst (N := 2) rfl ?_); refine box_event ?hg (N := 2) ?hd (cs := #[.int .i64 a0_0, .slice A0_1 l0_1.length c0_1]) (t := 28) ?hr ?_; (case hd => rfl); (case hg => rfl); (case hr => first | (go_simp; done) | (go_simp; rfl)); intro gb255 hg w3 hbox hb; have n0_ := Zab.mk (Zal (by repeat (first | (with_reducible first | exact HB.out | apply Zac | apply Zaa | apply Zad) | exact HB.out)) hb); have n1_ := Zab.mk (hbox); have n2_ := Zab.mk ((by rw [hg]; exact (Zam (by repeat (first | (with_reducible first | exact HB.out | apply Zac | apply Zaa | apply Zad) | exact HB.out))) : w.heap.size ≤ gb255)); have n3_ := Zab.mk ((by rw [hg]; exact (Zam (by repeat (first | (with_reducible first | exact HB.out | apply Zac | apply Zaa | apply Zad) | exact HB.out))) : w.heap.size ≤ gb255)); clear HB; have HB := n0_; have BK255 := n1_; have GW255 := n2_; have GE255 := n3_; clear n0_ n1_ n2_ n3_; clear hb hbox hg) | ((with_reducible refine gate_dst (N := 11) rfl ?_); refine Kd.R_lit (Kd.int .i64) _ 2 ?hg (N := 11) ?hd (xs := ([] : List Int)) (inner := []) (ok := fun _ => True) (okp := fun _ => True) ?hr ?hp (fun _ hk => hk) trivial (Below.refl _ _) (Nat.le_refl _) (by simp) ?_; (case hd => rfl); (case hg => rfl); (case hr => first | (go_simp; done) | (go_simp; rfl)); (case hp => exact (Reps.none _ _)); intro v257 w4 ho5 hb hg_ hnew_; clear hg_ hnew_; (first | rw [← Ny256.out] at ho5 | (simp only [Int.reduceToNat] at ho5; rw [← Ny256.out] at ho5)); have n0_ := Zab.mk (Kd.R_lower ho5 (Zam (by repeat (first | (with_reducible first | exact HB.out | apply Zac | apply Zaa | apply Zad | refine Zae ?_ GE255.out) | exact HB.out)))); have n1_ := Zab.mk (Zao (g := gb255) (o := .cells #[.int .i64 a0_0, .slice A0_1 l0_1.length c0_1] 28 (0, 0)) (by (with_reducible repeat (first | refine Zag ?_ _ | refine Zak ?_ | refine Zaf ?_ _)); exact BK255.out) hb); have n2_ := Zab.mk (Zal (by repeat (first | (with_reducible first | exact HB.out | apply Zac | apply Zaa | apply Zad | refine Zae ?_ GE255.out) | exact HB.out)) hb); clear BK255; clear HB; have HO258 := n0_; have BK255 := n1_; have HB := n2_; clear n0_ n1_ n2_; clear hb ho5)))
 go_loopg [5, 6] k (fun kq v5 v6 w' => ∃ (x5_1 : List Int) (x6_1 : Int), v6 = .int .i64 x6_1 ∧ Zab (Za3.l0 kq a1 x5_1 x6_1 a0_0 l0_1 = some r) ∧ Zab (kq ≤ k) ∧ Zab (Kd.R (Kd.int .i64) 2 w' w.heap.size (fun _ => True) v5 x5_1) ∧ Zab (w'.heap[gb255]? = some (.cells #[.int .i64 a0_0, (.slice A0_1 l0_1.length c0_1)] 28 (0, 0))) ∧ Zab (Below w.heap.size w w'))
 case atStart => exact ⟨(y256), (0), (by first | rfl | (simp; done) | (simp [*]; done) | (simp [IntWalk.i64_left, *]; done)), H', ⟨Nat.le_refl _⟩, ⟨by (with_reducible repeat (first | apply Kd.R_alloc | apply Kd.R_drewN | apply Kd.R_drew)); exact HO258.out⟩, ⟨by (with_reducible repeat (first | refine Zag ?_ _ | refine Zak ?_ | refine Zaf ?_ _)); exact BK255.out⟩, ⟨by repeat (first | (with_reducible first | exact HB.out | apply Zac | apply Zaa | apply Zad | refine Zae ?_ GE255.out) | exact HB.out)⟩⟩
 case round =>
  clear H'
  try clear c2
  try clear p2
  obtain ⟨x5_1, x6_1, rfl, HA, HK1, HO_5, BK255, HB⟩ := hrel
  cases gk with
  | zero => exact absurd HA.out (by simp [Za3.l0])
  | succ k1 =>
   have H := HA.out
   clear HA
   simp only [Za3.l0] at H
   by_cases c6 : x6_1 < (l0_1.length : Int)
   ·rw [if_pos c6] at H
    have c6b0 : decide (x6_1 < (l0_1.length : Int)) = true := decide_eq_true c6
    clear c6
    by_cases c7 : 0 ≤ x6_1
    ·rw [if_pos c7] at H
     have c7b0 : decide (0 ≤ x6_1) = true := decide_eq_true c7
     clear c7
     replace H := Option.bind_eq_some_iff.mp H
     obtain ⟨⟨t260, t261⟩, A80, H⟩ := H
     replace H : ((spec_DivCeiling.f (rd l0_1 x6_1) a0_0).bind fun bt263 => (if 0 ≤ (IntKind.u64.wrap (x6_1)) then (if (Go.bits .and .i64 (shr .i64 a1 (IntKind.u64.wrap (x6_1))) 1) = 1 then (if x5_1.length < 17592186044416 then (Za3.l0 k1 a1 (x5_1 ++ [bt263.1]) (wrap64 (x6_1 + 1)) a0_0 l0_1) else (none)) else (if x5_1.length < 17592186044416 then (Za3.l0 k1 a1 (x5_1 ++ [t260]) (wrap64 (x6_1 + 1)) a0_0 l0_1) else (none))) else (none))) = some r := H
     have A8 := Zab.mk A80
     clear A80
     replace H := Option.bind_eq_some_iff.mp H
     obtain ⟨⟨t263, t264⟩, A90, H⟩ := H
     replace H : (if 0 ≤ (IntKind.u64.wrap (x6_1)) then (if (Go.bits .and .i64 (shr .i64 a1 (IntKind.u64.wrap (x6_1))) 1) = 1 then (if x5_1.length < 17592186044416 then (Za3.l0 k1 a1 (x5_1 ++ [t263]) (wrap64 (x6_1 + 1)) a0_0 l0_1) else (none)) else (if x5_1.length < 17592186044416 then (Za3.l0 k1 a1 (x5_1 ++ [t260]) (wrap64 (x6_1 + 1)) a0_0 l0_1) else (none))) else (none)) = some r := H
     have A9 := Zab.mk A90
     clear A90
     obtain ⟨ji10, hji10⟩ : ∃ j_ : Int, (IntKind.u64.wrap (x6_1)) = j_ := ⟨_, rfl⟩
     replace H : (if 0 ≤ (ji10) then (if (Go.bits .and .i64 (shr .i64 a1 (ji10)) 1) = 1 then (if x5_1.length < 17592186044416 then (Za3.l0 k1 a1 (x5_1 ++ [t263]) (wrap64 (x6_1 + 1)) a0_0 l0_1) else (none)) else (if x5_1.length < 17592186044416 then (Za3.l0 k1 a1 (x5_1 ++ [t260]) (wrap64 (x6_1 + 1)) a0_0 l0_1) else (none))) else (none)) = some r := by first | (rw [hji10] at H; exact H) | (simp only [hji10] at H ⊢; exact H)
     (try rw [hji10] at A8)
     (try rw [hji10] at A9)
     by_cases c11 : 0 ≤ (ji10)
     ·rw [if_pos c11] at H
      have c11b0 := eq_true c11
      have c11b1 : decide (0 ≤ (ji10)) = true := decide_eq_true c11
      clear c11
      obtain ⟨ji12, hji12⟩ : ∃ j_ : Int, (shr .i64 a1 (ji10)) = j_ := ⟨_, rfl⟩
      replace H : (if (Go.bits .and .i64 (ji12) 1) = 1 then (if x5_1.length < 17592186044416 then (Za3.l0 k1 a1 (x5_1 ++ [t263]) (wrap64 (x6_1 + 1)) a0_0 l0_1) else (none)) else (if x5_1.length < 17592186044416 then (Za3.l0 k1 a1 (x5_1 ++ [t260]) (wrap64 (x6_1 + 1)) a0_0 l0_1) else (none))) = some r := by first | (rw [hji12] at H; exact H) | (simp only [hji12] at H ⊢; exact H)
      (try rw [hji12] at A8)
      (try rw [hji12] at A9)
      have hji12_ : (a1 / 2 ^ min (ji10).toNat 64) = ji12 := hji12
      have hji12z : (ji10) ≤ 64 → (a1 / 2 ^ (ji10).toNat) = ji12 := shr_small hji12
      by_cases c13 : (Go.bits .and .i64 (ji12) 1) = 1
      ·rw [if_pos c13] at H
       have c13b0 : ((Go.bits .and .i64 (ji12) 1) == 1) = true := beq_iff_eq.mpr c13
       have c13b1 : ((Go.bits .and .i64 (ji12) 1) != 1) = false := bne_eq_false_iff_eq.mpr c13
       clear c13
       by_cases c14 : x5_1.length < 17592186044416
       ·rw [if_pos c14] at H
        have LMc14 := Zab.mk c14
        clear c14
        obtain ⟨y265, hy265⟩ : ∃ y_ : List Int, y_ = (x5_1 ++ [t263]) := ⟨_, rfl⟩
        replace H : (Za3.l0 k1 a1 y265 (wrap64 (x6_1 + 1)) a0_0 l0_1) = some r := by first | (rw [hy265]; with_reducible exact H) | (have H2_ := (Option.bind_some _ _).symm.trans H; rw [hy265]; with_reducible exact H2_) | (have H2_ := (Option.bind_some _ _).symm.trans H; with_reducible exact H2_) | with_reducible exact H | (rw [hy265]; exact H) | exact H
        have Ny265 := Zab.mk hy265
        clear hy265
        have H' := Zab.mk H
        clear H
        have hcz15_0 : wr.cell? ⟨gb255, 0, none⟩ = some (.int .i64 a0_0) := (Zaj BK255.out 0).trans rfl
        have hcz15_1 : wr.cell? ⟨gb255, 1, none⟩ = some (.slice A0_1 l0_1.length c0_1) := (Zaj BK255.out 1).trans rfl
        have hfz15_0 := Zah BK255.out 0
        have hfz15_1 := Zah BK255.out 1
        have p259 : 0 ≤ (x6_1 : Int) := of_decide_eq_true (by first | (with_reducible assumption) | assumption)
        have q259 : x6_1 < (l0_1.length : Int) := of_decide_eq_true (by first | (with_reducible assumption) | assumption)
        obtain ⟨ad259, e259, hx259_0⟩ := Kd.at_int HR0_1.out x6_1 p259 q259
        cases e259
        try replace hx259_0 := (HB.out.cell (World.block_lt_of_cell? w _ hx259_0)).trans hx259_0
        replace p259 := eq_true p259
        replace q259 := eq_true q259
        go_wp2_with (first | (go_at_call 53; (with_reducible refine (spec_DivFloor.calls (rd l0_1 x6_1) a0_0 t260 t261 _ A8.out).mono ?_); rintro e w' ⟨rfl, ⟨nd, rfl⟩⟩; (try first | exact ⟨rfl, _, World.drewN_drewN _ _ _⟩ | exact ⟨rfl, _, Eq.trans (World.drewN_drewN _ _ _) (congrArg (World.drewN _) (Nat.add_assoc _ _ _))⟩); have p262 : 0 ≤ (x6_1 : Int) := of_decide_eq_true (by first | (with_reducible assumption) | assumption); have q262 : x6_1 < (l0_1.length : Int) := of_decide_eq_true (by first | (with_reducible assumption) | assumption); obtain ⟨ad262, e262, hx262_0⟩ := Kd.at_int HR0_1.out x6_1 p262 q262; obtain rfl : ad259 = ad262 := (by injection e262); replace hx262_0 := (HB.out.cell (World.block_lt_of_cell? w _ hx262_0)).trans hx262_0; replace p262 := eq_true p262; replace q262 := eq_true q262) | (go_at_call 54; (with_reducible refine (spec_DivCeiling.calls (rd l0_1 x6_1) a0_0 t263 t264 _ A9.out).mono ?_); rintro e w' ⟨rfl, ⟨nd, rfl⟩⟩; (try first | exact ⟨rfl, _, World.drewN_drewN _ _ _⟩ | exact ⟨rfl, _, Eq.trans (World.drewN_drewN _ _ _) (congrArg (World.drewN _) (Nat.add_assoc _ _ _))⟩)) | ((with_reducible refine gate_builtin (b := .append) (xs := #[.tmp 48, .tmp 50]) rfl ?_); at_builtin; refine Kd.R_append (Kd.int .i64) (w0 := w) w.heap.size rfl (.tmp 48) (.tmp 50) 22 2 (.int .i64 0) 8 rfl Try.underlying22 info2 rfl (by decide) (by omega) u5 x5_1 t263 [.int .i64 t263] (fun _ => True) (fun _ => False) rfl rfl ?aP (fun _ hk => hk.elim) ?aF ?aO ?aB ?aS ?aL ?_; (case aP => exact rfl); (case aB => exact (by repeat (first | (with_reducible first | exact HB.out | apply Zac | apply Zaa | apply Zad | refine Zae ?_ GE255.out) | exact HB.out))); (case aF => exact (fun _ _ => trivial)); (case aO => exact (by (with_reducible repeat (first | apply Kd.R_alloc | apply Kd.R_drewN | apply Kd.R_drew)); exact HO_5.out)); (case aS => exact (Zam (by repeat (first | (with_reducible first | exact HB.out | apply Zac | apply Zaa | apply Zad | refine Zae ?_ GE255.out) | exact HB.out)))); (case aL => have := LMc14.out; omega); intro v266 w16 ho hb hg hat; rw [← Ny265.out] at ho; have n0_ := Zab.mk (blk_grown (g := gb255) (o := .cells #[.int .i64 a0_0, .slice (some ad259) l0_1.length c0_1] 28 (0, 0)) (by (with_reducible repeat (first | refine Zag ?_ _ | refine Zak ?_ | refine Zaf ?_ _)); exact BK255.out) hg (Kd.R_ne HO_5.out BK255.out (by decide))); have n1_ := Zab.mk (hb); have n2_ := Zab.mk (ho); clear BK255; clear HB; clear HO_5; have BK255 := n0_; have HB := n1_; have HO267 := n2_; clear n0_ n1_ n2_; clear ho hb hg hat))
        repeat (go_quiet (first | (go_at_call 53; (with_reducible refine (spec_DivFloor.calls (rd l0_1 x6_1) a0_0 t260 t261 _ A8.out).mono ?_); rintro e w' ⟨rfl, ⟨nd, rfl⟩⟩; (try first | exact ⟨rfl, _, World.drewN_drewN _ _ _⟩ | exact ⟨rfl, _, Eq.trans (World.drewN_drewN _ _ _) (congrArg (World.drewN _) (Nat.add_assoc _ _ _))⟩); have p262 : 0 ≤ (x6_1 : Int) := of_decide_eq_true (by first | (with_reducible assumption) | assumption); have q262 : x6_1 < (l0_1.length : Int) := of_decide_eq_true (by first | (with_reducible assumption) | assumption); obtain ⟨ad262, e262, hx262_0⟩ := Kd.at_int HR0_1.out x6_1 p262 q262; obtain rfl : ad259 = ad262 := (by injection e262); replace hx262_0 := (HB.out.cell (World.block_lt_of_cell? w _ hx262_0)).trans hx262_0; replace p262 := eq_true p262; replace q262 := eq_true q262) | (go_at_call 54; (with_reducible refine (spec_DivCeiling.calls (rd l0_1 x6_1) a0_0 t263 t264 _ A9.out).mono ?_); rintro e w' ⟨rfl, ⟨nd, rfl⟩⟩; (try first | exact ⟨rfl, _, World.drewN_drewN _ _ _⟩ | exact ⟨rfl, _, Eq.trans (World.drewN_drewN _ _ _) (congrArg (World.drewN _) (Nat.add_assoc _ _ _))⟩)) | ((with_reducible refine gate_builtin (b := .append) (xs := #[.tmp 48, .tmp 50]) rfl ?_); at_builtin; refine Kd.R_append (Kd.int .i64) (w0 := w) w.heap.size rfl (.tmp 48) (.tmp 50) 22 2 (.int .i64 0) 8 rfl Try.underlying22 info2 rfl (by decide) (by omega) u5 x5_1 t263 [.int .i64 t263] (fun _ => True) (fun _ => False) rfl rfl ?aP (fun _ hk => hk.elim) ?aF ?aO ?aB ?aS ?aL ?_; (case aP => exact rfl); (case aB => exact (by repeat (first | (with_reducible first | exact HB.out | apply Zac | apply Zaa | apply Zad | refine Zae ?_ GE255.out) | exact HB.out))); (case aF => exact (fun _ _ => trivial)); (case aO => exact (by (with_reducible repeat (first | apply Kd.R_alloc | apply Kd.R_drewN | apply Kd.R_drew)); exact HO_5.out)); (case aS => exact (Zam (by repeat (first | (with_reducible first | exact HB.out | apply Zac | apply Zaa | apply Zad | refine Zae ?_ GE255.out) | exact HB.out)))); (case aL => have := LMc14.out; omega); intro v266 w16 ho hb hg hat; rw [← Ny265.out] at ho; have n0_ := Zab.mk (blk_grown (g := gb255) (o := .cells #[.int .i64 a0_0, .slice (some ad259) l0_1.length c0_1] 28 (0, 0)) (by (with_reducible repeat (first | refine Zag ?_ _ | refine Zak ?_ | refine Zaf ?_ _)); exact BK255.out) hg (Kd.R_ne HO_5.out BK255.out (by decide))); have n1_ := Zab.mk (hb); have n2_ := Zab.mk (ho); clear BK255; clear HB; clear HO_5; have BK255 := n0_; have HB := n1_; have HO267 := n2_; clear n0_ n1_ n2_; clear ho hb hg hat)); try go_wp2_with (first | (go_at_call 53; (with_reducible refine (spec_DivFloor.calls (rd l0_1 x6_1) a0_0 t260 t261 _ A8.out).mono ?_); rintro e w' ⟨rfl, ⟨nd, rfl⟩⟩; (try first | exact ⟨rfl, _, World.drewN_drewN _ _ _⟩ | exact ⟨rfl, _, Eq.trans (World.drewN_drewN _ _ _) (congrArg (World.drewN _) (Nat.add_assoc _ _ _))⟩); have p262 : 0 ≤ (x6_1 : Int) := of_decide_eq_true (by first | (with_reducible assumption) | assumption); have q262 : x6_1 < (l0_1.length : Int) := of_decide_eq_true (by first | (with_reducible assumption) | assumption); obtain ⟨ad262, e262, hx262_0⟩ := Kd.at_int HR0_1.out x6_1 p262 q262; obtain rfl : ad259 = ad262 := (by injection e262); replace hx262_0 := (HB.out.cell (World.block_lt_of_cell? w _ hx262_0)).trans hx262_0; replace p262 := eq_true p262; replace q262 := eq_true q262) | (go_at_call 54; (with_reducible refine (spec_DivCeiling.calls (rd l0_1 x6_1) a0_0 t263 t264 _ A9.out).mono ?_); rintro e w' ⟨rfl, ⟨nd, rfl⟩⟩; (try first | exact ⟨rfl, _, World.drewN_drewN _ _ _⟩ | exact ⟨rfl, _, Eq.trans (World.drewN_drewN _ _ _) (congrArg (World.drewN _) (Nat.add_assoc _ _ _))⟩)) | ((with_reducible refine gate_builtin (b := .append) (xs := #[.tmp 48, .tmp 50]) rfl ?_); at_builtin; refine Kd.R_append (Kd.int .i64) (w0 := w) w.heap.size rfl (.tmp 48) (.tmp 50) 22 2 (.int .i64 0) 8 rfl Try.underlying22 info2 rfl (by decide) (by omega) u5 x5_1 t263 [.int .i64 t263] (fun _ => True) (fun _ => False) rfl rfl ?aP (fun _ hk => hk.elim) ?aF ?aO ?aB ?aS ?aL ?_; (case aP => exact rfl); (case aB => exact (by repeat (first | (with_reducible first | exact HB.out | apply Zac | apply Zaa | apply Zad | refine Zae ?_ GE255.out) | exact HB.out))); (case aF => exact (fun _ _ => trivial)); (case aO => exact (by (with_reducible repeat (first | apply Kd.R_alloc | apply Kd.R_drewN | apply Kd.R_drew)); exact HO_5.out)); (case aS => exact (Zam (by repeat (first | (with_reducible first | exact HB.out | apply Zac | apply Zaa | apply Zad | refine Zae ?_ GE255.out) | exact HB.out)))); (case aL => have := LMc14.out; omega); intro v266 w16 ho hb hg hat; rw [← Ny265.out] at ho; have n0_ := Zab.mk (blk_grown (g := gb255) (o := .cells #[.int .i64 a0_0, .slice (some ad259) l0_1.length c0_1] 28 (0, 0)) (by (with_reducible repeat (first | refine Zag ?_ _ | refine Zak ?_ | refine Zaf ?_ _)); exact BK255.out) hg (Kd.R_ne HO_5.out BK255.out (by decide))); have n1_ := Zab.mk (hb); have n2_ := Zab.mk (ho); clear BK255; clear HB; clear HO_5; have BK255 := n0_; have HB := n1_; have HO267 := n2_; clear n0_ n1_ n2_; clear ho hb hg hat)))
        go_roundg k1
        case measure => have := HK1.out; omega
        case rel => exact ⟨(y265), (wrap64 (x6_1 + 1)), (by first | rfl | (simp; done) | (simp [*]; done) | (simp [IntWalk.i64_left, *]; done)), H', ⟨by have := HK1.out; omega⟩, ⟨by (with_reducible repeat (first | apply Kd.R_alloc | apply Kd.R_drewN | apply Kd.R_drew)); exact HO267.out⟩, ⟨by (with_reducible repeat (first | refine Zag ?_ _ | refine Zak ?_ | refine Zaf ?_ _)); exact BK255.out⟩, ⟨by repeat (first | (with_reducible first | exact HB.out | apply Zac | apply Zaa | apply Zad | refine Zae ?_ GE255.out) | exact HB.out)⟩⟩
       ·rw [if_neg c14] at H
        exact absurd H (by simp)
      ·rw [if_neg c13] at H
       have c13b0 : ((Go.bits .and .i64 (ji12) 1) == 1) = false := beq_eq_false_iff_ne.mpr c13
       have c13b1 : ((Go.bits .and .i64 (ji12) 1) != 1) = true := bne_iff_ne.mpr c13
       by_cases c17 : x5_1.length < 17592186044416
       ·rw [if_pos c17] at H
        have LMc17 := Zab.mk c17
        clear c17
        obtain ⟨y268, hy268⟩ : ∃ y_ : List Int, y_ = (x5_1 ++ [t260]) := ⟨_, rfl⟩
        replace H : (Za3.l0 k1 a1 y268 (wrap64 (x6_1 + 1)) a0_0 l0_1) = some r := by first | (rw [hy268]; with_reducible exact H) | (have H2_ := (Option.bind_some _ _).symm.trans H; rw [hy268]; with_reducible exact H2_) | (have H2_ := (Option.bind_some _ _).symm.trans H; with_reducible exact H2_) | with_reducible exact H | (rw [hy268]; exact H) | exact H
        have Ny268 := Zab.mk hy268
        clear hy268
        have H' := Zab.mk H
        clear H
        have hcz18_0 : wr.cell? ⟨gb255, 0, none⟩ = some (.int .i64 a0_0) := (Zaj BK255.out 0).trans rfl
        have hcz18_1 : wr.cell? ⟨gb255, 1, none⟩ = some (.slice A0_1 l0_1.length c0_1) := (Zaj BK255.out 1).trans rfl
        have hfz18_0 := Zah BK255.out 0
        have hfz18_1 := Zah BK255.out 1
        have p259 : 0 ≤ (x6_1 : Int) := of_decide_eq_true (by first | (with_reducible assumption) | assumption)
        have q259 : x6_1 < (l0_1.length : Int) := of_decide_eq_true (by first | (with_reducible assumption) | assumption)
        obtain ⟨ad259, e259, hx259_0⟩ := Kd.at_int HR0_1.out x6_1 p259 q259
        cases e259
        try replace hx259_0 := (HB.out.cell (World.block_lt_of_cell? w _ hx259_0)).trans hx259_0
        replace p259 := eq_true p259
        replace q259 := eq_true q259
        go_wp2_with (first | (go_at_call 53; (with_reducible refine (spec_DivFloor.calls (rd l0_1 x6_1) a0_0 t260 t261 _ A8.out).mono ?_); rintro e w' ⟨rfl, ⟨nd, rfl⟩⟩; (try first | exact ⟨rfl, _, World.drewN_drewN _ _ _⟩ | exact ⟨rfl, _, Eq.trans (World.drewN_drewN _ _ _) (congrArg (World.drewN _) (Nat.add_assoc _ _ _))⟩); have p262 : 0 ≤ (x6_1 : Int) := of_decide_eq_true (by first | (with_reducible assumption) | assumption); have q262 : x6_1 < (l0_1.length : Int) := of_decide_eq_true (by first | (with_reducible assumption) | assumption); obtain ⟨ad262, e262, hx262_0⟩ := Kd.at_int HR0_1.out x6_1 p262 q262; obtain rfl : ad259 = ad262 := (by injection e262); replace hx262_0 := (HB.out.cell (World.block_lt_of_cell? w _ hx262_0)).trans hx262_0; replace p262 := eq_true p262; replace q262 := eq_true q262) | (go_at_call 54; (with_reducible refine (spec_DivCeiling.calls (rd l0_1 x6_1) a0_0 t263 t264 _ A9.out).mono ?_); rintro e w' ⟨rfl, ⟨nd, rfl⟩⟩; (try first | exact ⟨rfl, _, World.drewN_drewN _ _ _⟩ | exact ⟨rfl, _, Eq.trans (World.drewN_drewN _ _ _) (congrArg (World.drewN _) (Nat.add_assoc _ _ _))⟩)) | ((with_reducible refine gate_builtin (b := .append) (xs := #[.tmp 48, .tmp 50]) rfl ?_); at_builtin; refine Kd.R_append (Kd.int .i64) (w0 := w) w.heap.size rfl (.tmp 48) (.tmp 50) 22 2 (.int .i64 0) 8 rfl Try.underlying22 info2 rfl (by decide) (by omega) u5 x5_1 t260 [.int .i64 t260] (fun _ => True) (fun _ => False) rfl rfl ?aP (fun _ hk => hk.elim) ?aF ?aO ?aB ?aS ?aL ?_; (case aP => exact rfl); (case aB => exact (by repeat (first | (with_reducible first | exact HB.out | apply Zac | apply Zaa | apply Zad | refine Zae ?_ GE255.out) | exact HB.out))); (case aF => exact (fun _ _ => trivial)); (case aO => exact (by (with_reducible repeat (first | apply Kd.R_alloc | apply Kd.R_drewN | apply Kd.R_drew)); exact HO_5.out)); (case aS => exact (Zam (by repeat (first | (with_reducible first | exact HB.out | apply Zac | apply Zaa | apply Zad | refine Zae ?_ GE255.out) | exact HB.out)))); (case aL => have := LMc17.out; omega); intro v269 w19 ho hb hg hat; rw [← Ny268.out] at ho; have n0_ := Zab.mk (blk_grown (g := gb255) (o := .cells #[.int .i64 a0_0, .slice (some ad259) l0_1.length c0_1] 28 (0, 0)) (by (with_reducible repeat (first | refine Zag ?_ _ | refine Zak ?_ | refine Zaf ?_ _)); exact BK255.out) hg (Kd.R_ne HO_5.out BK255.out (by decide))); have n1_ := Zab.mk (hb); have n2_ := Zab.mk (ho); clear BK255; clear HB; clear HO_5; have BK255 := n0_; have HB := n1_; have HO270 := n2_; clear n0_ n1_ n2_; clear ho hb hg hat))
        repeat (go_quiet (first | (go_at_call 53; (with_reducible refine (spec_DivFloor.calls (rd l0_1 x6_1) a0_0 t260 t261 _ A8.out).mono ?_); rintro e w' ⟨rfl, ⟨nd, rfl⟩⟩; (try first | exact ⟨rfl, _, World.drewN_drewN _ _ _⟩ | exact ⟨rfl, _, Eq.trans (World.drewN_drewN _ _ _) (congrArg (World.drewN _) (Nat.add_assoc _ _ _))⟩); have p262 : 0 ≤ (x6_1 : Int) := of_decide_eq_true (by first | (with_reducible assumption) | assumption); have q262 : x6_1 < (l0_1.length : Int) := of_decide_eq_true (by first | (with_reducible assumption) | assumption); obtain ⟨ad262, e262, hx262_0⟩ := Kd.at_int HR0_1.out x6_1 p262 q262; obtain rfl : ad259 = ad262 := (by injection e262); replace hx262_0 := (HB.out.cell (World.block_lt_of_cell? w _ hx262_0)).trans hx262_0; replace p262 := eq_true p262; replace q262 := eq_true q262) | (go_at_call 54; (with_reducible refine (spec_DivCeiling.calls (rd l0_1 x6_1) a0_0 t263 t264 _ A9.out).mono ?_); rintro e w' ⟨rfl, ⟨nd, rfl⟩⟩; (try first | exact ⟨rfl, _, World.drewN_drewN _ _ _⟩ | exact ⟨rfl, _, Eq.trans (World.drewN_drewN _ _ _) (congrArg (World.drewN _) (Nat.add_assoc _ _ _))⟩)) | ((with_reducible refine gate_builtin (b := .append) (xs := #[.tmp 48, .tmp 50]) rfl ?_); at_builtin; refine Kd.R_append (Kd.int .i64) (w0 := w) w.heap.size rfl (.tmp 48) (.tmp 50) 22 2 (.int .i64 0) 8 rfl Try.underlying22 info2 rfl (by decide) (by omega) u5 x5_1 t260 [.int .i64 t260] (fun _ => True) (fun _ => False) rfl rfl ?aP (fun _ hk => hk.elim) ?aF ?aO ?aB ?aS ?aL ?_; (case aP => exact rfl); (case aB => exact (by repeat (first | (with_reducible first | exact HB.out | apply Zac | apply Zaa | apply Zad | refine Zae ?_ GE255.out) | exact HB.out))); (case aF => exact (fun _ _ => trivial)); (case aO => exact (by (with_reducible repeat (first | apply Kd.R_alloc | apply Kd.R_drewN | apply Kd.R_drew)); exact HO_5.out)); (case aS => exact (Zam (by repeat (first | (with_reducible first | exact HB.out | apply Zac | apply Zaa | apply Zad | refine Zae ?_ GE255.out) | exact HB.out)))); (case aL => have := LMc17.out; omega); intro v269 w19 ho hb hg hat; rw [← Ny268.out] at ho; have n0_ := Zab.mk (blk_grown (g := gb255) (o := .cells #[.int .i64 a0_0, .slice (some ad259) l0_1.length c0_1] 28 (0, 0)) (by (with_reducible repeat (first | refine Zag ?_ _ | refine Zak ?_ | refine Zaf ?_ _)); exact BK255.out) hg (Kd.R_ne HO_5.out BK255.out (by decide))); have n1_ := Zab.mk (hb); have n2_ := Zab.mk (ho); clear BK255; clear HB; clear HO_5; have BK255 := n0_; have HB := n1_; have HO270 := n2_; clear n0_ n1_ n2_; clear ho hb hg hat)); try go_wp2_with (first | (go_at_call 53; (with_reducible refine (spec_DivFloor.calls (rd l0_1 x6_1) a0_0 t260 t261 _ A8.out).mono ?_); rintro e w' ⟨rfl, ⟨nd, rfl⟩⟩; (try first | exact ⟨rfl, _, World.drewN_drewN _ _ _⟩ | exact ⟨rfl, _, Eq.trans (World.drewN_drewN _ _ _) (congrArg (World.drewN _) (Nat.add_assoc _ _ _))⟩); have p262 : 0 ≤ (x6_1 : Int) := of_decide_eq_true (by first | (with_reducible assumption) | assumption); have q262 : x6_1 < (l0_1.length : Int) := of_decide_eq_true (by first | (with_reducible assumption) | assumption); obtain ⟨ad262, e262, hx262_0⟩ := Kd.at_int HR0_1.out x6_1 p262 q262; obtain rfl : ad259 = ad262 := (by injection e262); replace hx262_0 := (HB.out.cell (World.block_lt_of_cell? w _ hx262_0)).trans hx262_0; replace p262 := eq_true p262; replace q262 := eq_true q262) | (go_at_call 54; (with_reducible refine (spec_DivCeiling.calls (rd l0_1 x6_1) a0_0 t263 t264 _ A9.out).mono ?_); rintro e w' ⟨rfl, ⟨nd, rfl⟩⟩; (try first | exact ⟨rfl, _, World.drewN_drewN _ _ _⟩ | exact ⟨rfl, _, Eq.trans (World.drewN_drewN _ _ _) (congrArg (World.drewN _) (Nat.add_assoc _ _ _))⟩)) | ((with_reducible refine gate_builtin (b := .append) (xs := #[.tmp 48, .tmp 50]) rfl ?_); at_builtin; refine Kd.R_append (Kd.int .i64) (w0 := w) w.heap.size rfl (.tmp 48) (.tmp 50) 22 2 (.int .i64 0) 8 rfl Try.underlying22 info2 rfl (by decide) (by omega) u5 x5_1 t260 [.int .i64 t260] (fun _ => True) (fun _ => False) rfl rfl ?aP (fun _ hk => hk.elim) ?aF ?aO ?aB ?aS ?aL ?_; (case aP => exact rfl); (case aB => exact (by repeat (first | (with_reducible first | exact HB.out | apply Zac | apply Zaa | apply Zad | refine Zae ?_ GE255.out) | exact HB.out))); (case aF => exact (fun _ _ => trivial)); (case aO => exact (by (with_reducible repeat (first | apply Kd.R_alloc | apply Kd.R_drewN | apply Kd.R_drew)); exact HO_5.out)); (case aS => exact (Zam (by repeat (first | (with_reducible first | exact HB.out | apply Zac | apply Zaa | apply Zad | refine Zae ?_ GE255.out) | exact HB.out)))); (case aL => have := LMc17.out; omega); intro v269 w19 ho hb hg hat; rw [← Ny268.out] at ho; have n0_ := Zab.mk (blk_grown (g := gb255) (o := .cells #[.int .i64 a0_0, .slice (some ad259) l0_1.length c0_1] 28 (0, 0)) (by (with_reducible repeat (first | refine Zag ?_ _ | refine Zak ?_ | refine Zaf ?_ _)); exact BK255.out) hg (Kd.R_ne HO_5.out BK255.out (by decide))); have n1_ := Zab.mk (hb); have n2_ := Zab.mk (ho); clear BK255; clear HB; clear HO_5; have BK255 := n0_; have HB := n1_; have HO270 := n2_; clear n0_ n1_ n2_; clear ho hb hg hat)))
        go_roundg k1
        case measure => have := HK1.out; omega
        case rel => exact ⟨(y268), (wrap64 (x6_1 + 1)), (by first | rfl | (simp; done) | (simp [*]; done) | (simp [IntWalk.i64_left, *]; done)), H', ⟨by have := HK1.out; omega⟩, ⟨by (with_reducible repeat (first | apply Kd.R_alloc | apply Kd.R_drewN | apply Kd.R_drew)); exact HO270.out⟩, ⟨by (with_reducible repeat (first | refine Zag ?_ _ | refine Zak ?_ | refine Zaf ?_ _)); exact BK255.out⟩, ⟨by repeat (first | (with_reducible first | exact HB.out | apply Zac | apply Zaa | apply Zad | refine Zae ?_ GE255.out) | exact HB.out)⟩⟩
       ·rw [if_neg c17] at H
        exact absurd H (by simp)
     ·rw [if_neg c11] at H
      exact absurd H (by simp)
    ·rw [if_neg c7] at H
     exact absurd H (by simp)
   ·rw [if_neg c6] at H
    have c6b0 : decide (x6_1 < (l0_1.length : Int)) = false := decide_eq_false c6
    clear c6
    obtain rfl := Option.some.inj H
    have hcz20_0 : wr.cell? ⟨gb255, 0, none⟩ = some (.int .i64 a0_0) := (Zaj BK255.out 0).trans rfl
    have hcz20_1 : wr.cell? ⟨gb255, 1, none⟩ = some (.slice A0_1 l0_1.length c0_1) := (Zaj BK255.out 1).trans rfl
    have hfz20_0 := Zah BK255.out 0
    have hfz20_1 := Zah BK255.out 1
    go_wp2
    repeat (go_quiet (fail); try go_wp2)
    go_ret
    exact ⟨_, by first | rfl | (simp [Zat, Zas] <;> rfl) | (simp [*, Zat, Zas] <;> rfl), by (with_reducible repeat (first | apply Kd.R_alloc | apply Kd.R_drewN | apply Kd.R_drew)); exact HO_5.out, by repeat (first | (with_reducible first | exact HB.out | apply Zac | apply Zaa | apply Zad | refine Zae ?_ GE255.out) | exact HB.out)⟩
def spec_l01Is.l0 : Nat → Int → Int → List Int → Option (Bool)
 | 0, _, _, _ => none
 | k + 1, x3, x51000, x51001 => if x3 < (x51001.length : Int) then (if 0 ≤ x3 then ((spec_l00In.f (rd x51001 x3) (-1000000) 1000000).bind fun t272 => (if t272 = true then (spec_l01Is.l0 k (wrap64 (x3 + 1)) x51000 x51001) else (some false))) else (none)) else ((spec_l00In.f x51000 1 1000).bind fun t273 => (if t273 = true then (some (decide ((x51001.length : Int) ≤ 40))) else (some false)))
def spec_l01Is.f (k : Nat) (a0_0 : Int) (l0_1 : List Int) : Option (Bool) := spec_l01Is.l0 k 0 a0_0 l0_1
set_option maxHeartbeats 8000000 in
set_option maxRecDepth 100000 in
theorem spec_l01Is.calls (k : Nat) (gp50 : Nat) (a0_0 : Int) (A0_1 : Option Addr) (c0_1 : Nat) (l0_1 : List Int) (r : Bool) (w : World) (hb50 : w.heap[gp50]? = some (.cells #[.int .i64 a0_0, .slice A0_1 l0_1.length c0_1] 28 (0, 0))) (hr0_1 : Kd.C (Kd.int .i64) w A0_1 l0_1.length l0_1) (hc0_1 : l0_1.length ≤ c0_1) (h : spec_l01Is.f k a0_0 l0_1 = some r) :
  Calls Try.prog 30 #[.pointer (some ⟨gp50, 0, none⟩)] w fun e w' => e = .returned (.bool r) ∧ Below w.heap.size w w' := by
 have HR0_1 := Zab.mk hr0_1
 have HC0_1 := Zab.mk hc0_1
 clear hr0_1 hc0_1
 have BK50 := Zab.mk hb50
 clear hb50
 have HB := Zab.mk (Below.refl w.heap.size w)
 have H : (spec_l01Is.l0 k 0 a0_0 l0_1) = some r := h
 clear h
 have H' := Zab.mk H
 clear H
 go_enter Try.func30, Try.ntmps30
 go_wp2
 go_loopg [3] k (fun kq v3 w' => ∃ (x3_1 : Int), v3 = .int .i64 x3_1 ∧ Zab (spec_l01Is.l0 kq x3_1 a0_0 l0_1 = some r) ∧ Zab (kq ≤ k) ∧ Zab (w'.heap[gp50]? = some (.cells #[.int .i64 a0_0, (.slice A0_1 l0_1.length c0_1)] 28 (0, 0))) ∧ Zab (Below w.heap.size w w'))
 case atStart => exact ⟨(0), (by first | rfl | (simp; done) | (simp [*]; done)), H', ⟨Nat.le_refl _⟩, ⟨by (with_reducible repeat (first | refine Zag ?_ _ | refine Zak ?_ | refine Zaf ?_ _)); exact BK50.out⟩, ⟨by repeat (first | (with_reducible first | exact HB.out | apply Zac | apply Zaa | apply Zad | refine Zae ?_ GE50.out) | exact HB.out)⟩⟩
 case round =>
  clear H'
  obtain ⟨x3_1, rfl, HA, HK1, BK50, HB⟩ := hrel
  cases gk with
  | zero => exact absurd HA.out (by simp [spec_l01Is.l0])
  | succ k1 =>
   have H := HA.out
   clear HA
   simp only [spec_l01Is.l0] at H
   by_cases c2 : x3_1 < (l0_1.length : Int)
   ·rw [if_pos c2] at H
    have c2b0 : decide (x3_1 < (l0_1.length : Int)) = true := decide_eq_true c2
    clear c2
    by_cases c3 : 0 ≤ x3_1
    ·rw [if_pos c3] at H
     have c3b0 : decide (0 ≤ x3_1) = true := decide_eq_true c3
     clear c3
     replace H := Option.bind_eq_some_iff.mp H
     obtain ⟨t272, A40, H⟩ := H
     replace H : (if t272 = true then (spec_l01Is.l0 k1 (wrap64 (x3_1 + 1)) a0_0 l0_1) else (some false)) = some r := H
     have A4 := Zab.mk A40
     clear A40
     by_cases c5 : t272 = true
     ·subst c5
      have H1 : (spec_l01Is.l0 k1 (wrap64 (x3_1 + 1)) a0_0 l0_1) = some r := by rw [if_pos rfl] at H; exact H
      clear H
      have H := H1
      clear H1
      have H' := Zab.mk H
      clear H
      have hcz6_0 : wr.cell? ⟨gp50, 0, none⟩ = some (.int .i64 a0_0) := (Zaj BK50.out 0).trans rfl
      have hcz6_1 : wr.cell? ⟨gp50, 1, none⟩ = some (.slice A0_1 l0_1.length c0_1) := (Zaj BK50.out 1).trans rfl
      have hfz6_0 := Zah BK50.out 0
      have hfz6_1 := Zah BK50.out 1
      have p271 : 0 ≤ (x3_1 : Int) := of_decide_eq_true (by first | (with_reducible assumption) | assumption)
      have q271 : x3_1 < (l0_1.length : Int) := of_decide_eq_true (by first | (with_reducible assumption) | assumption)
      obtain ⟨ad271, e271, hx271_0⟩ := Kd.at_int HR0_1.out x3_1 p271 q271
      cases e271
      try replace hx271_0 := (HB.out.cell (World.block_lt_of_cell? w _ hx271_0)).trans hx271_0
      replace p271 := eq_true p271
      replace q271 := eq_true q271
      go_wp2_with (first | ((with_reducible refine Zax (f := 55) rfl ?_); refine goesL_ (some 20) rfl rfl Try.func55 (by kernel_rfl) rfl #[.int .i64 (rd l0_1 x3_1), .int .i64 (-1000000), .int .i64 1000000] rfl (by (try simp only [List.map_toArray, List.map_cons, List.map_nil]); first | done | rfl | (simp only [List.length_drop, List.length_take]; rfl)) ?_; (with_reducible refine (spec_l00In.calls (rd l0_1 x3_1) (-1000000) 1000000 true _ A4.out).mono ?_); rintro e w' ⟨rfl, ⟨nd, rfl⟩⟩; refine ⟨_, rfl, ?_⟩))
      go_roundg k1
      case measure => have := HK1.out; omega
      case rel => exact ⟨(wrap64 (x3_1 + 1)), (by first | rfl | (simp; done) | (simp [*]; done)), H', ⟨by have := HK1.out; omega⟩, ⟨by (with_reducible repeat (first | refine Zag ?_ _ | refine Zak ?_ | refine Zaf ?_ _)); exact BK50.out⟩, ⟨by repeat (first | (with_reducible first | exact HB.out | apply Zac | apply Zaa | apply Zad | refine Zae ?_ GE50.out) | exact HB.out)⟩⟩
     ·replace c5 := Bool.eq_false_iff.mpr c5
      subst c5
      have H1 : (some false) = some r := by rw [if_neg (show ¬ (false = true) by decide)] at H; exact H
      clear H
      have H := H1
      clear H1
      obtain rfl := Option.some.inj H
      have hcz7_0 : wr.cell? ⟨gp50, 0, none⟩ = some (.int .i64 a0_0) := (Zaj BK50.out 0).trans rfl
      have hcz7_1 : wr.cell? ⟨gp50, 1, none⟩ = some (.slice A0_1 l0_1.length c0_1) := (Zaj BK50.out 1).trans rfl
      have hfz7_0 := Zah BK50.out 0
      have hfz7_1 := Zah BK50.out 1
      have p271 : 0 ≤ (x3_1 : Int) := of_decide_eq_true (by first | (with_reducible assumption) | assumption)
      have q271 : x3_1 < (l0_1.length : Int) := of_decide_eq_true (by first | (with_reducible assumption) | assumption)
      obtain ⟨ad271, e271, hx271_0⟩ := Kd.at_int HR0_1.out x3_1 p271 q271
      cases e271
      try replace hx271_0 := (HB.out.cell (World.block_lt_of_cell? w _ hx271_0)).trans hx271_0
      replace p271 := eq_true p271
      replace q271 := eq_true q271
      go_wp2_with (first | ((with_reducible refine Zax (f := 55) rfl ?_); refine goesL_ (some 20) rfl rfl Try.func55 (by kernel_rfl) rfl #[.int .i64 (rd l0_1 x3_1), .int .i64 (-1000000), .int .i64 1000000] rfl (by (try simp only [List.map_toArray, List.map_cons, List.map_nil]); first | done | rfl | (simp only [List.length_drop, List.length_take]; rfl)) ?_; (with_reducible refine (spec_l00In.calls (rd l0_1 x3_1) (-1000000) 1000000 false _ A4.out).mono ?_); rintro e w' ⟨rfl, ⟨nd, rfl⟩⟩; refine ⟨_, rfl, ?_⟩))
      go_ret
      exact ⟨by first | rfl | (simp [Zat, Zas] <;> rfl) | (simp [*, Zat, Zas] <;> rfl), by repeat (first | (with_reducible first | exact HB.out | apply Zac | apply Zaa | apply Zad | refine Zae ?_ GE50.out) | exact HB.out)⟩
    ·rw [if_neg c3] at H
     exact absurd H (by simp)
   ·rw [if_neg c2] at H
    have c2b0 : decide (x3_1 < (l0_1.length : Int)) = false := decide_eq_false c2
    clear c2
    replace H := Option.bind_eq_some_iff.mp H
    obtain ⟨t273, A80, H⟩ := H
    replace H : (if t273 = true then (some (decide ((l0_1.length : Int) ≤ 40))) else (some false)) = some r := H
    have A8 := Zab.mk A80
    clear A80
    by_cases c9 : t273 = true
    ·subst c9
     have H1 : (some (decide ((l0_1.length : Int) ≤ 40))) = some r := by rw [if_pos rfl] at H; exact H
     clear H
     have H := H1
     clear H1
     obtain rfl := Option.some.inj H
     have hcz10_0 : wr.cell? ⟨gp50, 0, none⟩ = some (.int .i64 a0_0) := (Zaj BK50.out 0).trans rfl
     have hcz10_1 : wr.cell? ⟨gp50, 1, none⟩ = some (.slice A0_1 l0_1.length c0_1) := (Zaj BK50.out 1).trans rfl
     have hfz10_0 := Zah BK50.out 0
     have hfz10_1 := Zah BK50.out 1
     go_wp2_with (first | ((with_reducible refine Zax (f := 55) rfl ?_); refine goesL_ (some 26) rfl rfl Try.func55 (by kernel_rfl) rfl #[.int .i64 a0_0, .int .i64 1, .int .i64 1000] rfl (by (try simp only [List.map_toArray, List.map_cons, List.map_nil]); first | done | rfl | (simp only [List.length_drop, List.length_take]; rfl)) ?_; (with_reducible refine (spec_l00In.calls a0_0 1 1000 true _ A8.out).mono ?_); rintro e w' ⟨rfl, ⟨nd, rfl⟩⟩; refine ⟨_, rfl, ?_⟩))
     go_ret
     exact ⟨by first | rfl | (simp [Zat, Zas] <;> rfl) | (simp [*, Zat, Zas] <;> rfl), by repeat (first | (with_reducible first | exact HB.out | apply Zac | apply Zaa | apply Zad | refine Zae ?_ GE50.out) | exact HB.out)⟩
    ·replace c9 := Bool.eq_false_iff.mpr c9
     subst c9
     have H1 : (some false) = some r := by rw [if_neg (show ¬ (false = true) by decide)] at H; exact H
     clear H
     have H := H1
     clear H1
     obtain rfl := Option.some.inj H
     have hcz11_0 : wr.cell? ⟨gp50, 0, none⟩ = some (.int .i64 a0_0) := (Zaj BK50.out 0).trans rfl
     have hcz11_1 : wr.cell? ⟨gp50, 1, none⟩ = some (.slice A0_1 l0_1.length c0_1) := (Zaj BK50.out 1).trans rfl
     have hfz11_0 := Zah BK50.out 0
     have hfz11_1 := Zah BK50.out 1
     go_wp2_with (first | ((with_reducible refine Zax (f := 55) rfl ?_); refine goesL_ (some 26) rfl rfl Try.func55 (by kernel_rfl) rfl #[.int .i64 a0_0, .int .i64 1, .int .i64 1000] rfl (by (try simp only [List.map_toArray, List.map_cons, List.map_nil]); first | done | rfl | (simp only [List.length_drop, List.length_take]; rfl)) ?_; (with_reducible refine (spec_l00In.calls a0_0 1 1000 false _ A8.out).mono ?_); rintro e w' ⟨rfl, ⟨nd, rfl⟩⟩; refine ⟨_, rfl, ?_⟩))
     go_ret
     exact ⟨by first | rfl | (simp [Zat, Zas] <;> rfl) | (simp [*, Zat, Zas] <;> rfl), by repeat (first | (with_reducible first | exact HB.out | apply Zac | apply Zaa | apply Zad | refine Zae ?_ GE50.out) | exact HB.out)⟩
def spec_l03Running.l0 : Nat → List Int → List Int → Int → Int → Int → List Int → Option (List Int)
 | 0, _, _, _, _, _, _ => none
 | k + 1, x1, x5, x6, x7, x51000, x51001 => if x7 < (x1.length : Int) then (if 0 ≤ x7 then (if x7 < (x51001.length : Int) then (if x5.length < 17592186044416 then (spec_l03Running.l0 k x1 (x5 ++ [wrap64 (x6 + (wrap64 ((wrap64 (x51000 * (rd x1 x7))) - (rd x51001 x7))))]) (wrap64 (x6 + (wrap64 ((wrap64 (x51000 * (rd x1 x7))) - (rd x51001 x7))))) (wrap64 (x7 + 1)) x51000 x51001) else (none)) else (none)) else (none)) else (some x5)
def spec_l03Running.f (k : Nat) (a0_0 : Int) (l0_1 : List Int) (l1 : List Int) : Option (List Int) := spec_l03Running.l0 k l1 (([] : List Int)) 0 0 a0_0 l0_1
set_option maxHeartbeats 8000000 in
set_option maxRecDepth 100000 in
theorem spec_l03Running.calls (k : Nat) (gp50 : Nat) (a0_0 : Int) (A0_1 : Option Addr) (c0_1 : Nat) (l0_1 : List Int) (A1 : Option Addr) (c1 : Nat) (l1 : List Int) (r : List Int) (w : World) (hb50 : w.heap[gp50]? = some (.cells #[.int .i64 a0_0, .slice A0_1 l0_1.length c0_1] 28 (0, 0))) (hr0_1 : Kd.C (Kd.int .i64) w A0_1 l0_1.length l0_1) (hc0_1 : l0_1.length ≤ c0_1) (hr1 : Kd.C (Kd.int .i64) w A1 l1.length l1) (hc1 : l1.length ≤ c1) (h : spec_l03Running.f k a0_0 l0_1 l1 = some r) :
  Calls Try.prog 56 #[.pointer (some ⟨gp50, 0, none⟩), .slice A1 l1.length c1] w fun e w' => ∃ v0_ : Value, e = .returned (v0_) ∧ Kd.R (Kd.int .i64) 2 w' w.heap.size (fun _ => True) v0_ r ∧ Below w.heap.size w w' := by
 have HR0_1 := Zab.mk hr0_1
 have HC0_1 := Zab.mk hc0_1
 clear hr0_1 hc0_1
 have HR1 := Zab.mk hr1
 have HC1 := Zab.mk hc1
 clear hr1 hc1
 have BK50 := Zab.mk hb50
 clear hb50
 have HB := Zab.mk (Below.refl w.heap.size w)
 have H : (spec_l03Running.l0 k l1 (([] : List Int)) 0 0 a0_0 l0_1) = some r := h
 clear h
 obtain ⟨y274, hy274⟩ : ∃ y_ : List Int, y_ = (([] : List Int)) := ⟨_, rfl⟩
 replace H : (spec_l03Running.l0 k l1 y274 0 0 a0_0 l0_1) = some r := by first | (rw [hy274]; with_reducible exact H) | (have H2_ := (Option.bind_some _ _).symm.trans H; rw [hy274]; with_reducible exact H2_) | (have H2_ := (Option.bind_some _ _).symm.trans H; with_reducible exact H2_) | with_reducible exact H | (rw [hy274]; exact H) | exact H
 have Ny274 := Zab.mk hy274
 clear hy274
 have H' := Zab.mk H
 clear H
 go_enter Try.func56, Try.ntmps56
 go_wp2_with (first | ((with_reducible refine gate_dst (N := 8) rfl ?_); refine Kd.R_lit (Kd.int .i64) _ 2 ?hg (N := 8) ?hd (xs := ([] : List Int)) (inner := []) (ok := fun _ => True) (okp := fun _ => True) ?hr ?hp (fun _ hk => hk) trivial (Below.refl _ _) (Nat.le_refl _) (by simp) ?_; (case hd => rfl); (case hg => rfl); (case hr => first | (go_simp; done) | (go_simp; rfl)); (case hp => exact (Reps.none _ _)); intro v275 w3 ho4 hb hg_ hnew_; clear hg_ hnew_; (first | rw [← Ny274.out] at ho4 | (simp only [Int.reduceToNat] at ho4; rw [← Ny274.out] at ho4)); have n0_ := Zab.mk (Kd.R_lower ho4 (Zam (by repeat (first | (with_reducible first | exact HB.out | apply Zac | apply Zaa | apply Zad | refine Zae ?_ GE50.out) | exact HB.out)))); have n1_ := Zab.mk (Zao (g := gp50) (o := .cells #[.int .i64 a0_0, .slice A0_1 l0_1.length c0_1] 28 (0, 0)) (by (with_reducible repeat (first | refine Zag ?_ _ | refine Zak ?_ | refine Zaf ?_ _)); exact BK50.out) hb); have n2_ := Zab.mk (Zal (by repeat (first | (with_reducible first | exact HB.out | apply Zac | apply Zaa | apply Zad | refine Zae ?_ GE50.out) | exact HB.out)) hb); clear BK50; clear HB; have HO276 := n0_; have BK50 := n1_; have HB := n2_; clear n0_ n1_ n2_; clear hb ho4))
 repeat (go_quiet (first | ((with_reducible refine gate_dst (N := 8) rfl ?_); refine Kd.R_lit (Kd.int .i64) _ 2 ?hg (N := 8) ?hd (xs := ([] : List Int)) (inner := []) (ok := fun _ => True) (okp := fun _ => True) ?hr ?hp (fun _ hk => hk) trivial (Below.refl _ _) (Nat.le_refl _) (by simp) ?_; (case hd => rfl); (case hg => rfl); (case hr => first | (go_simp; done) | (go_simp; rfl)); (case hp => exact (Reps.none _ _)); intro v275 w3 ho4 hb hg_ hnew_; clear hg_ hnew_; (first | rw [← Ny274.out] at ho4 | (simp only [Int.reduceToNat] at ho4; rw [← Ny274.out] at ho4)); have n0_ := Zab.mk (Kd.R_lower ho4 (Zam (by repeat (first | (with_reducible first | exact HB.out | apply Zac | apply Zaa | apply Zad | refine Zae ?_ GE50.out) | exact HB.out)))); have n1_ := Zab.mk (Zao (g := gp50) (o := .cells #[.int .i64 a0_0, .slice A0_1 l0_1.length c0_1] 28 (0, 0)) (by (with_reducible repeat (first | refine Zag ?_ _ | refine Zak ?_ | refine Zaf ?_ _)); exact BK50.out) hb); have n2_ := Zab.mk (Zal (by repeat (first | (with_reducible first | exact HB.out | apply Zac | apply Zaa | apply Zad | refine Zae ?_ GE50.out) | exact HB.out)) hb); clear BK50; clear HB; have HO276 := n0_; have BK50 := n1_; have HB := n2_; clear n0_ n1_ n2_; clear hb ho4)); try go_wp2_with (first | ((with_reducible refine gate_dst (N := 8) rfl ?_); refine Kd.R_lit (Kd.int .i64) _ 2 ?hg (N := 8) ?hd (xs := ([] : List Int)) (inner := []) (ok := fun _ => True) (okp := fun _ => True) ?hr ?hp (fun _ hk => hk) trivial (Below.refl _ _) (Nat.le_refl _) (by simp) ?_; (case hd => rfl); (case hg => rfl); (case hr => first | (go_simp; done) | (go_simp; rfl)); (case hp => exact (Reps.none _ _)); intro v275 w3 ho4 hb hg_ hnew_; clear hg_ hnew_; (first | rw [← Ny274.out] at ho4 | (simp only [Int.reduceToNat] at ho4; rw [← Ny274.out] at ho4)); have n0_ := Zab.mk (Kd.R_lower ho4 (Zam (by repeat (first | (with_reducible first | exact HB.out | apply Zac | apply Zaa | apply Zad | refine Zae ?_ GE50.out) | exact HB.out)))); have n1_ := Zab.mk (Zao (g := gp50) (o := .cells #[.int .i64 a0_0, .slice A0_1 l0_1.length c0_1] 28 (0, 0)) (by (with_reducible repeat (first | refine Zag ?_ _ | refine Zak ?_ | refine Zaf ?_ _)); exact BK50.out) hb); have n2_ := Zab.mk (Zal (by repeat (first | (with_reducible first | exact HB.out | apply Zac | apply Zaa | apply Zad | refine Zae ?_ GE50.out) | exact HB.out)) hb); clear BK50; clear HB; have HO276 := n0_; have BK50 := n1_; have HB := n2_; clear n0_ n1_ n2_; clear hb ho4)))
 go_loopg [5, 6, 7] k (fun kq v5 v6 v7 w' => ∃ (x5_1 : List Int) (x6_1 : Int) (x7_1 : Int), v6 = .int .i64 x6_1 ∧ v7 = .int .i64 x7_1 ∧ Zab (spec_l03Running.l0 kq l1 x5_1 x6_1 x7_1 a0_0 l0_1 = some r) ∧ Zab (kq ≤ k) ∧ Zab (Kd.R (Kd.int .i64) 2 w' w.heap.size (fun _ => True) v5 x5_1) ∧ Zab (w'.heap[gp50]? = some (.cells #[.int .i64 a0_0, (.slice A0_1 l0_1.length c0_1)] 28 (0, 0))) ∧ Zab (Below w.heap.size w w'))
 case atStart => exact ⟨(y274), (0), (0), (by first | rfl | (simp; done) | (simp [*]; done) | (simp [IntWalk.i64_left, *]; done)), (by first | rfl | (simp; done) | (simp [*]; done) | (simp [IntWalk.i64_left, *]; done)), H', ⟨Nat.le_refl _⟩, ⟨by (with_reducible repeat (first | apply Kd.R_alloc | apply Kd.R_drewN | apply Kd.R_drew)); exact HO276.out⟩, ⟨by (with_reducible repeat (first | refine Zag ?_ _ | refine Zak ?_ | refine Zaf ?_ _)); exact BK50.out⟩, ⟨by repeat (first | (with_reducible first | exact HB.out | apply Zac | apply Zaa | apply Zad | refine Zae ?_ GE50.out) | exact HB.out)⟩⟩
 case round =>
  clear H'
  try clear c1
  try clear p2
  obtain ⟨x5_1, x6_1, x7_1, rfl, rfl, HA, HK1, HO_5, BK50, HB⟩ := hrel
  cases gk with
  | zero => exact absurd HA.out (by simp [spec_l03Running.l0])
  | succ k1 =>
   have H := HA.out
   clear HA
   simp only [spec_l03Running.l0] at H
   by_cases c5 : x7_1 < (l1.length : Int)
   ·rw [if_pos c5] at H
    have c5b0 : decide (x7_1 < (l1.length : Int)) = true := decide_eq_true c5
    clear c5
    by_cases c6 : 0 ≤ x7_1
    ·rw [if_pos c6] at H
     have c6b0 : decide (0 ≤ x7_1) = true := decide_eq_true c6
     clear c6
     by_cases c7 : x7_1 < (l0_1.length : Int)
     ·rw [if_pos c7] at H
      have c7b0 : decide (x7_1 < (l0_1.length : Int)) = true := decide_eq_true c7
      clear c7
      by_cases c8 : x5_1.length < 17592186044416
      ·rw [if_pos c8] at H
       have LMc8 := Zab.mk c8
       clear c8
       obtain ⟨y279, hy279⟩ : ∃ y_ : List Int, y_ = (x5_1 ++ [wrap64 (x6_1 + (wrap64 ((wrap64 (a0_0 * (rd l1 x7_1))) - (rd l0_1 x7_1))))]) := ⟨_, rfl⟩
       replace H : (spec_l03Running.l0 k1 l1 y279 (wrap64 (x6_1 + (wrap64 ((wrap64 (a0_0 * (rd l1 x7_1))) - (rd l0_1 x7_1))))) (wrap64 (x7_1 + 1)) a0_0 l0_1) = some r := by first | (rw [hy279]; with_reducible exact H) | (have H2_ := (Option.bind_some _ _).symm.trans H; rw [hy279]; with_reducible exact H2_) | (have H2_ := (Option.bind_some _ _).symm.trans H; with_reducible exact H2_) | with_reducible exact H | (rw [hy279]; exact H) | exact H
       have Ny279 := Zab.mk hy279
       clear hy279
       have H' := Zab.mk H
       clear H
       have hcz9_0 : wr.cell? ⟨gp50, 0, none⟩ = some (.int .i64 a0_0) := (Zaj BK50.out 0).trans rfl
       have hcz9_1 : wr.cell? ⟨gp50, 1, none⟩ = some (.slice A0_1 l0_1.length c0_1) := (Zaj BK50.out 1).trans rfl
       have hfz9_0 := Zah BK50.out 0
       have hfz9_1 := Zah BK50.out 1
       have p277 : 0 ≤ (x7_1 : Int) := of_decide_eq_true (by first | (with_reducible assumption) | assumption)
       have q277 : x7_1 < (l1.length : Int) := of_decide_eq_true (by first | (with_reducible assumption) | assumption)
       obtain ⟨ad277, e277, hx277_0⟩ := Kd.at_int HR1.out x7_1 p277 q277
       cases e277
       replace hx277_0 := (HB.out.cell (World.block_lt_of_cell? w _ hx277_0)).trans hx277_0
       replace p277 := eq_true p277
       replace q277 := eq_true q277
       have p278 : 0 ≤ (x7_1 : Int) := of_decide_eq_true (by first | (with_reducible assumption) | assumption)
       have q278 : x7_1 < (l0_1.length : Int) := of_decide_eq_true (by first | (with_reducible assumption) | assumption)
       obtain ⟨ad278, e278, hx278_0⟩ := Kd.at_int HR0_1.out x7_1 p278 q278
       cases e278
       try replace hx278_0 := (HB.out.cell (World.block_lt_of_cell? w _ hx278_0)).trans hx278_0
       replace p278 := eq_true p278
       replace q278 := eq_true q278
       go_wp2_with (first | ((with_reducible refine gate_builtin (b := .append) (xs := #[.tmp 34, .tmp 36]) rfl ?_); at_builtin; refine Kd.R_append (Kd.int .i64) (w0 := w) w.heap.size rfl (.tmp 34) (.tmp 36) 22 2 (.int .i64 0) 8 rfl Try.underlying22 info2 rfl (by decide) (by omega) u5 x5_1 (wrap64 (x6_1 + (wrap64 ((wrap64 (a0_0 * (rd l1 x7_1))) - (rd l0_1 x7_1))))) [.int .i64 (wrap64 (x6_1 + (wrap64 ((wrap64 (a0_0 * (rd l1 x7_1))) - (rd l0_1 x7_1)))))] (fun _ => True) (fun _ => False) rfl rfl ?aP (fun _ hk => hk.elim) ?aF ?aO ?aB ?aS ?aL ?_; (case aP => exact rfl); (case aB => exact (by repeat (first | (with_reducible first | exact HB.out | apply Zac | apply Zaa | apply Zad | refine Zae ?_ GE50.out) | exact HB.out))); (case aF => exact (fun _ _ => trivial)); (case aO => exact (by (with_reducible repeat (first | apply Kd.R_alloc | apply Kd.R_drewN | apply Kd.R_drew)); exact HO_5.out)); (case aS => exact (Zam (by repeat (first | (with_reducible first | exact HB.out | apply Zac | apply Zaa | apply Zad | refine Zae ?_ GE50.out) | exact HB.out)))); (case aL => have := LMc8.out; omega); intro v280 w10 ho hb hg hat; rw [← Ny279.out] at ho; have n0_ := Zab.mk (blk_grown (g := gp50) (o := .cells #[.int .i64 a0_0, .slice (some ad278) l0_1.length c0_1] 28 (0, 0)) (by (with_reducible repeat (first | refine Zag ?_ _ | refine Zak ?_ | refine Zaf ?_ _)); exact BK50.out) hg (Kd.R_ne HO_5.out BK50.out (by decide))); have n1_ := Zab.mk (hb); have n2_ := Zab.mk (ho); clear BK50; clear HB; clear HO_5; have BK50 := n0_; have HB := n1_; have HO281 := n2_; clear n0_ n1_ n2_; clear ho hb hg hat))
       repeat (go_quiet (first | ((with_reducible refine gate_builtin (b := .append) (xs := #[.tmp 34, .tmp 36]) rfl ?_); at_builtin; refine Kd.R_append (Kd.int .i64) (w0 := w) w.heap.size rfl (.tmp 34) (.tmp 36) 22 2 (.int .i64 0) 8 rfl Try.underlying22 info2 rfl (by decide) (by omega) u5 x5_1 (wrap64 (x6_1 + (wrap64 ((wrap64 (a0_0 * (rd l1 x7_1))) - (rd l0_1 x7_1))))) [.int .i64 (wrap64 (x6_1 + (wrap64 ((wrap64 (a0_0 * (rd l1 x7_1))) - (rd l0_1 x7_1)))))] (fun _ => True) (fun _ => False) rfl rfl ?aP (fun _ hk => hk.elim) ?aF ?aO ?aB ?aS ?aL ?_; (case aP => exact rfl); (case aB => exact (by repeat (first | (with_reducible first | exact HB.out | apply Zac | apply Zaa | apply Zad | refine Zae ?_ GE50.out) | exact HB.out))); (case aF => exact (fun _ _ => trivial)); (case aO => exact (by (with_reducible repeat (first | apply Kd.R_alloc | apply Kd.R_drewN | apply Kd.R_drew)); exact HO_5.out)); (case aS => exact (Zam (by repeat (first | (with_reducible first | exact HB.out | apply Zac | apply Zaa | apply Zad | refine Zae ?_ GE50.out) | exact HB.out)))); (case aL => have := LMc8.out; omega); intro v280 w10 ho hb hg hat; rw [← Ny279.out] at ho; have n0_ := Zab.mk (blk_grown (g := gp50) (o := .cells #[.int .i64 a0_0, .slice (some ad278) l0_1.length c0_1] 28 (0, 0)) (by (with_reducible repeat (first | refine Zag ?_ _ | refine Zak ?_ | refine Zaf ?_ _)); exact BK50.out) hg (Kd.R_ne HO_5.out BK50.out (by decide))); have n1_ := Zab.mk (hb); have n2_ := Zab.mk (ho); clear BK50; clear HB; clear HO_5; have BK50 := n0_; have HB := n1_; have HO281 := n2_; clear n0_ n1_ n2_; clear ho hb hg hat)); try go_wp2_with (first | ((with_reducible refine gate_builtin (b := .append) (xs := #[.tmp 34, .tmp 36]) rfl ?_); at_builtin; refine Kd.R_append (Kd.int .i64) (w0 := w) w.heap.size rfl (.tmp 34) (.tmp 36) 22 2 (.int .i64 0) 8 rfl Try.underlying22 info2 rfl (by decide) (by omega) u5 x5_1 (wrap64 (x6_1 + (wrap64 ((wrap64 (a0_0 * (rd l1 x7_1))) - (rd l0_1 x7_1))))) [.int .i64 (wrap64 (x6_1 + (wrap64 ((wrap64 (a0_0 * (rd l1 x7_1))) - (rd l0_1 x7_1)))))] (fun _ => True) (fun _ => False) rfl rfl ?aP (fun _ hk => hk.elim) ?aF ?aO ?aB ?aS ?aL ?_; (case aP => exact rfl); (case aB => exact (by repeat (first | (with_reducible first | exact HB.out | apply Zac | apply Zaa | apply Zad | refine Zae ?_ GE50.out) | exact HB.out))); (case aF => exact (fun _ _ => trivial)); (case aO => exact (by (with_reducible repeat (first | apply Kd.R_alloc | apply Kd.R_drewN | apply Kd.R_drew)); exact HO_5.out)); (case aS => exact (Zam (by repeat (first | (with_reducible first | exact HB.out | apply Zac | apply Zaa | apply Zad | refine Zae ?_ GE50.out) | exact HB.out)))); (case aL => have := LMc8.out; omega); intro v280 w10 ho hb hg hat; rw [← Ny279.out] at ho; have n0_ := Zab.mk (blk_grown (g := gp50) (o := .cells #[.int .i64 a0_0, .slice (some ad278) l0_1.length c0_1] 28 (0, 0)) (by (with_reducible repeat (first | refine Zag ?_ _ | refine Zak ?_ | refine Zaf ?_ _)); exact BK50.out) hg (Kd.R_ne HO_5.out BK50.out (by decide))); have n1_ := Zab.mk (hb); have n2_ := Zab.mk (ho); clear BK50; clear HB; clear HO_5; have BK50 := n0_; have HB := n1_; have HO281 := n2_; clear n0_ n1_ n2_; clear ho hb hg hat)))
       go_roundg k1
       case measure => have := HK1.out; omega
       case rel => exact ⟨(y279), (wrap64 (x6_1 + (wrap64 ((wrap64 (a0_0 * (rd l1 x7_1))) - (rd l0_1 x7_1))))), (wrap64 (x7_1 + 1)), (by first | rfl | (simp; done) | (simp [*]; done) | (simp [IntWalk.i64_left, *]; done)), (by first | rfl | (simp; done) | (simp [*]; done) | (simp [IntWalk.i64_left, *]; done)), H', ⟨by have := HK1.out; omega⟩, ⟨by (with_reducible repeat (first | apply Kd.R_alloc | apply Kd.R_drewN | apply Kd.R_drew)); exact HO281.out⟩, ⟨by (with_reducible repeat (first | refine Zag ?_ _ | refine Zak ?_ | refine Zaf ?_ _)); exact BK50.out⟩, ⟨by repeat (first | (with_reducible first | exact HB.out | apply Zac | apply Zaa | apply Zad | refine Zae ?_ GE50.out) | exact HB.out)⟩⟩
      ·rw [if_neg c8] at H
       exact absurd H (by simp)
     ·rw [if_neg c7] at H
      exact absurd H (by simp)
    ·rw [if_neg c6] at H
     exact absurd H (by simp)
   ·rw [if_neg c5] at H
    have c5b0 : decide (x7_1 < (l1.length : Int)) = false := decide_eq_false c5
    clear c5
    obtain rfl := Option.some.inj H
    go_wp2
    repeat (go_quiet (fail); try go_wp2)
    go_ret
    exact ⟨_, by first | rfl | (simp [Zat, Zas] <;> rfl) | (simp [*, Zat, Zas] <;> rfl), by (with_reducible repeat (first | apply Kd.R_alloc | apply Kd.R_drewN | apply Kd.R_drew)); exact HO_5.out, by repeat (first | (with_reducible first | exact HB.out | apply Zac | apply Zaa | apply Zad | refine Zae ?_ GE50.out) | exact HB.out)⟩
end Go.Proofs.Ytanflefkbbhimaa.P
