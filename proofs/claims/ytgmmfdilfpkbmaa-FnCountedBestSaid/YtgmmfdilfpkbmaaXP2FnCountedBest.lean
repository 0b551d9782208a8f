import Derived.Test.YtgmmfdilfpkbmaaXP0FnCountedBest
import Derived.Test.YtgmmfdilfpkbmaaXP1FnCountedBest
namespace Go.Proofs.Ytgmmfdilfpkbmaa.P
open Go.RowKit Go.Proofs.YtgmmfdilfpkbmaaW.PrintWords Go.Proofs.YtgmmfdilfpkbmaaW.PrintLast Go.Proofs.YtgmmfdilfpkbmaaW.PrintMore
attribute [local go_sem] max2_int min2_int max_two min_two max_three min_three max_four min_four
set_option linter.unusedVariables false
set_option linter.unusedSimpArgs false
def Zat.l0 : Nat → List Int → Int → Int → Int → Int → Option (Int)
 | 0, _, _, _, _, _ => none
 | k + 1, x0, x7, x8, x51000, x52000 => if x8 < x7 then (if 0 ≤ x8 then (if x8 < (x0.length : Int) then ((impl_areWithin_1_v.f (rd x0 x8) x51000 x52000).bind fun t143 => (if t143 = true then (some x8) else (Zat.l0 k x0 x7 (wrap64 (x8 + 1)) x51000 x52000))) else (none)) else (none)) else (some (-1))
def Zat.f (k : Nat) (l0 : List Int) (a1_0 : Int) (a1_1 : Int) : Option (Int) := Zat.l0 k l0 (l0.length : Int) 0 a1_0 a1_1
set_option maxHeartbeats 8000000 in
set_option maxRecDepth 100000 in
theorem Zat.calls (k : Nat) (A0 : Option Addr) (c0 : Nat) (l0 : List Int) (gp50 : Nat) (gp51 : Nat) (a1_0 : Int) (a1_1 : Int) (r : Int) (w : World) (hr0 : Kd.C (Kd.int .i64) w A0 l0.length l0) (hc0 : l0.length ≤ c0) (hb50 : w.heap[gp50]? = some (.cells #[.int .i64 a1_0] 2 (0, 0))) (hb51 : w.heap[gp51]? = some (.cells #[.int .i64 a1_1] 2 (0, 0))) (h : Zat.f k l0 a1_0 a1_1 = some r) :
  Calls Try.prog 60 #[.slice A0 l0.length c0, .func (.func 103) #[] #[.pointer (some ⟨gp50, 0, none⟩), .pointer (some ⟨gp51, 0, none⟩)]] w fun e w' => e = .returned (.int .i64 r) ∧ Below w.heap.size w w' := by
 have HR0 := Zab.mk hr0
 have HC0 := Zab.mk hc0
 clear hr0 hc0
 have BK50 := Zab.mk hb50
 clear hb50
 have BK51 := Zab.mk hb51
 clear hb51
 have HB := Zab.mk (Below.refl w.heap.size w)
 have H : (Zat.l0 k l0 (l0.length : Int) 0 a1_0 a1_1) = some r := h
 clear h
 have H' := Zab.mk H
 clear H
 go_enter Try.func60, Try.ntmps60
 go_wp2
 go_loopg [8] k (fun kq v8 w' => ∃ (x8_1 : Int), v8 = .int .i64 x8_1 ∧ Zab (Zat.l0 kq l0 (l0.length : Int) x8_1 a1_0 a1_1 = some r) ∧ Zab (kq ≤ k) ∧ Zab (w'.heap[gp50]? = some (.cells #[.int .i64 a1_0] 2 (0, 0))) ∧ Zab (w'.heap[gp51]? = some (.cells #[.int .i64 a1_1] 2 (0, 0))) ∧ Zab (Below w.heap.size w w'))
 case atStart => exact ⟨(0), (by first | rfl | (simp; done) | (simp [*]; done)), H', ⟨Nat.le_refl _⟩, ⟨by (with_reducible repeat (first | refine Zag ?_ _ | refine Zah ?_ | refine Zaf ?_ _)); exact BK50.out⟩, ⟨by (with_reducible repeat (first | refine Zag ?_ _ | refine Zah ?_ | refine Zaf ?_ _)); exact BK51.out⟩, ⟨by repeat (first | (with_reducible first | exact HB.out | apply Zad | apply Zaa | apply Zac | refine Zae ?_ GE50.out | refine Zae ?_ GE51.out) | exact HB.out)⟩⟩
 case round =>
  clear H'
  try clear p2
  obtain ⟨x8_1, rfl, HA, HK1, BK50, BK51, HB⟩ := hrel
  cases gk with
  | zero => exact absurd HA.out (by simp [Zat.l0])
  | succ k1 =>
   have H := HA.out
   clear HA
   simp only [Zat.l0] at H
   by_cases c3 : x8_1 < (l0.length : Int)
   ·rw [if_pos c3] at H
    have c3b0 : decide (x8_1 < (l0.length : Int)) = true := decide_eq_true c3
    clear c3
    by_cases c4 : 0 ≤ x8_1
    ·rw [if_pos c4] at H
     have c4b0 : decide (0 ≤ x8_1) = true := decide_eq_true c4
     clear c4
     by_cases c5 : x8_1 < (l0.length : Int)
     ·rw [if_pos c5] at H
      have c5b0 : decide (x8_1 < (l0.length : Int)) = true := decide_eq_true c5
      clear c5
      replace H := Option.bind_eq_some_iff.mp H
      obtain ⟨t143, A60, H⟩ := H
      replace H : (if t143 = true then (some x8_1) else (Zat.l0 k1 l0 (l0.length : Int) (wrap64 (x8_1 + 1)) a1_0 a1_1)) = some r := H
      have A6 := Zab.mk A60
      clear A60
      by_cases c7 : t143 = true
      ·subst c7
       have H1 : (some x8_1) = some r := by rw [if_pos rfl] at H; exact H
       clear H
       have H := H1
       clear H1
       obtain rfl := Option.some.inj H
       have p142 : 0 ≤ (x8_1 : Int) := of_decide_eq_true (by first | (with_reducible assumption) | assumption)
       have q142 : x8_1 < (l0.length : Int) := of_decide_eq_true (by first | (with_reducible assumption) | assumption)
       obtain ⟨ad142, e142, hx142_0⟩ := Kd.at_int HR0.out x8_1 p142 q142
       cases e142
       replace hx142_0 := (HB.out.cell (World.block_lt_of_cell? w _ hx142_0)).trans hx142_0
       replace p142 := eq_true p142
       replace q142 := eq_true q142
       go_wp2_with (first | ((with_reducible refine gate_through (j := 11) rfl ?_); refine goesV_ (some 16) rfl rfl Try.func103 (by kernel_rfl) rfl #[.int .i64 (rd l0 x8_1), .pointer (some ⟨gp50, 0, none⟩), .pointer (some ⟨gp51, 0, none⟩)] rfl rfl (by (try simp only [List.map_toArray, List.map_cons, List.map_nil]); first | done | rfl | (simp only [List.length_drop, List.length_take]; rfl)) ?_; (with_reducible refine (impl_areWithin_1_v.calls (rd l0 x8_1) gp50 a1_0 gp51 a1_1 true _ ?side1 ?side2 A6.out).mono ?_); (case side1 => exact (by (with_reducible repeat (first | refine Zag ?_ _ | refine Zah ?_ | refine Zaf ?_ _)); exact BK50.out)); (case side2 => exact (by (with_reducible repeat (first | refine Zag ?_ _ | refine Zah ?_ | refine Zaf ?_ _)); exact BK51.out)); rintro e w8 ⟨rfl, hb⟩; refine ⟨_, rfl, ?_⟩; have n0_ := Zab.mk (Zaq (g := gp50) (o := .cells #[.int .i64 a1_0] 2 (0, 0)) (by (with_reducible repeat (first | refine Zag ?_ _ | refine Zah ?_ | refine Zaf ?_ _)); exact BK50.out) hb); have n1_ := Zab.mk (Zaq (g := gp51) (o := .cells #[.int .i64 a1_1] 2 (0, 0)) (by (with_reducible repeat (first | refine Zag ?_ _ | refine Zah ?_ | refine Zaf ?_ _)); exact BK51.out) hb); have n2_ := Zab.mk (Zap (by repeat (first | (with_reducible first | exact HB.out | apply Zad | apply Zaa | apply Zac | refine Zae ?_ GE50.out | refine Zae ?_ GE51.out) | exact HB.out)) hb); clear BK50; clear BK51; clear HB; have BK50 := n0_; have BK51 := n1_; have HB := n2_; clear n0_ n1_ n2_; (try clear hb); (try clear hb2); (try clear hk); (try clear hi)))
       go_ret
       exact ⟨by first | rfl | (simp [Zas, Zar] <;> rfl) | (simp [*, Zas, Zar] <;> rfl), by repeat (first | (with_reducible first | exact HB.out | apply Zad | apply Zaa | apply Zac | refine Zae ?_ GE50.out | refine Zae ?_ GE51.out) | exact HB.out)⟩
      ·replace c7 := Bool.eq_false_iff.mpr c7
       subst c7
       have H1 : (Zat.l0 k1 l0 (l0.length : Int) (wrap64 (x8_1 + 1)) a1_0 a1_1) = some r := by rw [if_neg (show ¬ (false = true) by decide)] at H; exact H
       clear H
       have H := H1
       clear H1
       have H' := Zab.mk H
       clear H
       have p142 : 0 ≤ (x8_1 : Int) := of_decide_eq_true (by first | (with_reducible assumption) | assumption)
       have q142 : x8_1 < (l0.length : Int) := of_decide_eq_true (by first | (with_reducible assumption) | assumption)
       obtain ⟨ad142, e142, hx142_0⟩ := Kd.at_int HR0.out x8_1 p142 q142
       cases e142
       replace hx142_0 := (HB.out.cell (World.block_lt_of_cell? w _ hx142_0)).trans hx142_0
       replace p142 := eq_true p142
       replace q142 := eq_true q142
       go_wp2_with (first | ((with_reducible refine gate_through (j := 11) rfl ?_); refine goesV_ (some 16) rfl rfl Try.func103 (by kernel_rfl) rfl #[.int .i64 (rd l0 x8_1), .pointer (some ⟨gp50, 0, none⟩), .pointer (some ⟨gp51, 0, none⟩)] rfl rfl (by (try simp only [List.map_toArray, List.map_cons, List.map_nil]); first | done | rfl | (simp only [List.length_drop, List.length_take]; rfl)) ?_; (with_reducible refine (impl_areWithin_1_v.calls (rd l0 x8_1) gp50 a1_0 gp51 a1_1 false _ ?side1 ?side2 A6.out).mono ?_); (case side1 => exact (by (with_reducible repeat (first | refine Zag ?_ _ | refine Zah ?_ | refine Zaf ?_ _)); exact BK50.out)); (case side2 => exact (by (with_reducible repeat (first | refine Zag ?_ _ | refine Zah ?_ | refine Zaf ?_ _)); exact BK51.out)); rintro e w9 ⟨rfl, hb⟩; refine ⟨_, rfl, ?_⟩; have n0_ := Zab.mk (Zaq (g := gp50) (o := .cells #[.int .i64 a1_0] 2 (0, 0)) (by (with_reducible repeat (first | refine Zag ?_ _ | refine Zah ?_ | refine Zaf ?_ _)); exact BK50.out) hb); have n1_ := Zab.mk (Zaq (g := gp51) (o := .cells #[.int .i64 a1_1] 2 (0, 0)) (by (with_reducible repeat (first | refine Zag ?_ _ | refine Zah ?_ | refine Zaf ?_ _)); exact BK51.out) hb); have n2_ := Zab.mk (Zap (by repeat (first | (with_reducible first | exact HB.out | apply Zad | apply Zaa | apply Zac | refine Zae ?_ GE50.out | refine Zae ?_ GE51.out) | exact HB.out)) hb); clear BK50; clear BK51; clear HB; have BK50 := n0_; have BK51 := n1_; have HB := n2_; clear n0_ n1_ n2_; (try clear hb); (try clear hb2); (try clear hk); (try clear hi)))
       go_roundg k1
       case measure => have := HK1.out; omega
       case rel => exact ⟨(wrap64 (x8_1 + 1)), (by first | rfl | (simp; done) | (simp [*]; done)), H', ⟨by have := HK1.out; omega⟩, ⟨by (with_reducible repeat (first | refine Zag ?_ _ | refine Zah ?_ | refine Zaf ?_ _)); exact BK50.out⟩, ⟨by (with_reducible repeat (first | refine Zag ?_ _ | refine Zah ?_ | refine Zaf ?_ _)); exact BK51.out⟩, ⟨by repeat (first | (with_reducible first | exact HB.out | apply Zad | apply Zaa | apply Zac | refine Zae ?_ GE50.out | refine Zae ?_ GE51.out) | exact HB.out)⟩⟩
     ·rw [if_neg c5] at H
      exact absurd H (by simp)
    ·rw [if_neg c4] at H
     exact absurd H (by simp)
   ·rw [if_neg c3] at H
    have c3b0 : decide (x8_1 < (l0.length : Int)) = false := decide_eq_false c3
    clear c3
    obtain rfl := Option.some.inj H
    go_wp2
    go_ret
    exact ⟨by first | rfl | (simp [Zas, Zar] <;> rfl) | (simp [*, Zas, Zar] <;> rfl), by repeat (first | (with_reducible first | exact HB.out | apply Zad | apply Zaa | apply Zac | refine Zae ?_ GE50.out | refine Zae ?_ GE51.out) | exact HB.out)⟩
def Za8.f (k : Nat) (l0 : List Int) (a1_0 : Int) (a1_1 : Int) : Option (Bool) := (Zat.f k l0 a1_0 a1_1).bind fun t144 => (some (decide (t144 ≥ 0)))
set_option maxHeartbeats 8000000 in
set_option maxRecDepth 100000 in
theorem Za8.calls (k : Nat) (A0 : Option Addr) (c0 : Nat) (l0 : List Int) (gp50 : Nat) (gp51 : Nat) (a1_0 : Int) (a1_1 : Int) (r : Bool) (w : World) (hr0 : Kd.C (Kd.int .i64) w A0 l0.length l0) (hc0 : l0.length ≤ c0) (hb50 : w.heap[gp50]? = some (.cells #[.int .i64 a1_0] 2 (0, 0))) (hb51 : w.heap[gp51]? = some (.cells #[.int .i64 a1_1] 2 (0, 0))) (h : Za8.f k l0 a1_0 a1_1 = some r) :
  Calls Try.prog 102 #[.slice A0 l0.length c0, .func (.func 103) #[] #[.pointer (some ⟨gp50, 0, none⟩), .pointer (some ⟨gp51, 0, none⟩)]] w fun e w' => e = .returned (.bool r) ∧ Below w.heap.size w w' := by
 have HR0 := Zab.mk hr0
 have HC0 := Zab.mk hc0
 clear hr0 hc0
 have BK50 := Zab.mk hb50
 clear hb50
 have BK51 := Zab.mk hb51
 clear hb51
 have HB := Zab.mk (Below.refl w.heap.size w)
 have H : ((Zat.f k l0 a1_0 a1_1).bind fun t144 => (some (decide (t144 ≥ 0)))) = some r := h
 clear h
 replace H := Option.bind_eq_some_iff.mp H
 obtain ⟨t144, A30, H⟩ := H
 replace H : (some (decide (t144 ≥ 0))) = some r := H
 have A3 := Zab.mk A30
 clear A30
 obtain rfl := Option.some.inj H
 go_enter Try.func102, Try.ntmps102
 go_wp2_with (first | ((with_reducible refine Zay (f := 60) rfl ?_); refine goesL_ (some 7) rfl rfl Try.func60 (by kernel_rfl) rfl #[.slice A0 l0.length c0, .func (.func 103) #[] #[.pointer (some ⟨gp50, 0, none⟩), .pointer (some ⟨gp51, 0, none⟩)]] rfl (by (try simp only [List.map_toArray, List.map_cons, List.map_nil]); first | done | rfl | (simp only [List.length_drop, List.length_take]; rfl)) ?_; (with_reducible refine (Zat.calls k _ _ l0 gp50 gp51 a1_0 a1_1 t144 _ ?side1 ?side2 ?side3 ?side4 A3.out).mono ?_); (case side1 => repeat (first | exact HR0.out | (with_reducible refine Kd.C_alloc ?_ _) | (with_reducible refine Kd.C_drewN ?_ _) | (with_reducible refine Kd.C_drew ?_))); (case side2 => exact HC0.out); (case side3 => exact (by (with_reducible repeat (first | refine Zag ?_ _ | refine Zah ?_ | refine Zaf ?_ _)); exact BK50.out)); (case side4 => exact (by (with_reducible repeat (first | refine Zag ?_ _ | refine Zah ?_ | refine Zaf ?_ _)); exact BK51.out)); rintro e w4 ⟨rfl, hb⟩; refine ⟨_, rfl, ?_⟩; have n0_ := Zab.mk (Zaq (g := gp50) (o := .cells #[.int .i64 a1_0] 2 (0, 0)) (by (with_reducible repeat (first | refine Zag ?_ _ | refine Zah ?_ | refine Zaf ?_ _)); exact BK50.out) hb); have n1_ := Zab.mk (Zaq (g := gp51) (o := .cells #[.int .i64 a1_1] 2 (0, 0)) (by (with_reducible repeat (first | refine Zag ?_ _ | refine Zah ?_ | refine Zaf ?_ _)); exact BK51.out) hb); have n2_ := Zab.mk (Zap (by repeat (first | (with_reducible first | exact HB.out | apply Zad | apply Zaa | apply Zac | refine Zae ?_ GE50.out | refine Zae ?_ GE51.out) | exact HB.out)) hb); clear BK50; clear BK51; clear HB; have BK50 := n0_; have BK51 := n1_; have HB := n2_; clear n0_ n1_ n2_; (try clear hb); (try clear hb2); (try clear hk); (try clear hi)))
 go_ret
 exact ⟨by first | rfl | (simp [Zas, Zar] <;> rfl) | (simp [*, Zas, Zar] <;> rfl), by repeat (first | (with_reducible first | exact HB.out | apply Zad | apply Zaa | apply Zac | refine Zae ?_ GE50.out | refine Zae ?_ GE51.out) | exact HB.out)⟩
def impl_areWithin.f (k : Nat) (l0 : List Int) (a1 : Int) (a2 : Int) : Option (Bool) := (Za8.f k l0 a1 a2).bind fun t147 => (some (!t147))
set_option maxHeartbeats 8000000 in
set_option maxRecDepth 100000 in
theorem impl_areWithin.calls (k : Nat) (A0 : Option Addr) (c0 : Nat) (l0 : List Int) (a1 : Int) (a2 : Int) (r : Bool) (w : World) (hr0 : Kd.C (Kd.int .i64) w A0 l0.length l0) (hc0 : l0.length ≤ c0) (h : impl_areWithin.f k l0 a1 a2 = some r) :
  Calls Try.prog 69 #[.slice A0 l0.length c0, .int .i64 a1, .int .i64 a2] w fun e w' => e = .returned (.bool r) ∧ Below w.heap.size w w' := by
 have HR0 := Zab.mk hr0
 have HC0 := Zab.mk hc0
 clear hr0 hc0
 have HB := Zab.mk (Below.refl w.heap.size w)
 have H : ((Za8.f k l0 a1 a2).bind fun t147 => (some (!t147))) = some r := h
 clear h
 replace H := Option.bind_eq_some_iff.mp H
 obtain ⟨t147, A40, H⟩ := H
 replace H : (some (!t147)) = some r := H
 have A4 := Zab.mk A40
 clear A40
 obtain rfl := Option.some.inj H
 go_enter Try.func69, Try.ntmps69
 go_wp2_with (first | ((with_reducible refine gate_dst (N := 4) rfl ?_); refine box_event ?hg (N := 4) ?hd (cs := #[.int .i64 a1]) (t := 2) ?hr ?_; (case hd => rfl); (case hg => rfl); (case hr => first | (go_simp; done) | (go_simp; rfl)); intro gb145 hg w5 hbox hb; have n0_ := Zab.mk (Zap (by repeat (first | (with_reducible first | exact HB.out | apply Zad | apply Zaa | apply Zac) | exact HB.out)) hb); have n1_ := Zab.mk (hbox); have n2_ := Zab.mk ((by rw [hg]; exact (Zan (by repeat (first | (with_reducible first | exact HB.out | apply Zad | apply Zaa | apply Zac) | exact HB.out))) : w.heap.size ≤ gb145)); have n3_ := Zab.mk ((by rw [hg]; exact (Zan (by repeat (first | (with_reducible first | exact HB.out | apply Zad | apply Zaa | apply Zac) | exact HB.out))) : w.heap.size ≤ gb145)); clear HB; have HB := n0_; have BK145 := n1_; have GW145 := n2_; have GE145 := n3_; clear n0_ n1_ n2_ n3_; clear hb hbox hg) | ((with_reducible refine gate_dst (N := 5) rfl ?_); refine box_event ?hg (N := 5) ?hd (cs := #[.int .i64 a2]) (t := 2) ?hr ?_; (case hd => rfl); (case hg => rfl); (case hr => first | (go_simp; done) | (go_simp; rfl)); intro gb146 hg w6 hbox hb; have n0_ := Zab.mk (Zaq (g := gb145) (o := .cells #[.int .i64 a1] 2 (0, 0)) (by (with_reducible repeat (first | refine Zag ?_ _ | refine Zah ?_ | refine Zaf ?_ _)); exact BK145.out) hb); have n1_ := Zab.mk (Zap (by repeat (first | (with_reducible first | exact HB.out | apply Zad | apply Zaa | apply Zac | refine Zae ?_ GE145.out) | exact HB.out)) hb); have n2_ := Zab.mk (hbox); have n3_ := Zab.mk ((by rw [hg]; exact (Zan (by repeat (first | (with_reducible first | exact HB.out | apply Zad | apply Zaa | apply Zac | refine Zae ?_ GE145.out) | exact HB.out))) : w.heap.size ≤ gb146)); have n4_ := Zab.mk ((by rw [hg]; exact (Zan (by repeat (first | (with_reducible first | exact HB.out | apply Zad | apply Zaa | apply Zac | refine Zae ?_ GE145.out) | exact HB.out))) : w.heap.size ≤ gb146)); have n5_ := Zab.mk ((by rw [hg]; exact Nat.ne_of_lt (blk_lt (g := gb145) (o := .cells #[.int .i64 a1] 2 (0, 0)) (by (with_reducible repeat (first | refine Zag ?_ _ | refine Zah ?_ | refine Zaf ?_ _)); exact BK145.out)) : gb145 ≠ gb146)); have n6_ := Zab.mk ((by rw [hg]; exact Nat.ne_of_gt (blk_lt (g := gb145) (o := .cells #[.int .i64 a1] 2 (0, 0)) (by (with_reducible repeat (first | refine Zag ?_ _ | refine Zah ?_ | refine Zaf ?_ _)); exact BK145.out)) : gb146 ≠ gb145)); clear BK145; clear HB; have BK145 := n0_; have HB := n1_; have BK146 := n2_; have GW146 := n3_; have GE146 := n4_; have NB145_146 := n5_; have NB146_145 := n6_; clear n0_ n1_ n2_ n3_ n4_ n5_ n6_; clear hb hbox hg) | ((with_reducible refine Zay (f := 102) rfl ?_); refine goesL_ (some 9) rfl rfl Try.func102 (by kernel_rfl) rfl #[.slice A0 l0.length c0, .func (.func 103) #[] #[.pointer (some ⟨gb145, 0, none⟩), .pointer (some ⟨gb146, 0, none⟩)]] rfl (by (try simp only [List.map_toArray, List.map_cons, List.map_nil]); first | done | rfl | (simp only [List.length_drop, List.length_take]; rfl)) ?_; (with_reducible refine (Za8.calls k _ _ l0 gb145 gb146 a1 a2 t147 _ ?side1 ?side2 ?side3 ?side4 A4.out).mono ?_); (case side1 => repeat (first | exact (Kd.C_below HR0.out HB.out) | (with_reducible refine Kd.C_alloc ?_ _) | (with_reducible refine Kd.C_drewN ?_ _) | (with_reducible refine Kd.C_drew ?_))); (case side2 => exact HC0.out); (case side3 => exact (by (with_reducible repeat (first | refine Zag ?_ _ | refine Zah ?_ | refine Zaf ?_ _)); exact BK145.out)); (case side4 => exact (by (with_reducible repeat (first | refine Zag ?_ _ | refine Zah ?_ | refine Zaf ?_ _)); exact BK146.out)); rintro e w7 ⟨rfl, hb⟩; refine ⟨_, rfl, ?_⟩; have n0_ := Zab.mk (Zaq (g := gb145) (o := .cells #[.int .i64 a1] 2 (0, 0)) (by (with_reducible repeat (first | refine Zag ?_ _ | refine Zah ?_ | refine Zaf ?_ _)); exact BK145.out) hb); have n1_ := Zab.mk (Zaq (g := gb146) (o := .cells #[.int .i64 a2] 2 (0, 0)) (by (with_reducible repeat (first | refine Zag ?_ _ | refine Zah ?_ | refine Zaf ?_ _)); exact BK146.out) hb); have n2_ := Zab.mk (Zap (by repeat (first | (with_reducible first | exact HB.out | apply Zad | apply Zaa | apply Zac | refine Zae ?_ GE145.out | refine Zae ?_ GE146.out) | exact HB.out)) hb); clear BK145; clear BK146; clear HB; have BK145 := n0_; have BK146 := n1_; have HB := n2_; clear n0_ n1_ n2_; (try clear hb); (try clear hb2); (try clear hk); (try clear hi)))
 go_ret
 exact ⟨by first | rfl | (simp [Zas, Zar] <;> rfl) | (simp [*, Zas, Zar] <;> rfl), by repeat (first | (with_reducible first | exact HB.out | apply Zad | apply Zaa | apply Zac | refine Zae ?_ GE145.out | refine Zae ?_ GE146.out) | exact HB.out)⟩
def impl_ValidValues.f (k : Nat) (a0_0 : Int) (l0_1 : List Int) : Option (Bool) := (impl_within.f a0_0 1 1000).bind fun t149 => (if t149 = true then (if (l0_1.length : Int) ≤ 40 then ((impl_areWithin.f k l0_1 (-1000000) 1000000).bind fun t150 => (some t150)) else (some false)) else (some false))
set_option maxHeartbeats 8000000 in
set_option maxRecDepth 100000 in
theorem impl_ValidValues.calls (k : Nat) (a0_0 : Int) (A0_1 : Option Addr) (c0_1 : Nat) (l0_1 : List Int) (r : Bool) (w : World) (hr0_1 : Kd.C (Kd.int .i64) w A0_1 l0_1.length l0_1) (hc0_1 : l0_1.length ≤ c0_1) (h : impl_ValidValues.f k a0_0 l0_1 = some r) :
  Calls Try.prog 56 #[.agg #[.int .i64 a0_0, .slice A0_1 l0_1.length c0_1]] w fun e w' => e = .returned (.bool r) ∧ Below w.heap.size w w' := by
 have hu28 := Try.underlying28
 have HR0_1 := Zab.mk hr0_1
 have HC0_1 := Zab.mk hc0_1
 clear hr0_1 hc0_1
 have HB := Zab.mk (Below.refl w.heap.size w)
 have H : ((impl_within.f a0_0 1 1000).bind fun t149 => (if t149 = true then (if (l0_1.length : Int) ≤ 40 then ((impl_areWithin.f k l0_1 (-1000000) 1000000).bind fun t150 => (some t150)) else (some false)) else (some false))) = some r := h
 clear h
 replace H := Option.bind_eq_some_iff.mp H
 obtain ⟨t149, A20, H⟩ := H
 replace H : (if t149 = true then (if (l0_1.length : Int) ≤ 40 then ((impl_areWithin.f k l0_1 (-1000000) 1000000).bind fun t150 => (some t150)) else (some false)) else (some false)) = some r := H
 have A2 := Zab.mk A20
 clear A20
 by_cases c3 : t149 = true
 ·subst c3
  have H1 : (if (l0_1.length : Int) ≤ 40 then ((impl_areWithin.f k l0_1 (-1000000) 1000000).bind fun t150 => (some t150)) else (some false)) = some r := by rw [if_pos rfl] at H; exact H
  clear H
  have H := H1
  clear H1
  by_cases c4 : (l0_1.length : Int) ≤ 40
  ·rw [if_pos c4] at H
   have c4b0 : decide ((l0_1.length : Int) ≤ 40) = true := decide_eq_true c4
   have c4b1 : decide (l0_1.length ≤ 40) = true := decide_eq_true (by omega)
   clear c4
   replace H := Option.bind_eq_some_iff.mp H
   obtain ⟨t150, A50, H⟩ := H
   replace H : (some t150) = some r := H
   have A5 := Zab.mk A50
   clear A50
   obtain rfl := Option.some.inj H
   go_enter Try.func56, Try.ntmps56
   go_wp2_with (first | ((with_reducible refine gate_dst (N := 1) rfl ?_); (try (refine gate_guard (by rfl) ?_; dsimp only)); refine box_event ?hg (N := 1) ?hd (cs := #[.int .i64 a0_0, .slice A0_1 l0_1.length c0_1]) (t := 28) ?hr ?_; (case hd => rfl); (case hg => rfl); (case hr => first | (go_simp; done) | (go_simp; rfl)); intro gb148 hg w6 hbox hb; have n0_ := Zab.mk (Zap (by repeat (first | (with_reducible first | exact HB.out | apply Zad | apply Zaa | apply Zac) | exact HB.out)) hb); have n1_ := Zab.mk (hbox); have n2_ := Zab.mk ((by rw [hg]; exact (Zan (by repeat (first | (with_reducible first | exact HB.out | apply Zad | apply Zaa | apply Zac) | exact HB.out))) : w.heap.size ≤ gb148)); have n3_ := Zab.mk ((by rw [hg]; exact (Zan (by repeat (first | (with_reducible first | exact HB.out | apply Zad | apply Zaa | apply Zac) | exact HB.out))) : w.heap.size ≤ gb148)); clear HB; have HB := n0_; have BK148 := n1_; have GW148 := n2_; have GE148 := n3_; clear n0_ n1_ n2_ n3_; clear hb hbox hg; have hcz7_0 : w6.cell? ⟨gb148, 0, none⟩ = some (.int .i64 a0_0) := (Zaj BK148.out 0).trans rfl; have hcz7_1 : w6.cell? ⟨gb148, 1, none⟩ = some (.slice A0_1 l0_1.length c0_1) := (Zaj BK148.out 1).trans rfl; have hfz7_0 := Zak BK148.out 0; have hfz7_1 := Zak BK148.out 1) | ((with_reducible refine Zay (f := 64) rfl ?_); refine goesL_ (some 5) rfl rfl Try.func64 (by kernel_rfl) rfl #[.int .i64 a0_0, .int .i64 1, .int .i64 1000] rfl (by (try simp only [List.map_toArray, List.map_cons, List.map_nil]); first | done | rfl | (simp only [List.length_drop, List.length_take]; rfl)) ?_; (with_reducible refine (impl_within.calls a0_0 1 1000 true _ A2.out).mono ?_); rintro e w' ⟨rfl, ⟨nd, rfl⟩⟩; refine ⟨_, rfl, ?_⟩) | (go_at_call 69; (with_reducible refine (impl_areWithin.calls k _ _ l0_1 (-1000000) 1000000 t150 _ ?side1 ?side2 A5.out).mono ?_); (case side1 => repeat (first | exact (Kd.C_below HR0_1.out (by repeat (first | (with_reducible first | exact HB.out | apply Zad | apply Zaa | apply Zac | refine Zae ?_ GE148.out) | exact HB.out))) | (with_reducible refine Kd.C_alloc ?_ _) | (with_reducible refine Kd.C_drewN ?_ _) | (with_reducible refine Kd.C_drew ?_))); (case side2 => exact HC0_1.out); rintro e w8 ⟨rfl, hb⟩; have n0_ := Zab.mk (Zaq (g := gb148) (o := .cells #[.int .i64 a0_0, .slice A0_1 l0_1.length c0_1] 28 (0, 0)) (by (with_reducible repeat (first | refine Zag ?_ _ | refine Zah ?_ | refine Zaf ?_ _)); exact BK148.out) hb); have n1_ := Zab.mk (Zap (by repeat (first | (with_reducible first | exact HB.out | apply Zad | apply Zaa | apply Zac | refine Zae ?_ GE148.out) | exact HB.out)) hb); clear BK148; clear HB; have BK148 := n0_; have HB := n1_; clear n0_ n1_; (try clear hb); (try clear hb2); (try clear hk); (try clear hi)))
   go_ret
   exact ⟨by first | rfl | (simp [Zas, Zar] <;> rfl) | (simp [*, Zas, Zar] <;> rfl), by repeat (first | (with_reducible first | exact HB.out | apply Zad | apply Zaa | apply Zac | refine Zae ?_ GE148.out) | exact HB.out)⟩
  ·rw [if_neg c4] at H
   have c4b0 : decide ((l0_1.length : Int) ≤ 40) = false := decide_eq_false c4
   have c4b1 : decide (l0_1.length ≤ 40) = false := decide_eq_false (by omega)
   clear c4
   obtain rfl := Option.some.inj H
   go_enter Try.func56, Try.ntmps56
   go_wp2_with (first | ((with_reducible refine gate_dst (N := 1) rfl ?_); (try (refine gate_guard (by rfl) ?_; dsimp only)); refine box_event ?hg (N := 1) ?hd (cs := #[.int .i64 a0_0, .slice A0_1 l0_1.length c0_1]) (t := 28) ?hr ?_; (case hd => rfl); (case hg => rfl); (case hr => first | (go_simp; done) | (go_simp; rfl)); intro gb148 hg w9 hbox hb; have n0_ := Zab.mk (Zap (by repeat (first | (with_reducible first | exact HB.out | apply Zad | apply Zaa | apply Zac) | exact HB.out)) hb); have n1_ := Zab.mk (hbox); have n2_ := Zab.mk ((by rw [hg]; exact (Zan (by repeat (first | (with_reducible first | exact HB.out | apply Zad | apply Zaa | apply Zac) | exact HB.out))) : w.heap.size ≤ gb148)); have n3_ := Zab.mk ((by rw [hg]; exact (Zan (by repeat (first | (with_reducible first | exact HB.out | apply Zad | apply Zaa | apply Zac) | exact HB.out))) : w.heap.size ≤ gb148)); clear HB; have HB := n0_; have BK148 := n1_; have GW148 := n2_; have GE148 := n3_; clear n0_ n1_ n2_ n3_; clear hb hbox hg; have hcz10_0 : w9.cell? ⟨gb148, 0, none⟩ = some (.int .i64 a0_0) := (Zaj BK148.out 0).trans rfl; have hcz10_1 : w9.cell? ⟨gb148, 1, none⟩ = some (.slice A0_1 l0_1.length c0_1) := (Zaj BK148.out 1).trans rfl; have hfz10_0 := Zak BK148.out 0; have hfz10_1 := Zak BK148.out 1) | ((with_reducible refine Zay (f := 64) rfl ?_); refine goesL_ (some 5) rfl rfl Try.func64 (by kernel_rfl) rfl #[.int .i64 a0_0, .int .i64 1, .int .i64 1000] rfl (by (try simp only [List.map_toArray, List.map_cons, List.map_nil]); first | done | rfl | (simp only [List.length_drop, List.length_take]; rfl)) ?_; (with_reducible refine (impl_within.calls a0_0 1 1000 true _ A2.out).mono ?_); rintro e w' ⟨rfl, ⟨nd, rfl⟩⟩; refine ⟨_, rfl, ?_⟩))
   go_ret
   exact ⟨by first | rfl | (simp [Zas, Zar] <;> rfl) | (simp [*, Zas, Zar] <;> rfl), by repeat (first | (with_reducible first | exact HB.out | apply Zad | apply Zaa | apply Zac | refine Zae ?_ GE148.out) | exact HB.out)⟩
 ·replace c3 := Bool.eq_false_iff.mpr c3
  subst c3
  have H1 : (some false) = some r := by rw [if_neg (show ¬ (false = true) by decide)] at H; exact H
  clear H
  have H := H1
  clear H1
  obtain rfl := Option.some.inj H
  go_enter Try.func56, Try.ntmps56
  go_wp2_with (first | ((with_reducible refine gate_dst (N := 1) rfl ?_); (try (refine gate_guard (by rfl) ?_; dsimp only)); refine box_event ?hg (N := 1) ?hd (cs := #[.int .i64 a0_0, .slice A0_1 l0_1.length c0_1]) (t := 28) ?hr ?_; (case hd => rfl); (case hg => rfl); (case hr => first | (go_simp; done) | (go_simp; rfl)); intro gb148 hg w11 hbox hb; have n0_ := Zab.mk (Zap (by repeat (first | (with_reducible first | exact HB.out | apply Zad | apply Zaa | apply Zac) | exact HB.out)) hb); have n1_ := Zab.mk (hbox); have n2_ := Zab.mk ((by rw [hg]; exact (Zan (by repeat (first | (with_reducible first | exact HB.out | apply Zad | apply Zaa | apply Zac) | exact HB.out))) : w.heap.size ≤ gb148)); have n3_ := Zab.mk ((by rw [hg]; exact (Zan (by repeat (first | (with_reducible first | exact HB.out | apply Zad | apply Zaa | apply Zac) | exact HB.out))) : w.heap.size ≤ gb148)); clear HB; have HB := n0_; have BK148 := n1_; have GW148 := n2_; have GE148 := n3_; clear n0_ n1_ n2_ n3_; clear hb hbox hg; have hcz12_0 : w11.cell? ⟨gb148, 0, none⟩ = some (.int .i64 a0_0) := (Zaj BK148.out 0).trans rfl; have hcz12_1 : w11.cell? ⟨gb148, 1, none⟩ = some (.slice A0_1 l0_1.length c0_1) := (Zaj BK148.out 1).trans rfl; have hfz12_0 := Zak BK148.out 0; have hfz12_1 := Zak BK148.out 1) | ((with_reducible refine Zay (f := 64) rfl ?_); refine goesL_ (some 5) rfl rfl Try.func64 (by kernel_rfl) rfl #[.int .i64 a0_0, .int .i64 1, .int .i64 1000] rfl (by (try simp only [List.map_toArray, List.map_cons, List.map_nil]); first | done | rfl | (simp only [List.length_drop, List.length_take]; rfl)) ?_; (with_reducible refine (impl_within.calls a0_0 1 1000 false _ A2.out).mono ?_); rintro e w' ⟨rfl, ⟨nd, rfl⟩⟩; refine ⟨_, rfl, ?_⟩))
  go_ret
  exact ⟨by first | rfl | (simp [Zas, Zar] <;> rfl) | (simp [*, Zas, Zar] <;> rfl), by repeat (first | (with_reducible first | exact HB.out | apply Zad | apply Zaa | apply Zac | refine Zae ?_ GE148.out) | exact HB.out)⟩
def impl_floor.f (a0 : Int) (a1 : Int) : Option (Int) := if a1 = 0 then (none) else (if (Int.tmod a0 a1) < 0 then (some (wrap64 ((wrap64 (Int.tdiv a0 a1)) - 1))) else (some (wrap64 (Int.tdiv a0 a1))))
set_option maxHeartbeats 8000000 in
set_option maxRecDepth 100000 in
theorem impl_floor.calls (a0 : Int) (a1 : Int) (r : Int) (w : World) (h : impl_floor.f a0 a1 = some r) :
  Calls Try.prog 58 #[.int .i64 a0, .int .i64 a1] w fun e w' => e = .returned (.int .i64 r) ∧ Drawn0 w w' := by
 have H : (if a1 = 0 then (none) else (if (Int.tmod a0 a1) < 0 then (some (wrap64 ((wrap64 (Int.tdiv a0 a1)) - 1))) else (some (wrap64 (Int.tdiv a0 a1))))) = some r := h
 clear h
 by_cases c3 : a1 = 0
 ·rw [if_pos c3] at H
  exact absurd H (by simp)
 ·rw [if_neg c3] at H
  have c3b0 : (a1 == 0) = false := beq_eq_false_iff_ne.mpr c3
  have c3b1 : (a1 != 0) = true := bne_iff_ne.mpr c3
  by_cases c4 : (Int.tmod a0 a1) < 0
  ·rw [if_pos c4] at H
   have c4b0 : decide ((Int.tmod a0 a1) < 0) = true := decide_eq_true c4
   clear c4
   obtain rfl := Option.some.inj H
   go_enter Try.func58, Try.ntmps58
   go_wp2
   go_ret
   exact ⟨by first | rfl | (simp; done) | (simp [*]; done), by repeat (first | exact Drawn0.refl _ | apply Drawn0.step)⟩
  ·rw [if_neg c4] at H
   have c4b0 : decide ((Int.tmod a0 a1) < 0) = false := decide_eq_false c4
   clear c4
   obtain rfl := Option.some.inj H
   go_enter Try.func58, Try.ntmps58
   go_wp2
   go_ret
   exact ⟨by first | rfl | (simp; done) | (simp [*]; done), by repeat (first | exact Drawn0.refl _ | apply Drawn0.step)⟩
def impl_ceiling.f (a0 : Int) (a1 : Int) : Option (Int) := (impl_floor.f (wrap64 (-a0)) a1).bind fun t172 => (some (wrap64 (-t172)))
set_option maxHeartbeats 8000000 in
set_option maxRecDepth 100000 in
theorem impl_ceiling.calls (a0 : Int) (a1 : Int) (r : Int) (w : World) (h : impl_ceiling.f a0 a1 = some r) :
  Calls Try.prog 100 #[.int .i64 a0, .int .i64 a1] w fun e w' => e = .returned (.int .i64 r) ∧ Drawn0 w w' := by
 have H : ((impl_floor.f (wrap64 (-a0)) a1).bind fun t172 => (some (wrap64 (-t172)))) = some r := h
 clear h
 replace H := Option.bind_eq_some_iff.mp H
 obtain ⟨t172, A30, H⟩ := H
 replace H : (some (wrap64 (-t172))) = some r := H
 have A3 := Zab.mk A30
 clear A30
 obtain rfl := Option.some.inj H
 go_enter Try.func100, Try.ntmps100
 go_wp2_with (first | ((with_reducible refine Zay (f := 58) rfl ?_); refine goesL_ (some 8) rfl rfl Try.func58 (by kernel_rfl) rfl #[.int .i64 (wrap64 (-a0)), .int .i64 a1] rfl (by (try simp only [List.map_toArray, List.map_cons, List.map_nil]); first | done | rfl | (simp only [List.length_drop, List.length_take]; rfl)) ?_; (with_reducible refine (impl_floor.calls (wrap64 (-a0)) a1 t172 _ A3.out).mono ?_); rintro e w' ⟨rfl, ⟨nd, rfl⟩⟩; refine ⟨_, rfl, ?_⟩))
 go_ret
 exact ⟨by first | rfl | (simp; done) | (simp [*]; done), by repeat (first | exact Drawn0.refl _ | apply Drawn0.step)⟩
end Go.Proofs.Ytgmmfdilfpkbmaa.P
