import Derived.Test.YtoelhfbmeegbdaaXP0FnExactIsGroupRounding
import Derived.Test.YtoelhfbmeegbdaaXP7FnExactIsGroupRounding
import Derived.Test.YtoelhfbmeegbdaaXP10FnExactIsGroupRounding
import Derived.Test.YtoelhfbmeegbdaaXP12FnExactIsGroupRounding
import Derived.Test.YtoelhfbmeegbdaaXP14FnExactIsGroupRounding
namespace Go.Proofs.Ytoelhfbmeegbdaa.P
open Go.RowKit Go.Proofs.YtoelhfbmeegbdaaW.PrintWords Go.Proofs.YtoelhfbmeegbdaaW.PrintLast Go.Proofs.YtoelhfbmeegbdaaW.PrintMore
attribute [local go_sem] max2_int min2_int max_two min_two max_three min_three max_four min_four
set_option linter.unusedVariables false
set_option linter.unusedSimpArgs false
mutual
def Zan.j0 : Nat → List (List Int) → List Int → Bool → Int → List Int → Option (Bool)
 | 0, _, _, _, _, _ => none
 | k + 1, x1, x2, x24, x312000, x312001 => if x24 = true then (some false) else ((Za8.f k x312000 x312001 x1).bind fun bt314 => (Zan.l0 k x2 bt314.2.2 bt314.2.1 (bt314.2.1.length : Int) 0))
def Zan.l0 : Nat → List Int → List (S55) → List (List Int) → Int → Int → Option (Bool)
 | 0, _, _, _, _, _ => none
 | k + 1, x2, x9, x32, x33, x34 => if x34 < x33 then (if 0 ≤ x34 then (if x34 < (x32.length : Int) then (Zan.l1 k x2 x9 x34 0 x32 x33 x34 (rd_L1 x32 x34) ((rd_L1 x32 x34).length : Int) 0) else (none)) else (none)) else (some true)
def Zan.l1 : Nat → List Int → List (S55) → Int → Int → List (List Int) → Int → Int → List Int → Int → Int → Option (Bool)
 | 0, _, _, _, _, _, _, _, _, _, _ => none
 | k + 1, x2, x9, x10, x12, x32, x33, x34, x39, x40, x41 => if x41 < x40 then (if 0 ≤ x41 then (if x41 < (x39.length : Int) then (if 0 ≤ (rd x39 x41) then (if (rd x39 x41) < (x2.length : Int) then (Zan.l1 k x2 x9 x10 (wrap64 (x12 + (rd x2 (rd x39 x41)))) x32 x33 x34 x39 x40 (wrap64 (x41 + 1))) else (none)) else (none)) else (none)) else (none)) else (if 0 ≤ x10 then (if x10 < (x9.length : Int) then ((impl_within.f x12 ((rd_T55 x9 x10).f0) ((rd_T55 x9 x10).f1)).bind fun t328 => (if t328 = true then (Zan.l0 k x2 x9 x32 x33 (wrap64 (x34 + 1))) else (some false))) else (none)) else (none))
end
def Zan.f (k : Nat) (a0_0 : Int) (l0_1 : List Int) (l1 : List (List Int)) (l2 : List Int) : Option (Bool) := (Zar.f k a0_0 l0_1 l1).bind fun t312 => (if t312 = true then ((Za3.f k a0_0 l0_1 l2).bind fun t313 => (Zan.j0 k l1 l2 (!t313) a0_0 l0_1)) else (Zan.j0 k l1 l2 true a0_0 l0_1))
set_option maxHeartbeats 8000000 in
set_option maxRecDepth 100000 in
theorem Zan.calls (k : Nat) (a0_0 : Int) (A0_1 : Option Addr) (c0_1 : Nat) (l0_1 : List Int) (A1 : Option Addr) (c1 : Nat) (l1 : List (List Int)) (A2 : Option Addr) (c2 : Nat) (l2 : List Int) (r : Bool) (w : World) (hr0_1 : Kd.C (Kd.int .i64) w A0_1 l0_1.length l0_1) (hc0_1 : l0_1.length ≤ c0_1) (hr1 : Kd.C (Kd.slice 2 (Kd.int .i64)) w A1 l1.length l1) (hc1 : l1.length ≤ c1) (hr2 : Kd.C (Kd.int .i64) w A2 l2.length l2) (hc2 : l2.length ≤ c2) (h : Zan.f k a0_0 l0_1 l1 l2 = some r) :
  Calls Try.prog 15 #[.agg #[.int .i64 a0_0, .slice A0_1 l0_1.length c0_1], .slice A1 l1.length c1, .slice A2 l2.length c2] w fun e w' => e = .returned (.bool r) ∧ Below w.heap.size w w' := by
 have hu29 := Try.underlying29
 have HR0_1 := Zab.mk hr0_1
 have HC0_1 := Zab.mk hc0_1
 clear hr0_1 hc0_1
 have HR1 := Zab.mk hr1
 have HC1 := Zab.mk hc1
 clear hr1 hc1
 have HR2 := Zab.mk hr2
 have HC2 := Zab.mk hc2
 clear hr2 hc2
 have HB := Zab.mk (Below.refl w.heap.size w)
 have H : ((Zar.f k a0_0 l0_1 l1).bind fun t312 => (if t312 = true then ((Za3.f k a0_0 l0_1 l2).bind fun t313 => (Zan.j0 k l1 l2 (!t313) a0_0 l0_1)) else (Zan.j0 k l1 l2 true a0_0 l0_1))) = some r := h
 clear h
 have HC4 := Zab.mk H
 clear H
 go_enter Try.func15, Try.ntmps15
 go_upto_region 1 with (first | ((with_reducible refine gate_dst (N := 3) rfl ?_); refine box_event ?hg (N := 3) ?hd (cs := #[.int .i64 a0_0, .slice A0_1 l0_1.length c0_1]) (t := 29) ?hr ?_; (case hd => rfl); (case hg => rfl); (case hr => first | (go_simp; done) | (go_simp; rfl)); intro gb311 hg w5 hbox hb; have n0_ := Zab.mk (Zaj (by repeat (first | (with_reducible first | exact HB.out | apply Zad | apply Zaa | apply Zac) | exact HB.out)) hb); have n1_ := Zab.mk (hbox); have n2_ := Zab.mk ((by rw [hg]; exact (Zai (by repeat (first | (with_reducible first | exact HB.out | apply Zad | apply Zaa | apply Zac) | exact HB.out))) : w.heap.size ≤ gb311)); have n3_ := Zab.mk ((by rw [hg]; exact (Zai (by repeat (first | (with_reducible first | exact HB.out | apply Zad | apply Zaa | apply Zac) | exact HB.out))) : w.heap.size ≤ gb311)); clear HB; have HB := n0_; have BK311 := n1_; have GW311 := n2_; have GE311 := n3_; clear n0_ n1_ n2_ n3_; clear hb hbox hg))
 repeat (go_quiet (first | ((with_reducible refine gate_dst (N := 3) rfl ?_); refine box_event ?hg (N := 3) ?hd (cs := #[.int .i64 a0_0, .slice A0_1 l0_1.length c0_1]) (t := 29) ?hr ?_; (case hd => rfl); (case hg => rfl); (case hr => first | (go_simp; done) | (go_simp; rfl)); intro gb311 hg w5 hbox hb; have n0_ := Zab.mk (Zaj (by repeat (first | (with_reducible first | exact HB.out | apply Zad | apply Zaa | apply Zac) | exact HB.out)) hb); have n1_ := Zab.mk (hbox); have n2_ := Zab.mk ((by rw [hg]; exact (Zai (by repeat (first | (with_reducible first | exact HB.out | apply Zad | apply Zaa | apply Zac) | exact HB.out))) : w.heap.size ≤ gb311)); have n3_ := Zab.mk ((by rw [hg]; exact (Zai (by repeat (first | (with_reducible first | exact HB.out | apply Zad | apply Zaa | apply Zac) | exact HB.out))) : w.heap.size ≤ gb311)); clear HB; have HB := n0_; have BK311 := n1_; have GW311 := n2_; have GE311 := n3_; clear n0_ n1_ n2_ n3_; clear hb hbox hg)); go_upto_region 1 with (first | ((with_reducible refine gate_dst (N := 3) rfl ?_); refine box_event ?hg (N := 3) ?hd (cs := #[.int .i64 a0_0, .slice A0_1 l0_1.length c0_1]) (t := 29) ?hr ?_; (case hd => rfl); (case hg => rfl); (case hr => first | (go_simp; done) | (go_simp; rfl)); intro gb311 hg w5 hbox hb; have n0_ := Zab.mk (Zaj (by repeat (first | (with_reducible first | exact HB.out | apply Zad | apply Zaa | apply Zac) | exact HB.out)) hb); have n1_ := Zab.mk (hbox); have n2_ := Zab.mk ((by rw [hg]; exact (Zai (by repeat (first | (with_reducible first | exact HB.out | apply Zad | apply Zaa | apply Zac) | exact HB.out))) : w.heap.size ≤ gb311)); have n3_ := Zab.mk ((by rw [hg]; exact (Zai (by repeat (first | (with_reducible first | exact HB.out | apply Zad | apply Zaa | apply Zac) | exact HB.out))) : w.heap.size ≤ gb311)); clear HB; have HB := n0_; have BK311 := n1_; have GW311 := n2_; have GE311 := n3_; clear n0_ n1_ n2_ n3_; clear hb hbox hg)))
 (try simp only [Act.put, List.setIfInBounds_toArray, List.set_cons_zero, List.set_cons_succ])
 go_cut [24] (fun v24 wc => ∃ (kq : Nat) (x24_3 : Bool), v24 = .bool x24_3 ∧ Zab (Zan.j0 kq l1 l2 x24_3 a0_0 l0_1 = some r) ∧ Zab (kq ≤ k) ∧ Zab (wc.heap[gb311]? = some (.cells #[.int .i64 a0_0, (.slice A0_1 l0_1.length c0_1)] 29 (0, 0))) ∧ Zab (Below w.heap.size w wc))
 case first =>
  have H := HC4.out
  clear HC4
  replace H := Option.bind_eq_some_iff.mp H
  obtain ⟨t312, A60, H⟩ := H
  replace H : (if t312 = true then ((Za3.f k a0_0 l0_1 l2).bind fun t313 => (Zan.j0 k l1 l2 (!t313) a0_0 l0_1)) else (Zan.j0 k l1 l2 true a0_0 l0_1)) = some r := H
  have A6 := Zab.mk A60
  clear A60
  by_cases c7 : t312 = true
  ·subst c7
   have H1 : ((Za3.f k a0_0 l0_1 l2).bind fun t313 => (Zan.j0 k l1 l2 (!t313) a0_0 l0_1)) = some r := by rw [if_pos rfl] at H; exact H
   clear H
   have H := H1
   clear H1
   replace H := Option.bind_eq_some_iff.mp H
   obtain ⟨t313, A80, H⟩ := H
   replace H : (Zan.j0 k l1 l2 (!t313) a0_0 l0_1) = some r := H
   have A8 := Zab.mk A80
   clear A80
   have H' := Zab.mk H
   clear H
   have hcz9_0 : w5.cell? ⟨gb311, 0, none⟩ = some (.int .i64 a0_0) := (Zak BK311.out 0).trans rfl
   have hcz9_1 : w5.cell? ⟨gb311, 1, none⟩ = some (.slice A0_1 l0_1.length c0_1) := (Zak BK311.out 1).trans rfl
   have hfz9_0 := Zam BK311.out 0
   have hfz9_1 := Zam BK311.out 1
   go_wp2_with (first | (go_at_call 10; (with_reducible refine (Zar.calls k a0_0 _ _ l0_1 _ _ l1 true _ ?side1 ?side2 ?side3 ?side4 A6.out).mono ?_); (case side1 => repeat (first | exact (Kd.C_below HR0_1.out HB.out) | (with_reducible refine Kd.C_alloc ?_ _) | (with_reducible refine Kd.C_drewN ?_ _) | (with_reducible refine Kd.C_drew ?_))); (case side2 => exact HC0_1.out); (case side3 => repeat (first | exact (Kd.C_below HR1.out HB.out) | (with_reducible refine Kd.C_alloc ?_ _) | (with_reducible refine Kd.C_drewN ?_ _) | (with_reducible refine Kd.C_drew ?_))); (case side4 => exact HC1.out); rintro e w10 ⟨rfl, hb⟩; have n0_ := Zab.mk (Zal (g := gb311) (o := .cells #[.int .i64 a0_0, .slice A0_1 l0_1.length c0_1] 29 (0, 0)) (by (with_reducible repeat (first | refine Zag ?_ _ | refine Zah ?_ | refine Zaf ?_ _)); exact BK311.out) hb); have n1_ := Zab.mk (Zaj (by repeat (first | (with_reducible first | exact HB.out | apply Zad | apply Zaa | apply Zac | refine Zae ?_ GE311.out) | exact HB.out)) hb); clear BK311; clear HB; have BK311 := n0_; have HB := n1_; clear n0_ n1_; (try clear hb); (try clear hb2); (try clear hk); (try clear hi); have hcz11_0 : w10.cell? ⟨gb311, 0, none⟩ = some (.int .i64 a0_0) := (Zak BK311.out 0).trans rfl; have hcz11_1 : w10.cell? ⟨gb311, 1, none⟩ = some (.slice A0_1 l0_1.length c0_1) := (Zak BK311.out 1).trans rfl; have hfz11_0 := Zam BK311.out 0; have hfz11_1 := Zam BK311.out 1) | (go_at_call 29; (with_reducible refine (Za3.calls k a0_0 _ _ l0_1 _ _ l2 t313 _ ?side1 ?side2 ?side3 ?side4 A8.out).mono ?_); (case side1 => repeat (first | exact (Kd.C_below HR0_1.out HB.out) | (with_reducible refine Kd.C_alloc ?_ _) | (with_reducible refine Kd.C_drewN ?_ _) | (with_reducible refine Kd.C_drew ?_))); (case side2 => exact HC0_1.out); (case side3 => repeat (first | exact (Kd.C_below HR2.out HB.out) | (with_reducible refine Kd.C_alloc ?_ _) | (with_reducible refine Kd.C_drewN ?_ _) | (with_reducible refine Kd.C_drew ?_))); (case side4 => exact HC2.out); rintro e w12 ⟨rfl, hb⟩; have n0_ := Zab.mk (Zal (g := gb311) (o := .cells #[.int .i64 a0_0, .slice A0_1 l0_1.length c0_1] 29 (0, 0)) (by (with_reducible repeat (first | refine Zag ?_ _ | refine Zah ?_ | refine Zaf ?_ _)); exact BK311.out) hb); have n1_ := Zab.mk (Zaj (by repeat (first | (with_reducible first | exact HB.out | apply Zad | apply Zaa | apply Zac | refine Zae ?_ GE311.out) | exact HB.out)) hb); clear BK311; clear HB; have BK311 := n0_; have HB := n1_; clear n0_ n1_; (try clear hb); (try clear hb2); (try clear hk); (try clear hi)))
   repeat (go_quiet (first | (go_at_call 10; (with_reducible refine (Zar.calls k a0_0 _ _ l0_1 _ _ l1 true _ ?side1 ?side2 ?side3 ?side4 A6.out).mono ?_); (case side1 => repeat (first | exact (Kd.C_below HR0_1.out HB.out) | (with_reducible refine Kd.C_alloc ?_ _) | (with_reducible refine Kd.C_drewN ?_ _) | (with_reducible refine Kd.C_drew ?_))); (case side2 => exact HC0_1.out); (case side3 => repeat (first | exact (Kd.C_below HR1.out HB.out) | (with_reducible refine Kd.C_alloc ?_ _) | (with_reducible refine Kd.C_drewN ?_ _) | (with_reducible refine Kd.C_drew ?_))); (case side4 => exact HC1.out); rintro e w10 ⟨rfl, hb⟩; have n0_ := Zab.mk (Zal (g := gb311) (o := .cells #[.int .i64 a0_0, .slice A0_1 l0_1.length c0_1] 29 (0, 0)) (by (with_reducible repeat (first | refine Zag ?_ _ | refine Zah ?_ | refine Zaf ?_ _)); exact BK311.out) hb); have n1_ := Zab.mk (Zaj (by repeat (first | (with_reducible first | exact HB.out | apply Zad | apply Zaa | apply Zac | refine Zae ?_ GE311.out) | exact HB.out)) hb); clear BK311; clear HB; have BK311 := n0_; have HB := n1_; clear n0_ n1_; (try clear hb); (try clear hb2); (try clear hk); (try clear hi); have hcz11_0 : w10.cell? ⟨gb311, 0, none⟩ = some (.int .i64 a0_0) := (Zak BK311.out 0).trans rfl; have hcz11_1 : w10.cell? ⟨gb311, 1, none⟩ = some (.slice A0_1 l0_1.length c0_1) := (Zak BK311.out 1).trans rfl; have hfz11_0 := Zam BK311.out 0; have hfz11_1 := Zam BK311.out 1) | (go_at_call 29; (with_reducible refine (Za3.calls k a0_0 _ _ l0_1 _ _ l2 t313 _ ?side1 ?side2 ?side3 ?side4 A8.out).mono ?_); (case side1 => repeat (first | exact (Kd.C_below HR0_1.out HB.out) | (with_reducible refine Kd.C_alloc ?_ _) | (with_reducible refine Kd.C_drewN ?_ _) | (with_reducible refine Kd.C_drew ?_))); (case side2 => exact HC0_1.out); (case side3 => repeat (first | exact (Kd.C_below HR2.out HB.out) | (with_reducible refine Kd.C_alloc ?_ _) | (with_reducible refine Kd.C_drewN ?_ _) | (with_reducible refine Kd.C_drew ?_))); (case side4 => exact HC2.out); rintro e w12 ⟨rfl, hb⟩; have n0_ := Zab.mk (Zal (g := gb311) (o := .cells #[.int .i64 a0_0, .slice A0_1 l0_1.length c0_1] 29 (0, 0)) (by (with_reducible repeat (first | refine Zag ?_ _ | refine Zah ?_ | refine Zaf ?_ _)); exact BK311.out) hb); have n1_ := Zab.mk (Zaj (by repeat (first | (with_reducible first | exact HB.out | apply Zad | apply Zaa | apply Zac | refine Zae ?_ GE311.out) | exact HB.out)) hb); clear BK311; clear HB; have BK311 := n0_; have HB := n1_; clear n0_ n1_; (try clear hb); (try clear hb2); (try clear hk); (try clear hi))); try go_wp2_with (first | (go_at_call 10; (with_reducible refine (Zar.calls k a0_0 _ _ l0_1 _ _ l1 true _ ?side1 ?side2 ?side3 ?side4 A6.out).mono ?_); (case side1 => repeat (first | exact (Kd.C_below HR0_1.out HB.out) | (with_reducible refine Kd.C_alloc ?_ _) | (with_reducible refine Kd.C_drewN ?_ _) | (with_reducible refine Kd.C_drew ?_))); (case side2 => exact HC0_1.out); (case side3 => repeat (first | exact (Kd.C_below HR1.out HB.out) | (with_reducible refine Kd.C_alloc ?_ _) | (with_reducible refine Kd.C_drewN ?_ _) | (with_reducible refine Kd.C_drew ?_))); (case side4 => exact HC1.out); rintro e w10 ⟨rfl, hb⟩; have n0_ := Zab.mk (Zal (g := gb311) (o := .cells #[.int .i64 a0_0, .slice A0_1 l0_1.length c0_1] 29 (0, 0)) (by (with_reducible repeat (first | refine Zag ?_ _ | refine Zah ?_ | refine Zaf ?_ _)); exact BK311.out) hb); have n1_ := Zab.mk (Zaj (by repeat (first | (with_reducible first | exact HB.out | apply Zad | apply Zaa | apply Zac | refine Zae ?_ GE311.out) | exact HB.out)) hb); clear BK311; clear HB; have BK311 := n0_; have HB := n1_; clear n0_ n1_; (try clear hb); (try clear hb2); (try clear hk); (try clear hi); have hcz11_0 : w10.cell? ⟨gb311, 0, none⟩ = some (.int .i64 a0_0) := (Zak BK311.out 0).trans rfl; have hcz11_1 : w10.cell? ⟨gb311, 1, none⟩ = some (.slice A0_1 l0_1.length c0_1) := (Zak BK311.out 1).trans rfl; have hfz11_0 := Zam BK311.out 0; have hfz11_1 := Zam BK311.out 1) | (go_at_call 29; (with_reducible refine (Za3.calls k a0_0 _ _ l0_1 _ _ l2 t313 _ ?side1 ?side2 ?side3 ?side4 A8.out).mono ?_); (case side1 => repeat (first | exact (Kd.C_below HR0_1.out HB.out) | (with_reducible refine Kd.C_alloc ?_ _) | (with_reducible refine Kd.C_drewN ?_ _) | (with_reducible refine Kd.C_drew ?_))); (case side2 => exact HC0_1.out); (case side3 => repeat (first | exact (Kd.C_below HR2.out HB.out) | (with_reducible refine Kd.C_alloc ?_ _) | (with_reducible refine Kd.C_drewN ?_ _) | (with_reducible refine Kd.C_drew ?_))); (case side4 => exact HC2.out); rintro e w12 ⟨rfl, hb⟩; have n0_ := Zab.mk (Zal (g := gb311) (o := .cells #[.int .i64 a0_0, .slice A0_1 l0_1.length c0_1] 29 (0, 0)) (by (with_reducible repeat (first | refine Zag ?_ _ | refine Zah ?_ | refine Zaf ?_ _)); exact BK311.out) hb); have n1_ := Zab.mk (Zaj (by repeat (first | (with_reducible first | exact HB.out | apply Zad | apply Zaa | apply Zac | refine Zae ?_ GE311.out) | exact HB.out)) hb); clear BK311; clear HB; have BK311 := n0_; have HB := n1_; clear n0_ n1_; (try clear hb); (try clear hb2); (try clear hk); (try clear hi))))
   go_meet
   case rel => exact ⟨_, (!t313), (by first | rfl | (simp; done) | (simp [*]; done) | (simp [IntWalk.i64_left, *]; done)), H', ⟨by first | omega | exact Nat.le_refl _⟩, ⟨by (with_reducible repeat (first | refine Zag ?_ _ | refine Zah ?_ | refine Zaf ?_ _)); exact BK311.out⟩, ⟨by repeat (first | (with_reducible first | exact HB.out | apply Zad | apply Zaa | apply Zac | refine Zae ?_ GE311.out) | exact HB.out)⟩⟩
  ·replace c7 := Bool.eq_false_iff.mpr c7
   subst c7
   have H1 : (Zan.j0 k l1 l2 true a0_0 l0_1) = some r := by rw [if_neg (show ¬ (false = true) by decide)] at H; exact H
   clear H
   have H := H1
   clear H1
   have H' := Zab.mk H
   clear H
   have hcz13_0 : w5.cell? ⟨gb311, 0, none⟩ = some (.int .i64 a0_0) := (Zak BK311.out 0).trans rfl
   have hcz13_1 : w5.cell? ⟨gb311, 1, none⟩ = some (.slice A0_1 l0_1.length c0_1) := (Zak BK311.out 1).trans rfl
   have hfz13_0 := Zam BK311.out 0
   have hfz13_1 := Zam BK311.out 1
   go_wp2_with (first | (go_at_call 10; (with_reducible refine (Zar.calls k a0_0 _ _ l0_1 _ _ l1 false _ ?side1 ?side2 ?side3 ?side4 A6.out).mono ?_); (case side1 => repeat (first | exact (Kd.C_below HR0_1.out HB.out) | (with_reducible refine Kd.C_alloc ?_ _) | (with_reducible refine Kd.C_drewN ?_ _) | (with_reducible refine Kd.C_drew ?_))); (case side2 => exact HC0_1.out); (case side3 => repeat (first | exact (Kd.C_below HR1.out HB.out) | (with_reducible refine Kd.C_alloc ?_ _) | (with_reducible refine Kd.C_drewN ?_ _) | (with_reducible refine Kd.C_drew ?_))); (case side4 => exact HC1.out); rintro e w14 ⟨rfl, hb⟩; have n0_ := Zab.mk (Zal (g := gb311) (o := .cells #[.int .i64 a0_0, .slice A0_1 l0_1.length c0_1] 29 (0, 0)) (by (with_reducible repeat (first | refine Zag ?_ _ | refine Zah ?_ | refine Zaf ?_ _)); exact BK311.out) hb); have n1_ := Zab.mk (Zaj (by repeat (first | (with_reducible first | exact HB.out | apply Zad | apply Zaa | apply Zac | refine Zae ?_ GE311.out) | exact HB.out)) hb); clear BK311; clear HB; have BK311 := n0_; have HB := n1_; clear n0_ n1_; (try clear hb); (try clear hb2); (try clear hk); (try clear hi)))
   repeat (go_quiet (first | (go_at_call 10; (with_reducible refine (Zar.calls k a0_0 _ _ l0_1 _ _ l1 false _ ?side1 ?side2 ?side3 ?side4 A6.out).mono ?_); (case side1 => repeat (first | exact (Kd.C_below HR0_1.out HB.out) | (with_reducible refine Kd.C_alloc ?_ _) | (with_reducible refine Kd.C_drewN ?_ _) | (with_reducible refine Kd.C_drew ?_))); (case side2 => exact HC0_1.out); (case side3 => repeat (first | exact (Kd.C_below HR1.out HB.out) | (with_reducible refine Kd.C_alloc ?_ _) | (with_reducible refine Kd.C_drewN ?_ _) | (with_reducible refine Kd.C_drew ?_))); (case side4 => exact HC1.out); rintro e w14 ⟨rfl, hb⟩; have n0_ := Zab.mk (Zal (g := gb311) (o := .cells #[.int .i64 a0_0, .slice A0_1 l0_1.length c0_1] 29 (0, 0)) (by (with_reducible repeat (first | refine Zag ?_ _ | refine Zah ?_ | refine Zaf ?_ _)); exact BK311.out) hb); have n1_ := Zab.mk (Zaj (by repeat (first | (with_reducible first | exact HB.out | apply Zad | apply Zaa | apply Zac | refine Zae ?_ GE311.out) | exact HB.out)) hb); clear BK311; clear HB; have BK311 := n0_; have HB := n1_; clear n0_ n1_; (try clear hb); (try clear hb2); (try clear hk); (try clear hi))); try go_wp2_with (first | (go_at_call 10; (with_reducible refine (Zar.calls k a0_0 _ _ l0_1 _ _ l1 false _ ?side1 ?side2 ?side3 ?side4 A6.out).mono ?_); (case side1 => repeat (first | exact (Kd.C_below HR0_1.out HB.out) | (with_reducible refine Kd.C_alloc ?_ _) | (with_reducible refine Kd.C_drewN ?_ _) | (with_reducible refine Kd.C_drew ?_))); (case side2 => exact HC0_1.out); (case side3 => repeat (first | exact (Kd.C_below HR1.out HB.out) | (with_reducible refine Kd.C_alloc ?_ _) | (with_reducible refine Kd.C_drewN ?_ _) | (with_reducible refine Kd.C_drew ?_))); (case side4 => exact HC1.out); rintro e w14 ⟨rfl, hb⟩; have n0_ := Zab.mk (Zal (g := gb311) (o := .cells #[.int .i64 a0_0, .slice A0_1 l0_1.length c0_1] 29 (0, 0)) (by (with_reducible repeat (first | refine Zag ?_ _ | refine Zah ?_ | refine Zaf ?_ _)); exact BK311.out) hb); have n1_ := Zab.mk (Zaj (by repeat (first | (with_reducible first | exact HB.out | apply Zad | apply Zaa | apply Zac | refine Zae ?_ GE311.out) | exact HB.out)) hb); clear BK311; clear HB; have BK311 := n0_; have HB := n1_; clear n0_ n1_; (try clear hb); (try clear hb2); (try clear hk); (try clear hi))))
   go_meet
   case rel => exact ⟨_, (true), (by first | rfl | (simp; done) | (simp [*]; done) | (simp [IntWalk.i64_left, *]; done)), H', ⟨by first | omega | exact Nat.le_refl _⟩, ⟨by (with_reducible repeat (first | refine Zag ?_ _ | refine Zah ?_ | refine Zaf ?_ _)); exact BK311.out⟩, ⟨by repeat (first | (with_reducible first | exact HB.out | apply Zad | apply Zaa | apply Zac | refine Zae ?_ GE311.out) | exact HB.out)⟩⟩
 case rest =>
  clear HC4
  try clear c1
  try clear c2
  try clear p2
  try clear c7
  try clear hcz11_0
  try clear hcz11_1
  try clear hcz13_0
  try clear hcz13_1
  try clear hcz9_0
  try clear hcz9_1
  try clear hfz11_0
  try clear hfz11_1
  try clear hfz13_0
  try clear hfz13_1
  try clear hfz9_0
  try clear hfz9_1
  obtain ⟨kq, x24_3, rfl, HA, HJ3, BK311, HB⟩ := hcut
  cases kq with
  | zero => exact absurd HA.out (by simp [Zan.j0])
  | succ kj3 =>
   have H := HA.out
   clear HA
   simp only [Zan.j0] at H
   by_cases c15 : x24_3 = true
   ·subst c15
    have H1 : (some false) = some r := by rw [if_pos rfl] at H; exact H
    clear H
    have H := H1
    clear H1
    obtain rfl := Option.some.inj H
    go_wp2
    repeat (go_quiet (fail); try go_wp2)
    go_ret
    exact ⟨by first | rfl | (simp [Zas, Zat] <;> rfl) | (simp [*, Zas, Zat] <;> rfl), by repeat (first | (with_reducible first | exact HB.out | apply Zad | apply Zaa | apply Zac | refine Zae ?_ GE311.out) | exact HB.out)⟩
   ·replace c15 := Bool.eq_false_iff.mpr c15
    subst c15
    have H1 : ((Za8.f kj3 a0_0 l0_1 l1).bind fun bt314 => (Zan.l0 kj3 l2 bt314.2.2 bt314.2.1 (bt314.2.1.length : Int) 0)) = some r := by rw [if_neg (show ¬ (false = true) by decide)] at H; exact H
    clear H
    have H := H1
    clear H1
    replace H := Option.bind_eq_some_iff.mp H
    obtain ⟨⟨t314, t317, t320⟩, A160, H⟩ := H
    replace H : (Zan.l0 kj3 l2 t320 t317 (t317.length : Int) 0) = some r := H
    have A16 := Zab.mk A160
    clear A160
    have H' := Zab.mk H
    clear H
    have hcz17_0 : wc.cell? ⟨gb311, 0, none⟩ = some (.int .i64 a0_0) := (Zak BK311.out 0).trans rfl
    have hcz17_1 : wc.cell? ⟨gb311, 1, none⟩ = some (.slice A0_1 l0_1.length c0_1) := (Zak BK311.out 1).trans rfl
    have hfz17_0 := Zam BK311.out 0
    have hfz17_1 := Zam BK311.out 1
    go_wp2_with (first | (go_at_call 30; (with_reducible refine (Za8.calls kj3 a0_0 _ _ l0_1 (fun k_ => k_ < w.heap.size) _ _ l1 t314 t317 t320 _ ?side1 ?side2 ?side3 A16.out).mono ?_); (case side1 => repeat (first | exact (Kd.C_below HR0_1.out HB.out) | (with_reducible refine Kd.C_alloc ?_ _) | (with_reducible refine Kd.C_drewN ?_ _) | (with_reducible refine Kd.C_drew ?_))); (case side2 => exact HC0_1.out); (case side3 => exact Kd.V_mk HC1.out (Kd.F_below (Kd.C_F (Kd.heap_slice 2 (Kd.heap_int .i64)) HR1.out) (by repeat (first | (with_reducible first | exact HB.out | apply Zad | apply Zaa | apply Zac | refine Zae ?_ GE311.out) | exact HB.out)))); rintro e w18 ⟨v315, v318, v321, rfl, ho0, ho1, ho2, hb⟩; have n0_ := Zab.mk (Kd.R_lower (Kd.R_mono (ok' := fun k_ => some k_ ≠ (v321 : Value).ownBlock) ho0 (fun _ hk_ => hk_.2)) (Zai (by repeat (first | (with_reducible first | exact HB.out | apply Zad | apply Zaa | apply Zac | refine Zae ?_ GE311.out) | exact HB.out)))); have n1_ := Zab.mk (Kd.N_lower (Kd.N_mono (ok' := fun k_ => some k_ ≠ (v315 : Value).ownBlock ∧ some k_ ≠ (v321 : Value).ownBlock ∧ k_ ≠ gb311) ho1 (fun k_ hk_ => ⟨hk_.2.1, hk_.2.2, Or.elim hk_.1 (fun hs_ => fun e_ => Nat.not_le.2 hs_ (by rw [e_]; exact GW311.out)) (fun hn_ => (Kd.freshB (g := gb311) (o := .cells #[.int .i64 a0_0, .slice A0_1 l0_1.length c0_1] 29 (0, 0)) (by (with_reducible repeat (first | refine Zag ?_ _ | refine Zah ?_ | refine Zaf ?_ _)); exact BK311.out) k_ hn_))⟩)) (Zai (by repeat (first | (with_reducible first | exact HB.out | apply Zad | apply Zaa | apply Zac | refine Zae ?_ GE311.out) | exact HB.out)))); have n2_ := Zab.mk (Kd.R_lower (Kd.R_mono (ok' := fun k_ => some k_ ≠ (v315 : Value).ownBlock) ho2 (fun _ hk_ => hk_.2)) (Zai (by repeat (first | (with_reducible first | exact HB.out | apply Zad | apply Zaa | apply Zac | refine Zae ?_ GE311.out) | exact HB.out)))); have n3_ := Zab.mk (Zal (g := gb311) (o := .cells #[.int .i64 a0_0, .slice A0_1 l0_1.length c0_1] 29 (0, 0)) (by (with_reducible repeat (first | refine Zag ?_ _ | refine Zah ?_ | refine Zaf ?_ _)); exact BK311.out) hb); have n4_ := Zab.mk (Zaj (by repeat (first | (with_reducible first | exact HB.out | apply Zad | apply Zaa | apply Zac | refine Zae ?_ GE311.out) | exact HB.out)) hb); clear BK311; clear HB; have HO316 := n0_; have HO319 := n1_; have HO322 := n2_; have BK311 := n3_; have HB := n4_; clear n0_ n1_ n2_ n3_ n4_; (try clear hb); (try clear hb2); (try clear hk); (try clear hi); (try clear ho0); (try clear ho1); (try clear ho2); obtain ⟨Ao19, co19, eo19⟩ := Kd.N_slice HO319.out; subst eo19))
    repeat (go_quiet (first | (go_at_call 30; (with_reducible refine (Za8.calls kj3 a0_0 _ _ l0_1 (fun k_ => k_ < w.heap.size) _ _ l1 t314 t317 t320 _ ?side1 ?side2 ?side3 A16.out).mono ?_); (case side1 => repeat (first | exact (Kd.C_below HR0_1.out HB.out) | (with_reducible refine Kd.C_alloc ?_ _) | (with_reducible refine Kd.C_drewN ?_ _) | (with_reducible refine Kd.C_drew ?_))); (case side2 => exact HC0_1.out); (case side3 => exact Kd.V_mk HC1.out (Kd.F_below (Kd.C_F (Kd.heap_slice 2 (Kd.heap_int .i64)) HR1.out) (by repeat (first | (with_reducible first | exact HB.out | apply Zad | apply Zaa | apply Zac | refine Zae ?_ GE311.out) | exact HB.out)))); rintro e w18 ⟨v315, v318, v321, rfl, ho0, ho1, ho2, hb⟩; have n0_ := Zab.mk (Kd.R_lower (Kd.R_mono (ok' := fun k_ => some k_ ≠ (v321 : Value).ownBlock) ho0 (fun _ hk_ => hk_.2)) (Zai (by repeat (first | (with_reducible first | exact HB.out | apply Zad | apply Zaa | apply Zac | refine Zae ?_ GE311.out) | exact HB.out)))); have n1_ := Zab.mk (Kd.N_lower (Kd.N_mono (ok' := fun k_ => some k_ ≠ (v315 : Value).ownBlock ∧ some k_ ≠ (v321 : Value).ownBlock ∧ k_ ≠ gb311) ho1 (fun k_ hk_ => ⟨hk_.2.1, hk_.2.2, Or.elim hk_.1 (fun hs_ => fun e_ => Nat.not_le.2 hs_ (by rw [e_]; exact GW311.out)) (fun hn_ => (Kd.freshB (g := gb311) (o := .cells #[.int .i64 a0_0, .slice A0_1 l0_1.length c0_1] 29 (0, 0)) (by (with_reducible repeat (first | refine Zag ?_ _ | refine Zah ?_ | refine Zaf ?_ _)); exact BK311.out) k_ hn_))⟩)) (Zai (by repeat (first | (with_reducible first | exact HB.out | apply Zad | apply Zaa | apply Zac | refine Zae ?_ GE311.out) | exact HB.out)))); have n2_ := Zab.mk (Kd.R_lower (Kd.R_mono (ok' := fun k_ => some k_ ≠ (v315 : Value).ownBlock) ho2 (fun _ hk_ => hk_.2)) (Zai (by repeat (first | (with_reducible first | exact HB.out | apply Zad | apply Zaa | apply Zac | refine Zae ?_ GE311.out) | exact HB.out)))); have n3_ := Zab.mk (Zal (g := gb311) (o := .cells #[.int .i64 a0_0, .slice A0_1 l0_1.length c0_1] 29 (0, 0)) (by (with_reducible repeat (first | refine Zag ?_ _ | refine Zah ?_ | refine Zaf ?_ _)); exact BK311.out) hb); have n4_ := Zab.mk (Zaj (by repeat (first | (with_reducible first | exact HB.out | apply Zad | apply Zaa | apply Zac | refine Zae ?_ GE311.out) | exact HB.out)) hb); clear BK311; clear HB; have HO316 := n0_; have HO319 := n1_; have HO322 := n2_; have BK311 := n3_; have HB := n4_; clear n0_ n1_ n2_ n3_ n4_; (try clear hb); (try clear hb2); (try clear hk); (try clear hi); (try clear ho0); (try clear ho1); (try clear ho2); obtain ⟨Ao19, co19, eo19⟩ := Kd.N_slice HO319.out; subst eo19)); try go_wp2_with (first | (go_at_call 30; (with_reducible refine (Za8.calls kj3 a0_0 _ _ l0_1 (fun k_ => k_ < w.heap.size) _ _ l1 t314 t317 t320 _ ?side1 ?side2 ?side3 A16.out).mono ?_); (case side1 => repeat (first | exact (Kd.C_below HR0_1.out HB.out) | (with_reducible refine Kd.C_alloc ?_ _) | (with_reducible refine Kd.C_drewN ?_ _) | (with_reducible refine Kd.C_drew ?_))); (case side2 => exact HC0_1.out); (case side3 => exact Kd.V_mk HC1.out (Kd.F_below (Kd.C_F (Kd.heap_slice 2 (Kd.heap_int .i64)) HR1.out) (by repeat (first | (with_reducible first | exact HB.out | apply Zad | apply Zaa | apply Zac | refine Zae ?_ GE311.out) | exact HB.out)))); rintro e w18 ⟨v315, v318, v321, rfl, ho0, ho1, ho2, hb⟩; have n0_ := Zab.mk (Kd.R_lower (Kd.R_mono (ok' := fun k_ => some k_ ≠ (v321 : Value).ownBlock) ho0 (fun _ hk_ => hk_.2)) (Zai (by repeat (first | (with_reducible first | exact HB.out | apply Zad | apply Zaa | apply Zac | refine Zae ?_ GE311.out) | exact HB.out)))); have n1_ := Zab.mk (Kd.N_lower (Kd.N_mono (ok' := fun k_ => some k_ ≠ (v315 : Value).ownBlock ∧ some k_ ≠ (v321 : Value).ownBlock ∧ k_ ≠ gb311) ho1 (fun k_ hk_ => ⟨hk_.2.1, hk_.2.2, Or.elim hk_.1 (fun hs_ => fun e_ => Nat.not_le.2 hs_ (by rw [e_]; exact GW311.out)) (fun hn_ => (Kd.freshB (g := gb311) (o := .cells #[.int .i64 a0_0, .slice A0_1 l0_1.length c0_1] 29 (0, 0)) (by (with_reducible repeat (first | refine Zag ?_ _ | refine Zah ?_ | refine Zaf ?_ _)); exact BK311.out) k_ hn_))⟩)) (Zai (by repeat (first | (with_reducible first | exact HB.out | apply Zad | apply Zaa | apply Zac | refine Zae ?_ GE311.out) | exact HB.out)))); have n2_ := Zab.mk (Kd.R_lower (Kd.R_mono (ok' := fun k_ => some k_ ≠ (v315 : Value).ownBlock) ho2 (fun _ hk_ => hk_.2)) (Zai (by repeat (first | (with_reducible first | exact HB.out | apply Zad | apply Zaa | apply Zac | refine Zae ?_ GE311.out) | exact HB.out)))); have n3_ := Zab.mk (Zal (g := gb311) (o := .cells #[.int .i64 a0_0, .slice A0_1 l0_1.length c0_1] 29 (0, 0)) (by (with_reducible repeat (first | refine Zag ?_ _ | refine Zah ?_ | refine Zaf ?_ _)); exact BK311.out) hb); have n4_ := Zab.mk (Zaj (by repeat (first | (with_reducible first | exact HB.out | apply Zad | apply Zaa | apply Zac | refine Zae ?_ GE311.out) | exact HB.out)) hb); clear BK311; clear HB; have HO316 := n0_; have HO319 := n1_; have HO322 := n2_; have BK311 := n3_; have HB := n4_; clear n0_ n1_ n2_ n3_ n4_; (try clear hb); (try clear hb2); (try clear hk); (try clear hi); (try clear ho0); (try clear ho1); (try clear ho2); obtain ⟨Ao19, co19, eo19⟩ := Kd.N_slice HO319.out; subst eo19)))
    go_loopg [34] kj3 (fun kq v34 w' => ∃ (x34_2 : Int), v34 = .int .i64 x34_2 ∧ Zab (Zan.l0 kq l2 t320 t317 (t317.length : Int) x34_2 = some r) ∧ Zab (kq ≤ kj3) ∧ Zab (Kd.R k55 55 w' w.heap.size (fun _ => True) v321 t320) ∧ Zab (Kd.N (Kd.slice 2 (Kd.int .i64)) 22 w' w.heap.size (fun k_ => some k_ ≠ (v321 : Value).ownBlock ∧ k_ ≠ gb311) (.slice Ao19 t317.length co19) t317) ∧ Zab (w'.heap[gb311]? = some (.cells #[.int .i64 a0_0, (.slice A0_1 l0_1.length c0_1)] 29 (0, 0))) ∧ Zab (Below w.heap.size w w'))
    case atStart => exact ⟨(0), (by first | rfl | (simp; done) | (simp [*]; done) | (simp [IntWalk.i64_left, *]; done)), H', ⟨Nat.le_refl _⟩, ⟨by (with_reducible repeat (first | apply Kd.R_alloc | apply Kd.R_drewN | apply Kd.R_drew)); exact Kd.R_mono HO322.out (fun _ hk => trivial)⟩, ⟨by (with_reducible repeat (first | apply Kd.N_alloc | apply Kd.N_drewN | apply Kd.N_drew)); exact Kd.N_mono HO319.out (fun _ hk => ⟨hk.2.1, hk.2.2⟩)⟩, ⟨by (with_reducible repeat (first | refine Zag ?_ _ | refine Zah ?_ | refine Zaf ?_ _)); exact BK311.out⟩, ⟨by repeat (first | (with_reducible first | exact HB.out | apply Zad | apply Zaa | apply Zac | refine Zae ?_ GE311.out) | exact HB.out)⟩⟩
    case round =>
     clear H'
     try clear c1
     try clear c2
     try clear p2
     try clear c7
     try clear c15
     try clear hcz11_0
     try clear hcz11_1
     try clear hcz13_0
     try clear hcz13_1
     try clear hcz17_0
     try clear hcz17_1
     try clear hcz9_0
     try clear hcz9_1
     try clear hfz11_0
     try clear hfz11_1
     try clear hfz13_0
     try clear hfz13_1
     try clear hfz17_0
     try clear hfz17_1
     try clear hfz9_0
     try clear hfz9_1
     try clear p2
     obtain ⟨x34_2, rfl, HA, HK2, HO_9, HO_32, BK311, HB⟩ := hrel
     cases gk with
     | zero => exact absurd HA.out (by simp [Zan.l0])
     | succ k2 =>
      have H := HA.out
      clear HA
      simp only [Zan.l0] at H
      by_cases c20 : x34_2 < (t317.length : Int)
      ·rw [if_pos c20] at H
       have c20b0 : decide (x34_2 < (t317.length : Int)) = true := decide_eq_true c20
       clear c20
       by_cases c21 : 0 ≤ x34_2
       ·rw [if_pos c21] at H
        have c21b0 : decide (0 ≤ x34_2) = true := decide_eq_true c21
        clear c21
        by_cases c22 : x34_2 < (t317.length : Int)
        ·rw [if_pos c22] at H
         have c22b0 : decide (x34_2 < (t317.length : Int)) = true := decide_eq_true c22
         clear c22
         have H' := Zab.mk H
         clear H
         have p323 : 0 ≤ (x34_2 : Int) := of_decide_eq_true (by first | (with_reducible assumption) | assumption)
         have q323 : x34_2 < (t317.length : Int) := of_decide_eq_true (by first | (with_reducible assumption) | assumption)
         obtain ⟨ad323, A323_0, c323_0, e323, hx323_0, hl323_0, hi323_0⟩ := at_L1 (Kd.N_reads' HO_32.out).2.2 x34_2 p323 q323
         cases e323
         obtain ⟨ce323, hce323, hMe323, hcc323⟩ := Kd.N_get HO_32.out [] x34_2 p323 (by first | exact q323 | exact of_decide_eq_true (by first | (with_reducible assumption) | assumption) | (have e_ := (Kd.N_reads' HO_32.out).1; omega))
         obtain ⟨ua323_0, uc323_0, rfl, ul323_0, ge323_0⟩ := Kd.FK_slice_open hMe323
         have hv323_0 := hcc323 0 _ rfl
         rw [Nat.add_zero, show ((Kd.slice 2 (Kd.int .i64))).sz = 1 from rfl, Nat.mul_one] at hv323_0
         replace hv323_0 := Option.some.inj (hv323_0.symm.trans hx323_0)
         injection hv323_0 with hva_ hvn_ hvc_
         rw [hva_] at ge323_0
         rw [hvc_] at ul323_0
         have HL323_0 := Zab.mk (show Kd.V (Kd.int .i64) 2 _ w.heap.size _ _ (rd_L1 t317 x34_2) from Kd.V_mk ul323_0 ge323_0)
         clear hva_ hvn_ hvc_ ge323_0 ul323_0
         clear hcc323 hce323
         have HR323_0 := Zab.mk hi323_0
         have HC323_0 := Zab.mk hl323_0
         clear hi323_0 hl323_0
         replace p323 := eq_true p323
         replace q323 := eq_true q323
         go_wp2
         repeat (go_quiet (fail); try go_wp2)
         go_loopg [12, 41] k2 (fun kq v12 v41 w' => ∃ (x12_3 : Int) (x41_3 : Int), v12 = .int .i64 x12_3 ∧ v41 = .int .i64 x41_3 ∧ Zab (Zan.l1 kq l2 t320 x34_2 x12_3 t317 (t317.length : Int) x34_2 (rd_L1 t317 x34_2) ((rd_L1 t317 x34_2).length : Int) x41_3 = some r) ∧ Zab (kq ≤ k2) ∧ Zab (Kd.R k55 55 w' w.heap.size (fun _ => True) v321 t320) ∧ Zab (Kd.N (Kd.slice 2 (Kd.int .i64)) 22 w' w.heap.size (fun k_ => some k_ ≠ (v321 : Value).ownBlock ∧ k_ ≠ gb311) (.slice (some ad323) t317.length co19) t317) ∧ Zab (w'.heap[gb311]? = some (.cells #[.int .i64 a0_0, (.slice A0_1 l0_1.length c0_1)] 29 (0, 0))) ∧ Zab (Kd.C (Kd.int .i64) w' A323_0 (rd_L1 t317 x34_2).length (rd_L1 t317 x34_2)) ∧ Zab (Below w.heap.size w w'))
         case atStart => exact ⟨(0), (0), (by first | rfl | (simp; done) | (simp [*]; done) | (simp [IntWalk.i64_left, *]; done)), (by first | rfl | (simp; done) | (simp [*]; done) | (simp [IntWalk.i64_left, *]; done)), H', ⟨Nat.le_refl _⟩, ⟨by (with_reducible repeat (first | apply Kd.R_alloc | apply Kd.R_drewN | apply Kd.R_drew)); exact HO_9.out⟩, ⟨by (with_reducible repeat (first | apply Kd.N_alloc | apply Kd.N_drewN | apply Kd.N_drew)); exact HO_32.out⟩, ⟨by (with_reducible repeat (first | refine Zag ?_ _ | refine Zah ?_ | refine Zaf ?_ _)); exact BK311.out⟩, ⟨by repeat (first | (with_reducible exact HR323_0.out) | (with_reducible refine Kd.C_alloc ?_ _) | (with_reducible refine Kd.C_drewN ?_ _) | (with_reducible refine Kd.C_drew ?_) | exact HR323_0.out)⟩, ⟨by repeat (first | (with_reducible first | exact HB.out | apply Zad | apply Zaa | apply Zac | refine Zae ?_ GE311.out) | exact HB.out)⟩⟩
         case round =>
          clear H'
          try clear c1
          try clear c2
          try clear p2
          try clear c3
          try clear p3
          try clear q3
          try clear hx3
          try clear c7
          try clear c15
          try clear c20
          try clear c20b0
          try clear c21
          try clear c21b0
          try clear c22
          try clear c22b0
          try clear hcz11_0
          try clear hcz11_1
          try clear hcz13_0
          try clear hcz13_1
          try clear hcz17_0
          try clear hcz17_1
          try clear hcz9_0
          try clear hcz9_1
          try clear hfz11_0
          try clear hfz11_1
          try clear hfz13_0
          try clear hfz13_1
          try clear hfz17_0
          try clear hfz17_1
          try clear hfz9_0
          try clear hfz9_1
          try clear hx323_0
          try clear p2
          try clear p323
          try clear q323
          obtain ⟨x12_3, x41_3, rfl, rfl, HA, HK3, HO_9, HO_32, BK311, HR323_0, HB⟩ := hrel
          cases gk with
          | zero => exact absurd HA.out (by simp [Zan.l1])
          | succ k3 =>
           have H := HA.out
           clear HA
           simp only [Zan.l1] at H
           by_cases c23 : x41_3 < ((rd_L1 t317 x34_2).length : Int)
           ·rw [if_pos c23] at H
            have c23b0 : decide (x41_3 < ((rd_L1 t317 x34_2).length : Int)) = true := decide_eq_true c23
            clear c23
            by_cases c24 : 0 ≤ x41_3
            ·rw [if_pos c24] at H
             have c24b0 : decide (0 ≤ x41_3) = true := decide_eq_true c24
             clear c24
             by_cases c25 : x41_3 < ((rd_L1 t317 x34_2).length : Int)
             ·rw [if_pos c25] at H
              have c25b0 : decide (x41_3 < ((rd_L1 t317 x34_2).length : Int)) = true := decide_eq_true c25
              clear c25
              by_cases c26 : 0 ≤ (rd (rd_L1 t317 x34_2) x41_3)
              ·rw [if_pos c26] at H
               have c26b0 : decide (0 ≤ (rd (rd_L1 t317 x34_2) x41_3)) = true := decide_eq_true c26
               clear c26
               by_cases c27 : (rd (rd_L1 t317 x34_2) x41_3) < (l2.length : Int)
               ·rw [if_pos c27] at H
                have c27b0 : decide ((rd (rd_L1 t317 x34_2) x41_3) < (l2.length : Int)) = true := decide_eq_true c27
                clear c27
                have H' := Zab.mk H
                clear H
                have p324 : 0 ≤ (x41_3 : Int) := of_decide_eq_true (by first | (with_reducible assumption) | assumption)
                have q324 : x41_3 < ((rd_L1 t317 x34_2).length : Int) := of_decide_eq_true (by first | (with_reducible assumption) | assumption)
                obtain ⟨ad324, e324, hx324_0⟩ := Kd.at_int HR323_0.out x41_3 p324 q324
                cases e324
                try replace hx324_0 := (HB.out.cell (World.block_lt_of_cell? w _ hx324_0)).trans hx324_0
                replace p324 := eq_true p324
                replace q324 := eq_true q324
                have p325 : 0 ≤ ((rd (rd_L1 t317 x34_2) x41_3) : Int) := of_decide_eq_true (by first | (with_reducible assumption) | assumption)
                have q325 : (rd (rd_L1 t317 x34_2) x41_3) < (l2.length : Int) := of_decide_eq_true (by first | (with_reducible assumption) | assumption)
                obtain ⟨ad325, e325, hx325_0⟩ := Kd.at_int HR2.out (rd (rd_L1 t317 x34_2) x41_3) p325 q325
                cases e325
                replace hx325_0 := (HB.out.cell (World.block_lt_of_cell? w _ hx325_0)).trans hx325_0
                replace p325 := eq_true p325
                replace q325 := eq_true q325
                go_wp2
                repeat (go_quiet (fail); try go_wp2)
                go_roundg k3
                case measure => have := HJ3.out; have := HK2.out; have := HK3.out; omega
                case rel => exact ⟨(wrap64 (x12_3 + (rd l2 (rd (rd_L1 t317 x34_2) x41_3)))), (wrap64 (x41_3 + 1)), (by first | rfl | (simp; done) | (simp [*]; done) | (simp [IntWalk.i64_left, *]; done)), (by first | rfl | (simp; done) | (simp [*]; done) | (simp [IntWalk.i64_left, *]; done)), H', ⟨by have := HJ3.out; have := HK2.out; have := HK3.out; omega⟩, ⟨by (with_reducible repeat (first | apply Kd.R_alloc | apply Kd.R_drewN | apply Kd.R_drew)); exact HO_9.out⟩, ⟨by (with_reducible repeat (first | apply Kd.N_alloc | apply Kd.N_drewN | apply Kd.N_drew)); exact HO_32.out⟩, ⟨by (with_reducible repeat (first | refine Zag ?_ _ | refine Zah ?_ | refine Zaf ?_ _)); exact BK311.out⟩, ⟨by repeat (first | (with_reducible exact HR323_0.out) | (with_reducible refine Kd.C_alloc ?_ _) | (with_reducible refine Kd.C_drewN ?_ _) | (with_reducible refine Kd.C_drew ?_) | exact HR323_0.out)⟩, ⟨by repeat (first | (with_reducible first | exact HB.out | apply Zad | apply Zaa | apply Zac | refine Zae ?_ GE311.out) | exact HB.out)⟩⟩
               ·rw [if_neg c27] at H
                exact absurd H (by simp)
              ·rw [if_neg c26] at H
               exact absurd H (by simp)
             ·rw [if_neg c25] at H
              exact absurd H (by simp)
            ·rw [if_neg c24] at H
             exact absurd H (by simp)
           ·rw [if_neg c23] at H
            have c23b0 : decide (x41_3 < ((rd_L1 t317 x34_2).length : Int)) = false := decide_eq_false c23
            clear c23
            by_cases c28 : 0 ≤ x34_2
            ·rw [if_pos c28] at H
             have c28b0 : decide (0 ≤ x34_2) = true := decide_eq_true c28
             clear c28
             by_cases c29 : x34_2 < (t320.length : Int)
             ·rw [if_pos c29] at H
              have c29b0 : decide (x34_2 < (t320.length : Int)) = true := decide_eq_true c29
              clear c29
              replace H := Option.bind_eq_some_iff.mp H
              obtain ⟨t328, A300, H⟩ := H
              replace H : (if t328 = true then (Zan.l0 k3 l2 t320 t317 (t317.length : Int) (wrap64 (x34_2 + 1))) else (some false)) = some r := H
              have A30 := Zab.mk A300
              clear A300
              by_cases c31 : t328 = true
              ·subst c31
               have H1 : (Zan.l0 k3 l2 t320 t317 (t317.length : Int) (wrap64 (x34_2 + 1))) = some r := by rw [if_pos rfl] at H; exact H
               clear H
               have H := H1
               clear H1
               have H' := Zab.mk H
               clear H
               obtain ⟨Ao32, co32, eo32⟩ := Kd.R_slice HO_9.out
               subst eo32
               have p326 : 0 ≤ (x34_2 : Int) := of_decide_eq_true (by first | (with_reducible assumption) | assumption)
               have q326 : x34_2 < (t320.length : Int) := of_decide_eq_true (by first | (with_reducible assumption) | assumption)
               obtain ⟨ad326, e326, hx326_0, hx326_1⟩ := at_T55 (Kd.R_reads' HO_9.out).2.2 x34_2 p326 q326
               cases e326
               replace p326 := eq_true p326
               replace q326 := eq_true q326
               have p327 : 0 ≤ (x34_2 : Int) := of_decide_eq_true (by first | (with_reducible assumption) | assumption)
               have q327 : x34_2 < (t320.length : Int) := of_decide_eq_true (by first | (with_reducible assumption) | assumption)
               obtain ⟨ad327, e327, hx327_0, hx327_1⟩ := at_T55 (Kd.R_reads' HO_9.out).2.2 x34_2 p327 q327
               obtain rfl : ad326 = ad327 := (by injection e327)
               replace p327 := eq_true p327
               replace q327 := eq_true q327
               go_wp2_with (first | (go_at_call 31; (with_reducible refine (impl_within.calls x12_3 ((rd_T55 t320 x34_2).f0) ((rd_T55 t320 x34_2).f1) true _ A30.out).mono ?_); rintro e w' ⟨rfl, ⟨nd, rfl⟩⟩; (try first | exact ⟨rfl, _, World.drewN_drewN _ _ _⟩ | exact ⟨rfl, _, Eq.trans (World.drewN_drewN _ _ _) (congrArg (World.drewN _) (Nat.add_assoc _ _ _))⟩)))
               repeat (go_quiet (first | (go_at_call 31; (with_reducible refine (impl_within.calls x12_3 ((rd_T55 t320 x34_2).f0) ((rd_T55 t320 x34_2).f1) true _ A30.out).mono ?_); rintro e w' ⟨rfl, ⟨nd, rfl⟩⟩; (try first | exact ⟨rfl, _, World.drewN_drewN _ _ _⟩ | exact ⟨rfl, _, Eq.trans (World.drewN_drewN _ _ _) (congrArg (World.drewN _) (Nat.add_assoc _ _ _))⟩))); try go_wp2_with (first | (go_at_call 31; (with_reducible refine (impl_within.calls x12_3 ((rd_T55 t320 x34_2).f0) ((rd_T55 t320 x34_2).f1) true _ A30.out).mono ?_); rintro e w' ⟨rfl, ⟨nd, rfl⟩⟩; (try first | exact ⟨rfl, _, World.drewN_drewN _ _ _⟩ | exact ⟨rfl, _, Eq.trans (World.drewN_drewN _ _ _) (congrArg (World.drewN _) (Nat.add_assoc _ _ _))⟩))))
               go_roundg k3
               case measure => have := HJ3.out; have := HK2.out; have := HK3.out; omega
               case rel => exact ⟨(wrap64 (x34_2 + 1)), (by first | rfl | (simp; done) | (simp [*]; done) | (simp [IntWalk.i64_left, *]; done)), H', ⟨by have := HJ3.out; have := HK2.out; have := HK3.out; omega⟩, ⟨by (with_reducible repeat (first | apply Kd.R_alloc | apply Kd.R_drewN | apply Kd.R_drew)); exact HO_9.out⟩, ⟨by (with_reducible repeat (first | apply Kd.N_alloc | apply Kd.N_drewN | apply Kd.N_drew)); exact HO_32.out⟩, ⟨by (with_reducible repeat (first | refine Zag ?_ _ | refine Zah ?_ | refine Zaf ?_ _)); exact BK311.out⟩, ⟨by repeat (first | (with_reducible first | exact HB.out | apply Zad | apply Zaa | apply Zac | refine Zae ?_ GE311.out) | exact HB.out)⟩⟩
              ·replace c31 := Bool.eq_false_iff.mpr c31
               subst c31
               have H1 : (some false) = some r := by rw [if_neg (show ¬ (false = true) by decide)] at H; exact H
               clear H
               have H := H1
               clear H1
               obtain rfl := Option.some.inj H
               obtain ⟨Ao33, co33, eo33⟩ := Kd.R_slice HO_9.out
               subst eo33
               have p326 : 0 ≤ (x34_2 : Int) := of_decide_eq_true (by first | (with_reducible assumption) | assumption)
               have q326 : x34_2 < (t320.length : Int) := of_decide_eq_true (by first | (with_reducible assumption) | assumption)
               obtain ⟨ad326, e326, hx326_0, hx326_1⟩ := at_T55 (Kd.R_reads' HO_9.out).2.2 x34_2 p326 q326
               cases e326
               replace p326 := eq_true p326
               replace q326 := eq_true q326
               have p327 : 0 ≤ (x34_2 : Int) := of_decide_eq_true (by first | (with_reducible assumption) | assumption)
               have q327 : x34_2 < (t320.length : Int) := of_decide_eq_true (by first | (with_reducible assumption) | assumption)
               obtain ⟨ad327, e327, hx327_0, hx327_1⟩ := at_T55 (Kd.R_reads' HO_9.out).2.2 x34_2 p327 q327
               obtain rfl : ad326 = ad327 := (by injection e327)
               replace p327 := eq_true p327
               replace q327 := eq_true q327
               go_wp2_with (first | (go_at_call 31; (with_reducible refine (impl_within.calls x12_3 ((rd_T55 t320 x34_2).f0) ((rd_T55 t320 x34_2).f1) false _ A30.out).mono ?_); rintro e w' ⟨rfl, ⟨nd, rfl⟩⟩; (try first | exact ⟨rfl, _, World.drewN_drewN _ _ _⟩ | exact ⟨rfl, _, Eq.trans (World.drewN_drewN _ _ _) (congrArg (World.drewN _) (Nat.add_assoc _ _ _))⟩)))
               repeat (go_quiet (first | (go_at_call 31; (with_reducible refine (impl_within.calls x12_3 ((rd_T55 t320 x34_2).f0) ((rd_T55 t320 x34_2).f1) false _ A30.out).mono ?_); rintro e w' ⟨rfl, ⟨nd, rfl⟩⟩; (try first | exact ⟨rfl, _, World.drewN_drewN _ _ _⟩ | exact ⟨rfl, _, Eq.trans (World.drewN_drewN _ _ _) (congrArg (World.drewN _) (Nat.add_assoc _ _ _))⟩))); try go_wp2_with (first | (go_at_call 31; (with_reducible refine (impl_within.calls x12_3 ((rd_T55 t320 x34_2).f0) ((rd_T55 t320 x34_2).f1) false _ A30.out).mono ?_); rintro e w' ⟨rfl, ⟨nd, rfl⟩⟩; (try first | exact ⟨rfl, _, World.drewN_drewN _ _ _⟩ | exact ⟨rfl, _, Eq.trans (World.drewN_drewN _ _ _) (congrArg (World.drewN _) (Nat.add_assoc _ _ _))⟩))))
               go_ret
               exact ⟨by first | rfl | (simp [Zas, Zat] <;> rfl) | (simp [*, Zas, Zat] <;> rfl), by repeat (first | (with_reducible first | exact HB.out | apply Zad | apply Zaa | apply Zac | refine Zae ?_ GE311.out) | exact HB.out)⟩
             ·rw [if_neg c29] at H
              exact absurd H (by simp)
            ·rw [if_neg c28] at H
             exact absurd H (by simp)
        ·rw [if_neg c22] at H
         exact absurd H (by simp)
       ·rw [if_neg c21] at H
        exact absurd H (by simp)
      ·rw [if_neg c20] at H
       have c20b0 : decide (x34_2 < (t317.length : Int)) = false := decide_eq_false c20
       clear c20
       obtain rfl := Option.some.inj H
       go_wp2
       repeat (go_quiet (fail); try go_wp2)
       go_ret
       exact ⟨by first | rfl | (simp [Zas, Zat] <;> rfl) | (simp [*, Zas, Zat] <;> rfl), by repeat (first | (with_reducible first | exact HB.out | apply Zad | apply Zaa | apply Zac | refine Zae ?_ GE311.out) | exact HB.out)⟩
end Go.Proofs.Ytoelhfbmeegbdaa.P
