import Derived.Test.YtanflefkbbhimaaXP0FnRunning
import Derived.Test.YtanflefkbbhimaaXP1FnRunning
import Derived.Test.YtanflefkbbhimaaXP4FnRunning
namespace Go.Proofs.Ytanflefkbbhimaa.P
open Go.RowKit Go.Proofs.YtanflefkbbhimaaW.PrintWords Go.Proofs.YtanflefkbbhimaaW.PrintLast Go.Proofs.YtanflefkbbhimaaW.PrintMore
attribute [local go_sem] max2_int min2_int max_two min_two max_three min_three max_four min_four
set_option linter.unusedVariables false
set_option linter.unusedSimpArgs false
mutual
def Zan.j0 : Nat → List Int → Bool → Int → List Int → Option (Bool)
 | 0, _, _, _, _ => none
 | k + 1, x1, x19, x229000, x229001 => if x19 = true then (some false) else ((impl_Values_floors.f k x229000 x229001).bind fun t230 => ((impl_Values_ceilings.f k x229000 x229001).bind fun t233 => (Zan.l0 k t230 t233 x1 (x1.length : Int) 0)))
def Zan.l0 : Nat → List Int → List Int → List Int → Int → Int → Option (Bool)
 | 0, _, _, _, _, _ => none
 | k + 1, x5, x6, x24, x25, x26 => if x26 < x25 then (if 0 ≤ x26 then (if x26 < (x24.length : Int) then (if x26 < (x5.length : Int) then (if (rd x24 x26) = (rd x5 x26) then (Zan.l0 k x5 x6 x24 x25 (wrap64 (x26 + 1))) else (if x26 < (x6.length : Int) then (if (rd x24 x26) = (rd x6 x26) then (Zan.l0 k x5 x6 x24 x25 (wrap64 (x26 + 1))) else (some false)) else (none))) else (none)) else (none)) else (none)) else (some true)
end
def Zan.f (k : Nat) (a0_0 : Int) (l0_1 : List Int) (l1 : List Int) : Option (Bool) := (Za0.f k a0_0 l0_1).bind fun t229 => (if t229 = true then (Zan.j0 k l1 ((l1.length : Int) != (l0_1.length : Int)) a0_0 l0_1) else (Zan.j0 k l1 true a0_0 l0_1))
set_option maxHeartbeats 8000000 in
set_option maxRecDepth 100000 in
theorem Zan.calls (k : Nat) (a0_0 : Int) (A0_1 : Option Addr) (c0_1 : Nat) (l0_1 : List Int) (A1 : Option Addr) (c1 : Nat) (l1 : List Int) (r : Bool) (w : World) (hr0_1 : Kd.C (Kd.int .i64) w A0_1 l0_1.length l0_1) (hc0_1 : l0_1.length ≤ c0_1) (hr1 : Kd.C (Kd.int .i64) w A1 l1.length l1) (hc1 : l1.length ≤ c1) (h : Zan.f k a0_0 l0_1 l1 = some r) :
  Calls Try.prog 23 #[.agg #[.int .i64 a0_0, .slice A0_1 l0_1.length c0_1], .slice A1 l1.length c1] w fun e w' => e = .returned (.bool r) ∧ Below w.heap.size w w' := by
 have hu28 := Try.underlying28
 have HR0_1 := Zab.mk hr0_1
 have HC0_1 := Zab.mk hc0_1
 clear hr0_1 hc0_1
 have HR1 := Zab.mk hr1
 have HC1 := Zab.mk hc1
 clear hr1 hc1
 have HB := Zab.mk (Below.refl w.heap.size w)
 have H : ((Za0.f k a0_0 l0_1).bind fun t229 => (if t229 = true then (Zan.j0 k l1 ((l1.length : Int) != (l0_1.length : Int)) a0_0 l0_1) else (Zan.j0 k l1 true a0_0 l0_1))) = some r := h
 clear h
 have HC3 := Zab.mk H
 clear H
 go_enter Try.func23, Try.ntmps23
 go_upto_region 1 with (first | ((with_reducible refine gate_dst (N := 2) rfl ?_); (try (refine gate_guard (by rfl) ?_; dsimp only)); refine box_event ?hg (N := 2) ?hd (cs := #[.int .i64 a0_0, .slice A0_1 l0_1.length c0_1]) (t := 28) ?hr ?_; (case hd => rfl); (case hg => rfl); (case hr => first | (go_simp; done) | (go_simp; rfl)); intro gb228 hg w4 hbox hb; have n0_ := Zab.mk (Zal (by repeat (first | (with_reducible first | exact HB.out | apply Zac | apply Zaa | apply Zad) | exact HB.out)) hb); have n1_ := Zab.mk (hbox); have n2_ := Zab.mk ((by rw [hg]; exact (Zam (by repeat (first | (with_reducible first | exact HB.out | apply Zac | apply Zaa | apply Zad) | exact HB.out))) : w.heap.size ≤ gb228)); have n3_ := Zab.mk ((by rw [hg]; exact (Zam (by repeat (first | (with_reducible first | exact HB.out | apply Zac | apply Zaa | apply Zad) | exact HB.out))) : w.heap.size ≤ gb228)); clear HB; have HB := n0_; have BK228 := n1_; have GW228 := n2_; have GE228 := n3_; clear n0_ n1_ n2_ n3_; clear hb hbox hg))
 (try simp only [Act.put, List.setIfInBounds_toArray, List.set_cons_zero, List.set_cons_succ])
 go_cut [19] (fun v19 wc => ∃ (kq : Nat) (x19_2 : Bool), v19 = .bool x19_2 ∧ Zab (Zan.j0 kq l1 x19_2 a0_0 l0_1 = some r) ∧ Zab (kq ≤ k) ∧ Zab (wc.heap[gb228]? = some (.cells #[.int .i64 a0_0, (.slice A0_1 l0_1.length c0_1)] 28 (0, 0))) ∧ Zab (Below w.heap.size w wc))
 case first =>
  have H := HC3.out
  clear HC3
  replace H := Option.bind_eq_some_iff.mp H
  obtain ⟨t229, A50, H⟩ := H
  replace H : (if t229 = true then (Zan.j0 k l1 ((l1.length : Int) != (l0_1.length : Int)) a0_0 l0_1) else (Zan.j0 k l1 true a0_0 l0_1)) = some r := H
  have A5 := Zab.mk A50
  clear A50
  by_cases c6 : t229 = true
  ·subst c6
   have H1 : (Zan.j0 k l1 ((l1.length : Int) != (l0_1.length : Int)) a0_0 l0_1) = some r := by rw [if_pos rfl] at H; exact H
   clear H
   have H := H1
   clear H1
   have H' := Zab.mk H
   clear H
   have hcz7_0 : w4.cell? ⟨gb228, 0, none⟩ = some (.int .i64 a0_0) := (Zaj BK228.out 0).trans rfl
   have hcz7_1 : w4.cell? ⟨gb228, 1, none⟩ = some (.slice A0_1 l0_1.length c0_1) := (Zaj BK228.out 1).trans rfl
   have hfz7_0 := Zah BK228.out 0
   have hfz7_1 := Zah BK228.out 1
   go_wp2_with (first | ((with_reducible refine Zax (f := 34) rfl ?_); refine goesL_ (some 10) rfl rfl Try.func34 (by kernel_rfl) rfl #[.agg #[.int .i64 a0_0, .slice A0_1 l0_1.length c0_1]] rfl (by (try simp only [List.map_toArray, List.map_cons, List.map_nil]); first | done | rfl | (simp only [List.length_drop, List.length_take]; rfl)) ?_; (with_reducible refine (Za0.calls k a0_0 _ _ l0_1 true _ ?side1 ?side2 A5.out).mono ?_); (case side1 => repeat (first | exact (Kd.C_below HR0_1.out HB.out) | (with_reducible refine Kd.C_alloc ?_ _) | (with_reducible refine Kd.C_drewN ?_ _) | (with_reducible refine Kd.C_drew ?_))); (case side2 => exact HC0_1.out); rintro e w8 ⟨rfl, hb⟩; refine ⟨_, rfl, ?_⟩; have n0_ := Zab.mk (Zao (g := gb228) (o := .cells #[.int .i64 a0_0, .slice A0_1 l0_1.length c0_1] 28 (0, 0)) (by (with_reducible repeat (first | refine Zag ?_ _ | refine Zak ?_ | refine Zaf ?_ _)); exact BK228.out) hb); have n1_ := Zab.mk (Zal (by repeat (first | (with_reducible first | exact HB.out | apply Zac | apply Zaa | apply Zad | refine Zae ?_ GE228.out) | exact HB.out)) hb); clear BK228; clear HB; have BK228 := n0_; have HB := n1_; clear n0_ n1_; (try clear hb); (try clear hb2); (try clear hk); (try clear hi); have hcz9_0 : w8.cell? ⟨gb228, 0, none⟩ = some (.int .i64 a0_0) := (Zaj BK228.out 0).trans rfl; have hcz9_1 : w8.cell? ⟨gb228, 1, none⟩ = some (.slice A0_1 l0_1.length c0_1) := (Zaj BK228.out 1).trans rfl; have hfz9_0 := Zah BK228.out 0; have hfz9_1 := Zah BK228.out 1))
   go_meet
   case rel => exact ⟨_, (((l1.length : Int) != (l0_1.length : Int))), (by first | rfl | (simp; done) | (simp [*]; done) | (simp [IntWalk.i64_left, *]; done)), H', ⟨by first | omega | exact Nat.le_refl _⟩, ⟨by (with_reducible repeat (first | refine Zag ?_ _ | refine Zak ?_ | refine Zaf ?_ _)); exact BK228.out⟩, ⟨by repeat (first | (with_reducible first | exact HB.out | apply Zac | apply Zaa | apply Zad | refine Zae ?_ GE228.out) | exact HB.out)⟩⟩
  ·replace c6 := Bool.eq_false_iff.mpr c6
   subst c6
   have H1 : (Zan.j0 k l1 true a0_0 l0_1) = some r := by rw [if_neg (show ¬ (false = true) by decide)] at H; exact H
   clear H
   have H := H1
   clear H1
   have H' := Zab.mk H
   clear H
   have hcz10_0 : w4.cell? ⟨gb228, 0, none⟩ = some (.int .i64 a0_0) := (Zaj BK228.out 0).trans rfl
   have hcz10_1 : w4.cell? ⟨gb228, 1, none⟩ = some (.slice A0_1 l0_1.length c0_1) := (Zaj BK228.out 1).trans rfl
   have hfz10_0 := Zah BK228.out 0
   have hfz10_1 := Zah BK228.out 1
   go_wp2_with (first | ((with_reducible refine Zax (f := 34) rfl ?_); refine goesL_ (some 10) rfl rfl Try.func34 (by kernel_rfl) rfl #[.agg #[.int .i64 a0_0, .slice A0_1 l0_1.length c0_1]] rfl (by (try simp only [List.map_toArray, List.map_cons, List.map_nil]); first | done | rfl | (simp only [List.length_drop, List.length_take]; rfl)) ?_; (with_reducible refine (Za0.calls k a0_0 _ _ l0_1 false _ ?side1 ?side2 A5.out).mono ?_); (case side1 => repeat (first | exact (Kd.C_below HR0_1.out HB.out) | (with_reducible refine Kd.C_alloc ?_ _) | (with_reducible refine Kd.C_drewN ?_ _) | (with_reducible refine Kd.C_drew ?_))); (case side2 => exact HC0_1.out); rintro e w11 ⟨rfl, hb⟩; refine ⟨_, rfl, ?_⟩; have n0_ := Zab.mk (Zao (g := gb228) (o := .cells #[.int .i64 a0_0, .slice A0_1 l0_1.length c0_1] 28 (0, 0)) (by (with_reducible repeat (first | refine Zag ?_ _ | refine Zak ?_ | refine Zaf ?_ _)); exact BK228.out) hb); have n1_ := Zab.mk (Zal (by repeat (first | (with_reducible first | exact HB.out | apply Zac | apply Zaa | apply Zad | refine Zae ?_ GE228.out) | exact HB.out)) hb); clear BK228; clear HB; have BK228 := n0_; have HB := n1_; clear n0_ n1_; (try clear hb); (try clear hb2); (try clear hk); (try clear hi)))
   go_meet
   case rel => exact ⟨_, (true), (by first | rfl | (simp; done) | (simp [*]; done) | (simp [IntWalk.i64_left, *]; done)), H', ⟨by first | omega | exact Nat.le_refl _⟩, ⟨by (with_reducible repeat (first | refine Zag ?_ _ | refine Zak ?_ | refine Zaf ?_ _)); exact BK228.out⟩, ⟨by repeat (first | (with_reducible first | exact HB.out | apply Zac | apply Zaa | apply Zad | refine Zae ?_ GE228.out) | exact HB.out)⟩⟩
 case rest =>
  clear HC3
  try clear c1
  try clear c2
  try clear p2
  try clear c3
  try clear c6
  try clear hcz10_0
  try clear hcz10_1
  try clear hcz7_0
  try clear hcz7_1
  try clear hcz9_0
  try clear hcz9_1
  try clear hfz10_0
  try clear hfz10_1
  try clear hfz7_0
  try clear hfz7_1
  try clear hfz9_0
  try clear hfz9_1
  obtain ⟨kq, x19_2, rfl, HA, HJ2, BK228, HB⟩ := hcut
  cases kq with
  | zero => exact absurd HA.out (by simp [Zan.j0])
  | succ kj2 =>
   have H := HA.out
   clear HA
   simp only [Zan.j0] at H
   by_cases c12 : x19_2 = true
   ·subst c12
    have H1 : (some false) = some r := by rw [if_pos rfl] at H; exact H
    clear H
    have H := H1
    clear H1
    obtain rfl := Option.some.inj H
    go_wp2
    go_ret
    exact ⟨by first | rfl | (simp [Zat, Zas] <;> rfl) | (simp [*, Zat, Zas] <;> rfl), by repeat (first | (with_reducible first | exact HB.out | apply Zac | apply Zaa | apply Zad | refine Zae ?_ GE228.out) | exact HB.out)⟩
   ·replace c12 := Bool.eq_false_iff.mpr c12
    subst c12
    have H1 : ((impl_Values_floors.f kj2 a0_0 l0_1).bind fun t230 => ((impl_Values_ceilings.f kj2 a0_0 l0_1).bind fun t233 => (Zan.l0 kj2 t230 t233 l1 (l1.length : Int) 0))) = some r := by rw [if_neg (show ¬ (false = true) by decide)] at H; exact H
    clear H
    have H := H1
    clear H1
    replace H := Option.bind_eq_some_iff.mp H
    obtain ⟨t230, A130, H⟩ := H
    replace H : ((impl_Values_ceilings.f kj2 a0_0 l0_1).bind fun t233 => (Zan.l0 kj2 t230 t233 l1 (l1.length : Int) 0)) = some r := H
    have A13 := Zab.mk A130
    clear A130
    replace H := Option.bind_eq_some_iff.mp H
    obtain ⟨t233, A140, H⟩ := H
    replace H : (Zan.l0 kj2 t230 t233 l1 (l1.length : Int) 0) = some r := H
    have A14 := Zab.mk A140
    clear A140
    have H' := Zab.mk H
    clear H
    try go_wp2
    have n0_ := Zab.mk (Zak BK228.out)
    have n1_ := Zab.mk (Zad HB.out)
    clear BK228
    clear HB
    have BK228 := n0_
    have HB := n1_
    clear n0_ n1_
    refine start_ (n := 6) (S := fun w' => w'.cell? ⟨gb228, 0, none⟩ = some (.int .i64 a0_0) ∧ w'.cell? ⟨gb228, 1, none⟩ = some (.slice A0_1 l0_1.length c0_1)) (ds := []) #[false, false, false, false, false, false] (by kernel_rfl) rfl rfl ⟨(Zaj BK228.out 0).trans rfl, (Zaj BK228.out 1).trans rfl⟩ (fun hHeld => ?_)
    generalize wc.drew = w15 at BK228 HB hHeld ⊢
    refine take_ (i := 0) (N := some 20) (v := ?_) (a' := ?_) #[true, false, false, false, false, false] rfl rfl (by kernel_rfl) (fun _ _ _ h => h) (Or.inl ⟨by rfl, ?_⟩) hHeld ?_ ?_
    rotate_left
    ·rintro w' ⟨s0, s1⟩
     go_simp
     with_reducible rfl
    rotate_left
    ·simp only [Act.put, ZA, ZB, ZC, i64_w, i32_w]
     rfl
    refine take_ (i := 2) (N := some 22) (v := ?_) (a' := ?_) #[true, false, true, false, false, false] rfl rfl (by kernel_rfl) (fun _ _ _ h => h) (Or.inl ⟨by rfl, ?_⟩) hHeld ?_ ?_
    rotate_left
    ·rintro w' ⟨s0, s1⟩
     go_simp
     with_reducible rfl
    rotate_left
    ·simp only [Act.put, ZA, ZB, ZC, i64_w, i32_w]
     rfl
    refine one_ (i := 1) (N := some 21) #[true, true, true, false, false, false] rfl rfl (by kernel_rfl) (by decide) (fun K hK => ?_)
    refine goes_ Try.func51 (by kernel_rfl) rfl #[.agg #[.int .i64 a0_0, .slice A0_1 l0_1.length c0_1]] (by rfl) rfl rfl (by (try simp only [List.map_toArray, List.map_cons, List.map_nil]); first | done | rfl | (simp only [List.length_drop, List.length_take]; rfl)) ?_
    with_reducible refine (impl_Values_floors.calls kj2 a0_0 _ _ l0_1 t230 _ ?side1 ?side2 A13.out).mono ?_
    (case side1 => repeat (first | exact (Kd.C_below HR0_1.out HB.out) | (with_reducible refine Kd.C_alloc ?_ _) | (with_reducible refine Kd.C_drewN ?_ _) | (with_reducible refine Kd.C_drew ?_)))
    (case side2 => exact HC0_1.out)
    rintro e w16 ⟨v231, rfl, ho0, hb⟩
    refine ⟨_, rfl, ?_⟩
    have n0_ := Zab.mk (Kd.R_lower ho0 (Zam (by repeat (first | (with_reducible first | exact HB.out | apply Zac | apply Zaa | apply Zad | refine Zae ?_ GE228.out) | exact HB.out))))
    have n1_ := Zab.mk (Zao (g := gb228) (o := .cells #[.int .i64 a0_0, .slice A0_1 l0_1.length c0_1] 28 (0, 0)) (by (with_reducible repeat (first | refine Zag ?_ _ | refine Zak ?_ | refine Zaf ?_ _)); exact BK228.out) hb)
    have n2_ := Zab.mk (Zal (by repeat (first | (with_reducible first | exact HB.out | apply Zac | apply Zaa | apply Zad | refine Zae ?_ GE228.out) | exact HB.out)) hb)
    clear BK228
    clear HB
    have HO232 := n0_
    have BK228 := n1_
    have HB := n2_
    clear n0_ n1_ n2_
    (try clear hb)
    (try clear hb2)
    (try clear hk)
    (try clear hi)
    (try clear ho0)
    refine hK.out _ _ ⟨(Zaj BK228.out 0).trans rfl, (Zaj BK228.out 1).trans rfl⟩ (fun hHeld => ?_)
    clear hK K
    refine norm_ (a' := ?_) ?_ ?_
    rotate_left
    ·show Act.put _ (some 21) _ = _
     simp only [Act.put, ZA, ZB, ZC, i64_w, i32_w]
     rfl
    refine one_ (i := 3) (N := some 23) #[true, true, true, true, false, false] rfl rfl (by kernel_rfl) (by decide) (fun K hK => ?_)
    refine goes_ Try.func52 (by kernel_rfl) rfl #[.agg #[.int .i64 a0_0, .slice A0_1 l0_1.length c0_1]] (by rfl) rfl rfl (by (try simp only [List.map_toArray, List.map_cons, List.map_nil]); first | done | rfl | (simp only [List.length_drop, List.length_take]; rfl)) ?_
    with_reducible refine (impl_Values_ceilings.calls kj2 a0_0 _ _ l0_1 t233 _ ?side1 ?side2 A14.out).mono ?_
    (case side1 => repeat (first | exact (Kd.C_below HR0_1.out HB.out) | (with_reducible refine Kd.C_alloc ?_ _) | (with_reducible refine Kd.C_drewN ?_ _) | (with_reducible refine Kd.C_drew ?_)))
    (case side2 => exact HC0_1.out)
    rintro e w17 ⟨v234, rfl, ho0, hb⟩
    refine ⟨_, rfl, ?_⟩
    have n0_ := Zab.mk (Kd.R_elder' (by (with_reducible repeat (first | apply Kd.R_alloc | apply Kd.R_drewN | apply Kd.R_drew)); exact HO232.out) (Kd.R_base ho0) hb)
    have n1_ := Zab.mk (Kd.R_lower (Kd.R_new' ho0 (Kd.R_lt (by (with_reducible repeat (first | apply Kd.R_alloc | apply Kd.R_drewN | apply Kd.R_drew)); exact HO232.out))) (Zam (by repeat (first | (with_reducible first | exact HB.out | apply Zac | apply Zaa | apply Zad | refine Zae ?_ GE228.out) | exact HB.out))))
    have n2_ := Zab.mk (Zao (g := gb228) (o := .cells #[.int .i64 a0_0, .slice A0_1 l0_1.length c0_1] 28 (0, 0)) (by (with_reducible repeat (first | refine Zag ?_ _ | refine Zak ?_ | refine Zaf ?_ _)); exact BK228.out) hb)
    have n3_ := Zab.mk (Zal (by repeat (first | (with_reducible first | exact HB.out | apply Zac | apply Zaa | apply Zad | refine Zae ?_ GE228.out) | exact HB.out)) hb)
    clear HO232
    clear BK228
    clear HB
    have HO232 := n0_
    have HO235 := n1_
    have BK228 := n2_
    have HB := n3_
    clear n0_ n1_ n2_ n3_
    (try clear hb)
    (try clear hb2)
    (try clear hk)
    (try clear hi)
    (try clear ho0)
    refine hK.out _ _ ⟨(Zaj BK228.out 0).trans rfl, (Zaj BK228.out 1).trans rfl⟩ (fun hHeld => ?_)
    clear hK K
    refine norm_ (a' := ?_) ?_ ?_
    rotate_left
    ·show Act.put _ (some 23) _ = _
     simp only [Act.put, ZA, ZB, ZC, i64_w, i32_w]
     rfl
    refine pure_ (i := 4) (N := some 5) (v := ?_) (a' := ?_) #[true, true, true, true, true, false] rfl rfl (by kernel_rfl) (fun _ _ _ h => h) (Or.inl ⟨by rfl, ?_⟩) ?_ ?_
    rotate_left
    ·intro w'
     go_simp
     with_reducible rfl
    rotate_left
    ·simp only [Act.put, ZA, ZB, ZC, i64_w, i32_w]
     rfl
    refine pure_ (i := 5) (N := some 6) (v := ?_) (a' := ?_) #[true, true, true, true, true, true] rfl rfl (by kernel_rfl) (fun _ _ _ h => h) (Or.inl ⟨by rfl, ?_⟩) ?_ ?_
    rotate_left
    ·intro w'
     go_simp
     with_reducible rfl
    rotate_left
    ·simp only [Act.put, ZA, ZB, ZC, i64_w, i32_w]
     rfl
    refine done_ (by kernel_rfl) ?_
    try go_wp2
    go_loopg [26] kj2 (fun kq v26 w' => ∃ (x26_2 : Int), v26 = .int .i64 x26_2 ∧ Zab (Zan.l0 kq t230 t233 l1 (l1.length : Int) x26_2 = some r) ∧ Zab (kq ≤ kj2) ∧ Zab (Kd.R (Kd.int .i64) 2 w' w.heap.size (fun k_ => some k_ ≠ (v234 : Value).ownBlock) v231 t230) ∧ Zab (Kd.R (Kd.int .i64) 2 w' w.heap.size (fun k_ => some k_ ≠ (v231 : Value).ownBlock) v234 t233) ∧ Zab (w'.heap[gb228]? = some (.cells #[.int .i64 a0_0, (.slice A0_1 l0_1.length c0_1)] 28 (0, 0))) ∧ Zab (Below w.heap.size w w'))
    case atStart => exact ⟨(0), (by first | rfl | (simp; done) | (simp [*]; done) | (simp [IntWalk.i64_left, *]; done)), H', ⟨Nat.le_refl _⟩, ⟨by (with_reducible repeat (first | apply Kd.R_alloc | apply Kd.R_drewN | apply Kd.R_drew)); exact Kd.R_mono HO232.out (fun _ hk => hk.2)⟩, ⟨by (with_reducible repeat (first | apply Kd.R_alloc | apply Kd.R_drewN | apply Kd.R_drew)); exact Kd.R_mono HO235.out (fun _ hk => hk.2)⟩, ⟨by (with_reducible repeat (first | refine Zag ?_ _ | refine Zak ?_ | refine Zaf ?_ _)); exact BK228.out⟩, ⟨by repeat (first | (with_reducible first | exact HB.out | apply Zac | apply Zaa | apply Zad | refine Zae ?_ GE228.out) | exact HB.out)⟩⟩
    case round =>
     clear H'
     try clear c1
     try clear c2
     try clear p2
     try clear c3
     try clear c5
     try clear c6
     try clear c12
     try clear hcz10_0
     try clear hcz10_1
     try clear hcz7_0
     try clear hcz7_1
     try clear hcz9_0
     try clear hcz9_1
     try clear hfz10_0
     try clear hfz10_1
     try clear hfz7_0
     try clear hfz7_1
     try clear hfz9_0
     try clear hfz9_1
     try clear p2
     obtain ⟨x26_2, rfl, HA, HK2, HO_5, HO_6, BK228, HB⟩ := hrel
     cases gk with
     | zero => exact absurd HA.out (by simp [Zan.l0])
     | succ k2 =>
      have H := HA.out
      clear HA
      simp only [Zan.l0] at H
      by_cases c18 : x26_2 < (l1.length : Int)
      ·rw [if_pos c18] at H
       have c18b0 : decide (x26_2 < (l1.length : Int)) = true := decide_eq_true c18
       clear c18
       by_cases c19 : 0 ≤ x26_2
       ·rw [if_pos c19] at H
        have c19b0 : decide (0 ≤ x26_2) = true := decide_eq_true c19
        clear c19
        by_cases c20 : x26_2 < (l1.length : Int)
        ·rw [if_pos c20] at H
         have c20b0 : decide (x26_2 < (l1.length : Int)) = true := decide_eq_true c20
         clear c20
         by_cases c21 : x26_2 < (t230.length : Int)
         ·rw [if_pos c21] at H
          have c21b0 : decide (x26_2 < (t230.length : Int)) = true := decide_eq_true c21
          clear c21
          by_cases c22 : (rd l1 x26_2) = (rd t230 x26_2)
          ·rw [if_pos c22] at H
           have c22b0 : ((rd l1 x26_2) == (rd t230 x26_2)) = true := beq_iff_eq.mpr c22
           have c22b1 : ((rd l1 x26_2) != (rd t230 x26_2)) = false := bne_eq_false_iff_eq.mpr c22
           clear c22
           have H' := Zab.mk H
           clear H
           have p236 : 0 ≤ (x26_2 : Int) := of_decide_eq_true (by first | (with_reducible assumption) | assumption)
           have q236 : x26_2 < (l1.length : Int) := of_decide_eq_true (by first | (with_reducible assumption) | assumption)
           obtain ⟨ad236, e236, hx236_0⟩ := Kd.at_int HR1.out x26_2 p236 q236
           cases e236
           replace hx236_0 := (HB.out.cell (World.block_lt_of_cell? w _ hx236_0)).trans hx236_0
           replace p236 := eq_true p236
           replace q236 := eq_true q236
           obtain ⟨Ao23, co23, eo23⟩ := Kd.R_slice HO_5.out
           subst eo23
           have p237 : 0 ≤ (x26_2 : Int) := of_decide_eq_true (by first | (with_reducible assumption) | assumption)
           have q237 : x26_2 < (t230.length : Int) := of_decide_eq_true (by first | (with_reducible assumption) | assumption)
           (try (obtain ⟨Aqad237, cqad237, eqad237⟩ := Kd.R_slice HO_5.out; subst eqad237))
           obtain ⟨ad237, e237, hx237_0⟩ := Kd.at_int (Kd.R_reads' HO_5.out).2.2 x26_2 p237 q237
           cases e237
           replace p237 := eq_true p237
           replace q237 := eq_true q237
           go_wp2
           go_roundg k2
           case measure => have := HJ2.out; have := HK2.out; omega
           case rel => exact ⟨(wrap64 (x26_2 + 1)), (by first | rfl | (simp; done) | (simp [*]; done) | (simp [IntWalk.i64_left, *]; done)), H', ⟨by have := HJ2.out; have := HK2.out; omega⟩, ⟨by (with_reducible repeat (first | apply Kd.R_alloc | apply Kd.R_drewN | apply Kd.R_drew)); exact HO_5.out⟩, ⟨by (with_reducible repeat (first | apply Kd.R_alloc | apply Kd.R_drewN | apply Kd.R_drew)); exact HO_6.out⟩, ⟨by (with_reducible repeat (first | refine Zag ?_ _ | refine Zak ?_ | refine Zaf ?_ _)); exact BK228.out⟩, ⟨by repeat (first | (with_reducible first | exact HB.out | apply Zac | apply Zaa | apply Zad | refine Zae ?_ GE228.out) | exact HB.out)⟩⟩
          ·rw [if_neg c22] at H
           have c22b0 : ((rd l1 x26_2) == (rd t230 x26_2)) = false := beq_eq_false_iff_ne.mpr c22
           have c22b1 : ((rd l1 x26_2) != (rd t230 x26_2)) = true := bne_iff_ne.mpr c22
           by_cases c24 : x26_2 < (t233.length : Int)
           ·rw [if_pos c24] at H
            have c24b0 : decide (x26_2 < (t233.length : Int)) = true := decide_eq_true c24
            clear c24
            by_cases c25 : (rd l1 x26_2) = (rd t233 x26_2)
            ·rw [if_pos c25] at H
             have c25b0 : ((rd l1 x26_2) == (rd t233 x26_2)) = true := beq_iff_eq.mpr c25
             have c25b1 : ((rd l1 x26_2) != (rd t233 x26_2)) = false := bne_eq_false_iff_eq.mpr c25
             clear c25
             have H' := Zab.mk H
             clear H
             have p236 : 0 ≤ (x26_2 : Int) := of_decide_eq_true (by first | (with_reducible assumption) | assumption)
             have q236 : x26_2 < (l1.length : Int) := of_decide_eq_true (by first | (with_reducible assumption) | assumption)
             obtain ⟨ad236, e236, hx236_0⟩ := Kd.at_int HR1.out x26_2 p236 q236
             cases e236
             replace hx236_0 := (HB.out.cell (World.block_lt_of_cell? w _ hx236_0)).trans hx236_0
             replace p236 := eq_true p236
             replace q236 := eq_true q236
             obtain ⟨Ao26, co26, eo26⟩ := Kd.R_slice HO_5.out
             subst eo26
             have p237 : 0 ≤ (x26_2 : Int) := of_decide_eq_true (by first | (with_reducible assumption) | assumption)
             have q237 : x26_2 < (t230.length : Int) := of_decide_eq_true (by first | (with_reducible assumption) | assumption)
             (try (obtain ⟨Aqad237, cqad237, eqad237⟩ := Kd.R_slice HO_5.out; subst eqad237))
             obtain ⟨ad237, e237, hx237_0⟩ := Kd.at_int (Kd.R_reads' HO_5.out).2.2 x26_2 p237 q237
             cases e237
             replace p237 := eq_true p237
             replace q237 := eq_true q237
             obtain ⟨Ao27, co27, eo27⟩ := Kd.R_slice HO_6.out
             subst eo27
             have p238 : 0 ≤ (x26_2 : Int) := of_decide_eq_true (by first | (with_reducible assumption) | assumption)
             have q238 : x26_2 < (t233.length : Int) := of_decide_eq_true (by first | (with_reducible assumption) | assumption)
             (try (obtain ⟨Aqad238, cqad238, eqad238⟩ := Kd.R_slice HO_6.out; subst eqad238))
             obtain ⟨ad238, e238, hx238_0⟩ := Kd.at_int (Kd.R_reads' HO_6.out).2.2 x26_2 p238 q238
             cases e238
             replace p238 := eq_true p238
             replace q238 := eq_true q238
             go_wp2
             go_roundg k2
             case measure => have := HJ2.out; have := HK2.out; omega
             case rel => exact ⟨(wrap64 (x26_2 + 1)), (by first | rfl | (simp; done) | (simp [*]; done) | (simp [IntWalk.i64_left, *]; done)), H', ⟨by have := HJ2.out; have := HK2.out; omega⟩, ⟨by (with_reducible repeat (first | apply Kd.R_alloc | apply Kd.R_drewN | apply Kd.R_drew)); exact HO_5.out⟩, ⟨by (with_reducible repeat (first | apply Kd.R_alloc | apply Kd.R_drewN | apply Kd.R_drew)); exact HO_6.out⟩, ⟨by (with_reducible repeat (first | refine Zag ?_ _ | refine Zak ?_ | refine Zaf ?_ _)); exact BK228.out⟩, ⟨by repeat (first | (with_reducible first | exact HB.out | apply Zac | apply Zaa | apply Zad | refine Zae ?_ GE228.out) | exact HB.out)⟩⟩
            ·rw [if_neg c25] at H
             have c25b0 : ((rd l1 x26_2) == (rd t233 x26_2)) = false := beq_eq_false_iff_ne.mpr c25
             have c25b1 : ((rd l1 x26_2) != (rd t233 x26_2)) = true := bne_iff_ne.mpr c25
             obtain rfl := Option.some.inj H
             have p236 : 0 ≤ (x26_2 : Int) := of_decide_eq_true (by first | (with_reducible assumption) | assumption)
             have q236 : x26_2 < (l1.length : Int) := of_decide_eq_true (by first | (with_reducible assumption) | assumption)
             obtain ⟨ad236, e236, hx236_0⟩ := Kd.at_int HR1.out x26_2 p236 q236
             cases e236
             replace hx236_0 := (HB.out.cell (World.block_lt_of_cell? w _ hx236_0)).trans hx236_0
             replace p236 := eq_true p236
             replace q236 := eq_true q236
             obtain ⟨Ao28, co28, eo28⟩ := Kd.R_slice HO_5.out
             subst eo28
             have p237 : 0 ≤ (x26_2 : Int) := of_decide_eq_true (by first | (with_reducible assumption) | assumption)
             have q237 : x26_2 < (t230.length : Int) := of_decide_eq_true (by first | (with_reducible assumption) | assumption)
             (try (obtain ⟨Aqad237, cqad237, eqad237⟩ := Kd.R_slice HO_5.out; subst eqad237))
             obtain ⟨ad237, e237, hx237_0⟩ := Kd.at_int (Kd.R_reads' HO_5.out).2.2 x26_2 p237 q237
             cases e237
             replace p237 := eq_true p237
             replace q237 := eq_true q237
             obtain ⟨Ao29, co29, eo29⟩ := Kd.R_slice HO_6.out
             subst eo29
             have p238 : 0 ≤ (x26_2 : Int) := of_decide_eq_true (by first | (with_reducible assumption) | assumption)
             have q238 : x26_2 < (t233.length : Int) := of_decide_eq_true (by first | (with_reducible assumption) | assumption)
             (try (obtain ⟨Aqad238, cqad238, eqad238⟩ := Kd.R_slice HO_6.out; subst eqad238))
             obtain ⟨ad238, e238, hx238_0⟩ := Kd.at_int (Kd.R_reads' HO_6.out).2.2 x26_2 p238 q238
             cases e238
             replace p238 := eq_true p238
             replace q238 := eq_true q238
             go_wp2
             go_ret
             exact ⟨by first | rfl | (simp [Zat, Zas] <;> rfl) | (simp [*, Zat, Zas] <;> rfl), by repeat (first | (with_reducible first | exact HB.out | apply Zac | apply Zaa | apply Zad | refine Zae ?_ GE228.out) | exact HB.out)⟩
           ·rw [if_neg c24] at H
            exact absurd H (by simp)
         ·rw [if_neg c21] at H
          exact absurd H (by simp)
        ·rw [if_neg c20] at H
         exact absurd H (by simp)
       ·rw [if_neg c19] at H
        exact absurd H (by simp)
      ·rw [if_neg c18] at H
       have c18b0 : decide (x26_2 < (l1.length : Int)) = false := decide_eq_false c18
       clear c18
       obtain rfl := Option.some.inj H
       go_wp2
       go_ret
       exact ⟨by first | rfl | (simp [Zat, Zas] <;> rfl) | (simp [*, Zat, Zas] <;> rfl), by repeat (first | (with_reducible first | exact HB.out | apply Zac | apply Zaa | apply Zad | refine Zae ?_ GE228.out) | exact HB.out)⟩
end Go.Proofs.Ytanflefkbbhimaa.P
