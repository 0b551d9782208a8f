import Derived.Test.YtanflefkbbhimaaXP0FnRunning
import Derived.Test.YtanflefkbbhimaaXP1FnRunning
namespace Go.Proofs.Ytanflefkbbhimaa.P
open Go.RowKit Go.Proofs.YtanflefkbbhimaaW.PrintWords Go.Proofs.YtanflefkbbhimaaW.PrintLast Go.Proofs.YtanflefkbbhimaaW.PrintMore
attribute [local go_sem] max2_int min2_int max_two min_two max_three min_three max_four min_four
set_option linter.unusedVariables false
set_option linter.unusedSimpArgs false
def impl_nearest.f (a0 : Int) (a1 : Int) : Option (Int) := (impl_floor.f a0 a1).bind fun t165 => (if (wrap64 (2 * (wrap64 (a0 - (wrap64 (t165 * a1)))))) > a1 then (some (wrap64 (t165 + 1))) else (if (wrap64 (2 * (wrap64 (a0 - (wrap64 (t165 * a1)))))) = a1 then (if (Int.tmod t165 2) = 0 then (some t165) else (some (wrap64 (t165 + 1)))) else (some t165)))
set_option maxHeartbeats 8000000 in
set_option maxRecDepth 100000 in
theorem impl_nearest.calls (a0 : Int) (a1 : Int) (r : Int) (w : World) (h : impl_nearest.f a0 a1 = some r) :
  Calls Try.prog 48 #[.int .i64 a0, .int .i64 a1] w fun e w' => e = .returned (.int .i64 r) ∧ Za4 w w' := by
 have H : ((impl_floor.f a0 a1).bind fun t165 => (if (wrap64 (2 * (wrap64 (a0 - (wrap64 (t165 * a1)))))) > a1 then (some (wrap64 (t165 + 1))) else (if (wrap64 (2 * (wrap64 (a0 - (wrap64 (t165 * a1)))))) = a1 then (if (Int.tmod t165 2) = 0 then (some t165) else (some (wrap64 (t165 + 1)))) else (some t165)))) = some r := h
 clear h
 replace H := Option.bind_eq_some_iff.mp H
 obtain ⟨t165, A30, H⟩ := H
 replace H : (if (wrap64 (2 * (wrap64 (a0 - (wrap64 (t165 * a1)))))) > a1 then (some (wrap64 (t165 + 1))) else (if (wrap64 (2 * (wrap64 (a0 - (wrap64 (t165 * a1)))))) = a1 then (if (Int.tmod t165 2) = 0 then (some t165) else (some (wrap64 (t165 + 1)))) else (some t165))) = some r := H
 have A3 := Zab.mk A30
 clear A30
 by_cases c4 : (wrap64 (2 * (wrap64 (a0 - (wrap64 (t165 * a1)))))) > a1
 ·rw [if_pos c4] at H
  have c4b0 : decide (a1 < (wrap64 (2 * (wrap64 (a0 - (wrap64 (t165 * a1))))))) = true := decide_eq_true c4
  clear c4
  obtain rfl := Option.some.inj H
  as_aux_lemma =>
   go_enter Try.func48, Try.ntmps48
   go_wp2_with (first | ((with_reducible refine Zax (f := 39) rfl ?_); refine goesL_ (some 9) rfl rfl Try.func39 (by kernel_rfl) rfl #[.int .i64 a0, .int .i64 a1] rfl (by (try simp only [List.map_toArray, List.map_cons, List.map_nil]); first | done | rfl | (simp only [List.length_drop, List.length_take]; rfl)) ?_; (with_reducible refine (impl_floor.calls a0 a1 t165 _ A3.out).mono ?_); rintro e w' ⟨rfl, ⟨nd, rfl⟩⟩; refine ⟨_, rfl, ?_⟩))
   go_ret
   exact ⟨by first | rfl | (simp; done) | (simp [*]; done), by repeat (first | exact Za4.refl _ | apply Za4.step)⟩
 ·rw [if_neg c4] at H
  have c4b0 : decide (a1 < (wrap64 (2 * (wrap64 (a0 - (wrap64 (t165 * a1))))))) = false := decide_eq_false c4
  clear c4
  by_cases c5 : (wrap64 (2 * (wrap64 (a0 - (wrap64 (t165 * a1)))))) = a1
  ·rw [if_pos c5] at H
   have c5b0 : ((wrap64 (2 * (wrap64 (a0 - (wrap64 (t165 * a1)))))) == a1) = true := beq_iff_eq.mpr c5
   have c5b1 : ((wrap64 (2 * (wrap64 (a0 - (wrap64 (t165 * a1)))))) != a1) = false := bne_eq_false_iff_eq.mpr c5
   clear c5
   by_cases c6 : (Int.tmod t165 2) = 0
   ·rw [if_pos c6] at H
    have c6b0 : ((Int.tmod t165 2) == 0) = true := beq_iff_eq.mpr c6
    have c6b1 : ((Int.tmod t165 2) != 0) = false := bne_eq_false_iff_eq.mpr c6
    clear c6
    obtain rfl := Option.some.inj H
    as_aux_lemma =>
     go_enter Try.func48, Try.ntmps48
     go_wp2_with (first | ((with_reducible refine Zax (f := 39) rfl ?_); refine goesL_ (some 9) rfl rfl Try.func39 (by kernel_rfl) rfl #[.int .i64 a0, .int .i64 a1] rfl (by (try simp only [List.map_toArray, List.map_cons, List.map_nil]); first | done | rfl | (simp only [List.length_drop, List.length_take]; rfl)) ?_; (with_reducible refine (impl_floor.calls a0 a1 t165 _ A3.out).mono ?_); rintro e w' ⟨rfl, ⟨nd, rfl⟩⟩; refine ⟨_, rfl, ?_⟩))
     go_ret
     exact ⟨by first | rfl | (simp; done) | (simp [*]; done), by repeat (first | exact Za4.refl _ | apply Za4.step)⟩
   ·rw [if_neg c6] at H
    have c6b0 : ((Int.tmod t165 2) == 0) = false := beq_eq_false_iff_ne.mpr c6
    have c6b1 : ((Int.tmod t165 2) != 0) = true := bne_iff_ne.mpr c6
    obtain rfl := Option.some.inj H
    as_aux_lemma =>
     go_enter Try.func48, Try.ntmps48
     go_wp2_with (first | ((with_reducible refine Zax (f := 39) rfl ?_); refine goesL_ (some 9) rfl rfl Try.func39 (by kernel_rfl) rfl #[.int .i64 a0, .int .i64 a1] rfl (by (try simp only [List.map_toArray, List.map_cons, List.map_nil]); first | done | rfl | (simp only [List.length_drop, List.length_take]; rfl)) ?_; (with_reducible refine (impl_floor.calls a0 a1 t165 _ A3.out).mono ?_); rintro e w' ⟨rfl, ⟨nd, rfl⟩⟩; refine ⟨_, rfl, ?_⟩))
     go_ret
     exact ⟨by first | rfl | (simp; done) | (simp [*]; done), by repeat (first | exact Za4.refl _ | apply Za4.step)⟩
  ·rw [if_neg c5] at H
   have c5b0 : ((wrap64 (2 * (wrap64 (a0 - (wrap64 (t165 * a1)))))) == a1) = false := beq_eq_false_iff_ne.mpr c5
   have c5b1 : ((wrap64 (2 * (wrap64 (a0 - (wrap64 (t165 * a1)))))) != a1) = true := bne_iff_ne.mpr c5
   obtain rfl := Option.some.inj H
   as_aux_lemma =>
    go_enter Try.func48, Try.ntmps48
    go_wp2_with (first | ((with_reducible refine Zax (f := 39) rfl ?_); refine goesL_ (some 9) rfl rfl Try.func39 (by kernel_rfl) rfl #[.int .i64 a0, .int .i64 a1] rfl (by (try simp only [List.map_toArray, List.map_cons, List.map_nil]); first | done | rfl | (simp only [List.length_drop, List.length_take]; rfl)) ?_; (with_reducible refine (impl_floor.calls a0 a1 t165 _ A3.out).mono ?_); rintro e w' ⟨rfl, ⟨nd, rfl⟩⟩; refine ⟨_, rfl, ?_⟩))
    go_ret
    exact ⟨by first | rfl | (simp; done) | (simp [*]; done), by repeat (first | exact Za4.refl _ | apply Za4.step)⟩
def Za1.l0 : Nat → List Int → Int → List Int → Int → Int → Int → List Int → Option (List Int × Bool)
 | 0, _, _, _, _, _, _, _ => none
 | k + 1, x6, x7, x17, x18, x19, x167000, x167001 => if x19 < x18 then (if 0 ≤ x19 then (if x19 < (x17.length : Int) then ((impl_nearest.f (rd x17 x19) x167000).bind fun t175 => (if x6.length < 17592186044416 then (Za1.l0 k (x6 ++ [wrap64 (t175 - x7)]) t175 x17 x18 (wrap64 (x19 + 1)) x167000 x167001) else (none))) else (none)) else (none)) else (some (x6, true))
def Za1.f (k : Nat) (a0_0 : Int) (l0_1 : List Int)  : Option (List Int × Bool) := (Za0.f k a0_0 l0_1).bind fun t167 => (if t167 = true then ((Zaz.f k l0_1).bind fun t171 => (Za1.l0 k (([] : List Int)) 0 t171 (t171.length : Int) 0 a0_0 l0_1)) else (some (([] : List Int), false)))
set_option maxHeartbeats 8000000 in
set_option maxRecDepth 100000 in
theorem Za1.calls (k : Nat) (a0_0 : Int) (A0_1 : Option Addr) (c0_1 : Nat) (l0_1 : List Int)  (r1 : List Int) (r2 : Bool) (w : World) (hr0_1 : Kd.C (Kd.int .i64) w A0_1 l0_1.length l0_1) (hc0_1 : l0_1.length ≤ c0_1) (h : Za1.f k a0_0 l0_1 = some (r1, r2)) :
  Calls Try.prog 47 #[.agg #[.int .i64 a0_0, .slice A0_1 l0_1.length c0_1], .func (.func 48) #[] #[]] w fun e w' => ∃ v0_ : Value, e = .returned (.tuple #[v0_, .bool r2]) ∧ Kd.R (Kd.int .i64) 2 w' w.heap.size (fun _ => True) v0_ r1 ∧ Below w.heap.size w w' := by
 have hu28 := Try.underlying28
 have HR0_1 := Zab.mk hr0_1
 have HC0_1 := Zab.mk hc0_1
 clear hr0_1 hc0_1
 have HB := Zab.mk (Below.refl w.heap.size w)
 have H : ((Za0.f k a0_0 l0_1).bind fun t167 => (if t167 = true then ((Zaz.f k l0_1).bind fun t171 => (Za1.l0 k (([] : List Int)) 0 t171 (t171.length : Int) 0 a0_0 l0_1)) else (some (([] : List Int), false)))) = some (r1, r2) := h
 clear h
 replace H := Option.bind_eq_some_iff.mp H
 obtain ⟨t167, A30, H⟩ := H
 replace H : (if t167 = true then ((Zaz.f k l0_1).bind fun t171 => (Za1.l0 k (([] : List Int)) 0 t171 (t171.length : Int) 0 a0_0 l0_1)) else (some (([] : List Int), false))) = some (r1, r2) := H
 have A3 := Zab.mk A30
 clear A30
 by_cases c4 : t167 = true
 ·subst c4
  have H1 : ((Zaz.f k l0_1).bind fun t171 => (Za1.l0 k (([] : List Int)) 0 t171 (t171.length : Int) 0 a0_0 l0_1)) = some (r1, r2) := by rw [if_pos rfl] at H; exact H
  clear H
  have H := H1
  clear H1
  obtain ⟨y168, hy168⟩ : ∃ y_ : List Int, y_ = (([] : List Int)) := ⟨_, rfl⟩
  replace H : ((Zaz.f k l0_1).bind fun t171 => (Za1.l0 k y168 0 t171 (t171.length : Int) 0 a0_0 l0_1)) = some (r1, r2) := by first | (rw [hy168]; with_reducible exact H) | (have H2_ := (Option.bind_some _ _).symm.trans H; rw [hy168]; with_reducible exact H2_) | (have H2_ := (Option.bind_some _ _).symm.trans H; with_reducible exact H2_) | with_reducible exact H | (rw [hy168]; exact H) | exact H
  have Ny168 := Zab.mk hy168
  clear hy168
  replace H := Option.bind_eq_some_iff.mp H
  obtain ⟨t171, A50, H⟩ := H
  replace H : (Za1.l0 k y168 0 t171 (t171.length : Int) 0 a0_0 l0_1) = some (r1, r2) := H
  have A5 := Zab.mk A50
  clear A50
  have H' := Zab.mk H
  clear H
  go_enter Try.func47, Try.ntmps47
  go_wp2_with (first | ((with_reducible refine gate_dst (N := 2) rfl ?_); refine box_event ?hg (N := 2) ?hd (cs := #[.int .i64 a0_0, .slice A0_1 l0_1.length c0_1]) (t := 28) ?hr ?_; (case hd => rfl); (case hg => rfl); (case hr => first | (go_simp; done) | (go_simp; rfl)); intro gb166 hg w6 hbox hb; have n0_ := Zab.mk (Zal (by repeat (first | (with_reducible first | exact HB.out | apply Zac | apply Zaa | apply Zad) | exact HB.out)) hb); have n1_ := Zab.mk (hbox); have n2_ := Zab.mk ((by rw [hg]; exact (Zam (by repeat (first | (with_reducible first | exact HB.out | apply Zac | apply Zaa | apply Zad) | exact HB.out))) : w.heap.size ≤ gb166)); have n3_ := Zab.mk ((by rw [hg]; exact (Zam (by repeat (first | (with_reducible first | exact HB.out | apply Zac | apply Zaa | apply Zad) | exact HB.out))) : w.heap.size ≤ gb166)); clear HB; have HB := n0_; have BK166 := n1_; have GW166 := n2_; have GE166 := n3_; clear n0_ n1_ n2_ n3_; clear hb hbox hg; have hcz7_0 : w6.cell? ⟨gb166, 0, none⟩ = some (.int .i64 a0_0) := (Zaj BK166.out 0).trans rfl; have hcz7_1 : w6.cell? ⟨gb166, 1, none⟩ = some (.slice A0_1 l0_1.length c0_1) := (Zaj BK166.out 1).trans rfl; have hfz7_0 := Zah BK166.out 0; have hfz7_1 := Zah BK166.out 1) | ((with_reducible refine Zax (f := 34) rfl ?_); refine goesL_ (some 12) rfl rfl Try.func34 (by kernel_rfl) rfl #[.agg #[.int .i64 a0_0, .slice A0_1 l0_1.length c0_1]] rfl (by (try simp only [List.map_toArray, List.map_cons, List.map_nil]); first | done | rfl | (simp only [List.length_drop, List.length_take]; rfl)) ?_; (with_reducible refine (Za0.calls k a0_0 _ _ l0_1 true _ ?side1 ?side2 A3.out).mono ?_); (case side1 => repeat (first | exact (Kd.C_below HR0_1.out HB.out) | (with_reducible refine Kd.C_alloc ?_ _) | (with_reducible refine Kd.C_drewN ?_ _) | (with_reducible refine Kd.C_drew ?_))); (case side2 => exact HC0_1.out); rintro e w8 ⟨rfl, hb⟩; refine ⟨_, rfl, ?_⟩; have n0_ := Zab.mk (Zao (g := gb166) (o := .cells #[.int .i64 a0_0, .slice A0_1 l0_1.length c0_1] 28 (0, 0)) (by (with_reducible repeat (first | refine Zag ?_ _ | refine Zak ?_ | refine Zaf ?_ _)); exact BK166.out) hb); have n1_ := Zab.mk (Zal (by repeat (first | (with_reducible first | exact HB.out | apply Zac | apply Zaa | apply Zad | refine Zae ?_ GE166.out) | exact HB.out)) hb); clear BK166; clear HB; have BK166 := n0_; have HB := n1_; clear n0_ n1_; (try clear hb); (try clear hb2); (try clear hk); (try clear hi)) | ((with_reducible refine gate_dst (N := 14) rfl ?_); refine Kd.R_lit (Kd.int .i64) _ 2 ?hg (N := 14) ?hd (xs := ([] : List Int)) (inner := []) (ok := fun _ => True) (okp := fun _ => True) ?hr ?hp (fun _ hk => hk) trivial (Below.refl _ _) (Nat.le_refl _) (by simp) ?_; (case hd => rfl); (case hg => rfl); (case hr => first | (go_simp; done) | (go_simp; rfl)); (case hp => exact (Reps.none _ _)); intro v169 w9 ho10 hb hg_ hnew_; clear hg_ hnew_; (first | rw [← Ny168.out] at ho10 | (simp only [Int.reduceToNat] at ho10; rw [← Ny168.out] at ho10)); have n0_ := Zab.mk (Kd.R_lower ho10 (Zam (by repeat (first | (with_reducible first | exact HB.out | apply Zac | apply Zaa | apply Zad | refine Zae ?_ GE166.out) | exact HB.out)))); have n1_ := Zab.mk (Zao (g := gb166) (o := .cells #[.int .i64 a0_0, .slice A0_1 l0_1.length c0_1] 28 (0, 0)) (by (with_reducible repeat (first | refine Zag ?_ _ | refine Zak ?_ | refine Zaf ?_ _)); exact BK166.out) hb); have n2_ := Zab.mk (Zal (by repeat (first | (with_reducible first | exact HB.out | apply Zac | apply Zaa | apply Zad | refine Zae ?_ GE166.out) | exact HB.out)) hb); clear BK166; clear HB; have HO170 := n0_; have BK166 := n1_; have HB := n2_; clear n0_ n1_ n2_; clear hb ho10; have hcz11_0 : w9.cell? ⟨gb166, 0, none⟩ = some (.int .i64 a0_0) := (Zaj BK166.out 0).trans rfl; have hcz11_1 : w9.cell? ⟨gb166, 1, none⟩ = some (.slice A0_1 l0_1.length c0_1) := (Zaj BK166.out 1).trans rfl; have hfz11_0 := Zah BK166.out 0; have hfz11_1 := Zah BK166.out 1) | ((with_reducible refine Zax (f := 38) rfl ?_); refine goesL_ (some 17) rfl rfl Try.func38 (by kernel_rfl) rfl #[.slice A0_1 l0_1.length c0_1] rfl (by (try simp only [List.map_toArray, List.map_cons, List.map_nil]); first | done | rfl | (simp only [List.length_drop, List.length_take]; rfl)) ?_; (with_reducible refine (Zaz.calls k _ _ l0_1 t171 _ ?side1 ?side2 A5.out).mono ?_); (case side1 => repeat (first | exact (Kd.C_below HR0_1.out HB.out) | (with_reducible refine Kd.C_alloc ?_ _) | (with_reducible refine Kd.C_drewN ?_ _) | (with_reducible refine Kd.C_drew ?_))); (case side2 => exact HC0_1.out); rintro e w12 ⟨v172, rfl, ho0, hb⟩; refine ⟨_, rfl, ?_⟩; have n0_ := Zab.mk (Kd.R_elder' (by (with_reducible repeat (first | apply Kd.R_alloc | apply Kd.R_drewN | apply Kd.R_drew)); exact HO170.out) (Kd.R_base ho0) hb); have n1_ := Zab.mk (Kd.R_lower (Kd.R_new' ho0 (Kd.R_lt (by (with_reducible repeat (first | apply Kd.R_alloc | apply Kd.R_drewN | apply Kd.R_drew)); exact HO170.out))) (Zam (by repeat (first | (with_reducible first | exact HB.out | apply Zac | apply Zaa | apply Zad | refine Zae ?_ GE166.out) | exact HB.out)))); have n2_ := Zab.mk (Zao (g := gb166) (o := .cells #[.int .i64 a0_0, .slice A0_1 l0_1.length c0_1] 28 (0, 0)) (by (with_reducible repeat (first | refine Zag ?_ _ | refine Zak ?_ | refine Zaf ?_ _)); exact BK166.out) hb); have n3_ := Zab.mk (Zal (by repeat (first | (with_reducible first | exact HB.out | apply Zac | apply Zaa | apply Zad | refine Zae ?_ GE166.out) | exact HB.out)) hb); clear HO170; clear BK166; clear HB; have HO170 := n0_; have HO173 := n1_; have BK166 := n2_; have HB := n3_; clear n0_ n1_ n2_ n3_; (try clear hb); (try clear hb2); (try clear hk); (try clear hi); (try clear ho0); obtain ⟨Ao13, co13, eo13⟩ := Kd.R_slice HO173.out; subst eo13))
  try simp only [Act.put, List.setIfInBounds_toArray, List.set_cons_zero, List.set_cons_succ]
  go_loopg [6, 7, 19] k (fun kq v6 v7 v19 w' => ∃ (x6_1 : List Int) (x7_1 : Int) (x19_1 : Int), v7 = .int .i64 x7_1 ∧ v19 = .int .i64 x19_1 ∧ Zab (Za1.l0 kq x6_1 x7_1 t171 (t171.length : Int) x19_1 a0_0 l0_1 = some (r1, r2)) ∧ Zab (kq ≤ k) ∧ Zab (Kd.R (Kd.int .i64) 2 w' w.heap.size (fun k_ => some k_ ≠ ((.slice Ao13 t171.length co13) : Value).ownBlock) v6 x6_1) ∧ Zab (Kd.R (Kd.int .i64) 2 w' w.heap.size (fun k_ => some k_ ≠ (v6 : Value).ownBlock) (.slice Ao13 t171.length co13) t171) ∧ Zab (w'.heap[gb166]? = some (.cells #[.int .i64 a0_0, (.slice A0_1 l0_1.length c0_1)] 28 (0, 0))) ∧ Zab (Below w.heap.size w w'))
  case atStart => exact ⟨(y168), (0), (0), (by first | rfl | (simp; done) | (simp [*]; done)), (by first | rfl | (simp; done) | (simp [*]; done)), H', ⟨Nat.le_refl _⟩, ⟨by (with_reducible repeat (first | apply Kd.R_alloc | apply Kd.R_drewN | apply Kd.R_drew)); exact Kd.R_mono HO170.out (fun _ hk => hk.2)⟩, ⟨by (with_reducible repeat (first | apply Kd.R_alloc | apply Kd.R_drewN | apply Kd.R_drew)); exact Kd.R_mono HO173.out (fun _ hk => hk.2)⟩, ⟨by (with_reducible repeat (first | refine Zag ?_ _ | refine Zak ?_ | refine Zaf ?_ _)); exact BK166.out⟩, ⟨by repeat (first | (with_reducible first | exact HB.out | apply Zac | apply Zaa | apply Zad | refine Zae ?_ GE166.out) | exact HB.out)⟩⟩
  case round =>
   clear H'
   try clear p2
   try clear c3
   try clear c4
   try clear c9
   try clear hcz11_0
   try clear hcz11_1
   try clear hcz7_0
   try clear hcz7_1
   try clear hfz11_0
   try clear hfz11_1
   try clear hfz7_0
   try clear hfz7_1
   obtain ⟨x6_1, x7_1, x19_1, rfl, rfl, HA, HK1, HO_6, HO_17, BK166, HB⟩ := hrel
   cases gk with
   | zero => exact absurd HA.out (by simp [Za1.l0])
   | succ k1 =>
    have H := HA.out
    clear HA
    simp only [Za1.l0] at H
    by_cases c14 : x19_1 < (t171.length : Int)
    ·rw [if_pos c14] at H
     have c14b0 : decide (x19_1 < (t171.length : Int)) = true := decide_eq_true c14
     clear c14
     by_cases c15 : 0 ≤ x19_1
     ·rw [if_pos c15] at H
      have c15b0 : decide (0 ≤ x19_1) = true := decide_eq_true c15
      clear c15
      by_cases c16 : x19_1 < (t171.length : Int)
      ·rw [if_pos c16] at H
       have c16b0 : decide (x19_1 < (t171.length : Int)) = true := decide_eq_true c16
       clear c16
       replace H := Option.bind_eq_some_iff.mp H
       obtain ⟨t175, A170, H⟩ := H
       replace H : (if x6_1.length < 17592186044416 then (Za1.l0 k1 (x6_1 ++ [wrap64 (t175 - x7_1)]) t175 t171 (t171.length : Int) (wrap64 (x19_1 + 1)) a0_0 l0_1) else (none)) = some (r1, r2) := H
       have A17 := Zab.mk A170
       clear A170
       by_cases c18 : x6_1.length < 17592186044416
       ·rw [if_pos c18] at H
        have LMc18 := Zab.mk c18
        clear c18
        obtain ⟨y176, hy176⟩ : ∃ y_ : List Int, y_ = (x6_1 ++ [wrap64 (t175 - x7_1)]) := ⟨_, rfl⟩
        replace H : (Za1.l0 k1 y176 t175 t171 (t171.length : Int) (wrap64 (x19_1 + 1)) a0_0 l0_1) = some (r1, r2) := by first | (rw [hy176]; with_reducible exact H) | (have H2_ := (Option.bind_some _ _).symm.trans H; rw [hy176]; with_reducible exact H2_) | (have H2_ := (Option.bind_some _ _).symm.trans H; with_reducible exact H2_) | with_reducible exact H | (rw [hy176]; exact H) | exact H
        have Ny176 := Zab.mk hy176
        clear hy176
        have H' := Zab.mk H
        clear H
        have p174 : 0 ≤ (x19_1 : Int) := of_decide_eq_true (by first | (with_reducible assumption) | assumption)
        have q174 : x19_1 < (t171.length : Int) := of_decide_eq_true (by first | (with_reducible assumption) | assumption)
        (try (obtain ⟨Aqad174, cqad174, eqad174⟩ := Kd.R_slice HO_17.out; subst eqad174))
        obtain ⟨ad174, e174, hx174_0⟩ := Kd.at_int (Kd.R_reads' HO_17.out).2.2 x19_1 p174 q174
        cases e174
        replace p174 := eq_true p174
        replace q174 := eq_true q174
        have hcz19_0 : wr.cell? ⟨gb166, 0, none⟩ = some (.int .i64 a0_0) := (Zaj BK166.out 0).trans rfl
        have hcz19_1 : wr.cell? ⟨gb166, 1, none⟩ = some (.slice A0_1 l0_1.length c0_1) := (Zaj BK166.out 1).trans rfl
        have hfz19_0 := Zah BK166.out 0
        have hfz19_1 := Zah BK166.out 1
        go_wp2_with (first | ((with_reducible refine gate_through (j := 23) rfl ?_); refine goesV_ (some 27) rfl rfl Try.func48 (by kernel_rfl) rfl #[.int .i64 (rd t171 x19_1), .int .i64 a0_0] rfl rfl (by (try simp only [List.map_toArray, List.map_cons, List.map_nil]); first | done | rfl | (simp only [List.length_drop, List.length_take]; rfl)) ?_; (with_reducible refine (impl_nearest.calls (rd t171 x19_1) a0_0 t175 _ A17.out).mono ?_); rintro e w' ⟨rfl, ⟨nd, rfl⟩⟩; refine ⟨_, rfl, ?_⟩) | ((with_reducible refine gate_builtin (b := .append) (xs := #[.tmp 28, .tmp 32]) rfl ?_); at_builtin; refine Kd.R_append (Kd.int .i64) (w0 := w) w.heap.size rfl (.tmp 28) (.tmp 32) 22 2 (.int .i64 0) 8 rfl Try.underlying22 info2 rfl (by decide) (by omega) u6 x6_1 (wrap64 (t175 - x7_1)) [.int .i64 (wrap64 (t175 - x7_1))] (fun k_ => some k_ ≠ (.slice (some ad174) t171.length co13 : Value).ownBlock) (fun _ => False) rfl rfl ?aP (fun _ hk => hk.elim) ?aF ?aO ?aB ?aS ?aL ?_; (case aP => exact rfl); (case aB => exact (by repeat (first | (with_reducible first | exact HB.out | apply Zac | apply Zaa | apply Zad | refine Zae ?_ GE166.out) | exact HB.out))); (case aF => exact (fun k_ hk => Kd.fresh' (Kd.R_lt (by (with_reducible repeat (first | apply Kd.R_alloc | apply Kd.R_drewN | apply Kd.R_drew)); exact HO_17.out)) k_ hk)); (case aO => exact (by (with_reducible repeat (first | apply Kd.R_alloc | apply Kd.R_drewN | apply Kd.R_drew)); exact HO_6.out)); (case aS => exact (Zam (by repeat (first | (with_reducible first | exact HB.out | apply Zac | apply Zaa | apply Zad | refine Zae ?_ GE166.out) | exact HB.out)))); (case aL => have := LMc18.out; omega); intro v177 w20 ho hb hg hat; rw [← Ny176.out] at ho; have n0_ := Zab.mk (Kd.R_after (ok := (fun _ => True)) (by (with_reducible repeat (first | apply Kd.R_alloc | apply Kd.R_drewN | apply Kd.R_drew)); exact Kd.R_mono HO_17.out (fun _ hk => ⟨trivial, hk⟩)) hg hat); have n1_ := Zab.mk (blk_grown (g := gb166) (o := .cells #[.int .i64 a0_0, .slice A0_1 l0_1.length c0_1] 28 (0, 0)) (by (with_reducible repeat (first | refine Zag ?_ _ | refine Zak ?_ | refine Zaf ?_ _)); exact BK166.out) hg (Kd.R_ne HO_6.out BK166.out (by decide))); have n2_ := Zab.mk (hb); have n3_ := Zab.mk (ho); clear HO_17; clear BK166; clear HB; clear HO_6; have HO_17 := n0_; have BK166 := n1_; have HB := n2_; have HO178 := n3_; clear n0_ n1_ n2_ n3_; clear ho hb hg hat))
        go_roundg k1
        case measure => have := HK1.out; omega
        case rel => exact ⟨(y176), (t175), (wrap64 (x19_1 + 1)), (by first | rfl | (simp; done) | (simp [*]; done)), (by first | rfl | (simp; done) | (simp [*]; done)), H', ⟨by have := HK1.out; omega⟩, ⟨by (with_reducible repeat (first | apply Kd.R_alloc | apply Kd.R_drewN | apply Kd.R_drew)); exact HO178.out⟩, ⟨by (with_reducible repeat (first | apply Kd.R_alloc | apply Kd.R_drewN | apply Kd.R_drew)); exact Kd.R_mono HO_17.out (fun _ hk => hk.2)⟩, ⟨by (with_reducible repeat (first | refine Zag ?_ _ | refine Zak ?_ | refine Zaf ?_ _)); exact BK166.out⟩, ⟨by repeat (first | (with_reducible first | exact HB.out | apply Zac | apply Zaa | apply Zad | refine Zae ?_ GE166.out) | exact HB.out)⟩⟩
       ·rw [if_neg c18] at H
        exact absurd H (by simp)
      ·rw [if_neg c16] at H
       exact absurd H (by simp)
     ·rw [if_neg c15] at H
      exact absurd H (by simp)
    ·rw [if_neg c14] at H
     have c14b0 : decide (x19_1 < (t171.length : Int)) = false := decide_eq_false c14
     clear c14
     simp only [Option.some.injEq, Prod.mk.injEq] at H
     obtain ⟨rfl, rfl⟩ := H
     go_wp2
     go_ret2
     exact ⟨_, by first | rfl | (simp [Zat, Zas] <;> rfl) | (simp [*, Zat, Zas] <;> rfl), by (with_reducible repeat (first | apply Kd.R_alloc | apply Kd.R_drewN | apply Kd.R_drew)); exact Kd.R_mono HO_6.out (fun _ hk => trivial), by repeat (first | (with_reducible first | exact HB.out | apply Zac | apply Zaa | apply Zad | refine Zae ?_ GE166.out) | exact HB.out)⟩
 ·replace c4 := Bool.eq_false_iff.mpr c4
  subst c4
  have H1 : (some (([] : List Int), false)) = some (r1, r2) := by rw [if_neg (show ¬ (false = true) by decide)] at H; exact H
  clear H
  have H := H1
  clear H1
  simp only [Option.some.injEq, Prod.mk.injEq] at H
  obtain ⟨rfl, rfl⟩ := H
  go_enter Try.func47, Try.ntmps47
  go_wp2_with (first | ((with_reducible refine gate_dst (N := 2) rfl ?_); refine box_event ?hg (N := 2) ?hd (cs := #[.int .i64 a0_0, .slice A0_1 l0_1.length c0_1]) (t := 28) ?hr ?_; (case hd => rfl); (case hg => rfl); (case hr => first | (go_simp; done) | (go_simp; rfl)); intro gb166 hg w21 hbox hb; have n0_ := Zab.mk (Zal (by repeat (first | (with_reducible first | exact HB.out | apply Zac | apply Zaa | apply Zad) | exact HB.out)) hb); have n1_ := Zab.mk (hbox); have n2_ := Zab.mk ((by rw [hg]; exact (Zam (by repeat (first | (with_reducible first | exact HB.out | apply Zac | apply Zaa | apply Zad) | exact HB.out))) : w.heap.size ≤ gb166)); have n3_ := Zab.mk ((by rw [hg]; exact (Zam (by repeat (first | (with_reducible first | exact HB.out | apply Zac | apply Zaa | apply Zad) | exact HB.out))) : w.heap.size ≤ gb166)); clear HB; have HB := n0_; have BK166 := n1_; have GW166 := n2_; have GE166 := n3_; clear n0_ n1_ n2_ n3_; clear hb hbox hg; have hcz22_0 : w21.cell? ⟨gb166, 0, none⟩ = some (.int .i64 a0_0) := (Zaj BK166.out 0).trans rfl; have hcz22_1 : w21.cell? ⟨gb166, 1, none⟩ = some (.slice A0_1 l0_1.length c0_1) := (Zaj BK166.out 1).trans rfl; have hfz22_0 := Zah BK166.out 0; have hfz22_1 := Zah BK166.out 1) | ((with_reducible refine Zax (f := 34) rfl ?_); refine goesL_ (some 12) rfl rfl Try.func34 (by kernel_rfl) rfl #[.agg #[.int .i64 a0_0, .slice A0_1 l0_1.length c0_1]] rfl (by (try simp only [List.map_toArray, List.map_cons, List.map_nil]); first | done | rfl | (simp only [List.length_drop, List.length_take]; rfl)) ?_; (with_reducible refine (Za0.calls k a0_0 _ _ l0_1 false _ ?side1 ?side2 A3.out).mono ?_); (case side1 => repeat (first | exact (Kd.C_below HR0_1.out HB.out) | (with_reducible refine Kd.C_alloc ?_ _) | (with_reducible refine Kd.C_drewN ?_ _) | (with_reducible refine Kd.C_drew ?_))); (case side2 => exact HC0_1.out); rintro e w23 ⟨rfl, hb⟩; refine ⟨_, rfl, ?_⟩; have n0_ := Zab.mk (Zao (g := gb166) (o := .cells #[.int .i64 a0_0, .slice A0_1 l0_1.length c0_1] 28 (0, 0)) (by (with_reducible repeat (first | refine Zag ?_ _ | refine Zak ?_ | refine Zaf ?_ _)); exact BK166.out) hb); have n1_ := Zab.mk (Zal (by repeat (first | (with_reducible first | exact HB.out | apply Zac | apply Zaa | apply Zad | refine Zae ?_ GE166.out) | exact HB.out)) hb); clear BK166; clear HB; have BK166 := n0_; have HB := n1_; clear n0_ n1_; (try clear hb); (try clear hb2); (try clear hk); (try clear hi)))
  go_ret2
  exact ⟨_, by first | rfl | (simp [Zat, Zas] <;> rfl) | (simp [*, Zat, Zas] <;> rfl), by first | exact Kd.R_nil _ _ _ _ _ | exact Kd.N_nil _ _ _ _ _ | exact Kd.V_nil _ _ _ _ _ | exact Kd.Q_nil _ _ _ _ _ | exact Kd.S_nil _ _ _ _ _, by repeat (first | (with_reducible first | exact HB.out | apply Zac | apply Zaa | apply Zad | refine Zae ?_ GE166.out) | exact HB.out)⟩
def impl_PrefixNearest.f (k : Nat) (a0_0 : Int) (l0_1 : List Int) : Option (List Int × Bool) := (Za1.f k a0_0 l0_1).bind fun bt180 => (some (bt180.1, bt180.2))
set_option maxHeartbeats 8000000 in
set_option maxRecDepth 100000 in
theorem impl_PrefixNearest.calls (k : Nat) (a0_0 : Int) (A0_1 : Option Addr) (c0_1 : Nat) (l0_1 : List Int) (r1 : List Int) (r2 : Bool) (w : World) (hr0_1 : Kd.C (Kd.int .i64) w A0_1 l0_1.length l0_1) (hc0_1 : l0_1.length ≤ c0_1) (h : impl_PrefixNearest.f k a0_0 l0_1 = some (r1, r2)) :
  Calls Try.prog 20 #[.agg #[.int .i64 a0_0, .slice A0_1 l0_1.length c0_1]] w fun e w' => ∃ v0_ : Value, e = .returned (.tuple #[v0_, .bool r2]) ∧ Kd.R (Kd.int .i64) 2 w' w.heap.size (fun _ => True) v0_ r1 ∧ Below w.heap.size w w' := by
 have hu28 := Try.underlying28
 have HR0_1 := Zab.mk hr0_1
 have HC0_1 := Zab.mk hc0_1
 clear hr0_1 hc0_1
 have HB := Zab.mk (Below.refl w.heap.size w)
 have H : ((Za1.f k a0_0 l0_1).bind fun bt180 => (some (bt180.1, bt180.2))) = some (r1, r2) := h
 clear h
 replace H := Option.bind_eq_some_iff.mp H
 obtain ⟨⟨t180, t183⟩, A20, H⟩ := H
 replace H : (some (t180, t183)) = some (r1, r2) := H
 have A2 := Zab.mk A20
 clear A20
 simp only [Option.some.injEq, Prod.mk.injEq] at H
 obtain ⟨rfl, rfl⟩ := H
 go_enter Try.func20, Try.ntmps20
 go_wp2_with (first | ((with_reducible refine gate_dst (N := 1) rfl ?_); refine box_event ?hg (N := 1) ?hd (cs := #[.int .i64 a0_0, .slice A0_1 l0_1.length c0_1]) (t := 28) ?hr ?_; (case hd => rfl); (case hg => rfl); (case hr => first | (go_simp; done) | (go_simp; rfl)); intro gb179 hg w3 hbox hb; have n0_ := Zab.mk (Zal (by repeat (first | (with_reducible first | exact HB.out | apply Zac | apply Zaa | apply Zad) | exact HB.out)) hb); have n1_ := Zab.mk (hbox); have n2_ := Zab.mk ((by rw [hg]; exact (Zam (by repeat (first | (with_reducible first | exact HB.out | apply Zac | apply Zaa | apply Zad) | exact HB.out))) : w.heap.size ≤ gb179)); have n3_ := Zab.mk ((by rw [hg]; exact (Zam (by repeat (first | (with_reducible first | exact HB.out | apply Zac | apply Zaa | apply Zad) | exact HB.out))) : w.heap.size ≤ gb179)); clear HB; have HB := n0_; have BK179 := n1_; have GW179 := n2_; have GE179 := n3_; clear n0_ n1_ n2_ n3_; clear hb hbox hg; have hcz4_0 : w3.cell? ⟨gb179, 0, none⟩ = some (.int .i64 a0_0) := (Zaj BK179.out 0).trans rfl; have hcz4_1 : w3.cell? ⟨gb179, 1, none⟩ = some (.slice A0_1 l0_1.length c0_1) := (Zaj BK179.out 1).trans rfl; have hfz4_0 := Zah BK179.out 0; have hfz4_1 := Zah BK179.out 1) | ((with_reducible refine Zax (f := 47) rfl ?_); refine goesL_ (some 5) rfl rfl Try.func47 (by kernel_rfl) rfl #[.agg #[.int .i64 a0_0, .slice A0_1 l0_1.length c0_1], .func (.func 48) #[] #[]] rfl (by (try simp only [List.map_toArray, List.map_cons, List.map_nil]); first | done | rfl | (simp only [List.length_drop, List.length_take]; rfl)) ?_; (with_reducible refine (Za1.calls k a0_0 _ _ l0_1  t180 t183 _ ?side1 ?side2 A2.out).mono ?_); (case side1 => repeat (first | exact (Kd.C_below HR0_1.out HB.out) | (with_reducible refine Kd.C_alloc ?_ _) | (with_reducible refine Kd.C_drewN ?_ _) | (with_reducible refine Kd.C_drew ?_))); (case side2 => exact HC0_1.out); rintro e w5 ⟨v181, rfl, ho0, hb⟩; refine ⟨_, rfl, ?_⟩; have n0_ := Zab.mk (Kd.R_lower ho0 (Zam (by repeat (first | (with_reducible first | exact HB.out | apply Zac | apply Zaa | apply Zad | refine Zae ?_ GE179.out) | exact HB.out)))); have n1_ := Zab.mk (Zao (g := gb179) (o := .cells #[.int .i64 a0_0, .slice A0_1 l0_1.length c0_1] 28 (0, 0)) (by (with_reducible repeat (first | refine Zag ?_ _ | refine Zak ?_ | refine Zaf ?_ _)); exact BK179.out) hb); have n2_ := Zab.mk (Zal (by repeat (first | (with_reducible first | exact HB.out | apply Zac | apply Zaa | apply Zad | refine Zae ?_ GE179.out) | exact HB.out)) hb); clear BK179; clear HB; have HO182 := n0_; have BK179 := n1_; have HB := n2_; clear n0_ n1_ n2_; (try clear hb); (try clear hb2); (try clear hk); (try clear hi); (try clear ho0)))
 go_ret2
 exact ⟨_, by first | rfl | (simp [Zat, Zas] <;> rfl) | (simp [*, Zat, Zas] <;> rfl), by (with_reducible repeat (first | apply Kd.R_alloc | apply Kd.R_drewN | apply Kd.R_drew)); exact HO182.out, by repeat (first | (with_reducible first | exact HB.out | apply Zac | apply Zaa | apply Zad | refine Zae ?_ GE179.out) | exact HB.out)⟩
def Zay.l0 : Nat → List Int → List Int → Int → Int → Int → List Int → Option (List Int)
 | 0, _, _, _, _, _, _ => none
 | k + 1, x5, x9, x10, x11, x185000, x185001 => if x11 < x10 then (if 0 ≤ x11 then (if x11 < (x9.length : Int) then (if x11 < (x185001.length : Int) then (if x5.length < 17592186044416 then (Zay.l0 k (x5 ++ [wrap64 ((wrap64 (x185000 * (rd x9 x11))) - (rd x185001 x11))]) x9 x10 (wrap64 (x11 + 1)) x185000 x185001) else (none)) else (none)) else (none)) else (none)) else (some x5)
def Zay.f (k : Nat) (a0_0 : Int) (l0_1 : List Int) (l1 : List Int) : Option (List Int) := Zay.l0 k (([] : List Int)) l1 (l1.length : Int) 0 a0_0 l0_1
def Zay.T5 : Bool × List (List Nat × List Nat) := (true, [([], []), ([], []), ([1], [1]), ([], []), ([2, 3], [2, 3]), ([], []), ([5], [5]), ([], []), ([6, 7], [6, 7]), ([8], [8]), ([4, 9], [4, 9]), ([10], [10]), ([0, 11], [0, 11]), ([12, 12, 0, 1, 2, 3, 4, 5, 6, 7, 8, 9, 10, 11, 12], [0, 12])])
def Zay.B5 : List Nat := [0, 0, 2, 0, 14, 0, 32, 0, 224, 480, 1022, 2046, 4095, 8191]
theorem Zay.tab5 : rtab .any (opsOf Try.f50 5) = Zay.T5 := by kernel_rfl
theorem Zay.bits5 : waitsOk Zay.T5.2 Zay.B5 = true := by kernel_rfl
set_option maxHeartbeats 8000000 in
set_option maxRecDepth 100000 in
theorem Zay.calls (k : Nat) (a0_0 : Int) (A0_1 : Option Addr) (c0_1 : Nat) (l0_1 : List Int) (A1 : Option Addr) (c1 : Nat) (l1 : List Int) (r : List Int) (w : World) (hr0_1 : Kd.C (Kd.int .i64) w A0_1 l0_1.length l0_1) (hc0_1 : l0_1.length ≤ c0_1) (hr1 : Kd.C (Kd.int .i64) w A1 l1.length l1) (hc1 : l1.length ≤ c1) (h : Zay.f k a0_0 l0_1 l1 = some r) :
  Calls Try.prog 50 #[.agg #[.int .i64 a0_0, .slice A0_1 l0_1.length c0_1], .slice A1 l1.length c1] w fun e w' => ∃ v0_ : Value, e = .returned (v0_) ∧ Kd.R (Kd.int .i64) 2 w' w.heap.size (fun _ => True) v0_ r ∧ Below w.heap.size w w' := by
 have hu28 := Try.underlying28
 have HR0_1 := Zab.mk hr0_1
 have HC0_1 := Zab.mk hc0_1
 clear hr0_1 hc0_1
 have HR1 := Zab.mk hr1
 have HC1 := Zab.mk hc1
 clear hr1 hc1
 have HB := Zab.mk (Below.refl w.heap.size w)
 have H : (Zay.l0 k (([] : List Int)) l1 (l1.length : Int) 0 a0_0 l0_1) = some r := h
 clear h
 obtain ⟨y185, hy185⟩ : ∃ y_ : List Int, y_ = (([] : List Int)) := ⟨_, rfl⟩
 replace H : (Zay.l0 k y185 l1 (l1.length : Int) 0 a0_0 l0_1) = some r := by first | (rw [hy185]; with_reducible exact H) | (have H2_ := (Option.bind_some _ _).symm.trans H; rw [hy185]; with_reducible exact H2_) | (have H2_ := (Option.bind_some _ _).symm.trans H; with_reducible exact H2_) | with_reducible exact H | (rw [hy185]; exact H) | exact H
 have Ny185 := Zab.mk hy185
 clear hy185
 have H' := Zab.mk H
 clear H
 go_enter Try.func50, Try.ntmps50
 go_wp2_with (first | ((with_reducible refine gate_dst (N := 2) rfl ?_); refine box_event ?hg (N := 2) ?hd (cs := #[.int .i64 a0_0, .slice A0_1 l0_1.length c0_1]) (t := 28) ?hr ?_; (case hd => rfl); (case hg => rfl); (case hr => first | (go_simp; done) | (go_simp; rfl)); intro gb184 hg w3 hbox hb; have n0_ := Zab.mk (Zal (by repeat (first | (with_reducible first | exact HB.out | apply Zac | apply Zaa | apply Zad) | exact HB.out)) hb); have n1_ := Zab.mk (hbox); have n2_ := Zab.mk ((by rw [hg]; exact (Zam (by repeat (first | (with_reducible first | exact HB.out | apply Zac | apply Zaa | apply Zad) | exact HB.out))) : w.heap.size ≤ gb184)); have n3_ := Zab.mk ((by rw [hg]; exact (Zam (by repeat (first | (with_reducible first | exact HB.out | apply Zac | apply Zaa | apply Zad) | exact HB.out))) : w.heap.size ≤ gb184)); clear HB; have HB := n0_; have BK184 := n1_; have GW184 := n2_; have GE184 := n3_; clear n0_ n1_ n2_ n3_; clear hb hbox hg) | ((with_reducible refine gate_dst (N := 8) rfl ?_); refine Kd.R_lit (Kd.int .i64) _ 2 ?hg (N := 8) ?hd (xs := ([] : List Int)) (inner := []) (ok := fun _ => True) (okp := fun _ => True) ?hr ?hp (fun _ hk => hk) trivial (Below.refl _ _) (Nat.le_refl _) (by simp) ?_; (case hd => rfl); (case hg => rfl); (case hr => first | (go_simp; done) | (go_simp; rfl)); (case hp => exact (Reps.none _ _)); intro v186 w4 ho5 hb hg_ hnew_; clear hg_ hnew_; (first | rw [← Ny185.out] at ho5 | (simp only [Int.reduceToNat] at ho5; rw [← Ny185.out] at ho5)); have n0_ := Zab.mk (Kd.R_lower ho5 (Zam (by repeat (first | (with_reducible first | exact HB.out | apply Zac | apply Zaa | apply Zad | refine Zae ?_ GE184.out) | exact HB.out)))); have n1_ := Zab.mk (Zao (g := gb184) (o := .cells #[.int .i64 a0_0, .slice A0_1 l0_1.length c0_1] 28 (0, 0)) (by (with_reducible repeat (first | refine Zag ?_ _ | refine Zak ?_ | refine Zaf ?_ _)); exact BK184.out) hb); have n2_ := Zab.mk (Zal (by repeat (first | (with_reducible first | exact HB.out | apply Zac | apply Zaa | apply Zad | refine Zae ?_ GE184.out) | exact HB.out)) hb); clear BK184; clear HB; have HO187 := n0_; have BK184 := n1_; have HB := n2_; clear n0_ n1_ n2_; clear hb ho5))
 go_loopg [5, 11] k (fun kq v5 v11 w' => ∃ (x5_1 : List Int) (x11_1 : Int), v11 = .int .i64 x11_1 ∧ Zab (Zay.l0 kq x5_1 l1 (l1.length : Int) x11_1 a0_0 l0_1 = some r) ∧ Zab (kq ≤ k) ∧ Zab (Kd.R (Kd.int .i64) 2 w' w.heap.size (fun _ => True) v5 x5_1) ∧ Zab (w'.heap[gb184]? = some (.cells #[.int .i64 a0_0, (.slice A0_1 l0_1.length c0_1)] 28 (0, 0))) ∧ Zab (Below w.heap.size w w'))
 case atStart => exact ⟨(y185), (0), (by first | rfl | (simp; done) | (simp [*]; done) | (simp [IntWalk.i64_left, *]; done)), H', ⟨Nat.le_refl _⟩, ⟨by (with_reducible repeat (first | apply Kd.R_alloc | apply Kd.R_drewN | apply Kd.R_drew)); exact HO187.out⟩, ⟨by (with_reducible repeat (first | refine Zag ?_ _ | refine Zak ?_ | refine Zaf ?_ _)); exact BK184.out⟩, ⟨by repeat (first | (with_reducible first | exact HB.out | apply Zac | apply Zaa | apply Zad | refine Zae ?_ GE184.out) | exact HB.out)⟩⟩
 case round =>
  clear H'
  try clear c1
  try clear p2
  try clear c5
  obtain ⟨x5_1, x11_1, rfl, HA, HK1, HO_5, BK184, HB⟩ := hrel
  cases gk with
  | zero => exact absurd HA.out (by simp [Zay.l0])
  | succ k1 =>
   have H := HA.out
   clear HA
   simp only [Zay.l0] at H
   by_cases c6 : x11_1 < (l1.length : Int)
   ·rw [if_pos c6] at H
    have c6b0 : decide (x11_1 < (l1.length : Int)) = true := decide_eq_true c6
    clear c6
    by_cases c7 : 0 ≤ x11_1
    ·rw [if_pos c7] at H
     have c7b0 : decide (0 ≤ x11_1) = true := decide_eq_true c7
     clear c7
     by_cases c8 : x11_1 < (l1.length : Int)
     ·rw [if_pos c8] at H
      have c8b0 : decide (x11_1 < (l1.length : Int)) = true := decide_eq_true c8
      clear c8
      by_cases c9 : x11_1 < (l0_1.length : Int)
      ·rw [if_pos c9] at H
       have c9b0 : decide (x11_1 < (l0_1.length : Int)) = true := decide_eq_true c9
       clear c9
       by_cases c10 : x5_1.length < 17592186044416
       ·rw [if_pos c10] at H
        have LMc10 := Zab.mk c10
        clear c10
        obtain ⟨y190, hy190⟩ : ∃ y_ : List Int, y_ = (x5_1 ++ [wrap64 ((wrap64 (a0_0 * (rd l1 x11_1))) - (rd l0_1 x11_1))]) := ⟨_, rfl⟩
        replace H : (Zay.l0 k1 y190 l1 (l1.length : Int) (wrap64 (x11_1 + 1)) a0_0 l0_1) = some r := by first | (rw [hy190]; with_reducible exact H) | (have H2_ := (Option.bind_some _ _).symm.trans H; rw [hy190]; with_reducible exact H2_) | (have H2_ := (Option.bind_some _ _).symm.trans H; with_reducible exact H2_) | with_reducible exact H | (rw [hy190]; exact H) | exact H
        have Ny190 := Zab.mk hy190
        clear hy190
        have H' := Zab.mk H
        clear H
        have p188 : 0 ≤ (x11_1 : Int) := of_decide_eq_true (by first | (with_reducible assumption) | assumption)
        have q188 : x11_1 < (l1.length : Int) := of_decide_eq_true (by first | (with_reducible assumption) | assumption)
        obtain ⟨ad188, e188, hx188_0⟩ := Kd.at_int HR1.out x11_1 p188 q188
        cases e188
        replace hx188_0 := (HB.out.cell (World.block_lt_of_cell? w _ hx188_0)).trans hx188_0
        replace p188 := eq_true p188
        replace q188 := eq_true q188
        try go_wp2
        have n0_ := Zab.mk (Kd.R_drew HO_5.out)
        have n1_ := Zab.mk (Zak BK184.out)
        have n2_ := Zab.mk (Zad HB.out)
        clear HO_5
        clear BK184
        clear HB
        have HO_5 := n0_
        have BK184 := n1_
        have HB := n2_
        clear n0_ n1_ n2_
        have p189 : 0 ≤ (x11_1 : Int) := of_decide_eq_true (by first | (with_reducible assumption) | assumption)
        have q189 : x11_1 < (l0_1.length : Int) := of_decide_eq_true (by first | (with_reducible assumption) | assumption)
        obtain ⟨ad189, e189, hx189_0⟩ := Kd.at_int HR0_1.out x11_1 p189 q189
        have hw189_0 := hx189_0
        cases e189
        replace hx189_0 := (HB.out.cell (World.block_lt_of_cell? w _ hx189_0)).trans hx189_0
        replace p189 := eq_true p189
        replace q189 := eq_true q189
        refine start_ (n := 14) (S := fun w' => w'.cell? ⟨gb184, 0, none⟩ = some (.int .i64 a0_0) ∧ w'.cell? ⟨gb184, 1, none⟩ = some (.slice (some ad189) l0_1.length c0_1) ∧ w'.cell? (ad189.add (x11_1).toNat) = some (.int .i64 (rd l0_1 x11_1))) (ds := []) #[false, false, false, false, false, false, false, false, false, false, false, false, false, false] (by kernel_rfl) rfl rfl ⟨(Zaj BK184.out 0).trans rfl, (Zaj BK184.out 1).trans rfl, ((HB.out.cell (World.block_lt_of_cell? w _ hw189_0)).trans hw189_0)⟩ (fun hHeld => ?_); refine with_tabW Zay.tab5 Zay.bits5 (fun HT_ HW_ => ?_)
        generalize wr.drew = w11 at HO_5 BK184 HB hx189_0 hHeld ⊢
        refine pure_ (i := 0) (N := some 16) (v := ?_) (a' := ?_) #[true, false, false, false, false, false, false, false, false, false, false, false, false, false] rfl rfl (any_of HT_.out (by kernel_rfl)) (fun _ _ _ h => h) (Or.inl ⟨by rfl, ?_⟩) ?_ ?_
        rotate_left
        ·intro w'
         go_simp
         with_reducible rfl
        rotate_left
        ·simp only [Act.put, ZA, ZB, ZC, i64_w, i32_w]
         rfl
        refine pure_ (i := 1) (N := some 17) (v := ?_) (a' := ?_) #[true, true, false, false, false, false, false, false, false, false, false, false, false, false] rfl rfl (any_of HT_.out (by kernel_rfl)) (fun _ _ _ h => h) (Or.inl ⟨by rfl, ?_⟩) ?_ ?_
        rotate_left
        ·intro w'
         go_simp
         with_reducible rfl
        rotate_left
        ·simp only [Act.put, ZA, ZB, ZC, i64_w, i32_w]
         rfl
        refine pure_ (i := 3) (N := some 19) (v := ?_) (a' := ?_) #[true, true, false, true, false, false, false, false, false, false, false, false, false, false] rfl rfl (any_of HT_.out (by kernel_rfl)) (fun _ _ _ h => h) (Or.inl ⟨by rfl, ?_⟩) ?_ ?_
        rotate_left
        ·intro w'
         go_simp
         with_reducible rfl
        rotate_left
        ·simp only [Act.put, ZA, ZB, ZC, i64_w, i32_w]
         rfl
        refine pure_ (i := 5) (N := some 21) (v := ?_) (a' := ?_) #[true, true, false, true, false, true, false, false, false, false, false, false, false, false] rfl rfl (any_of HT_.out (by kernel_rfl)) (fun _ _ _ h => h) (Or.inl ⟨by rfl, ?_⟩) ?_ ?_
        rotate_left
        ·intro w'
         go_simp
         with_reducible rfl
        rotate_left
        ·simp only [Act.put, ZA, ZB, ZC, i64_w, i32_w]
         rfl
        refine pure_ (i := 7) (N := some 23) (v := ?_) (a' := ?_) #[true, true, false, true, false, true, false, true, false, false, false, false, false, false] rfl rfl (any_of HT_.out (by kernel_rfl)) (fun _ _ _ h => h) (Or.inl ⟨by rfl, ?_⟩) ?_ ?_
        rotate_left
        ·intro w'
         go_simp
         with_reducible rfl
        rotate_left
        ·simp only [Act.put, ZA, ZB, ZC, i64_w, i32_w]
         rfl
        refine take_ (i := 2) (N := some 18) (v := ?_) (a' := ?_) #[true, true, true, true, false, true, false, true, false, false, false, false, false, false] rfl rfl (take_ofW HT_.out HW_.out (by kernel_rfl)) (fun _ _ _ h => h) (Or.inl ⟨by rfl, ?_⟩) hHeld ?_ ?_
        rotate_left
        ·rintro w' ⟨s0, s1, s2⟩
         go_simp
         with_reducible rfl
        rotate_left
        ·simp only [Act.put, ZA, ZB, ZC, i64_w, i32_w]
         rfl
        refine pure_ (i := 4) (N := some 20) (v := ?_) (a' := ?_) #[true, true, true, true, true, true, false, true, false, false, false, false, false, false] rfl rfl (any_of HT_.out (by kernel_rfl)) (fun _ _ _ h => h) (Or.inl ⟨by rfl, ?_⟩) ?_ ?_
        rotate_left
        ·intro w'
         go_simp
         with_reducible rfl
        rotate_left
        ·simp only [Act.put, ZA, ZB, ZC, i64_w, i32_w]
         rfl
        refine take_ (i := 6) (N := some 22) (v := ?_) (a' := ?_) #[true, true, true, true, true, true, true, true, false, false, false, false, false, false] rfl rfl (take_ofW HT_.out HW_.out (by kernel_rfl)) (fun _ _ _ h => h) (Or.inl ⟨by rfl, ?_⟩) hHeld ?_ ?_
        rotate_left
        ·rintro w' ⟨s0, s1, s2⟩
         go_simp
         with_reducible rfl
        rotate_left
        ·simp only [Act.put, ZA, ZB, ZC, i64_w, i32_w]
         rfl
        refine pure_ (i := 8) (N := some 24) (v := ?_) (a' := ?_) #[true, true, true, true, true, true, true, true, true, false, false, false, false, false] rfl rfl (any_of HT_.out (by kernel_rfl)) (fun _ _ _ h => h) (Or.inl ⟨by rfl, ?_⟩) ?_ ?_
        rotate_left
        ·intro w'
         go_simp
         with_reducible rfl
        rotate_left
        ·simp only [Act.put, ZA, ZB, ZC, i64_w, i32_w]
         rfl
        refine take_ (i := 9) (N := some 25) (v := ?_) (a' := ?_) #[true, true, true, true, true, true, true, true, true, true, false, false, false, false] rfl rfl (take_ofW HT_.out HW_.out (by kernel_rfl)) (fun _ _ _ h => h) (Or.inl ⟨by rfl, ?_⟩) hHeld ?_ ?_
        rotate_left
        ·rintro w' ⟨s0, s1, s2⟩
         go_simp
         with_reducible rfl
        rotate_left
        ·simp only [Act.put, ZA, ZB, ZC, i64_w, i32_w]
         rfl
        refine pure_ (i := 10) (N := some 26) (v := ?_) (a' := ?_) #[true, true, true, true, true, true, true, true, true, true, true, false, false, false] rfl rfl (any_of HT_.out (by kernel_rfl)) (fun _ _ _ h => h) (Or.inl ⟨by rfl, ?_⟩) ?_ ?_
        rotate_left
        ·intro w'
         go_simp
         with_reducible rfl
        rotate_left
        ·simp only [Act.put, ZA, ZB, ZC, i64_w, i32_w]
         rfl
        refine one_ (i := 11) (N := some 27) #[true, true, true, true, true, true, true, true, true, true, true, true, false, false] rfl rfl (one_of HT_.out (by kernel_rfl)) (by decide) (fun K hK => ?_)
        refine value_ (w1 := ?_) (v := ?_) (by rfl) rfl ?_ ?_
        rotate_left 2
        ·go_simp
         constructor
         ·rfl
         ·rfl
        refine hK.out _ _ ⟨(Zaj (Zaf BK184.out _) 0).trans rfl, (Zaj (Zaf BK184.out _) 1).trans rfl, (World.cell?_alloc_lt _ _ _ (World.block_lt_of_cell? _ _ (((HB.out.cell (World.block_lt_of_cell? w _ hw189_0)).trans hw189_0)))).trans (((HB.out.cell (World.block_lt_of_cell? w _ hw189_0)).trans hw189_0))⟩ (fun hHeld => ?_)
        clear hK K
        refine norm_ (a' := ?_) ?_ ?_
        rotate_left
        ·show Act.put _ (some 27) _ = _
         simp only [Act.put, ZA, ZB, ZC, i64_w, i32_w]
         rfl
        refine one_ (i := 12) (N := some 28) #[true, true, true, true, true, true, true, true, true, true, true, true, true, false] rfl rfl (one_of HT_.out (by kernel_rfl)) (by decide) (fun K hK => ?_)
        refine Kd.R_append_step (Kd.int .i64) (w0 := w) w.heap.size (by rfl) (.tmp 16) (.tmp 27) 22 2 (.int .i64 0) 8 rfl Try.underlying22 info2 rfl (by decide) (by omega) u5 x5_1 (wrap64 ((wrap64 (a0_0 * (rd l1 x11_1))) - (rd l0_1 x11_1))) [.int .i64 (wrap64 ((wrap64 (a0_0 * (rd l1 x11_1))) - (rd l0_1 x11_1)))] (fun _ => True) (fun _ => False) rfl rfl ?aP (fun _ hk => hk.elim) ?aF ?aO ?aB ?aS ?aL ?_
        (case aP => exact rfl)
        (case aB => exact (by repeat (first | (with_reducible first | exact HB.out | apply Zac | apply Zaa | apply Zad | refine Zae ?_ GE184.out) | exact HB.out)))
        (case aF => exact (fun _ _ => trivial))
        (case aO => exact (by (with_reducible repeat (first | apply Kd.R_alloc | apply Kd.R_drewN | apply Kd.R_drew)); exact HO_5.out))
        (case aS => exact (Zam (by repeat (first | (with_reducible first | exact HB.out | apply Zac | apply Zaa | apply Zad | refine Zae ?_ GE184.out) | exact HB.out))))
        (case aL => have := LMc10.out; omega)
        intro v191 w12 ho hb hg hat
        rw [← Ny190.out] at ho
        have n0_ := Zab.mk (blk_grown (g := gb184) (o := .cells #[.int .i64 a0_0, .slice (some ad189) l0_1.length c0_1] 28 (0, 0)) (by (with_reducible repeat (first | refine Zag ?_ _ | refine Zak ?_ | refine Zaf ?_ _)); exact BK184.out) hg (Kd.R_ne HO_5.out BK184.out (by decide)))
        have n1_ := Zab.mk (hb)
        have n2_ := Zab.mk (ho)
        clear BK184
        clear HB
        clear HO_5
        have BK184 := n0_
        have HB := n1_
        have HO192 := n2_
        clear n0_ n1_ n2_
        clear ho hb hg hat
        refine hK.out _ _ ⟨(Zaj BK184.out 0).trans rfl, (Zaj BK184.out 1).trans rfl, ((HB.out.cell (World.block_lt_of_cell? w _ hw189_0)).trans hw189_0)⟩ (fun hHeld => ?_)
        clear hK K
        refine norm_ (a' := ?_) ?_ ?_
        rotate_left
        ·show Act.put _ (some 28) _ = _
         simp only [Act.put, ZA, ZB, ZC, i64_w, i32_w]
         rfl
        refine pure_ (i := 13) (N := some 5) (v := ?_) (a' := ?_) #[true, true, true, true, true, true, true, true, true, true, true, true, true, true] rfl rfl (any_of HT_.out (by kernel_rfl)) (fun _ _ _ h => h) (Or.inl ⟨by rfl, ?_⟩) ?_ ?_
        rotate_left
        ·intro w'
         go_simp
         with_reducible rfl
        rotate_left
        ·simp only [Act.put, ZA, ZB, ZC, i64_w, i32_w]
         rfl
        refine done_ (done_of HT_.out (by kernel_rfl)) ?_
        try go_wp2
        go_roundg k1
        case measure => have := HK1.out; omega
        case rel => exact ⟨(y190), (wrap64 (x11_1 + 1)), (by first | rfl | (simp; done) | (simp [*]; done) | (simp [IntWalk.i64_left, *]; done)), H', ⟨by have := HK1.out; omega⟩, ⟨by (with_reducible repeat (first | apply Kd.R_alloc | apply Kd.R_drewN | apply Kd.R_drew)); exact HO192.out⟩, ⟨by (with_reducible repeat (first | refine Zag ?_ _ | refine Zak ?_ | refine Zaf ?_ _)); exact BK184.out⟩, ⟨by repeat (first | (with_reducible first | exact HB.out | apply Zac | apply Zaa | apply Zad | refine Zae ?_ GE184.out) | exact HB.out)⟩⟩
       ·rw [if_neg c10] at H
        exact absurd H (by simp)
      ·rw [if_neg c9] at H
       exact absurd H (by simp)
     ·rw [if_neg c8] at H
      exact absurd H (by simp)
    ·rw [if_neg c7] at H
     exact absurd H (by simp)
   ·rw [if_neg c6] at H
    have c6b0 : decide (x11_1 < (l1.length : Int)) = false := decide_eq_false c6
    clear c6
    obtain rfl := Option.some.inj H
    go_wp2
    go_ret
    exact ⟨_, by first | rfl | (simp [Zat, Zas] <;> rfl) | (simp [*, Zat, Zas] <;> rfl), by (with_reducible repeat (first | apply Kd.R_alloc | apply Kd.R_drewN | apply Kd.R_drew)); exact HO_5.out, by repeat (first | (with_reducible first | exact HB.out | apply Zac | apply Zaa | apply Zad | refine Zae ?_ GE184.out) | exact HB.out)⟩
end Go.Proofs.Ytanflefkbbhimaa.P
