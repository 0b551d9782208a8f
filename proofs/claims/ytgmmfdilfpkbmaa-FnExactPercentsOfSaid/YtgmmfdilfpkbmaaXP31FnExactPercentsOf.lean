import Derived.Test.YtgmmfdilfpkbmaaXP0FnExactPercentsOf
import Derived.Test.YtgmmfdilfpkbmaaXP1FnExactPercentsOf
import Derived.Test.YtgmmfdilfpkbmaaXP2FnExactPercentsOf
import Derived.Test.YtgmmfdilfpkbmaaXP3FnExactPercentsOf
import Derived.Test.YtgmmfdilfpkbmaaXP19FnExactPercentsOf
import Derived.Test.YtgmmfdilfpkbmaaXP21FnExactPercentsOf
namespace Go.Proofs.Ytgmmfdilfpkbmaa.P
open Go.RowKit Go.Proofs.YtgmmfdilfpkbmaaW.PrintWords Go.Proofs.YtgmmfdilfpkbmaaW.PrintLast Go.Proofs.YtgmmfdilfpkbmaaW.PrintMore
attribute [local go_sem] max2_int min2_int max_two min_two max_three min_three max_four min_four
set_option linter.unusedVariables false
set_option linter.unusedSimpArgs false
mutual
def laws_FnExactPercentsOf.j0 : Nat → List Int → Int → List Int → Bool → List Int → List Int → Bool → Bool → Option (Bool)
 | 0, _, _, _, _, _, _, _, _ => none
 | k + 1, x0, x1, x5, x6, x7, x8, x9, x41 => if x41 = true then (some false) else ((Za7.f k x0).bind fun t619 => ((Za4.f k x7 t619).bind fun t622 => (if t622 = true then ((Za8.f k x7 1).bind fun bt623 => (if bt623.1 < 0 then (laws_FnExactPercentsOf.j1 k x0 x1 x5 x6 x8 true) else ((Za4.f k x8 x5).bind fun t625 => (if t625 = true then (laws_FnExactPercentsOf.j1 k x0 x1 x5 x6 x8 (x9 != x6)) else (laws_FnExactPercentsOf.j1 k x0 x1 x5 x6 x8 true))))) else (some false))))
def laws_FnExactPercentsOf.j1 : Nat → List Int → Int → List Int → Bool → List Int → Bool → Option (Bool)
 | 0, _, _, _, _, _, _ => none
 | k + 1, x0, x1, x5, x6, x8, x62 => if x62 = true then (some false) else ((Za8.f k x8 1).bind fun bt626 => ((Zbb.f k bt626.2 1).bind fun t628 => (if t628 < 0 then (some false) else (if t628 = bt626.1 then ((Za7.f k x0).bind fun t629 => ((Zao.f k t629 x1).bind fun bt632 => ((Za4.f k bt632.1 x5).bind fun t636 => (if t636 = true then (laws_FnExactPercentsOf.j2 k bt626.2 bt626.1 (bt632.2 != x6)) else (laws_FnExactPercentsOf.j2 k bt626.2 bt626.1 true))))) else (some false)))))
def laws_FnExactPercentsOf.j2 : Nat → List Int → Int → Bool → Option (Bool)
 | 0, _, _, _ => none
 | k + 1, x8, x11, x89 => if x89 = true then (some false) else ((Zbb.f k x8 1).bind fun t637 => (if t637 < 0 then (some false) else (if t637 = x11 then (some true) else (some false))))
end
def laws_FnExactPercentsOf.f (k : Nat) (l0 : List Int) (a1 : Int) : Option (Bool) := if (l0.length : Int) > 1048576 then (some true) else ((Za7.f k l0).bind fun t604 => ((Zan.f k t604 a1).bind fun bt607 => ((Za7.f k l0).bind fun t611 => ((Zao.f k t611 a1).bind fun bt614 => ((Za4.f k bt614.1 bt607.1).bind fun t618 => (if t618 = true then (laws_FnExactPercentsOf.j0 k l0 a1 bt607.1 bt607.2 t611 bt614.1 bt614.2 (bt614.2 != bt607.2)) else (laws_FnExactPercentsOf.j0 k l0 a1 bt607.1 bt607.2 t611 bt614.1 bt614.2 true)))))))
set_option maxHeartbeats 8000000 in
set_option maxRecDepth 100000 in
theorem laws_FnExactPercentsOf.calls (k : Nat) (A0 : Option Addr) (c0 : Nat) (l0 : List Int) (a1 : Int) (r : Bool) (w : World) (hr0 : Kd.C (Kd.int .i64) w A0 l0.length l0) (hc0 : l0.length ≤ c0) (h : laws_FnExactPercentsOf.f k l0 a1 = some r) :
  Calls Try.prog 6 #[.slice A0 l0.length c0, .int .i64 a1] w fun e w' => e = .returned (.bool r) ∧ Below w.heap.size w w' := by
 have HR0 := Zac.mk hr0
 have HC0 := Zac.mk hc0
 clear hr0 hc0
 have HB := Zac.mk (Below.refl w.heap.size w)
 have H : (if (l0.length : Int) > 1048576 then (some true) else ((Za7.f k l0).bind fun t604 => ((Zan.f k t604 a1).bind fun bt607 => ((Za7.f k l0).bind fun t611 => ((Zao.f k t611 a1).bind fun bt614 => ((Za4.f k bt614.1 bt607.1).bind fun t618 => (if t618 = true then (laws_FnExactPercentsOf.j0 k l0 a1 bt607.1 bt607.2 t611 bt614.1 bt614.2 (bt614.2 != bt607.2)) else (laws_FnExactPercentsOf.j0 k l0 a1 bt607.1 bt607.2 t611 bt614.1 bt614.2 true)))))))) = some r := h
 clear h
 by_cases c3 : (l0.length : Int) > 1048576
 ·rw [if_pos c3] at H
  have c3b0 : decide (1048576 < (l0.length : Int)) = true := decide_eq_true c3
  have c3b1 : decide (1048576 < l0.length) = true := decide_eq_true (by omega)
  clear c3
  obtain rfl := Option.some.inj H
  as_aux_lemma =>
   go_enter Try.func6, Try.ntmps6
   go_wp2
   go_ret
   exact ⟨by first | rfl | (simp [Zat, Zau] <;> rfl) | (simp [*, Zat, Zau] <;> rfl), by repeat (first | (with_reducible first | exact HB.out | apply Zae | apply Zab | apply Zad) | exact HB.out)⟩
 ·rw [if_neg c3] at H
  have c3b0 : decide (1048576 < (l0.length : Int)) = false := decide_eq_false c3
  have c3b1 : decide (1048576 < l0.length) = false := decide_eq_false (by omega)
  clear c3
  replace H := Option.bind_eq_some_iff.mp H
  obtain ⟨t604, A40, H⟩ := H
  replace H : ((Zan.f k t604 a1).bind fun bt607 => ((Za7.f k l0).bind fun t611 => ((Zao.f k t611 a1).bind fun bt614 => ((Za4.f k bt614.1 bt607.1).bind fun t618 => (if t618 = true then (laws_FnExactPercentsOf.j0 k l0 a1 bt607.1 bt607.2 t611 bt614.1 bt614.2 (bt614.2 != bt607.2)) else (laws_FnExactPercentsOf.j0 k l0 a1 bt607.1 bt607.2 t611 bt614.1 bt614.2 true)))))) = some r := H
  have A4 := Zac.mk A40
  clear A40
  replace H := Option.bind_eq_some_iff.mp H
  obtain ⟨⟨t607, t608⟩, A50, H⟩ := H
  replace H : ((Za7.f k l0).bind fun t611 => ((Zao.f k t611 a1).bind fun bt614 => ((Za4.f k bt614.1 t607).bind fun t618 => (if t618 = true then (laws_FnExactPercentsOf.j0 k l0 a1 t607 t608 t611 bt614.1 bt614.2 (bt614.2 != t608)) else (laws_FnExactPercentsOf.j0 k l0 a1 t607 t608 t611 bt614.1 bt614.2 true))))) = some r := H
  have A5 := Zac.mk A50
  clear A50
  replace H := Option.bind_eq_some_iff.mp H
  obtain ⟨t611, A60, H⟩ := H
  replace H : ((Zao.f k t611 a1).bind fun bt614 => ((Za4.f k bt614.1 t607).bind fun t618 => (if t618 = true then (laws_FnExactPercentsOf.j0 k l0 a1 t607 t608 t611 bt614.1 bt614.2 (bt614.2 != t608)) else (laws_FnExactPercentsOf.j0 k l0 a1 t607 t608 t611 bt614.1 bt614.2 true)))) = some r := H
  have A6 := Zac.mk A60
  clear A60
  replace H := Option.bind_eq_some_iff.mp H
  obtain ⟨⟨t614, t615⟩, A70, H⟩ := H
  replace H : ((Za4.f k t614 t607).bind fun t618 => (if t618 = true then (laws_FnExactPercentsOf.j0 k l0 a1 t607 t608 t611 t614 t615 (t615 != t608)) else (laws_FnExactPercentsOf.j0 k l0 a1 t607 t608 t611 t614 t615 true))) = some r := H
  have A7 := Zac.mk A70
  clear A70
  have HC8 := Zac.mk H
  clear H
  go_enter Try.func6, Try.ntmps6
  go_upto_region 6 with (first | ((with_reducible refine Za0 (f := 40) rfl ?_); refine goesL_ (some 20) rfl rfl Try.func40 (by kernel_rfl) rfl #[.slice A0 l0.length c0] rfl (by (try simp only [List.map_toArray, List.map_cons, List.map_nil]); first | done | rfl | (simp only [List.length_drop, List.length_take]; rfl)) ?_; (with_reducible refine (Za7.calls k _ _ l0 t604 _ ?side1 ?side2 A4.out).mono ?_); (case side1 => repeat (first | exact HR0.out | (with_reducible refine Kd.C_alloc ?_ _) | (with_reducible refine Kd.C_drewN ?_ _) | (with_reducible refine Kd.C_drew ?_))); (case side2 => exact HC0.out); rintro e w9 ⟨v605, rfl, ho0, hb⟩; refine ⟨_, rfl, ?_⟩; have n0_ := Zac.mk (Kd.R_lower ho0 (Zaw (by repeat (first | (with_reducible first | exact HB.out | apply Zae | apply Zab | apply Zad) | exact HB.out)))); have n1_ := Zac.mk (Zay (by repeat (first | (with_reducible first | exact HB.out | apply Zae | apply Zab | apply Zad) | exact HB.out)) hb); clear HB; have HO606 := n0_; have HB := n1_; clear n0_ n1_; (try clear hb); (try clear hb2); (try clear hk); (try clear hi); (try clear ho0); obtain ⟨Ao10, co10, eo10⟩ := Kd.R_slice HO606.out; subst eo10) | ((with_reducible refine Za0 (f := 39) rfl ?_); refine goesL_ (some 22) rfl rfl Try.func39 (by kernel_rfl) rfl #[.slice Ao10 t604.length co10, .int .i64 a1] rfl (by (try simp only [List.map_toArray, List.map_cons, List.map_nil]); first | done | rfl | (simp only [List.length_drop, List.length_take]; rfl)) ?_; (with_reducible refine (Zan.calls k _ _ t604 a1 t607 t608 _ ?side1 ?side2 A5.out).mono ?_); (case side1 => repeat (first | exact (Kd.R_reads' HO606.out).2.2 | (with_reducible refine Kd.C_alloc ?_ _) | (with_reducible refine Kd.C_drewN ?_ _) | (with_reducible refine Kd.C_drew ?_))); (case side2 => exact (Kd.R_reads' HO606.out).2.1); rintro e w11 ⟨v609, rfl, ho0, hb⟩; refine ⟨_, rfl, ?_⟩; have n0_ := Zac.mk (Kd.R_elder' (by (with_reducible repeat (first | apply Kd.R_alloc | apply Kd.R_drewN | apply Kd.R_drew)); exact HO606.out) (Kd.R_base ho0) hb); have n1_ := Zac.mk (Kd.R_lower (Kd.R_new' ho0 (Kd.R_lt (by (with_reducible repeat (first | apply Kd.R_alloc | apply Kd.R_drewN | apply Kd.R_drew)); exact HO606.out))) (Zaw (by repeat (first | (with_reducible first | exact HB.out | apply Zae | apply Zab | apply Zad) | exact HB.out)))); have n2_ := Zac.mk (Zay (by repeat (first | (with_reducible first | exact HB.out | apply Zae | apply Zab | apply Zad) | exact HB.out)) hb); clear HO606; clear HB; have HO606 := n0_; have HO610 := n1_; have HB := n2_; clear n0_ n1_ n2_; (try clear hb); (try clear hb2); (try clear hk); (try clear hi); (try clear ho0)) | ((with_reducible refine Za0 (f := 40) rfl ?_); refine goesL_ (some 26) rfl rfl Try.func40 (by kernel_rfl) rfl #[.slice A0 l0.length c0] rfl (by (try simp only [List.map_toArray, List.map_cons, List.map_nil]); first | done | rfl | (simp only [List.length_drop, List.length_take]; rfl)) ?_; (with_reducible refine (Za7.calls k _ _ l0 t611 _ ?side1 ?side2 A6.out).mono ?_); (case side1 => repeat (first | exact (Kd.C_below HR0.out HB.out) | (with_reducible refine Kd.C_alloc ?_ _) | (with_reducible refine Kd.C_drewN ?_ _) | (with_reducible refine Kd.C_drew ?_))); (case side2 => exact HC0.out); rintro e w12 ⟨v612, rfl, ho0, hb⟩; refine ⟨_, rfl, ?_⟩; have n0_ := Zac.mk (Kd.R_elder' (by (with_reducible repeat (first | apply Kd.R_alloc | apply Kd.R_drewN | apply Kd.R_drew)); exact HO606.out) (Kd.R_base ho0) hb); have n1_ := Zac.mk (Kd.R_elder' (by (with_reducible repeat (first | apply Kd.R_alloc | apply Kd.R_drewN | apply Kd.R_drew)); exact HO610.out) (Kd.R_base ho0) hb); have n2_ := Zac.mk (Kd.R_lower (Kd.R_new' (Kd.R_new' ho0 (Kd.R_lt (by (with_reducible repeat (first | apply Kd.R_alloc | apply Kd.R_drewN | apply Kd.R_drew)); exact HO606.out))) (Kd.R_lt (by (with_reducible repeat (first | apply Kd.R_alloc | apply Kd.R_drewN | apply Kd.R_drew)); exact HO610.out))) (Zaw (by repeat (first | (with_reducible first | exact HB.out | apply Zae | apply Zab | apply Zad) | exact HB.out)))); have n3_ := Zac.mk (Zay (by repeat (first | (with_reducible first | exact HB.out | apply Zae | apply Zab | apply Zad) | exact HB.out)) hb); clear HO606; clear HO610; clear HB; have HO606 := n0_; have HO610 := n1_; have HO613 := n2_; have HB := n3_; clear n0_ n1_ n2_ n3_; (try clear hb); (try clear hb2); (try clear hk); (try clear hi); (try clear ho0); obtain ⟨Ao13, co13, eo13⟩ := Kd.R_slice HO613.out; subst eo13) | ((with_reducible refine Za0 (f := 36) rfl ?_); refine goesL_ (some 30) rfl rfl Try.func36 (by kernel_rfl) rfl #[.slice Ao13 t611.length co13, .int .i64 a1] rfl (by (try simp only [List.map_toArray, List.map_cons, List.map_nil]); first | done | rfl | (simp only [List.length_drop, List.length_take]; rfl)) ?_; (with_reducible refine (Zao.calls k _ _ t611 a1 t614 t615 _ ?side1 ?side2 A7.out).mono ?_); (case side1 => repeat (first | exact (Kd.R_reads' HO613.out).2.2 | (with_reducible refine Kd.C_alloc ?_ _) | (with_reducible refine Kd.C_drewN ?_ _) | (with_reducible refine Kd.C_drew ?_))); (case side2 => exact (Kd.R_reads' HO613.out).2.1); rintro e w14 ⟨v616, rfl, ho0, hb⟩; refine ⟨_, rfl, ?_⟩; have n0_ := Zac.mk (Kd.R_elder' (by (with_reducible repeat (first | apply Kd.R_alloc | apply Kd.R_drewN | apply Kd.R_drew)); exact HO606.out) (Kd.R_base ho0) hb); have n1_ := Zac.mk (Kd.R_elder' (by (with_reducible repeat (first | apply Kd.R_alloc | apply Kd.R_drewN | apply Kd.R_drew)); exact HO610.out) (Kd.R_base ho0) hb); have n2_ := Zac.mk (Kd.R_elder' (by (with_reducible repeat (first | apply Kd.R_alloc | apply Kd.R_drewN | apply Kd.R_drew)); exact HO613.out) (Kd.R_base ho0) hb); have n3_ := Zac.mk (Kd.R_lower (Kd.R_new' (Kd.R_new' (Kd.R_new' ho0 (Kd.R_lt (by (with_reducible repeat (first | apply Kd.R_alloc | apply Kd.R_drewN | apply Kd.R_drew)); exact HO606.out))) (Kd.R_lt (by (with_reducible repeat (first | apply Kd.R_alloc | apply Kd.R_drewN | apply Kd.R_drew)); exact HO610.out))) (Kd.R_lt (by (with_reducible repeat (first | apply Kd.R_alloc | apply Kd.R_drewN | apply Kd.R_drew)); exact HO613.out))) (Zaw (by repeat (first | (with_reducible first | exact HB.out | apply Zae | apply Zab | apply Zad) | exact HB.out)))); have n4_ := Zac.mk (Zay (by repeat (first | (with_reducible first | exact HB.out | apply Zae | apply Zab | apply Zad) | exact HB.out)) hb); clear HO606; clear HO610; clear HO613; clear HB; have HO606 := n0_; have HO610 := n1_; have HO613 := n2_; have HO617 := n3_; have HB := n4_; clear n0_ n1_ n2_ n3_ n4_; (try clear hb); (try clear hb2); (try clear hk); (try clear hi); (try clear ho0)))
  (try simp only [Act.put, List.setIfInBounds_toArray, List.set_cons_zero, List.set_cons_succ])
  go_cut [41] (fun v41 wc => ∃ (kq : Nat) (x41_7 : Bool), v41 = .bool x41_7 ∧ Zac (laws_FnExactPercentsOf.j0 kq l0 a1 t607 t608 t611 t614 t615 x41_7 = some r) ∧ Zac (kq ≤ k) ∧ Zac (Kd.R (Kd.int .i64) 2 wc w.heap.size (fun k_ => some k_ ≠ ((.slice Ao13 t611.length co13) : Value).ownBlock ∧ some k_ ≠ (v616 : Value).ownBlock) v609 t607) ∧ Zac (Kd.R (Kd.int .i64) 2 wc w.heap.size (fun k_ => some k_ ≠ (v609 : Value).ownBlock ∧ some k_ ≠ (v616 : Value).ownBlock) (.slice Ao13 t611.length co13) t611) ∧ Zac (Kd.R (Kd.int .i64) 2 wc w.heap.size (fun k_ => some k_ ≠ (v609 : Value).ownBlock ∧ some k_ ≠ ((.slice Ao13 t611.length co13) : Value).ownBlock) v616 t614) ∧ Zac (Below w.heap.size w wc))
  case first =>
   have H := HC8.out
   clear HC8
   replace H := Option.bind_eq_some_iff.mp H
   obtain ⟨t618, A150, H⟩ := H
   replace H : (if t618 = true then (laws_FnExactPercentsOf.j0 k l0 a1 t607 t608 t611 t614 t615 (t615 != t608)) else (laws_FnExactPercentsOf.j0 k l0 a1 t607 t608 t611 t614 t615 true)) = some r := H
   have A15 := Zac.mk A150
   clear A150
   by_cases c16 : t618 = true
   ·subst c16
    have H1 : (laws_FnExactPercentsOf.j0 k l0 a1 t607 t608 t611 t614 t615 (t615 != t608)) = some r := by rw [if_pos rfl] at H; exact H
    clear H
    have H := H1
    clear H1
    have H' := Zac.mk H
    clear H
    obtain ⟨Ao17, co17, eo17⟩ := Kd.R_slice HO617.out
    subst eo17
    obtain ⟨Ao18, co18, eo18⟩ := Kd.R_slice HO610.out
    subst eo18
    as_aux_lemma =>
     go_wp2_with (first | ((with_reducible refine Za0 (f := 15) rfl ?_); refine goesL_ (some 35) rfl rfl Try.func15 (by kernel_rfl) rfl #[.slice Ao17 t614.length co17, .slice Ao18 t607.length co18] rfl (by (try simp only [List.map_toArray, List.map_cons, List.map_nil]); first | done | rfl | (simp only [List.length_drop, List.length_take]; rfl)) ?_; (with_reducible refine (Za4.calls k _ _ t614 _ _ t607 true _ ?side1 ?side2 ?side3 ?side4 A15.out).mono ?_); (case side1 => repeat (first | exact (Kd.R_reads' HO617.out).2.2 | (with_reducible refine Kd.C_alloc ?_ _) | (with_reducible refine Kd.C_drewN ?_ _) | (with_reducible refine Kd.C_drew ?_))); (case side2 => exact (Kd.R_reads' HO617.out).2.1); (case side3 => repeat (first | exact (Kd.R_reads' HO610.out).2.2 | (with_reducible refine Kd.C_alloc ?_ _) | (with_reducible refine Kd.C_drewN ?_ _) | (with_reducible refine Kd.C_drew ?_))); (case side4 => exact (Kd.R_reads' HO610.out).2.1); rintro e w' ⟨rfl, ⟨nd, rfl⟩⟩; refine ⟨_, rfl, ?_⟩))
     go_meet
     case rel => exact ⟨_, ((t615 != t608)), (by first | rfl | (simp; done) | (simp [*]; done)), H', ⟨by first | omega | exact Nat.le_refl _⟩, ⟨by (with_reducible repeat (first | apply Kd.R_alloc | apply Kd.R_drewN | apply Kd.R_drew)); exact Kd.R_mono HO610.out (fun _ hk => ⟨hk.1.2, hk.2⟩)⟩, ⟨by (with_reducible repeat (first | apply Kd.R_alloc | apply Kd.R_drewN | apply Kd.R_drew)); exact Kd.R_mono HO613.out (fun _ hk => ⟨hk.1.2, hk.2⟩)⟩, ⟨by (with_reducible repeat (first | apply Kd.R_alloc | apply Kd.R_drewN | apply Kd.R_drew)); exact Kd.R_mono HO617.out (fun _ hk => ⟨hk.1.2, hk.2⟩)⟩, ⟨by repeat (first | (with_reducible first | exact HB.out | apply Zae | apply Zab | apply Zad) | exact HB.out)⟩⟩
   ·replace c16 := Bool.eq_false_iff.mpr c16
    subst c16
    have H1 : (laws_FnExactPercentsOf.j0 k l0 a1 t607 t608 t611 t614 t615 true) = some r := by rw [if_neg (show ¬ (false = true) by decide)] at H; exact H
    clear H
    have H := H1
    clear H1
    have H' := Zac.mk H
    clear H
    obtain ⟨Ao19, co19, eo19⟩ := Kd.R_slice HO617.out
    subst eo19
    obtain ⟨Ao20, co20, eo20⟩ := Kd.R_slice HO610.out
    subst eo20
    as_aux_lemma =>
     go_wp2_with (first | ((with_reducible refine Za0 (f := 15) rfl ?_); refine goesL_ (some 35) rfl rfl Try.func15 (by kernel_rfl) rfl #[.slice Ao19 t614.length co19, .slice Ao20 t607.length co20] rfl (by (try simp only [List.map_toArray, List.map_cons, List.map_nil]); first | done | rfl | (simp only [List.length_drop, List.length_take]; rfl)) ?_; (with_reducible refine (Za4.calls k _ _ t614 _ _ t607 false _ ?side1 ?side2 ?side3 ?side4 A15.out).mono ?_); (case side1 => repeat (first | exact (Kd.R_reads' HO617.out).2.2 | (with_reducible refine Kd.C_alloc ?_ _) | (with_reducible refine Kd.C_drewN ?_ _) | (with_reducible refine Kd.C_drew ?_))); (case side2 => exact (Kd.R_reads' HO617.out).2.1); (case side3 => repeat (first | exact (Kd.R_reads' HO610.out).2.2 | (with_reducible refine Kd.C_alloc ?_ _) | (with_reducible refine Kd.C_drewN ?_ _) | (with_reducible refine Kd.C_drew ?_))); (case side4 => exact (Kd.R_reads' HO610.out).2.1); rintro e w' ⟨rfl, ⟨nd, rfl⟩⟩; refine ⟨_, rfl, ?_⟩))
     go_meet
     case rel => exact ⟨_, (true), (by first | rfl | (simp; done) | (simp [*]; done)), H', ⟨by first | omega | exact Nat.le_refl _⟩, ⟨by (with_reducible repeat (first | apply Kd.R_alloc | apply Kd.R_drewN | apply Kd.R_drew)); exact Kd.R_mono HO610.out (fun _ hk => ⟨hk.1.2, hk.2⟩)⟩, ⟨by (with_reducible repeat (first | apply Kd.R_alloc | apply Kd.R_drewN | apply Kd.R_drew)); exact Kd.R_mono HO613.out (fun _ hk => ⟨hk.1.2, hk.2⟩)⟩, ⟨by (with_reducible repeat (first | apply Kd.R_alloc | apply Kd.R_drewN | apply Kd.R_drew)); exact Kd.R_mono HO617.out (fun _ hk => ⟨hk.1.2, hk.2⟩)⟩, ⟨by repeat (first | (with_reducible first | exact HB.out | apply Zae | apply Zab | apply Zad) | exact HB.out)⟩⟩
  case rest =>
   clear HC8
   try clear c1
   try clear p2
   try clear c3
   try clear c3b0
   try clear c3b1
   try clear c4
   try clear c6
   try clear c15
   try clear c16
   obtain ⟨kq, x41_7, rfl, HA, HJ7, HO_5, HO_7, HO_8, HB⟩ := hcut
   cases kq with
   | zero => exact absurd HA.out (by simp [laws_FnExactPercentsOf.j0])
   | succ kj7 =>
    have H := HA.out
    clear HA
    simp only [laws_FnExactPercentsOf.j0] at H
    by_cases c21 : x41_7 = true
    ·subst c21
     have H1 : (some false) = some r := by rw [if_pos rfl] at H; exact H
     clear H
     have H := H1
     clear H1
     obtain rfl := Option.some.inj H
     as_aux_lemma =>
      go_wp2
      go_ret
      exact ⟨by first | rfl | (simp [Zat, Zau] <;> rfl) | (simp [*, Zat, Zau] <;> rfl), by repeat (first | (with_reducible first | exact HB.out | apply Zae | apply Zab | apply Zad) | exact HB.out)⟩
    ·replace c21 := Bool.eq_false_iff.mpr c21
     subst c21
     have H1 : ((Za7.f kj7 l0).bind fun t619 => ((Za4.f kj7 t611 t619).bind fun t622 => (if t622 = true then ((Za8.f kj7 t611 1).bind fun bt623 => (if bt623.1 < 0 then (laws_FnExactPercentsOf.j1 kj7 l0 a1 t607 t608 t614 true) else ((Za4.f kj7 t614 t607).bind fun t625 => (if t625 = true then (laws_FnExactPercentsOf.j1 kj7 l0 a1 t607 t608 t614 (t615 != t608)) else (laws_FnExactPercentsOf.j1 kj7 l0 a1 t607 t608 t614 true))))) else (some false)))) = some r := by rw [if_neg (show ¬ (false = true) by decide)] at H; exact H
     clear H
     have H := H1
     clear H1
     replace H := Option.bind_eq_some_iff.mp H
     obtain ⟨t619, A220, H⟩ := H
     replace H : ((Za4.f kj7 t611 t619).bind fun t622 => (if t622 = true then ((Za8.f kj7 t611 1).bind fun bt623 => (if bt623.1 < 0 then (laws_FnExactPercentsOf.j1 kj7 l0 a1 t607 t608 t614 true) else ((Za4.f kj7 t614 t607).bind fun t625 => (if t625 = true then (laws_FnExactPercentsOf.j1 kj7 l0 a1 t607 t608 t614 (t615 != t608)) else (laws_FnExactPercentsOf.j1 kj7 l0 a1 t607 t608 t614 true))))) else (some false))) = some r := H
     have A22 := Zac.mk A220
     clear A220
     replace H := Option.bind_eq_some_iff.mp H
     obtain ⟨t622, A230, H⟩ := H
     replace H : (if t622 = true then ((Za8.f kj7 t611 1).bind fun bt623 => (if bt623.1 < 0 then (laws_FnExactPercentsOf.j1 kj7 l0 a1 t607 t608 t614 true) else ((Za4.f kj7 t614 t607).bind fun t625 => (if t625 = true then (laws_FnExactPercentsOf.j1 kj7 l0 a1 t607 t608 t614 (t615 != t608)) else (laws_FnExactPercentsOf.j1 kj7 l0 a1 t607 t608 t614 true))))) else (some false)) = some r := H
     have A23 := Zac.mk A230
     clear A230
     by_cases c24 : t622 = true
     ·subst c24
      have H1 : ((Za8.f kj7 t611 1).bind fun bt623 => (if bt623.1 < 0 then (laws_FnExactPercentsOf.j1 kj7 l0 a1 t607 t608 t614 true) else ((Za4.f kj7 t614 t607).bind fun t625 => (if t625 = true then (laws_FnExactPercentsOf.j1 kj7 l0 a1 t607 t608 t614 (t615 != t608)) else (laws_FnExactPercentsOf.j1 kj7 l0 a1 t607 t608 t614 true))))) = some r := by rw [if_pos rfl] at H; exact H
      clear H
      have H := H1
      clear H1
      replace H := Option.bind_eq_some_iff.mp H
      obtain ⟨⟨t623, t624⟩, A250, H⟩ := H
      replace H : (if t623 < 0 then (laws_FnExactPercentsOf.j1 kj7 l0 a1 t607 t608 t614 true) else ((Za4.f kj7 t614 t607).bind fun t625 => (if t625 = true then (laws_FnExactPercentsOf.j1 kj7 l0 a1 t607 t608 t614 (t615 != t608)) else (laws_FnExactPercentsOf.j1 kj7 l0 a1 t607 t608 t614 true)))) = some r := H
      have A25 := Zac.mk A250
      clear A250
      have HC26 := Zac.mk H
      clear H
      go_upto_region 12 with (first | ((with_reducible refine Za0 (f := 40) rfl ?_); refine goesL_ (some 44) rfl rfl Try.func40 (by kernel_rfl) rfl #[.slice A0 l0.length c0] rfl (by (try simp only [List.map_toArray, List.map_cons, List.map_nil]); first | done | rfl | (simp only [List.length_drop, List.length_take]; rfl)) ?_; (with_reducible refine (Za7.calls kj7 _ _ l0 t619 _ ?side1 ?side2 A22.out).mono ?_); (case side1 => repeat (first | exact (Kd.C_below HR0.out HB.out) | (with_reducible refine Kd.C_alloc ?_ _) | (with_reducible refine Kd.C_drewN ?_ _) | (with_reducible refine Kd.C_drew ?_))); (case side2 => exact HC0.out); rintro e w27 ⟨v620, rfl, ho0, hb⟩; refine ⟨_, rfl, ?_⟩; have n0_ := Zac.mk (Kd.R_elder' (by (with_reducible repeat (first | apply Kd.R_alloc | apply Kd.R_drewN | apply Kd.R_drew)); exact HO_5.out) (Kd.R_base ho0) hb); have n1_ := Zac.mk (Kd.R_elder' (by (with_reducible repeat (first | apply Kd.R_alloc | apply Kd.R_drewN | apply Kd.R_drew)); exact HO_7.out) (Kd.R_base ho0) hb); have n2_ := Zac.mk (Kd.R_elder' (by (with_reducible repeat (first | apply Kd.R_alloc | apply Kd.R_drewN | apply Kd.R_drew)); exact HO_8.out) (Kd.R_base ho0) hb); have n3_ := Zac.mk (Kd.R_lower (Kd.R_new' (Kd.R_new' (Kd.R_new' ho0 (Kd.R_lt (by (with_reducible repeat (first | apply Kd.R_alloc | apply Kd.R_drewN | apply Kd.R_drew)); exact HO_5.out))) (Kd.R_lt (by (with_reducible repeat (first | apply Kd.R_alloc | apply Kd.R_drewN | apply Kd.R_drew)); exact HO_7.out))) (Kd.R_lt (by (with_reducible repeat (first | apply Kd.R_alloc | apply Kd.R_drewN | apply Kd.R_drew)); exact HO_8.out))) (Zaw (by repeat (first | (with_reducible first | exact HB.out | apply Zae | apply Zab | apply Zad) | exact HB.out)))); have n4_ := Zac.mk (Zay (by repeat (first | (with_reducible first | exact HB.out | apply Zae | apply Zab | apply Zad) | exact HB.out)) hb); clear HO_5; clear HO_7; clear HO_8; clear HB; have HO_5 := n0_; have HO_7 := n1_; have HO_8 := n2_; have HO621 := n3_; have HB := n4_; clear n0_ n1_ n2_ n3_ n4_; (try clear hb); (try clear hb2); (try clear hk); (try clear hi); (try clear ho0); obtain ⟨Ao28, co28, eo28⟩ := Kd.R_slice HO621.out; subst eo28) | ((with_reducible refine Za0 (f := 15) rfl ?_); refine goesL_ (some 45) rfl rfl Try.func15 (by kernel_rfl) rfl #[.slice Ao13 t611.length co13, .slice Ao28 t619.length co28] rfl (by (try simp only [List.map_toArray, List.map_cons, List.map_nil]); first | done | rfl | (simp only [List.length_drop, List.length_take]; rfl)) ?_; (with_reducible refine (Za4.calls kj7 _ _ t611 _ _ t619 true _ ?side1 ?side2 ?side3 ?side4 A23.out).mono ?_); (case side1 => repeat (first | exact (Kd.R_reads' HO_7.out).2.2 | (with_reducible refine Kd.C_alloc ?_ _) | (with_reducible refine Kd.C_drewN ?_ _) | (with_reducible refine Kd.C_drew ?_))); (case side2 => exact (Kd.R_reads' HO_7.out).2.1); (case side3 => repeat (first | exact (Kd.R_reads' HO621.out).2.2 | (with_reducible refine Kd.C_alloc ?_ _) | (with_reducible refine Kd.C_drewN ?_ _) | (with_reducible refine Kd.C_drew ?_))); (case side4 => exact (Kd.R_reads' HO621.out).2.1); rintro e w' ⟨rfl, ⟨nd, rfl⟩⟩; refine ⟨_, rfl, ?_⟩) | ((with_reducible refine Za0 (f := 18) rfl ?_); refine goesL_ (some 49) rfl rfl Try.func18 (by kernel_rfl) rfl #[.slice Ao13 t611.length co13, .int .i64 1] rfl (by (try simp only [List.map_toArray, List.map_cons, List.map_nil]); first | done | rfl | (simp only [List.length_drop, List.length_take]; rfl)) ?_; (with_reducible refine (Za8.calls kj7 (fun k_ => some k_ = (.slice Ao13 t611.length co13 : Value).ownBlock) (.slice Ao13 t611.length co13) t611 1 t623 t624 w _ ?side1 ?side2 A25.out).mono ?_); (case side1 => repeat (first | (with_reducible first | exact HB.out | apply Zae | apply Zab | apply Zad) | exact HB.out)); (case side2 => exact Kd.R_tight rfl HO_7.out); rintro e w29 ⟨rfl, hy0, hb, hkp⟩; refine ⟨_, rfl, ?_⟩; have n0_ := Zac.mk (Kd.R_mono (ok' := fun k_ => some k_ ≠ (.slice Ao13 t611.length co13 : Value).ownBlock ∧ some k_ ≠ (v616 : Value).ownBlock ∧ some k_ ≠ (.slice Ao28 t619.length co28 : Value).ownBlock) (Kd.R_keptB (HO_5.out) hkp (fun k_ hk_ hs_ => (hk_.1.1) hs_)) (fun k_ hk_ => ⟨hk_.1.1.1, hk_.1.1.2, hk_.1.2⟩)); have n1_ := Zac.mk (Kd.R_reok rfl hy0 (fun k_ e_ => HO_7.out.1 k_ e_)); have n2_ := Zac.mk (Kd.R_mono (ok' := fun k_ => some k_ ≠ (v609 : Value).ownBlock ∧ some k_ ≠ (.slice Ao13 t611.length co13 : Value).ownBlock ∧ some k_ ≠ (.slice Ao28 t619.length co28 : Value).ownBlock) (Kd.R_keptB (HO_8.out) hkp (fun k_ hk_ hs_ => (hk_.1.2) hs_)) (fun k_ hk_ => ⟨hk_.1.1.1, hk_.1.1.2, hk_.1.2⟩)); have n3_ := Zac.mk (Kd.R_mono (ok' := fun k_ => some k_ ≠ (v609 : Value).ownBlock ∧ some k_ ≠ (.slice Ao13 t611.length co13 : Value).ownBlock ∧ some k_ ≠ (v616 : Value).ownBlock) (Kd.R_keptB (HO621.out) hkp (fun k_ hk_ hs_ => (hk_.1.2) hs_)) (fun k_ hk_ => ⟨hk_.1.1.1.2, hk_.1.1.2, hk_.1.2⟩)); have n4_ := Zac.mk (hb); clear HO_5; clear HO_7; clear HO_8; clear HO621; clear HB; have HO_5 := n0_; have HO_7 := n1_; have HO_8 := n2_; have HO621 := n3_; have HB := n4_; clear n0_ n1_ n2_ n3_ n4_; (try clear hb); (try clear hkp); (try clear hy0)))
      (try simp only [Act.put, List.setIfInBounds_toArray, List.set_cons_zero, List.set_cons_succ])
      go_cut [62] (fun v62 wc => ∃ (kq : Nat) (x62_25 : Bool), v62 = .bool x62_25 ∧ Zac (laws_FnExactPercentsOf.j1 kq l0 a1 t607 t608 t614 x62_25 = some r) ∧ Zac (kq ≤ kj7) ∧ Zac (Kd.R (Kd.int .i64) 2 wc w.heap.size (fun k_ => some k_ ≠ (v616 : Value).ownBlock) v609 t607) ∧ Zac (Kd.R (Kd.int .i64) 2 wc w.heap.size (fun k_ => some k_ ≠ (v609 : Value).ownBlock) v616 t614) ∧ Zac (Below w.heap.size w wc))
      case first =>
       have H := HC26.out
       clear HC26
       by_cases c30 : t623 < 0
       ·rw [if_pos c30] at H
        have c30b0 : decide (t623 < 0) = true := decide_eq_true c30
        clear c30
        (first | rw [c30b0] | (simp only [i64_w, i32_w]; rw [c30b0]) | skip)
        have H' := Zac.mk H
        clear H
        as_aux_lemma =>
         go_wp2
         go_meet
         case rel => exact ⟨_, (true), (by first | rfl | (simp; done) | (simp [*]; done)), H', ⟨by have := HJ7.out; first | omega | exact Nat.le_refl _⟩, ⟨by (with_reducible repeat (first | apply Kd.R_alloc | apply Kd.R_drewN | apply Kd.R_drew)); exact Kd.R_mono HO_5.out (fun _ hk => hk.2.1)⟩, ⟨by (with_reducible repeat (first | apply Kd.R_alloc | apply Kd.R_drewN | apply Kd.R_drew)); exact Kd.R_mono HO_8.out (fun _ hk => hk.1)⟩, ⟨by repeat (first | (with_reducible first | exact HB.out | apply Zae | apply Zab | apply Zad) | exact HB.out)⟩⟩
       ·rw [if_neg c30] at H
        have c30b0 : decide (t623 < 0) = false := decide_eq_false c30
        clear c30
        (first | rw [c30b0] | (simp only [i64_w, i32_w]; rw [c30b0]) | skip)
        replace H := Option.bind_eq_some_iff.mp H
        obtain ⟨t625, A310, H⟩ := H
        replace H : (if t625 = true then (laws_FnExactPercentsOf.j1 kj7 l0 a1 t607 t608 t614 (t615 != t608)) else (laws_FnExactPercentsOf.j1 kj7 l0 a1 t607 t608 t614 true)) = some r := H
        have A31 := Zac.mk A310
        clear A310
        by_cases c32 : t625 = true
        ·subst c32
         have H1 : (laws_FnExactPercentsOf.j1 kj7 l0 a1 t607 t608 t614 (t615 != t608)) = some r := by rw [if_pos rfl] at H; exact H
         clear H
         have H := H1
         clear H1
         have H' := Zac.mk H
         clear H
         obtain ⟨Ao33, co33, eo33⟩ := Kd.R_slice HO_8.out
         subst eo33
         obtain ⟨Ao34, co34, eo34⟩ := Kd.R_slice HO_5.out
         subst eo34
         as_aux_lemma =>
          go_wp2_with (first | (go_at_call 15; (with_reducible refine (Za4.calls kj7 _ _ t614 _ _ t607 true _ ?side1 ?side2 ?side3 ?side4 A31.out).mono ?_); (case side1 => repeat (first | exact (Kd.R_reads' HO_8.out).2.2 | (with_reducible refine Kd.C_alloc ?_ _) | (with_reducible refine Kd.C_drewN ?_ _) | (with_reducible refine Kd.C_drew ?_))); (case side2 => exact (Kd.R_reads' HO_8.out).2.1); (case side3 => repeat (first | exact (Kd.R_reads' HO_5.out).2.2 | (with_reducible refine Kd.C_alloc ?_ _) | (with_reducible refine Kd.C_drewN ?_ _) | (with_reducible refine Kd.C_drew ?_))); (case side4 => exact (Kd.R_reads' HO_5.out).2.1); rintro e w' ⟨rfl, ⟨nd, rfl⟩⟩))
          go_meet
          case rel => exact ⟨_, ((t615 != t608)), (by first | rfl | (simp; done) | (simp [*]; done)), H', ⟨by have := HJ7.out; first | omega | exact Nat.le_refl _⟩, ⟨by (with_reducible repeat (first | apply Kd.R_alloc | apply Kd.R_drewN | apply Kd.R_drew)); exact Kd.R_mono HO_5.out (fun _ hk => hk.2.1)⟩, ⟨by (with_reducible repeat (first | apply Kd.R_alloc | apply Kd.R_drewN | apply Kd.R_drew)); exact Kd.R_mono HO_8.out (fun _ hk => hk.1)⟩, ⟨by repeat (first | (with_reducible first | exact HB.out | apply Zae | apply Zab | apply Zad) | exact HB.out)⟩⟩
        ·replace c32 := Bool.eq_false_iff.mpr c32
         subst c32
         have H1 : (laws_FnExactPercentsOf.j1 kj7 l0 a1 t607 t608 t614 true) = some r := by rw [if_neg (show ¬ (false = true) by decide)] at H; exact H
         clear H
         have H := H1
         clear H1
         have H' := Zac.mk H
         clear H
         obtain ⟨Ao35, co35, eo35⟩ := Kd.R_slice HO_8.out
         subst eo35
         obtain ⟨Ao36, co36, eo36⟩ := Kd.R_slice HO_5.out
         subst eo36
         as_aux_lemma =>
          go_wp2_with (first | (go_at_call 15; (with_reducible refine (Za4.calls kj7 _ _ t614 _ _ t607 false _ ?side1 ?side2 ?side3 ?side4 A31.out).mono ?_); (case side1 => repeat (first | exact (Kd.R_reads' HO_8.out).2.2 | (with_reducible refine Kd.C_alloc ?_ _) | (with_reducible refine Kd.C_drewN ?_ _) | (with_reducible refine Kd.C_drew ?_))); (case side2 => exact (Kd.R_reads' HO_8.out).2.1); (case side3 => repeat (first | exact (Kd.R_reads' HO_5.out).2.2 | (with_reducible refine Kd.C_alloc ?_ _) | (with_reducible refine Kd.C_drewN ?_ _) | (with_reducible refine Kd.C_drew ?_))); (case side4 => exact (Kd.R_reads' HO_5.out).2.1); rintro e w' ⟨rfl, ⟨nd, rfl⟩⟩))
          go_meet
          case rel => exact ⟨_, (true), (by first | rfl | (simp; done) | (simp [*]; done)), H', ⟨by have := HJ7.out; first | omega | exact Nat.le_refl _⟩, ⟨by (with_reducible repeat (first | apply Kd.R_alloc | apply Kd.R_drewN | apply Kd.R_drew)); exact Kd.R_mono HO_5.out (fun _ hk => hk.2.1)⟩, ⟨by (with_reducible repeat (first | apply Kd.R_alloc | apply Kd.R_drewN | apply Kd.R_drew)); exact Kd.R_mono HO_8.out (fun _ hk => hk.1)⟩, ⟨by repeat (first | (with_reducible first | exact HB.out | apply Zae | apply Zab | apply Zad) | exact HB.out)⟩⟩
      case rest =>
       clear HC26
       try clear c1
       try clear c2
       try clear p2
       try clear c3
       try clear c3b0
       try clear c3b1
       try clear c4
       try clear c6
       try clear c15
       try clear c16
       try clear c18
       try clear c21
       try clear c24
       try clear c30
       try clear c30b0
       try clear c32
       try clear c36
       try clear p2
       obtain ⟨kq, x62_25, rfl, HA, HJ25, HO_5, HO_8, HB⟩ := hcut
       cases kq with
       | zero => exact absurd HA.out (by simp [laws_FnExactPercentsOf.j1])
       | succ kj25 =>
        have H := HA.out
        clear HA
        simp only [laws_FnExactPercentsOf.j1] at H
        by_cases c37 : x62_25 = true
        ·subst c37
         have H1 : (some false) = some r := by rw [if_pos rfl] at H; exact H
         clear H
         have H := H1
         clear H1
         obtain rfl := Option.some.inj H
         as_aux_lemma =>
          go_wp2
          go_ret
          exact ⟨by first | rfl | (simp [Zat, Zau] <;> rfl) | (simp [*, Zat, Zau] <;> rfl), by repeat (first | (with_reducible first | exact HB.out | apply Zae | apply Zab | apply Zad) | exact HB.out)⟩
        ·replace c37 := Bool.eq_false_iff.mpr c37
         subst c37
         have H1 : ((Za8.f kj25 t614 1).bind fun bt626 => ((Zbb.f kj25 bt626.2 1).bind fun t628 => (if t628 < 0 then (some false) else (if t628 = bt626.1 then ((Za7.f kj25 l0).bind fun t629 => ((Zao.f kj25 t629 a1).bind fun bt632 => ((Za4.f kj25 bt632.1 t607).bind fun t636 => (if t636 = true then (laws_FnExactPercentsOf.j2 kj25 bt626.2 bt626.1 (bt632.2 != t608)) else (laws_FnExactPercentsOf.j2 kj25 bt626.2 bt626.1 true))))) else (some false))))) = some r := by rw [if_neg (show ¬ (false = true) by decide)] at H; exact H
         clear H
         have H := H1
         clear H1
         replace H := Option.bind_eq_some_iff.mp H
         obtain ⟨⟨t626, t627⟩, A380, H⟩ := H
         replace H : ((Zbb.f kj25 t627 1).bind fun t628 => (if t628 < 0 then (some false) else (if t628 = t626 then ((Za7.f kj25 l0).bind fun t629 => ((Zao.f kj25 t629 a1).bind fun bt632 => ((Za4.f kj25 bt632.1 t607).bind fun t636 => (if t636 = true then (laws_FnExactPercentsOf.j2 kj25 t627 t626 (bt632.2 != t608)) else (laws_FnExactPercentsOf.j2 kj25 t627 t626 true))))) else (some false)))) = some r := H
         have A38 := Zac.mk A380
         clear A380
         replace H := Option.bind_eq_some_iff.mp H
         obtain ⟨t628, A390, H⟩ := H
         replace H : (if t628 < 0 then (some false) else (if t628 = t626 then ((Za7.f kj25 l0).bind fun t629 => ((Zao.f kj25 t629 a1).bind fun bt632 => ((Za4.f kj25 bt632.1 t607).bind fun t636 => (if t636 = true then (laws_FnExactPercentsOf.j2 kj25 t627 t626 (bt632.2 != t608)) else (laws_FnExactPercentsOf.j2 kj25 t627 t626 true))))) else (some false))) = some r := H
         have A39 := Zac.mk A390
         clear A390
         by_cases c40 : t628 < 0
         ·rw [if_pos c40] at H
          have c40b0 : decide (t628 < 0) = true := decide_eq_true c40
          clear c40
          obtain rfl := Option.some.inj H
          obtain ⟨Ao41, co41, eo41⟩ := Kd.R_slice HO_8.out
          subst eo41
          as_aux_lemma =>
           go_wp2_with (first | ((with_reducible refine Za0 (f := 18) rfl ?_); refine goesL_ (some 65) rfl rfl Try.func18 (by kernel_rfl) rfl #[.slice Ao41 t614.length co41, .int .i64 1] rfl (by (try simp only [List.map_toArray, List.map_cons, List.map_nil]); first | done | rfl | (simp only [List.length_drop, List.length_take]; rfl)) ?_; (with_reducible refine (Za8.calls kj25 (fun k_ => some k_ = (.slice Ao41 t614.length co41 : Value).ownBlock) (.slice Ao41 t614.length co41) t614 1 t626 t627 w _ ?side1 ?side2 A38.out).mono ?_); (case side1 => repeat (first | (with_reducible first | exact HB.out | apply Zae | apply Zab | apply Zad) | exact HB.out)); (case side2 => exact Kd.R_tight rfl HO_8.out); rintro e w42 ⟨rfl, hy0, hb, hkp⟩; refine ⟨_, rfl, ?_⟩; have n0_ := Zac.mk (Kd.R_mono (ok' := fun k_ => some k_ ≠ (.slice Ao41 t614.length co41 : Value).ownBlock) (Kd.R_keptB (HO_5.out) hkp (fun k_ hk_ hs_ => (hk_) hs_)) (fun k_ hk_ => hk_.1)); have n1_ := Zac.mk (Kd.R_reok rfl hy0 (fun k_ e_ => HO_8.out.1 k_ e_)); have n2_ := Zac.mk (hb); clear HO_5; clear HO_8; clear HB; have HO_5 := n0_; have HO_8 := n1_; have HB := n2_; clear n0_ n1_ n2_; (try clear hb); (try clear hkp); (try clear hy0)) | ((with_reducible refine Za0 (f := 19) rfl ?_); refine goesL_ (some 68) rfl rfl Try.func19 (by kernel_rfl) rfl #[.slice Ao41 t627.length co41, .int .i64 1] rfl (by (try simp only [List.map_toArray, List.map_cons, List.map_nil]); first | done | (rw [show t627.length = t614.length from (Kd.R_reads' HO_8.out).1.symm] <;> rfl) | rfl | (simp only [List.length_drop, List.length_take]; rfl)) ?_; (with_reducible refine (Zbb.calls kj25 _ _ t627 1 t628 _ ?side1 ?side2 A39.out).mono ?_); (case side1 => repeat (first | exact (Kd.R_reads' HO_8.out).2.2 | (with_reducible refine Kd.C_alloc ?_ _) | (with_reducible refine Kd.C_drewN ?_ _) | (with_reducible refine Kd.C_drew ?_))); (case side2 => rw [show t627.length = t614.length from (Kd.R_reads' HO_8.out).1.symm]; exact (Kd.R_reads' HO_8.out).2.1); rintro e w' ⟨rfl, ⟨nd, rfl⟩⟩; refine ⟨_, rfl, ?_⟩))
           go_ret
           exact ⟨by first | rfl | (simp [Zat, Zau] <;> rfl) | (simp [*, Zat, Zau] <;> rfl), by repeat (first | (with_reducible first | exact HB.out | apply Zae | apply Zab | apply Zad) | exact HB.out)⟩
         ·rw [if_neg c40] at H
          have c40b0 : decide (t628 < 0) = false := decide_eq_false c40
          clear c40
          by_cases c43 : t628 = t626
          ·rw [if_pos c43] at H
           have c43b0 : (t628 == t626) = true := beq_iff_eq.mpr c43
           have c43b1 : (t628 != t626) = false := bne_eq_false_iff_eq.mpr c43
           clear c43
           replace H := Option.bind_eq_some_iff.mp H
           obtain ⟨t629, A440, H⟩ := H
           replace H : ((Zao.f kj25 t629 a1).bind fun bt632 => ((Za4.f kj25 bt632.1 t607).bind fun t636 => (if t636 = true then (laws_FnExactPercentsOf.j2 kj25 t627 t626 (bt632.2 != t608)) else (laws_FnExactPercentsOf.j2 kj25 t627 t626 true)))) = some r := H
           have A44 := Zac.mk A440
           clear A440
           replace H := Option.bind_eq_some_iff.mp H
           obtain ⟨⟨t632, t633⟩, A450, H⟩ := H
           replace H : ((Za4.f kj25 t632 t607).bind fun t636 => (if t636 = true then (laws_FnExactPercentsOf.j2 kj25 t627 t626 (t633 != t608)) else (laws_FnExactPercentsOf.j2 kj25 t627 t626 true))) = some r := H
           have A45 := Zac.mk A450
           clear A450
           have HC46 := Zac.mk H
           clear H
           obtain ⟨Ao47, co47, eo47⟩ := Kd.R_slice HO_8.out
           subst eo47
           go_upto_region 23 with (first | ((with_reducible refine Za0 (f := 18) rfl ?_); refine goesL_ (some 65) rfl rfl Try.func18 (by kernel_rfl) rfl #[.slice Ao47 t614.length co47, .int .i64 1] rfl (by (try simp only [List.map_toArray, List.map_cons, List.map_nil]); first | done | rfl | (simp only [List.length_drop, List.length_take]; rfl)) ?_; (with_reducible refine (Za8.calls kj25 (fun k_ => some k_ = (.slice Ao47 t614.length co47 : Value).ownBlock) (.slice Ao47 t614.length co47) t614 1 t626 t627 w _ ?side1 ?side2 A38.out).mono ?_); (case side1 => repeat (first | (with_reducible first | exact HB.out | apply Zae | apply Zab | apply Zad) | exact HB.out)); (case side2 => exact Kd.R_tight rfl HO_8.out); rintro e w48 ⟨rfl, hy0, hb, hkp⟩; refine ⟨_, rfl, ?_⟩; have n0_ := Zac.mk (Kd.R_mono (ok' := fun k_ => some k_ ≠ (.slice Ao47 t614.length co47 : Value).ownBlock) (Kd.R_keptB (HO_5.out) hkp (fun k_ hk_ hs_ => (hk_) hs_)) (fun k_ hk_ => hk_.1)); have n1_ := Zac.mk (Kd.R_reok rfl hy0 (fun k_ e_ => HO_8.out.1 k_ e_)); have n2_ := Zac.mk (hb); clear HO_5; clear HO_8; clear HB; have HO_5 := n0_; have HO_8 := n1_; have HB := n2_; clear n0_ n1_ n2_; (try clear hb); (try clear hkp); (try clear hy0)) | ((with_reducible refine Za0 (f := 19) rfl ?_); refine goesL_ (some 68) rfl rfl Try.func19 (by kernel_rfl) rfl #[.slice Ao47 t627.length co47, .int .i64 1] rfl (by (try simp only [List.map_toArray, List.map_cons, List.map_nil]); first | done | (rw [show t627.length = t614.length from (Kd.R_reads' HO_8.out).1.symm] <;> rfl) | rfl | (simp only [List.length_drop, List.length_take]; rfl)) ?_; (with_reducible refine (Zbb.calls kj25 _ _ t627 1 t628 _ ?side1 ?side2 A39.out).mono ?_); (case side1 => repeat (first | exact (Kd.R_reads' HO_8.out).2.2 | (with_reducible refine Kd.C_alloc ?_ _) | (with_reducible refine Kd.C_drewN ?_ _) | (with_reducible refine Kd.C_drew ?_))); (case side2 => rw [show t627.length = t614.length from (Kd.R_reads' HO_8.out).1.symm]; exact (Kd.R_reads' HO_8.out).2.1); rintro e w' ⟨rfl, ⟨nd, rfl⟩⟩; refine ⟨_, rfl, ?_⟩) | ((with_reducible refine Za0 (f := 40) rfl ?_); refine goesL_ (some 76) rfl rfl Try.func40 (by kernel_rfl) rfl #[.slice A0 l0.length c0] rfl (by (try simp only [List.map_toArray, List.map_cons, List.map_nil]); first | done | rfl | (simp only [List.length_drop, List.length_take]; rfl)) ?_; (with_reducible refine (Za7.calls kj25 _ _ l0 t629 _ ?side1 ?side2 A44.out).mono ?_); (case side1 => repeat (first | exact (Kd.C_below HR0.out (by repeat (first | (with_reducible first | exact HB.out | apply Zae | apply Zab | apply Zad) | exact HB.out))) | (with_reducible refine Kd.C_alloc ?_ _) | (with_reducible refine Kd.C_drewN ?_ _) | (with_reducible refine Kd.C_drew ?_))); (case side2 => exact HC0.out); rintro e w49 ⟨v630, rfl, ho0, hb⟩; refine ⟨_, rfl, ?_⟩; have n0_ := Zac.mk (Kd.R_elder' (by (with_reducible repeat (first | apply Kd.R_alloc | apply Kd.R_drewN | apply Kd.R_drew)); exact HO_5.out) (Kd.R_base ho0) hb); have n1_ := Zac.mk (Kd.R_elder' (by (with_reducible repeat (first | apply Kd.R_alloc | apply Kd.R_drewN | apply Kd.R_drew)); exact HO_8.out) (Kd.R_base ho0) hb); have n2_ := Zac.mk (Kd.R_lower (Kd.R_new' (Kd.R_new' ho0 (Kd.R_lt (by (with_reducible repeat (first | apply Kd.R_alloc | apply Kd.R_drewN | apply Kd.R_drew)); exact HO_5.out))) (Kd.R_lt (by (with_reducible repeat (first | apply Kd.R_alloc | apply Kd.R_drewN | apply Kd.R_drew)); exact HO_8.out))) (Zaw (by repeat (first | (with_reducible first | exact HB.out | apply Zae | apply Zab | apply Zad) | exact HB.out)))); have n3_ := Zac.mk (Zay (by repeat (first | (with_reducible first | exact HB.out | apply Zae | apply Zab | apply Zad) | exact HB.out)) hb); clear HO_5; clear HO_8; clear HB; have HO_5 := n0_; have HO_8 := n1_; have HO631 := n2_; have HB := n3_; clear n0_ n1_ n2_ n3_; (try clear hb); (try clear hb2); (try clear hk); (try clear hi); (try clear ho0); obtain ⟨Ao50, co50, eo50⟩ := Kd.R_slice HO631.out; subst eo50) | ((with_reducible refine Za0 (f := 36) rfl ?_); refine goesL_ (some 78) rfl rfl Try.func36 (by kernel_rfl) rfl #[.slice Ao50 t629.length co50, .int .i64 a1] rfl (by (try simp only [List.map_toArray, List.map_cons, List.map_nil]); first | done | rfl | (simp only [List.length_drop, List.length_take]; rfl)) ?_; (with_reducible refine (Zao.calls kj25 _ _ t629 a1 t632 t633 _ ?side1 ?side2 A45.out).mono ?_); (case side1 => repeat (first | exact (Kd.R_reads' HO631.out).2.2 | (with_reducible refine Kd.C_alloc ?_ _) | (with_reducible refine Kd.C_drewN ?_ _) | (with_reducible refine Kd.C_drew ?_))); (case side2 => exact (Kd.R_reads' HO631.out).2.1); rintro e w51 ⟨v634, rfl, ho0, hb⟩; refine ⟨_, rfl, ?_⟩; have n0_ := Zac.mk (Kd.R_elder' (by (with_reducible repeat (first | apply Kd.R_alloc | apply Kd.R_drewN | apply Kd.R_drew)); exact HO_5.out) (Kd.R_base ho0) hb); have n1_ := Zac.mk (Kd.R_elder' (by (with_reducible repeat (first | apply Kd.R_alloc | apply Kd.R_drewN | apply Kd.R_drew)); exact HO_8.out) (Kd.R_base ho0) hb); have n2_ := Zac.mk (Kd.R_elder' (by (with_reducible repeat (first | apply Kd.R_alloc | apply Kd.R_drewN | apply Kd.R_drew)); exact HO631.out) (Kd.R_base ho0) hb); have n3_ := Zac.mk (Kd.R_lower (Kd.R_new' (Kd.R_new' (Kd.R_new' ho0 (Kd.R_lt (by (with_reducible repeat (first | apply Kd.R_alloc | apply Kd.R_drewN | apply Kd.R_drew)); exact HO_5.out))) (Kd.R_lt (by (with_reducible repeat (first | apply Kd.R_alloc | apply Kd.R_drewN | apply Kd.R_drew)); exact HO_8.out))) (Kd.R_lt (by (with_reducible repeat (first | apply Kd.R_alloc | apply Kd.R_drewN | apply Kd.R_drew)); exact HO631.out))) (Zaw (by repeat (first | (with_reducible first | exact HB.out | apply Zae | apply Zab | apply Zad) | exact HB.out)))); have n4_ := Zac.mk (Zay (by repeat (first | (with_reducible first | exact HB.out | apply Zae | apply Zab | apply Zad) | exact HB.out)) hb); clear HO_5; clear HO_8; clear HO631; clear HB; have HO_5 := n0_; have HO_8 := n1_; have HO631 := n2_; have HO635 := n3_; have HB := n4_; clear n0_ n1_ n2_ n3_ n4_; (try clear hb); (try clear hb2); (try clear hk); (try clear hi); (try clear ho0)))
           (try simp only [Act.put, List.setIfInBounds_toArray, List.set_cons_zero, List.set_cons_succ])
           go_cut [89] (fun v89 wc => ∃ (kq : Nat) (x89_45 : Bool), v89 = .bool x89_45 ∧ Zac (laws_FnExactPercentsOf.j2 kq t627 t626 x89_45 = some r) ∧ Zac (kq ≤ kj25) ∧ Zac (Kd.R (Kd.int .i64) 2 wc w.heap.size (fun _ => True) (.slice Ao47 t614.length co47) t627) ∧ Zac (Below w.heap.size w wc))
           case first =>
            have H := HC46.out
            clear HC46
            replace H := Option.bind_eq_some_iff.mp H
            obtain ⟨t636, A520, H⟩ := H
            replace H : (if t636 = true then (laws_FnExactPercentsOf.j2 kj25 t627 t626 (t633 != t608)) else (laws_FnExactPercentsOf.j2 kj25 t627 t626 true)) = some r := H
            have A52 := Zac.mk A520
            clear A520
            by_cases c53 : t636 = true
            ·subst c53
             have H1 : (laws_FnExactPercentsOf.j2 kj25 t627 t626 (t633 != t608)) = some r := by rw [if_pos rfl] at H; exact H
             clear H
             have H := H1
             clear H1
             have H' := Zac.mk H
             clear H
             obtain ⟨Ao54, co54, eo54⟩ := Kd.R_slice HO635.out
             subst eo54
             obtain ⟨Ao55, co55, eo55⟩ := Kd.R_slice HO_5.out
             subst eo55
             as_aux_lemma =>
              go_wp2_with (first | ((with_reducible refine Za0 (f := 15) rfl ?_); refine goesL_ (some 83) rfl rfl Try.func15 (by kernel_rfl) rfl #[.slice Ao54 t632.length co54, .slice Ao55 t607.length co55] rfl (by (try simp only [List.map_toArray, List.map_cons, List.map_nil]); first | done | rfl | (simp only [List.length_drop, List.length_take]; rfl)) ?_; (with_reducible refine (Za4.calls kj25 _ _ t632 _ _ t607 true _ ?side1 ?side2 ?side3 ?side4 A52.out).mono ?_); (case side1 => repeat (first | exact (Kd.R_reads' HO635.out).2.2 | (with_reducible refine Kd.C_alloc ?_ _) | (with_reducible refine Kd.C_drewN ?_ _) | (with_reducible refine Kd.C_drew ?_))); (case side2 => exact (Kd.R_reads' HO635.out).2.1); (case side3 => repeat (first | exact (Kd.R_reads' HO_5.out).2.2 | (with_reducible refine Kd.C_alloc ?_ _) | (with_reducible refine Kd.C_drewN ?_ _) | (with_reducible refine Kd.C_drew ?_))); (case side4 => exact (Kd.R_reads' HO_5.out).2.1); rintro e w' ⟨rfl, ⟨nd, rfl⟩⟩; refine ⟨_, rfl, ?_⟩))
              go_meet
              case rel => exact ⟨_, ((t633 != t608)), (by first | rfl | (simp; done) | (simp [*]; done)), H', ⟨by have := HJ7.out; have := HJ25.out; first | omega | exact Nat.le_refl _⟩, ⟨by (with_reducible repeat (first | apply Kd.R_alloc | apply Kd.R_drewN | apply Kd.R_drew)); exact Kd.R_mono HO_8.out (fun _ hk => trivial)⟩, ⟨by repeat (first | (with_reducible first | exact HB.out | apply Zae | apply Zab | apply Zad) | exact HB.out)⟩⟩
            ·replace c53 := Bool.eq_false_iff.mpr c53
             subst c53
             have H1 : (laws_FnExactPercentsOf.j2 kj25 t627 t626 true) = some r := by rw [if_neg (show ¬ (false = true) by decide)] at H; exact H
             clear H
             have H := H1
             clear H1
             have H' := Zac.mk H
             clear H
             obtain ⟨Ao56, co56, eo56⟩ := Kd.R_slice HO635.out
             subst eo56
             obtain ⟨Ao57, co57, eo57⟩ := Kd.R_slice HO_5.out
             subst eo57
             as_aux_lemma =>
              go_wp2_with (first | ((with_reducible refine Za0 (f := 15) rfl ?_); refine goesL_ (some 83) rfl rfl Try.func15 (by kernel_rfl) rfl #[.slice Ao56 t632.length co56, .slice Ao57 t607.length co57] rfl (by (try simp only [List.map_toArray, List.map_cons, List.map_nil]); first | done | rfl | (simp only [List.length_drop, List.length_take]; rfl)) ?_; (with_reducible refine (Za4.calls kj25 _ _ t632 _ _ t607 false _ ?side1 ?side2 ?side3 ?side4 A52.out).mono ?_); (case side1 => repeat (first | exact (Kd.R_reads' HO635.out).2.2 | (with_reducible refine Kd.C_alloc ?_ _) | (with_reducible refine Kd.C_drewN ?_ _) | (with_reducible refine Kd.C_drew ?_))); (case side2 => exact (Kd.R_reads' HO635.out).2.1); (case side3 => repeat (first | exact (Kd.R_reads' HO_5.out).2.2 | (with_reducible refine Kd.C_alloc ?_ _) | (with_reducible refine Kd.C_drewN ?_ _) | (with_reducible refine Kd.C_drew ?_))); (case side4 => exact (Kd.R_reads' HO_5.out).2.1); rintro e w' ⟨rfl, ⟨nd, rfl⟩⟩; refine ⟨_, rfl, ?_⟩))
              go_meet
              case rel => exact ⟨_, (true), (by first | rfl | (simp; done) | (simp [*]; done)), H', ⟨by have := HJ7.out; have := HJ25.out; first | omega | exact Nat.le_refl _⟩, ⟨by (with_reducible repeat (first | apply Kd.R_alloc | apply Kd.R_drewN | apply Kd.R_drew)); exact Kd.R_mono HO_8.out (fun _ hk => trivial)⟩, ⟨by repeat (first | (with_reducible first | exact HB.out | apply Zae | apply Zab | apply Zad) | exact HB.out)⟩⟩
           case rest =>
            clear HC46
            try clear c1
            try clear c2
            try clear p2
            try clear c3
            try clear c3b0
            try clear c3b1
            try clear c4
            try clear c5
            try clear c6
            try clear c15
            try clear c16
            try clear c18
            try clear c19
            try clear c21
            try clear c24
            try clear c30
            try clear c30b0
            try clear c32
            try clear c36
            try clear c37
            try clear c39
            try clear c40
            try clear c40b0
            try clear c43
            try clear c43b0
            try clear c43b1
            try clear c53
            try clear p2
            obtain ⟨kq, x89_45, rfl, HA, HJ45, HO_8, HB⟩ := hcut
            have hl8_45 := (Kd.R_reads' HO_8.out).1
            rw [hl8_45] at HO_8
            (try simp only [hl8_45])
            cases kq with
            | zero => exact absurd HA.out (by simp [laws_FnExactPercentsOf.j2])
            | succ kj45 =>
             have H := HA.out
             clear HA
             simp only [laws_FnExactPercentsOf.j2] at H
             by_cases c58 : x89_45 = true
             ·subst c58
              have H1 : (some false) = some r := by rw [if_pos rfl] at H; exact H
              clear H
              have H := H1
              clear H1
              obtain rfl := Option.some.inj H
              as_aux_lemma =>
               go_wp2
               go_ret
               exact ⟨by first | rfl | (simp [Zat, Zau] <;> rfl) | (simp [*, Zat, Zau] <;> rfl), by repeat (first | (with_reducible first | exact HB.out | apply Zae | apply Zab | apply Zad) | exact HB.out)⟩
             ·replace c58 := Bool.eq_false_iff.mpr c58
              subst c58
              have H1 : ((Zbb.f kj45 t627 1).bind fun t637 => (if t637 < 0 then (some false) else (if t637 = t626 then (some true) else (some false)))) = some r := by rw [if_neg (show ¬ (false = true) by decide)] at H; exact H
              clear H
              have H := H1
              clear H1
              replace H := Option.bind_eq_some_iff.mp H
              obtain ⟨t637, A590, H⟩ := H
              replace H : (if t637 < 0 then (some false) else (if t637 = t626 then (some true) else (some false))) = some r := H
              have A59 := Zac.mk A590
              clear A590
              by_cases c60 : t637 < 0
              ·rw [if_pos c60] at H
               have c60b0 : decide (t637 < 0) = true := decide_eq_true c60
               clear c60
               obtain rfl := Option.some.inj H
               as_aux_lemma =>
                go_wp2_with (first | ((with_reducible refine Za0 (f := 19) rfl ?_); refine goesL_ (some 92) rfl rfl Try.func19 (by kernel_rfl) rfl #[.slice Ao47 t627.length co47, .int .i64 1] rfl (by (try simp only [List.map_toArray, List.map_cons, List.map_nil]); first | done | rfl | (simp only [List.length_drop, List.length_take]; rfl)) ?_; (with_reducible refine (Zbb.calls kj45 _ _ t627 1 t637 _ ?side1 ?side2 A59.out).mono ?_); (case side1 => repeat (first | exact (Kd.R_reads' HO_8.out).2.2 | (with_reducible refine Kd.C_alloc ?_ _) | (with_reducible refine Kd.C_drewN ?_ _) | (with_reducible refine Kd.C_drew ?_))); (case side2 => exact (Kd.R_reads' HO_8.out).2.1); rintro e w' ⟨rfl, ⟨nd, rfl⟩⟩; refine ⟨_, rfl, ?_⟩))
                go_ret
                exact ⟨by first | rfl | (simp [Zat, Zau] <;> rfl) | (simp [*, Zat, Zau] <;> rfl), by repeat (first | (with_reducible first | exact HB.out | apply Zae | apply Zab | apply Zad) | exact HB.out)⟩
              ·rw [if_neg c60] at H
               have c60b0 : decide (t637 < 0) = false := decide_eq_false c60
               clear c60
               by_cases c61 : t637 = t626
               ·rw [if_pos c61] at H
                have c61b0 : (t637 == t626) = true := beq_iff_eq.mpr c61
                have c61b1 : (t637 != t626) = false := bne_eq_false_iff_eq.mpr c61
                clear c61
                obtain rfl := Option.some.inj H
                as_aux_lemma =>
                 go_wp2_with (first | ((with_reducible refine Za0 (f := 19) rfl ?_); refine goesL_ (some 92) rfl rfl Try.func19 (by kernel_rfl) rfl #[.slice Ao47 t627.length co47, .int .i64 1] rfl (by (try simp only [List.map_toArray, List.map_cons, List.map_nil]); first | done | rfl | (simp only [List.length_drop, List.length_take]; rfl)) ?_; (with_reducible refine (Zbb.calls kj45 _ _ t627 1 t637 _ ?side1 ?side2 A59.out).mono ?_); (case side1 => repeat (first | exact (Kd.R_reads' HO_8.out).2.2 | (with_reducible refine Kd.C_alloc ?_ _) | (with_reducible refine Kd.C_drewN ?_ _) | (with_reducible refine Kd.C_drew ?_))); (case side2 => exact (Kd.R_reads' HO_8.out).2.1); rintro e w' ⟨rfl, ⟨nd, rfl⟩⟩; refine ⟨_, rfl, ?_⟩))
                 go_ret
                 exact ⟨by first | rfl | (simp [Zat, Zau] <;> rfl) | (simp [*, Zat, Zau] <;> rfl), by repeat (first | (with_reducible first | exact HB.out | apply Zae | apply Zab | apply Zad) | exact HB.out)⟩
               ·rw [if_neg c61] at H
                have c61b0 : (t637 == t626) = false := beq_eq_false_iff_ne.mpr c61
                have c61b1 : (t637 != t626) = true := bne_iff_ne.mpr c61
                obtain rfl := Option.some.inj H
                as_aux_lemma =>
                 go_wp2_with (first | ((with_reducible refine Za0 (f := 19) rfl ?_); refine goesL_ (some 92) rfl rfl Try.func19 (by kernel_rfl) rfl #[.slice Ao47 t627.length co47, .int .i64 1] rfl (by (try simp only [List.map_toArray, List.map_cons, List.map_nil]); first | done | rfl | (simp only [List.length_drop, List.length_take]; rfl)) ?_; (with_reducible refine (Zbb.calls kj45 _ _ t627 1 t637 _ ?side1 ?side2 A59.out).mono ?_); (case side1 => repeat (first | exact (Kd.R_reads' HO_8.out).2.2 | (with_reducible refine Kd.C_alloc ?_ _) | (with_reducible refine Kd.C_drewN ?_ _) | (with_reducible refine Kd.C_drew ?_))); (case side2 => exact (Kd.R_reads' HO_8.out).2.1); rintro e w' ⟨rfl, ⟨nd, rfl⟩⟩; refine ⟨_, rfl, ?_⟩))
                 go_ret
                 exact ⟨by first | rfl | (simp [Zat, Zau] <;> rfl) | (simp [*, Zat, Zau] <;> rfl), by repeat (first | (with_reducible first | exact HB.out | apply Zae | apply Zab | apply Zad) | exact HB.out)⟩
          ·rw [if_neg c43] at H
           have c43b0 : (t628 == t626) = false := beq_eq_false_iff_ne.mpr c43
           have c43b1 : (t628 != t626) = true := bne_iff_ne.mpr c43
           obtain rfl := Option.some.inj H
           obtain ⟨Ao62, co62, eo62⟩ := Kd.R_slice HO_8.out
           subst eo62
           as_aux_lemma =>
            go_wp2_with (first | ((with_reducible refine Za0 (f := 18) rfl ?_); refine goesL_ (some 65) rfl rfl Try.func18 (by kernel_rfl) rfl #[.slice Ao62 t614.length co62, .int .i64 1] rfl (by (try simp only [List.map_toArray, List.map_cons, List.map_nil]); first | done | rfl | (simp only [List.length_drop, List.length_take]; rfl)) ?_; (with_reducible refine (Za8.calls kj25 (fun k_ => some k_ = (.slice Ao62 t614.length co62 : Value).ownBlock) (.slice Ao62 t614.length co62) t614 1 t626 t627 w _ ?side1 ?side2 A38.out).mono ?_); (case side1 => repeat (first | (with_reducible first | exact HB.out | apply Zae | apply Zab | apply Zad) | exact HB.out)); (case side2 => exact Kd.R_tight rfl HO_8.out); rintro e w63 ⟨rfl, hy0, hb, hkp⟩; refine ⟨_, rfl, ?_⟩; have n0_ := Zac.mk (Kd.R_mono (ok' := fun k_ => some k_ ≠ (.slice Ao62 t614.length co62 : Value).ownBlock) (Kd.R_keptB (HO_5.out) hkp (fun k_ hk_ hs_ => (hk_) hs_)) (fun k_ hk_ => hk_.1)); have n1_ := Zac.mk (Kd.R_reok rfl hy0 (fun k_ e_ => HO_8.out.1 k_ e_)); have n2_ := Zac.mk (hb); clear HO_5; clear HO_8; clear HB; have HO_5 := n0_; have HO_8 := n1_; have HB := n2_; clear n0_ n1_ n2_; (try clear hb); (try clear hkp); (try clear hy0)) | ((with_reducible refine Za0 (f := 19) rfl ?_); refine goesL_ (some 68) rfl rfl Try.func19 (by kernel_rfl) rfl #[.slice Ao62 t627.length co62, .int .i64 1] rfl (by (try simp only [List.map_toArray, List.map_cons, List.map_nil]); first | done | (rw [show t627.length = t614.length from (Kd.R_reads' HO_8.out).1.symm] <;> rfl) | rfl | (simp only [List.length_drop, List.length_take]; rfl)) ?_; (with_reducible refine (Zbb.calls kj25 _ _ t627 1 t628 _ ?side1 ?side2 A39.out).mono ?_); (case side1 => repeat (first | exact (Kd.R_reads' HO_8.out).2.2 | (with_reducible refine Kd.C_alloc ?_ _) | (with_reducible refine Kd.C_drewN ?_ _) | (with_reducible refine Kd.C_drew ?_))); (case side2 => rw [show t627.length = t614.length from (Kd.R_reads' HO_8.out).1.symm]; exact (Kd.R_reads' HO_8.out).2.1); rintro e w' ⟨rfl, ⟨nd, rfl⟩⟩; refine ⟨_, rfl, ?_⟩))
            go_ret
            exact ⟨by first | rfl | (simp [Zat, Zau] <;> rfl) | (simp [*, Zat, Zau] <;> rfl), by repeat (first | (with_reducible first | exact HB.out | apply Zae | apply Zab | apply Zad) | exact HB.out)⟩
     ·replace c24 := Bool.eq_false_iff.mpr c24
      subst c24
      have H1 : (some false) = some r := by rw [if_neg (show ¬ (false = true) by decide)] at H; exact H
      clear H
      have H := H1
      clear H1
      obtain rfl := Option.some.inj H
      as_aux_lemma =>
       go_wp2_with (first | ((with_reducible refine Za0 (f := 40) rfl ?_); refine goesL_ (some 44) rfl rfl Try.func40 (by kernel_rfl) rfl #[.slice A0 l0.length c0] rfl (by (try simp only [List.map_toArray, List.map_cons, List.map_nil]); first | done | rfl | (simp only [List.length_drop, List.length_take]; rfl)) ?_; (with_reducible refine (Za7.calls kj7 _ _ l0 t619 _ ?side1 ?side2 A22.out).mono ?_); (case side1 => repeat (first | exact (Kd.C_below HR0.out HB.out) | (with_reducible refine Kd.C_alloc ?_ _) | (with_reducible refine Kd.C_drewN ?_ _) | (with_reducible refine Kd.C_drew ?_))); (case side2 => exact HC0.out); rintro e w64 ⟨v620, rfl, ho0, hb⟩; refine ⟨_, rfl, ?_⟩; have n0_ := Zac.mk (Kd.R_elder' (by (with_reducible repeat (first | apply Kd.R_alloc | apply Kd.R_drewN | apply Kd.R_drew)); exact HO_5.out) (Kd.R_base ho0) hb); have n1_ := Zac.mk (Kd.R_elder' (by (with_reducible repeat (first | apply Kd.R_alloc | apply Kd.R_drewN | apply Kd.R_drew)); exact HO_7.out) (Kd.R_base ho0) hb); have n2_ := Zac.mk (Kd.R_elder' (by (with_reducible repeat (first | apply Kd.R_alloc | apply Kd.R_drewN | apply Kd.R_drew)); exact HO_8.out) (Kd.R_base ho0) hb); have n3_ := Zac.mk (Kd.R_lower (Kd.R_new' (Kd.R_new' (Kd.R_new' ho0 (Kd.R_lt (by (with_reducible repeat (first | apply Kd.R_alloc | apply Kd.R_drewN | apply Kd.R_drew)); exact HO_5.out))) (Kd.R_lt (by (with_reducible repeat (first | apply Kd.R_alloc | apply Kd.R_drewN | apply Kd.R_drew)); exact HO_7.out))) (Kd.R_lt (by (with_reducible repeat (first | apply Kd.R_alloc | apply Kd.R_drewN | apply Kd.R_drew)); exact HO_8.out))) (Zaw (by repeat (first | (with_reducible first | exact HB.out | apply Zae | apply Zab | apply Zad) | exact HB.out)))); have n4_ := Zac.mk (Zay (by repeat (first | (with_reducible first | exact HB.out | apply Zae | apply Zab | apply Zad) | exact HB.out)) hb); clear HO_5; clear HO_7; clear HO_8; clear HB; have HO_5 := n0_; have HO_7 := n1_; have HO_8 := n2_; have HO621 := n3_; have HB := n4_; clear n0_ n1_ n2_ n3_ n4_; (try clear hb); (try clear hb2); (try clear hk); (try clear hi); (try clear ho0); obtain ⟨Ao65, co65, eo65⟩ := Kd.R_slice HO621.out; subst eo65) | ((with_reducible refine Za0 (f := 15) rfl ?_); refine goesL_ (some 45) rfl rfl Try.func15 (by kernel_rfl) rfl #[.slice Ao13 t611.length co13, .slice Ao65 t619.length co65] rfl (by (try simp only [List.map_toArray, List.map_cons, List.map_nil]); first | done | rfl | (simp only [List.length_drop, List.length_take]; rfl)) ?_; (with_reducible refine (Za4.calls kj7 _ _ t611 _ _ t619 false _ ?side1 ?side2 ?side3 ?side4 A23.out).mono ?_); (case side1 => repeat (first | exact (Kd.R_reads' HO_7.out).2.2 | (with_reducible refine Kd.C_alloc ?_ _) | (with_reducible refine Kd.C_drewN ?_ _) | (with_reducible refine Kd.C_drew ?_))); (case side2 => exact (Kd.R_reads' HO_7.out).2.1); (case side3 => repeat (first | exact (Kd.R_reads' HO621.out).2.2 | (with_reducible refine Kd.C_alloc ?_ _) | (with_reducible refine Kd.C_drewN ?_ _) | (with_reducible refine Kd.C_drew ?_))); (case side4 => exact (Kd.R_reads' HO621.out).2.1); rintro e w' ⟨rfl, ⟨nd, rfl⟩⟩; refine ⟨_, rfl, ?_⟩))
       go_ret
       exact ⟨by first | rfl | (simp [Zat, Zau] <;> rfl) | (simp [*, Zat, Zau] <;> rfl), by repeat (first | (with_reducible first | exact HB.out | apply Zae | apply Zab | apply Zad) | exact HB.out)⟩
def laws_FnExactPercentsOf.Pure : Prop := ∀ (l0 : List Int) (a1 : Int), l0.length ≤ maxLen → l0.length * 8 ≤ 140737488351232 → (∀ x ∈ l0, (Lit.int .i64 x).wf = true) → (Lit.int .i64 a1).wf = true → ∃ k, laws_FnExactPercentsOf.f k l0 a1 = some true
theorem laws_FnExactPercentsOf.walk (P : laws_FnExactPercentsOf.Pure) (A0 : Option Addr) (len0 cap0 : Nat) (z0 : List Int) (a1 : Int) (w : World) (w0 : (A0 = none ∧ len0 = 0 ∧ cap0 = 0 ∧ z0 = []) ∨ ∃ x, A0 = some x ∧ len0 ≤ cap0 ∧ cap0 ≤ maxLen ∧ z0.length = cap0 ∧ (∀ i, i < z0.length → w.cell? (x.add i) = some (.int .i64 (z0.getD i 0))) ∧ ∀ n ∈ z0, (Lit.int .i64 n).wf = true) (y0 : len0 * 8 ≤ 140737488351232) (w1 : (Lit.int .i64 a1).wf = true) :
  Calls Try.prog 6 #[.slice A0 len0 cap0, .int .i64 a1] w fun e w' => e = .returned (.bool true) ∧ Below w.heap.size w w' := by
 obtain ⟨l0, rfl, hr0, hm0, hw0, hc0⟩ := ReadsInt.ofRowC w0
 obtain ⟨k, h⟩ := P l0 a1 hm0 y0 hw0 w1
 refine (laws_FnExactPercentsOf.calls k _ _ l0 a1 true w (Kd.C_of_reads (d := (0 : Int)) (h1 := fun _ => rfl) hr0) hc0 h).mono ?_
 rintro e w' ⟨rfl, hd⟩
 exact ⟨rfl, hd⟩
end Go.Proofs.Ytgmmfdilfpkbmaa.P
