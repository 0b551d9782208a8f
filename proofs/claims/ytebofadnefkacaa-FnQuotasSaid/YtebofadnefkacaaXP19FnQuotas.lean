import Derived.Test.YtebofadnefkacaaXP0FnQuotas
import Derived.Test.YtebofadnefkacaaXP2FnQuotas
import Derived.Test.YtebofadnefkacaaXP3FnQuotas
import Derived.Test.YtebofadnefkacaaXP11FnQuotas
import Derived.Test.YtebofadnefkacaaXP12FnQuotas
import Derived.Test.YtebofadnefkacaaXP17FnQuotas
import Derived.Test.YtebofadnefkacaaXP18FnQuotas
namespace Go.Proofs.Ytebofadnefkacaa.P
open Go.RowKit Go.Proofs.YtebofadnefkacaaW.PrintWords Go.Proofs.YtebofadnefkacaaW.PrintLast Go.Proofs.YtebofadnefkacaaW.PrintMore
attribute [local go_sem] max2_int min2_int max_two min_two max_three min_three max_four min_four
set_option linter.unusedVariables false
set_option linter.unusedSimpArgs false
mutual
def Zak.j0 : Nat → List Int → List Int → Bool → Option (List Int × Bool)
 | 0, _, _, _ => none
 | k + 1, x0, x1, x20 => if x20 = true then (some (([] : List Int), false)) else ((impl_sum.f k x1).bind fun t608 => ((impl_quotas.f k x0 t608).bind fun bt609 => ((impl_Values_floors.f k bt609.1 bt609.2).bind fun t614 => ((impl_Values_ceilings.f k bt609.1 bt609.2).bind fun t617 => (Zak.l0 k t614 t617 (([] : List Int)) x1 (x1.length : Int) 0)))))
def Zak.l0 : Nat → List Int → List Int → List Int → List Int → Int → Int → Option (List Int × Bool)
 | 0, _, _, _, _, _, _ => none
 | k + 1, x7, x8, x9, x30, x31, x32 => if x32 < x31 then (if 0 ≤ x32 then (if x32 < (x30.length : Int) then (if x32 < (x7.length : Int) then (if x32 < (x8.length : Int) then ((Zaz.f (rd x30 x32) (rd x7 x32) (rd x8 x32)).bind fun t626 => (if t626 = true then (Zak.l0 k x7 x8 x9 x30 x31 (wrap64 (x32 + 1))) else (if x9.length < 17592186044416 then (Zak.l0 k x7 x8 (x9 ++ [x32]) x30 x31 (wrap64 (x32 + 1))) else (none)))) else (none)) else (none)) else (none)) else (none)) else (some (x9, true))
end
def Zak.f (k : Nat) (l0 : List Int) (l1 : List Int) : Option (List Int × Bool) := (impl_ValidVotes.f k l0).bind fun t606 => (if t606 = true then ((impl_isSeats.f k l0 l1).bind fun t607 => (Zak.j0 k l0 l1 (!t607))) else (Zak.j0 k l0 l1 true))
def Zak.T9 : Bool × List (List Nat × List Nat) := (true, [([], []), ([], []), ([], []), ([1, 2], [1, 2]), ([3], [3]), ([], []), ([], []), ([5, 6], [5, 6]), ([7], [7]), ([0, 4, 8], [0, 4, 8]), ([9], [9])])
def Zak.B9 : List Nat := [0, 0, 0, 6, 14, 0, 0, 96, 224, 511, 1023]
theorem Zak.tab9 : rtab .any (opsOf Try.f40 9) = Zak.T9 := by kernel_rfl
theorem Zak.bits9 : waitsOk Zak.T9.2 Zak.B9 = true := by kernel_rfl
set_option maxHeartbeats 8000000 in
set_option maxRecDepth 100000 in
theorem Zak.calls (k : Nat) (A0 : Option Addr) (c0 : Nat) (l0 : List Int) (A1 : Option Addr) (c1 : Nat) (l1 : List Int) (r1 : List Int) (r2 : Bool) (w : World) (hr0 : Kd.C (Kd.int .i64) w A0 l0.length l0) (hc0 : l0.length ≤ c0) (hr1 : Kd.C (Kd.int .i64) w A1 l1.length l1) (hc1 : l1.length ≤ c1) (h : Zak.f k l0 l1 = some (r1, r2)) :
  Calls Try.prog 40 #[.slice A0 l0.length c0, .slice A1 l1.length c1] w fun e w' => ∃ v0_ : Value, e = .returned (.tuple #[v0_, .bool r2]) ∧ Kd.R (Kd.int .i64) 2 w' w.heap.size (fun _ => True) v0_ r1 ∧ Below w.heap.size w w' := by
 have hu29 := Try.underlying29
 have HR0 := Zab.mk hr0
 have HC0 := Zab.mk hc0
 clear hr0 hc0
 have HR1 := Zab.mk hr1
 have HC1 := Zab.mk hc1
 clear hr1 hc1
 have HB := Zab.mk (Below.refl w.heap.size w)
 have H : ((impl_ValidVotes.f k l0).bind fun t606 => (if t606 = true then ((impl_isSeats.f k l0 l1).bind fun t607 => (Zak.j0 k l0 l1 (!t607))) else (Zak.j0 k l0 l1 true))) = some (r1, r2) := h
 clear h
 have HC3 := Zab.mk H
 clear H
 go_enter Try.func40, Try.ntmps40
 go_upto_region 1 with (fail)
 go_cut [20] (fun v20 wc => ∃ (kq : Nat) (x20_2 : Bool), v20 = .bool x20_2 ∧ Zab (Zak.j0 kq l0 l1 x20_2 = some (r1, r2)) ∧ Zab (kq ≤ k) ∧ Zab (Below w.heap.size w wc))
 case first =>
  have H := HC3.out
  clear HC3
  replace H := Option.bind_eq_some_iff.mp H
  obtain ⟨t606, A40, H⟩ := H
  replace H : (if t606 = true then ((impl_isSeats.f k l0 l1).bind fun t607 => (Zak.j0 k l0 l1 (!t607))) else (Zak.j0 k l0 l1 true)) = some (r1, r2) := H
  have A4 := Zab.mk A40
  clear A40
  by_cases c5 : t606 = true
  ·subst c5
   have H1 : ((impl_isSeats.f k l0 l1).bind fun t607 => (Zak.j0 k l0 l1 (!t607))) = some (r1, r2) := by rw [if_pos rfl] at H; exact H
   clear H
   have H := H1
   clear H1
   replace H := Option.bind_eq_some_iff.mp H
   obtain ⟨t607, A60, H⟩ := H
   replace H : (Zak.j0 k l0 l1 (!t607)) = some (r1, r2) := H
   have A6 := Zab.mk A60
   clear A60
   have H' := Zab.mk H
   clear H
   go_wp2_with (first | ((with_reducible refine Zav (f := 70) rfl ?_); refine goesL_ (some 13) rfl rfl Try.func70 (by kernel_rfl) rfl #[.slice A0 l0.length c0] rfl (by (try simp only [List.map_toArray, List.map_cons, List.map_nil]); first | done | rfl | (simp only [List.length_drop, List.length_take]; rfl)) ?_; (with_reducible refine (impl_ValidVotes.calls k _ _ l0 true _ ?side1 ?side2 A4.out).mono ?_); (case side1 => repeat (first | exact (Kd.C_below HR0.out HB.out) | (with_reducible refine Kd.C_alloc ?_ _) | (with_reducible refine Kd.C_drewN ?_ _) | (with_reducible refine Kd.C_drew ?_))); (case side2 => exact HC0.out); rintro e w7 ⟨rfl, hb⟩; refine ⟨_, rfl, ?_⟩; have n0_ := Zab.mk (Zaq (by repeat (first | (with_reducible first | exact HB.out | apply Zad | apply Zaa | apply Zac) | exact HB.out)) hb); clear HB; have HB := n0_; clear n0_; (try clear hb); (try clear hb2); (try clear hk); (try clear hi)) | (go_at_call 83; (with_reducible refine (impl_isSeats.calls k _ _ l0 _ _ l1 t607 _ ?side1 ?side2 ?side3 ?side4 A6.out).mono ?_); (case side1 => repeat (first | exact (Kd.C_below HR0.out HB.out) | (with_reducible refine Kd.C_alloc ?_ _) | (with_reducible refine Kd.C_drewN ?_ _) | (with_reducible refine Kd.C_drew ?_))); (case side2 => exact HC0.out); (case side3 => repeat (first | exact (Kd.C_below HR1.out HB.out) | (with_reducible refine Kd.C_alloc ?_ _) | (with_reducible refine Kd.C_drewN ?_ _) | (with_reducible refine Kd.C_drew ?_))); (case side4 => exact HC1.out); rintro e w8 ⟨rfl, hb⟩; have n0_ := Zab.mk (Zaq (by repeat (first | (with_reducible first | exact HB.out | apply Zad | apply Zaa | apply Zac) | exact HB.out)) hb); clear HB; have HB := n0_; clear n0_; (try clear hb); (try clear hb2); (try clear hk); (try clear hi)))
   go_meet
   case rel => exact ⟨_, (!t607), (by first | rfl | (simp; done) | (simp [*]; done) | (simp [IntWalk.i64_left, *]; done)), H', ⟨by first | omega | exact Nat.le_refl _⟩, ⟨by repeat (first | (with_reducible first | exact HB.out | apply Zad | apply Zaa | apply Zac) | exact HB.out)⟩⟩
  ·replace c5 := Bool.eq_false_iff.mpr c5
   subst c5
   have H1 : (Zak.j0 k l0 l1 true) = some (r1, r2) := by rw [if_neg (show ¬ (false = true) by decide)] at H; exact H
   clear H
   have H := H1
   clear H1
   have H' := Zab.mk H
   clear H
   go_wp2_with (first | ((with_reducible refine Zav (f := 70) rfl ?_); refine goesL_ (some 13) rfl rfl Try.func70 (by kernel_rfl) rfl #[.slice A0 l0.length c0] rfl (by (try simp only [List.map_toArray, List.map_cons, List.map_nil]); first | done | rfl | (simp only [List.length_drop, List.length_take]; rfl)) ?_; (with_reducible refine (impl_ValidVotes.calls k _ _ l0 false _ ?side1 ?side2 A4.out).mono ?_); (case side1 => repeat (first | exact (Kd.C_below HR0.out HB.out) | (with_reducible refine Kd.C_alloc ?_ _) | (with_reducible refine Kd.C_drewN ?_ _) | (with_reducible refine Kd.C_drew ?_))); (case side2 => exact HC0.out); rintro e w9 ⟨rfl, hb⟩; refine ⟨_, rfl, ?_⟩; have n0_ := Zab.mk (Zaq (by repeat (first | (with_reducible first | exact HB.out | apply Zad | apply Zaa | apply Zac) | exact HB.out)) hb); clear HB; have HB := n0_; clear n0_; (try clear hb); (try clear hb2); (try clear hk); (try clear hi)))
   go_meet
   case rel => exact ⟨_, (true), (by first | rfl | (simp; done) | (simp [*]; done) | (simp [IntWalk.i64_left, *]; done)), H', ⟨by first | omega | exact Nat.le_refl _⟩, ⟨by repeat (first | (with_reducible first | exact HB.out | apply Zad | apply Zaa | apply Zac) | exact HB.out)⟩⟩
 case rest =>
  clear HC3
  try clear c1
  try clear p2
  try clear c4
  try clear c5
  try clear c7
  obtain ⟨kq, x20_2, rfl, HA, HJ2, HB⟩ := hcut
  cases kq with
  | zero => exact absurd HA.out (by simp [Zak.j0])
  | succ kj2 =>
   have H := HA.out
   clear HA
   simp only [Zak.j0] at H
   by_cases c10 : x20_2 = true
   ·subst c10
    have H1 : (some (([] : List Int), false)) = some (r1, r2) := by rw [if_pos rfl] at H; exact H
    clear H
    have H := H1
    clear H1
    simp only [Option.some.injEq, Prod.mk.injEq] at H
    obtain ⟨rfl, rfl⟩ := H
    go_wp2
    go_ret2
    exact ⟨_, by first | rfl | (simp [Zal, Zam] <;> rfl) | (simp [*, Zal, Zam] <;> rfl), by first | exact Kd.R_nil _ _ _ _ _ | exact Kd.N_nil _ _ _ _ _ | exact Kd.V_nil _ _ _ _ _ | exact Kd.Q_nil _ _ _ _ _ | exact Kd.S_nil _ _ _ _ _, by repeat (first | (with_reducible first | exact HB.out | apply Zad | apply Zaa | apply Zac) | exact HB.out)⟩
   ·replace c10 := Bool.eq_false_iff.mpr c10
    subst c10
    have H1 : ((impl_sum.f kj2 l1).bind fun t608 => ((impl_quotas.f kj2 l0 t608).bind fun bt609 => ((impl_Values_floors.f kj2 bt609.1 bt609.2).bind fun t614 => ((impl_Values_ceilings.f kj2 bt609.1 bt609.2).bind fun t617 => (Zak.l0 kj2 t614 t617 (([] : List Int)) l1 (l1.length : Int) 0))))) = some (r1, r2) := by rw [if_neg (show ¬ (false = true) by decide)] at H; exact H
    clear H
    have H := H1
    clear H1
    replace H := Option.bind_eq_some_iff.mp H
    obtain ⟨t608, A110, H⟩ := H
    replace H : ((impl_quotas.f kj2 l0 t608).bind fun bt609 => ((impl_Values_floors.f kj2 bt609.1 bt609.2).bind fun t614 => ((impl_Values_ceilings.f kj2 bt609.1 bt609.2).bind fun t617 => (Zak.l0 kj2 t614 t617 (([] : List Int)) l1 (l1.length : Int) 0)))) = some (r1, r2) := H
    have A11 := Zab.mk A110
    clear A110
    replace H := Option.bind_eq_some_iff.mp H
    obtain ⟨⟨t609, t610⟩, A120, H⟩ := H
    replace H : ((impl_Values_floors.f kj2 t609 t610).bind fun t614 => ((impl_Values_ceilings.f kj2 t609 t610).bind fun t617 => (Zak.l0 kj2 t614 t617 (([] : List Int)) l1 (l1.length : Int) 0))) = some (r1, r2) := H
    have A12 := Zab.mk A120
    clear A120
    replace H := Option.bind_eq_some_iff.mp H
    obtain ⟨t614, A130, H⟩ := H
    replace H : ((impl_Values_ceilings.f kj2 t609 t610).bind fun t617 => (Zak.l0 kj2 t614 t617 (([] : List Int)) l1 (l1.length : Int) 0)) = some (r1, r2) := H
    have A13 := Zab.mk A130
    clear A130
    replace H := Option.bind_eq_some_iff.mp H
    obtain ⟨t617, A140, H⟩ := H
    replace H : (Zak.l0 kj2 t614 t617 (([] : List Int)) l1 (l1.length : Int) 0) = some (r1, r2) := H
    have A14 := Zab.mk A140
    clear A140
    obtain ⟨y620, hy620⟩ : ∃ y_ : List Int, y_ = (([] : List Int)) := ⟨_, rfl⟩
    replace H : (Zak.l0 kj2 t614 t617 y620 l1 (l1.length : Int) 0) = some (r1, r2) := by first | (rw [hy620]; with_reducible exact H) | (have H2_ := (Option.bind_some _ _).symm.trans H; rw [hy620]; with_reducible exact H2_) | (have H2_ := (Option.bind_some _ _).symm.trans H; with_reducible exact H2_) | with_reducible exact H | (rw [hy620]; exact H) | exact H
    have Ny620 := Zab.mk hy620
    clear hy620
    have H' := Zab.mk H
    clear H
    try go_wp2_with (first | ((with_reducible refine Zav (f := 84) rfl ?_); refine goesL_ (some 23) rfl rfl Try.func84 (by kernel_rfl) rfl #[.slice A1 l1.length c1] rfl (by (try simp only [List.map_toArray, List.map_cons, List.map_nil]); first | done | rfl | (simp only [List.length_drop, List.length_take]; rfl)) ?_; (with_reducible refine (impl_sum.calls kj2 _ _ l1 t608 _ ?side1 ?side2 A11.out).mono ?_); (case side1 => repeat (first | exact (Kd.C_below HR1.out HB.out) | (with_reducible refine Kd.C_alloc ?_ _) | (with_reducible refine Kd.C_drewN ?_ _) | (with_reducible refine Kd.C_drew ?_))); (case side2 => exact HC1.out); rintro e w' ⟨rfl, ⟨nd, rfl⟩⟩; refine ⟨_, rfl, ?_⟩; (try (rw [drewN_self wc]; generalize hq_ : World.drewN wc _ = wc; have n0_ : Zab (Below w.heap.size w wc) := ⟨by rw [← hq_]; exact (by repeat (first | (with_reducible first | exact HB.out | apply Zad | apply Zaa | apply Zac) | exact HB.out))⟩; clear HB hq_; have HB := n0_; clear n0_))) | ((with_reducible refine Zav (f := 80) rfl ?_); refine goesL_ (some 24) rfl rfl Try.func80 (by kernel_rfl) rfl #[.slice A0 l0.length c0, .int .i64 t608] rfl (by (try simp only [List.map_toArray, List.map_cons, List.map_nil]); first | done | rfl | (simp only [List.length_drop, List.length_take]; rfl)) ?_; (with_reducible refine (impl_quotas.calls kj2 _ _ l0 t608 t609 t610 _ ?side1 ?side2 A12.out).mono ?_); (case side1 => repeat (first | exact (Kd.C_below HR0.out HB.out) | (with_reducible refine Kd.C_alloc ?_ _) | (with_reducible refine Kd.C_drewN ?_ _) | (with_reducible refine Kd.C_drew ?_))); (case side2 => exact HC0.out); rintro e w15 ⟨v611, rfl, ho0, hb⟩; refine ⟨_, rfl, ?_⟩; have n0_ := Zab.mk (Kd.R_lower ho0 (Zap (by repeat (first | (with_reducible first | exact HB.out | apply Zad | apply Zaa | apply Zac) | exact HB.out)))); have n1_ := Zab.mk (Zaq (by repeat (first | (with_reducible first | exact HB.out | apply Zad | apply Zaa | apply Zac) | exact HB.out)) hb); clear HB; have HO612 := n0_; have HB := n1_; clear n0_ n1_; (try clear hb); (try clear hb2); (try clear hk); (try clear hi); (try clear ho0)) | ((with_reducible refine gate_dst (N := 6) rfl ?_); refine box_event ?hg (N := 6) ?hd (cs := #[.int .i64 0, .slice none 0 0]) (t := 29) ?hr ?_; (case hd => rfl); (case hg => rfl); (case hr => first | (go_simp; done) | (go_simp; rfl)); intro gb613 hg w16 hbox hb; have n0_ := Zab.mk (Kd.R_below (by (with_reducible repeat (first | apply Kd.R_alloc | apply Kd.R_drewN | apply Kd.R_drew)); exact HO612.out) hb); have n1_ := Zab.mk (Zaq (by repeat (first | (with_reducible first | exact HB.out | apply Zad | apply Zaa | apply Zac) | exact HB.out)) hb); have n2_ := Zab.mk (hbox); have n3_ := Zab.mk ((by rw [hg]; exact (Zap (by repeat (first | (with_reducible first | exact HB.out | apply Zad | apply Zaa | apply Zac) | exact HB.out))) : w.heap.size ≤ gb613)); have n4_ := Zab.mk ((by rw [hg]; exact (Zap (by repeat (first | (with_reducible first | exact HB.out | apply Zad | apply Zaa | apply Zac) | exact HB.out))) : w.heap.size ≤ gb613)); clear HO612; clear HB; have HO612 := n0_; have HB := n1_; have BK613 := n2_; have GW613 := n3_; have GE613 := n4_; clear n0_ n1_ n2_ n3_ n4_; clear hb hbox hg; have hcz17_0 : w16.cell? ⟨gb613, 0, none⟩ = some (.int .i64 0) := (Zat BK613.out 0).trans rfl; have hcz17_1 : w16.cell? ⟨gb613, 1, none⟩ = some (.slice none 0 0) := (Zat BK613.out 1).trans rfl; have hfz17_0 := Zao BK613.out 0; have hfz17_1 := Zao BK613.out 1; obtain ⟨Ao18, co18, eo18⟩ := Kd.R_slice HO612.out; subst eo18))
    have n0_ : Zab (Kd.R (Kd.int .i64) 2 ((w16.setCell ⟨gb613, 0, none⟩ (.int .i64 t609)).setCell ⟨gb613, 1, none⟩ (.slice Ao18 t610.length co18)) w.heap.size (fun _ => True) (.slice Ao18 t610.length co18) t610) := ⟨by (with_reducible repeat (first | apply Kd.R_alloc | apply Kd.R_drewN | apply Kd.R_drew)); exact Kd.R_mono (Kd.R_far (p := ⟨gb613, 1, none⟩) (Kd.R_far (p := ⟨gb613, 0, none⟩) (Kd.R_types HO612.out BK613.out (by decide)) (fun _ hk => hk.2) (.int .i64 t609)) (fun _ hk => hk.2) (.slice Ao18 t610.length co18)) (fun _ hk => trivial)⟩
    have n1_ : Zab (((w16.setCell ⟨gb613, 0, none⟩ (.int .i64 t609)).setCell ⟨gb613, 1, none⟩ (.slice Ao18 t610.length co18)).heap[gb613]? = some (.cells #[.int .i64 t609, .slice Ao18 t610.length co18] 29 (0, 0))) := ⟨by (with_reducible repeat (first | refine Zag ?_ _ | refine Zai ?_ | refine Zah ?_ _)); refine blk_put (cs := #[.int .i64 t609, .slice none 0 0]) ?_ 1 _ rfl; (with_reducible repeat (first | refine Zag ?_ _ | refine Zai ?_ | refine Zah ?_ _)); refine blk_put (cs := #[.int .i64 0, .slice none 0 0]) ?_ 0 _ rfl; (with_reducible repeat (first | refine Zag ?_ _ | refine Zai ?_ | refine Zah ?_ _)); exact BK613.out⟩
    have n2_ : Zab (Below w.heap.size w ((w16.setCell ⟨gb613, 0, none⟩ (.int .i64 t609)).setCell ⟨gb613, 1, none⟩ (.slice Ao18 t610.length co18))) := ⟨by repeat (first | (with_reducible first | exact HB.out | apply Zad | apply Zaa | apply Zac | refine Zaf ?_ GE613.out) | exact HB.out)⟩
    (try clear HO612)
    (try clear BK613)
    (try clear HB)
    generalize ((w16.setCell ⟨gb613, 0, none⟩ (.int .i64 t609)).setCell ⟨gb613, 1, none⟩ (.slice Ao18 t610.length co18)) = w19 at n0_ n1_ n2_ ⊢
    have HO612 := n0_
    have BK613 := n1_
    have HB := n2_
    clear n0_ n1_ n2_
    have n0_ := Zab.mk (Kd.R_drew HO612.out)
    have n1_ := Zab.mk (Zai BK613.out)
    have n2_ := Zab.mk (Zac HB.out)
    clear HO612
    clear BK613
    clear HB
    have HO612 := n0_
    have BK613 := n1_
    have HB := n2_
    clear n0_ n1_ n2_
    refine start_ (n := 6) (S := fun w' => w'.cell? ⟨gb613, 0, none⟩ = some (.int .i64 t609) ∧ w'.cell? ⟨gb613, 1, none⟩ = some (.slice Ao18 t610.length co18)) (ds := []) #[false, false, false, false, false, false] (by kernel_rfl) rfl rfl ⟨(Zat BK613.out 0).trans rfl, (Zat BK613.out 1).trans rfl⟩ (fun hHeld => ?_)
    generalize w19.drew = w20 at HO612 BK613 HB hHeld ⊢
    refine take_ (i := 0) (N := some 25) (v := ?_) (a' := ?_) #[true, false, false, false, false, false] rfl rfl (by kernel_rfl) (fun _ _ _ h => h) (Or.inl ⟨by rfl, ?_⟩) hHeld ?_ ?_
    rotate_left
    ·rintro w' ⟨s0, s1⟩
     go_simp
     with_reducible rfl
    rotate_left
    ·simp only [Act.put, ZA, ZB, ZC, i64_w, i32_w]
     rfl
    refine take_ (i := 2) (N := some 27) (v := ?_) (a' := ?_) #[true, false, true, false, false, false] rfl rfl (by kernel_rfl) (fun _ _ _ h => h) (Or.inl ⟨by rfl, ?_⟩) hHeld ?_ ?_
    rotate_left
    ·rintro w' ⟨s0, s1⟩
     go_simp
     with_reducible rfl
    rotate_left
    ·simp only [Act.put, ZA, ZB, ZC, i64_w, i32_w]
     rfl
    refine one_ (i := 1) (N := some 26) #[true, true, true, false, false, false] rfl rfl (by kernel_rfl) (by decide) (fun K hK => ?_)
    refine goes_ Try.func81 (by kernel_rfl) rfl #[.agg #[.int .i64 t609, .slice Ao18 t610.length co18]] (by rfl) rfl rfl (by (try simp only [List.map_toArray, List.map_cons, List.map_nil]); first | done | rfl | (simp only [List.length_drop, List.length_take]; rfl)) ?_
    with_reducible refine (impl_Values_floors.calls kj2 t609 _ _ t610 t614 _ ?side1 ?side2 A13.out).mono ?_
    (case side1 => repeat (first | exact (Kd.R_reads' HO612.out).2.2 | (with_reducible refine Kd.C_alloc ?_ _) | (with_reducible refine Kd.C_drewN ?_ _) | (with_reducible refine Kd.C_drew ?_)))
    (case side2 => exact (Kd.R_reads' HO612.out).2.1)
    rintro e w21 ⟨v615, rfl, ho0, hb⟩
    refine ⟨_, rfl, ?_⟩
    have n0_ := Zab.mk (Kd.R_elder' (by (with_reducible repeat (first | apply Kd.R_alloc | apply Kd.R_drewN | apply Kd.R_drew)); exact HO612.out) (Kd.R_base ho0) hb)
    have n1_ := Zab.mk (Kd.R_lower (Kd.R_new' ho0 (Kd.R_lt (by (with_reducible repeat (first | apply Kd.R_alloc | apply Kd.R_drewN | apply Kd.R_drew)); exact HO612.out))) (Zap (by repeat (first | (with_reducible first | exact HB.out | apply Zad | apply Zaa | apply Zac | refine Zaf ?_ GE613.out) | exact HB.out))))
    have n2_ := Zab.mk (Zax (g := gb613) (o := .cells #[.int .i64 t609, .slice Ao18 t610.length co18] 29 (0, 0)) (by (with_reducible repeat (first | refine Zag ?_ _ | refine Zai ?_ | refine Zah ?_ _)); exact BK613.out) hb)
    have n3_ := Zab.mk (Zaq (by repeat (first | (with_reducible first | exact HB.out | apply Zad | apply Zaa | apply Zac | refine Zaf ?_ GE613.out) | exact HB.out)) hb)
    clear HO612
    clear BK613
    clear HB
    have HO612 := n0_
    have HO616 := n1_
    have BK613 := n2_
    have HB := n3_
    clear n0_ n1_ n2_ n3_
    (try clear hb)
    (try clear hb2)
    (try clear hk)
    (try clear hi)
    (try clear ho0)
    refine hK.out _ _ ⟨(Zat BK613.out 0).trans rfl, (Zat BK613.out 1).trans rfl⟩ (fun hHeld => ?_)
    clear hK K
    refine norm_ (a' := ?_) ?_ ?_
    rotate_left
    ·show Act.put _ (some 26) _ = _
     simp only [Act.put, ZA, ZB, ZC, i64_w, i32_w]
     rfl
    refine one_ (i := 3) (N := some 28) #[true, true, true, true, false, false] rfl rfl (by kernel_rfl) (by decide) (fun K hK => ?_)
    refine goes_ Try.func82 (by kernel_rfl) rfl #[.agg #[.int .i64 t609, .slice Ao18 t610.length co18]] (by rfl) rfl rfl (by (try simp only [List.map_toArray, List.map_cons, List.map_nil]); first | done | rfl | (simp only [List.length_drop, List.length_take]; rfl)) ?_
    with_reducible refine (impl_Values_ceilings.calls kj2 t609 _ _ t610 t617 _ ?side1 ?side2 A14.out).mono ?_
    (case side1 => repeat (first | exact (Kd.R_reads' HO612.out).2.2 | (with_reducible refine Kd.C_alloc ?_ _) | (with_reducible refine Kd.C_drewN ?_ _) | (with_reducible refine Kd.C_drew ?_)))
    (case side2 => exact (Kd.R_reads' HO612.out).2.1)
    rintro e w22 ⟨v618, rfl, ho0, hb⟩
    refine ⟨_, rfl, ?_⟩
    have n0_ := Zab.mk (Kd.R_elder' (by (with_reducible repeat (first | apply Kd.R_alloc | apply Kd.R_drewN | apply Kd.R_drew)); exact HO612.out) (Kd.R_base ho0) hb)
    have n1_ := Zab.mk (Kd.R_elder' (by (with_reducible repeat (first | apply Kd.R_alloc | apply Kd.R_drewN | apply Kd.R_drew)); exact HO616.out) (Kd.R_base ho0) hb)
    have n2_ := Zab.mk (Kd.R_lower (Kd.R_new' (Kd.R_new' ho0 (Kd.R_lt (by (with_reducible repeat (first | apply Kd.R_alloc | apply Kd.R_drewN | apply Kd.R_drew)); exact HO612.out))) (Kd.R_lt (by (with_reducible repeat (first | apply Kd.R_alloc | apply Kd.R_drewN | apply Kd.R_drew)); exact HO616.out))) (Zap (by repeat (first | (with_reducible first | exact HB.out | apply Zad | apply Zaa | apply Zac | refine Zaf ?_ GE613.out) | exact HB.out))))
    have n3_ := Zab.mk (Zax (g := gb613) (o := .cells #[.int .i64 t609, .slice Ao18 t610.length co18] 29 (0, 0)) (by (with_reducible repeat (first | refine Zag ?_ _ | refine Zai ?_ | refine Zah ?_ _)); exact BK613.out) hb)
    have n4_ := Zab.mk (Zaq (by repeat (first | (with_reducible first | exact HB.out | apply Zad | apply Zaa | apply Zac | refine Zaf ?_ GE613.out) | exact HB.out)) hb)
    clear HO612
    clear HO616
    clear BK613
    clear HB
    have HO612 := n0_
    have HO616 := n1_
    have HO619 := n2_
    have BK613 := n3_
    have HB := n4_
    clear n0_ n1_ n2_ n3_ n4_
    (try clear hb)
    (try clear hb2)
    (try clear hk)
    (try clear hi)
    (try clear ho0)
    refine hK.out _ _ ⟨(Zat BK613.out 0).trans rfl, (Zat BK613.out 1).trans rfl⟩ (fun hHeld => ?_)
    clear hK K
    refine norm_ (a' := ?_) ?_ ?_
    rotate_left
    ·show Act.put _ (some 28) _ = _
     simp only [Act.put, ZA, ZB, ZC, i64_w, i32_w]
     rfl
    refine pure_ (i := 4) (N := some 7) (v := ?_) (a' := ?_) #[true, true, true, true, true, false] rfl rfl (by kernel_rfl) (fun _ _ _ h => h) (Or.inl ⟨by rfl, ?_⟩) ?_ ?_
    rotate_left
    ·intro w'
     go_simp
     with_reducible rfl
    rotate_left
    ·simp only [Act.put, ZA, ZB, ZC, i64_w, i32_w]
     rfl
    refine pure_ (i := 5) (N := some 8) (v := ?_) (a' := ?_) #[true, true, true, true, true, true] rfl rfl (by kernel_rfl) (fun _ _ _ h => h) (Or.inl ⟨by rfl, ?_⟩) ?_ ?_
    rotate_left
    ·intro w'
     go_simp
     with_reducible rfl
    rotate_left
    ·simp only [Act.put, ZA, ZB, ZC, i64_w, i32_w]
     rfl
    refine done_ (by kernel_rfl) ?_
    try go_wp2_with (first | ((with_reducible refine gate_dst (N := 29) rfl ?_); refine Kd.R_lit (Kd.int .i64) _ 2 ?hg (N := 29) ?hd (xs := ([] : List Int)) (inner := []) (ok := fun _ => True) (okp := fun _ => True) ?hr ?hp (fun _ hk => hk) trivial (Below.refl _ _) (Nat.le_refl _) (by simp) ?_; (case hd => rfl); (case hg => rfl); (case hr => first | (go_simp; done) | (go_simp; rfl)); (case hp => exact (Reps.none _ _)); intro v621 w23 ho24 hb hg_ hnew_; clear hg_ hnew_; (first | rw [← Ny620.out] at ho24 | (simp only [Int.reduceToNat] at ho24; rw [← Ny620.out] at ho24)); have n0_ := Zab.mk (Kd.R_elder' (by (with_reducible repeat (first | apply Kd.R_alloc | apply Kd.R_drewN | apply Kd.R_drew)); exact HO612.out) (Kd.R_base ho24) hb); have n1_ := Zab.mk (Kd.R_elder' (by (with_reducible repeat (first | apply Kd.R_alloc | apply Kd.R_drewN | apply Kd.R_drew)); exact HO616.out) (Kd.R_base ho24) hb); have n2_ := Zab.mk (Kd.R_elder' (by (with_reducible repeat (first | apply Kd.R_alloc | apply Kd.R_drewN | apply Kd.R_drew)); exact HO619.out) (Kd.R_base ho24) hb); have n3_ := Zab.mk (Kd.R_lower (Kd.R_new' (Kd.R_new' (Kd.R_new' ho24 (Kd.R_lt (by (with_reducible repeat (first | apply Kd.R_alloc | apply Kd.R_drewN | apply Kd.R_drew)); exact HO612.out))) (Kd.R_lt (by (with_reducible repeat (first | apply Kd.R_alloc | apply Kd.R_drewN | apply Kd.R_drew)); exact HO616.out))) (Kd.R_lt (by (with_reducible repeat (first | apply Kd.R_alloc | apply Kd.R_drewN | apply Kd.R_drew)); exact HO619.out))) (Zap (by repeat (first | (with_reducible first | exact HB.out | apply Zad | apply Zaa | apply Zac | refine Zaf ?_ GE613.out) | exact HB.out)))); have n4_ := Zab.mk (Zax (g := gb613) (o := .cells #[.int .i64 t609, .slice Ao18 t610.length co18] 29 (0, 0)) (by (with_reducible repeat (first | refine Zag ?_ _ | refine Zai ?_ | refine Zah ?_ _)); exact BK613.out) hb); have n5_ := Zab.mk (Zaq (by repeat (first | (with_reducible first | exact HB.out | apply Zad | apply Zaa | apply Zac | refine Zaf ?_ GE613.out) | exact HB.out)) hb); clear HO612; clear HO616; clear HO619; clear BK613; clear HB; have HO612 := n0_; have HO616 := n1_; have HO619 := n2_; have HO622 := n3_; have BK613 := n4_; have HB := n5_; clear n0_ n1_ n2_ n3_ n4_ n5_; clear hb ho24))
    go_loopg [9, 32] kj2 (fun kq v9 v32 w' => ∃ (x9_2 : List Int) (x32_2 : Int), v32 = .int .i64 x32_2 ∧ Zab (Zak.l0 kq t614 t617 x9_2 l1 (l1.length : Int) x32_2 = some (r1, r2)) ∧ Zab (kq ≤ kj2) ∧ Zab (Kd.R (Kd.int .i64) 2 w' w.heap.size (fun k_ => some k_ ≠ (v618 : Value).ownBlock ∧ some k_ ≠ (v9 : Value).ownBlock ∧ some k_ ≠ ((.slice Ao18 t610.length co18) : Value).ownBlock) v615 t614) ∧ Zab (Kd.R (Kd.int .i64) 2 w' w.heap.size (fun k_ => some k_ ≠ (v615 : Value).ownBlock ∧ some k_ ≠ (v9 : Value).ownBlock ∧ some k_ ≠ ((.slice Ao18 t610.length co18) : Value).ownBlock) v618 t617) ∧ Zab (Kd.R (Kd.int .i64) 2 w' w.heap.size (fun k_ => some k_ ≠ (v615 : Value).ownBlock ∧ some k_ ≠ (v618 : Value).ownBlock ∧ some k_ ≠ ((.slice Ao18 t610.length co18) : Value).ownBlock) v9 x9_2) ∧ Zab (Kd.R (Kd.int .i64) 2 w' w.heap.size (fun k_ => some k_ ≠ (v615 : Value).ownBlock ∧ some k_ ≠ (v618 : Value).ownBlock ∧ some k_ ≠ (v9 : Value).ownBlock) (.slice Ao18 t610.length co18) t610) ∧ Zab (w'.heap[gb613]? = some (.cells #[.int .i64 t609, (.slice Ao18 t610.length co18)] 29 (0, 0))) ∧ Zab (Below w.heap.size w w'))
    case atStart => exact ⟨(y620), (0), (by first | rfl | (simp; done) | (simp [*]; done) | (simp [IntWalk.i64_left, *]; done)), H', ⟨Nat.le_refl _⟩, ⟨by (with_reducible repeat (first | apply Kd.R_alloc | apply Kd.R_drewN | apply Kd.R_drew)); exact Kd.R_mono HO616.out (fun _ hk => ⟨hk.1.2, ⟨hk.2, hk.1.1.2⟩⟩)⟩, ⟨by (with_reducible repeat (first | apply Kd.R_alloc | apply Kd.R_drewN | apply Kd.R_drew)); exact Kd.R_mono HO619.out (fun _ hk => ⟨hk.1.2, ⟨hk.2, hk.1.1.2⟩⟩)⟩, ⟨by (with_reducible repeat (first | apply Kd.R_alloc | apply Kd.R_drewN | apply Kd.R_drew)); exact Kd.R_mono HO622.out (fun _ hk => ⟨hk.1.2, ⟨hk.2, hk.1.1.2⟩⟩)⟩, ⟨by (with_reducible repeat (first | apply Kd.R_alloc | apply Kd.R_drewN | apply Kd.R_drew)); exact Kd.R_mono HO612.out (fun _ hk => ⟨hk.1.1.2, ⟨hk.1.2, hk.2⟩⟩)⟩, ⟨by (with_reducible repeat (first | refine Zag ?_ _ | refine Zai ?_ | refine Zah ?_ _)); exact BK613.out⟩, ⟨by repeat (first | (with_reducible first | exact HB.out | apply Zad | apply Zaa | apply Zac | refine Zaf ?_ GE613.out) | exact HB.out)⟩⟩
    case round =>
     clear H'
     try clear c1
     try clear p2
     try clear c4
     try clear c5
     try clear c7
     try clear c8
     try clear c10
     try clear hcz17_0
     try clear hcz17_1
     try clear hfz17_0
     try clear hfz17_1
     try clear p2
     obtain ⟨x9_2, x32_2, rfl, HA, HK2, HO_7, HO_8, HO_9, HO_614001, BK613, HB⟩ := hrel
     cases gk with
     | zero => exact absurd HA.out (by simp [Zak.l0])
     | succ k2 =>
      have H := HA.out
      clear HA
      simp only [Zak.l0] at H
      by_cases c25 : x32_2 < (l1.length : Int)
      ·rw [if_pos c25] at H
       have c25b0 : decide (x32_2 < (l1.length : Int)) = true := decide_eq_true c25
       clear c25
       by_cases c26 : 0 ≤ x32_2
       ·rw [if_pos c26] at H
        have c26b0 : decide (0 ≤ x32_2) = true := decide_eq_true c26
        clear c26
        by_cases c27 : x32_2 < (l1.length : Int)
        ·rw [if_pos c27] at H
         have c27b0 : decide (x32_2 < (l1.length : Int)) = true := decide_eq_true c27
         clear c27
         by_cases c28 : x32_2 < (t614.length : Int)
         ·rw [if_pos c28] at H
          have c28b0 : decide (x32_2 < (t614.length : Int)) = true := decide_eq_true c28
          clear c28
          by_cases c29 : x32_2 < (t617.length : Int)
          ·rw [if_pos c29] at H
           have c29b0 : decide (x32_2 < (t617.length : Int)) = true := decide_eq_true c29
           clear c29
           replace H := Option.bind_eq_some_iff.mp H
           obtain ⟨t626, A300, H⟩ := H
           replace H : (if t626 = true then (Zak.l0 k2 t614 t617 x9_2 l1 (l1.length : Int) (wrap64 (x32_2 + 1))) else (if x9_2.length < 17592186044416 then (Zak.l0 k2 t614 t617 (x9_2 ++ [x32_2]) l1 (l1.length : Int) (wrap64 (x32_2 + 1))) else (none))) = some (r1, r2) := H
           have A30 := Zab.mk A300
           clear A300
           by_cases c31 : t626 = true
           ·subst c31
            have H1 : (Zak.l0 k2 t614 t617 x9_2 l1 (l1.length : Int) (wrap64 (x32_2 + 1))) = some (r1, r2) := by rw [if_pos rfl] at H; exact H
            clear H
            have H := H1
            clear H1
            have H' := Zab.mk H
            clear H
            have p623 : 0 ≤ (x32_2 : Int) := of_decide_eq_true (by first | (with_reducible assumption) | assumption)
            have q623 : x32_2 < (l1.length : Int) := of_decide_eq_true (by first | (with_reducible assumption) | assumption)
            obtain ⟨ad623, e623, hx623_0⟩ := Kd.at_int HR1.out x32_2 p623 q623
            cases e623
            replace hx623_0 := (HB.out.cell (World.block_lt_of_cell? w _ hx623_0)).trans hx623_0
            replace p623 := eq_true p623
            replace q623 := eq_true q623
            try go_wp2
            have n0_ := Zab.mk (Kd.R_drew HO_7.out)
            have n1_ := Zab.mk (Kd.R_drew HO_8.out)
            have n2_ := Zab.mk (Kd.R_drew HO_9.out)
            have n3_ := Zab.mk (Kd.R_drew HO_614001.out)
            have n4_ := Zab.mk (Zai BK613.out)
            have n5_ := Zab.mk (Zac HB.out)
            clear HO_7
            clear HO_8
            clear HO_9
            clear HO_614001
            clear BK613
            clear HB
            have HO_7 := n0_
            have HO_8 := n1_
            have HO_9 := n2_
            have HO_614001 := n3_
            have BK613 := n4_
            have HB := n5_
            clear n0_ n1_ n2_ n3_ n4_ n5_
            obtain ⟨Ao33, co33, eo33⟩ := Kd.R_slice HO_7.out
            (first | subst eo33 | (injection eo33 with f1_ f2_ f3_; have f4_ := f1_.symm; have f5_ := f3_.symm; clear f1_ f2_ f3_; subst f4_; subst f5_))
            have p624 : 0 ≤ (x32_2 : Int) := of_decide_eq_true (by first | (with_reducible assumption) | assumption)
            have q624 : x32_2 < (t614.length : Int) := of_decide_eq_true (by first | (with_reducible assumption) | assumption)
            obtain ⟨ad624, e624, hx624_0⟩ := Kd.at_int (Kd.R_reads' HO_7.out).2.2 x32_2 p624 q624
            cases e624
            replace p624 := eq_true p624
            replace q624 := eq_true q624
            obtain ⟨Ao34, co34, eo34⟩ := Kd.R_slice HO_8.out
            (first | subst eo34 | (injection eo34 with f1_ f2_ f3_; have f4_ := f1_.symm; have f5_ := f3_.symm; clear f1_ f2_ f3_; subst f4_; subst f5_))
            have p625 : 0 ≤ (x32_2 : Int) := of_decide_eq_true (by first | (with_reducible assumption) | assumption)
            have q625 : x32_2 < (t617.length : Int) := of_decide_eq_true (by first | (with_reducible assumption) | assumption)
            obtain ⟨ad625, e625, hx625_0⟩ := Kd.at_int (Kd.R_reads' HO_8.out).2.2 x32_2 p625 q625
            cases e625
            replace p625 := eq_true p625
            replace q625 := eq_true q625
            refine start_ (n := 11) (S := fun w' => w'.cell? (ad624.add (x32_2).toNat) = some (.int .i64 (rd t614 x32_2)) ∧ w'.cell? (ad625.add (x32_2).toNat) = some (.int .i64 (rd t617 x32_2))) (ds := []) #[false, false, false, false, false, false, false, false, false, false, false] (by kernel_rfl) rfl rfl ⟨hx624_0, hx625_0⟩ (fun hHeld => ?_); refine with_tabW Zak.tab9 Zak.bits9 (fun HT_ HW_ => ?_)
            generalize wr.drew = w32 at HO_7 HO_8 HO_9 HO_614001 BK613 HB hx624_0 hx625_0 hHeld ⊢
            refine pure_ (i := 0) (N := some 37) (v := ?_) (a' := ?_) #[true, false, false, false, false, false, false, false, false, false, false] rfl rfl (any_of HT_.out (by kernel_rfl)) (fun _ _ _ h => h) (Or.inl ⟨by rfl, ?_⟩) ?_ ?_
            rotate_left
            ·intro w'
             go_simp
             with_reducible rfl
            rotate_left
            ·simp only [Act.put, ZA, ZB, ZC, i64_w, i32_w]
             rfl
            refine pure_ (i := 1) (N := some 38) (v := ?_) (a' := ?_) #[true, true, false, false, false, false, false, false, false, false, false] rfl rfl (any_of HT_.out (by kernel_rfl)) (fun _ _ _ h => h) (Or.inl ⟨by rfl, ?_⟩) ?_ ?_
            rotate_left
            ·intro w'
             go_simp
             with_reducible rfl
            rotate_left
            ·simp only [Act.put, ZA, ZB, ZC, i64_w, i32_w]
             rfl
            refine pure_ (i := 2) (N := some 39) (v := ?_) (a' := ?_) #[true, true, true, false, false, false, false, false, false, false, false] rfl rfl (any_of HT_.out (by kernel_rfl)) (fun _ _ _ h => h) (Or.inl ⟨by rfl, ?_⟩) ?_ ?_
            rotate_left
            ·intro w'
             go_simp
             with_reducible rfl
            rotate_left
            ·simp only [Act.put, ZA, ZB, ZC, i64_w, i32_w]
             rfl
            refine pure_ (i := 3) (N := some 40) (v := ?_) (a' := ?_) #[true, true, true, true, false, false, false, false, false, false, false] rfl rfl (any_of HT_.out (by kernel_rfl)) (fun _ _ _ h => h) (Or.inl ⟨by rfl, ?_⟩) ?_ ?_
            rotate_left
            ·intro w'
             go_simp
             with_reducible rfl
            rotate_left
            ·simp only [Act.put, ZA, ZB, ZC, i64_w, i32_w]
             rfl
            refine pure_ (i := 5) (N := some 42) (v := ?_) (a' := ?_) #[true, true, true, true, false, true, false, false, false, false, false] rfl rfl (any_of HT_.out (by kernel_rfl)) (fun _ _ _ h => h) (Or.inl ⟨by rfl, ?_⟩) ?_ ?_
            rotate_left
            ·intro w'
             go_simp
             with_reducible rfl
            rotate_left
            ·simp only [Act.put, ZA, ZB, ZC, i64_w, i32_w]
             rfl
            refine pure_ (i := 6) (N := some 43) (v := ?_) (a' := ?_) #[true, true, true, true, false, true, true, false, false, false, false] rfl rfl (any_of HT_.out (by kernel_rfl)) (fun _ _ _ h => h) (Or.inl ⟨by rfl, ?_⟩) ?_ ?_
            rotate_left
            ·intro w'
             go_simp
             with_reducible rfl
            rotate_left
            ·simp only [Act.put, ZA, ZB, ZC, i64_w, i32_w]
             rfl
            refine pure_ (i := 7) (N := some 44) (v := ?_) (a' := ?_) #[true, true, true, true, false, true, true, true, false, false, false] rfl rfl (any_of HT_.out (by kernel_rfl)) (fun _ _ _ h => h) (Or.inl ⟨by rfl, ?_⟩) ?_ ?_
            rotate_left
            ·intro w'
             go_simp
             with_reducible rfl
            rotate_left
            ·simp only [Act.put, ZA, ZB, ZC, i64_w, i32_w]
             rfl
            refine take_ (i := 4) (N := some 41) (v := ?_) (a' := ?_) #[true, true, true, true, true, true, true, true, false, false, false] rfl rfl (take_ofW HT_.out HW_.out (by kernel_rfl)) (fun _ _ _ h => h) (Or.inl ⟨by rfl, ?_⟩) hHeld ?_ ?_
            rotate_left
            ·rintro w' ⟨s0, s1⟩
             go_simp
             with_reducible rfl
            rotate_left
            ·simp only [Act.put, ZA, ZB, ZC, i64_w, i32_w]
             rfl
            refine take_ (i := 8) (N := some 45) (v := ?_) (a' := ?_) #[true, true, true, true, true, true, true, true, true, false, false] rfl rfl (take_ofW HT_.out HW_.out (by kernel_rfl)) (fun _ _ _ h => h) (Or.inl ⟨by rfl, ?_⟩) hHeld ?_ ?_
            rotate_left
            ·rintro w' ⟨s0, s1⟩
             go_simp
             with_reducible rfl
            rotate_left
            ·simp only [Act.put, ZA, ZB, ZC, i64_w, i32_w]
             rfl
            refine one_ (i := 9) (N := some 46) #[true, true, true, true, true, true, true, true, true, true, false] rfl rfl (one_of HT_.out (by kernel_rfl)) (by decide) (fun K hK => ?_)
            refine goes_ Try.func54 (by kernel_rfl) rfl #[.int .i64 (rd l1 x32_2), .int .i64 (rd t614 x32_2), .int .i64 (rd t617 x32_2)] (by rfl) rfl rfl (by (try simp only [List.map_toArray, List.map_cons, List.map_nil]); first | done | rfl | (simp only [List.length_drop, List.length_take]; rfl)) ?_
            with_reducible refine (Zaz.calls (rd l1 x32_2) (rd t614 x32_2) (rd t617 x32_2) true _ A30.out).mono ?_
            rintro e w' ⟨rfl, ⟨nd, rfl⟩⟩
            refine ⟨_, rfl, ?_⟩
            refine hK.out _ _ ⟨hHeld.1, hHeld.2⟩ (fun hHeld => ?_)
            clear hK K
            refine norm_ (a' := ?_) ?_ ?_
            rotate_left
            ·show Act.put _ (some 46) _ = _
             simp only [Act.put, ZA, ZB, ZC, i64_w, i32_w]
             rfl
            refine pure_ (i := 10) (N := some 47) (v := ?_) (a' := ?_) #[true, true, true, true, true, true, true, true, true, true, true] rfl rfl (any_of HT_.out (by kernel_rfl)) (fun _ _ _ h => h) (Or.inl ⟨by rfl, ?_⟩) ?_ ?_
            rotate_left
            ·intro w'
             go_simp
             with_reducible rfl
            rotate_left
            ·simp only [Act.put, ZA, ZB, ZC, i64_w, i32_w]
             rfl
            refine done_ (done_of HT_.out (by kernel_rfl)) ?_
            try go_wp2
            go_roundg k2
            case measure => have := HJ2.out; have := HK2.out; omega
            case rel => exact ⟨(x9_2), (wrap64 (x32_2 + 1)), (by first | rfl | (simp; done) | (simp [*]; done) | (simp [IntWalk.i64_left, *]; done)), H', ⟨by have := HJ2.out; have := HK2.out; omega⟩, ⟨by (with_reducible repeat (first | apply Kd.R_alloc | apply Kd.R_drewN | apply Kd.R_drew)); exact HO_7.out⟩, ⟨by (with_reducible repeat (first | apply Kd.R_alloc | apply Kd.R_drewN | apply Kd.R_drew)); exact HO_8.out⟩, ⟨by (with_reducible repeat (first | apply Kd.R_alloc | apply Kd.R_drewN | apply Kd.R_drew)); exact HO_9.out⟩, ⟨by (with_reducible repeat (first | apply Kd.R_alloc | apply Kd.R_drewN | apply Kd.R_drew)); exact HO_614001.out⟩, ⟨by (with_reducible repeat (first | refine Zag ?_ _ | refine Zai ?_ | refine Zah ?_ _)); exact BK613.out⟩, ⟨by repeat (first | (with_reducible first | exact HB.out | apply Zad | apply Zaa | apply Zac | refine Zaf ?_ GE613.out) | exact HB.out)⟩⟩
           ·replace c31 := Bool.eq_false_iff.mpr c31
            subst c31
            have H1 : (if x9_2.length < 17592186044416 then (Zak.l0 k2 t614 t617 (x9_2 ++ [x32_2]) l1 (l1.length : Int) (wrap64 (x32_2 + 1))) else (none)) = some (r1, r2) := by rw [if_neg (show ¬ (false = true) by decide)] at H; exact H
            clear H
            have H := H1
            clear H1
            by_cases c35 : x9_2.length < 17592186044416
            ·rw [if_pos c35] at H
             have LMc35 := Zab.mk c35
             clear c35
             obtain ⟨y627, hy627⟩ : ∃ y_ : List Int, y_ = (x9_2 ++ [x32_2]) := ⟨_, rfl⟩
             replace H : (Zak.l0 k2 t614 t617 y627 l1 (l1.length : Int) (wrap64 (x32_2 + 1))) = some (r1, r2) := by first | (rw [hy627]; with_reducible exact H) | (have H2_ := (Option.bind_some _ _).symm.trans H; rw [hy627]; with_reducible exact H2_) | (have H2_ := (Option.bind_some _ _).symm.trans H; with_reducible exact H2_) | with_reducible exact H | (rw [hy627]; exact H) | exact H
             have Ny627 := Zab.mk hy627
             clear hy627
             have H' := Zab.mk H
             clear H
             have p623 : 0 ≤ (x32_2 : Int) := of_decide_eq_true (by first | (with_reducible assumption) | assumption)
             have q623 : x32_2 < (l1.length : Int) := of_decide_eq_true (by first | (with_reducible assumption) | assumption)
             obtain ⟨ad623, e623, hx623_0⟩ := Kd.at_int HR1.out x32_2 p623 q623
             cases e623
             replace hx623_0 := (HB.out.cell (World.block_lt_of_cell? w _ hx623_0)).trans hx623_0
             replace p623 := eq_true p623
             replace q623 := eq_true q623
             try go_wp2
             have n0_ := Zab.mk (Kd.R_drew HO_7.out)
             have n1_ := Zab.mk (Kd.R_drew HO_8.out)
             have n2_ := Zab.mk (Kd.R_drew HO_9.out)
             have n3_ := Zab.mk (Kd.R_drew HO_614001.out)
             have n4_ := Zab.mk (Zai BK613.out)
             have n5_ := Zab.mk (Zac HB.out)
             clear HO_7
             clear HO_8
             clear HO_9
             clear HO_614001
             clear BK613
             clear HB
             have HO_7 := n0_
             have HO_8 := n1_
             have HO_9 := n2_
             have HO_614001 := n3_
             have BK613 := n4_
             have HB := n5_
             clear n0_ n1_ n2_ n3_ n4_ n5_
             obtain ⟨Ao37, co37, eo37⟩ := Kd.R_slice HO_7.out
             (first | subst eo37 | (injection eo37 with f1_ f2_ f3_; have f4_ := f1_.symm; have f5_ := f3_.symm; clear f1_ f2_ f3_; subst f4_; subst f5_))
             have p624 : 0 ≤ (x32_2 : Int) := of_decide_eq_true (by first | (with_reducible assumption) | assumption)
             have q624 : x32_2 < (t614.length : Int) := of_decide_eq_true (by first | (with_reducible assumption) | assumption)
             obtain ⟨ad624, e624, hx624_0⟩ := Kd.at_int (Kd.R_reads' HO_7.out).2.2 x32_2 p624 q624
             cases e624
             replace p624 := eq_true p624
             replace q624 := eq_true q624
             obtain ⟨Ao38, co38, eo38⟩ := Kd.R_slice HO_8.out
             (first | subst eo38 | (injection eo38 with f1_ f2_ f3_; have f4_ := f1_.symm; have f5_ := f3_.symm; clear f1_ f2_ f3_; subst f4_; subst f5_))
             have p625 : 0 ≤ (x32_2 : Int) := of_decide_eq_true (by first | (with_reducible assumption) | assumption)
             have q625 : x32_2 < (t617.length : Int) := of_decide_eq_true (by first | (with_reducible assumption) | assumption)
             obtain ⟨ad625, e625, hx625_0⟩ := Kd.at_int (Kd.R_reads' HO_8.out).2.2 x32_2 p625 q625
             cases e625
             replace p625 := eq_true p625
             replace q625 := eq_true q625
             refine start_ (n := 11) (S := fun w' => w'.cell? (ad624.add (x32_2).toNat) = some (.int .i64 (rd t614 x32_2)) ∧ w'.cell? (ad625.add (x32_2).toNat) = some (.int .i64 (rd t617 x32_2))) (ds := []) #[false, false, false, false, false, false, false, false, false, false, false] (by kernel_rfl) rfl rfl ⟨hx624_0, hx625_0⟩ (fun hHeld => ?_); refine with_tabW Zak.tab9 Zak.bits9 (fun HT_ HW_ => ?_)
             generalize wr.drew = w36 at HO_7 HO_8 HO_9 HO_614001 BK613 HB hx624_0 hx625_0 hHeld ⊢
             refine pure_ (i := 0) (N := some 37) (v := ?_) (a' := ?_) #[true, false, false, false, false, false, false, false, false, false, false] rfl rfl (any_of HT_.out (by kernel_rfl)) (fun _ _ _ h => h) (Or.inl ⟨by rfl, ?_⟩) ?_ ?_
             rotate_left
             ·intro w'
              go_simp
              with_reducible rfl
             rotate_left
             ·simp only [Act.put, ZA, ZB, ZC, i64_w, i32_w]
              rfl
             refine pure_ (i := 1) (N := some 38) (v := ?_) (a' := ?_) #[true, true, false, false, false, false, false, false, false, false, false] rfl rfl (any_of HT_.out (by kernel_rfl)) (fun _ _ _ h => h) (Or.inl ⟨by rfl, ?_⟩) ?_ ?_
             rotate_left
             ·intro w'
              go_simp
              with_reducible rfl
             rotate_left
             ·simp only [Act.put, ZA, ZB, ZC, i64_w, i32_w]
              rfl
             refine pure_ (i := 2) (N := some 39) (v := ?_) (a' := ?_) #[true, true, true, false, false, false, false, false, false, false, false] rfl rfl (any_of HT_.out (by kernel_rfl)) (fun _ _ _ h => h) (Or.inl ⟨by rfl, ?_⟩) ?_ ?_
             rotate_left
             ·intro w'
              go_simp
              with_reducible rfl
             rotate_left
             ·simp only [Act.put, ZA, ZB, ZC, i64_w, i32_w]
              rfl
             refine pure_ (i := 3) (N := some 40) (v := ?_) (a' := ?_) #[true, true, true, true, false, false, false, false, false, false, false] rfl rfl (any_of HT_.out (by kernel_rfl)) (fun _ _ _ h => h) (Or.inl ⟨by rfl, ?_⟩) ?_ ?_
             rotate_left
             ·intro w'
              go_simp
              with_reducible rfl
             rotate_left
             ·simp only [Act.put, ZA, ZB, ZC, i64_w, i32_w]
              rfl
             refine pure_ (i := 5) (N := some 42) (v := ?_) (a' := ?_) #[true, true, true, true, false, true, false, false, false, false, false] rfl rfl (any_of HT_.out (by kernel_rfl)) (fun _ _ _ h => h) (Or.inl ⟨by rfl, ?_⟩) ?_ ?_
             rotate_left
             ·intro w'
              go_simp
              with_reducible rfl
             rotate_left
             ·simp only [Act.put, ZA, ZB, ZC, i64_w, i32_w]
              rfl
             refine pure_ (i := 6) (N := some 43) (v := ?_) (a' := ?_) #[true, true, true, true, false, true, true, false, false, false, false] rfl rfl (any_of HT_.out (by kernel_rfl)) (fun _ _ _ h => h) (Or.inl ⟨by rfl, ?_⟩) ?_ ?_
             rotate_left
             ·intro w'
              go_simp
              with_reducible rfl
             rotate_left
             ·simp only [Act.put, ZA, ZB, ZC, i64_w, i32_w]
              rfl
             refine pure_ (i := 7) (N := some 44) (v := ?_) (a' := ?_) #[true, true, true, true, false, true, true, true, false, false, false] rfl rfl (any_of HT_.out (by kernel_rfl)) (fun _ _ _ h => h) (Or.inl ⟨by rfl, ?_⟩) ?_ ?_
             rotate_left
             ·intro w'
              go_simp
              with_reducible rfl
             rotate_left
             ·simp only [Act.put, ZA, ZB, ZC, i64_w, i32_w]
              rfl
             refine take_ (i := 4) (N := some 41) (v := ?_) (a' := ?_) #[true, true, true, true, true, true, true, true, false, false, false] rfl rfl (take_ofW HT_.out HW_.out (by kernel_rfl)) (fun _ _ _ h => h) (Or.inl ⟨by rfl, ?_⟩) hHeld ?_ ?_
             rotate_left
             ·rintro w' ⟨s0, s1⟩
              go_simp
              with_reducible rfl
             rotate_left
             ·simp only [Act.put, ZA, ZB, ZC, i64_w, i32_w]
              rfl
             refine take_ (i := 8) (N := some 45) (v := ?_) (a' := ?_) #[true, true, true, true, true, true, true, true, true, false, false] rfl rfl (take_ofW HT_.out HW_.out (by kernel_rfl)) (fun _ _ _ h => h) (Or.inl ⟨by rfl, ?_⟩) hHeld ?_ ?_
             rotate_left
             ·rintro w' ⟨s0, s1⟩
              go_simp
              with_reducible rfl
             rotate_left
             ·simp only [Act.put, ZA, ZB, ZC, i64_w, i32_w]
              rfl
             refine one_ (i := 9) (N := some 46) #[true, true, true, true, true, true, true, true, true, true, false] rfl rfl (one_of HT_.out (by kernel_rfl)) (by decide) (fun K hK => ?_)
             refine goes_ Try.func54 (by kernel_rfl) rfl #[.int .i64 (rd l1 x32_2), .int .i64 (rd t614 x32_2), .int .i64 (rd t617 x32_2)] (by rfl) rfl rfl (by (try simp only [List.map_toArray, List.map_cons, List.map_nil]); first | done | rfl | (simp only [List.length_drop, List.length_take]; rfl)) ?_
             with_reducible refine (Zaz.calls (rd l1 x32_2) (rd t614 x32_2) (rd t617 x32_2) false _ A30.out).mono ?_
             rintro e w' ⟨rfl, ⟨nd, rfl⟩⟩
             refine ⟨_, rfl, ?_⟩
             refine hK.out _ _ ⟨hHeld.1, hHeld.2⟩ (fun hHeld => ?_)
             clear hK K
             refine norm_ (a' := ?_) ?_ ?_
             rotate_left
             ·show Act.put _ (some 46) _ = _
              simp only [Act.put, ZA, ZB, ZC, i64_w, i32_w]
              rfl
             refine pure_ (i := 10) (N := some 47) (v := ?_) (a' := ?_) #[true, true, true, true, true, true, true, true, true, true, true] rfl rfl (any_of HT_.out (by kernel_rfl)) (fun _ _ _ h => h) (Or.inl ⟨by rfl, ?_⟩) ?_ ?_
             rotate_left
             ·intro w'
              go_simp
              with_reducible rfl
             rotate_left
             ·simp only [Act.put, ZA, ZB, ZC, i64_w, i32_w]
              rfl
             refine done_ (done_of HT_.out (by kernel_rfl)) ?_
             try go_wp2_with (first | ((with_reducible refine gate_builtin (b := .append) (xs := #[.tmp 48, .tmp 50]) rfl ?_); at_builtin; refine Kd.R_append (Kd.int .i64) (w0 := w) w.heap.size rfl (.tmp 48) (.tmp 50) 22 2 (.int .i64 0) 8 rfl Try.underlying22 info2 rfl (by decide) (by omega) u9 x9_2 x32_2 [.int .i64 x32_2] (fun k_ => some k_ ≠ (.slice (some ad624) t614.length co37 : Value).ownBlock ∧ some k_ ≠ (.slice (some ad625) t617.length co38 : Value).ownBlock ∧ some k_ ≠ (.slice Ao18 t610.length co18 : Value).ownBlock) (fun _ => False) rfl rfl ?aP (fun _ hk => hk.elim) ?aF ?aO ?aB ?aS ?aL ?_; (case aP => exact rfl); (case aB => exact (by repeat (first | (with_reducible first | exact HB.out | apply Zad | apply Zaa | apply Zac | refine Zaf ?_ GE613.out) | exact HB.out))); (case aF => exact (fun k_ hk => ⟨Kd.fresh' (Kd.R_lt (by (with_reducible repeat (first | apply Kd.R_alloc | apply Kd.R_drewN | apply Kd.R_drew)); exact HO_7.out)) k_ hk, Kd.fresh' (Kd.R_lt (by (with_reducible repeat (first | apply Kd.R_alloc | apply Kd.R_drewN | apply Kd.R_drew)); exact HO_8.out)) k_ hk, Kd.fresh' (Kd.R_lt (by (with_reducible repeat (first | apply Kd.R_alloc | apply Kd.R_drewN | apply Kd.R_drew)); exact HO_614001.out)) k_ hk⟩)); (case aO => exact (by (with_reducible repeat (first | apply Kd.R_alloc | apply Kd.R_drewN | apply Kd.R_drew)); exact HO_9.out)); (case aS => exact (Zap (by repeat (first | (with_reducible first | exact HB.out | apply Zad | apply Zaa | apply Zac | refine Zaf ?_ GE613.out) | exact HB.out)))); (case aL => have := LMc35.out; omega); intro v628 w39 ho hb hg hat; rw [← Ny627.out] at ho; have n0_ := Zab.mk (Kd.R_after (ok := (fun k_ => some k_ ≠ (.slice (some ad625) t617.length co38 : Value).ownBlock ∧ some k_ ≠ (.slice Ao18 t610.length co18 : Value).ownBlock)) (by (with_reducible repeat (first | apply Kd.R_alloc | apply Kd.R_drewN | apply Kd.R_drew)); exact Kd.R_mono HO_7.out (fun _ hk => ⟨⟨hk.1, hk.2.2⟩, hk.2.1⟩)) hg hat); have n1_ := Zab.mk (Kd.R_after (ok := (fun k_ => some k_ ≠ (.slice (some ad624) t614.length co37 : Value).ownBlock ∧ some k_ ≠ (.slice Ao18 t610.length co18 : Value).ownBlock)) (by (with_reducible repeat (first | apply Kd.R_alloc | apply Kd.R_drewN | apply Kd.R_drew)); exact Kd.R_mono HO_8.out (fun _ hk => ⟨⟨hk.1, hk.2.2⟩, hk.2.1⟩)) hg hat); have n2_ := Zab.mk (Kd.R_after (ok := (fun k_ => some k_ ≠ (.slice (some ad624) t614.length co37 : Value).ownBlock ∧ some k_ ≠ (.slice (some ad625) t617.length co38 : Value).ownBlock)) (by (with_reducible repeat (first | apply Kd.R_alloc | apply Kd.R_drewN | apply Kd.R_drew)); exact Kd.R_mono HO_614001.out (fun _ hk => ⟨⟨hk.1, hk.2.1⟩, hk.2.2⟩)) hg hat); have n3_ := Zab.mk (blk_grown (g := gb613) (o := .cells #[.int .i64 t609, .slice Ao18 t610.length co18] 29 (0, 0)) (by (with_reducible repeat (first | refine Zag ?_ _ | refine Zai ?_ | refine Zah ?_ _)); exact BK613.out) hg (Kd.R_ne HO_9.out BK613.out (by decide))); have n4_ := Zab.mk (hb); have n5_ := Zab.mk (ho); clear HO_7; clear HO_8; clear HO_614001; clear BK613; clear HB; clear HO_9; have HO_7 := n0_; have HO_8 := n1_; have HO_614001 := n2_; have BK613 := n3_; have HB := n4_; have HO629 := n5_; clear n0_ n1_ n2_ n3_ n4_ n5_; clear ho hb hg hat))
             go_roundg k2
             case measure => have := HJ2.out; have := HK2.out; omega
             case rel => exact ⟨(y627), (wrap64 (x32_2 + 1)), (by first | rfl | (simp; done) | (simp [*]; done) | (simp [IntWalk.i64_left, *]; done)), H', ⟨by have := HJ2.out; have := HK2.out; omega⟩, ⟨by (with_reducible repeat (first | apply Kd.R_alloc | apply Kd.R_drewN | apply Kd.R_drew)); exact Kd.R_mono HO_7.out (fun _ hk => ⟨hk.1.1, ⟨hk.2, hk.1.2⟩⟩)⟩, ⟨by (with_reducible repeat (first | apply Kd.R_alloc | apply Kd.R_drewN | apply Kd.R_drew)); exact Kd.R_mono HO_8.out (fun _ hk => ⟨hk.1.1, ⟨hk.2, hk.1.2⟩⟩)⟩, ⟨by (with_reducible repeat (first | apply Kd.R_alloc | apply Kd.R_drewN | apply Kd.R_drew)); exact HO629.out⟩, ⟨by (with_reducible repeat (first | apply Kd.R_alloc | apply Kd.R_drewN | apply Kd.R_drew)); exact Kd.R_mono HO_614001.out (fun _ hk => ⟨hk.1.1, ⟨hk.1.2, hk.2⟩⟩)⟩, ⟨by (with_reducible repeat (first | refine Zag ?_ _ | refine Zai ?_ | refine Zah ?_ _)); exact BK613.out⟩, ⟨by repeat (first | (with_reducible first | exact HB.out | apply Zad | apply Zaa | apply Zac | refine Zaf ?_ GE613.out) | exact HB.out)⟩⟩
            ·rw [if_neg c35] at H
             exact absurd H (by simp)
          ·rw [if_neg c29] at H
           exact absurd H (by simp)
         ·rw [if_neg c28] at H
          exact absurd H (by simp)
        ·rw [if_neg c27] at H
         exact absurd H (by simp)
       ·rw [if_neg c26] at H
        exact absurd H (by simp)
      ·rw [if_neg c25] at H
       have c25b0 : decide (x32_2 < (l1.length : Int)) = false := decide_eq_false c25
       clear c25
       simp only [Option.some.injEq, Prod.mk.injEq] at H
       obtain ⟨rfl, rfl⟩ := H
       go_wp2
       go_ret2
       exact ⟨_, by first | rfl | (simp [Zal, Zam] <;> rfl) | (simp [*, Zal, Zam] <;> rfl), by (with_reducible repeat (first | apply Kd.R_alloc | apply Kd.R_drewN | apply Kd.R_drew)); exact Kd.R_mono HO_9.out (fun _ hk => trivial), by repeat (first | (with_reducible first | exact HB.out | apply Zad | apply Zaa | apply Zac | refine Zaf ?_ GE613.out) | exact HB.out)⟩
end Go.Proofs.Ytebofadnefkacaa.P
