import Derived.Test.YtgmmfdilfpkbmaaXP0FnCountedBest
import Derived.Test.YtgmmfdilfpkbmaaXP6FnCountedBest
import Derived.Test.YtgmmfdilfpkbmaaXP10FnCountedBest
import Derived.Test.YtgmmfdilfpkbmaaXP17FnCountedBest
import Derived.Test.YtgmmfdilfpkbmaaXP23FnCountedBest
namespace Go.Proofs.Ytgmmfdilfpkbmaa.P
open Go.RowKit Go.Proofs.YtgmmfdilfpkbmaaW.PrintWords Go.Proofs.YtgmmfdilfpkbmaaW.PrintLast Go.Proofs.YtgmmfdilfpkbmaaW.PrintMore
attribute [local go_sem] max2_int min2_int max_two min_two max_three min_three max_four min_four
set_option linter.unusedVariables false
set_option linter.unusedSimpArgs false
def Za2.l0 : Nat → Int → Int → Int → List Int → List Int → Int → Option (Int × Bool)
 | 0, _, _, _, _, _, _ => none
 | k + 1, x9, x25, x26, x766000, x766001, x766002 => if x26 < x25 then ((impl_size_int.f x766001).bind fun t766 => (if (wrap64 (x26 + 1)) = 0 then (none) else (Za2.l0 k (wrap64 (Int.tdiv (wrap64 (x9 * (wrap64 (t766 - x26)))) (wrap64 (x26 + 1)))) x25 (wrap64 (x26 + 1)) x766000 x766001 x766002))) else (if x9 > 1000000 then (some (0, false)) else (some (x9, true)))
def Za2.f (k : Nat) (a0_0 : Int) (l0_1 : List Int) (a1 : Int) (a2 : Int) : Option (Int × Bool) := (impl_isSum.f k a0_0 l0_1 a1 a2).bind fun t753 => (if t753 = true then ((Zaz.f k a0_0 l0_1).bind fun t754 => ((impl_sum.f k t754).bind fun t757 => ((Zau.f k a0_0 l0_1 (wrap64 (a1 - t757)) a2).bind fun bt758 => (Za2.l0 k 1 bt758.2.2 0 bt758.1 bt758.2.1 bt758.2.2)))) else (some (0, false)))
def Za2.T3 : Bool × List (List Nat × List Nat) := (true, [([], []), ([], []), ([], []), ([2], [2]), ([3, 3], [3]), ([1, 4], [1, 4]), ([], []), ([0, 5, 6, 4], [0, 5, 6]), ([], []), ([8, 7, 7, 0, 1, 2, 3, 4, 5, 6, 7, 8], [7, 8])])
def Za2.B3 : List Nat := [0, 0, 0, 4, 12, 30, 0, 127, 0, 511]
theorem Za2.tab3 : rtab .any (opsOf Try.f46 3) = Za2.T3 := by kernel_rfl
theorem Za2.bits3 : waitsOk Za2.T3.2 Za2.B3 = true := by kernel_rfl
set_option maxHeartbeats 8000000 in
set_option maxRecDepth 100000 in
theorem Za2.calls (k : Nat) (a0_0 : Int) (A0_1 : Option Addr) (c0_1 : Nat) (l0_1 : List Int) (a1 : Int) (a2 : Int) (r1 : Int) (r2 : Bool) (w : World) (hr0_1 : Kd.C (Kd.int .i64) w A0_1 l0_1.length l0_1) (hc0_1 : l0_1.length ≤ c0_1) (h : Za2.f k a0_0 l0_1 a1 a2 = some (r1, r2)) :
  Calls Try.prog 46 #[.agg #[.int .i64 a0_0, .slice A0_1 l0_1.length c0_1], .int .i64 a1, .int .i64 a2] w fun e w' => e = .returned (.tuple #[.int .i64 r1, .bool r2]) ∧ Below w.heap.size w w' := by
 have hu28 := Try.underlying28
 have hu85 := Try.underlying85
 have HR0_1 := Zab.mk hr0_1
 have HC0_1 := Zab.mk hc0_1
 clear hr0_1 hc0_1
 have HB := Zab.mk (Below.refl w.heap.size w)
 have H : ((impl_isSum.f k a0_0 l0_1 a1 a2).bind fun t753 => (if t753 = true then ((Zaz.f k a0_0 l0_1).bind fun t754 => ((impl_sum.f k t754).bind fun t757 => ((Zau.f k a0_0 l0_1 (wrap64 (a1 - t757)) a2).bind fun bt758 => (Za2.l0 k 1 bt758.2.2 0 bt758.1 bt758.2.1 bt758.2.2)))) else (some (0, false)))) = some (r1, r2) := h
 clear h
 replace H := Option.bind_eq_some_iff.mp H
 obtain ⟨t753, A40, H⟩ := H
 replace H : (if t753 = true then ((Zaz.f k a0_0 l0_1).bind fun t754 => ((impl_sum.f k t754).bind fun t757 => ((Zau.f k a0_0 l0_1 (wrap64 (a1 - t757)) a2).bind fun bt758 => (Za2.l0 k 1 bt758.2.2 0 bt758.1 bt758.2.1 bt758.2.2)))) else (some (0, false))) = some (r1, r2) := H
 have A4 := Zab.mk A40
 clear A40
 by_cases c5 : t753 = true
 ·subst c5
  have H1 : ((Zaz.f k a0_0 l0_1).bind fun t754 => ((impl_sum.f k t754).bind fun t757 => ((Zau.f k a0_0 l0_1 (wrap64 (a1 - t757)) a2).bind fun bt758 => (Za2.l0 k 1 bt758.2.2 0 bt758.1 bt758.2.1 bt758.2.2)))) = some (r1, r2) := by rw [if_pos rfl] at H; exact H
  clear H
  have H := H1
  clear H1
  replace H := Option.bind_eq_some_iff.mp H
  obtain ⟨t754, A60, H⟩ := H
  replace H : ((impl_sum.f k t754).bind fun t757 => ((Zau.f k a0_0 l0_1 (wrap64 (a1 - t757)) a2).bind fun bt758 => (Za2.l0 k 1 bt758.2.2 0 bt758.1 bt758.2.1 bt758.2.2))) = some (r1, r2) := H
  have A6 := Zab.mk A60
  clear A60
  replace H := Option.bind_eq_some_iff.mp H
  obtain ⟨t757, A70, H⟩ := H
  replace H : ((Zau.f k a0_0 l0_1 (wrap64 (a1 - t757)) a2).bind fun bt758 => (Za2.l0 k 1 bt758.2.2 0 bt758.1 bt758.2.1 bt758.2.2)) = some (r1, r2) := H
  have A7 := Zab.mk A70
  clear A70
  replace H := Option.bind_eq_some_iff.mp H
  obtain ⟨⟨t758, t761, t764⟩, A80, H⟩ := H
  replace H : (Za2.l0 k 1 t764 0 t758 t761 t764) = some (r1, r2) := H
  have A8 := Zab.mk A80
  clear A80
  have H' := Zab.mk H
  clear H
  go_enter Try.func46, Try.ntmps46
  try go_wp2_with (first | ((with_reducible refine gate_dst (N := 3) rfl ?_); refine box_event ?hg (N := 3) ?hd (cs := #[.int .i64 a0_0, .slice A0_1 l0_1.length c0_1]) (t := 28) ?hr ?_; (case hd => rfl); (case hg => rfl); (case hr => first | (go_simp; done) | (go_simp; rfl)); intro gb752 hg w9 hbox hb; have n0_ := Zab.mk (Zap (by repeat (first | (with_reducible first | exact HB.out | apply Zad | apply Zaa | apply Zac) | exact HB.out)) hb); have n1_ := Zab.mk (hbox); have n2_ := Zab.mk ((by rw [hg]; exact (Zan (by repeat (first | (with_reducible first | exact HB.out | apply Zad | apply Zaa | apply Zac) | exact HB.out))) : w.heap.size ≤ gb752)); have n3_ := Zab.mk ((by rw [hg]; exact (Zan (by repeat (first | (with_reducible first | exact HB.out | apply Zad | apply Zaa | apply Zac) | exact HB.out))) : w.heap.size ≤ gb752)); clear HB; have HB := n0_; have BK752 := n1_; have GW752 := n2_; have GE752 := n3_; clear n0_ n1_ n2_ n3_; clear hb hbox hg; have hcz10_0 : w9.cell? ⟨gb752, 0, none⟩ = some (.int .i64 a0_0) := (Zaj BK752.out 0).trans rfl; have hcz10_1 : w9.cell? ⟨gb752, 1, none⟩ = some (.slice A0_1 l0_1.length c0_1) := (Zaj BK752.out 1).trans rfl; have hfz10_0 := Zak BK752.out 0; have hfz10_1 := Zak BK752.out 1) | ((with_reducible refine Zay (f := 88) rfl ?_); refine goesL_ (some 14) rfl rfl Try.func88 (by kernel_rfl) rfl #[.agg #[.int .i64 a0_0, .slice A0_1 l0_1.length c0_1], .int .i64 a1, .int .i64 a2] rfl (by (try simp only [List.map_toArray, List.map_cons, List.map_nil]); first | done | rfl | (simp only [List.length_drop, List.length_take]; rfl)) ?_; (with_reducible refine (impl_isSum.calls k a0_0 _ _ l0_1 a1 a2 true _ ?side1 ?side2 A4.out).mono ?_); (case side1 => repeat (first | exact (Kd.C_below HR0_1.out HB.out) | (with_reducible refine Kd.C_alloc ?_ _) | (with_reducible refine Kd.C_drewN ?_ _) | (with_reducible refine Kd.C_drew ?_))); (case side2 => exact HC0_1.out); rintro e w11 ⟨rfl, hb⟩; refine ⟨_, rfl, ?_⟩; have n0_ := Zab.mk (Zaq (g := gb752) (o := .cells #[.int .i64 a0_0, .slice A0_1 l0_1.length c0_1] 28 (0, 0)) (by (with_reducible repeat (first | refine Zag ?_ _ | refine Zah ?_ | refine Zaf ?_ _)); exact BK752.out) hb); have n1_ := Zab.mk (Zap (by repeat (first | (with_reducible first | exact HB.out | apply Zad | apply Zaa | apply Zac | refine Zae ?_ GE752.out) | exact HB.out)) hb); clear BK752; clear HB; have BK752 := n0_; have HB := n1_; clear n0_ n1_; (try clear hb); (try clear hb2); (try clear hk); (try clear hi)))
  have n0_ := Zab.mk (Zah BK752.out)
  have n1_ := Zab.mk (Zac HB.out)
  clear BK752
  clear HB
  have BK752 := n0_
  have HB := n1_
  clear n0_ n1_
  refine start_ (n := 10) (S := fun w' => w'.cell? ⟨gb752, 0, none⟩ = some (.int .i64 a0_0) ∧ w'.cell? ⟨gb752, 1, none⟩ = some (.slice A0_1 l0_1.length c0_1)) (ds := []) #[false, false, false, false, false, false, false, false, false, false] (by kernel_rfl) rfl rfl ⟨(Zaj BK752.out 0).trans rfl, (Zaj BK752.out 1).trans rfl⟩ (fun hHeld => ?_); refine with_tabW Za2.tab3 Za2.bits3 (fun HT_ HW_ => ?_)
  generalize w11.drew = w12 at BK752 HB hHeld ⊢
  refine pure_ (i := 1) (N := some 17) (v := ?_) (a' := ?_) #[false, true, false, false, false, false, false, false, false, false] rfl rfl (Za1 HT_.out (by kernel_rfl)) (fun _ _ _ h => h) (Or.inl ⟨by rfl, ?_⟩) ?_ ?_
  rotate_left
  ·intro w'
   go_simp
   with_reducible rfl
  rotate_left
  ·simp only [Act.put, ZA, ZB, ZC, i64_w, i32_w]
   rfl
  refine pure_ (i := 6) (N := some 22) (v := ?_) (a' := ?_) #[false, true, false, false, false, false, true, false, false, false] rfl rfl (Za1 HT_.out (by kernel_rfl)) (fun _ _ _ h => h) (Or.inl ⟨by rfl, ?_⟩) ?_ ?_
  rotate_left
  ·intro w'
   go_simp
   with_reducible rfl
  rotate_left
  ·simp only [Act.put, ZA, ZB, ZC, i64_w, i32_w]
   rfl
  refine take_ (i := 0) (N := some 16) (v := ?_) (a' := ?_) #[true, true, false, false, false, false, true, false, false, false] rfl rfl (take_ofW HT_.out HW_.out (by kernel_rfl)) (fun _ _ _ h => h) (Or.inl ⟨by rfl, ?_⟩) hHeld ?_ ?_
  rotate_left
  ·rintro w' ⟨s0, s1⟩
   go_simp
   with_reducible rfl
  rotate_left
  ·simp only [Act.put, ZA, ZB, ZC, i64_w, i32_w]
   rfl
  refine take_ (i := 2) (N := some 18) (v := ?_) (a' := ?_) #[true, true, true, false, false, false, true, false, false, false] rfl rfl (take_ofW HT_.out HW_.out (by kernel_rfl)) (fun _ _ _ h => h) (Or.inl ⟨by rfl, ?_⟩) hHeld ?_ ?_
  rotate_left
  ·rintro w' ⟨s0, s1⟩
   go_simp
   with_reducible rfl
  rotate_left
  ·simp only [Act.put, ZA, ZB, ZC, i64_w, i32_w]
   rfl
  refine join_ (σ := Value × Value × Value × Nat) 1 #[true, true, true, true, true, true, true, true, true, false] (fun s_ => [(19, s_.1), (20, .int .i64 t757), (23, .agg #[s_.2.1, s_.2.2.1, .int .i64 t764]), (8, .pointer (some ⟨s_.2.2.2, 0, none⟩)), (21, .int .i64 (wrap64 (a1 - t757)))]) (fun s_ w' => (w'.cell? ⟨gb752, 0, none⟩ = some (.int .i64 a0_0) ∧ w'.cell? ⟨gb752, 1, none⟩ = some (.slice A0_1 l0_1.length c0_1)) ∧ (Kd.R (Kd.int .i64) 2 w' w.heap.size (fun _ => True) s_.1 t754) ∧ (Kd.R (Kd.int .i64) 3 w' w.heap.size (fun k_ => some k_ ≠ (s_.2.2.1 : Value).ownBlock) s_.2.1 t758) ∧ (Kd.R (Kd.int .i64) 3 w' w.heap.size (fun k_ => some k_ ≠ (s_.2.1 : Value).ownBlock) s_.2.2.1 t761) ∧ (w'.heap[gb752]? = some (.cells #[.int .i64 a0_0, .slice A0_1 l0_1.length c0_1] 28 (0, 0))) ∧ (w'.heap[s_.2.2.2]? = some (.cells #[.slice none 0 0, .slice none 0 0, .int .i64 0] 85 (0, 0))) ∧ (w.heap.size ≤ s_.2.2.2) ∧ (w.heap.size ≤ s_.2.2.2) ∧ (gb752 ≠ s_.2.2.2) ∧ (s_.2.2.2 ≠ gb752) ∧ (Below w.heap.size w w')) ?_ ?_
  rotate_left
  ·intro hCont
   refine two_ (i := 3) (j := 8) (Ni := some 19) (Nj := some 8) #[true, true, true, true, false, false, true, false, false, false] #[true, true, true, false, false, false, true, false, true, false] rfl rfl rfl rfl (two_of HT_.out (by kernel_rfl)) (by decide) (by decide) (fun K hK => ?_) (fun K hK => ?_)
   ·skip
    refine goes_ Try.func71 (by kernel_rfl) rfl #[.agg #[.int .i64 a0_0, .slice A0_1 l0_1.length c0_1]] (by rfl) rfl rfl (by (try simp only [List.map_toArray, List.map_cons, List.map_nil]); first | done | rfl | (simp only [List.length_drop, List.length_take]; rfl)) ?_
    with_reducible refine (Zaz.calls k a0_0 _ _ l0_1 t754 _ ?side1 ?side2 A6.out).mono ?_
    (case side1 => repeat (first | exact (Kd.C_below HR0_1.out HB.out) | (with_reducible refine Kd.C_alloc ?_ _) | (with_reducible refine Kd.C_drewN ?_ _) | (with_reducible refine Kd.C_drew ?_)))
    (case side2 => exact HC0_1.out)
    rintro e w13 ⟨v755, rfl, ho0, hb⟩
    refine ⟨_, rfl, ?_⟩
    have n0_ := Zab.mk (Kd.R_lower ho0 (Zan (by repeat (first | (with_reducible first | exact HB.out | apply Zad | apply Zaa | apply Zac | refine Zae ?_ GE752.out) | exact HB.out))))
    have n1_ := Zab.mk (Zaq (g := gb752) (o := .cells #[.int .i64 a0_0, .slice A0_1 l0_1.length c0_1] 28 (0, 0)) (by (with_reducible repeat (first | refine Zag ?_ _ | refine Zah ?_ | refine Zaf ?_ _)); exact BK752.out) hb)
    have n2_ := Zab.mk (Zap (by repeat (first | (with_reducible first | exact HB.out | apply Zad | apply Zaa | apply Zac | refine Zae ?_ GE752.out) | exact HB.out)) hb)
    clear BK752
    clear HB
    have HO756 := n0_
    have BK752 := n1_
    have HB := n2_
    clear n0_ n1_ n2_
    (try clear hb)
    (try clear hb2)
    (try clear hk)
    (try clear hi)
    (try clear ho0)
    obtain ⟨Ao14, co14, eo14⟩ := Kd.R_slice HO756.out
    (first | subst eo14 | (injection eo14 with f1_ f2_ f3_; have f4_ := f1_.symm; have f5_ := f3_.symm; clear f1_ f2_ f3_; subst f4_; subst f5_))
    refine hK.out _ _ ⟨(Zaj BK752.out 0).trans rfl, (Zaj BK752.out 1).trans rfl⟩ (fun hHeld => ?_)
    clear hK K
    refine norm_ (a' := ?_) ?_ ?_
    rotate_left
    ·show Act.put _ (some 19) _ = _
     simp only [Act.put, ZA, ZB, ZC, i64_w, i32_w]
     rfl
    refine two_ (i := 4) (j := 8) (Ni := some 20) (Nj := some 8) #[true, true, true, true, true, false, true, false, false, false] #[true, true, true, true, false, false, true, false, true, false] rfl rfl rfl rfl (two_of HT_.out (by kernel_rfl)) (by decide) (by decide) (fun K hK => ?_) (fun K hK => ?_)
    ·skip
     refine goes_ Try.func79 (by kernel_rfl) rfl #[.slice Ao14 t754.length co14] (by rfl) rfl rfl (by (try simp only [List.map_toArray, List.map_cons, List.map_nil]); first | done | rfl | (simp only [List.length_drop, List.length_take]; rfl)) ?_
     with_reducible refine (impl_sum.calls k _ _ t754 t757 _ ?side1 ?side2 A7.out).mono ?_
     (case side1 => repeat (first | exact (Kd.R_reads' HO756.out).2.2 | (with_reducible refine Kd.C_alloc ?_ _) | (with_reducible refine Kd.C_drewN ?_ _) | (with_reducible refine Kd.C_drew ?_)))
     (case side2 => exact (Kd.R_reads' HO756.out).2.1)
     rintro e w' ⟨rfl, ⟨nd, rfl⟩⟩
     refine ⟨_, rfl, ?_⟩
     refine hK.out _ _ ⟨(Zaj BK752.out 0).trans rfl, (Zaj BK752.out 1).trans rfl⟩ (fun hHeld => ?_)
     clear hK K
     refine norm_ (a' := ?_) ?_ ?_
     rotate_left
     ·show Act.put _ (some 20) _ = _
      simp only [Act.put, ZA, ZB, ZC, i64_w, i32_w]
      rfl
     refine pure_ (i := 5) (N := some 21) (v := ?_) (a' := ?_) #[true, true, true, true, true, true, true, false, false, false] rfl rfl (Za1 HT_.out (by kernel_rfl)) (fun _ _ _ h => h) (Or.inl ⟨by rfl, ?_⟩) ?_ ?_
     rotate_left
     ·intro w'
      go_simp
      with_reducible rfl
     rotate_left
     ·simp only [Act.put, ZA, ZB, ZC, i64_w, i32_w]
      rfl
     refine two_ (i := 7) (j := 8) (Ni := some 23) (Nj := some 8) #[true, true, true, true, true, true, true, true, false, false] #[true, true, true, true, true, true, true, false, true, false] rfl rfl rfl rfl (two_of HT_.out (by kernel_rfl)) (by decide) (by decide) (fun K hK => ?_) (fun K hK => ?_)
     ·skip
      refine goes_ Try.func80 (by kernel_rfl) rfl #[.agg #[.int .i64 a0_0, .slice A0_1 l0_1.length c0_1], .int .i64 (wrap64 (a1 - t757)), .int .i64 a2] (by rfl) rfl rfl (by (try simp only [List.map_toArray, List.map_cons, List.map_nil]); first | done | rfl | (simp only [List.length_drop, List.length_take]; rfl)) ?_
      with_reducible refine (Zau.calls k a0_0 _ _ l0_1 (wrap64 (a1 - t757)) a2 t758 t761 t764 _ ?side1 ?side2 A8.out).mono ?_
      (case side1 => repeat (first | exact (Kd.C_below HR0_1.out (by repeat (first | (with_reducible first | exact HB.out | apply Zad | apply Zaa | apply Zac | refine Zae ?_ GE752.out) | exact HB.out))) | (with_reducible refine Kd.C_alloc ?_ _) | (with_reducible refine Kd.C_drewN ?_ _) | (with_reducible refine Kd.C_drew ?_)))
      (case side2 => exact HC0_1.out)
      rintro e w15 ⟨v759, v762, rfl, ho0, ho1, hb⟩
      refine ⟨_, rfl, ?_⟩
      have n0_ := Zab.mk (Kd.R_below (by (with_reducible repeat (first | apply Kd.R_alloc | apply Kd.R_drewN | apply Kd.R_drew)); exact HO756.out) hb)
      have n1_ := Zab.mk (Kd.R_lower ho0 (Zan (by repeat (first | (with_reducible first | exact HB.out | apply Zad | apply Zaa | apply Zac | refine Zae ?_ GE752.out) | exact HB.out))))
      have n2_ := Zab.mk (Kd.R_lower ho1 (Zan (by repeat (first | (with_reducible first | exact HB.out | apply Zad | apply Zaa | apply Zac | refine Zae ?_ GE752.out) | exact HB.out))))
      have n3_ := Zab.mk (Zaq (g := gb752) (o := .cells #[.int .i64 a0_0, .slice A0_1 l0_1.length c0_1] 28 (0, 0)) (by (with_reducible repeat (first | refine Zag ?_ _ | refine Zah ?_ | refine Zaf ?_ _)); exact BK752.out) hb)
      have n4_ := Zab.mk (Zap (by repeat (first | (with_reducible first | exact HB.out | apply Zad | apply Zaa | apply Zac | refine Zae ?_ GE752.out) | exact HB.out)) hb)
      clear HO756
      clear BK752
      clear HB
      have HO756 := n0_
      have HO760 := n1_
      have HO763 := n2_
      have BK752 := n3_
      have HB := n4_
      clear n0_ n1_ n2_ n3_ n4_
      (try clear hb)
      (try clear hb2)
      (try clear hk)
      (try clear hi)
      (try clear ho0)
      (try clear ho1)
      refine hK.out _ _ ⟨(Zaj BK752.out 0).trans rfl, (Zaj BK752.out 1).trans rfl⟩ (fun hHeld => ?_)
      clear hK K
      refine norm_ (a' := ?_) ?_ ?_
      rotate_left
      ·show Act.put _ (some 23) _ = _
       simp only [Act.put, ZA, ZB, ZC, i64_w, i32_w]
       rfl
      refine one_ (i := 8) (N := some 8) #[true, true, true, true, true, true, true, true, true, false] rfl rfl (one_of HT_.out (by kernel_rfl)) (by decide) (fun K hK => ?_)
      refine box_step ?hg (N := 8) ?hd (cs := #[.slice none 0 0, .slice none 0 0, .int .i64 0]) (t := 85) ?hr ?_; (case hd => rfl); (case hg => rfl); (case hr => first | (go_simp; done) | (go_simp; rfl))
      intro gb765 hg w16 hbox hb
      have n0_ := Zab.mk (Kd.R_below (by (with_reducible repeat (first | apply Kd.R_alloc | apply Kd.R_drewN | apply Kd.R_drew)); exact HO756.out) hb)
      have n1_ := Zab.mk (Kd.R_below (by (with_reducible repeat (first | apply Kd.R_alloc | apply Kd.R_drewN | apply Kd.R_drew)); exact HO760.out) hb)
      have n2_ := Zab.mk (Kd.R_below (by (with_reducible repeat (first | apply Kd.R_alloc | apply Kd.R_drewN | apply Kd.R_drew)); exact HO763.out) hb)
      have n3_ := Zab.mk (Zaq (g := gb752) (o := .cells #[.int .i64 a0_0, .slice A0_1 l0_1.length c0_1] 28 (0, 0)) (by (with_reducible repeat (first | refine Zag ?_ _ | refine Zah ?_ | refine Zaf ?_ _)); exact BK752.out) hb)
      have n4_ := Zab.mk (Zap (by repeat (first | (with_reducible first | exact HB.out | apply Zad | apply Zaa | apply Zac | refine Zae ?_ GE752.out) | exact HB.out)) hb)
      have n5_ := Zab.mk (hbox)
      have n6_ := Zab.mk ((by rw [hg]; exact (Zan (by repeat (first | (with_reducible first | exact HB.out | apply Zad | apply Zaa | apply Zac | refine Zae ?_ GE752.out) | exact HB.out))) : w.heap.size ≤ gb765))
      have n7_ := Zab.mk ((by rw [hg]; exact (Zan (by repeat (first | (with_reducible first | exact HB.out | apply Zad | apply Zaa | apply Zac | refine Zae ?_ GE752.out) | exact HB.out))) : w.heap.size ≤ gb765))
      have n8_ := Zab.mk ((by rw [hg]; exact Nat.ne_of_lt (blk_lt (g := gb752) (o := .cells #[.int .i64 a0_0, .slice A0_1 l0_1.length c0_1] 28 (0, 0)) (by (with_reducible repeat (first | refine Zag ?_ _ | refine Zah ?_ | refine Zaf ?_ _)); exact BK752.out)) : gb752 ≠ gb765))
      have n9_ := Zab.mk ((by rw [hg]; exact Nat.ne_of_gt (blk_lt (g := gb752) (o := .cells #[.int .i64 a0_0, .slice A0_1 l0_1.length c0_1] 28 (0, 0)) (by (with_reducible repeat (first | refine Zag ?_ _ | refine Zah ?_ | refine Zaf ?_ _)); exact BK752.out)) : gb765 ≠ gb752))
      clear HO756
      clear HO760
      clear HO763
      clear BK752
      clear HB
      have HO756 := n0_
      have HO760 := n1_
      have HO763 := n2_
      have BK752 := n3_
      have HB := n4_
      have BK765 := n5_
      have GW765 := n6_
      have GE765 := n7_
      have NB752_765 := n8_
      have NB765_752 := n9_
      clear n0_ n1_ n2_ n3_ n4_ n5_ n6_ n7_ n8_ n9_
      clear hb hbox hg
      refine hK.out _ _ ⟨(Zaj BK752.out 0).trans rfl, (Zaj BK752.out 1).trans rfl⟩ (fun hHeld => ?_)
      clear hK K
      refine norm_ (a' := ?_) ?_ ?_
      rotate_left
      ·show Act.put _ (some 8) _ = _
       simp only [Act.put, ZA, ZB, ZC, i64_w, i32_w]
       rfl
      exact norm_ (by simp only [putAll, Act.put, List.setIfInBounds_toArray, List.set_cons_zero, List.set_cons_succ]) (hCont (.slice Ao14 t754.length co14, v759, v762, gb765) _ ⟨hHeld, (by (with_reducible repeat (first | apply Kd.R_alloc | apply Kd.R_drewN | apply Kd.R_drew)); exact HO756.out), (by (with_reducible repeat (first | apply Kd.R_alloc | apply Kd.R_drewN | apply Kd.R_drew)); exact HO760.out), (by (with_reducible repeat (first | apply Kd.R_alloc | apply Kd.R_drewN | apply Kd.R_drew)); exact HO763.out), (by (with_reducible repeat (first | refine Zag ?_ _ | refine Zah ?_ | refine Zaf ?_ _)); exact BK752.out), (by (with_reducible repeat (first | refine Zag ?_ _ | refine Zah ?_ | refine Zaf ?_ _)); exact BK765.out), GW765.out, GE765.out, NB752_765.out, NB765_752.out, (by repeat (first | (with_reducible first | exact HB.out | apply Zad | apply Zaa | apply Zac | refine Zae ?_ GE752.out | refine Zae ?_ GE765.out) | exact HB.out))⟩)
     ·skip
      refine box_step ?hg (N := 8) ?hd (cs := #[.slice none 0 0, .slice none 0 0, .int .i64 0]) (t := 85) ?hr ?_; (case hd => rfl); (case hg => rfl); (case hr => first | (go_simp; done) | (go_simp; rfl))
      intro gb765 hg w15 hbox hb
      have n0_ := Zab.mk (Kd.R_below (by (with_reducible repeat (first | apply Kd.R_alloc | apply Kd.R_drewN | apply Kd.R_drew)); exact HO756.out) hb)
      have n1_ := Zab.mk (Zaq (g := gb752) (o := .cells #[.int .i64 a0_0, .slice A0_1 l0_1.length c0_1] 28 (0, 0)) (by (with_reducible repeat (first | refine Zag ?_ _ | refine Zah ?_ | refine Zaf ?_ _)); exact BK752.out) hb)
      have n2_ := Zab.mk (Zap (by repeat (first | (with_reducible first | exact HB.out | apply Zad | apply Zaa | apply Zac | refine Zae ?_ GE752.out) | exact HB.out)) hb)
      have n3_ := Zab.mk (hbox)
      have n4_ := Zab.mk ((by rw [hg]; exact (Zan (by repeat (first | (with_reducible first | exact HB.out | apply Zad | apply Zaa | apply Zac | refine Zae ?_ GE752.out) | exact HB.out))) : w.heap.size ≤ gb765))
      have n5_ := Zab.mk ((by rw [hg]; exact (Zan (by repeat (first | (with_reducible first | exact HB.out | apply Zad | apply Zaa | apply Zac | refine Zae ?_ GE752.out) | exact HB.out))) : w.heap.size ≤ gb765))
      have n6_ := Zab.mk ((by rw [hg]; exact Nat.ne_of_lt (blk_lt (g := gb752) (o := .cells #[.int .i64 a0_0, .slice A0_1 l0_1.length c0_1] 28 (0, 0)) (by (with_reducible repeat (first | refine Zag ?_ _ | refine Zah ?_ | refine Zaf ?_ _)); exact BK752.out)) : gb752 ≠ gb765))
      have n7_ := Zab.mk ((by rw [hg]; exact Nat.ne_of_gt (blk_lt (g := gb752) (o := .cells #[.int .i64 a0_0, .slice A0_1 l0_1.length c0_1] 28 (0, 0)) (by (with_reducible repeat (first | refine Zag ?_ _ | refine Zah ?_ | refine Zaf ?_ _)); exact BK752.out)) : gb765 ≠ gb752))
      clear HO756
      clear BK752
      clear HB
      have HO756 := n0_
      have BK752 := n1_
      have HB := n2_
      have BK765 := n3_
      have GW765 := n4_
      have GE765 := n5_
      have NB752_765 := n6_
      have NB765_752 := n7_
      clear n0_ n1_ n2_ n3_ n4_ n5_ n6_ n7_
      clear hb hbox hg
      refine hK.out _ _ ⟨(Zaj BK752.out 0).trans rfl, (Zaj BK752.out 1).trans rfl⟩ (fun hHeld => ?_)
      clear hK K
      refine norm_ (a' := ?_) ?_ ?_
      rotate_left
      ·show Act.put _ (some 8) _ = _
       simp only [Act.put, ZA, ZB, ZC, i64_w, i32_w]
       rfl
      refine one_ (i := 7) (N := some 23) #[true, true, true, true, true, true, true, true, true, false] rfl rfl (one_of HT_.out (by kernel_rfl)) (by decide) (fun K hK => ?_)
      refine goes_ Try.func80 (by kernel_rfl) rfl #[.agg #[.int .i64 a0_0, .slice A0_1 l0_1.length c0_1], .int .i64 (wrap64 (a1 - t757)), .int .i64 a2] (by rfl) rfl rfl (by (try simp only [List.map_toArray, List.map_cons, List.map_nil]); first | done | rfl | (simp only [List.length_drop, List.length_take]; rfl)) ?_
      with_reducible refine (Zau.calls k a0_0 _ _ l0_1 (wrap64 (a1 - t757)) a2 t758 t761 t764 _ ?side1 ?side2 A8.out).mono ?_
      (case side1 => repeat (first | exact (Kd.C_below HR0_1.out HB.out) | (with_reducible refine Kd.C_alloc ?_ _) | (with_reducible refine Kd.C_drewN ?_ _) | (with_reducible refine Kd.C_drew ?_)))
      (case side2 => exact HC0_1.out)
      rintro e w16 ⟨v759, v762, rfl, ho0, ho1, hb⟩
      refine ⟨_, rfl, ?_⟩
      have n0_ := Zab.mk (Kd.R_below (by (with_reducible repeat (first | apply Kd.R_alloc | apply Kd.R_drewN | apply Kd.R_drew)); exact HO756.out) hb)
      have n1_ := Zab.mk (Kd.R_lower ho0 (Zan (by repeat (first | (with_reducible first | exact HB.out | apply Zad | apply Zaa | apply Zac | refine Zae ?_ GE752.out | refine Zae ?_ GE765.out) | exact HB.out))))
      have n2_ := Zab.mk (Kd.R_lower ho1 (Zan (by repeat (first | (with_reducible first | exact HB.out | apply Zad | apply Zaa | apply Zac | refine Zae ?_ GE752.out | refine Zae ?_ GE765.out) | exact HB.out))))
      have n3_ := Zab.mk (Zaq (g := gb752) (o := .cells #[.int .i64 a0_0, .slice A0_1 l0_1.length c0_1] 28 (0, 0)) (by (with_reducible repeat (first | refine Zag ?_ _ | refine Zah ?_ | refine Zaf ?_ _)); exact BK752.out) hb)
      have n4_ := Zab.mk (Zaq (g := gb765) (o := .cells #[.slice none 0 0, .slice none 0 0, .int .i64 0] 85 (0, 0)) (by (with_reducible repeat (first | refine Zag ?_ _ | refine Zah ?_ | refine Zaf ?_ _)); exact BK765.out) hb)
      have n5_ := Zab.mk (Zap (by repeat (first | (with_reducible first | exact HB.out | apply Zad | apply Zaa | apply Zac | refine Zae ?_ GE752.out | refine Zae ?_ GE765.out) | exact HB.out)) hb)
      clear HO756
      clear BK752
      clear BK765
      clear HB
      have HO756 := n0_
      have HO760 := n1_
      have HO763 := n2_
      have BK752 := n3_
      have BK765 := n4_
      have HB := n5_
      clear n0_ n1_ n2_ n3_ n4_ n5_
      (try clear hb)
      (try clear hb2)
      (try clear hk)
      (try clear hi)
      (try clear ho0)
      (try clear ho1)
      refine hK.out _ _ ⟨(Zaj BK752.out 0).trans rfl, (Zaj BK752.out 1).trans rfl⟩ (fun hHeld => ?_)
      clear hK K
      refine norm_ (a' := ?_) ?_ ?_
      rotate_left
      ·show Act.put _ (some 23) _ = _
       simp only [Act.put, ZA, ZB, ZC, i64_w, i32_w]
       rfl
      exact norm_ (by simp only [putAll, Act.put, List.setIfInBounds_toArray, List.set_cons_zero, List.set_cons_succ]) (hCont (.slice Ao14 t754.length co14, v759, v762, gb765) _ ⟨hHeld, (by (with_reducible repeat (first | apply Kd.R_alloc | apply Kd.R_drewN | apply Kd.R_drew)); exact HO756.out), (by (with_reducible repeat (first | apply Kd.R_alloc | apply Kd.R_drewN | apply Kd.R_drew)); exact HO760.out), (by (with_reducible repeat (first | apply Kd.R_alloc | apply Kd.R_drewN | apply Kd.R_drew)); exact HO763.out), (by (with_reducible repeat (first | refine Zag ?_ _ | refine Zah ?_ | refine Zaf ?_ _)); exact BK752.out), (by (with_reducible repeat (first | refine Zag ?_ _ | refine Zah ?_ | refine Zaf ?_ _)); exact BK765.out), GW765.out, GE765.out, NB752_765.out, NB765_752.out, (by repeat (first | (with_reducible first | exact HB.out | apply Zad | apply Zaa | apply Zac | refine Zae ?_ GE752.out | refine Zae ?_ GE765.out) | exact HB.out))⟩)
    ·skip
     refine box_step ?hg (N := 8) ?hd (cs := #[.slice none 0 0, .slice none 0 0, .int .i64 0]) (t := 85) ?hr ?_; (case hd => rfl); (case hg => rfl); (case hr => first | (go_simp; done) | (go_simp; rfl))
     intro gb765 hg w14 hbox hb
     have n0_ := Zab.mk (Kd.R_below (by (with_reducible repeat (first | apply Kd.R_alloc | apply Kd.R_drewN | apply Kd.R_drew)); exact HO756.out) hb)
     have n1_ := Zab.mk (Zaq (g := gb752) (o := .cells #[.int .i64 a0_0, .slice A0_1 l0_1.length c0_1] 28 (0, 0)) (by (with_reducible repeat (first | refine Zag ?_ _ | refine Zah ?_ | refine Zaf ?_ _)); exact BK752.out) hb)
     have n2_ := Zab.mk (Zap (by repeat (first | (with_reducible first | exact HB.out | apply Zad | apply Zaa | apply Zac | refine Zae ?_ GE752.out) | exact HB.out)) hb)
     have n3_ := Zab.mk (hbox)
     have n4_ := Zab.mk ((by rw [hg]; exact (Zan (by repeat (first | (with_reducible first | exact HB.out | apply Zad | apply Zaa | apply Zac | refine Zae ?_ GE752.out) | exact HB.out))) : w.heap.size ≤ gb765))
     have n5_ := Zab.mk ((by rw [hg]; exact (Zan (by repeat (first | (with_reducible first | exact HB.out | apply Zad | apply Zaa | apply Zac | refine Zae ?_ GE752.out) | exact HB.out))) : w.heap.size ≤ gb765))
     have n6_ := Zab.mk ((by rw [hg]; exact Nat.ne_of_lt (blk_lt (g := gb752) (o := .cells #[.int .i64 a0_0, .slice A0_1 l0_1.length c0_1] 28 (0, 0)) (by (with_reducible repeat (first | refine Zag ?_ _ | refine Zah ?_ | refine Zaf ?_ _)); exact BK752.out)) : gb752 ≠ gb765))
     have n7_ := Zab.mk ((by rw [hg]; exact Nat.ne_of_gt (blk_lt (g := gb752) (o := .cells #[.int .i64 a0_0, .slice A0_1 l0_1.length c0_1] 28 (0, 0)) (by (with_reducible repeat (first | refine Zag ?_ _ | refine Zah ?_ | refine Zaf ?_ _)); exact BK752.out)) : gb765 ≠ gb752))
     clear HO756
     clear BK752
     clear HB
     have HO756 := n0_
     have BK752 := n1_
     have HB := n2_
     have BK765 := n3_
     have GW765 := n4_
     have GE765 := n5_
     have NB752_765 := n6_
     have NB765_752 := n7_
     clear n0_ n1_ n2_ n3_ n4_ n5_ n6_ n7_
     clear hb hbox hg
     obtain ⟨Ao15, co15, eo15⟩ := Kd.R_slice HO756.out
     (first | subst eo15 | (injection eo15 with f1_ f2_ f3_; have f4_ := f1_.symm; have f5_ := f3_.symm; clear f1_ f2_ f3_; subst f4_; subst f5_))
     refine hK.out _ _ ⟨(Zaj BK752.out 0).trans rfl, (Zaj BK752.out 1).trans rfl⟩ (fun hHeld => ?_)
     clear hK K
     refine norm_ (a' := ?_) ?_ ?_
     rotate_left
     ·show Act.put _ (some 8) _ = _
      simp only [Act.put, ZA, ZB, ZC, i64_w, i32_w]
      rfl
     refine one_ (i := 4) (N := some 20) #[true, true, true, true, true, false, true, false, true, false] rfl rfl (one_of HT_.out (by kernel_rfl)) (by decide) (fun K hK => ?_)
     refine goes_ Try.func79 (by kernel_rfl) rfl #[.slice Ao15 t754.length co15] (by rfl) rfl rfl (by (try simp only [List.map_toArray, List.map_cons, List.map_nil]); first | done | rfl | (simp only [List.length_drop, List.length_take]; rfl)) ?_
     with_reducible refine (impl_sum.calls k _ _ t754 t757 _ ?side1 ?side2 A7.out).mono ?_
     (case side1 => repeat (first | exact (Kd.R_reads' HO756.out).2.2 | (with_reducible refine Kd.C_alloc ?_ _) | (with_reducible refine Kd.C_drewN ?_ _) | (with_reducible refine Kd.C_drew ?_)))
     (case side2 => exact (Kd.R_reads' HO756.out).2.1)
     rintro e w' ⟨rfl, ⟨nd, rfl⟩⟩
     refine ⟨_, rfl, ?_⟩
     refine hK.out _ _ ⟨(Zaj BK752.out 0).trans rfl, (Zaj BK752.out 1).trans rfl⟩ (fun hHeld => ?_)
     clear hK K
     refine norm_ (a' := ?_) ?_ ?_
     rotate_left
     ·show Act.put _ (some 20) _ = _
      simp only [Act.put, ZA, ZB, ZC, i64_w, i32_w]
      rfl
     refine pure_ (i := 5) (N := some 21) (v := ?_) (a' := ?_) #[true, true, true, true, true, true, true, false, true, false] rfl rfl (Za1 HT_.out (by kernel_rfl)) (fun _ _ _ h => h) (Or.inl ⟨by rfl, ?_⟩) ?_ ?_
     rotate_left
     ·intro w'
      go_simp
      with_reducible rfl
     rotate_left
     ·simp only [Act.put, ZA, ZB, ZC, i64_w, i32_w]
      rfl
     refine one_ (i := 7) (N := some 23) #[true, true, true, true, true, true, true, true, true, false] rfl rfl (one_of HT_.out (by kernel_rfl)) (by decide) (fun K hK => ?_)
     refine goes_ Try.func80 (by kernel_rfl) rfl #[.agg #[.int .i64 a0_0, .slice A0_1 l0_1.length c0_1], .int .i64 (wrap64 (a1 - t757)), .int .i64 a2] (by rfl) rfl rfl (by (try simp only [List.map_toArray, List.map_cons, List.map_nil]); first | done | rfl | (simp only [List.length_drop, List.length_take]; rfl)) ?_
     with_reducible refine (Zau.calls k a0_0 _ _ l0_1 (wrap64 (a1 - t757)) a2 t758 t761 t764 _ ?side1 ?side2 A8.out).mono ?_
     (case side1 => repeat (first | exact (Kd.C_below HR0_1.out (by repeat (first | (with_reducible first | exact HB.out | apply Zad | apply Zaa | apply Zac | refine Zae ?_ GE752.out | refine Zae ?_ GE765.out) | exact HB.out))) | (with_reducible refine Kd.C_alloc ?_ _) | (with_reducible refine Kd.C_drewN ?_ _) | (with_reducible refine Kd.C_drew ?_)))
     (case side2 => exact HC0_1.out)
     rintro e w16 ⟨v759, v762, rfl, ho0, ho1, hb⟩
     refine ⟨_, rfl, ?_⟩
     have n0_ := Zab.mk (Kd.R_below (by (with_reducible repeat (first | apply Kd.R_alloc | apply Kd.R_drewN | apply Kd.R_drew)); exact HO756.out) hb)
     have n1_ := Zab.mk (Kd.R_lower ho0 (Zan (by repeat (first | (with_reducible first | exact HB.out | apply Zad | apply Zaa | apply Zac | refine Zae ?_ GE752.out | refine Zae ?_ GE765.out) | exact HB.out))))
     have n2_ := Zab.mk (Kd.R_lower ho1 (Zan (by repeat (first | (with_reducible first | exact HB.out | apply Zad | apply Zaa | apply Zac | refine Zae ?_ GE752.out | refine Zae ?_ GE765.out) | exact HB.out))))
     have n3_ := Zab.mk (Zaq (g := gb752) (o := .cells #[.int .i64 a0_0, .slice A0_1 l0_1.length c0_1] 28 (0, 0)) (by (with_reducible repeat (first | refine Zag ?_ _ | refine Zah ?_ | refine Zaf ?_ _)); exact BK752.out) hb)
     have n4_ := Zab.mk (Zaq (g := gb765) (o := .cells #[.slice none 0 0, .slice none 0 0, .int .i64 0] 85 (0, 0)) (by (with_reducible repeat (first | refine Zag ?_ _ | refine Zah ?_ | refine Zaf ?_ _)); exact BK765.out) hb)
     have n5_ := Zab.mk (Zap (by repeat (first | (with_reducible first | exact HB.out | apply Zad | apply Zaa | apply Zac | refine Zae ?_ GE752.out | refine Zae ?_ GE765.out) | exact HB.out)) hb)
     clear HO756
     clear BK752
     clear BK765
     clear HB
     have HO756 := n0_
     have HO760 := n1_
     have HO763 := n2_
     have BK752 := n3_
     have BK765 := n4_
     have HB := n5_
     clear n0_ n1_ n2_ n3_ n4_ n5_
     (try clear hb)
     (try clear hb2)
     (try clear hk)
     (try clear hi)
     (try clear ho0)
     (try clear ho1)
     refine hK.out _ _ ⟨(Zaj BK752.out 0).trans rfl, (Zaj BK752.out 1).trans rfl⟩ (fun hHeld => ?_)
     clear hK K
     refine norm_ (a' := ?_) ?_ ?_
     rotate_left
     ·show Act.put _ (some 23) _ = _
      simp only [Act.put, ZA, ZB, ZC, i64_w, i32_w]
      rfl
     exact norm_ (by simp only [putAll, Act.put, List.setIfInBounds_toArray, List.set_cons_zero, List.set_cons_succ]) (hCont (.slice Ao15 t754.length co15, v759, v762, gb765) _ ⟨hHeld, (by (with_reducible repeat (first | apply Kd.R_alloc | apply Kd.R_drewN | apply Kd.R_drew)); exact HO756.out), (by (with_reducible repeat (first | apply Kd.R_alloc | apply Kd.R_drewN | apply Kd.R_drew)); exact HO760.out), (by (with_reducible repeat (first | apply Kd.R_alloc | apply Kd.R_drewN | apply Kd.R_drew)); exact HO763.out), (by (with_reducible repeat (first | refine Zag ?_ _ | refine Zah ?_ | refine Zaf ?_ _)); exact BK752.out), (by (with_reducible repeat (first | refine Zag ?_ _ | refine Zah ?_ | refine Zaf ?_ _)); exact BK765.out), GW765.out, GE765.out, NB752_765.out, NB765_752.out, (by repeat (first | (with_reducible first | exact HB.out | apply Zad | apply Zaa | apply Zac | refine Zae ?_ GE752.out | refine Zae ?_ GE765.out) | exact HB.out))⟩)
   ·skip
    refine box_step ?hg (N := 8) ?hd (cs := #[.slice none 0 0, .slice none 0 0, .int .i64 0]) (t := 85) ?hr ?_; (case hd => rfl); (case hg => rfl); (case hr => first | (go_simp; done) | (go_simp; rfl))
    intro gb765 hg w13 hbox hb
    have n0_ := Zab.mk (Zaq (g := gb752) (o := .cells #[.int .i64 a0_0, .slice A0_1 l0_1.length c0_1] 28 (0, 0)) (by (with_reducible repeat (first | refine Zag ?_ _ | refine Zah ?_ | refine Zaf ?_ _)); exact BK752.out) hb)
    have n1_ := Zab.mk (Zap (by repeat (first | (with_reducible first | exact HB.out | apply Zad | apply Zaa | apply Zac | refine Zae ?_ GE752.out) | exact HB.out)) hb)
    have n2_ := Zab.mk (hbox)
    have n3_ := Zab.mk ((by rw [hg]; exact (Zan (by repeat (first | (with_reducible first | exact HB.out | apply Zad | apply Zaa | apply Zac | refine Zae ?_ GE752.out) | exact HB.out))) : w.heap.size ≤ gb765))
    have n4_ := Zab.mk ((by rw [hg]; exact (Zan (by repeat (first | (with_reducible first | exact HB.out | apply Zad | apply Zaa | apply Zac | refine Zae ?_ GE752.out) | exact HB.out))) : w.heap.size ≤ gb765))
    have n5_ := Zab.mk ((by rw [hg]; exact Nat.ne_of_lt (blk_lt (g := gb752) (o := .cells #[.int .i64 a0_0, .slice A0_1 l0_1.length c0_1] 28 (0, 0)) (by (with_reducible repeat (first | refine Zag ?_ _ | refine Zah ?_ | refine Zaf ?_ _)); exact BK752.out)) : gb752 ≠ gb765))
    have n6_ := Zab.mk ((by rw [hg]; exact Nat.ne_of_gt (blk_lt (g := gb752) (o := .cells #[.int .i64 a0_0, .slice A0_1 l0_1.length c0_1] 28 (0, 0)) (by (with_reducible repeat (first | refine Zag ?_ _ | refine Zah ?_ | refine Zaf ?_ _)); exact BK752.out)) : gb765 ≠ gb752))
    clear BK752
    clear HB
    have BK752 := n0_
    have HB := n1_
    have BK765 := n2_
    have GW765 := n3_
    have GE765 := n4_
    have NB752_765 := n5_
    have NB765_752 := n6_
    clear n0_ n1_ n2_ n3_ n4_ n5_ n6_
    clear hb hbox hg
    refine hK.out _ _ ⟨(Zaj BK752.out 0).trans rfl, (Zaj BK752.out 1).trans rfl⟩ (fun hHeld => ?_)
    clear hK K
    refine norm_ (a' := ?_) ?_ ?_
    rotate_left
    ·show Act.put _ (some 8) _ = _
     simp only [Act.put, ZA, ZB, ZC, i64_w, i32_w]
     rfl
    refine one_ (i := 3) (N := some 19) #[true, true, true, true, false, false, true, false, true, false] rfl rfl (one_of HT_.out (by kernel_rfl)) (by decide) (fun K hK => ?_)
    refine goes_ Try.func71 (by kernel_rfl) rfl #[.agg #[.int .i64 a0_0, .slice A0_1 l0_1.length c0_1]] (by rfl) rfl rfl (by (try simp only [List.map_toArray, List.map_cons, List.map_nil]); first | done | rfl | (simp only [List.length_drop, List.length_take]; rfl)) ?_
    with_reducible refine (Zaz.calls k a0_0 _ _ l0_1 t754 _ ?side1 ?side2 A6.out).mono ?_
    (case side1 => repeat (first | exact (Kd.C_below HR0_1.out HB.out) | (with_reducible refine Kd.C_alloc ?_ _) | (with_reducible refine Kd.C_drewN ?_ _) | (with_reducible refine Kd.C_drew ?_)))
    (case side2 => exact HC0_1.out)
    rintro e w14 ⟨v755, rfl, ho0, hb⟩
    refine ⟨_, rfl, ?_⟩
    have n0_ := Zab.mk (Kd.R_lower ho0 (Zan (by repeat (first | (with_reducible first | exact HB.out | apply Zad | apply Zaa | apply Zac | refine Zae ?_ GE752.out | refine Zae ?_ GE765.out) | exact HB.out))))
    have n1_ := Zab.mk (Zaq (g := gb752) (o := .cells #[.int .i64 a0_0, .slice A0_1 l0_1.length c0_1] 28 (0, 0)) (by (with_reducible repeat (first | refine Zag ?_ _ | refine Zah ?_ | refine Zaf ?_ _)); exact BK752.out) hb)
    have n2_ := Zab.mk (Zaq (g := gb765) (o := .cells #[.slice none 0 0, .slice none 0 0, .int .i64 0] 85 (0, 0)) (by (with_reducible repeat (first | refine Zag ?_ _ | refine Zah ?_ | refine Zaf ?_ _)); exact BK765.out) hb)
    have n3_ := Zab.mk (Zap (by repeat (first | (with_reducible first | exact HB.out | apply Zad | apply Zaa | apply Zac | refine Zae ?_ GE752.out | refine Zae ?_ GE765.out) | exact HB.out)) hb)
    clear BK752
    clear BK765
    clear HB
    have HO756 := n0_
    have BK752 := n1_
    have BK765 := n2_
    have HB := n3_
    clear n0_ n1_ n2_ n3_
    (try clear hb)
    (try clear hb2)
    (try clear hk)
    (try clear hi)
    (try clear ho0)
    obtain ⟨Ao15, co15, eo15⟩ := Kd.R_slice HO756.out
    (first | subst eo15 | (injection eo15 with f1_ f2_ f3_; have f4_ := f1_.symm; have f5_ := f3_.symm; clear f1_ f2_ f3_; subst f4_; subst f5_))
    refine hK.out _ _ ⟨(Zaj BK752.out 0).trans rfl, (Zaj BK752.out 1).trans rfl⟩ (fun hHeld => ?_)
    clear hK K
    refine norm_ (a' := ?_) ?_ ?_
    rotate_left
    ·show Act.put _ (some 19) _ = _
     simp only [Act.put, ZA, ZB, ZC, i64_w, i32_w]
     rfl
    refine one_ (i := 4) (N := some 20) #[true, true, true, true, true, false, true, false, true, false] rfl rfl (one_of HT_.out (by kernel_rfl)) (by decide) (fun K hK => ?_)
    refine goes_ Try.func79 (by kernel_rfl) rfl #[.slice Ao15 t754.length co15] (by rfl) rfl rfl (by (try simp only [List.map_toArray, List.map_cons, List.map_nil]); first | done | rfl | (simp only [List.length_drop, List.length_take]; rfl)) ?_
    with_reducible refine (impl_sum.calls k _ _ t754 t757 _ ?side1 ?side2 A7.out).mono ?_
    (case side1 => repeat (first | exact (Kd.R_reads' HO756.out).2.2 | (with_reducible refine Kd.C_alloc ?_ _) | (with_reducible refine Kd.C_drewN ?_ _) | (with_reducible refine Kd.C_drew ?_)))
    (case side2 => exact (Kd.R_reads' HO756.out).2.1)
    rintro e w' ⟨rfl, ⟨nd, rfl⟩⟩
    refine ⟨_, rfl, ?_⟩
    refine hK.out _ _ ⟨(Zaj BK752.out 0).trans rfl, (Zaj BK752.out 1).trans rfl⟩ (fun hHeld => ?_)
    clear hK K
    refine norm_ (a' := ?_) ?_ ?_
    rotate_left
    ·show Act.put _ (some 20) _ = _
     simp only [Act.put, ZA, ZB, ZC, i64_w, i32_w]
     rfl
    refine pure_ (i := 5) (N := some 21) (v := ?_) (a' := ?_) #[true, true, true, true, true, true, true, false, true, false] rfl rfl (Za1 HT_.out (by kernel_rfl)) (fun _ _ _ h => h) (Or.inl ⟨by rfl, ?_⟩) ?_ ?_
    rotate_left
    ·intro w'
     go_simp
     with_reducible rfl
    rotate_left
    ·simp only [Act.put, ZA, ZB, ZC, i64_w, i32_w]
     rfl
    refine one_ (i := 7) (N := some 23) #[true, true, true, true, true, true, true, true, true, false] rfl rfl (one_of HT_.out (by kernel_rfl)) (by decide) (fun K hK => ?_)
    refine goes_ Try.func80 (by kernel_rfl) rfl #[.agg #[.int .i64 a0_0, .slice A0_1 l0_1.length c0_1], .int .i64 (wrap64 (a1 - t757)), .int .i64 a2] (by rfl) rfl rfl (by (try simp only [List.map_toArray, List.map_cons, List.map_nil]); first | done | rfl | (simp only [List.length_drop, List.length_take]; rfl)) ?_
    with_reducible refine (Zau.calls k a0_0 _ _ l0_1 (wrap64 (a1 - t757)) a2 t758 t761 t764 _ ?side1 ?side2 A8.out).mono ?_
    (case side1 => repeat (first | exact (Kd.C_below HR0_1.out (by repeat (first | (with_reducible first | exact HB.out | apply Zad | apply Zaa | apply Zac | refine Zae ?_ GE752.out | refine Zae ?_ GE765.out) | exact HB.out))) | (with_reducible refine Kd.C_alloc ?_ _) | (with_reducible refine Kd.C_drewN ?_ _) | (with_reducible refine Kd.C_drew ?_)))
    (case side2 => exact HC0_1.out)
    rintro e w16 ⟨v759, v762, rfl, ho0, ho1, hb⟩
    refine ⟨_, rfl, ?_⟩
    have n0_ := Zab.mk (Kd.R_below (by (with_reducible repeat (first | apply Kd.R_alloc | apply Kd.R_drewN | apply Kd.R_drew)); exact HO756.out) hb)
    have n1_ := Zab.mk (Kd.R_lower ho0 (Zan (by repeat (first | (with_reducible first | exact HB.out | apply Zad | apply Zaa | apply Zac | refine Zae ?_ GE752.out | refine Zae ?_ GE765.out) | exact HB.out))))
    have n2_ := Zab.mk (Kd.R_lower ho1 (Zan (by repeat (first | (with_reducible first | exact HB.out | apply Zad | apply Zaa | apply Zac | refine Zae ?_ GE752.out | refine Zae ?_ GE765.out) | exact HB.out))))
    have n3_ := Zab.mk (Zaq (g := gb752) (o := .cells #[.int .i64 a0_0, .slice A0_1 l0_1.length c0_1] 28 (0, 0)) (by (with_reducible repeat (first | refine Zag ?_ _ | refine Zah ?_ | refine Zaf ?_ _)); exact BK752.out) hb)
    have n4_ := Zab.mk (Zaq (g := gb765) (o := .cells #[.slice none 0 0, .slice none 0 0, .int .i64 0] 85 (0, 0)) (by (with_reducible repeat (first | refine Zag ?_ _ | refine Zah ?_ | refine Zaf ?_ _)); exact BK765.out) hb)
    have n5_ := Zab.mk (Zap (by repeat (first | (with_reducible first | exact HB.out | apply Zad | apply Zaa | apply Zac | refine Zae ?_ GE752.out | refine Zae ?_ GE765.out) | exact HB.out)) hb)
    clear HO756
    clear BK752
    clear BK765
    clear HB
    have HO756 := n0_
    have HO760 := n1_
    have HO763 := n2_
    have BK752 := n3_
    have BK765 := n4_
    have HB := n5_
    clear n0_ n1_ n2_ n3_ n4_ n5_
    (try clear hb)
    (try clear hb2)
    (try clear hk)
    (try clear hi)
    (try clear ho0)
    (try clear ho1)
    refine hK.out _ _ ⟨(Zaj BK752.out 0).trans rfl, (Zaj BK752.out 1).trans rfl⟩ (fun hHeld => ?_)
    clear hK K
    refine norm_ (a' := ?_) ?_ ?_
    rotate_left
    ·show Act.put _ (some 23) _ = _
     simp only [Act.put, ZA, ZB, ZC, i64_w, i32_w]
     rfl
    exact norm_ (by simp only [putAll, Act.put, List.setIfInBounds_toArray, List.set_cons_zero, List.set_cons_succ]) (hCont (.slice Ao15 t754.length co15, v759, v762, gb765) _ ⟨hHeld, (by (with_reducible repeat (first | apply Kd.R_alloc | apply Kd.R_drewN | apply Kd.R_drew)); exact HO756.out), (by (with_reducible repeat (first | apply Kd.R_alloc | apply Kd.R_drewN | apply Kd.R_drew)); exact HO760.out), (by (with_reducible repeat (first | apply Kd.R_alloc | apply Kd.R_drewN | apply Kd.R_drew)); exact HO763.out), (by (with_reducible repeat (first | refine Zag ?_ _ | refine Zah ?_ | refine Zaf ?_ _)); exact BK752.out), (by (with_reducible repeat (first | refine Zag ?_ _ | refine Zah ?_ | refine Zaf ?_ _)); exact BK765.out), GW765.out, GE765.out, NB752_765.out, NB765_752.out, (by repeat (first | (with_reducible first | exact HB.out | apply Zad | apply Zaa | apply Zac | refine Zae ?_ GE752.out | refine Zae ?_ GE765.out) | exact HB.out))⟩)
  rintro ⟨v755, v759, v762, gb765⟩ w17 ⟨hS_, h0_, h1_, h2_, h3_, h4_, h5_, h6_, h7_, h8_, h9_⟩
  have n0_ : Zab (Kd.R (Kd.int .i64) 2 w17 w.heap.size (fun _ => True) v755 t754) := ⟨h0_⟩
  have n1_ : Zab (Kd.R (Kd.int .i64) 3 w17 w.heap.size (fun k_ => some k_ ≠ (v762 : Value).ownBlock) v759 t758) := ⟨h1_⟩
  have n2_ : Zab (Kd.R (Kd.int .i64) 3 w17 w.heap.size (fun k_ => some k_ ≠ (v759 : Value).ownBlock) v762 t761) := ⟨h2_⟩
  have n3_ : Zab (w17.heap[gb752]? = some (.cells #[.int .i64 a0_0, .slice A0_1 l0_1.length c0_1] 28 (0, 0))) := ⟨h3_⟩
  have n4_ : Zab (w17.heap[gb765]? = some (.cells #[.slice none 0 0, .slice none 0 0, .int .i64 0] 85 (0, 0))) := ⟨h4_⟩
  have n5_ : Zab (w.heap.size ≤ gb765) := ⟨h5_⟩
  have n6_ : Zab (w.heap.size ≤ gb765) := ⟨h6_⟩
  have n7_ : Zab (gb752 ≠ gb765) := ⟨h7_⟩
  have n8_ : Zab (gb765 ≠ gb752) := ⟨h8_⟩
  have n9_ : Zab (Below w.heap.size w w17) := ⟨h9_⟩
  clear BK752
  clear HB
  clear h0_ h1_ h2_ h3_ h4_ h5_ h6_ h7_ h8_ h9_
  have HO756 := n0_
  have HO760 := n1_
  have HO763 := n2_
  have BK752 := n3_
  have BK765 := n4_
  have GW765 := n5_
  have GE765 := n6_
  have NB752_765 := n7_
  have NB765_752 := n8_
  have HB := n9_
  clear n0_ n1_ n2_ n3_ n4_ n5_ n6_ n7_ n8_ n9_
  have hHeld : w17.cell? ⟨gb752, 0, none⟩ = some (.int .i64 a0_0) ∧ w17.cell? ⟨gb752, 1, none⟩ = some (.slice A0_1 l0_1.length c0_1) := hS_
  obtain ⟨Ao18, co18, eo18⟩ := Kd.R_slice HO760.out
  (first | subst eo18 | (injection eo18 with f1_ f2_ f3_; have f4_ := f1_.symm; have f5_ := f3_.symm; clear f1_ f2_ f3_; subst f4_; subst f5_))
  obtain ⟨Ao20, co20, eo20⟩ := Kd.R_slice HO763.out
  (first | subst eo20 | (injection eo20 with f1_ f2_ f3_; have f4_ := f1_.symm; have f5_ := f3_.symm; clear f1_ f2_ f3_; subst f4_; subst f5_))
  refine norm_ (a' := ?_) ?_ ?_
  rotate_left
  ·simp only [putAll, Act.put, List.setIfInBounds_toArray, List.set_cons_zero, List.set_cons_succ]
   rfl
  refine one_ (i := 9) (N := none) #[true, true, true, true, true, true, true, true, true, true] rfl rfl (one_of HT_.out (by kernel_rfl)) (by decide) (fun K hK => ?_)
  have hs19 : w17.cell? ⟨gb765, 0, none⟩ = some (.slice none 0 0) := (Zaj BK765.out 0).trans rfl
  have hfs19 := Zak BK765.out 0
  have hns19_0 := NB752_765.out
  have hms19_0 := NB765_752.out
  have hs21 : w17.cell? ⟨gb765, 1, none⟩ = some (.slice none 0 0) := (Zaj BK765.out 1).trans rfl
  have hfs21 := Zak BK765.out 1
  have hns21_0 := NB752_765.out
  have hms21_0 := NB765_752.out
  have hs22 : w17.cell? ⟨gb765, 2, none⟩ = some (.int .i64 0) := (Zaj BK765.out 2).trans rfl
  have hfs22 := Zak BK765.out 2
  have hns22_0 := NB752_765.out
  have hms22_0 := NB765_752.out
  refine skip_ (w1 := ?_) (by rfl) rfl ?_ ?_
  rotate_left
  ·go_simp
   rfl
  refine hK.out _ _ ⟨((cell_far (p := ⟨gb765, _, none⟩) NB752_765.out _).trans (((cell_far (p := ⟨gb765, _, none⟩) NB752_765.out _).trans (((cell_far (p := ⟨gb765, _, none⟩) NB752_765.out _).trans (hHeld.1)))))), ((cell_far (p := ⟨gb765, _, none⟩) NB752_765.out _).trans (((cell_far (p := ⟨gb765, _, none⟩) NB752_765.out _).trans (((cell_far (p := ⟨gb765, _, none⟩) NB752_765.out _).trans (hHeld.2))))))⟩ (fun hHeld => ?_)
  clear hK K
  refine done_ (done_of HT_.out (by kernel_rfl)) ?_
  have hnb23 := NB765_752.out
  have hnc23 := NB752_765.out
  have hcz24_0 : w17.cell? ⟨gb765, 0, none⟩ = some (.slice none 0 0) := (Zaj BK765.out 0).trans rfl
  have hcz24_1 : w17.cell? ⟨gb765, 1, none⟩ = some (.slice none 0 0) := (Zaj BK765.out 1).trans rfl
  have hcz24_2 : w17.cell? ⟨gb765, 2, none⟩ = some (.int .i64 0) := (Zaj BK765.out 2).trans rfl
  have hfz24_0 := Zak BK765.out 0
  have hfz24_1 := Zak BK765.out 1
  have hfz24_2 := Zak BK765.out 2
  try go_wp2
  go_loopg [9, 26] k (fun kq v9 v26 w' => ∃ (x9_1 : Int) (x26_1 : Int), v9 = .int .i64 x9_1 ∧ v26 = .int .i64 x26_1 ∧ Zab (Za2.l0 kq x9_1 t764 x26_1 t758 t761 t764 = some (r1, r2)) ∧ Zab (kq ≤ k) ∧ Zab (Kd.R (Kd.int .i64) 3 w' w.heap.size (fun k_ => some k_ ≠ ((.slice Ao20 t761.length co20) : Value).ownBlock) (.slice Ao18 t758.length co18) t758) ∧ Zab (Kd.R (Kd.int .i64) 3 w' w.heap.size (fun k_ => some k_ ≠ ((.slice Ao18 t758.length co18) : Value).ownBlock) (.slice Ao20 t761.length co20) t761) ∧ Zab (w'.heap[gb752]? = some (.cells #[.int .i64 a0_0, (.slice A0_1 l0_1.length c0_1)] 28 (0, 0))) ∧ Zab (w'.heap[gb765]? = some (.cells #[(.slice Ao18 t758.length co18), (.slice Ao20 t761.length co20), .int .i64 t764] 85 (0, 0))) ∧ Zab (Below w.heap.size w w'))
  case atStart => exact ⟨(1), (0), (by first | rfl | (simp; done) | (simp [*]; done) | (simp [IntWalk.i64_left, *]; done)), (by first | rfl | (simp; done) | (simp [*]; done) | (simp [IntWalk.i64_left, *]; done)), H', ⟨Nat.le_refl _⟩, ⟨by (with_reducible repeat (first | apply Kd.R_alloc | apply Kd.R_drewN | apply Kd.R_drew)); exact Kd.R_mono (Kd.R_far (p := ⟨gb765, 2, none⟩) (Kd.R_far (p := ⟨gb765, 1, none⟩) (Kd.R_far (p := ⟨gb765, 0, none⟩) (Kd.R_types HO760.out BK765.out (by decide)) (fun _ hk => hk.2) (.slice Ao18 t758.length co18)) (fun _ hk => hk.2) (.slice Ao20 t761.length co20)) (fun _ hk => hk.2) (.int .i64 t764)) (fun _ hk => hk.1)⟩, ⟨by (with_reducible repeat (first | apply Kd.R_alloc | apply Kd.R_drewN | apply Kd.R_drew)); exact Kd.R_mono (Kd.R_far (p := ⟨gb765, 2, none⟩) (Kd.R_far (p := ⟨gb765, 1, none⟩) (Kd.R_far (p := ⟨gb765, 0, none⟩) (Kd.R_types HO763.out BK765.out (by decide)) (fun _ hk => hk.2) (.slice Ao18 t758.length co18)) (fun _ hk => hk.2) (.slice Ao20 t761.length co20)) (fun _ hk => hk.2) (.int .i64 t764)) (fun _ hk => hk.1)⟩, ⟨by (with_reducible repeat (first | refine Zag ?_ _ | refine Zah ?_ | refine Zaf ?_ _)); refine blk_far ?_ NB752_765.out _; (with_reducible repeat (first | refine Zag ?_ _ | refine Zah ?_ | refine Zaf ?_ _)); refine blk_far ?_ NB752_765.out _; (with_reducible repeat (first | refine Zag ?_ _ | refine Zah ?_ | refine Zaf ?_ _)); refine blk_far ?_ NB752_765.out _; (with_reducible repeat (first | refine Zag ?_ _ | refine Zah ?_ | refine Zaf ?_ _)); exact BK752.out⟩, ⟨by (with_reducible repeat (first | refine Zag ?_ _ | refine Zah ?_ | refine Zaf ?_ _)); refine blk_put (cs := #[.slice Ao18 t758.length co18, .slice Ao20 t761.length co20, .int .i64 0]) ?_ 2 _ rfl; (with_reducible repeat (first | refine Zag ?_ _ | refine Zah ?_ | refine Zaf ?_ _)); refine blk_put (cs := #[.slice Ao18 t758.length co18, .slice none 0 0, .int .i64 0]) ?_ 1 _ rfl; (with_reducible repeat (first | refine Zag ?_ _ | refine Zah ?_ | refine Zaf ?_ _)); refine blk_put (cs := #[.slice none 0 0, .slice none 0 0, .int .i64 0]) ?_ 0 _ rfl; (with_reducible repeat (first | refine Zag ?_ _ | refine Zah ?_ | refine Zaf ?_ _)); exact BK765.out⟩, ⟨by repeat (first | (with_reducible first | exact HB.out | apply Zad | apply Zaa | apply Zac | refine Zae ?_ GE752.out | refine Zae ?_ GE765.out) | exact HB.out)⟩⟩
  case round =>
   clear H'
   try clear c2
   try clear p2
   try clear c4
   try clear c5
   try clear p6
   try clear c7
   try clear c8
   try clear c23
   try clear hcz10_0
   try clear hcz10_1
   try clear hcz24_0
   try clear hcz24_1
   try clear hcz24_2
   try clear hfz10_0
   try clear hfz10_1
   try clear hfz24_0
   try clear hfz24_1
   try clear hfz24_2
   obtain ⟨x9_1, x26_1, rfl, rfl, HA, HK1, HO_766000, HO_766001, BK752, BK765, HB⟩ := hrel
   cases gk with
   | zero => exact absurd HA.out (by simp [Za2.l0])
   | succ k1 =>
    have H := HA.out
    clear HA
    simp only [Za2.l0] at H
    by_cases c25 : x26_1 < t764
    ·rw [if_pos c25] at H
     have c25b0 : decide (x26_1 < t764) = true := decide_eq_true c25
     clear c25
     replace H := Option.bind_eq_some_iff.mp H
     obtain ⟨t766, A260, H⟩ := H
     replace H : (if (wrap64 (x26_1 + 1)) = 0 then (none) else (Za2.l0 k1 (wrap64 (Int.tdiv (wrap64 (x9_1 * (wrap64 (t766 - x26_1)))) (wrap64 (x26_1 + 1)))) t764 (wrap64 (x26_1 + 1)) t758 t761 t764)) = some (r1, r2) := H
     have A26 := Zab.mk A260
     clear A260
     by_cases c27 : (wrap64 (x26_1 + 1)) = 0
     ·rw [if_pos c27] at H
      exact absurd H (by simp)
     ·rw [if_neg c27] at H
      have c27b0 : ((wrap64 (x26_1 + 1)) == 0) = false := beq_eq_false_iff_ne.mpr c27
      have c27b1 : ((wrap64 (x26_1 + 1)) != 0) = true := bne_iff_ne.mpr c27
      have H' := Zab.mk H
      clear H
      have hnb28 := NB765_752.out
      have hnc28 := NB752_765.out
      have hcz29_0 : wr.cell? ⟨gb765, 0, none⟩ = some (.slice Ao18 t758.length co18) := (Zaj BK765.out 0).trans rfl
      have hcz29_1 : wr.cell? ⟨gb765, 1, none⟩ = some (.slice Ao20 t761.length co20) := (Zaj BK765.out 1).trans rfl
      have hcz29_2 : wr.cell? ⟨gb765, 2, none⟩ = some (.int .i64 t764) := (Zaj BK765.out 2).trans rfl
      have hfz29_0 := Zak BK765.out 0
      have hfz29_1 := Zak BK765.out 1
      have hfz29_2 := Zak BK765.out 2
      go_wp2_with (first | ((with_reducible refine Zay (f := 90) rfl ?_); refine goesL_ (some 32) rfl rfl Try.func90 (by kernel_rfl) rfl #[.slice Ao20 t761.length co20] rfl (by (try simp only [List.map_toArray, List.map_cons, List.map_nil]); first | done | rfl | (simp only [List.length_drop, List.length_take]; rfl)) ?_; (with_reducible refine (impl_size_int.calls _ _ t761 t766 _ ?side1 ?side2 A26.out).mono ?_); (case side1 => repeat (first | exact (Kd.R_reads' HO_766001.out).2.2 | (with_reducible refine Kd.C_alloc ?_ _) | (with_reducible refine Kd.C_drewN ?_ _) | (with_reducible refine Kd.C_drew ?_))); (case side2 => exact (Kd.R_reads' HO_766001.out).2.1); rintro e w' ⟨rfl, ⟨nd, rfl⟩⟩; refine ⟨_, rfl, ?_⟩))
      go_roundg k1
      case measure => have := HK1.out; omega
      case rel => exact ⟨(wrap64 (Int.tdiv (wrap64 (x9_1 * (wrap64 (t766 - x26_1)))) (wrap64 (x26_1 + 1)))), (wrap64 (x26_1 + 1)), (by first | rfl | (simp; done) | (simp [*]; done) | (simp [IntWalk.i64_left, *]; done)), (by first | rfl | (simp; done) | (simp [*]; done) | (simp [IntWalk.i64_left, *]; done)), H', ⟨by have := HK1.out; omega⟩, ⟨by (with_reducible repeat (first | apply Kd.R_alloc | apply Kd.R_drewN | apply Kd.R_drew)); exact HO_766000.out⟩, ⟨by (with_reducible repeat (first | apply Kd.R_alloc | apply Kd.R_drewN | apply Kd.R_drew)); exact HO_766001.out⟩, ⟨by (with_reducible repeat (first | refine Zag ?_ _ | refine Zah ?_ | refine Zaf ?_ _)); exact BK752.out⟩, ⟨by (with_reducible repeat (first | refine Zag ?_ _ | refine Zah ?_ | refine Zaf ?_ _)); exact BK765.out⟩, ⟨by repeat (first | (with_reducible first | exact HB.out | apply Zad | apply Zaa | apply Zac | refine Zae ?_ GE752.out | refine Zae ?_ GE765.out) | exact HB.out)⟩⟩
    ·rw [if_neg c25] at H
     have c25b0 : decide (x26_1 < t764) = false := decide_eq_false c25
     clear c25
     by_cases c30 : x9_1 > 1000000
     ·rw [if_pos c30] at H
      have c30b0 : decide (1000000 < x9_1) = true := decide_eq_true c30
      clear c30
      simp only [Option.some.injEq, Prod.mk.injEq] at H
      obtain ⟨rfl, rfl⟩ := H
      go_wp2
      go_ret2
      exact ⟨by first | rfl | (simp [Zas, Zar] <;> rfl) | (simp [*, Zas, Zar] <;> rfl), by repeat (first | (with_reducible first | exact HB.out | apply Zad | apply Zaa | apply Zac | refine Zae ?_ GE752.out | refine Zae ?_ GE765.out) | exact HB.out)⟩
     ·rw [if_neg c30] at H
      have c30b0 : decide (1000000 < x9_1) = false := decide_eq_false c30
      clear c30
      simp only [Option.some.injEq, Prod.mk.injEq] at H
      obtain ⟨rfl, rfl⟩ := H
      go_wp2
      go_ret2
      exact ⟨by first | rfl | (simp [Zas, Zar] <;> rfl) | (simp [*, Zas, Zar] <;> rfl), by repeat (first | (with_reducible first | exact HB.out | apply Zad | apply Zaa | apply Zac | refine Zae ?_ GE752.out | refine Zae ?_ GE765.out) | exact HB.out)⟩
 ·replace c5 := Bool.eq_false_iff.mpr c5
  subst c5
  have H1 : (some (0, false)) = some (r1, r2) := by rw [if_neg (show ¬ (false = true) by decide)] at H; exact H
  clear H
  have H := H1
  clear H1
  simp only [Option.some.injEq, Prod.mk.injEq] at H
  obtain ⟨rfl, rfl⟩ := H
  go_enter Try.func46, Try.ntmps46
  go_wp2_with (first | ((with_reducible refine gate_dst (N := 3) rfl ?_); refine box_event ?hg (N := 3) ?hd (cs := #[.int .i64 a0_0, .slice A0_1 l0_1.length c0_1]) (t := 28) ?hr ?_; (case hd => rfl); (case hg => rfl); (case hr => first | (go_simp; done) | (go_simp; rfl)); intro gb752 hg w31 hbox hb; have n0_ := Zab.mk (Zap (by repeat (first | (with_reducible first | exact HB.out | apply Zad | apply Zaa | apply Zac) | exact HB.out)) hb); have n1_ := Zab.mk (hbox); have n2_ := Zab.mk ((by rw [hg]; exact (Zan (by repeat (first | (with_reducible first | exact HB.out | apply Zad | apply Zaa | apply Zac) | exact HB.out))) : w.heap.size ≤ gb752)); have n3_ := Zab.mk ((by rw [hg]; exact (Zan (by repeat (first | (with_reducible first | exact HB.out | apply Zad | apply Zaa | apply Zac) | exact HB.out))) : w.heap.size ≤ gb752)); clear HB; have HB := n0_; have BK752 := n1_; have GW752 := n2_; have GE752 := n3_; clear n0_ n1_ n2_ n3_; clear hb hbox hg; have hcz32_0 : w31.cell? ⟨gb752, 0, none⟩ = some (.int .i64 a0_0) := (Zaj BK752.out 0).trans rfl; have hcz32_1 : w31.cell? ⟨gb752, 1, none⟩ = some (.slice A0_1 l0_1.length c0_1) := (Zaj BK752.out 1).trans rfl; have hfz32_0 := Zak BK752.out 0; have hfz32_1 := Zak BK752.out 1) | ((with_reducible refine Zay (f := 88) rfl ?_); refine goesL_ (some 14) rfl rfl Try.func88 (by kernel_rfl) rfl #[.agg #[.int .i64 a0_0, .slice A0_1 l0_1.length c0_1], .int .i64 a1, .int .i64 a2] rfl (by (try simp only [List.map_toArray, List.map_cons, List.map_nil]); first | done | rfl | (simp only [List.length_drop, List.length_take]; rfl)) ?_; (with_reducible refine (impl_isSum.calls k a0_0 _ _ l0_1 a1 a2 false _ ?side1 ?side2 A4.out).mono ?_); (case side1 => repeat (first | exact (Kd.C_below HR0_1.out HB.out) | (with_reducible refine Kd.C_alloc ?_ _) | (with_reducible refine Kd.C_drewN ?_ _) | (with_reducible refine Kd.C_drew ?_))); (case side2 => exact HC0_1.out); rintro e w33 ⟨rfl, hb⟩; refine ⟨_, rfl, ?_⟩; have n0_ := Zab.mk (Zaq (g := gb752) (o := .cells #[.int .i64 a0_0, .slice A0_1 l0_1.length c0_1] 28 (0, 0)) (by (with_reducible repeat (first | refine Zag ?_ _ | refine Zah ?_ | refine Zaf ?_ _)); exact BK752.out) hb); have n1_ := Zab.mk (Zap (by repeat (first | (with_reducible first | exact HB.out | apply Zad | apply Zaa | apply Zac | refine Zae ?_ GE752.out) | exact HB.out)) hb); clear BK752; clear HB; have BK752 := n0_; have HB := n1_; clear n0_ n1_; (try clear hb); (try clear hb2); (try clear hk); (try clear hi)))
  go_ret2
  exact ⟨by first | rfl | (simp [Zas, Zar] <;> rfl) | (simp [*, Zas, Zar] <;> rfl), by repeat (first | (with_reducible first | exact HB.out | apply Zad | apply Zaa | apply Zac | refine Zae ?_ GE752.out) | exact HB.out)⟩
end Go.Proofs.Ytgmmfdilfpkbmaa.P
