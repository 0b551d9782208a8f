import Derived.Test.YtoelhfbmeegbdaaXP0FnExactIsGroupRounding
import Derived.Test.YtoelhfbmeegbdaaXP8FnExactIsGroupRounding
import Derived.Test.YtoelhfbmeegbdaaXP9FnExactIsGroupRounding
namespace Go.Proofs.Ytoelhfbmeegbdaa.P
open Go.RowKit Go.Proofs.YtoelhfbmeegbdaaW.PrintWords Go.Proofs.YtoelhfbmeegbdaaW.PrintLast Go.Proofs.YtoelhfbmeegbdaaW.PrintMore
attribute [local go_sem] max2_int min2_int max_two min_two max_three min_three max_four min_four
set_option linter.unusedVariables false
set_option linter.unusedSimpArgs false
mutual
def Zar.j0 : Nat → List (List Int) → Bool → Int → List Int → Option (Bool)
 | 0, _, _, _, _ => none
 | k + 1, x1, x16, x213000, x213001 => if x16 = true then (some false) else (Zar.l0 k x1 x1 (x1.length : Int) 0 x213000 x213001)
def Zar.l0 : Nat → List (List Int) → List (List Int) → Int → Int → Int → List Int → Option (Bool)
 | 0, _, _, _, _, _, _ => none
 | k + 1, x1, x17, x18, x19, x213000, x213001 => if x19 < x18 then (if 0 ≤ x19 then (if x19 < (x17.length : Int) then (if ((rd_L1 x17 x19).length : Int) = 0 then (Zar.j2 k x1 x19 (rd_L1 x17 x19) x17 x18 x19 true x213000 x213001) else ((impl_size_int64.f x213001).bind fun t215 => ((impl_isSet.f k (rd_L1 x17 x19) t215).bind fun t216 => (Zar.j2 k x1 x19 (rd_L1 x17 x19) x17 x18 x19 (!t216) x213000 x213001)))) else (none)) else (none)) else (some true)
def Zar.j2 : Nat → List (List Int) → Int → List Int → List (List Int) → Int → Int → Bool → Int → List Int → Option (Bool)
 | 0, _, _, _, _, _, _, _, _, _ => none
 | k + 1, x1, x5, x6, x17, x18, x19, x34, x213000, x213001 => if x34 = true then (some false) else (if 0 ≤ x5 then (if x5 ≤ (x1.length : Int) then ((some (x1.take (x5 : Int).toNat : List (List Int))).bind fun y217 => (Zar.l1 k x1 x6 x17 x18 x19 y217 (y217.length : Int) 0 x213000 x213001)) else (none)) else (none))
def Zar.l1 : Nat → List (List Int) → List Int → List (List Int) → Int → Int → List (List Int) → Int → Int → Int → List Int → Option (Bool)
 | 0, _, _, _, _, _, _, _, _, _, _ => none
 | k + 1, x1, x6, x17, x18, x19, x37, x38, x39, x213000, x213001 => if x39 < x38 then (if 0 ≤ x39 then (if x39 < (x37.length : Int) then ((impl_meet.f k x6 (rd_L1 x37 x39)).bind fun t222 => (if t222 = true then ((impl_isPart.f k x6 (rd_L1 x37 x39)).bind fun t223 => (if t223 = true then (Zar.l1 k x1 x6 x17 x18 x19 x37 x38 (wrap64 (x39 + 1)) x213000 x213001) else ((impl_isPart.f k (rd_L1 x37 x39) x6).bind fun t224 => (if t224 = true then (Zar.l1 k x1 x6 x17 x18 x19 x37 x38 (wrap64 (x39 + 1)) x213000 x213001) else (some false))))) else (Zar.l1 k x1 x6 x17 x18 x19 x37 x38 (wrap64 (x39 + 1)) x213000 x213001))) else (none)) else (none)) else (Zar.l0 k x1 x17 x18 (wrap64 (x19 + 1)) x213000 x213001)
end
def Zar.f (k : Nat) (a0_0 : Int) (l0_1 : List Int) (l1 : List (List Int)) : Option (Bool) := (impl_ValidValues.f k a0_0 l0_1).bind fun t213 => (if t213 = true then (Zar.j0 k l1 (decide ((l1.length : Int) > 12)) a0_0 l0_1) else (Zar.j0 k l1 true a0_0 l0_1))
set_option maxHeartbeats 8000000 in
set_option maxRecDepth 100000 in
theorem Zar.calls (k : Nat) (a0_0 : Int) (A0_1 : Option Addr) (c0_1 : Nat) (l0_1 : List Int) (A1 : Option Addr) (c1 : Nat) (l1 : List (List Int)) (r : Bool) (w : World) (hr0_1 : Kd.C (Kd.int .i64) w A0_1 l0_1.length l0_1) (hc0_1 : l0_1.length ≤ c0_1) (hr1 : Kd.C (Kd.slice 2 (Kd.int .i64)) w A1 l1.length l1) (hc1 : l1.length ≤ c1) (h : Zar.f k a0_0 l0_1 l1 = some r) :
  Calls Try.prog 10 #[.agg #[.int .i64 a0_0, .slice A0_1 l0_1.length c0_1], .slice A1 l1.length c1] w fun e w' => e = .returned (.bool r) ∧ Below w.heap.size w w' := by
 have hu29 := Try.underlying29
 have HR0_1 := Zab.mk hr0_1
 have HC0_1 := Zab.mk hc0_1
 clear hr0_1 hc0_1
 have HR1 := Zab.mk hr1
 have HC1 := Zab.mk hc1
 clear hr1 hc1
 have HB := Zab.mk (Below.refl w.heap.size w)
 have H : ((impl_ValidValues.f k a0_0 l0_1).bind fun t213 => (if t213 = true then (Zar.j0 k l1 (decide ((l1.length : Int) > 12)) a0_0 l0_1) else (Zar.j0 k l1 true a0_0 l0_1))) = some r := h
 clear h
 have HC3 := Zab.mk H
 clear H
 go_enter Try.func10, Try.ntmps10
 go_upto_region 1 with (first | ((with_reducible refine gate_dst (N := 2) rfl ?_); (try (refine gate_guard (by rfl) ?_; dsimp only)); refine box_event ?hg (N := 2) ?hd (cs := #[.int .i64 a0_0, .slice A0_1 l0_1.length c0_1]) (t := 29) ?hr ?_; (case hd => rfl); (case hg => rfl); (case hr => first | (go_simp; done) | (go_simp; rfl)); intro gb212 hg w4 hbox hb; have n0_ := Zab.mk (Zaj (by repeat (first | (with_reducible first | exact HB.out | apply Zad | apply Zaa | apply Zac) | exact HB.out)) hb); have n1_ := Zab.mk (hbox); have n2_ := Zab.mk ((by rw [hg]; exact (Zai (by repeat (first | (with_reducible first | exact HB.out | apply Zad | apply Zaa | apply Zac) | exact HB.out))) : w.heap.size ≤ gb212)); have n3_ := Zab.mk ((by rw [hg]; exact (Zai (by repeat (first | (with_reducible first | exact HB.out | apply Zad | apply Zaa | apply Zac) | exact HB.out))) : w.heap.size ≤ gb212)); clear HB; have HB := n0_; have BK212 := n1_; have GW212 := n2_; have GE212 := n3_; clear n0_ n1_ n2_ n3_; clear hb hbox hg))
 (try simp only [Act.put, List.setIfInBounds_toArray, List.set_cons_zero, List.set_cons_succ])
 go_cut [16] (fun v16 wc => ∃ (kq : Nat) (x16_2 : Bool), v16 = .bool x16_2 ∧ Zab (Zar.j0 kq l1 x16_2 a0_0 l0_1 = some r) ∧ Zab (kq ≤ k) ∧ Zab (wc.heap[gb212]? = some (.cells #[.int .i64 a0_0, (.slice A0_1 l0_1.length c0_1)] 29 (0, 0))) ∧ Zab (Below w.heap.size w wc))
 case first =>
  have H := HC3.out
  clear HC3
  replace H := Option.bind_eq_some_iff.mp H
  obtain ⟨t213, A50, H⟩ := H
  replace H : (if t213 = true then (Zar.j0 k l1 (decide ((l1.length : Int) > 12)) a0_0 l0_1) else (Zar.j0 k l1 true a0_0 l0_1)) = some r := H
  have A5 := Zab.mk A50
  clear A50
  by_cases c6 : t213 = true
  ·subst c6
   have H1 : (Zar.j0 k l1 (decide ((l1.length : Int) > 12)) a0_0 l0_1) = some r := by rw [if_pos rfl] at H; exact H
   clear H
   have H := H1
   clear H1
   have H' := Zab.mk H
   clear H
   have hcz7_0 : w4.cell? ⟨gb212, 0, none⟩ = some (.int .i64 a0_0) := (Zak BK212.out 0).trans rfl
   have hcz7_1 : w4.cell? ⟨gb212, 1, none⟩ = some (.slice A0_1 l0_1.length c0_1) := (Zak BK212.out 1).trans rfl
   have hfz7_0 := Zam BK212.out 0
   have hfz7_1 := Zam BK212.out 1
   as_aux_lemma =>
    go_wp2_with (first | ((with_reducible refine Zap (f := 19) rfl ?_); refine Za9 (some 10) rfl rfl Try.func19 (by kernel_rfl) rfl #[.agg #[.int .i64 a0_0, .slice A0_1 l0_1.length c0_1]] rfl (by (try simp only [List.map_toArray, List.map_cons, List.map_nil]); first | done | rfl | (simp only [List.length_drop, List.length_take]; rfl)) ?_; (with_reducible refine (impl_ValidValues.calls k a0_0 _ _ l0_1 true _ ?side1 ?side2 A5.out).mono ?_); (case side1 => repeat (first | exact (Kd.C_below HR0_1.out HB.out) | (with_reducible refine Kd.C_alloc ?_ _) | (with_reducible refine Kd.C_drewN ?_ _) | (with_reducible refine Kd.C_drew ?_))); (case side2 => exact HC0_1.out); rintro e w8 ⟨rfl, hb⟩; refine ⟨_, rfl, ?_⟩; have n0_ := Zab.mk (Zal (g := gb212) (o := .cells #[.int .i64 a0_0, .slice A0_1 l0_1.length c0_1] 29 (0, 0)) (by (with_reducible repeat (first | refine Zag ?_ _ | refine Zah ?_ | refine Zaf ?_ _)); exact BK212.out) hb); have n1_ := Zab.mk (Zaj (by repeat (first | (with_reducible first | exact HB.out | apply Zad | apply Zaa | apply Zac | refine Zae ?_ GE212.out) | exact HB.out)) hb); clear BK212; clear HB; have BK212 := n0_; have HB := n1_; clear n0_ n1_; (try clear hb); (try clear hb2); (try clear hk); (try clear hi)))
    go_meet
    case rel => exact ⟨_, (decide ((l1.length : Int) > 12)), (by first | rfl | (simp; done) | (simp [*]; done)), H', ⟨by first | omega | exact Nat.le_refl _⟩, ⟨by (with_reducible repeat (first | refine Zag ?_ _ | refine Zah ?_ | refine Zaf ?_ _)); exact BK212.out⟩, ⟨by repeat (first | (with_reducible first | exact HB.out | apply Zad | apply Zaa | apply Zac | refine Zae ?_ GE212.out) | exact HB.out)⟩⟩
  ·replace c6 := Bool.eq_false_iff.mpr c6
   subst c6
   have H1 : (Zar.j0 k l1 true a0_0 l0_1) = some r := by rw [if_neg (show ¬ (false = true) by decide)] at H; exact H
   clear H
   have H := H1
   clear H1
   have H' := Zab.mk H
   clear H
   have hcz9_0 : w4.cell? ⟨gb212, 0, none⟩ = some (.int .i64 a0_0) := (Zak BK212.out 0).trans rfl
   have hcz9_1 : w4.cell? ⟨gb212, 1, none⟩ = some (.slice A0_1 l0_1.length c0_1) := (Zak BK212.out 1).trans rfl
   have hfz9_0 := Zam BK212.out 0
   have hfz9_1 := Zam BK212.out 1
   as_aux_lemma =>
    go_wp2_with (first | ((with_reducible refine Zap (f := 19) rfl ?_); refine Za9 (some 10) rfl rfl Try.func19 (by kernel_rfl) rfl #[.agg #[.int .i64 a0_0, .slice A0_1 l0_1.length c0_1]] rfl (by (try simp only [List.map_toArray, List.map_cons, List.map_nil]); first | done | rfl | (simp only [List.length_drop, List.length_take]; rfl)) ?_; (with_reducible refine (impl_ValidValues.calls k a0_0 _ _ l0_1 false _ ?side1 ?side2 A5.out).mono ?_); (case side1 => repeat (first | exact (Kd.C_below HR0_1.out HB.out) | (with_reducible refine Kd.C_alloc ?_ _) | (with_reducible refine Kd.C_drewN ?_ _) | (with_reducible refine Kd.C_drew ?_))); (case side2 => exact HC0_1.out); rintro e w10 ⟨rfl, hb⟩; refine ⟨_, rfl, ?_⟩; have n0_ := Zab.mk (Zal (g := gb212) (o := .cells #[.int .i64 a0_0, .slice A0_1 l0_1.length c0_1] 29 (0, 0)) (by (with_reducible repeat (first | refine Zag ?_ _ | refine Zah ?_ | refine Zaf ?_ _)); exact BK212.out) hb); have n1_ := Zab.mk (Zaj (by repeat (first | (with_reducible first | exact HB.out | apply Zad | apply Zaa | apply Zac | refine Zae ?_ GE212.out) | exact HB.out)) hb); clear BK212; clear HB; have BK212 := n0_; have HB := n1_; clear n0_ n1_; (try clear hb); (try clear hb2); (try clear hk); (try clear hi)))
    go_meet
    case rel => exact ⟨_, (true), (by first | rfl | (simp; done) | (simp [*]; done)), H', ⟨by first | omega | exact Nat.le_refl _⟩, ⟨by (with_reducible repeat (first | refine Zag ?_ _ | refine Zah ?_ | refine Zaf ?_ _)); exact BK212.out⟩, ⟨by repeat (first | (with_reducible first | exact HB.out | apply Zad | apply Zaa | apply Zac | refine Zae ?_ GE212.out) | exact HB.out)⟩⟩
 case rest =>
  clear HC3
  try clear c1
  try clear p2
  try clear c6
  try clear c10
  try clear hcz7_0
  try clear hcz7_1
  try clear hcz9_0
  try clear hcz9_1
  try clear hfz7_0
  try clear hfz7_1
  try clear hfz9_0
  try clear hfz9_1
  obtain ⟨kq, x16_2, rfl, HA, HJ2, BK212, HB⟩ := hcut
  cases kq with
  | zero => exact absurd HA.out (by simp [Zar.j0])
  | succ kj2 =>
   have H := HA.out
   clear HA
   simp only [Zar.j0] at H
   by_cases c11 : x16_2 = true
   ·subst c11
    have H1 : (some false) = some r := by rw [if_pos rfl] at H; exact H
    clear H
    have H := H1
    clear H1
    obtain rfl := Option.some.inj H
    as_aux_lemma =>
     go_wp2
     go_ret
     exact ⟨by first | rfl | (simp [Zas, Zat] <;> rfl) | (simp [*, Zas, Zat] <;> rfl), by repeat (first | (with_reducible first | exact HB.out | apply Zad | apply Zaa | apply Zac | refine Zae ?_ GE212.out) | exact HB.out)⟩
   ·replace c11 := Bool.eq_false_iff.mpr c11
    subst c11
    have H1 : (Zar.l0 kj2 l1 l1 (l1.length : Int) 0 a0_0 l0_1) = some r := by rw [if_neg (show ¬ (false = true) by decide)] at H; exact H
    clear H
    have H := H1
    clear H1
    have H' := Zab.mk H
    clear H
    go_wp2
    go_loopg [19] kj2 (fun kq v19 w' => ∃ (x19_2 : Int), v19 = .int .i64 x19_2 ∧ Zab (Zar.l0 kq l1 l1 (l1.length : Int) x19_2 a0_0 l0_1 = some r) ∧ Zab (kq ≤ kj2) ∧ Zab (w'.heap[gb212]? = some (.cells #[.int .i64 a0_0, (.slice A0_1 l0_1.length c0_1)] 29 (0, 0))) ∧ Zab (Below w.heap.size w w'))
    case atStart => exact ⟨(0), (by first | rfl | (simp; done) | (simp [*]; done)), H', ⟨Nat.le_refl _⟩, ⟨by (with_reducible repeat (first | refine Zag ?_ _ | refine Zah ?_ | refine Zaf ?_ _)); exact BK212.out⟩, ⟨by repeat (first | (with_reducible first | exact HB.out | apply Zad | apply Zaa | apply Zac | refine Zae ?_ GE212.out) | exact HB.out)⟩⟩
    case round =>
     clear H'
     try clear c1
     try clear p2
     try clear c6
     try clear c10
     try clear c11
     try clear hcz7_0
     try clear hcz7_1
     try clear hcz9_0
     try clear hcz9_1
     try clear hfz7_0
     try clear hfz7_1
     try clear hfz9_0
     try clear hfz9_1
     try clear p2
     obtain ⟨x19_2, rfl, HA, HK2, BK212, HB⟩ := hrel
     cases gk with
     | zero => exact absurd HA.out (by simp [Zar.l0])
     | succ k2 =>
      have H := HA.out
      clear HA
      simp only [Zar.l0] at H
      by_cases c12 : x19_2 < (l1.length : Int)
      ·rw [if_pos c12] at H
       have c12b0 : decide (x19_2 < (l1.length : Int)) = true := decide_eq_true c12
       clear c12
       by_cases c13 : 0 ≤ x19_2
       ·rw [if_pos c13] at H
        have c13b0 : decide (0 ≤ x19_2) = true := decide_eq_true c13
        clear c13
        by_cases c14 : x19_2 < (l1.length : Int)
        ·rw [if_pos c14] at H
         have c14b0 : decide (x19_2 < (l1.length : Int)) = true := decide_eq_true c14
         clear c14
         have HC15 := Zab.mk H
         clear H
         have p214 : 0 ≤ (x19_2 : Int) := of_decide_eq_true (by first | (with_reducible assumption) | assumption)
         have q214 : x19_2 < (l1.length : Int) := of_decide_eq_true (by first | (with_reducible assumption) | assumption)
         obtain ⟨ad214, A214_0, c214_0, e214, hx214_0, hl214_0, hi214_0⟩ := at_L1 HR1.out x19_2 p214 q214
         cases e214
         replace hx214_0 := (HB.out.cell (World.block_lt_of_cell? w _ hx214_0)).trans hx214_0
         have HR214_0 := Zab.mk hi214_0
         have HC214_0 := Zab.mk hl214_0
         clear hi214_0 hl214_0
         replace p214 := eq_true p214
         replace q214 := eq_true q214
         go_upto_region 6 with (fail)
         go_cut [34] (fun v34 wc => ∃ (kq : Nat) (x34_14 : Bool), v34 = .bool x34_14 ∧ Zab (Zar.j2 kq l1 x19_2 (rd_L1 l1 x19_2) l1 (l1.length : Int) x19_2 x34_14 a0_0 l0_1 = some r) ∧ Zab (kq ≤ k2) ∧ Zab (wc.heap[gb212]? = some (.cells #[.int .i64 a0_0, (.slice A0_1 l0_1.length c0_1)] 29 (0, 0))) ∧ Zab (Below w.heap.size w wc))
         case first =>
          have H := HC15.out
          clear HC15
          by_cases c16 : ((rd_L1 l1 x19_2).length : Int) = 0
          ·rw [if_pos c16] at H
           have c16b0 : (((rd_L1 l1 x19_2).length : Int) == 0) = true := beq_iff_eq.mpr c16
           have c16b1 : (((rd_L1 l1 x19_2).length : Int) != 0) = false := bne_eq_false_iff_eq.mpr c16
           clear c16
           (first | rw [c16b0] | (simp only [i64_w, i32_w]; rw [c16b0]) | skip)
           have H' := Zab.mk H
           clear H
           as_aux_lemma =>
            go_wp2
            go_meet
            case rel => exact ⟨_, (true), (by first | rfl | (simp; done) | (simp [*]; done)), H', ⟨by have := HJ2.out; have := HK2.out; first | omega | exact Nat.le_refl _⟩, ⟨by (with_reducible repeat (first | refine Zag ?_ _ | refine Zah ?_ | refine Zaf ?_ _)); exact BK212.out⟩, ⟨by repeat (first | (with_reducible first | exact HB.out | apply Zad | apply Zaa | apply Zac | refine Zae ?_ GE212.out) | exact HB.out)⟩⟩
          ·rw [if_neg c16] at H
           have c16b0 : (((rd_L1 l1 x19_2).length : Int) == 0) = false := beq_eq_false_iff_ne.mpr c16
           have c16b1 : (((rd_L1 l1 x19_2).length : Int) != 0) = true := bne_iff_ne.mpr c16
           have c16b2 : ¬ ((rd_L1 l1 x19_2) = []) := fun h_ => c16 (by rw [h_]; rfl)
           (first | rw [c16b0] | (simp only [i64_w, i32_w]; rw [c16b0]) | skip)
           replace H := Option.bind_eq_some_iff.mp H
           obtain ⟨t215, A170, H⟩ := H
           replace H : ((impl_isSet.f k2 (rd_L1 l1 x19_2) t215).bind fun t216 => (Zar.j2 k2 l1 x19_2 (rd_L1 l1 x19_2) l1 (l1.length : Int) x19_2 (!t216) a0_0 l0_1)) = some r := H
           have A17 := Zab.mk A170
           clear A170
           replace H := Option.bind_eq_some_iff.mp H
           obtain ⟨t216, A180, H⟩ := H
           replace H : (Zar.j2 k2 l1 x19_2 (rd_L1 l1 x19_2) l1 (l1.length : Int) x19_2 (!t216) a0_0 l0_1) = some r := H
           have A18 := Zab.mk A180
           clear A180
           have H' := Zab.mk H
           clear H
           have hcz19_0 : wr.cell? ⟨gb212, 0, none⟩ = some (.int .i64 a0_0) := (Zak BK212.out 0).trans rfl
           have hcz19_1 : wr.cell? ⟨gb212, 1, none⟩ = some (.slice A0_1 l0_1.length c0_1) := (Zak BK212.out 1).trans rfl
           have hfz19_0 := Zam BK212.out 0
           have hfz19_1 := Zam BK212.out 1
           as_aux_lemma =>
            go_wp2_with (first | (go_at_call 21; (with_reducible refine (impl_size_int64.calls _ _ l0_1 t215 _ ?side1 ?side2 A17.out).mono ?_); (case side1 => repeat (first | exact (Kd.C_below HR0_1.out HB.out) | (with_reducible refine Kd.C_alloc ?_ _) | (with_reducible refine Kd.C_drewN ?_ _) | (with_reducible refine Kd.C_drew ?_))); (case side2 => exact HC0_1.out); rintro e w' ⟨rfl, ⟨nd, rfl⟩⟩) | (go_at_call 20; (with_reducible refine (impl_isSet.calls k2 _ _ (rd_L1 l1 x19_2) t215 t216 _ ?side1 ?side2 A18.out).mono ?_); (case side1 => repeat (first | exact (Kd.C_below HR214_0.out (by repeat (first | (with_reducible first | exact HB.out | apply Zad | apply Zaa | apply Zac | refine Zae ?_ GE212.out) | exact HB.out))) | (with_reducible refine Kd.C_alloc ?_ _) | (with_reducible refine Kd.C_drewN ?_ _) | (with_reducible refine Kd.C_drew ?_))); (case side2 => exact HC214_0.out); rintro e w' ⟨rfl, ⟨nd, rfl⟩⟩))
            go_meet
            case rel => exact ⟨_, (!t216), (by first | rfl | (simp; done) | (simp [*]; done)), H', ⟨by have := HJ2.out; have := HK2.out; first | omega | exact Nat.le_refl _⟩, ⟨by (with_reducible repeat (first | refine Zag ?_ _ | refine Zah ?_ | refine Zaf ?_ _)); exact BK212.out⟩, ⟨by repeat (first | (with_reducible first | exact HB.out | apply Zad | apply Zaa | apply Zac | refine Zae ?_ GE212.out) | exact HB.out)⟩⟩
         case rest =>
          clear HC15
          try clear c1
          try clear c2
          try clear p2
          try clear q2
          try clear hx2
          try clear c6
          try clear c10
          try clear c11
          try clear c12
          try clear c12b0
          try clear c13
          try clear c13b0
          try clear c14
          try clear c14b0
          try clear c16
          try clear c16b0
          try clear c16b1
          try clear c16b2
          try clear c19
          try clear hcz19_0
          try clear hcz19_1
          try clear hcz7_0
          try clear hcz7_1
          try clear hcz9_0
          try clear hcz9_1
          try clear hfz19_0
          try clear hfz19_1
          try clear hfz7_0
          try clear hfz7_1
          try clear hfz9_0
          try clear hfz9_1
          try clear hx214_0
          try clear p2
          try clear p214
          try clear q214
          obtain ⟨kq, x34_14, rfl, HA, HJ14, BK212, HB⟩ := hcut
          cases kq with
          | zero => exact absurd HA.out (by simp [Zar.j2])
          | succ kj14 =>
           have H := HA.out
           clear HA
           simp only [Zar.j2] at H
           by_cases c20 : x34_14 = true
           ·subst c20
            have H1 : (some false) = some r := by rw [if_pos rfl] at H; exact H
            clear H
            have H := H1
            clear H1
            obtain rfl := Option.some.inj H
            as_aux_lemma =>
             go_wp2
             go_ret
             exact ⟨by first | rfl | (simp [Zas, Zat] <;> rfl) | (simp [*, Zas, Zat] <;> rfl), by repeat (first | (with_reducible first | exact HB.out | apply Zad | apply Zaa | apply Zac | refine Zae ?_ GE212.out) | exact HB.out)⟩
           ·replace c20 := Bool.eq_false_iff.mpr c20
            subst c20
            have H1 : (if 0 ≤ x19_2 then (if x19_2 ≤ (l1.length : Int) then ((some (l1.take (x19_2 : Int).toNat : List (List Int))).bind fun y217 => (Zar.l1 kj14 l1 (rd_L1 l1 x19_2) l1 (l1.length : Int) x19_2 y217 (y217.length : Int) 0 a0_0 l0_1)) else (none)) else (none)) = some r := by rw [if_neg (show ¬ (false = true) by decide)] at H; exact H
            clear H
            have H := H1
            clear H1
            by_cases c21 : 0 ≤ x19_2
            ·rw [if_pos c21] at H
             have c21b0 := eq_true c21
             have c21b1 : decide (0 ≤ x19_2) = true := decide_eq_true c21
             clear c21
             by_cases c22 : x19_2 ≤ (l1.length : Int)
             ·rw [if_pos c22] at H
              have c22b0 := eq_true c22
              have c22b1 : decide (x19_2 ≤ (l1.length : Int)) = true := decide_eq_true c22
              clear c22
              obtain ⟨y217, hy217⟩ : ∃ y_ : List (List Int), y_ = (l1.take (x19_2 : Int).toNat) := ⟨_, rfl⟩
              replace H : (Zar.l1 kj14 l1 (rd_L1 l1 x19_2) l1 (l1.length : Int) x19_2 y217 (y217.length : Int) 0 a0_0 l0_1) = some r := by first | (rw [hy217]; with_reducible exact H) | (have H2_ := (Option.bind_some _ _).symm.trans H; rw [hy217]; with_reducible exact H2_) | (have H2_ := (Option.bind_some _ _).symm.trans H; with_reducible exact H2_) | with_reducible exact H | (rw [hy217]; exact H) | exact H
              have Ny217 := Zab.mk hy217
              clear hy217
              have H' := Zab.mk H
              clear H
              have q23 : (x19_2 : Int) ≤ ((l1.length : Int) : Int) := of_decide_eq_true (by first | (with_reducible assumption) | assumption)
              obtain ⟨i023, hi023, _, hsz23, _⟩ := info_parts info22
              have hroom23 : l1.length ≤ c1 := HC1.out
              have hC23 : Kd.C (Kd.slice 2 (Kd.int .i64)) _ (some ad214) l1.length l1 := HR1.out
              have hcut23 := cut_to (P := Try.prog) 25 22 .i64 Try.underlying25 hi023 (some ad214) l1.length c1 x19_2 (of_decide_eq_true (by first | (with_reducible assumption) | assumption)) q23 hroom23
              have hr23 := Kd.C_take (m := (x19_2 : Int).toNat) hC23 (by omega)
              have hy23 : y217.length = (x19_2 : Int).toNat := (by rw [Ny217.out, List.length_take]; omega)
              rw [← Ny217.out] at hr23
              rw [← hy23] at hcut23
              have HR220 := Zab.mk hr23
              have HC220 := Zab.mk (show y217.length ≤ c1 from by omega)
              clear hr23 hC23 hroom23 hi023 hsz23
              have KY23 := Zab.mk hy23
              clear hy23
              replace q23 := eq_true q23
              go_wp2
              go_loopg [39] kj14 (fun kq v39 w' => ∃ (x39_4 : Int), v39 = .int .i64 x39_4 ∧ Zab (Zar.l1 kq l1 (rd_L1 l1 x19_2) l1 (l1.length : Int) x19_2 y217 (y217.length : Int) x39_4 a0_0 l0_1 = some r) ∧ Zab (kq ≤ kj14) ∧ Zab (w'.heap[gb212]? = some (.cells #[.int .i64 a0_0, (.slice A0_1 l0_1.length c0_1)] 29 (0, 0))) ∧ Zab (Below w.heap.size w w'))
              case atStart => exact ⟨(0), (by first | rfl | (simp; done) | (simp [*]; done)), H', ⟨Nat.le_refl _⟩, ⟨by (with_reducible repeat (first | refine Zag ?_ _ | refine Zah ?_ | refine Zaf ?_ _)); exact BK212.out⟩, ⟨by repeat (first | (with_reducible first | exact HB.out | apply Zad | apply Zaa | apply Zac | refine Zae ?_ GE212.out) | exact HB.out)⟩⟩
              case round =>
               clear H'
               try clear c1
               try clear c2
               try clear p2
               try clear q2
               try clear hx2
               try clear c6
               try clear c10
               try clear c11
               try clear c12
               try clear c12b0
               try clear c13
               try clear c13b0
               try clear c14
               try clear c14b0
               try clear c16
               try clear c16b0
               try clear c16b1
               try clear c16b2
               try clear c19
               try clear c20
               try clear c21
               try clear c21b0
               try clear c21b1
               try clear p21
               try clear q21
               try clear hx21
               try clear c22
               try clear c22b0
               try clear c22b1
               try clear q23
               try clear hcz19_0
               try clear hcz19_1
               try clear hcz7_0
               try clear hcz7_1
               try clear hcz9_0
               try clear hcz9_1
               try clear hfz19_0
               try clear hfz19_1
               try clear hfz7_0
               try clear hfz7_1
               try clear hfz9_0
               try clear hfz9_1
               try clear hx214_0
               try clear p2
               try clear p214
               try clear q2
               try clear q214
               try clear q23
               obtain ⟨x39_4, rfl, HA, HK4, BK212, HB⟩ := hrel
               cases gk with
               | zero => exact absurd HA.out (by simp [Zar.l1])
               | succ k4 =>
                have H := HA.out
                clear HA
                simp only [Zar.l1] at H
                by_cases c24 : x39_4 < (y217.length : Int)
                ·rw [if_pos c24] at H
                 have c24b0 : decide (x39_4 < (y217.length : Int)) = true := decide_eq_true c24
                 clear c24
                 by_cases c25 : 0 ≤ x39_4
                 ·rw [if_pos c25] at H
                  have c25b0 : decide (0 ≤ x39_4) = true := decide_eq_true c25
                  clear c25
                  by_cases c26 : x39_4 < (y217.length : Int)
                  ·rw [if_pos c26] at H
                   have c26b0 : decide (x39_4 < (y217.length : Int)) = true := decide_eq_true c26
                   clear c26
                   replace H := Option.bind_eq_some_iff.mp H
                   obtain ⟨t222, A270, H⟩ := H
                   replace H : (if t222 = true then ((impl_isPart.f k4 (rd_L1 l1 x19_2) (rd_L1 y217 x39_4)).bind fun t223 => (if t223 = true then (Zar.l1 k4 l1 (rd_L1 l1 x19_2) l1 (l1.length : Int) x19_2 y217 (y217.length : Int) (wrap64 (x39_4 + 1)) a0_0 l0_1) else ((impl_isPart.f k4 (rd_L1 y217 x39_4) (rd_L1 l1 x19_2)).bind fun t224 => (if t224 = true then (Zar.l1 k4 l1 (rd_L1 l1 x19_2) l1 (l1.length : Int) x19_2 y217 (y217.length : Int) (wrap64 (x39_4 + 1)) a0_0 l0_1) else (some false))))) else (Zar.l1 k4 l1 (rd_L1 l1 x19_2) l1 (l1.length : Int) x19_2 y217 (y217.length : Int) (wrap64 (x39_4 + 1)) a0_0 l0_1)) = some r := H
                   have A27 := Zab.mk A270
                   clear A270
                   by_cases c28 : t222 = true
                   ·subst c28
                    have H1 : ((impl_isPart.f k4 (rd_L1 l1 x19_2) (rd_L1 y217 x39_4)).bind fun t223 => (if t223 = true then (Zar.l1 k4 l1 (rd_L1 l1 x19_2) l1 (l1.length : Int) x19_2 y217 (y217.length : Int) (wrap64 (x39_4 + 1)) a0_0 l0_1) else ((impl_isPart.f k4 (rd_L1 y217 x39_4) (rd_L1 l1 x19_2)).bind fun t224 => (if t224 = true then (Zar.l1 k4 l1 (rd_L1 l1 x19_2) l1 (l1.length : Int) x19_2 y217 (y217.length : Int) (wrap64 (x39_4 + 1)) a0_0 l0_1) else (some false))))) = some r := by rw [if_pos rfl] at H; exact H
                    clear H
                    have H := H1
                    clear H1
                    replace H := Option.bind_eq_some_iff.mp H
                    obtain ⟨t223, A290, H⟩ := H
                    replace H : (if t223 = true then (Zar.l1 k4 l1 (rd_L1 l1 x19_2) l1 (l1.length : Int) x19_2 y217 (y217.length : Int) (wrap64 (x39_4 + 1)) a0_0 l0_1) else ((impl_isPart.f k4 (rd_L1 y217 x39_4) (rd_L1 l1 x19_2)).bind fun t224 => (if t224 = true then (Zar.l1 k4 l1 (rd_L1 l1 x19_2) l1 (l1.length : Int) x19_2 y217 (y217.length : Int) (wrap64 (x39_4 + 1)) a0_0 l0_1) else (some false)))) = some r := H
                    have A29 := Zab.mk A290
                    clear A290
                    by_cases c30 : t223 = true
                    ·subst c30
                     have H1 : (Zar.l1 k4 l1 (rd_L1 l1 x19_2) l1 (l1.length : Int) x19_2 y217 (y217.length : Int) (wrap64 (x39_4 + 1)) a0_0 l0_1) = some r := by rw [if_pos rfl] at H; exact H
                     clear H
                     have H := H1
                     clear H1
                     have H' := Zab.mk H
                     clear H
                     have p221 : 0 ≤ (x39_4 : Int) := of_decide_eq_true (by first | (with_reducible assumption) | assumption)
                     have q221 : x39_4 < (y217.length : Int) := of_decide_eq_true (by first | (with_reducible assumption) | assumption)
                     obtain ⟨ad221, A221_0, c221_0, e221, hx221_0, hl221_0, hi221_0⟩ := at_L1 HR220.out x39_4 p221 q221
                     obtain rfl : ad214 = ad221 := (by injection e221)
                     replace hx221_0 := (HB.out.cell (World.block_lt_of_cell? w _ hx221_0)).trans hx221_0
                     have HR221_0 := Zab.mk hi221_0
                     have HC221_0 := Zab.mk hl221_0
                     clear hi221_0 hl221_0
                     replace p221 := eq_true p221
                     replace q221 := eq_true q221
                     as_aux_lemma =>
                      go_wp2_with (first | ((with_reducible refine Zap (f := 22) rfl ?_); refine Za9 (some 45) rfl rfl Try.func22 (by kernel_rfl) rfl #[.slice A214_0 (rd_L1 l1 x19_2).length c214_0, .slice A221_0 (rd_L1 y217 x39_4).length c221_0] rfl (by (try simp only [List.map_toArray, List.map_cons, List.map_nil]); first | done | rfl | (simp only [List.length_drop, List.length_take]; rfl)) ?_; (with_reducible refine (impl_meet.calls k4 _ _ (rd_L1 l1 x19_2) _ _ (rd_L1 y217 x39_4) true _ ?side1 ?side2 ?side3 ?side4 A27.out).mono ?_); (case side1 => repeat (first | exact (Kd.C_below HR214_0.out HB.out) | (with_reducible refine Kd.C_alloc ?_ _) | (with_reducible refine Kd.C_drewN ?_ _) | (with_reducible refine Kd.C_drew ?_))); (case side2 => exact HC214_0.out); (case side3 => repeat (first | exact (Kd.C_below HR221_0.out HB.out) | (with_reducible refine Kd.C_alloc ?_ _) | (with_reducible refine Kd.C_drewN ?_ _) | (with_reducible refine Kd.C_drew ?_))); (case side4 => exact HC221_0.out); rintro e w31 ⟨rfl, hb⟩; refine ⟨_, rfl, ?_⟩; have n0_ := Zab.mk (Zal (g := gb212) (o := .cells #[.int .i64 a0_0, .slice A0_1 l0_1.length c0_1] 29 (0, 0)) (by (with_reducible repeat (first | refine Zag ?_ _ | refine Zah ?_ | refine Zaf ?_ _)); exact BK212.out) hb); have n1_ := Zab.mk (Zaj (by repeat (first | (with_reducible first | exact HB.out | apply Zad | apply Zaa | apply Zac | refine Zae ?_ GE212.out) | exact HB.out)) hb); clear BK212; clear HB; have BK212 := n0_; have HB := n1_; clear n0_ n1_; (try clear hb); (try clear hb2); (try clear hk); (try clear hi)) | (go_at_call 23; (with_reducible refine (impl_isPart.calls k4 _ _ (rd_L1 l1 x19_2) _ _ (rd_L1 y217 x39_4) true _ ?side1 ?side2 ?side3 ?side4 A29.out).mono ?_); (case side1 => repeat (first | exact (Kd.C_below HR214_0.out HB.out) | (with_reducible refine Kd.C_alloc ?_ _) | (with_reducible refine Kd.C_drewN ?_ _) | (with_reducible refine Kd.C_drew ?_))); (case side2 => exact HC214_0.out); (case side3 => repeat (first | exact (Kd.C_below HR221_0.out HB.out) | (with_reducible refine Kd.C_alloc ?_ _) | (with_reducible refine Kd.C_drewN ?_ _) | (with_reducible refine Kd.C_drew ?_))); (case side4 => exact HC221_0.out); rintro e w32 ⟨rfl, hb⟩; have n0_ := Zab.mk (Zal (g := gb212) (o := .cells #[.int .i64 a0_0, .slice A0_1 l0_1.length c0_1] 29 (0, 0)) (by (with_reducible repeat (first | refine Zag ?_ _ | refine Zah ?_ | refine Zaf ?_ _)); exact BK212.out) hb); have n1_ := Zab.mk (Zaj (by repeat (first | (with_reducible first | exact HB.out | apply Zad | apply Zaa | apply Zac | refine Zae ?_ GE212.out) | exact HB.out)) hb); clear BK212; clear HB; have BK212 := n0_; have HB := n1_; clear n0_ n1_; (try clear hb); (try clear hb2); (try clear hk); (try clear hi)))
                      go_roundg k4
                      case measure => have := HJ2.out; have := HK2.out; have := HJ14.out; have := HK4.out; omega
                      case rel => exact ⟨(wrap64 (x39_4 + 1)), (by first | rfl | (simp; done) | (simp [*]; done)), H', ⟨by have := HJ2.out; have := HK2.out; have := HJ14.out; have := HK4.out; omega⟩, ⟨by (with_reducible repeat (first | refine Zag ?_ _ | refine Zah ?_ | refine Zaf ?_ _)); exact BK212.out⟩, ⟨by repeat (first | (with_reducible first | exact HB.out | apply Zad | apply Zaa | apply Zac | refine Zae ?_ GE212.out) | exact HB.out)⟩⟩
                    ·replace c30 := Bool.eq_false_iff.mpr c30
                     subst c30
                     have H1 : ((impl_isPart.f k4 (rd_L1 y217 x39_4) (rd_L1 l1 x19_2)).bind fun t224 => (if t224 = true then (Zar.l1 k4 l1 (rd_L1 l1 x19_2) l1 (l1.length : Int) x19_2 y217 (y217.length : Int) (wrap64 (x39_4 + 1)) a0_0 l0_1) else (some false))) = some r := by rw [if_neg (show ¬ (false = true) by decide)] at H; exact H
                     clear H
                     have H := H1
                     clear H1
                     replace H := Option.bind_eq_some_iff.mp H
                     obtain ⟨t224, A330, H⟩ := H
                     replace H : (if t224 = true then (Zar.l1 k4 l1 (rd_L1 l1 x19_2) l1 (l1.length : Int) x19_2 y217 (y217.length : Int) (wrap64 (x39_4 + 1)) a0_0 l0_1) else (some false)) = some r := H
                     have A33 := Zab.mk A330
                     clear A330
                     by_cases c34 : t224 = true
                     ·subst c34
                      have H1 : (Zar.l1 k4 l1 (rd_L1 l1 x19_2) l1 (l1.length : Int) x19_2 y217 (y217.length : Int) (wrap64 (x39_4 + 1)) a0_0 l0_1) = some r := by rw [if_pos rfl] at H; exact H
                      clear H
                      have H := H1
                      clear H1
                      have H' := Zab.mk H
                      clear H
                      have p221 : 0 ≤ (x39_4 : Int) := of_decide_eq_true (by first | (with_reducible assumption) | assumption)
                      have q221 : x39_4 < (y217.length : Int) := of_decide_eq_true (by first | (with_reducible assumption) | assumption)
                      obtain ⟨ad221, A221_0, c221_0, e221, hx221_0, hl221_0, hi221_0⟩ := at_L1 HR220.out x39_4 p221 q221
                      obtain rfl : ad214 = ad221 := (by injection e221)
                      replace hx221_0 := (HB.out.cell (World.block_lt_of_cell? w _ hx221_0)).trans hx221_0
                      have HR221_0 := Zab.mk hi221_0
                      have HC221_0 := Zab.mk hl221_0
                      clear hi221_0 hl221_0
                      replace p221 := eq_true p221
                      replace q221 := eq_true q221
                      as_aux_lemma =>
                       go_wp2_with (first | ((with_reducible refine Zap (f := 22) rfl ?_); refine Za9 (some 45) rfl rfl Try.func22 (by kernel_rfl) rfl #[.slice A214_0 (rd_L1 l1 x19_2).length c214_0, .slice A221_0 (rd_L1 y217 x39_4).length c221_0] rfl (by (try simp only [List.map_toArray, List.map_cons, List.map_nil]); first | done | rfl | (simp only [List.length_drop, List.length_take]; rfl)) ?_; (with_reducible refine (impl_meet.calls k4 _ _ (rd_L1 l1 x19_2) _ _ (rd_L1 y217 x39_4) true _ ?side1 ?side2 ?side3 ?side4 A27.out).mono ?_); (case side1 => repeat (first | exact (Kd.C_below HR214_0.out HB.out) | (with_reducible refine Kd.C_alloc ?_ _) | (with_reducible refine Kd.C_drewN ?_ _) | (with_reducible refine Kd.C_drew ?_))); (case side2 => exact HC214_0.out); (case side3 => repeat (first | exact (Kd.C_below HR221_0.out HB.out) | (with_reducible refine Kd.C_alloc ?_ _) | (with_reducible refine Kd.C_drewN ?_ _) | (with_reducible refine Kd.C_drew ?_))); (case side4 => exact HC221_0.out); rintro e w35 ⟨rfl, hb⟩; refine ⟨_, rfl, ?_⟩; have n0_ := Zab.mk (Zal (g := gb212) (o := .cells #[.int .i64 a0_0, .slice A0_1 l0_1.length c0_1] 29 (0, 0)) (by (with_reducible repeat (first | refine Zag ?_ _ | refine Zah ?_ | refine Zaf ?_ _)); exact BK212.out) hb); have n1_ := Zab.mk (Zaj (by repeat (first | (with_reducible first | exact HB.out | apply Zad | apply Zaa | apply Zac | refine Zae ?_ GE212.out) | exact HB.out)) hb); clear BK212; clear HB; have BK212 := n0_; have HB := n1_; clear n0_ n1_; (try clear hb); (try clear hb2); (try clear hk); (try clear hi)) | (go_at_call 23; (with_reducible refine (impl_isPart.calls k4 _ _ (rd_L1 l1 x19_2) _ _ (rd_L1 y217 x39_4) false _ ?side1 ?side2 ?side3 ?side4 A29.out).mono ?_); (case side1 => repeat (first | exact (Kd.C_below HR214_0.out HB.out) | (with_reducible refine Kd.C_alloc ?_ _) | (with_reducible refine Kd.C_drewN ?_ _) | (with_reducible refine Kd.C_drew ?_))); (case side2 => exact HC214_0.out); (case side3 => repeat (first | exact (Kd.C_below HR221_0.out HB.out) | (with_reducible refine Kd.C_alloc ?_ _) | (with_reducible refine Kd.C_drewN ?_ _) | (with_reducible refine Kd.C_drew ?_))); (case side4 => exact HC221_0.out); rintro e w36 ⟨rfl, hb⟩; have n0_ := Zab.mk (Zal (g := gb212) (o := .cells #[.int .i64 a0_0, .slice A0_1 l0_1.length c0_1] 29 (0, 0)) (by (with_reducible repeat (first | refine Zag ?_ _ | refine Zah ?_ | refine Zaf ?_ _)); exact BK212.out) hb); have n1_ := Zab.mk (Zaj (by repeat (first | (with_reducible first | exact HB.out | apply Zad | apply Zaa | apply Zac | refine Zae ?_ GE212.out) | exact HB.out)) hb); clear BK212; clear HB; have BK212 := n0_; have HB := n1_; clear n0_ n1_; (try clear hb); (try clear hb2); (try clear hk); (try clear hi)) | (go_at_call 23; (with_reducible refine (impl_isPart.calls k4 _ _ (rd_L1 y217 x39_4) _ _ (rd_L1 l1 x19_2) true _ ?side1 ?side2 ?side3 ?side4 A33.out).mono ?_); (case side1 => repeat (first | exact (Kd.C_below HR221_0.out HB.out) | (with_reducible refine Kd.C_alloc ?_ _) | (with_reducible refine Kd.C_drewN ?_ _) | (with_reducible refine Kd.C_drew ?_))); (case side2 => exact HC221_0.out); (case side3 => repeat (first | exact (Kd.C_below HR214_0.out HB.out) | (with_reducible refine Kd.C_alloc ?_ _) | (with_reducible refine Kd.C_drewN ?_ _) | (with_reducible refine Kd.C_drew ?_))); (case side4 => exact HC214_0.out); rintro e w37 ⟨rfl, hb⟩; have n0_ := Zab.mk (Zal (g := gb212) (o := .cells #[.int .i64 a0_0, .slice A0_1 l0_1.length c0_1] 29 (0, 0)) (by (with_reducible repeat (first | refine Zag ?_ _ | refine Zah ?_ | refine Zaf ?_ _)); exact BK212.out) hb); have n1_ := Zab.mk (Zaj (by repeat (first | (with_reducible first | exact HB.out | apply Zad | apply Zaa | apply Zac | refine Zae ?_ GE212.out) | exact HB.out)) hb); clear BK212; clear HB; have BK212 := n0_; have HB := n1_; clear n0_ n1_; (try clear hb); (try clear hb2); (try clear hk); (try clear hi)))
                       go_roundg k4
                       case measure => have := HJ2.out; have := HK2.out; have := HJ14.out; have := HK4.out; omega
                       case rel => exact ⟨(wrap64 (x39_4 + 1)), (by first | rfl | (simp; done) | (simp [*]; done)), H', ⟨by have := HJ2.out; have := HK2.out; have := HJ14.out; have := HK4.out; omega⟩, ⟨by (with_reducible repeat (first | refine Zag ?_ _ | refine Zah ?_ | refine Zaf ?_ _)); exact BK212.out⟩, ⟨by repeat (first | (with_reducible first | exact HB.out | apply Zad | apply Zaa | apply Zac | refine Zae ?_ GE212.out) | exact HB.out)⟩⟩
                     ·replace c34 := Bool.eq_false_iff.mpr c34
                      subst c34
                      have H1 : (some false) = some r := by rw [if_neg (show ¬ (false = true) by decide)] at H; exact H
                      clear H
                      have H := H1
                      clear H1
                      obtain rfl := Option.some.inj H
                      have p221 : 0 ≤ (x39_4 : Int) := of_decide_eq_true (by first | (with_reducible assumption) | assumption)
                      have q221 : x39_4 < (y217.length : Int) := of_decide_eq_true (by first | (with_reducible assumption) | assumption)
                      obtain ⟨ad221, A221_0, c221_0, e221, hx221_0, hl221_0, hi221_0⟩ := at_L1 HR220.out x39_4 p221 q221
                      obtain rfl : ad214 = ad221 := (by injection e221)
                      replace hx221_0 := (HB.out.cell (World.block_lt_of_cell? w _ hx221_0)).trans hx221_0
                      have HR221_0 := Zab.mk hi221_0
                      have HC221_0 := Zab.mk hl221_0
                      clear hi221_0 hl221_0
                      replace p221 := eq_true p221
                      replace q221 := eq_true q221
                      as_aux_lemma =>
                       go_wp2_with (first | ((with_reducible refine Zap (f := 22) rfl ?_); refine Za9 (some 45) rfl rfl Try.func22 (by kernel_rfl) rfl #[.slice A214_0 (rd_L1 l1 x19_2).length c214_0, .slice A221_0 (rd_L1 y217 x39_4).length c221_0] rfl (by (try simp only [List.map_toArray, List.map_cons, List.map_nil]); first | done | rfl | (simp only [List.length_drop, List.length_take]; rfl)) ?_; (with_reducible refine (impl_meet.calls k4 _ _ (rd_L1 l1 x19_2) _ _ (rd_L1 y217 x39_4) true _ ?side1 ?side2 ?side3 ?side4 A27.out).mono ?_); (case side1 => repeat (first | exact (Kd.C_below HR214_0.out HB.out) | (with_reducible refine Kd.C_alloc ?_ _) | (with_reducible refine Kd.C_drewN ?_ _) | (with_reducible refine Kd.C_drew ?_))); (case side2 => exact HC214_0.out); (case side3 => repeat (first | exact (Kd.C_below HR221_0.out HB.out) | (with_reducible refine Kd.C_alloc ?_ _) | (with_reducible refine Kd.C_drewN ?_ _) | (with_reducible refine Kd.C_drew ?_))); (case side4 => exact HC221_0.out); rintro e w38 ⟨rfl, hb⟩; refine ⟨_, rfl, ?_⟩; have n0_ := Zab.mk (Zal (g := gb212) (o := .cells #[.int .i64 a0_0, .slice A0_1 l0_1.length c0_1] 29 (0, 0)) (by (with_reducible repeat (first | refine Zag ?_ _ | refine Zah ?_ | refine Zaf ?_ _)); exact BK212.out) hb); have n1_ := Zab.mk (Zaj (by repeat (first | (with_reducible first | exact HB.out | apply Zad | apply Zaa | apply Zac | refine Zae ?_ GE212.out) | exact HB.out)) hb); clear BK212; clear HB; have BK212 := n0_; have HB := n1_; clear n0_ n1_; (try clear hb); (try clear hb2); (try clear hk); (try clear hi)) | (go_at_call 23; (with_reducible refine (impl_isPart.calls k4 _ _ (rd_L1 l1 x19_2) _ _ (rd_L1 y217 x39_4) false _ ?side1 ?side2 ?side3 ?side4 A29.out).mono ?_); (case side1 => repeat (first | exact (Kd.C_below HR214_0.out HB.out) | (with_reducible refine Kd.C_alloc ?_ _) | (with_reducible refine Kd.C_drewN ?_ _) | (with_reducible refine Kd.C_drew ?_))); (case side2 => exact HC214_0.out); (case side3 => repeat (first | exact (Kd.C_below HR221_0.out HB.out) | (with_reducible refine Kd.C_alloc ?_ _) | (with_reducible refine Kd.C_drewN ?_ _) | (with_reducible refine Kd.C_drew ?_))); (case side4 => exact HC221_0.out); rintro e w39 ⟨rfl, hb⟩; have n0_ := Zab.mk (Zal (g := gb212) (o := .cells #[.int .i64 a0_0, .slice A0_1 l0_1.length c0_1] 29 (0, 0)) (by (with_reducible repeat (first | refine Zag ?_ _ | refine Zah ?_ | refine Zaf ?_ _)); exact BK212.out) hb); have n1_ := Zab.mk (Zaj (by repeat (first | (with_reducible first | exact HB.out | apply Zad | apply Zaa | apply Zac | refine Zae ?_ GE212.out) | exact HB.out)) hb); clear BK212; clear HB; have BK212 := n0_; have HB := n1_; clear n0_ n1_; (try clear hb); (try clear hb2); (try clear hk); (try clear hi)) | (go_at_call 23; (with_reducible refine (impl_isPart.calls k4 _ _ (rd_L1 y217 x39_4) _ _ (rd_L1 l1 x19_2) false _ ?side1 ?side2 ?side3 ?side4 A33.out).mono ?_); (case side1 => repeat (first | exact (Kd.C_below HR221_0.out HB.out) | (with_reducible refine Kd.C_alloc ?_ _) | (with_reducible refine Kd.C_drewN ?_ _) | (with_reducible refine Kd.C_drew ?_))); (case side2 => exact HC221_0.out); (case side3 => repeat (first | exact (Kd.C_below HR214_0.out HB.out) | (with_reducible refine Kd.C_alloc ?_ _) | (with_reducible refine Kd.C_drewN ?_ _) | (with_reducible refine Kd.C_drew ?_))); (case side4 => exact HC214_0.out); rintro e w40 ⟨rfl, hb⟩; have n0_ := Zab.mk (Zal (g := gb212) (o := .cells #[.int .i64 a0_0, .slice A0_1 l0_1.length c0_1] 29 (0, 0)) (by (with_reducible repeat (first | refine Zag ?_ _ | refine Zah ?_ | refine Zaf ?_ _)); exact BK212.out) hb); have n1_ := Zab.mk (Zaj (by repeat (first | (with_reducible first | exact HB.out | apply Zad | apply Zaa | apply Zac | refine Zae ?_ GE212.out) | exact HB.out)) hb); clear BK212; clear HB; have BK212 := n0_; have HB := n1_; clear n0_ n1_; (try clear hb); (try clear hb2); (try clear hk); (try clear hi)))
                       go_ret
                       exact ⟨by first | rfl | (simp [Zas, Zat] <;> rfl) | (simp [*, Zas, Zat] <;> rfl), by repeat (first | (with_reducible first | exact HB.out | apply Zad | apply Zaa | apply Zac | refine Zae ?_ GE212.out) | exact HB.out)⟩
                   ·replace c28 := Bool.eq_false_iff.mpr c28
                    subst c28
                    have H1 : (Zar.l1 k4 l1 (rd_L1 l1 x19_2) l1 (l1.length : Int) x19_2 y217 (y217.length : Int) (wrap64 (x39_4 + 1)) a0_0 l0_1) = some r := by rw [if_neg (show ¬ (false = true) by decide)] at H; exact H
                    clear H
                    have H := H1
                    clear H1
                    have H' := Zab.mk H
                    clear H
                    have p221 : 0 ≤ (x39_4 : Int) := of_decide_eq_true (by first | (with_reducible assumption) | assumption)
                    have q221 : x39_4 < (y217.length : Int) := of_decide_eq_true (by first | (with_reducible assumption) | assumption)
                    obtain ⟨ad221, A221_0, c221_0, e221, hx221_0, hl221_0, hi221_0⟩ := at_L1 HR220.out x39_4 p221 q221
                    obtain rfl : ad214 = ad221 := (by injection e221)
                    replace hx221_0 := (HB.out.cell (World.block_lt_of_cell? w _ hx221_0)).trans hx221_0
                    have HR221_0 := Zab.mk hi221_0
                    have HC221_0 := Zab.mk hl221_0
                    clear hi221_0 hl221_0
                    replace p221 := eq_true p221
                    replace q221 := eq_true q221
                    as_aux_lemma =>
                     go_wp2_with (first | ((with_reducible refine Zap (f := 22) rfl ?_); refine Za9 (some 45) rfl rfl Try.func22 (by kernel_rfl) rfl #[.slice A214_0 (rd_L1 l1 x19_2).length c214_0, .slice A221_0 (rd_L1 y217 x39_4).length c221_0] rfl (by (try simp only [List.map_toArray, List.map_cons, List.map_nil]); first | done | rfl | (simp only [List.length_drop, List.length_take]; rfl)) ?_; (with_reducible refine (impl_meet.calls k4 _ _ (rd_L1 l1 x19_2) _ _ (rd_L1 y217 x39_4) false _ ?side1 ?side2 ?side3 ?side4 A27.out).mono ?_); (case side1 => repeat (first | exact (Kd.C_below HR214_0.out HB.out) | (with_reducible refine Kd.C_alloc ?_ _) | (with_reducible refine Kd.C_drewN ?_ _) | (with_reducible refine Kd.C_drew ?_))); (case side2 => exact HC214_0.out); (case side3 => repeat (first | exact (Kd.C_below HR221_0.out HB.out) | (with_reducible refine Kd.C_alloc ?_ _) | (with_reducible refine Kd.C_drewN ?_ _) | (with_reducible refine Kd.C_drew ?_))); (case side4 => exact HC221_0.out); rintro e w41 ⟨rfl, hb⟩; refine ⟨_, rfl, ?_⟩; have n0_ := Zab.mk (Zal (g := gb212) (o := .cells #[.int .i64 a0_0, .slice A0_1 l0_1.length c0_1] 29 (0, 0)) (by (with_reducible repeat (first | refine Zag ?_ _ | refine Zah ?_ | refine Zaf ?_ _)); exact BK212.out) hb); have n1_ := Zab.mk (Zaj (by repeat (first | (with_reducible first | exact HB.out | apply Zad | apply Zaa | apply Zac | refine Zae ?_ GE212.out) | exact HB.out)) hb); clear BK212; clear HB; have BK212 := n0_; have HB := n1_; clear n0_ n1_; (try clear hb); (try clear hb2); (try clear hk); (try clear hi)))
                     go_roundg k4
                     case measure => have := HJ2.out; have := HK2.out; have := HJ14.out; have := HK4.out; omega
                     case rel => exact ⟨(wrap64 (x39_4 + 1)), (by first | rfl | (simp; done) | (simp [*]; done)), H', ⟨by have := HJ2.out; have := HK2.out; have := HJ14.out; have := HK4.out; omega⟩, ⟨by (with_reducible repeat (first | refine Zag ?_ _ | refine Zah ?_ | refine Zaf ?_ _)); exact BK212.out⟩, ⟨by repeat (first | (with_reducible first | exact HB.out | apply Zad | apply Zaa | apply Zac | refine Zae ?_ GE212.out) | exact HB.out)⟩⟩
                  ·rw [if_neg c26] at H
                   exact absurd H (by simp)
                 ·rw [if_neg c25] at H
                  exact absurd H (by simp)
                ·rw [if_neg c24] at H
                 have c24b0 : decide (x39_4 < (y217.length : Int)) = false := decide_eq_false c24
                 clear c24
                 have H' := Zab.mk H
                 clear H
                 as_aux_lemma =>
                  go_wp2
                  go_roundg k4
                  case measure => have := HJ2.out; have := HK2.out; have := HJ14.out; have := HK4.out; omega
                  case rel => exact ⟨(wrap64 (x19_2 + 1)), (by first | rfl | (simp; done) | (simp [*]; done)), H', ⟨by have := HJ2.out; have := HK2.out; have := HJ14.out; have := HK4.out; omega⟩, ⟨by (with_reducible repeat (first | refine Zag ?_ _ | refine Zah ?_ | refine Zaf ?_ _)); exact BK212.out⟩, ⟨by repeat (first | (with_reducible first | exact HB.out | apply Zad | apply Zaa | apply Zac | refine Zae ?_ GE212.out) | exact HB.out)⟩⟩
             ·rw [if_neg c22] at H
              exact absurd H (by simp)
            ·rw [if_neg c21] at H
             exact absurd H (by simp)
        ·rw [if_neg c14] at H
         exact absurd H (by simp)
       ·rw [if_neg c13] at H
        exact absurd H (by simp)
      ·rw [if_neg c12] at H
       have c12b0 : decide (x19_2 < (l1.length : Int)) = false := decide_eq_false c12
       clear c12
       obtain rfl := Option.some.inj H
       as_aux_lemma =>
        go_wp2
        go_ret
        exact ⟨by first | rfl | (simp [Zas, Zat] <;> rfl) | (simp [*, Zas, Zat] <;> rfl), by repeat (first | (with_reducible first | exact HB.out | apply Zad | apply Zaa | apply Zac | refine Zae ?_ GE212.out) | exact HB.out)⟩
def impl_floor.f (a0 : Int) (a1 : Int) : Option (Int) := if a1 = 0 then (none) else (if (Int.tmod a0 a1) < 0 then (some (wrap64 ((wrap64 (Int.tdiv a0 a1)) - 1))) else (some (wrap64 (Int.tdiv a0 a1))))
set_option maxHeartbeats 8000000 in
set_option maxRecDepth 100000 in
theorem impl_floor.calls (a0 : Int) (a1 : Int) (r : Int) (w : World) (h : impl_floor.f a0 a1 = some r) :
  Calls Try.prog 51 #[.int .i64 a0, .int .i64 a1] w fun e w' => e = .returned (.int .i64 r) ∧ Za1 w w' := by
 have H : (if a1 = 0 then (none) else (if (Int.tmod a0 a1) < 0 then (some (wrap64 ((wrap64 (Int.tdiv a0 a1)) - 1))) else (some (wrap64 (Int.tdiv a0 a1))))) = some r := h
 clear h
 by_cases c3 : a1 = 0
 ·rw [if_pos c3] at H
  exact absurd H (by simp)
 ·rw [if_neg c3] at H
  have c3b0 : (a1 == 0) = false := beq_eq_false_iff_ne.mpr c3
  have c3b1 : (a1 != 0) = true := bne_iff_ne.mpr c3
  by_cases c4 : (Int.tmod a0 a1) < 0
  ·rw [if_pos c4] at H
   have c4b0 : decide ((Int.tmod a0 a1) < 0) = true := decide_eq_true c4
   clear c4
   obtain rfl := Option.some.inj H
   go_enter Try.func51, Try.ntmps51
   go_wp2
   go_ret
   exact ⟨by first | rfl | (simp; done) | (simp [*]; done), by repeat (first | exact Za1.refl _ | apply Za1.step)⟩
  ·rw [if_neg c4] at H
   have c4b0 : decide ((Int.tmod a0 a1) < 0) = false := decide_eq_false c4
   clear c4
   obtain rfl := Option.some.inj H
   go_enter Try.func51, Try.ntmps51
   go_wp2
   go_ret
   exact ⟨by first | rfl | (simp; done) | (simp [*]; done), by repeat (first | exact Za1.refl _ | apply Za1.step)⟩
end Go.Proofs.Ytoelhfbmeegbdaa.P
