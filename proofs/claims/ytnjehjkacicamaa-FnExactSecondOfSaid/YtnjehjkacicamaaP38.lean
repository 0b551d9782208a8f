-- Written by gen.py (wip/gen of this repo) over the kit's print: not trusted, Lean checks it.
import Derived.Test.YtnjehjkacicamaaP0
import Derived.Test.YtnjehjkacicamaaP1
import Derived.Test.YtnjehjkacicamaaP2
import Derived.Test.YtnjehjkacicamaaP3
import Derived.Test.YtnjehjkacicamaaP26
import Derived.Test.YtnjehjkacicamaaP27
namespace Go.Proofs.Ytnjehjkacicamaa.P
open Go.RowKit Go.Proofs.YtnjehjkacicamaaW.PrintWords Go.Proofs.YtnjehjkacicamaaW.PrintLast Go.Proofs.YtnjehjkacicamaaW.PrintMore
attribute [local go_sem] max2_int min2_int max_two min_two max_three min_three max_four min_four   -- for this text's walks alone
set_option linter.unusedVariables false
set_option linter.unusedSimpArgs false

/-! ### laws_FnExactSecondOf: function 12 -/
mutual
def laws_FnExactSecondOf.j0 : Nat → Int → Int → List Int → List Int → Bool → List Int → List Int → Bool → Bool → Int → List Int → Int → List Int → Option (Bool)
  | 0, _, _, _, _, _, _, _, _, _, _, _, _, _ => none
  | k + 1, x1, x2, x8, x9, x10, x12, x13, x14, x59, x969000, x969001, x986000, x986001 => if x59 = true then (some false) else ((laws_toValues.f k x969000 x969001).bind fun bt995 => ((laws_eqValues.f k x986000 x986001 bt995.1 bt995.2).bind fun t999 => (if t999 = true then ((laws_markValues.f k x986000 x986001 1).bind fun bt1000 => (if bt1000.1 < 0 then (laws_FnExactSecondOf.j1 k x1 x2 x8 x9 x10 x12 x13 true x969000 x969001) else ((laws_eqInt64S.f k x12 x8).bind fun t1002 => (if t1002 = true then ((laws_eqInt64S.f k x13 x9).bind fun t1003 => (if t1003 = true then (laws_FnExactSecondOf.j1 k x1 x2 x8 x9 x10 x12 x13 (x14 != x10) x969000 x969001) else (laws_FnExactSecondOf.j1 k x1 x2 x8 x9 x10 x12 x13 true x969000 x969001))) else (laws_FnExactSecondOf.j1 k x1 x2 x8 x9 x10 x12 x13 true x969000 x969001))))) else (some false))))
def laws_FnExactSecondOf.j1 : Nat → Int → Int → List Int → List Int → Bool → List Int → List Int → Bool → Int → List Int → Option (Bool)
  | 0, _, _, _, _, _, _, _, _, _, _ => none
  | k + 1, x1, x2, x8, x9, x10, x12, x13, x86, x969000, x969001 => if x86 = true then (some false) else ((laws_markInt64S.f k x12 1).bind fun bt1004 => ((laws_markInt64S.f k x13 bt1004.1).bind fun bt1006 => ((laws_heldInt64S.f k bt1004.2 1).bind fun t1008 => (if t1008 < 0 then (some false) else ((laws_heldInt64S.f k bt1006.2 t1008).bind fun t1009 => (if t1009 < 0 then (some false) else (if t1009 = bt1006.1 then ((laws_toValues.f k x969000 x969001).bind fun bt1010 => ((impl_SecondOf.f k bt1010.1 bt1010.2 x1 x2).bind fun bt1014 => ((laws_eqInt64S.f k bt1014.1 x8).bind fun t1021 => (if t1021 = true then ((laws_eqInt64S.f k bt1014.2.1 x9).bind fun t1022 => (if t1022 = true then (laws_FnExactSecondOf.j2 k bt1004.2 bt1006.2 bt1006.1 (bt1014.2.2 != x10)) else (laws_FnExactSecondOf.j2 k bt1004.2 bt1006.2 bt1006.1 true))) else (laws_FnExactSecondOf.j2 k bt1004.2 bt1006.2 bt1006.1 true))))) else (some false))))))))
def laws_FnExactSecondOf.j2 : Nat → List Int → List Int → Int → Bool → Option (Bool)
  | 0, _, _, _, _ => none
  | k + 1, x12, x13, x16, x129 => if x129 = true then (some false) else ((laws_heldInt64S.f k x12 1).bind fun t1023 => (if t1023 < 0 then (some false) else ((laws_heldInt64S.f k x13 t1023).bind fun t1024 => (if t1024 < 0 then (some false) else (if t1024 = x16 then (some true) else (some false))))))
end
def laws_FnExactSecondOf.f (k : Nat) (a0_0 : Int) (l0_1 : List Int) (a1 : Int) (a2 : Int) : Option (Bool) := (laws_szValues.f a0_0 l0_1 1048576).bind fun t969 => (if t969 < 0 then (some true) else ((laws_toValues.f k a0_0 l0_1).bind fun bt970 => ((spec_SecondOf.f k bt970.1 bt970.2 a1 a2).bind fun bt974 => ((laws_toValues.f k a0_0 l0_1).bind fun bt981 => ((impl_SecondOf.f k bt981.1 bt981.2 a1 a2).bind fun bt986 => ((laws_eqInt64S.f k bt986.1 bt974.1).bind fun t993 => (if t993 = true then ((laws_eqInt64S.f k bt986.2.1 bt974.2.1).bind fun t994 => (if t994 = true then (laws_FnExactSecondOf.j0 k a1 a2 bt974.1 bt974.2.1 bt974.2.2 bt986.1 bt986.2.1 bt986.2.2 (bt986.2.2 != bt974.2.2) a0_0 l0_1 bt981.1 bt981.2) else (laws_FnExactSecondOf.j0 k a1 a2 bt974.1 bt974.2.1 bt974.2.2 bt986.1 bt986.2.1 bt986.2.2 true a0_0 l0_1 bt981.1 bt981.2))) else (laws_FnExactSecondOf.j0 k a1 a2 bt974.1 bt974.2.1 bt974.2.2 bt986.1 bt986.2.1 bt986.2.2 true a0_0 l0_1 bt981.1 bt981.2))))))))
theorem laws_FnExactSecondOf.mono_l : ∀ k, (∀ y0 y1 y2 y3 y4 y5 y6 y7 y8 y9 y10 y11 y12, LeO (laws_FnExactSecondOf.j0 k y0 y1 y2 y3 y4 y5 y6 y7 y8 y9 y10 y11 y12) (laws_FnExactSecondOf.j0 (k + 1) y0 y1 y2 y3 y4 y5 y6 y7 y8 y9 y10 y11 y12)) ∧ (∀ y0 y1 y2 y3 y4 y5 y6 y7 y8 y9, LeO (laws_FnExactSecondOf.j1 k y0 y1 y2 y3 y4 y5 y6 y7 y8 y9) (laws_FnExactSecondOf.j1 (k + 1) y0 y1 y2 y3 y4 y5 y6 y7 y8 y9)) ∧ (∀ y0 y1 y2 y3, LeO (laws_FnExactSecondOf.j2 k y0 y1 y2 y3) (laws_FnExactSecondOf.j2 (k + 1) y0 y1 y2 y3))
  | 0 => ⟨fun _ _ _ _ _ _ _ _ _ _ _ _ _ r h => by simp [laws_FnExactSecondOf.j0] at h, fun _ _ _ _ _ _ _ _ _ _ r h => by simp [laws_FnExactSecondOf.j1] at h, fun _ _ _ _ r h => by simp [laws_FnExactSecondOf.j2] at h⟩
  | k + 1 => by
    obtain ⟨ih0, ih1, ih2⟩ := laws_FnExactSecondOf.mono_l k
    refine ⟨?_, ?_, ?_⟩
    · intro y0 y1 y2 y3 y4 y5 y6 y7 y8 y9 y10 y11 y12
      unfold laws_FnExactSecondOf.j0
      repeat' first
      | (with_reducible exact ih0 _ _ _ _ _ _ _ _ _ _ _ _ _)
      | (with_reducible exact ih1 _ _ _ _ _ _ _ _ _ _)
      | (with_reducible exact ih2 _ _ _ _)
      | (with_reducible exact impl_SecondOf.mono _ _ _ _ _)
      | (with_reducible exact laws_eqInt64S.mono _ _ _)
      | (with_reducible exact laws_eqValues.mono _ _ _ _ _)
      | (with_reducible exact laws_heldInt64S.mono _ _ _)
      | (with_reducible exact laws_markInt64S.mono _ _ _)
      | (with_reducible exact laws_markValues.mono _ _ _ _)
      | (with_reducible exact laws_toValues.mono _ _ _)
      | (with_reducible exact spec_SecondOf.mono _ _ _ _ _)
      | (with_reducible exact LeO.refl _)
      | (with_reducible exact LeO.none _)
      | (with_reducible refine LeO.ite ?_ ?_)
      | (with_reducible refine LeO.bind ?_ (fun _ => ?_))
      | exact ih0 _ _ _ _ _ _ _ _ _ _ _ _ _
      | exact ih1 _ _ _ _ _ _ _ _ _ _
      | exact ih2 _ _ _ _
      | exact impl_SecondOf.mono _ _ _ _ _
      | exact laws_eqInt64S.mono _ _ _
      | exact laws_eqValues.mono _ _ _ _ _
      | exact laws_heldInt64S.mono _ _ _
      | exact laws_markInt64S.mono _ _ _
      | exact laws_markValues.mono _ _ _ _
      | exact laws_toValues.mono _ _ _
      | exact spec_SecondOf.mono _ _ _ _ _
      | exact LeO.none _
      | refine LeO.ite ?_ ?_
      | refine LeO.bind ?_ (fun _ => ?_)
    · intro y0 y1 y2 y3 y4 y5 y6 y7 y8 y9
      unfold laws_FnExactSecondOf.j1
      repeat' first
      | (with_reducible exact ih0 _ _ _ _ _ _ _ _ _ _ _ _ _)
      | (with_reducible exact ih1 _ _ _ _ _ _ _ _ _ _)
      | (with_reducible exact ih2 _ _ _ _)
      | (with_reducible exact impl_SecondOf.mono _ _ _ _ _)
      | (with_reducible exact laws_eqInt64S.mono _ _ _)
      | (with_reducible exact laws_eqValues.mono _ _ _ _ _)
      | (with_reducible exact laws_heldInt64S.mono _ _ _)
      | (with_reducible exact laws_markInt64S.mono _ _ _)
      | (with_reducible exact laws_markValues.mono _ _ _ _)
      | (with_reducible exact laws_toValues.mono _ _ _)
      | (with_reducible exact spec_SecondOf.mono _ _ _ _ _)
      | (with_reducible exact LeO.refl _)
      | (with_reducible exact LeO.none _)
      | (with_reducible refine LeO.ite ?_ ?_)
      | (with_reducible refine LeO.bind ?_ (fun _ => ?_))
      | exact ih0 _ _ _ _ _ _ _ _ _ _ _ _ _
      | exact ih1 _ _ _ _ _ _ _ _ _ _
      | exact ih2 _ _ _ _
      | exact impl_SecondOf.mono _ _ _ _ _
      | exact laws_eqInt64S.mono _ _ _
      | exact laws_eqValues.mono _ _ _ _ _
      | exact laws_heldInt64S.mono _ _ _
      | exact laws_markInt64S.mono _ _ _
      | exact laws_markValues.mono _ _ _ _
      | exact laws_toValues.mono _ _ _
      | exact spec_SecondOf.mono _ _ _ _ _
      | exact LeO.none _
      | refine LeO.ite ?_ ?_
      | refine LeO.bind ?_ (fun _ => ?_)
    · intro y0 y1 y2 y3
      unfold laws_FnExactSecondOf.j2
      repeat' first
      | (with_reducible exact ih0 _ _ _ _ _ _ _ _ _ _ _ _ _)
      | (with_reducible exact ih1 _ _ _ _ _ _ _ _ _ _)
      | (with_reducible exact ih2 _ _ _ _)
      | (with_reducible exact impl_SecondOf.mono _ _ _ _ _)
      | (with_reducible exact laws_eqInt64S.mono _ _ _)
      | (with_reducible exact laws_eqValues.mono _ _ _ _ _)
      | (with_reducible exact laws_heldInt64S.mono _ _ _)
      | (with_reducible exact laws_markInt64S.mono _ _ _)
      | (with_reducible exact laws_markValues.mono _ _ _ _)
      | (with_reducible exact laws_toValues.mono _ _ _)
      | (with_reducible exact spec_SecondOf.mono _ _ _ _ _)
      | (with_reducible exact LeO.refl _)
      | (with_reducible exact LeO.none _)
      | (with_reducible refine LeO.ite ?_ ?_)
      | (with_reducible refine LeO.bind ?_ (fun _ => ?_))
      | exact ih0 _ _ _ _ _ _ _ _ _ _ _ _ _
      | exact ih1 _ _ _ _ _ _ _ _ _ _
      | exact ih2 _ _ _ _
      | exact impl_SecondOf.mono _ _ _ _ _
      | exact laws_eqInt64S.mono _ _ _
      | exact laws_eqValues.mono _ _ _ _ _
      | exact laws_heldInt64S.mono _ _ _
      | exact laws_markInt64S.mono _ _ _
      | exact laws_markValues.mono _ _ _ _
      | exact laws_toValues.mono _ _ _
      | exact spec_SecondOf.mono _ _ _ _ _
      | exact LeO.none _
      | refine LeO.ite ?_ ?_
      | refine LeO.bind ?_ (fun _ => ?_)
theorem laws_FnExactSecondOf.mono : ∀ a0 a1 a2 a3 k, LeO (laws_FnExactSecondOf.f k a0 a1 a2 a3) (laws_FnExactSecondOf.f (k + 1) a0 a1 a2 a3) := by
  intro a0 a1 a2 a3 k
  obtain ⟨ih0, ih1, ih2⟩ := laws_FnExactSecondOf.mono_l k
  unfold laws_FnExactSecondOf.f
  repeat' first
      | (with_reducible exact ih0 _ _ _ _ _ _ _ _ _ _ _ _ _)
      | (with_reducible exact ih1 _ _ _ _ _ _ _ _ _ _)
      | (with_reducible exact ih2 _ _ _ _)
      | (with_reducible exact impl_SecondOf.mono _ _ _ _ _)
      | (with_reducible exact laws_eqInt64S.mono _ _ _)
      | (with_reducible exact laws_eqValues.mono _ _ _ _ _)
      | (with_reducible exact laws_heldInt64S.mono _ _ _)
      | (with_reducible exact laws_markInt64S.mono _ _ _)
      | (with_reducible exact laws_markValues.mono _ _ _ _)
      | (with_reducible exact laws_toValues.mono _ _ _)
      | (with_reducible exact spec_SecondOf.mono _ _ _ _ _)
      | (with_reducible exact LeO.refl _)
      | (with_reducible exact LeO.none _)
      | (with_reducible refine LeO.ite ?_ ?_)
      | (with_reducible refine LeO.bind ?_ (fun _ => ?_))
      | exact ih0 _ _ _ _ _ _ _ _ _ _ _ _ _
      | exact ih1 _ _ _ _ _ _ _ _ _ _
      | exact ih2 _ _ _ _
      | exact impl_SecondOf.mono _ _ _ _ _
      | exact laws_eqInt64S.mono _ _ _
      | exact laws_eqValues.mono _ _ _ _ _
      | exact laws_heldInt64S.mono _ _ _
      | exact laws_markInt64S.mono _ _ _
      | exact laws_markValues.mono _ _ _ _
      | exact laws_toValues.mono _ _ _
      | exact spec_SecondOf.mono _ _ _ _ _
      | exact LeO.none _
      | refine LeO.ite ?_ ?_
      | refine LeO.bind ?_ (fun _ => ?_)
set_option maxHeartbeats 8000000 in
set_option maxRecDepth 100000 in
theorem laws_FnExactSecondOf.calls (k : Nat) (a0_0 : Int) (A0_1 : Option Addr) (c0_1 : Nat) (l0_1 : List Int) (a1 : Int) (a2 : Int) (r : Bool) (w : World) (hr0_1 : Kd.C (Kd.int .i64) w A0_1 l0_1.length l0_1) (hc0_1 : l0_1.length ≤ c0_1) (h : laws_FnExactSecondOf.f k a0_0 l0_1 a1 a2 = some r) :
    Calls Try.prog 12 #[.agg #[.int .i64 a0_0, .slice A0_1 l0_1.length c0_1], .int .i64 a1, .int .i64 a2] w fun e w' => e = .returned (.bool r) ∧ Below w.heap.size w w' := by
  have hu24 := Try.underlying24
  have hu28 := Try.underlying28
  have HR0_1 := Aside0.mk hr0_1
  have HC0_1 := Aside0.mk hc0_1
  clear hr0_1 hc0_1
  have HB := Aside0.mk (Below.refl w.heap.size w)
  have H : ((laws_szValues.f a0_0 l0_1 1048576).bind fun t969 => (if t969 < 0 then (some true) else ((laws_toValues.f k a0_0 l0_1).bind fun bt970 => ((spec_SecondOf.f k bt970.1 bt970.2 a1 a2).bind fun bt974 => ((laws_toValues.f k a0_0 l0_1).bind fun bt981 => ((impl_SecondOf.f k bt981.1 bt981.2 a1 a2).bind fun bt986 => ((laws_eqInt64S.f k bt986.1 bt974.1).bind fun t993 => (if t993 = true then ((laws_eqInt64S.f k bt986.2.1 bt974.2.1).bind fun t994 => (if t994 = true then (laws_FnExactSecondOf.j0 k a1 a2 bt974.1 bt974.2.1 bt974.2.2 bt986.1 bt986.2.1 bt986.2.2 (bt986.2.2 != bt974.2.2) a0_0 l0_1 bt981.1 bt981.2) else (laws_FnExactSecondOf.j0 k a1 a2 bt974.1 bt974.2.1 bt974.2.2 bt986.1 bt986.2.1 bt986.2.2 true a0_0 l0_1 bt981.1 bt981.2))) else (laws_FnExactSecondOf.j0 k a1 a2 bt974.1 bt974.2.1 bt974.2.2 bt986.1 bt986.2.1 bt986.2.2 true a0_0 l0_1 bt981.1 bt981.2))))))))) = some r := h
  clear h
  replace H := Option.bind_eq_some_iff.mp H
  obtain ⟨t969, A40, H⟩ := H
  replace H : (if t969 < 0 then (some true) else ((laws_toValues.f k a0_0 l0_1).bind fun bt970 => ((spec_SecondOf.f k bt970.1 bt970.2 a1 a2).bind fun bt974 => ((laws_toValues.f k a0_0 l0_1).bind fun bt981 => ((impl_SecondOf.f k bt981.1 bt981.2 a1 a2).bind fun bt986 => ((laws_eqInt64S.f k bt986.1 bt974.1).bind fun t993 => (if t993 = true then ((laws_eqInt64S.f k bt986.2.1 bt974.2.1).bind fun t994 => (if t994 = true then (laws_FnExactSecondOf.j0 k a1 a2 bt974.1 bt974.2.1 bt974.2.2 bt986.1 bt986.2.1 bt986.2.2 (bt986.2.2 != bt974.2.2) a0_0 l0_1 bt981.1 bt981.2) else (laws_FnExactSecondOf.j0 k a1 a2 bt974.1 bt974.2.1 bt974.2.2 bt986.1 bt986.2.1 bt986.2.2 true a0_0 l0_1 bt981.1 bt981.2))) else (laws_FnExactSecondOf.j0 k a1 a2 bt974.1 bt974.2.1 bt974.2.2 bt986.1 bt986.2.1 bt986.2.2 true a0_0 l0_1 bt981.1 bt981.2)))))))) = some r := H
  have A4 := Aside0.mk A40
  clear A40
  by_cases c5 : t969 < 0
  · rw [if_pos c5] at H
    have c5b0 : decide (t969 < 0) = true := decide_eq_true c5
    clear c5
    obtain rfl := Option.some.inj H
    as_aux_lemma =>
      go_enter Try.func12, Try.ntmps12
      go_wp2_with (first | ((with_reducible refine gate_dst (N := 3) rfl ?_); refine box_event ?hg (N := 3) ?hd (cs := #[.int .i64 a0_0, .slice A0_1 l0_1.length c0_1]) (t := 24) ?hr ?_; (case hd => rfl); (case hg => rfl); (case hr => first | (go_simp; done) | (go_simp; rfl)); intro gb968 hg w6 hbox hb; have n0_ := Aside0.mk (below_step (by repeat (first | (with_reducible first | exact HB.out | apply below_alloc | apply pw_below_drewN | apply below_drew1) | exact HB.out)) hb); have n1_ := Aside0.mk (hbox); have n2_ := Aside0.mk ((by rw [hg]; exact (below_size (by repeat (first | (with_reducible first | exact HB.out | apply below_alloc | apply pw_below_drewN | apply below_drew1) | exact HB.out))) : w.heap.size ≤ gb968)); have n3_ := Aside0.mk ((by rw [hg]; exact (below_size (by repeat (first | (with_reducible first | exact HB.out | apply below_alloc | apply pw_below_drewN | apply below_drew1) | exact HB.out))) : w.heap.size ≤ gb968)); clear HB; have HB := n0_; have BK968 := n1_; have GW968 := n2_; have GE968 := n3_; clear n0_ n1_ n2_ n3_; clear hb hbox hg; have hcz7_0 : w6.cell? ⟨gb968, 0, none⟩ = some (.int .i64 a0_0) := (blk_cell BK968.out 0).trans rfl; have hcz7_1 : w6.cell? ⟨gb968, 1, none⟩ = some (.slice A0_1 l0_1.length c0_1) := (blk_cell BK968.out 1).trans rfl; have hfz7_0 := blk_frozen BK968.out 0; have hfz7_1 := blk_frozen BK968.out 1) | ((with_reducible refine gate_callee (f := 15) rfl ?_); refine goesL_ (some 23) rfl rfl Try.func15 (by kernel_rfl) rfl #[.agg #[.int .i64 a0_0, .slice A0_1 l0_1.length c0_1], .int .i64 1048576] rfl (by (try simp only [List.map_toArray, List.map_cons, List.map_nil]); first | done | rfl | (simp only [List.length_drop, List.length_take]; rfl)) ?_; (with_reducible refine (laws_szValues.calls a0_0 _ _ l0_1 1048576 t969 _ ?side1 ?side2 A4.out).mono ?_); (case side1 => repeat (first | exact (Kd.C_below HR0_1.out HB.out) | (with_reducible refine Kd.C_alloc ?_ _) | (with_reducible refine Kd.C_drewN ?_ _) | (with_reducible refine Kd.C_drew ?_))); (case side2 => exact HC0_1.out); rintro e w8 ⟨rfl, hb⟩; refine ⟨_, rfl, ?_⟩; have n0_ := Aside0.mk (blk_below (g := gb968) (o := .cells #[.int .i64 a0_0, .slice A0_1 l0_1.length c0_1] 24 (0, 0)) (by (with_reducible repeat (first | refine blk_drewN ?_ _ | refine blk_drew ?_ | refine blk_alloc ?_ _)); exact BK968.out) hb); have n1_ := Aside0.mk (below_step (by repeat (first | (with_reducible first | exact HB.out | apply below_alloc | apply pw_below_drewN | apply below_drew1 | refine below_set ?_ GE968.out) | exact HB.out)) hb); clear BK968; clear HB; have BK968 := n0_; have HB := n1_; clear n0_ n1_; (try clear hb); (try clear hb2); (try clear hk); (try clear hi)))
      go_ret
      exact ⟨by first | rfl | (simp [errW_none, errW_some] <;> rfl) | (simp [*, errW_none, errW_some] <;> rfl), by repeat (first | (with_reducible first | exact HB.out | apply below_alloc | apply pw_below_drewN | apply below_drew1 | refine below_set ?_ GE968.out) | exact HB.out)⟩
  · rw [if_neg c5] at H
    have c5b0 : decide (t969 < 0) = false := decide_eq_false c5
    clear c5
    replace H := Option.bind_eq_some_iff.mp H
    obtain ⟨⟨t970, t971⟩, A90, H⟩ := H
    replace H : ((spec_SecondOf.f k t970 t971 a1 a2).bind fun bt974 => ((laws_toValues.f k a0_0 l0_1).bind fun bt981 => ((impl_SecondOf.f k bt981.1 bt981.2 a1 a2).bind fun bt986 => ((laws_eqInt64S.f k bt986.1 bt974.1).bind fun t993 => (if t993 = true then ((laws_eqInt64S.f k bt986.2.1 bt974.2.1).bind fun t994 => (if t994 = true then (laws_FnExactSecondOf.j0 k a1 a2 bt974.1 bt974.2.1 bt974.2.2 bt986.1 bt986.2.1 bt986.2.2 (bt986.2.2 != bt974.2.2) a0_0 l0_1 bt981.1 bt981.2) else (laws_FnExactSecondOf.j0 k a1 a2 bt974.1 bt974.2.1 bt974.2.2 bt986.1 bt986.2.1 bt986.2.2 true a0_0 l0_1 bt981.1 bt981.2))) else (laws_FnExactSecondOf.j0 k a1 a2 bt974.1 bt974.2.1 bt974.2.2 bt986.1 bt986.2.1 bt986.2.2 true a0_0 l0_1 bt981.1 bt981.2)))))) = some r := H
    have A9 := Aside0.mk A90
    clear A90
    replace H := Option.bind_eq_some_iff.mp H
    obtain ⟨⟨t974, t977, t980⟩, A100, H⟩ := H
    replace H : ((laws_toValues.f k a0_0 l0_1).bind fun bt981 => ((impl_SecondOf.f k bt981.1 bt981.2 a1 a2).bind fun bt986 => ((laws_eqInt64S.f k bt986.1 t974).bind fun t993 => (if t993 = true then ((laws_eqInt64S.f k bt986.2.1 t977).bind fun t994 => (if t994 = true then (laws_FnExactSecondOf.j0 k a1 a2 t974 t977 t980 bt986.1 bt986.2.1 bt986.2.2 (bt986.2.2 != t980) a0_0 l0_1 bt981.1 bt981.2) else (laws_FnExactSecondOf.j0 k a1 a2 t974 t977 t980 bt986.1 bt986.2.1 bt986.2.2 true a0_0 l0_1 bt981.1 bt981.2))) else (laws_FnExactSecondOf.j0 k a1 a2 t974 t977 t980 bt986.1 bt986.2.1 bt986.2.2 true a0_0 l0_1 bt981.1 bt981.2))))) = some r := H
    have A10 := Aside0.mk A100
    clear A100
    replace H := Option.bind_eq_some_iff.mp H
    obtain ⟨⟨t981, t982⟩, A110, H⟩ := H
    replace H : ((impl_SecondOf.f k t981 t982 a1 a2).bind fun bt986 => ((laws_eqInt64S.f k bt986.1 t974).bind fun t993 => (if t993 = true then ((laws_eqInt64S.f k bt986.2.1 t977).bind fun t994 => (if t994 = true then (laws_FnExactSecondOf.j0 k a1 a2 t974 t977 t980 bt986.1 bt986.2.1 bt986.2.2 (bt986.2.2 != t980) a0_0 l0_1 t981 t982) else (laws_FnExactSecondOf.j0 k a1 a2 t974 t977 t980 bt986.1 bt986.2.1 bt986.2.2 true a0_0 l0_1 t981 t982))) else (laws_FnExactSecondOf.j0 k a1 a2 t974 t977 t980 bt986.1 bt986.2.1 bt986.2.2 true a0_0 l0_1 t981 t982)))) = some r := H
    have A11 := Aside0.mk A110
    clear A110
    replace H := Option.bind_eq_some_iff.mp H
    obtain ⟨⟨t986, t989, t992⟩, A120, H⟩ := H
    replace H : ((laws_eqInt64S.f k t986 t974).bind fun t993 => (if t993 = true then ((laws_eqInt64S.f k t989 t977).bind fun t994 => (if t994 = true then (laws_FnExactSecondOf.j0 k a1 a2 t974 t977 t980 t986 t989 t992 (t992 != t980) a0_0 l0_1 t981 t982) else (laws_FnExactSecondOf.j0 k a1 a2 t974 t977 t980 t986 t989 t992 true a0_0 l0_1 t981 t982))) else (laws_FnExactSecondOf.j0 k a1 a2 t974 t977 t980 t986 t989 t992 true a0_0 l0_1 t981 t982))) = some r := H
    have A12 := Aside0.mk A120
    clear A120
    have HC13 := Aside0.mk H
    clear H
    go_enter Try.func12, Try.ntmps12
    go_upto_region 8 with (first | ((with_reducible refine gate_dst (N := 3) rfl ?_); refine box_event ?hg (N := 3) ?hd (cs := #[.int .i64 a0_0, .slice A0_1 l0_1.length c0_1]) (t := 24) ?hr ?_; (case hd => rfl); (case hg => rfl); (case hr => first | (go_simp; done) | (go_simp; rfl)); intro gb968 hg w14 hbox hb; have n0_ := Aside0.mk (below_step (by repeat (first | (with_reducible first | exact HB.out | apply below_alloc | apply pw_below_drewN | apply below_drew1) | exact HB.out)) hb); have n1_ := Aside0.mk (hbox); have n2_ := Aside0.mk ((by rw [hg]; exact (below_size (by repeat (first | (with_reducible first | exact HB.out | apply below_alloc | apply pw_below_drewN | apply below_drew1) | exact HB.out))) : w.heap.size ≤ gb968)); have n3_ := Aside0.mk ((by rw [hg]; exact (below_size (by repeat (first | (with_reducible first | exact HB.out | apply below_alloc | apply pw_below_drewN | apply below_drew1) | exact HB.out))) : w.heap.size ≤ gb968)); clear HB; have HB := n0_; have BK968 := n1_; have GW968 := n2_; have GE968 := n3_; clear n0_ n1_ n2_ n3_; clear hb hbox hg; have hcz15_0 : w14.cell? ⟨gb968, 0, none⟩ = some (.int .i64 a0_0) := (blk_cell BK968.out 0).trans rfl; have hcz15_1 : w14.cell? ⟨gb968, 1, none⟩ = some (.slice A0_1 l0_1.length c0_1) := (blk_cell BK968.out 1).trans rfl; have hfz15_0 := blk_frozen BK968.out 0; have hfz15_1 := blk_frozen BK968.out 1) | ((with_reducible refine gate_callee (f := 15) rfl ?_); refine goesL_ (some 23) rfl rfl Try.func15 (by kernel_rfl) rfl #[.agg #[.int .i64 a0_0, .slice A0_1 l0_1.length c0_1], .int .i64 1048576] rfl (by (try simp only [List.map_toArray, List.map_cons, List.map_nil]); first | done | rfl | (simp only [List.length_drop, List.length_take]; rfl)) ?_; (with_reducible refine (laws_szValues.calls a0_0 _ _ l0_1 1048576 t969 _ ?side1 ?side2 A4.out).mono ?_); (case side1 => repeat (first | exact (Kd.C_below HR0_1.out HB.out) | (with_reducible refine Kd.C_alloc ?_ _) | (with_reducible refine Kd.C_drewN ?_ _) | (with_reducible refine Kd.C_drew ?_))); (case side2 => exact HC0_1.out); rintro e w16 ⟨rfl, hb⟩; refine ⟨_, rfl, ?_⟩; have n0_ := Aside0.mk (blk_below (g := gb968) (o := .cells #[.int .i64 a0_0, .slice A0_1 l0_1.length c0_1] 24 (0, 0)) (by (with_reducible repeat (first | refine blk_drewN ?_ _ | refine blk_drew ?_ | refine blk_alloc ?_ _)); exact BK968.out) hb); have n1_ := Aside0.mk (below_step (by repeat (first | (with_reducible first | exact HB.out | apply below_alloc | apply pw_below_drewN | apply below_drew1 | refine below_set ?_ GE968.out) | exact HB.out)) hb); clear BK968; clear HB; have BK968 := n0_; have HB := n1_; clear n0_ n1_; (try clear hb); (try clear hb2); (try clear hk); (try clear hi); have hcz17_0 : w16.cell? ⟨gb968, 0, none⟩ = some (.int .i64 a0_0) := (blk_cell BK968.out 0).trans rfl; have hcz17_1 : w16.cell? ⟨gb968, 1, none⟩ = some (.slice A0_1 l0_1.length c0_1) := (blk_cell BK968.out 1).trans rfl; have hfz17_0 := blk_frozen BK968.out 0; have hfz17_1 := blk_frozen BK968.out 1) | ((with_reducible refine gate_callee (f := 17) rfl ?_); refine goesL_ (some 28) rfl rfl Try.func17 (by kernel_rfl) rfl #[.agg #[.int .i64 a0_0, .slice A0_1 l0_1.length c0_1]] rfl (by (try simp only [List.map_toArray, List.map_cons, List.map_nil]); first | done | rfl | (simp only [List.length_drop, List.length_take]; rfl)) ?_; (with_reducible refine (laws_toValues.calls k a0_0 _ _ l0_1 t970 t971 _ ?side1 ?side2 A9.out).mono ?_); (case side1 => repeat (first | exact (Kd.C_below HR0_1.out HB.out) | (with_reducible refine Kd.C_alloc ?_ _) | (with_reducible refine Kd.C_drewN ?_ _) | (with_reducible refine Kd.C_drew ?_))); (case side2 => exact HC0_1.out); rintro e w18 ⟨v972, rfl, ho0, hb⟩; refine ⟨_, rfl, ?_⟩; have n0_ := Aside0.mk (Kd.R_lower ho0 (below_size (by repeat (first | (with_reducible first | exact HB.out | apply below_alloc | apply pw_below_drewN | apply below_drew1 | refine below_set ?_ GE968.out) | exact HB.out)))); have n1_ := Aside0.mk (blk_below (g := gb968) (o := .cells #[.int .i64 a0_0, .slice A0_1 l0_1.length c0_1] 24 (0, 0)) (by (with_reducible repeat (first | refine blk_drewN ?_ _ | refine blk_drew ?_ | refine blk_alloc ?_ _)); exact BK968.out) hb); have n2_ := Aside0.mk (below_step (by repeat (first | (with_reducible first | exact HB.out | apply below_alloc | apply pw_below_drewN | apply below_drew1 | refine below_set ?_ GE968.out) | exact HB.out)) hb); clear BK968; clear HB; have HO973 := n0_; have BK968 := n1_; have HB := n2_; clear n0_ n1_ n2_; (try clear hb); (try clear hb2); (try clear hk); (try clear hi); (try clear ho0); obtain ⟨Ao19, co19, eo19⟩ := Kd.R_slice HO973.out; subst eo19) | ((with_reducible refine gate_callee (f := 46) rfl ?_); refine goesL_ (some 31) rfl rfl Try.func46 (by kernel_rfl) rfl #[.agg #[.int .i64 t970, .slice Ao19 t971.length co19], .int .i64 a1, .int .i64 a2] rfl (by (try simp only [List.map_toArray, List.map_cons, List.map_nil]); first | done | rfl | (simp only [List.length_drop, List.length_take]; rfl)) ?_; (with_reducible refine (spec_SecondOf.calls k t970 _ _ t971 a1 a2 t974 t977 t980 _ ?side1 ?side2 A10.out).mono ?_); (case side1 => repeat (first | exact (Kd.R_reads' HO973.out).2.2 | (with_reducible refine Kd.C_alloc ?_ _) | (with_reducible refine Kd.C_drewN ?_ _) | (with_reducible refine Kd.C_drew ?_))); (case side2 => exact (Kd.R_reads' HO973.out).2.1); rintro e w20 ⟨v975, v978, rfl, ho0, ho1, hb⟩; refine ⟨_, rfl, ?_⟩; have n0_ := Aside0.mk (Kd.R_mono (Kd.R_told (Kd.R_told (Kd.R_old (by (with_reducible repeat (first | apply Kd.R_alloc | apply Kd.R_drewN | apply Kd.R_drew)); exact HO973.out) hb) (Kd.R_base ho0)) (Kd.R_base ho1)) (fun _ h_ => h_.1)); have n1_ := Aside0.mk (Kd.R_lower (Kd.R_new' ho0 (Kd.R_lt (by (with_reducible repeat (first | apply Kd.R_alloc | apply Kd.R_drewN | apply Kd.R_drew)); exact HO973.out))) (below_size (by repeat (first | (with_reducible first | exact HB.out | apply below_alloc | apply pw_below_drewN | apply below_drew1 | refine below_set ?_ GE968.out) | exact HB.out)))); have n2_ := Aside0.mk (Kd.R_lower (Kd.R_new' ho1 (Kd.R_lt (by (with_reducible repeat (first | apply Kd.R_alloc | apply Kd.R_drewN | apply Kd.R_drew)); exact HO973.out))) (below_size (by repeat (first | (with_reducible first | exact HB.out | apply below_alloc | apply pw_below_drewN | apply below_drew1 | refine below_set ?_ GE968.out) | exact HB.out)))); have n3_ := Aside0.mk (blk_below (g := gb968) (o := .cells #[.int .i64 a0_0, .slice A0_1 l0_1.length c0_1] 24 (0, 0)) (by (with_reducible repeat (first | refine blk_drewN ?_ _ | refine blk_drew ?_ | refine blk_alloc ?_ _)); exact BK968.out) hb); have n4_ := Aside0.mk (below_step (by repeat (first | (with_reducible first | exact HB.out | apply below_alloc | apply pw_below_drewN | apply below_drew1 | refine below_set ?_ GE968.out) | exact HB.out)) hb); clear HO973; clear BK968; clear HB; have HO973 := n0_; have HO976 := n1_; have HO979 := n2_; have BK968 := n3_; have HB := n4_; clear n0_ n1_ n2_ n3_ n4_; (try clear hb); (try clear hb2); (try clear hk); (try clear hi); (try clear ho0); (try clear ho1); have hcz21_0 : w20.cell? ⟨gb968, 0, none⟩ = some (.int .i64 a0_0) := (blk_cell BK968.out 0).trans rfl; have hcz21_1 : w20.cell? ⟨gb968, 1, none⟩ = some (.slice A0_1 l0_1.length c0_1) := (blk_cell BK968.out 1).trans rfl; have hfz21_0 := blk_frozen BK968.out 0; have hfz21_1 := blk_frozen BK968.out 1) | ((with_reducible refine gate_callee (f := 17) rfl ?_); refine goesL_ (some 36) rfl rfl Try.func17 (by kernel_rfl) rfl #[.agg #[.int .i64 a0_0, .slice A0_1 l0_1.length c0_1]] rfl (by (try simp only [List.map_toArray, List.map_cons, List.map_nil]); first | done | rfl | (simp only [List.length_drop, List.length_take]; rfl)) ?_; (with_reducible refine (laws_toValues.calls k a0_0 _ _ l0_1 t981 t982 _ ?side1 ?side2 A11.out).mono ?_); (case side1 => repeat (first | exact (Kd.C_below HR0_1.out HB.out) | (with_reducible refine Kd.C_alloc ?_ _) | (with_reducible refine Kd.C_drewN ?_ _) | (with_reducible refine Kd.C_drew ?_))); (case side2 => exact HC0_1.out); rintro e w22 ⟨v983, rfl, ho0, hb⟩; refine ⟨_, rfl, ?_⟩; have n0_ := Aside0.mk (Kd.R_elder' (by (with_reducible repeat (first | apply Kd.R_alloc | apply Kd.R_drewN | apply Kd.R_drew)); exact HO973.out) (Kd.R_base ho0) hb); have n1_ := Aside0.mk (Kd.R_elder' (by (with_reducible repeat (first | apply Kd.R_alloc | apply Kd.R_drewN | apply Kd.R_drew)); exact HO976.out) (Kd.R_base ho0) hb); have n2_ := Aside0.mk (Kd.R_elder' (by (with_reducible repeat (first | apply Kd.R_alloc | apply Kd.R_drewN | apply Kd.R_drew)); exact HO979.out) (Kd.R_base ho0) hb); have n3_ := Aside0.mk (Kd.R_lower (Kd.R_new' (Kd.R_new' (Kd.R_new' ho0 (Kd.R_lt (by (with_reducible repeat (first | apply Kd.R_alloc | apply Kd.R_drewN | apply Kd.R_drew)); exact HO973.out))) (Kd.R_lt (by (with_reducible repeat (first | apply Kd.R_alloc | apply Kd.R_drewN | apply Kd.R_drew)); exact HO976.out))) (Kd.R_lt (by (with_reducible repeat (first | apply Kd.R_alloc | apply Kd.R_drewN | apply Kd.R_drew)); exact HO979.out))) (below_size (by repeat (first | (with_reducible first | exact HB.out | apply below_alloc | apply pw_below_drewN | apply below_drew1 | refine below_set ?_ GE968.out) | exact HB.out)))); have n4_ := Aside0.mk (blk_below (g := gb968) (o := .cells #[.int .i64 a0_0, .slice A0_1 l0_1.length c0_1] 24 (0, 0)) (by (with_reducible repeat (first | refine blk_drewN ?_ _ | refine blk_drew ?_ | refine blk_alloc ?_ _)); exact BK968.out) hb); have n5_ := Aside0.mk (below_step (by repeat (first | (with_reducible first | exact HB.out | apply below_alloc | apply pw_below_drewN | apply below_drew1 | refine below_set ?_ GE968.out) | exact HB.out)) hb); clear HO973; clear HO976; clear HO979; clear BK968; clear HB; have HO973 := n0_; have HO976 := n1_; have HO979 := n2_; have HO984 := n3_; have BK968 := n4_; have HB := n5_; clear n0_ n1_ n2_ n3_ n4_ n5_; (try clear hb); (try clear hb2); (try clear hk); (try clear hi); (try clear ho0)) | ((with_reducible refine gate_dst (N := 11) rfl ?_); refine box_event ?hg (N := 11) ?hd (cs := #[.int .i64 0, .slice none 0 0]) (t := 28) ?hr ?_; (case hd => rfl); (case hg => rfl); (case hr => first | (go_simp; done) | (go_simp; rfl)); intro gb985 hg w23 hbox hb; have n0_ := Aside0.mk (Kd.R_below (by (with_reducible repeat (first | apply Kd.R_alloc | apply Kd.R_drewN | apply Kd.R_drew)); exact HO973.out) hb); have n1_ := Aside0.mk (Kd.R_below (by (with_reducible repeat (first | apply Kd.R_alloc | apply Kd.R_drewN | apply Kd.R_drew)); exact HO976.out) hb); have n2_ := Aside0.mk (Kd.R_below (by (with_reducible repeat (first | apply Kd.R_alloc | apply Kd.R_drewN | apply Kd.R_drew)); exact HO979.out) hb); have n3_ := Aside0.mk (Kd.R_below (by (with_reducible repeat (first | apply Kd.R_alloc | apply Kd.R_drewN | apply Kd.R_drew)); exact HO984.out) hb); have n4_ := Aside0.mk (blk_below (g := gb968) (o := .cells #[.int .i64 a0_0, .slice A0_1 l0_1.length c0_1] 24 (0, 0)) (by (with_reducible repeat (first | refine blk_drewN ?_ _ | refine blk_drew ?_ | refine blk_alloc ?_ _)); exact BK968.out) hb); have n5_ := Aside0.mk (below_step (by repeat (first | (with_reducible first | exact HB.out | apply below_alloc | apply pw_below_drewN | apply below_drew1 | refine below_set ?_ GE968.out) | exact HB.out)) hb); have n6_ := Aside0.mk (hbox); have n7_ := Aside0.mk ((by rw [hg]; exact (below_size (by repeat (first | (with_reducible first | exact HB.out | apply below_alloc | apply pw_below_drewN | apply below_drew1 | refine below_set ?_ GE968.out) | exact HB.out))) : w.heap.size ≤ gb985)); have n8_ := Aside0.mk ((by rw [hg]; exact (below_size (by repeat (first | (with_reducible first | exact HB.out | apply below_alloc | apply pw_below_drewN | apply below_drew1 | refine below_set ?_ GE968.out) | exact HB.out))) : w.heap.size ≤ gb985)); have n9_ := Aside0.mk ((by rw [hg]; exact Nat.ne_of_lt (blk_lt (g := gb968) (o := .cells #[.int .i64 a0_0, .slice A0_1 l0_1.length c0_1] 24 (0, 0)) (by (with_reducible repeat (first | refine blk_drewN ?_ _ | refine blk_drew ?_ | refine blk_alloc ?_ _)); exact BK968.out)) : gb968 ≠ gb985)); have n10_ := Aside0.mk ((by rw [hg]; exact Nat.ne_of_gt (blk_lt (g := gb968) (o := .cells #[.int .i64 a0_0, .slice A0_1 l0_1.length c0_1] 24 (0, 0)) (by (with_reducible repeat (first | refine blk_drewN ?_ _ | refine blk_drew ?_ | refine blk_alloc ?_ _)); exact BK968.out)) : gb985 ≠ gb968)); clear HO973; clear HO976; clear HO979; clear HO984; clear BK968; clear HB; have HO973 := n0_; have HO976 := n1_; have HO979 := n2_; have HO984 := n3_; have BK968 := n4_; have HB := n5_; have BK985 := n6_; have GW985 := n7_; have GE985 := n8_; have NB968_985 := n9_; have NB985_968 := n10_; clear n0_ n1_ n2_ n3_ n4_ n5_ n6_ n7_ n8_ n9_ n10_; clear hb hbox hg; have hnb24 := NB985_968.out; have hnc24 := NB968_985.out; have hcz25_0 : w23.cell? ⟨gb985, 0, none⟩ = some (.int .i64 0) := (blk_cell BK985.out 0).trans rfl; have hcz25_1 : w23.cell? ⟨gb985, 1, none⟩ = some (.slice none 0 0) := (blk_cell BK985.out 1).trans rfl; have hfz25_0 := blk_frozen BK985.out 0; have hfz25_1 := blk_frozen BK985.out 1; obtain ⟨Ao26, co26, eo26⟩ := Kd.R_slice HO984.out; subst eo26) | ((with_reducible refine gate_callee (f := 45) rfl ?_); refine goesL_ (some 41) rfl rfl Try.func45 (by kernel_rfl) rfl #[.agg #[.int .i64 t981, .slice Ao26 t982.length co26], .int .i64 a1, .int .i64 a2] rfl (by (try simp only [List.map_toArray, List.map_cons, List.map_nil]); first | done | rfl | (simp only [List.length_drop, List.length_take]; rfl)) ?_; (with_reducible refine (impl_SecondOf.calls k t981 _ _ t982 a1 a2 t986 t989 t992 _ ?side1 ?side2 A12.out).mono ?_); (case side1 => refine (Kd.R_reads' (e := 2) (base := w.heap.size) (ok := fun k_ => (((True ∧ some k_ ≠ (.slice Ao19 t971.length co19 : Value).ownBlock) ∧ some k_ ≠ (v975 : Value).ownBlock) ∧ some k_ ≠ (v978 : Value).ownBlock)) (n := t982.length) (c := co26) ?_).2.2; exact (by (with_reducible repeat (first | apply Kd.R_alloc | apply Kd.R_drewN | apply Kd.R_drew)); exact (Kd.R_mono (Kd.R_far (p := ⟨gb985, 1, none⟩) (Kd.R_far (p := ⟨gb985, 0, none⟩) (Kd.R_types HO984.out BK985.out (by decide)) (fun _ hk => hk.2) (.int .i64 t981)) (fun _ hk => hk.2) (.slice Ao26 t982.length co26)) (fun _ h_ => h_.1)))); (case side2 => exact (Kd.R_reads' HO984.out).2.1); rintro e w27 ⟨v987, v990, rfl, ho0, ho1, hb⟩; refine ⟨_, rfl, ?_⟩; have n0_ := Aside0.mk (Kd.R_mono (Kd.R_told (Kd.R_told (Kd.R_old (by (with_reducible repeat (first | apply Kd.R_alloc | apply Kd.R_drewN | apply Kd.R_drew)); exact (Kd.R_mono (Kd.R_far (p := ⟨gb985, 1, none⟩) (Kd.R_far (p := ⟨gb985, 0, none⟩) (Kd.R_types HO973.out BK985.out (by decide)) (fun _ hk => hk.2) (.int .i64 t981)) (fun _ hk => hk.2) (.slice Ao26 t982.length co26)) (fun _ h_ => h_.1))) hb) (Kd.R_base ho0)) (Kd.R_base ho1)) (fun _ h_ => h_.1)); have n1_ := Aside0.mk (Kd.R_mono (Kd.R_told (Kd.R_told (Kd.R_old (by (with_reducible repeat (first | apply Kd.R_alloc | apply Kd.R_drewN | apply Kd.R_drew)); exact (Kd.R_mono (Kd.R_far (p := ⟨gb985, 1, none⟩) (Kd.R_far (p := ⟨gb985, 0, none⟩) (Kd.R_types HO976.out BK985.out (by decide)) (fun _ hk => hk.2) (.int .i64 t981)) (fun _ hk => hk.2) (.slice Ao26 t982.length co26)) (fun _ h_ => h_.1))) hb) (Kd.R_base ho0)) (Kd.R_base ho1)) (fun _ h_ => h_.1)); have n2_ := Aside0.mk (Kd.R_mono (Kd.R_told (Kd.R_told (Kd.R_old (by (with_reducible repeat (first | apply Kd.R_alloc | apply Kd.R_drewN | apply Kd.R_drew)); exact (Kd.R_mono (Kd.R_far (p := ⟨gb985, 1, none⟩) (Kd.R_far (p := ⟨gb985, 0, none⟩) (Kd.R_types HO979.out BK985.out (by decide)) (fun _ hk => hk.2) (.int .i64 t981)) (fun _ hk => hk.2) (.slice Ao26 t982.length co26)) (fun _ h_ => h_.1))) hb) (Kd.R_base ho0)) (Kd.R_base ho1)) (fun _ h_ => h_.1)); have n3_ := Aside0.mk (Kd.R_mono (Kd.R_told (Kd.R_told (Kd.R_old (by (with_reducible repeat (first | apply Kd.R_alloc | apply Kd.R_drewN | apply Kd.R_drew)); exact (Kd.R_mono (Kd.R_far (p := ⟨gb985, 1, none⟩) (Kd.R_far (p := ⟨gb985, 0, none⟩) (Kd.R_types HO984.out BK985.out (by decide)) (fun _ hk => hk.2) (.int .i64 t981)) (fun _ hk => hk.2) (.slice Ao26 t982.length co26)) (fun _ h_ => h_.1))) hb) (Kd.R_base ho0)) (Kd.R_base ho1)) (fun _ h_ => h_.1)); have n4_ := Aside0.mk (Kd.R_lower (Kd.R_new' (Kd.R_new' (Kd.R_new' (Kd.R_new' ho0 (Kd.R_lt (by (with_reducible repeat (first | apply Kd.R_alloc | apply Kd.R_drewN | apply Kd.R_drew)); exact (Kd.R_mono (Kd.R_far (p := ⟨gb985, 1, none⟩) (Kd.R_far (p := ⟨gb985, 0, none⟩) (Kd.R_types HO973.out BK985.out (by decide)) (fun _ hk => hk.2) (.int .i64 t981)) (fun _ hk => hk.2) (.slice Ao26 t982.length co26)) (fun _ h_ => h_.1))))) (Kd.R_lt (by (with_reducible repeat (first | apply Kd.R_alloc | apply Kd.R_drewN | apply Kd.R_drew)); exact (Kd.R_mono (Kd.R_far (p := ⟨gb985, 1, none⟩) (Kd.R_far (p := ⟨gb985, 0, none⟩) (Kd.R_types HO976.out BK985.out (by decide)) (fun _ hk => hk.2) (.int .i64 t981)) (fun _ hk => hk.2) (.slice Ao26 t982.length co26)) (fun _ h_ => h_.1))))) (Kd.R_lt (by (with_reducible repeat (first | apply Kd.R_alloc | apply Kd.R_drewN | apply Kd.R_drew)); exact (Kd.R_mono (Kd.R_far (p := ⟨gb985, 1, none⟩) (Kd.R_far (p := ⟨gb985, 0, none⟩) (Kd.R_types HO979.out BK985.out (by decide)) (fun _ hk => hk.2) (.int .i64 t981)) (fun _ hk => hk.2) (.slice Ao26 t982.length co26)) (fun _ h_ => h_.1))))) (Kd.R_lt (by (with_reducible repeat (first | apply Kd.R_alloc | apply Kd.R_drewN | apply Kd.R_drew)); exact (Kd.R_mono (Kd.R_far (p := ⟨gb985, 1, none⟩) (Kd.R_far (p := ⟨gb985, 0, none⟩) (Kd.R_types HO984.out BK985.out (by decide)) (fun _ hk => hk.2) (.int .i64 t981)) (fun _ hk => hk.2) (.slice Ao26 t982.length co26)) (fun _ h_ => h_.1))))) (below_size (by repeat (first | (with_reducible first | exact HB.out | apply below_alloc | apply pw_below_drewN | apply below_drew1 | refine below_set ?_ GE968.out | refine below_set ?_ GE985.out) | exact HB.out)))); have n5_ := Aside0.mk (Kd.R_lower (Kd.R_new' (Kd.R_new' (Kd.R_new' (Kd.R_new' ho1 (Kd.R_lt (by (with_reducible repeat (first | apply Kd.R_alloc | apply Kd.R_drewN | apply Kd.R_drew)); exact (Kd.R_mono (Kd.R_far (p := ⟨gb985, 1, none⟩) (Kd.R_far (p := ⟨gb985, 0, none⟩) (Kd.R_types HO973.out BK985.out (by decide)) (fun _ hk => hk.2) (.int .i64 t981)) (fun _ hk => hk.2) (.slice Ao26 t982.length co26)) (fun _ h_ => h_.1))))) (Kd.R_lt (by (with_reducible repeat (first | apply Kd.R_alloc | apply Kd.R_drewN | apply Kd.R_drew)); exact (Kd.R_mono (Kd.R_far (p := ⟨gb985, 1, none⟩) (Kd.R_far (p := ⟨gb985, 0, none⟩) (Kd.R_types HO976.out BK985.out (by decide)) (fun _ hk => hk.2) (.int .i64 t981)) (fun _ hk => hk.2) (.slice Ao26 t982.length co26)) (fun _ h_ => h_.1))))) (Kd.R_lt (by (with_reducible repeat (first | apply Kd.R_alloc | apply Kd.R_drewN | apply Kd.R_drew)); exact (Kd.R_mono (Kd.R_far (p := ⟨gb985, 1, none⟩) (Kd.R_far (p := ⟨gb985, 0, none⟩) (Kd.R_types HO979.out BK985.out (by decide)) (fun _ hk => hk.2) (.int .i64 t981)) (fun _ hk => hk.2) (.slice Ao26 t982.length co26)) (fun _ h_ => h_.1))))) (Kd.R_lt (by (with_reducible repeat (first | apply Kd.R_alloc | apply Kd.R_drewN | apply Kd.R_drew)); exact (Kd.R_mono (Kd.R_far (p := ⟨gb985, 1, none⟩) (Kd.R_far (p := ⟨gb985, 0, none⟩) (Kd.R_types HO984.out BK985.out (by decide)) (fun _ hk => hk.2) (.int .i64 t981)) (fun _ hk => hk.2) (.slice Ao26 t982.length co26)) (fun _ h_ => h_.1))))) (below_size (by repeat (first | (with_reducible first | exact HB.out | apply below_alloc | apply pw_below_drewN | apply below_drew1 | refine below_set ?_ GE968.out | refine below_set ?_ GE985.out) | exact HB.out)))); have n6_ := Aside0.mk (blk_below (g := gb968) (o := .cells #[.int .i64 a0_0, .slice A0_1 l0_1.length c0_1] 24 (0, 0)) (by (with_reducible repeat (first | refine blk_drewN ?_ _ | refine blk_drew ?_ | refine blk_alloc ?_ _)); refine blk_far ?_ NB968_985.out _; (with_reducible repeat (first | refine blk_drewN ?_ _ | refine blk_drew ?_ | refine blk_alloc ?_ _)); refine blk_far ?_ NB968_985.out _; (with_reducible repeat (first | refine blk_drewN ?_ _ | refine blk_drew ?_ | refine blk_alloc ?_ _)); exact BK968.out) hb); have n7_ := Aside0.mk (blk_below (g := gb985) (o := .cells #[.int .i64 t981, .slice Ao26 t982.length co26] 28 (0, 0)) (by (with_reducible repeat (first | refine blk_drewN ?_ _ | refine blk_drew ?_ | refine blk_alloc ?_ _)); refine blk_put (cs := #[.int .i64 t981, .slice none 0 0]) ?_ 1 _ rfl; (with_reducible repeat (first | refine blk_drewN ?_ _ | refine blk_drew ?_ | refine blk_alloc ?_ _)); refine blk_put (cs := #[.int .i64 0, .slice none 0 0]) ?_ 0 _ rfl; (with_reducible repeat (first | refine blk_drewN ?_ _ | refine blk_drew ?_ | refine blk_alloc ?_ _)); exact BK985.out) hb); have n8_ := Aside0.mk (below_step (by repeat (first | (with_reducible first | exact HB.out | apply below_alloc | apply pw_below_drewN | apply below_drew1 | refine below_set ?_ GE968.out | refine below_set ?_ GE985.out) | exact HB.out)) hb); clear HO973; clear HO976; clear HO979; clear HO984; clear BK968; clear BK985; clear HB; have HO973 := n0_; have HO976 := n1_; have HO979 := n2_; have HO984 := n3_; have HO988 := n4_; have HO991 := n5_; have BK968 := n6_; have BK985 := n7_; have HB := n8_; clear n0_ n1_ n2_ n3_ n4_ n5_ n6_ n7_ n8_; (try clear hb); (try clear hb2); (try clear hk); (try clear hi); (try clear ho0); (try clear ho1)))
    (try simp only [Act.put, List.setIfInBounds_toArray, List.set_cons_zero, List.set_cons_succ])
    go_cut [59] (fun v59 wc => ∃ (kq : Nat) (x59_12 : Bool), v59 = .bool x59_12 ∧ Aside0 (laws_FnExactSecondOf.j0 kq a1 a2 t974 t977 t980 t986 t989 t992 x59_12 a0_0 l0_1 t981 t982 = some r) ∧ Aside0 (kq ≤ k) ∧ Aside0 (Kd.R (Kd.int .i64) 2 wc w.heap.size (fun k_ => some k_ ≠ (v978 : Value).ownBlock ∧ some k_ ≠ (v987 : Value).ownBlock ∧ some k_ ≠ (v990 : Value).ownBlock ∧ some k_ ≠ ((.slice Ao26 t982.length co26) : Value).ownBlock) v975 t974) ∧ Aside0 (Kd.R (Kd.int .i64) 2 wc w.heap.size (fun k_ => some k_ ≠ (v975 : Value).ownBlock ∧ some k_ ≠ (v987 : Value).ownBlock ∧ some k_ ≠ (v990 : Value).ownBlock ∧ some k_ ≠ ((.slice Ao26 t982.length co26) : Value).ownBlock) v978 t977) ∧ Aside0 (Kd.R (Kd.int .i64) 2 wc w.heap.size (fun k_ => some k_ ≠ (v975 : Value).ownBlock ∧ some k_ ≠ (v978 : Value).ownBlock ∧ some k_ ≠ (v990 : Value).ownBlock ∧ some k_ ≠ ((.slice Ao26 t982.length co26) : Value).ownBlock) v987 t986) ∧ Aside0 (Kd.R (Kd.int .i64) 2 wc w.heap.size (fun k_ => some k_ ≠ (v975 : Value).ownBlock ∧ some k_ ≠ (v978 : Value).ownBlock ∧ some k_ ≠ (v987 : Value).ownBlock ∧ some k_ ≠ ((.slice Ao26 t982.length co26) : Value).ownBlock) v990 t989) ∧ Aside0 (Kd.R (Kd.int .i64) 2 wc w.heap.size (fun k_ => some k_ ≠ (v975 : Value).ownBlock ∧ some k_ ≠ (v978 : Value).ownBlock ∧ some k_ ≠ (v987 : Value).ownBlock ∧ some k_ ≠ (v990 : Value).ownBlock) (.slice Ao26 t982.length co26) t982) ∧ Aside0 (wc.heap[gb968]? = some (.cells #[.int .i64 a0_0, (.slice A0_1 l0_1.length c0_1)] 24 (0, 0))) ∧ Aside0 (wc.heap[gb985]? = some (.cells #[.int .i64 t981, (.slice Ao26 t982.length co26)] 28 (0, 0))) ∧ Aside0 (Below w.heap.size w wc))
    case first =>
      have H := HC13.out
      clear HC13
      replace H := Option.bind_eq_some_iff.mp H
      obtain ⟨t993, A280, H⟩ := H
      replace H : (if t993 = true then ((laws_eqInt64S.f k t989 t977).bind fun t994 => (if t994 = true then (laws_FnExactSecondOf.j0 k a1 a2 t974 t977 t980 t986 t989 t992 (t992 != t980) a0_0 l0_1 t981 t982) else (laws_FnExactSecondOf.j0 k a1 a2 t974 t977 t980 t986 t989 t992 true a0_0 l0_1 t981 t982))) else (laws_FnExactSecondOf.j0 k a1 a2 t974 t977 t980 t986 t989 t992 true a0_0 l0_1 t981 t982)) = some r := H
      have A28 := Aside0.mk A280
      clear A280
      by_cases c29 : t993 = true
      · subst c29
        have H1 : ((laws_eqInt64S.f k t989 t977).bind fun t994 => (if t994 = true then (laws_FnExactSecondOf.j0 k a1 a2 t974 t977 t980 t986 t989 t992 (t992 != t980) a0_0 l0_1 t981 t982) else (laws_FnExactSecondOf.j0 k a1 a2 t974 t977 t980 t986 t989 t992 true a0_0 l0_1 t981 t982))) = some r := by rw [if_pos rfl] at H; exact H
        clear H
        have H := H1
        clear H1
        replace H := Option.bind_eq_some_iff.mp H
        obtain ⟨t994, A300, H⟩ := H
        replace H : (if t994 = true then (laws_FnExactSecondOf.j0 k a1 a2 t974 t977 t980 t986 t989 t992 (t992 != t980) a0_0 l0_1 t981 t982) else (laws_FnExactSecondOf.j0 k a1 a2 t974 t977 t980 t986 t989 t992 true a0_0 l0_1 t981 t982)) = some r := H
        have A30 := Aside0.mk A300
        clear A300
        by_cases c31 : t994 = true
        · subst c31
          have H1 : (laws_FnExactSecondOf.j0 k a1 a2 t974 t977 t980 t986 t989 t992 (t992 != t980) a0_0 l0_1 t981 t982) = some r := by rw [if_pos rfl] at H; exact H
          clear H
          have H := H1
          clear H1
          have H' := Aside0.mk H
          clear H
          obtain ⟨Ao32, co32, eo32⟩ := Kd.R_slice HO988.out
          subst eo32
          obtain ⟨Ao33, co33, eo33⟩ := Kd.R_slice HO976.out
          subst eo33
          as_aux_lemma =>
            go_wp2_with (first | ((with_reducible refine gate_callee (f := 19) rfl ?_); refine goesL_ (some 47) rfl rfl Try.func19 (by kernel_rfl) rfl #[.slice Ao32 t986.length co32, .slice Ao33 t974.length co33] rfl (by (try simp only [List.map_toArray, List.map_cons, List.map_nil]); first | done | rfl | (simp only [List.length_drop, List.length_take]; rfl)) ?_; (with_reducible refine (laws_eqInt64S.calls k _ _ t986 _ _ t974 true _ ?side1 ?side2 ?side3 ?side4 A28.out).mono ?_); (case side1 => repeat (first | exact (Kd.R_reads' HO988.out).2.2 | (with_reducible refine Kd.C_alloc ?_ _) | (with_reducible refine Kd.C_drewN ?_ _) | (with_reducible refine Kd.C_drew ?_))); (case side2 => exact (Kd.R_reads' HO988.out).2.1); (case side3 => repeat (first | exact (Kd.R_reads' HO976.out).2.2 | (with_reducible refine Kd.C_alloc ?_ _) | (with_reducible refine Kd.C_drewN ?_ _) | (with_reducible refine Kd.C_drew ?_))); (case side4 => exact (Kd.R_reads' HO976.out).2.1); rintro e w' ⟨rfl, ⟨nd, rfl⟩⟩; refine ⟨_, rfl, ?_⟩; obtain ⟨Ao34, co34, eo34⟩ := Kd.R_slice HO991.out; subst eo34; obtain ⟨Ao35, co35, eo35⟩ := Kd.R_slice HO979.out; subst eo35) | (go_at_call 19; (with_reducible refine (laws_eqInt64S.calls k _ _ t989 _ _ t977 true _ ?side1 ?side2 ?side3 ?side4 A30.out).mono ?_); (case side1 => repeat (first | exact (Kd.R_reads' HO991.out).2.2 | (with_reducible refine Kd.C_alloc ?_ _) | (with_reducible refine Kd.C_drewN ?_ _) | (with_reducible refine Kd.C_drew ?_))); (case side2 => exact (Kd.R_reads' HO991.out).2.1); (case side3 => repeat (first | exact (Kd.R_reads' HO979.out).2.2 | (with_reducible refine Kd.C_alloc ?_ _) | (with_reducible refine Kd.C_drewN ?_ _) | (with_reducible refine Kd.C_drew ?_))); (case side4 => exact (Kd.R_reads' HO979.out).2.1); rintro e w' ⟨rfl, ⟨nd, rfl⟩⟩))
            go_meet
            case rel => exact ⟨_, ((t992 != t980)), (by first | rfl | (simp; done) | (simp [*]; done) | (simp [IntWalk.i64_left, *]; done)), H', ⟨by first | omega | exact Nat.le_refl _⟩, ⟨by (with_reducible repeat (first | apply Kd.R_alloc | apply Kd.R_drewN | apply Kd.R_drew)); exact Kd.R_mono HO976.out (fun _ hk => ⟨hk.1.1.1.1, ⟨hk.1.2, ⟨hk.2, hk.1.1.2⟩⟩⟩)⟩, ⟨by (with_reducible repeat (first | apply Kd.R_alloc | apply Kd.R_drewN | apply Kd.R_drew)); exact Kd.R_mono HO979.out (fun _ hk => ⟨hk.1.1.1.1, ⟨hk.1.2, ⟨hk.2, hk.1.1.2⟩⟩⟩)⟩, ⟨by (with_reducible repeat (first | apply Kd.R_alloc | apply Kd.R_drewN | apply Kd.R_drew)); exact Kd.R_mono HO988.out (fun _ hk => ⟨hk.1.1.2, ⟨hk.1.2, ⟨hk.1.1.1.1, hk.2⟩⟩⟩)⟩, ⟨by (with_reducible repeat (first | apply Kd.R_alloc | apply Kd.R_drewN | apply Kd.R_drew)); exact Kd.R_mono HO991.out (fun _ hk => ⟨hk.1.1.2, ⟨hk.1.2, ⟨hk.1.1.1.1, hk.2⟩⟩⟩)⟩, ⟨by (with_reducible repeat (first | apply Kd.R_alloc | apply Kd.R_drewN | apply Kd.R_drew)); exact Kd.R_mono HO984.out (fun _ hk => ⟨hk.1.1.1.2, ⟨hk.1.1.2, ⟨hk.1.2, hk.2⟩⟩⟩)⟩, ⟨by (with_reducible repeat (first | refine blk_drewN ?_ _ | refine blk_drew ?_ | refine blk_alloc ?_ _)); exact BK968.out⟩, ⟨by (with_reducible repeat (first | refine blk_drewN ?_ _ | refine blk_drew ?_ | refine blk_alloc ?_ _)); exact BK985.out⟩, ⟨by repeat (first | (with_reducible first | exact HB.out | apply below_alloc | apply pw_below_drewN | apply below_drew1 | refine below_set ?_ GE968.out | refine below_set ?_ GE985.out) | exact HB.out)⟩⟩
        · replace c31 := Bool.eq_false_iff.mpr c31
          subst c31
          have H1 : (laws_FnExactSecondOf.j0 k a1 a2 t974 t977 t980 t986 t989 t992 true a0_0 l0_1 t981 t982) = some r := by rw [if_neg (show ¬ (false = true) by decide)] at H; exact H
          clear H
          have H := H1
          clear H1
          have H' := Aside0.mk H
          clear H
          obtain ⟨Ao36, co36, eo36⟩ := Kd.R_slice HO988.out
          subst eo36
          obtain ⟨Ao37, co37, eo37⟩ := Kd.R_slice HO976.out
          subst eo37
          as_aux_lemma =>
            go_wp2_with (first | ((with_reducible refine gate_callee (f := 19) rfl ?_); refine goesL_ (some 47) rfl rfl Try.func19 (by kernel_rfl) rfl #[.slice Ao36 t986.length co36, .slice Ao37 t974.length co37] rfl (by (try simp only [List.map_toArray, List.map_cons, List.map_nil]); first | done | rfl | (simp only [List.length_drop, List.length_take]; rfl)) ?_; (with_reducible refine (laws_eqInt64S.calls k _ _ t986 _ _ t974 true _ ?side1 ?side2 ?side3 ?side4 A28.out).mono ?_); (case side1 => repeat (first | exact (Kd.R_reads' HO988.out).2.2 | (with_reducible refine Kd.C_alloc ?_ _) | (with_reducible refine Kd.C_drewN ?_ _) | (with_reducible refine Kd.C_drew ?_))); (case side2 => exact (Kd.R_reads' HO988.out).2.1); (case side3 => repeat (first | exact (Kd.R_reads' HO976.out).2.2 | (with_reducible refine Kd.C_alloc ?_ _) | (with_reducible refine Kd.C_drewN ?_ _) | (with_reducible refine Kd.C_drew ?_))); (case side4 => exact (Kd.R_reads' HO976.out).2.1); rintro e w' ⟨rfl, ⟨nd, rfl⟩⟩; refine ⟨_, rfl, ?_⟩; obtain ⟨Ao38, co38, eo38⟩ := Kd.R_slice HO991.out; subst eo38; obtain ⟨Ao39, co39, eo39⟩ := Kd.R_slice HO979.out; subst eo39) | (go_at_call 19; (with_reducible refine (laws_eqInt64S.calls k _ _ t989 _ _ t977 false _ ?side1 ?side2 ?side3 ?side4 A30.out).mono ?_); (case side1 => repeat (first | exact (Kd.R_reads' HO991.out).2.2 | (with_reducible refine Kd.C_alloc ?_ _) | (with_reducible refine Kd.C_drewN ?_ _) | (with_reducible refine Kd.C_drew ?_))); (case side2 => exact (Kd.R_reads' HO991.out).2.1); (case side3 => repeat (first | exact (Kd.R_reads' HO979.out).2.2 | (with_reducible refine Kd.C_alloc ?_ _) | (with_reducible refine Kd.C_drewN ?_ _) | (with_reducible refine Kd.C_drew ?_))); (case side4 => exact (Kd.R_reads' HO979.out).2.1); rintro e w' ⟨rfl, ⟨nd, rfl⟩⟩))
            go_meet
            case rel => exact ⟨_, (true), (by first | rfl | (simp; done) | (simp [*]; done) | (simp [IntWalk.i64_left, *]; done)), H', ⟨by first | omega | exact Nat.le_refl _⟩, ⟨by (with_reducible repeat (first | apply Kd.R_alloc | apply Kd.R_drewN | apply Kd.R_drew)); exact Kd.R_mono HO976.out (fun _ hk => ⟨hk.1.1.1.1, ⟨hk.1.2, ⟨hk.2, hk.1.1.2⟩⟩⟩)⟩, ⟨by (with_reducible repeat (first | apply Kd.R_alloc | apply Kd.R_drewN | apply Kd.R_drew)); exact Kd.R_mono HO979.out (fun _ hk => ⟨hk.1.1.1.1, ⟨hk.1.2, ⟨hk.2, hk.1.1.2⟩⟩⟩)⟩, ⟨by (with_reducible repeat (first | apply Kd.R_alloc | apply Kd.R_drewN | apply Kd.R_drew)); exact Kd.R_mono HO988.out (fun _ hk => ⟨hk.1.1.2, ⟨hk.1.2, ⟨hk.1.1.1.1, hk.2⟩⟩⟩)⟩, ⟨by (with_reducible repeat (first | apply Kd.R_alloc | apply Kd.R_drewN | apply Kd.R_drew)); exact Kd.R_mono HO991.out (fun _ hk => ⟨hk.1.1.2, ⟨hk.1.2, ⟨hk.1.1.1.1, hk.2⟩⟩⟩)⟩, ⟨by (with_reducible repeat (first | apply Kd.R_alloc | apply Kd.R_drewN | apply Kd.R_drew)); exact Kd.R_mono HO984.out (fun _ hk => ⟨hk.1.1.1.2, ⟨hk.1.1.2, ⟨hk.1.2, hk.2⟩⟩⟩)⟩, ⟨by (with_reducible repeat (first | refine blk_drewN ?_ _ | refine blk_drew ?_ | refine blk_alloc ?_ _)); exact BK968.out⟩, ⟨by (with_reducible repeat (first | refine blk_drewN ?_ _ | refine blk_drew ?_ | refine blk_alloc ?_ _)); exact BK985.out⟩, ⟨by repeat (first | (with_reducible first | exact HB.out | apply below_alloc | apply pw_below_drewN | apply below_drew1 | refine below_set ?_ GE968.out | refine below_set ?_ GE985.out) | exact HB.out)⟩⟩
      · replace c29 := Bool.eq_false_iff.mpr c29
        subst c29
        have H1 : (laws_FnExactSecondOf.j0 k a1 a2 t974 t977 t980 t986 t989 t992 true a0_0 l0_1 t981 t982) = some r := by rw [if_neg (show ¬ (false = true) by decide)] at H; exact H
        clear H
        have H := H1
        clear H1
        have H' := Aside0.mk H
        clear H
        obtain ⟨Ao40, co40, eo40⟩ := Kd.R_slice HO988.out
        subst eo40
        obtain ⟨Ao41, co41, eo41⟩ := Kd.R_slice HO976.out
        subst eo41
        as_aux_lemma =>
          go_wp2_with (first | ((with_reducible refine gate_callee (f := 19) rfl ?_); refine goesL_ (some 47) rfl rfl Try.func19 (by kernel_rfl) rfl #[.slice Ao40 t986.length co40, .slice Ao41 t974.length co41] rfl (by (try simp only [List.map_toArray, List.map_cons, List.map_nil]); first | done | rfl | (simp only [List.length_drop, List.length_take]; rfl)) ?_; (with_reducible refine (laws_eqInt64S.calls k _ _ t986 _ _ t974 false _ ?side1 ?side2 ?side3 ?side4 A28.out).mono ?_); (case side1 => repeat (first | exact (Kd.R_reads' HO988.out).2.2 | (with_reducible refine Kd.C_alloc ?_ _) | (with_reducible refine Kd.C_drewN ?_ _) | (with_reducible refine Kd.C_drew ?_))); (case side2 => exact (Kd.R_reads' HO988.out).2.1); (case side3 => repeat (first | exact (Kd.R_reads' HO976.out).2.2 | (with_reducible refine Kd.C_alloc ?_ _) | (with_reducible refine Kd.C_drewN ?_ _) | (with_reducible refine Kd.C_drew ?_))); (case side4 => exact (Kd.R_reads' HO976.out).2.1); rintro e w' ⟨rfl, ⟨nd, rfl⟩⟩; refine ⟨_, rfl, ?_⟩))
          go_meet
          case rel => exact ⟨_, (true), (by first | rfl | (simp; done) | (simp [*]; done) | (simp [IntWalk.i64_left, *]; done)), H', ⟨by first | omega | exact Nat.le_refl _⟩, ⟨by (with_reducible repeat (first | apply Kd.R_alloc | apply Kd.R_drewN | apply Kd.R_drew)); exact Kd.R_mono HO976.out (fun _ hk => ⟨hk.1.1.1.1, ⟨hk.1.2, ⟨hk.2, hk.1.1.2⟩⟩⟩)⟩, ⟨by (with_reducible repeat (first | apply Kd.R_alloc | apply Kd.R_drewN | apply Kd.R_drew)); exact Kd.R_mono HO979.out (fun _ hk => ⟨hk.1.1.1.1, ⟨hk.1.2, ⟨hk.2, hk.1.1.2⟩⟩⟩)⟩, ⟨by (with_reducible repeat (first | apply Kd.R_alloc | apply Kd.R_drewN | apply Kd.R_drew)); exact Kd.R_mono HO988.out (fun _ hk => ⟨hk.1.1.2, ⟨hk.1.2, ⟨hk.1.1.1.1, hk.2⟩⟩⟩)⟩, ⟨by (with_reducible repeat (first | apply Kd.R_alloc | apply Kd.R_drewN | apply Kd.R_drew)); exact Kd.R_mono HO991.out (fun _ hk => ⟨hk.1.1.2, ⟨hk.1.2, ⟨hk.1.1.1.1, hk.2⟩⟩⟩)⟩, ⟨by (with_reducible repeat (first | apply Kd.R_alloc | apply Kd.R_drewN | apply Kd.R_drew)); exact Kd.R_mono HO984.out (fun _ hk => ⟨hk.1.1.1.2, ⟨hk.1.1.2, ⟨hk.1.2, hk.2⟩⟩⟩)⟩, ⟨by (with_reducible repeat (first | refine blk_drewN ?_ _ | refine blk_drew ?_ | refine blk_alloc ?_ _)); exact BK968.out⟩, ⟨by (with_reducible repeat (first | refine blk_drewN ?_ _ | refine blk_drew ?_ | refine blk_alloc ?_ _)); exact BK985.out⟩, ⟨by repeat (first | (with_reducible first | exact HB.out | apply below_alloc | apply pw_below_drewN | apply below_drew1 | refine below_set ?_ GE968.out | refine below_set ?_ GE985.out) | exact HB.out)⟩⟩
    case rest =>
      clear HC13
      try clear c1
      try clear c2
      try clear p2
      try clear c3
      try clear c4
      try clear c5
      try clear c5b0
      try clear c12
      try clear c15
      try clear c17
      try clear c19
      try clear c24
      try clear c29
      try clear c31
      try clear hcz15_0
      try clear hcz15_1
      try clear hcz17_0
      try clear hcz17_1
      try clear hcz21_0
      try clear hcz21_1
      try clear hcz25_0
      try clear hcz25_1
      try clear hcz7_0
      try clear hcz7_1
      try clear hfz15_0
      try clear hfz15_1
      try clear hfz17_0
      try clear hfz17_1
      try clear hfz21_0
      try clear hfz21_1
      try clear hfz25_0
      try clear hfz25_1
      try clear hfz7_0
      try clear hfz7_1
      obtain ⟨kq, x59_12, rfl, HA, HJ12, HO_8, HO_9, HO_12, HO_13, HO_986001, BK968, BK985, HB⟩ := hcut
      cases kq with
      | zero => exact absurd HA.out (by simp [laws_FnExactSecondOf.j0])
      | succ kj12 =>
        have H := HA.out
        clear HA
        simp only [laws_FnExactSecondOf.j0] at H
        by_cases c42 : x59_12 = true
        · subst c42
          have H1 : (some false) = some r := by rw [if_pos rfl] at H; exact H
          clear H
          have H := H1
          clear H1
          obtain rfl := Option.some.inj H
          as_aux_lemma =>
            go_wp2
            go_ret
            exact ⟨by first | rfl | (simp [errW_none, errW_some] <;> rfl) | (simp [*, errW_none, errW_some] <;> rfl), by repeat (first | (with_reducible first | exact HB.out | apply below_alloc | apply pw_below_drewN | apply below_drew1 | refine below_set ?_ GE968.out | refine below_set ?_ GE985.out) | exact HB.out)⟩
        · replace c42 := Bool.eq_false_iff.mpr c42
          subst c42
          have H1 : ((laws_toValues.f kj12 a0_0 l0_1).bind fun bt995 => ((laws_eqValues.f kj12 t981 t982 bt995.1 bt995.2).bind fun t999 => (if t999 = true then ((laws_markValues.f kj12 t981 t982 1).bind fun bt1000 => (if bt1000.1 < 0 then (laws_FnExactSecondOf.j1 kj12 a1 a2 t974 t977 t980 t986 t989 true a0_0 l0_1) else ((laws_eqInt64S.f kj12 t986 t974).bind fun t1002 => (if t1002 = true then ((laws_eqInt64S.f kj12 t989 t977).bind fun t1003 => (if t1003 = true then (laws_FnExactSecondOf.j1 kj12 a1 a2 t974 t977 t980 t986 t989 (t992 != t980) a0_0 l0_1) else (laws_FnExactSecondOf.j1 kj12 a1 a2 t974 t977 t980 t986 t989 true a0_0 l0_1))) else (laws_FnExactSecondOf.j1 kj12 a1 a2 t974 t977 t980 t986 t989 true a0_0 l0_1))))) else (some false)))) = some r := by rw [if_neg (show ¬ (false = true) by decide)] at H; exact H
          clear H
          have H := H1
          clear H1
          replace H := Option.bind_eq_some_iff.mp H
          obtain ⟨⟨t995, t996⟩, A430, H⟩ := H
          replace H : ((laws_eqValues.f kj12 t981 t982 t995 t996).bind fun t999 => (if t999 = true then ((laws_markValues.f kj12 t981 t982 1).bind fun bt1000 => (if bt1000.1 < 0 then (laws_FnExactSecondOf.j1 kj12 a1 a2 t974 t977 t980 t986 t989 true a0_0 l0_1) else ((laws_eqInt64S.f kj12 t986 t974).bind fun t1002 => (if t1002 = true then ((laws_eqInt64S.f kj12 t989 t977).bind fun t1003 => (if t1003 = true then (laws_FnExactSecondOf.j1 kj12 a1 a2 t974 t977 t980 t986 t989 (t992 != t980) a0_0 l0_1) else (laws_FnExactSecondOf.j1 kj12 a1 a2 t974 t977 t980 t986 t989 true a0_0 l0_1))) else (laws_FnExactSecondOf.j1 kj12 a1 a2 t974 t977 t980 t986 t989 true a0_0 l0_1))))) else (some false))) = some r := H
          have A43 := Aside0.mk A430
          clear A430
          replace H := Option.bind_eq_some_iff.mp H
          obtain ⟨t999, A440, H⟩ := H
          replace H : (if t999 = true then ((laws_markValues.f kj12 t981 t982 1).bind fun bt1000 => (if bt1000.1 < 0 then (laws_FnExactSecondOf.j1 kj12 a1 a2 t974 t977 t980 t986 t989 true a0_0 l0_1) else ((laws_eqInt64S.f kj12 t986 t974).bind fun t1002 => (if t1002 = true then ((laws_eqInt64S.f kj12 t989 t977).bind fun t1003 => (if t1003 = true then (laws_FnExactSecondOf.j1 kj12 a1 a2 t974 t977 t980 t986 t989 (t992 != t980) a0_0 l0_1) else (laws_FnExactSecondOf.j1 kj12 a1 a2 t974 t977 t980 t986 t989 true a0_0 l0_1))) else (laws_FnExactSecondOf.j1 kj12 a1 a2 t974 t977 t980 t986 t989 true a0_0 l0_1))))) else (some false)) = some r := H
          have A44 := Aside0.mk A440
          clear A440
          by_cases c45 : t999 = true
          · subst c45
            have H1 : ((laws_markValues.f kj12 t981 t982 1).bind fun bt1000 => (if bt1000.1 < 0 then (laws_FnExactSecondOf.j1 kj12 a1 a2 t974 t977 t980 t986 t989 true a0_0 l0_1) else ((laws_eqInt64S.f kj12 t986 t974).bind fun t1002 => (if t1002 = true then ((laws_eqInt64S.f kj12 t989 t977).bind fun t1003 => (if t1003 = true then (laws_FnExactSecondOf.j1 kj12 a1 a2 t974 t977 t980 t986 t989 (t992 != t980) a0_0 l0_1) else (laws_FnExactSecondOf.j1 kj12 a1 a2 t974 t977 t980 t986 t989 true a0_0 l0_1))) else (laws_FnExactSecondOf.j1 kj12 a1 a2 t974 t977 t980 t986 t989 true a0_0 l0_1))))) = some r := by rw [if_pos rfl] at H; exact H
            clear H
            have H := H1
            clear H1
            replace H := Option.bind_eq_some_iff.mp H
            obtain ⟨⟨t1000, t1001⟩, A460, H⟩ := H
            replace H : (if t1000 < 0 then (laws_FnExactSecondOf.j1 kj12 a1 a2 t974 t977 t980 t986 t989 true a0_0 l0_1) else ((laws_eqInt64S.f kj12 t986 t974).bind fun t1002 => (if t1002 = true then ((laws_eqInt64S.f kj12 t989 t977).bind fun t1003 => (if t1003 = true then (laws_FnExactSecondOf.j1 kj12 a1 a2 t974 t977 t980 t986 t989 (t992 != t980) a0_0 l0_1) else (laws_FnExactSecondOf.j1 kj12 a1 a2 t974 t977 t980 t986 t989 true a0_0 l0_1))) else (laws_FnExactSecondOf.j1 kj12 a1 a2 t974 t977 t980 t986 t989 true a0_0 l0_1)))) = some r := H
            have A46 := Aside0.mk A460
            clear A460
            have HC47 := Aside0.mk H
            clear H
            try go_wp2
            have n0_ := Aside0.mk (Kd.R_drew HO_8.out)
            have n1_ := Aside0.mk (Kd.R_drew HO_9.out)
            have n2_ := Aside0.mk (Kd.R_drew HO_12.out)
            have n3_ := Aside0.mk (Kd.R_drew HO_13.out)
            have n4_ := Aside0.mk (Kd.R_drew HO_986001.out)
            have n5_ := Aside0.mk (blk_drew BK968.out)
            have n6_ := Aside0.mk (blk_drew BK985.out)
            have n7_ := Aside0.mk (below_drew1 HB.out)
            clear HO_8
            clear HO_9
            clear HO_12
            clear HO_13
            clear HO_986001
            clear BK968
            clear BK985
            clear HB
            have HO_8 := n0_
            have HO_9 := n1_
            have HO_12 := n2_
            have HO_13 := n3_
            have HO_986001 := n4_
            have BK968 := n5_
            have BK985 := n6_
            have HB := n7_
            clear n0_ n1_ n2_ n3_ n4_ n5_ n6_ n7_
            refine start_ (n := 5) (S := fun w' => w'.cell? ⟨gb985, 0, none⟩ = some (.int .i64 t981) ∧ w'.cell? ⟨gb985, 1, none⟩ = some (.slice Ao26 t982.length co26) ∧ w'.cell? ⟨gb968, 0, none⟩ = some (.int .i64 a0_0) ∧ w'.cell? ⟨gb968, 1, none⟩ = some (.slice A0_1 l0_1.length c0_1)) (ds := []) #[false, false, false, false, false] (by kernel_rfl) rfl rfl ⟨(blk_cell BK985.out 0).trans rfl, (blk_cell BK985.out 1).trans rfl, (blk_cell BK968.out 0).trans rfl, (blk_cell BK968.out 1).trans rfl⟩ (fun hHeld => ?_)
            generalize wc.drew = w48 at HO_8 HO_9 HO_12 HO_13 HO_986001 BK968 BK985 HB hHeld ⊢
            refine take_ (i := 0) (N := some 60) (v := ?_) (a' := ?_) #[true, false, false, false, false] rfl rfl (by kernel_rfl) (fun _ _ _ h => h) (Or.inl ⟨by rfl, ?_⟩) hHeld ?_ ?_
            rotate_left
            · rintro w' ⟨s0, s1, s2, s3⟩
              go_simp
              with_reducible rfl
            rotate_left
            · simp only [Act.put, List.setIfInBounds_toArray, List.set_cons_zero, List.set_cons_succ, i64_w, i32_w]
              rfl
            refine take_ (i := 1) (N := some 61) (v := ?_) (a' := ?_) #[true, true, false, false, false] rfl rfl (by kernel_rfl) (fun _ _ _ h => h) (Or.inl ⟨by rfl, ?_⟩) hHeld ?_ ?_
            rotate_left
            · rintro w' ⟨s0, s1, s2, s3⟩
              go_simp
              with_reducible rfl
            rotate_left
            · simp only [Act.put, List.setIfInBounds_toArray, List.set_cons_zero, List.set_cons_succ, i64_w, i32_w]
              rfl
            refine one_ (i := 2) (N := some 62) #[true, true, true, false, false] rfl rfl (by kernel_rfl) (by decide) (fun K hK => ?_)
            refine goes_ Try.func17 (by kernel_rfl) rfl #[.agg #[.int .i64 a0_0, .slice A0_1 l0_1.length c0_1]] (by rfl) rfl rfl (by (try simp only [List.map_toArray, List.map_cons, List.map_nil]); first | done | rfl | (simp only [List.length_drop, List.length_take]; rfl)) ?_
            with_reducible refine (laws_toValues.calls kj12 a0_0 _ _ l0_1 t995 t996 _ ?side1 ?side2 A43.out).mono ?_
            (case side1 => repeat (first | exact (Kd.C_below HR0_1.out HB.out) | (with_reducible refine Kd.C_alloc ?_ _) | (with_reducible refine Kd.C_drewN ?_ _) | (with_reducible refine Kd.C_drew ?_)))
            (case side2 => exact HC0_1.out)
            rintro e w49 ⟨v997, rfl, ho0, hb⟩
            refine ⟨_, rfl, ?_⟩
            have n0_ := Aside0.mk (Kd.R_elder' (by (with_reducible repeat (first | apply Kd.R_alloc | apply Kd.R_drewN | apply Kd.R_drew)); exact HO_8.out) (Kd.R_base ho0) hb)
            have n1_ := Aside0.mk (Kd.R_elder' (by (with_reducible repeat (first | apply Kd.R_alloc | apply Kd.R_drewN | apply Kd.R_drew)); exact HO_9.out) (Kd.R_base ho0) hb)
            have n2_ := Aside0.mk (Kd.R_elder' (by (with_reducible repeat (first | apply Kd.R_alloc | apply Kd.R_drewN | apply Kd.R_drew)); exact HO_12.out) (Kd.R_base ho0) hb)
            have n3_ := Aside0.mk (Kd.R_elder' (by (with_reducible repeat (first | apply Kd.R_alloc | apply Kd.R_drewN | apply Kd.R_drew)); exact HO_13.out) (Kd.R_base ho0) hb)
            have n4_ := Aside0.mk (Kd.R_elder' (by (with_reducible repeat (first | apply Kd.R_alloc | apply Kd.R_drewN | apply Kd.R_drew)); exact HO_986001.out) (Kd.R_base ho0) hb)
            have n5_ := Aside0.mk (Kd.R_lower (Kd.R_new' (Kd.R_new' (Kd.R_new' (Kd.R_new' (Kd.R_new' ho0 (Kd.R_lt (by (with_reducible repeat (first | apply Kd.R_alloc | apply Kd.R_drewN | apply Kd.R_drew)); exact HO_8.out))) (Kd.R_lt (by (with_reducible repeat (first | apply Kd.R_alloc | apply Kd.R_drewN | apply Kd.R_drew)); exact HO_9.out))) (Kd.R_lt (by (with_reducible repeat (first | apply Kd.R_alloc | apply Kd.R_drewN | apply Kd.R_drew)); exact HO_12.out))) (Kd.R_lt (by (with_reducible repeat (first | apply Kd.R_alloc | apply Kd.R_drewN | apply Kd.R_drew)); exact HO_13.out))) (Kd.R_lt (by (with_reducible repeat (first | apply Kd.R_alloc | apply Kd.R_drewN | apply Kd.R_drew)); exact HO_986001.out))) (below_size (by repeat (first | (with_reducible first | exact HB.out | apply below_alloc | apply pw_below_drewN | apply below_drew1 | refine below_set ?_ GE968.out | refine below_set ?_ GE985.out) | exact HB.out))))
            have n6_ := Aside0.mk (blk_below (g := gb968) (o := .cells #[.int .i64 a0_0, .slice A0_1 l0_1.length c0_1] 24 (0, 0)) (by (with_reducible repeat (first | refine blk_drewN ?_ _ | refine blk_drew ?_ | refine blk_alloc ?_ _)); exact BK968.out) hb)
            have n7_ := Aside0.mk (blk_below (g := gb985) (o := .cells #[.int .i64 t981, .slice Ao26 t982.length co26] 28 (0, 0)) (by (with_reducible repeat (first | refine blk_drewN ?_ _ | refine blk_drew ?_ | refine blk_alloc ?_ _)); exact BK985.out) hb)
            have n8_ := Aside0.mk (below_step (by repeat (first | (with_reducible first | exact HB.out | apply below_alloc | apply pw_below_drewN | apply below_drew1 | refine below_set ?_ GE968.out | refine below_set ?_ GE985.out) | exact HB.out)) hb)
            clear HO_8
            clear HO_9
            clear HO_12
            clear HO_13
            clear HO_986001
            clear BK968
            clear BK985
            clear HB
            have HO_8 := n0_
            have HO_9 := n1_
            have HO_12 := n2_
            have HO_13 := n3_
            have HO_986001 := n4_
            have HO998 := n5_
            have BK968 := n6_
            have BK985 := n7_
            have HB := n8_
            clear n0_ n1_ n2_ n3_ n4_ n5_ n6_ n7_ n8_
            (try clear hb)
            (try clear hb2)
            (try clear hk)
            (try clear hi)
            (try clear ho0)
            obtain ⟨Ao50, co50, eo50⟩ := Kd.R_slice HO998.out
            (first | subst eo50 | (injection eo50 with f1_ f2_ f3_; have f4_ := f1_.symm; have f5_ := f3_.symm; clear f1_ f2_ f3_; subst f4_; subst f5_))
            refine hK.out _ _ ⟨(blk_cell BK985.out 0).trans rfl, (blk_cell BK985.out 1).trans rfl, (blk_cell BK968.out 0).trans rfl, (blk_cell BK968.out 1).trans rfl⟩ (fun hHeld => ?_)
            clear hK K
            refine norm_ (a' := ?_) ?_ ?_
            rotate_left
            · show Act.put _ (some 62) _ = _
              simp only [Act.put, List.setIfInBounds_toArray, List.set_cons_zero, List.set_cons_succ, i64_w, i32_w]
              rfl
            refine one_ (i := 3) (N := some 63) #[true, true, true, true, false] rfl rfl (by kernel_rfl) (by decide) (fun K hK => ?_)
            refine goes_ Try.func20 (by kernel_rfl) rfl #[.agg #[.int .i64 t981, .slice Ao26 t982.length co26], .agg #[.int .i64 t995, .slice Ao50 t996.length co50]] (by rfl) rfl rfl (by (try simp only [List.map_toArray, List.map_cons, List.map_nil]); first | done | rfl | (simp only [List.length_drop, List.length_take]; rfl)) ?_
            with_reducible refine (laws_eqValues.calls kj12 t981 _ _ t982 t995 _ _ t996 true _ ?side1 ?side2 ?side3 ?side4 A44.out).mono ?_
            (case side1 => repeat (first | exact (Kd.R_reads' HO_986001.out).2.2 | (with_reducible refine Kd.C_alloc ?_ _) | (with_reducible refine Kd.C_drewN ?_ _) | (with_reducible refine Kd.C_drew ?_)))
            (case side2 => exact (Kd.R_reads' HO_986001.out).2.1)
            (case side3 => repeat (first | exact (Kd.R_reads' HO998.out).2.2 | (with_reducible refine Kd.C_alloc ?_ _) | (with_reducible refine Kd.C_drewN ?_ _) | (with_reducible refine Kd.C_drew ?_)))
            (case side4 => exact (Kd.R_reads' HO998.out).2.1)
            rintro e w51 ⟨rfl, hb⟩
            refine ⟨_, rfl, ?_⟩
            have n0_ := Aside0.mk (Kd.R_below (by (with_reducible repeat (first | apply Kd.R_alloc | apply Kd.R_drewN | apply Kd.R_drew)); exact HO_8.out) hb)
            have n1_ := Aside0.mk (Kd.R_below (by (with_reducible repeat (first | apply Kd.R_alloc | apply Kd.R_drewN | apply Kd.R_drew)); exact HO_9.out) hb)
            have n2_ := Aside0.mk (Kd.R_below (by (with_reducible repeat (first | apply Kd.R_alloc | apply Kd.R_drewN | apply Kd.R_drew)); exact HO_12.out) hb)
            have n3_ := Aside0.mk (Kd.R_below (by (with_reducible repeat (first | apply Kd.R_alloc | apply Kd.R_drewN | apply Kd.R_drew)); exact HO_13.out) hb)
            have n4_ := Aside0.mk (Kd.R_below (by (with_reducible repeat (first | apply Kd.R_alloc | apply Kd.R_drewN | apply Kd.R_drew)); exact HO_986001.out) hb)
            have n5_ := Aside0.mk (Kd.R_below (by (with_reducible repeat (first | apply Kd.R_alloc | apply Kd.R_drewN | apply Kd.R_drew)); exact HO998.out) hb)
            have n6_ := Aside0.mk (blk_below (g := gb968) (o := .cells #[.int .i64 a0_0, .slice A0_1 l0_1.length c0_1] 24 (0, 0)) (by (with_reducible repeat (first | refine blk_drewN ?_ _ | refine blk_drew ?_ | refine blk_alloc ?_ _)); exact BK968.out) hb)
            have n7_ := Aside0.mk (blk_below (g := gb985) (o := .cells #[.int .i64 t981, .slice Ao26 t982.length co26] 28 (0, 0)) (by (with_reducible repeat (first | refine blk_drewN ?_ _ | refine blk_drew ?_ | refine blk_alloc ?_ _)); exact BK985.out) hb)
            have n8_ := Aside0.mk (below_step (by repeat (first | (with_reducible first | exact HB.out | apply below_alloc | apply pw_below_drewN | apply below_drew1 | refine below_set ?_ GE968.out | refine below_set ?_ GE985.out) | exact HB.out)) hb)
            clear HO_8
            clear HO_9
            clear HO_12
            clear HO_13
            clear HO_986001
            clear HO998
            clear BK968
            clear BK985
            clear HB
            have HO_8 := n0_
            have HO_9 := n1_
            have HO_12 := n2_
            have HO_13 := n3_
            have HO_986001 := n4_
            have HO998 := n5_
            have BK968 := n6_
            have BK985 := n7_
            have HB := n8_
            clear n0_ n1_ n2_ n3_ n4_ n5_ n6_ n7_ n8_
            (try clear hb)
            (try clear hb2)
            (try clear hk)
            (try clear hi)
            refine hK.out _ _ ⟨(blk_cell BK985.out 0).trans rfl, (blk_cell BK985.out 1).trans rfl, (blk_cell BK968.out 0).trans rfl, (blk_cell BK968.out 1).trans rfl⟩ (fun hHeld => ?_)
            clear hK K
            refine norm_ (a' := ?_) ?_ ?_
            rotate_left
            · show Act.put _ (some 63) _ = _
              simp only [Act.put, List.setIfInBounds_toArray, List.set_cons_zero, List.set_cons_succ, i64_w, i32_w]
              rfl
            refine pure_ (i := 4) (N := some 64) (v := ?_) (a' := ?_) #[true, true, true, true, true] rfl rfl (by kernel_rfl) (fun _ _ _ h => h) (Or.inl ⟨by rfl, ?_⟩) ?_ ?_
            rotate_left
            · intro w'
              go_simp
              with_reducible rfl
            rotate_left
            · simp only [Act.put, List.setIfInBounds_toArray, List.set_cons_zero, List.set_cons_succ, i64_w, i32_w]
              rfl
            refine done_ (by kernel_rfl) ?_
            have hnb52 := NB985_968.out
            have hnc52 := NB968_985.out
            have hcz53_0 : w51.cell? ⟨gb985, 0, none⟩ = some (.int .i64 t981) := (blk_cell BK985.out 0).trans rfl
            have hcz53_1 : w51.cell? ⟨gb985, 1, none⟩ = some (.slice Ao26 t982.length co26) := (blk_cell BK985.out 1).trans rfl
            have hfz53_0 := blk_frozen BK985.out 0
            have hfz53_1 := blk_frozen BK985.out 1
            go_upto_region 14 with (first | ((with_reducible refine gate_callee (f := 21) rfl ?_); refine goesL_ (some 67) rfl rfl Try.func21 (by kernel_rfl) rfl #[.agg #[.int .i64 t981, .slice Ao26 t982.length co26], .int .i64 1] rfl (by (try simp only [List.map_toArray, List.map_cons, List.map_nil]); first | done | rfl | (simp only [List.length_drop, List.length_take]; rfl)) ?_; (with_reducible refine (laws_markValues.calls kj12 t981 (fun k_ => some k_ = (.slice Ao26 t982.length co26 : Value).ownBlock) (.slice Ao26 t982.length co26) t982 1 t1000 t1001 w _ ?side1 ?side2 A46.out).mono ?_); (case side1 => repeat (first | (with_reducible first | exact HB.out | apply below_alloc | apply pw_below_drewN | apply below_drew1 | refine below_set ?_ GE968.out | refine below_set ?_ GE985.out) | exact HB.out)); (case side2 => exact Kd.R_tight rfl HO_986001.out); rintro e w54 ⟨rfl, hy0, hb, hkp⟩; refine ⟨_, rfl, ?_⟩; have n0_ := Aside0.mk (Kd.R_mono (ok' := fun k_ => some k_ ≠ (v978 : Value).ownBlock ∧ some k_ ≠ (v987 : Value).ownBlock ∧ some k_ ≠ (v990 : Value).ownBlock ∧ some k_ ≠ (.slice Ao26 t982.length co26 : Value).ownBlock ∧ some k_ ≠ (.slice Ao50 t996.length co50 : Value).ownBlock) (Kd.R_keptB (HO_8.out) hkp (fun k_ hk_ hs_ => (hk_.1.2.2.2) hs_)) (fun k_ hk_ => ⟨hk_.1.1.1, hk_.1.1.2.1, hk_.1.1.2.2.1, hk_.1.1.2.2.2, hk_.1.2⟩)); have n1_ := Aside0.mk (Kd.R_mono (ok' := fun k_ => some k_ ≠ (v975 : Value).ownBlock ∧ some k_ ≠ (v987 : Value).ownBlock ∧ some k_ ≠ (v990 : Value).ownBlock ∧ some k_ ≠ (.slice Ao26 t982.length co26 : Value).ownBlock ∧ some k_ ≠ (.slice Ao50 t996.length co50 : Value).ownBlock) (Kd.R_keptB (HO_9.out) hkp (fun k_ hk_ hs_ => (hk_.1.2.2.2) hs_)) (fun k_ hk_ => ⟨hk_.1.1.1, hk_.1.1.2.1, hk_.1.1.2.2.1, hk_.1.1.2.2.2, hk_.1.2⟩)); have n2_ := Aside0.mk (Kd.R_mono (ok' := fun k_ => some k_ ≠ (v975 : Value).ownBlock ∧ some k_ ≠ (v978 : Value).ownBlock ∧ some k_ ≠ (v990 : Value).ownBlock ∧ some k_ ≠ (.slice Ao26 t982.length co26 : Value).ownBlock ∧ some k_ ≠ (.slice Ao50 t996.length co50 : Value).ownBlock) (Kd.R_keptB (HO_12.out) hkp (fun k_ hk_ hs_ => (hk_.1.2.2.2) hs_)) (fun k_ hk_ => ⟨hk_.1.1.1, hk_.1.1.2.1, hk_.1.1.2.2.1, hk_.1.1.2.2.2, hk_.1.2⟩)); have n3_ := Aside0.mk (Kd.R_mono (ok' := fun k_ => some k_ ≠ (v975 : Value).ownBlock ∧ some k_ ≠ (v978 : Value).ownBlock ∧ some k_ ≠ (v987 : Value).ownBlock ∧ some k_ ≠ (.slice Ao26 t982.length co26 : Value).ownBlock ∧ some k_ ≠ (.slice Ao50 t996.length co50 : Value).ownBlock) (Kd.R_keptB (HO_13.out) hkp (fun k_ hk_ hs_ => (hk_.1.2.2.2) hs_)) (fun k_ hk_ => ⟨hk_.1.1.1, hk_.1.1.2.1, hk_.1.1.2.2.1, hk_.1.1.2.2.2, hk_.1.2⟩)); have n4_ := Aside0.mk (Kd.R_reok rfl hy0 (fun k_ e_ => HO_986001.out.1 k_ e_)); have n5_ := Aside0.mk (blk_kept (by (with_reducible repeat (first | refine blk_drewN ?_ _ | refine blk_drew ?_ | refine blk_alloc ?_ _)); exact BK968.out) hkp (fun hs_ => (fun e_ => (Kd.R_ne HO_986001.out BK968.out (by decide)) e_) hs_)); have n6_ := Aside0.mk (blk_kept (by (with_reducible repeat (first | refine blk_drewN ?_ _ | refine blk_drew ?_ | refine blk_alloc ?_ _)); exact BK985.out) hkp (fun hs_ => (fun e_ => (Kd.R_ne HO_986001.out BK985.out (by decide)) e_) hs_)); have n7_ := Aside0.mk (Kd.R_mono (ok' := fun k_ => some k_ ≠ (v975 : Value).ownBlock ∧ some k_ ≠ (v978 : Value).ownBlock ∧ some k_ ≠ (v987 : Value).ownBlock ∧ some k_ ≠ (v990 : Value).ownBlock ∧ some k_ ≠ (.slice Ao26 t982.length co26 : Value).ownBlock) (Kd.R_keptB (HO998.out) hkp (fun k_ hk_ hs_ => (hk_.2) hs_)) (fun k_ hk_ => ⟨hk_.1.1.1.1.1.2, hk_.1.1.1.1.2, hk_.1.1.1.2, hk_.1.1.2, hk_.1.2⟩)); have n8_ := Aside0.mk (hb); clear HO_8; clear HO_9; clear HO_12; clear HO_13; clear HO_986001; clear BK968; clear BK985; clear HO998; clear HB; have HO_8 := n0_; have HO_9 := n1_; have HO_12 := n2_; have HO_13 := n3_; have HO_986001 := n4_; have BK968 := n5_; have BK985 := n6_; have HO998 := n7_; have HB := n8_; clear n0_ n1_ n2_ n3_ n4_ n5_ n6_ n7_ n8_; (try clear hb); (try clear hkp); (try clear hy0)))
            (try simp only [Act.put, List.setIfInBounds_toArray, List.set_cons_zero, List.set_cons_succ])
            go_cut [86] (fun v86 wc => ∃ (kq : Nat) (x86_46 : Bool), v86 = .bool x86_46 ∧ Aside0 (laws_FnExactSecondOf.j1 kq a1 a2 t974 t977 t980 t986 t989 x86_46 a0_0 l0_1 = some r) ∧ Aside0 (kq ≤ kj12) ∧ Aside0 (Kd.R (Kd.int .i64) 2 wc w.heap.size (fun k_ => some k_ ≠ (v978 : Value).ownBlock ∧ some k_ ≠ (v987 : Value).ownBlock ∧ some k_ ≠ (v990 : Value).ownBlock ∧ some k_ ≠ ((.slice Ao26 t982.length co26) : Value).ownBlock) v975 t974) ∧ Aside0 (Kd.R (Kd.int .i64) 2 wc w.heap.size (fun k_ => some k_ ≠ (v975 : Value).ownBlock ∧ some k_ ≠ (v987 : Value).ownBlock ∧ some k_ ≠ (v990 : Value).ownBlock ∧ some k_ ≠ ((.slice Ao26 t982.length co26) : Value).ownBlock) v978 t977) ∧ Aside0 (Kd.R (Kd.int .i64) 2 wc w.heap.size (fun k_ => some k_ ≠ (v975 : Value).ownBlock ∧ some k_ ≠ (v978 : Value).ownBlock ∧ some k_ ≠ (v990 : Value).ownBlock ∧ some k_ ≠ ((.slice Ao26 t982.length co26) : Value).ownBlock) v987 t986) ∧ Aside0 (Kd.R (Kd.int .i64) 2 wc w.heap.size (fun k_ => some k_ ≠ (v975 : Value).ownBlock ∧ some k_ ≠ (v978 : Value).ownBlock ∧ some k_ ≠ (v987 : Value).ownBlock ∧ some k_ ≠ ((.slice Ao26 t982.length co26) : Value).ownBlock) v990 t989) ∧ Aside0 (Kd.R (Kd.int .i64) 2 wc w.heap.size (fun k_ => some k_ ≠ (v975 : Value).ownBlock ∧ some k_ ≠ (v978 : Value).ownBlock ∧ some k_ ≠ (v987 : Value).ownBlock ∧ some k_ ≠ (v990 : Value).ownBlock) (.slice Ao26 t982.length co26) t1001) ∧ Aside0 (wc.heap[gb968]? = some (.cells #[.int .i64 a0_0, (.slice A0_1 l0_1.length c0_1)] 24 (0, 0))) ∧ Aside0 (wc.heap[gb985]? = some (.cells #[.int .i64 t981, (.slice Ao26 t982.length co26)] 28 (0, 0))) ∧ Aside0 (Below w.heap.size w wc))
            case first =>
              have H := HC47.out
              clear HC47
              by_cases c55 : t1000 < 0
              · rw [if_pos c55] at H
                have c55b0 : decide (t1000 < 0) = true := decide_eq_true c55
                clear c55
                (first | rw [c55b0] | (simp only [i64_w, i32_w]; rw [c55b0]) | skip)
                have H' := Aside0.mk H
                clear H
                as_aux_lemma =>
                  go_wp2
                  go_meet
                  case rel => exact ⟨_, (true), (by first | rfl | (simp; done) | (simp [*]; done) | (simp [IntWalk.i64_left, *]; done)), H', ⟨by have := HJ12.out; first | omega | exact Nat.le_refl _⟩, ⟨by (with_reducible repeat (first | apply Kd.R_alloc | apply Kd.R_drewN | apply Kd.R_drew)); exact Kd.R_mono HO_8.out (fun _ hk => ⟨hk.1, ⟨hk.2.1, ⟨hk.2.2.1, hk.2.2.2.1⟩⟩⟩)⟩, ⟨by (with_reducible repeat (first | apply Kd.R_alloc | apply Kd.R_drewN | apply Kd.R_drew)); exact Kd.R_mono HO_9.out (fun _ hk => ⟨hk.1, ⟨hk.2.1, ⟨hk.2.2.1, hk.2.2.2.1⟩⟩⟩)⟩, ⟨by (with_reducible repeat (first | apply Kd.R_alloc | apply Kd.R_drewN | apply Kd.R_drew)); exact Kd.R_mono HO_12.out (fun _ hk => ⟨hk.1, ⟨hk.2.1, ⟨hk.2.2.1, hk.2.2.2.1⟩⟩⟩)⟩, ⟨by (with_reducible repeat (first | apply Kd.R_alloc | apply Kd.R_drewN | apply Kd.R_drew)); exact Kd.R_mono HO_13.out (fun _ hk => ⟨hk.1, ⟨hk.2.1, ⟨hk.2.2.1, hk.2.2.2.1⟩⟩⟩)⟩, ⟨by (with_reducible repeat (first | apply Kd.R_alloc | apply Kd.R_drewN | apply Kd.R_drew)); exact Kd.R_mono HO_986001.out (fun _ hk => ⟨hk.1.1, ⟨hk.1.2.1, ⟨hk.1.2.2.1, hk.1.2.2.2⟩⟩⟩)⟩, ⟨by (with_reducible repeat (first | refine blk_drewN ?_ _ | refine blk_drew ?_ | refine blk_alloc ?_ _)); exact BK968.out⟩, ⟨by (with_reducible repeat (first | refine blk_drewN ?_ _ | refine blk_drew ?_ | refine blk_alloc ?_ _)); exact BK985.out⟩, ⟨by repeat (first | (with_reducible first | exact HB.out | apply below_alloc | apply pw_below_drewN | apply below_drew1 | refine below_set ?_ GE968.out | refine below_set ?_ GE985.out) | exact HB.out)⟩⟩
              · rw [if_neg c55] at H
                have c55b0 : decide (t1000 < 0) = false := decide_eq_false c55
                clear c55
                (first | rw [c55b0] | (simp only [i64_w, i32_w]; rw [c55b0]) | skip)
                replace H := Option.bind_eq_some_iff.mp H
                obtain ⟨t1002, A560, H⟩ := H
                replace H : (if t1002 = true then ((laws_eqInt64S.f kj12 t989 t977).bind fun t1003 => (if t1003 = true then (laws_FnExactSecondOf.j1 kj12 a1 a2 t974 t977 t980 t986 t989 (t992 != t980) a0_0 l0_1) else (laws_FnExactSecondOf.j1 kj12 a1 a2 t974 t977 t980 t986 t989 true a0_0 l0_1))) else (laws_FnExactSecondOf.j1 kj12 a1 a2 t974 t977 t980 t986 t989 true a0_0 l0_1)) = some r := H
                have A56 := Aside0.mk A560
                clear A560
                by_cases c57 : t1002 = true
                · subst c57
                  have H1 : ((laws_eqInt64S.f kj12 t989 t977).bind fun t1003 => (if t1003 = true then (laws_FnExactSecondOf.j1 kj12 a1 a2 t974 t977 t980 t986 t989 (t992 != t980) a0_0 l0_1) else (laws_FnExactSecondOf.j1 kj12 a1 a2 t974 t977 t980 t986 t989 true a0_0 l0_1))) = some r := by rw [if_pos rfl] at H; exact H
                  clear H
                  have H := H1
                  clear H1
                  replace H := Option.bind_eq_some_iff.mp H
                  obtain ⟨t1003, A580, H⟩ := H
                  replace H : (if t1003 = true then (laws_FnExactSecondOf.j1 kj12 a1 a2 t974 t977 t980 t986 t989 (t992 != t980) a0_0 l0_1) else (laws_FnExactSecondOf.j1 kj12 a1 a2 t974 t977 t980 t986 t989 true a0_0 l0_1)) = some r := H
                  have A58 := Aside0.mk A580
                  clear A580
                  by_cases c59 : t1003 = true
                  · subst c59
                    have H1 : (laws_FnExactSecondOf.j1 kj12 a1 a2 t974 t977 t980 t986 t989 (t992 != t980) a0_0 l0_1) = some r := by rw [if_pos rfl] at H; exact H
                    clear H
                    have H := H1
                    clear H1
                    have H' := Aside0.mk H
                    clear H
                    obtain ⟨Ao60, co60, eo60⟩ := Kd.R_slice HO_12.out
                    subst eo60
                    obtain ⟨Ao61, co61, eo61⟩ := Kd.R_slice HO_8.out
                    subst eo61
                    as_aux_lemma =>
                      go_wp2_with (first | (go_at_call 19; (with_reducible refine (laws_eqInt64S.calls kj12 _ _ t986 _ _ t974 true _ ?side1 ?side2 ?side3 ?side4 A56.out).mono ?_); (case side1 => repeat (first | exact (Kd.R_reads' HO_12.out).2.2 | (with_reducible refine Kd.C_alloc ?_ _) | (with_reducible refine Kd.C_drewN ?_ _) | (with_reducible refine Kd.C_drew ?_))); (case side2 => exact (Kd.R_reads' HO_12.out).2.1); (case side3 => repeat (first | exact (Kd.R_reads' HO_8.out).2.2 | (with_reducible refine Kd.C_alloc ?_ _) | (with_reducible refine Kd.C_drewN ?_ _) | (with_reducible refine Kd.C_drew ?_))); (case side4 => exact (Kd.R_reads' HO_8.out).2.1); rintro e w' ⟨rfl, ⟨nd, rfl⟩⟩; obtain ⟨Ao62, co62, eo62⟩ := Kd.R_slice HO_13.out; subst eo62; obtain ⟨Ao63, co63, eo63⟩ := Kd.R_slice HO_9.out; subst eo63) | (go_at_call 19; (with_reducible refine (laws_eqInt64S.calls kj12 _ _ t989 _ _ t977 true _ ?side1 ?side2 ?side3 ?side4 A58.out).mono ?_); (case side1 => repeat (first | exact (Kd.R_reads' HO_13.out).2.2 | (with_reducible refine Kd.C_alloc ?_ _) | (with_reducible refine Kd.C_drewN ?_ _) | (with_reducible refine Kd.C_drew ?_))); (case side2 => exact (Kd.R_reads' HO_13.out).2.1); (case side3 => repeat (first | exact (Kd.R_reads' HO_9.out).2.2 | (with_reducible refine Kd.C_alloc ?_ _) | (with_reducible refine Kd.C_drewN ?_ _) | (with_reducible refine Kd.C_drew ?_))); (case side4 => exact (Kd.R_reads' HO_9.out).2.1); rintro e w' ⟨rfl, ⟨nd, rfl⟩⟩))
                      go_meet
                      case rel => exact ⟨_, ((t992 != t980)), (by first | rfl | (simp; done) | (simp [*]; done) | (simp [IntWalk.i64_left, *]; done)), H', ⟨by have := HJ12.out; first | omega | exact Nat.le_refl _⟩, ⟨by (with_reducible repeat (first | apply Kd.R_alloc | apply Kd.R_drewN | apply Kd.R_drew)); exact Kd.R_mono HO_8.out (fun _ hk => ⟨hk.1, ⟨hk.2.1, ⟨hk.2.2.1, hk.2.2.2.1⟩⟩⟩)⟩, ⟨by (with_reducible repeat (first | apply Kd.R_alloc | apply Kd.R_drewN | apply Kd.R_drew)); exact Kd.R_mono HO_9.out (fun _ hk => ⟨hk.1, ⟨hk.2.1, ⟨hk.2.2.1, hk.2.2.2.1⟩⟩⟩)⟩, ⟨by (with_reducible repeat (first | apply Kd.R_alloc | apply Kd.R_drewN | apply Kd.R_drew)); exact Kd.R_mono HO_12.out (fun _ hk => ⟨hk.1, ⟨hk.2.1, ⟨hk.2.2.1, hk.2.2.2.1⟩⟩⟩)⟩, ⟨by (with_reducible repeat (first | apply Kd.R_alloc | apply Kd.R_drewN | apply Kd.R_drew)); exact Kd.R_mono HO_13.out (fun _ hk => ⟨hk.1, ⟨hk.2.1, ⟨hk.2.2.1, hk.2.2.2.1⟩⟩⟩)⟩, ⟨by (with_reducible repeat (first | apply Kd.R_alloc | apply Kd.R_drewN | apply Kd.R_drew)); exact Kd.R_mono HO_986001.out (fun _ hk => ⟨hk.1.1, ⟨hk.1.2.1, ⟨hk.1.2.2.1, hk.1.2.2.2⟩⟩⟩)⟩, ⟨by (with_reducible repeat (first | refine blk_drewN ?_ _ | refine blk_drew ?_ | refine blk_alloc ?_ _)); exact BK968.out⟩, ⟨by (with_reducible repeat (first | refine blk_drewN ?_ _ | refine blk_drew ?_ | refine blk_alloc ?_ _)); exact BK985.out⟩, ⟨by repeat (first | (with_reducible first | exact HB.out | apply below_alloc | apply pw_below_drewN | apply below_drew1 | refine below_set ?_ GE968.out | refine below_set ?_ GE985.out) | exact HB.out)⟩⟩
                  · replace c59 := Bool.eq_false_iff.mpr c59
                    subst c59
                    have H1 : (laws_FnExactSecondOf.j1 kj12 a1 a2 t974 t977 t980 t986 t989 true a0_0 l0_1) = some r := by rw [if_neg (show ¬ (false = true) by decide)] at H; exact H
                    clear H
                    have H := H1
                    clear H1
                    have H' := Aside0.mk H
                    clear H
                    obtain ⟨Ao64, co64, eo64⟩ := Kd.R_slice HO_12.out
                    subst eo64
                    obtain ⟨Ao65, co65, eo65⟩ := Kd.R_slice HO_8.out
                    subst eo65
                    as_aux_lemma =>
                      go_wp2_with (first | (go_at_call 19; (with_reducible refine (laws_eqInt64S.calls kj12 _ _ t986 _ _ t974 true _ ?side1 ?side2 ?side3 ?side4 A56.out).mono ?_); (case side1 => repeat (first | exact (Kd.R_reads' HO_12.out).2.2 | (with_reducible refine Kd.C_alloc ?_ _) | (with_reducible refine Kd.C_drewN ?_ _) | (with_reducible refine Kd.C_drew ?_))); (case side2 => exact (Kd.R_reads' HO_12.out).2.1); (case side3 => repeat (first | exact (Kd.R_reads' HO_8.out).2.2 | (with_reducible refine Kd.C_alloc ?_ _) | (with_reducible refine Kd.C_drewN ?_ _) | (with_reducible refine Kd.C_drew ?_))); (case side4 => exact (Kd.R_reads' HO_8.out).2.1); rintro e w' ⟨rfl, ⟨nd, rfl⟩⟩; obtain ⟨Ao66, co66, eo66⟩ := Kd.R_slice HO_13.out; subst eo66; obtain ⟨Ao67, co67, eo67⟩ := Kd.R_slice HO_9.out; subst eo67) | (go_at_call 19; (with_reducible refine (laws_eqInt64S.calls kj12 _ _ t989 _ _ t977 false _ ?side1 ?side2 ?side3 ?side4 A58.out).mono ?_); (case side1 => repeat (first | exact (Kd.R_reads' HO_13.out).2.2 | (with_reducible refine Kd.C_alloc ?_ _) | (with_reducible refine Kd.C_drewN ?_ _) | (with_reducible refine Kd.C_drew ?_))); (case side2 => exact (Kd.R_reads' HO_13.out).2.1); (case side3 => repeat (first | exact (Kd.R_reads' HO_9.out).2.2 | (with_reducible refine Kd.C_alloc ?_ _) | (with_reducible refine Kd.C_drewN ?_ _) | (with_reducible refine Kd.C_drew ?_))); (case side4 => exact (Kd.R_reads' HO_9.out).2.1); rintro e w' ⟨rfl, ⟨nd, rfl⟩⟩))
                      go_meet
                      case rel => exact ⟨_, (true), (by first | rfl | (simp; done) | (simp [*]; done) | (simp [IntWalk.i64_left, *]; done)), H', ⟨by have := HJ12.out; first | omega | exact Nat.le_refl _⟩, ⟨by (with_reducible repeat (first | apply Kd.R_alloc | apply Kd.R_drewN | apply Kd.R_drew)); exact Kd.R_mono HO_8.out (fun _ hk => ⟨hk.1, ⟨hk.2.1, ⟨hk.2.2.1, hk.2.2.2.1⟩⟩⟩)⟩, ⟨by (with_reducible repeat (first | apply Kd.R_alloc | apply Kd.R_drewN | apply Kd.R_drew)); exact Kd.R_mono HO_9.out (fun _ hk => ⟨hk.1, ⟨hk.2.1, ⟨hk.2.2.1, hk.2.2.2.1⟩⟩⟩)⟩, ⟨by (with_reducible repeat (first | apply Kd.R_alloc | apply Kd.R_drewN | apply Kd.R_drew)); exact Kd.R_mono HO_12.out (fun _ hk => ⟨hk.1, ⟨hk.2.1, ⟨hk.2.2.1, hk.2.2.2.1⟩⟩⟩)⟩, ⟨by (with_reducible repeat (first | apply Kd.R_alloc | apply Kd.R_drewN | apply Kd.R_drew)); exact Kd.R_mono HO_13.out (fun _ hk => ⟨hk.1, ⟨hk.2.1, ⟨hk.2.2.1, hk.2.2.2.1⟩⟩⟩)⟩, ⟨by (with_reducible repeat (first | apply Kd.R_alloc | apply Kd.R_drewN | apply Kd.R_drew)); exact Kd.R_mono HO_986001.out (fun _ hk => ⟨hk.1.1, ⟨hk.1.2.1, ⟨hk.1.2.2.1, hk.1.2.2.2⟩⟩⟩)⟩, ⟨by (with_reducible repeat (first | refine blk_drewN ?_ _ | refine blk_drew ?_ | refine blk_alloc ?_ _)); exact BK968.out⟩, ⟨by (with_reducible repeat (first | refine blk_drewN ?_ _ | refine blk_drew ?_ | refine blk_alloc ?_ _)); exact BK985.out⟩, ⟨by repeat (first | (with_reducible first | exact HB.out | apply below_alloc | apply pw_below_drewN | apply below_drew1 | refine below_set ?_ GE968.out | refine below_set ?_ GE985.out) | exact HB.out)⟩⟩
                · replace c57 := Bool.eq_false_iff.mpr c57
                  subst c57
                  have H1 : (laws_FnExactSecondOf.j1 kj12 a1 a2 t974 t977 t980 t986 t989 true a0_0 l0_1) = some r := by rw [if_neg (show ¬ (false = true) by decide)] at H; exact H
                  clear H
                  have H := H1
                  clear H1
                  have H' := Aside0.mk H
                  clear H
                  obtain ⟨Ao68, co68, eo68⟩ := Kd.R_slice HO_12.out
                  subst eo68
                  obtain ⟨Ao69, co69, eo69⟩ := Kd.R_slice HO_8.out
                  subst eo69
                  as_aux_lemma =>
                    go_wp2_with (first | (go_at_call 19; (with_reducible refine (laws_eqInt64S.calls kj12 _ _ t986 _ _ t974 false _ ?side1 ?side2 ?side3 ?side4 A56.out).mono ?_); (case side1 => repeat (first | exact (Kd.R_reads' HO_12.out).2.2 | (with_reducible refine Kd.C_alloc ?_ _) | (with_reducible refine Kd.C_drewN ?_ _) | (with_reducible refine Kd.C_drew ?_))); (case side2 => exact (Kd.R_reads' HO_12.out).2.1); (case side3 => repeat (first | exact (Kd.R_reads' HO_8.out).2.2 | (with_reducible refine Kd.C_alloc ?_ _) | (with_reducible refine Kd.C_drewN ?_ _) | (with_reducible refine Kd.C_drew ?_))); (case side4 => exact (Kd.R_reads' HO_8.out).2.1); rintro e w' ⟨rfl, ⟨nd, rfl⟩⟩))
                    go_meet
                    case rel => exact ⟨_, (true), (by first | rfl | (simp; done) | (simp [*]; done) | (simp [IntWalk.i64_left, *]; done)), H', ⟨by have := HJ12.out; first | omega | exact Nat.le_refl _⟩, ⟨by (with_reducible repeat (first | apply Kd.R_alloc | apply Kd.R_drewN | apply Kd.R_drew)); exact Kd.R_mono HO_8.out (fun _ hk => ⟨hk.1, ⟨hk.2.1, ⟨hk.2.2.1, hk.2.2.2.1⟩⟩⟩)⟩, ⟨by (with_reducible repeat (first | apply Kd.R_alloc | apply Kd.R_drewN | apply Kd.R_drew)); exact Kd.R_mono HO_9.out (fun _ hk => ⟨hk.1, ⟨hk.2.1, ⟨hk.2.2.1, hk.2.2.2.1⟩⟩⟩)⟩, ⟨by (with_reducible repeat (first | apply Kd.R_alloc | apply Kd.R_drewN | apply Kd.R_drew)); exact Kd.R_mono HO_12.out (fun _ hk => ⟨hk.1, ⟨hk.2.1, ⟨hk.2.2.1, hk.2.2.2.1⟩⟩⟩)⟩, ⟨by (with_reducible repeat (first | apply Kd.R_alloc | apply Kd.R_drewN | apply Kd.R_drew)); exact Kd.R_mono HO_13.out (fun _ hk => ⟨hk.1, ⟨hk.2.1, ⟨hk.2.2.1, hk.2.2.2.1⟩⟩⟩)⟩, ⟨by (with_reducible repeat (first | apply Kd.R_alloc | apply Kd.R_drewN | apply Kd.R_drew)); exact Kd.R_mono HO_986001.out (fun _ hk => ⟨hk.1.1, ⟨hk.1.2.1, ⟨hk.1.2.2.1, hk.1.2.2.2⟩⟩⟩)⟩, ⟨by (with_reducible repeat (first | refine blk_drewN ?_ _ | refine blk_drew ?_ | refine blk_alloc ?_ _)); exact BK968.out⟩, ⟨by (with_reducible repeat (first | refine blk_drewN ?_ _ | refine blk_drew ?_ | refine blk_alloc ?_ _)); exact BK985.out⟩, ⟨by repeat (first | (with_reducible first | exact HB.out | apply below_alloc | apply pw_below_drewN | apply below_drew1 | refine below_set ?_ GE968.out | refine below_set ?_ GE985.out) | exact HB.out)⟩⟩
            case rest =>
              clear HC47
              try clear c1
              try clear c2
              try clear p2
              try clear c3
              try clear c4
              try clear c5
              try clear c5b0
              try clear c12
              try clear c15
              try clear c17
              try clear c19
              try clear c20
              try clear c21
              try clear c24
              try clear c29
              try clear c31
              try clear c42
              try clear c45
              try clear c46
              try clear c52
              try clear c55
              try clear c55b0
              try clear c57
              try clear c59
              try clear hcz15_0
              try clear hcz15_1
              try clear hcz17_0
              try clear hcz17_1
              try clear hcz21_0
              try clear hcz21_1
              try clear hcz25_0
              try clear hcz25_1
              try clear hcz53_0
              try clear hcz53_1
              try clear hcz7_0
              try clear hcz7_1
              try clear hfz15_0
              try clear hfz15_1
              try clear hfz17_0
              try clear hfz17_1
              try clear hfz21_0
              try clear hfz21_1
              try clear hfz25_0
              try clear hfz25_1
              try clear hfz53_0
              try clear hfz53_1
              try clear hfz7_0
              try clear hfz7_1
              try clear p2
              obtain ⟨kq, x86_46, rfl, HA, HJ46, HO_8, HO_9, HO_12, HO_13, HO_986001, BK968, BK985, HB⟩ := hcut
              have hl986001_46 := (Kd.R_reads' HO_986001.out).1
              rw [hl986001_46] at HO_986001
              (try simp only [hl986001_46])
              (try simp only [hl986001_46] at BK968)
              (try simp only [hl986001_46] at BK985)
              (try simp only [hl986001_46] at HO_8)
              (try simp only [hl986001_46] at HO_9)
              (try simp only [hl986001_46] at HO_12)
              (try simp only [hl986001_46] at HO_13)
              cases kq with
              | zero => exact absurd HA.out (by simp [laws_FnExactSecondOf.j1])
              | succ kj46 =>
                have H := HA.out
                clear HA
                simp only [laws_FnExactSecondOf.j1] at H
                by_cases c70 : x86_46 = true
                · subst c70
                  have H1 : (some false) = some r := by rw [if_pos rfl] at H; exact H
                  clear H
                  have H := H1
                  clear H1
                  obtain rfl := Option.some.inj H
                  as_aux_lemma =>
                    go_wp2
                    go_ret
                    exact ⟨by first | rfl | (simp [errW_none, errW_some] <;> rfl) | (simp [*, errW_none, errW_some] <;> rfl), by repeat (first | (with_reducible first | exact HB.out | apply below_alloc | apply pw_below_drewN | apply below_drew1 | refine below_set ?_ GE968.out | refine below_set ?_ GE985.out) | exact HB.out)⟩
                · replace c70 := Bool.eq_false_iff.mpr c70
                  subst c70
                  have H1 : ((laws_markInt64S.f kj46 t986 1).bind fun bt1004 => ((laws_markInt64S.f kj46 t989 bt1004.1).bind fun bt1006 => ((laws_heldInt64S.f kj46 bt1004.2 1).bind fun t1008 => (if t1008 < 0 then (some false) else ((laws_heldInt64S.f kj46 bt1006.2 t1008).bind fun t1009 => (if t1009 < 0 then (some false) else (if t1009 = bt1006.1 then ((laws_toValues.f kj46 a0_0 l0_1).bind fun bt1010 => ((impl_SecondOf.f kj46 bt1010.1 bt1010.2 a1 a2).bind fun bt1014 => ((laws_eqInt64S.f kj46 bt1014.1 t974).bind fun t1021 => (if t1021 = true then ((laws_eqInt64S.f kj46 bt1014.2.1 t977).bind fun t1022 => (if t1022 = true then (laws_FnExactSecondOf.j2 kj46 bt1004.2 bt1006.2 bt1006.1 (bt1014.2.2 != t980)) else (laws_FnExactSecondOf.j2 kj46 bt1004.2 bt1006.2 bt1006.1 true))) else (laws_FnExactSecondOf.j2 kj46 bt1004.2 bt1006.2 bt1006.1 true))))) else (some false)))))))) = some r := by rw [if_neg (show ¬ (false = true) by decide)] at H; exact H
                  clear H
                  have H := H1
                  clear H1
                  replace H := Option.bind_eq_some_iff.mp H
                  obtain ⟨⟨t1004, t1005⟩, A710, H⟩ := H
                  replace H : ((laws_markInt64S.f kj46 t989 t1004).bind fun bt1006 => ((laws_heldInt64S.f kj46 t1005 1).bind fun t1008 => (if t1008 < 0 then (some false) else ((laws_heldInt64S.f kj46 bt1006.2 t1008).bind fun t1009 => (if t1009 < 0 then (some false) else (if t1009 = bt1006.1 then ((laws_toValues.f kj46 a0_0 l0_1).bind fun bt1010 => ((impl_SecondOf.f kj46 bt1010.1 bt1010.2 a1 a2).bind fun bt1014 => ((laws_eqInt64S.f kj46 bt1014.1 t974).bind fun t1021 => (if t1021 = true then ((laws_eqInt64S.f kj46 bt1014.2.1 t977).bind fun t1022 => (if t1022 = true then (laws_FnExactSecondOf.j2 kj46 t1005 bt1006.2 bt1006.1 (bt1014.2.2 != t980)) else (laws_FnExactSecondOf.j2 kj46 t1005 bt1006.2 bt1006.1 true))) else (laws_FnExactSecondOf.j2 kj46 t1005 bt1006.2 bt1006.1 true))))) else (some false))))))) = some r := H
                  have A71 := Aside0.mk A710
                  clear A710
                  replace H := Option.bind_eq_some_iff.mp H
                  obtain ⟨⟨t1006, t1007⟩, A720, H⟩ := H
                  replace H : ((laws_heldInt64S.f kj46 t1005 1).bind fun t1008 => (if t1008 < 0 then (some false) else ((laws_heldInt64S.f kj46 t1007 t1008).bind fun t1009 => (if t1009 < 0 then (some false) else (if t1009 = t1006 then ((laws_toValues.f kj46 a0_0 l0_1).bind fun bt1010 => ((impl_SecondOf.f kj46 bt1010.1 bt1010.2 a1 a2).bind fun bt1014 => ((laws_eqInt64S.f kj46 bt1014.1 t974).bind fun t1021 => (if t1021 = true then ((laws_eqInt64S.f kj46 bt1014.2.1 t977).bind fun t1022 => (if t1022 = true then (laws_FnExactSecondOf.j2 kj46 t1005 t1007 t1006 (bt1014.2.2 != t980)) else (laws_FnExactSecondOf.j2 kj46 t1005 t1007 t1006 true))) else (laws_FnExactSecondOf.j2 kj46 t1005 t1007 t1006 true))))) else (some false)))))) = some r := H
                  have A72 := Aside0.mk A720
                  clear A720
                  replace H := Option.bind_eq_some_iff.mp H
                  obtain ⟨t1008, A730, H⟩ := H
                  replace H : (if t1008 < 0 then (some false) else ((laws_heldInt64S.f kj46 t1007 t1008).bind fun t1009 => (if t1009 < 0 then (some false) else (if t1009 = t1006 then ((laws_toValues.f kj46 a0_0 l0_1).bind fun bt1010 => ((impl_SecondOf.f kj46 bt1010.1 bt1010.2 a1 a2).bind fun bt1014 => ((laws_eqInt64S.f kj46 bt1014.1 t974).bind fun t1021 => (if t1021 = true then ((laws_eqInt64S.f kj46 bt1014.2.1 t977).bind fun t1022 => (if t1022 = true then (laws_FnExactSecondOf.j2 kj46 t1005 t1007 t1006 (bt1014.2.2 != t980)) else (laws_FnExactSecondOf.j2 kj46 t1005 t1007 t1006 true))) else (laws_FnExactSecondOf.j2 kj46 t1005 t1007 t1006 true))))) else (some false))))) = some r := H
                  have A73 := Aside0.mk A730
                  clear A730
                  by_cases c74 : t1008 < 0
                  · rw [if_pos c74] at H
                    have c74b0 : decide (t1008 < 0) = true := decide_eq_true c74
                    clear c74
                    obtain rfl := Option.some.inj H
                    obtain ⟨Ao75, co75, eo75⟩ := Kd.R_slice HO_12.out
                    subst eo75
                    as_aux_lemma =>
                      go_wp2_with (first | ((with_reducible refine gate_callee (f := 22) rfl ?_); refine goesL_ (some 89) rfl rfl Try.func22 (by kernel_rfl) rfl #[.slice Ao75 t986.length co75, .int .i64 1] rfl (by (try simp only [List.map_toArray, List.map_cons, List.map_nil]); first | done | rfl | (simp only [List.length_drop, List.length_take]; rfl)) ?_; (with_reducible refine (laws_markInt64S.calls kj46 (fun k_ => some k_ = (.slice Ao75 t986.length co75 : Value).ownBlock) (.slice Ao75 t986.length co75) t986 1 t1004 t1005 w _ ?side1 ?side2 A71.out).mono ?_); (case side1 => repeat (first | (with_reducible first | exact HB.out | apply below_alloc | apply pw_below_drewN | apply below_drew1 | refine below_set ?_ GE968.out | refine below_set ?_ GE985.out) | exact HB.out)); (case side2 => exact Kd.R_tight rfl HO_12.out); rintro e w76 ⟨rfl, hy0, hb, hkp⟩; refine ⟨_, rfl, ?_⟩; have n0_ := Aside0.mk (Kd.R_mono (ok' := fun k_ => some k_ ≠ (v978 : Value).ownBlock ∧ some k_ ≠ (.slice Ao75 t986.length co75 : Value).ownBlock ∧ some k_ ≠ (v990 : Value).ownBlock ∧ some k_ ≠ (.slice Ao26 t1001.length co26 : Value).ownBlock) (Kd.R_keptB (HO_8.out) hkp (fun k_ hk_ hs_ => (hk_.2.1) hs_)) (fun k_ hk_ => ⟨hk_.1.1, hk_.1.2.1, hk_.1.2.2.1, hk_.1.2.2.2⟩)); have n1_ := Aside0.mk (Kd.R_mono (ok' := fun k_ => some k_ ≠ (v975 : Value).ownBlock ∧ some k_ ≠ (.slice Ao75 t986.length co75 : Value).ownBlock ∧ some k_ ≠ (v990 : Value).ownBlock ∧ some k_ ≠ (.slice Ao26 t1001.length co26 : Value).ownBlock) (Kd.R_keptB (HO_9.out) hkp (fun k_ hk_ hs_ => (hk_.2.1) hs_)) (fun k_ hk_ => ⟨hk_.1.1, hk_.1.2.1, hk_.1.2.2.1, hk_.1.2.2.2⟩)); have n2_ := Aside0.mk (Kd.R_reok rfl hy0 (fun k_ e_ => HO_12.out.1 k_ e_)); have n3_ := Aside0.mk (Kd.R_mono (ok' := fun k_ => some k_ ≠ (v975 : Value).ownBlock ∧ some k_ ≠ (v978 : Value).ownBlock ∧ some k_ ≠ (.slice Ao75 t986.length co75 : Value).ownBlock ∧ some k_ ≠ (.slice Ao26 t1001.length co26 : Value).ownBlock) (Kd.R_keptB (HO_13.out) hkp (fun k_ hk_ hs_ => (hk_.2.2.1) hs_)) (fun k_ hk_ => ⟨hk_.1.1, hk_.1.2.1, hk_.1.2.2.1, hk_.1.2.2.2⟩)); have n4_ := Aside0.mk (Kd.R_mono (ok' := fun k_ => some k_ ≠ (v975 : Value).ownBlock ∧ some k_ ≠ (v978 : Value).ownBlock ∧ some k_ ≠ (.slice Ao75 t986.length co75 : Value).ownBlock ∧ some k_ ≠ (v990 : Value).ownBlock) (Kd.R_keptB (HO_986001.out) hkp (fun k_ hk_ hs_ => (hk_.2.2.1) hs_)) (fun k_ hk_ => ⟨hk_.1.1, hk_.1.2.1, hk_.1.2.2.1, hk_.1.2.2.2⟩)); have n5_ := Aside0.mk (blk_kept (by (with_reducible repeat (first | refine blk_drewN ?_ _ | refine blk_drew ?_ | refine blk_alloc ?_ _)); exact BK968.out) hkp (fun hs_ => (fun e_ => (Kd.R_ne HO_12.out BK968.out (by decide)) e_) hs_)); have n6_ := Aside0.mk (blk_kept (by (with_reducible repeat (first | refine blk_drewN ?_ _ | refine blk_drew ?_ | refine blk_alloc ?_ _)); exact BK985.out) hkp (fun hs_ => (fun e_ => (Kd.R_ne HO_12.out BK985.out (by decide)) e_) hs_)); have n7_ := Aside0.mk (hb); clear HO_8; clear HO_9; clear HO_12; clear HO_13; clear HO_986001; clear BK968; clear BK985; clear HB; have HO_8 := n0_; have HO_9 := n1_; have HO_12 := n2_; have HO_13 := n3_; have HO_986001 := n4_; have BK968 := n5_; have BK985 := n6_; have HB := n7_; clear n0_ n1_ n2_ n3_ n4_ n5_ n6_ n7_; (try clear hb); (try clear hkp); (try clear hy0); obtain ⟨Ao77, co77, eo77⟩ := Kd.R_slice HO_13.out; subst eo77) | ((with_reducible refine gate_callee (f := 22) rfl ?_); refine goesL_ (some 92) rfl rfl Try.func22 (by kernel_rfl) rfl #[.slice Ao77 t989.length co77, .int .i64 t1004] rfl (by (try simp only [List.map_toArray, List.map_cons, List.map_nil]); first | done | rfl | (simp only [List.length_drop, List.length_take]; rfl)) ?_; (with_reducible refine (laws_markInt64S.calls kj46 (fun k_ => some k_ = (.slice Ao77 t989.length co77 : Value).ownBlock) (.slice Ao77 t989.length co77) t989 t1004 t1006 t1007 w _ ?side1 ?side2 A72.out).mono ?_); (case side1 => repeat (first | (with_reducible first | exact HB.out | apply below_alloc | apply pw_below_drewN | apply below_drew1 | refine below_set ?_ GE968.out | refine below_set ?_ GE985.out) | exact HB.out)); (case side2 => exact Kd.R_tight rfl HO_13.out); rintro e w78 ⟨rfl, hy0, hb, hkp⟩; refine ⟨_, rfl, ?_⟩; have n0_ := Aside0.mk (Kd.R_mono (ok' := fun k_ => some k_ ≠ (v978 : Value).ownBlock ∧ some k_ ≠ (.slice Ao75 t986.length co75 : Value).ownBlock ∧ some k_ ≠ (.slice Ao77 t989.length co77 : Value).ownBlock ∧ some k_ ≠ (.slice Ao26 t1001.length co26 : Value).ownBlock) (Kd.R_keptB (HO_8.out) hkp (fun k_ hk_ hs_ => (hk_.2.2.1) hs_)) (fun k_ hk_ => ⟨hk_.1.1, hk_.1.2.1, hk_.1.2.2.1, hk_.1.2.2.2⟩)); have n1_ := Aside0.mk (Kd.R_mono (ok' := fun k_ => some k_ ≠ (v975 : Value).ownBlock ∧ some k_ ≠ (.slice Ao75 t986.length co75 : Value).ownBlock ∧ some k_ ≠ (.slice Ao77 t989.length co77 : Value).ownBlock ∧ some k_ ≠ (.slice Ao26 t1001.length co26 : Value).ownBlock) (Kd.R_keptB (HO_9.out) hkp (fun k_ hk_ hs_ => (hk_.2.2.1) hs_)) (fun k_ hk_ => ⟨hk_.1.1, hk_.1.2.1, hk_.1.2.2.1, hk_.1.2.2.2⟩)); have n2_ := Aside0.mk (Kd.R_mono (ok' := fun k_ => some k_ ≠ (v975 : Value).ownBlock ∧ some k_ ≠ (v978 : Value).ownBlock ∧ some k_ ≠ (.slice Ao77 t989.length co77 : Value).ownBlock ∧ some k_ ≠ (.slice Ao26 t1001.length co26 : Value).ownBlock) (Kd.R_keptB (HO_12.out) hkp (fun k_ hk_ hs_ => (hk_.2.2.1) hs_)) (fun k_ hk_ => ⟨hk_.1.1, hk_.1.2.1, hk_.1.2.2.1, hk_.1.2.2.2⟩)); have n3_ := Aside0.mk (Kd.R_reok rfl hy0 (fun k_ e_ => HO_13.out.1 k_ e_)); have n4_ := Aside0.mk (Kd.R_mono (ok' := fun k_ => some k_ ≠ (v975 : Value).ownBlock ∧ some k_ ≠ (v978 : Value).ownBlock ∧ some k_ ≠ (.slice Ao75 t986.length co75 : Value).ownBlock ∧ some k_ ≠ (.slice Ao77 t989.length co77 : Value).ownBlock) (Kd.R_keptB (HO_986001.out) hkp (fun k_ hk_ hs_ => (hk_.2.2.2) hs_)) (fun k_ hk_ => ⟨hk_.1.1, hk_.1.2.1, hk_.1.2.2.1, hk_.1.2.2.2⟩)); have n5_ := Aside0.mk (blk_kept (by (with_reducible repeat (first | refine blk_drewN ?_ _ | refine blk_drew ?_ | refine blk_alloc ?_ _)); exact BK968.out) hkp (fun hs_ => (fun e_ => (Kd.R_ne HO_13.out BK968.out (by decide)) e_) hs_)); have n6_ := Aside0.mk (blk_kept (by (with_reducible repeat (first | refine blk_drewN ?_ _ | refine blk_drew ?_ | refine blk_alloc ?_ _)); exact BK985.out) hkp (fun hs_ => (fun e_ => (Kd.R_ne HO_13.out BK985.out (by decide)) e_) hs_)); have n7_ := Aside0.mk (hb); clear HO_8; clear HO_9; clear HO_12; clear HO_13; clear HO_986001; clear BK968; clear BK985; clear HB; have HO_8 := n0_; have HO_9 := n1_; have HO_12 := n2_; have HO_13 := n3_; have HO_986001 := n4_; have BK968 := n5_; have BK985 := n6_; have HB := n7_; clear n0_ n1_ n2_ n3_ n4_ n5_ n6_ n7_; (try clear hb); (try clear hkp); (try clear hy0)) | ((with_reducible refine gate_callee (f := 23) rfl ?_); refine goesL_ (some 95) rfl rfl Try.func23 (by kernel_rfl) rfl #[.slice Ao75 t1005.length co75, .int .i64 1] rfl (by (try simp only [List.map_toArray, List.map_cons, List.map_nil]); first | done | (rw [show t1005.length = t986.length from (Kd.R_reads' HO_12.out).1.symm] <;> rfl) | rfl | (simp only [List.length_drop, List.length_take]; rfl)) ?_; (with_reducible refine (laws_heldInt64S.calls kj46 _ _ t1005 1 t1008 _ ?side1 ?side2 A73.out).mono ?_); (case side1 => repeat (first | exact (Kd.R_reads' HO_12.out).2.2 | (with_reducible refine Kd.C_alloc ?_ _) | (with_reducible refine Kd.C_drewN ?_ _) | (with_reducible refine Kd.C_drew ?_))); (case side2 => rw [show t1005.length = t986.length from (Kd.R_reads' HO_12.out).1.symm]; exact (Kd.R_reads' HO_12.out).2.1); rintro e w' ⟨rfl, ⟨nd, rfl⟩⟩; refine ⟨_, rfl, ?_⟩))
                      go_ret
                      exact ⟨by first | rfl | (simp [errW_none, errW_some] <;> rfl) | (simp [*, errW_none, errW_some] <;> rfl), by repeat (first | (with_reducible first | exact HB.out | apply below_alloc | apply pw_below_drewN | apply below_drew1 | refine below_set ?_ GE968.out | refine below_set ?_ GE985.out) | exact HB.out)⟩
                  · rw [if_neg c74] at H
                    have c74b0 : decide (t1008 < 0) = false := decide_eq_false c74
                    clear c74
                    replace H := Option.bind_eq_some_iff.mp H
                    obtain ⟨t1009, A790, H⟩ := H
                    replace H : (if t1009 < 0 then (some false) else (if t1009 = t1006 then ((laws_toValues.f kj46 a0_0 l0_1).bind fun bt1010 => ((impl_SecondOf.f kj46 bt1010.1 bt1010.2 a1 a2).bind fun bt1014 => ((laws_eqInt64S.f kj46 bt1014.1 t974).bind fun t1021 => (if t1021 = true then ((laws_eqInt64S.f kj46 bt1014.2.1 t977).bind fun t1022 => (if t1022 = true then (laws_FnExactSecondOf.j2 kj46 t1005 t1007 t1006 (bt1014.2.2 != t980)) else (laws_FnExactSecondOf.j2 kj46 t1005 t1007 t1006 true))) else (laws_FnExactSecondOf.j2 kj46 t1005 t1007 t1006 true))))) else (some false))) = some r := H
                    have A79 := Aside0.mk A790
                    clear A790
                    by_cases c80 : t1009 < 0
                    · rw [if_pos c80] at H
                      have c80b0 : decide (t1009 < 0) = true := decide_eq_true c80
                      clear c80
                      obtain rfl := Option.some.inj H
                      obtain ⟨Ao81, co81, eo81⟩ := Kd.R_slice HO_12.out
                      subst eo81
                      as_aux_lemma =>
                        go_wp2_with (first | ((with_reducible refine gate_callee (f := 22) rfl ?_); refine goesL_ (some 89) rfl rfl Try.func22 (by kernel_rfl) rfl #[.slice Ao81 t986.length co81, .int .i64 1] rfl (by (try simp only [List.map_toArray, List.map_cons, List.map_nil]); first | done | rfl | (simp only [List.length_drop, List.length_take]; rfl)) ?_; (with_reducible refine (laws_markInt64S.calls kj46 (fun k_ => some k_ = (.slice Ao81 t986.length co81 : Value).ownBlock) (.slice Ao81 t986.length co81) t986 1 t1004 t1005 w _ ?side1 ?side2 A71.out).mono ?_); (case side1 => repeat (first | (with_reducible first | exact HB.out | apply below_alloc | apply pw_below_drewN | apply below_drew1 | refine below_set ?_ GE968.out | refine below_set ?_ GE985.out) | exact HB.out)); (case side2 => exact Kd.R_tight rfl HO_12.out); rintro e w82 ⟨rfl, hy0, hb, hkp⟩; refine ⟨_, rfl, ?_⟩; have n0_ := Aside0.mk (Kd.R_mono (ok' := fun k_ => some k_ ≠ (v978 : Value).ownBlock ∧ some k_ ≠ (.slice Ao81 t986.length co81 : Value).ownBlock ∧ some k_ ≠ (v990 : Value).ownBlock ∧ some k_ ≠ (.slice Ao26 t1001.length co26 : Value).ownBlock) (Kd.R_keptB (HO_8.out) hkp (fun k_ hk_ hs_ => (hk_.2.1) hs_)) (fun k_ hk_ => ⟨hk_.1.1, hk_.1.2.1, hk_.1.2.2.1, hk_.1.2.2.2⟩)); have n1_ := Aside0.mk (Kd.R_mono (ok' := fun k_ => some k_ ≠ (v975 : Value).ownBlock ∧ some k_ ≠ (.slice Ao81 t986.length co81 : Value).ownBlock ∧ some k_ ≠ (v990 : Value).ownBlock ∧ some k_ ≠ (.slice Ao26 t1001.length co26 : Value).ownBlock) (Kd.R_keptB (HO_9.out) hkp (fun k_ hk_ hs_ => (hk_.2.1) hs_)) (fun k_ hk_ => ⟨hk_.1.1, hk_.1.2.1, hk_.1.2.2.1, hk_.1.2.2.2⟩)); have n2_ := Aside0.mk (Kd.R_reok rfl hy0 (fun k_ e_ => HO_12.out.1 k_ e_)); have n3_ := Aside0.mk (Kd.R_mono (ok' := fun k_ => some k_ ≠ (v975 : Value).ownBlock ∧ some k_ ≠ (v978 : Value).ownBlock ∧ some k_ ≠ (.slice Ao81 t986.length co81 : Value).ownBlock ∧ some k_ ≠ (.slice Ao26 t1001.length co26 : Value).ownBlock) (Kd.R_keptB (HO_13.out) hkp (fun k_ hk_ hs_ => (hk_.2.2.1) hs_)) (fun k_ hk_ => ⟨hk_.1.1, hk_.1.2.1, hk_.1.2.2.1, hk_.1.2.2.2⟩)); have n4_ := Aside0.mk (Kd.R_mono (ok' := fun k_ => some k_ ≠ (v975 : Value).ownBlock ∧ some k_ ≠ (v978 : Value).ownBlock ∧ some k_ ≠ (.slice Ao81 t986.length co81 : Value).ownBlock ∧ some k_ ≠ (v990 : Value).ownBlock) (Kd.R_keptB (HO_986001.out) hkp (fun k_ hk_ hs_ => (hk_.2.2.1) hs_)) (fun k_ hk_ => ⟨hk_.1.1, hk_.1.2.1, hk_.1.2.2.1, hk_.1.2.2.2⟩)); have n5_ := Aside0.mk (blk_kept (by (with_reducible repeat (first | refine blk_drewN ?_ _ | refine blk_drew ?_ | refine blk_alloc ?_ _)); exact BK968.out) hkp (fun hs_ => (fun e_ => (Kd.R_ne HO_12.out BK968.out (by decide)) e_) hs_)); have n6_ := Aside0.mk (blk_kept (by (with_reducible repeat (first | refine blk_drewN ?_ _ | refine blk_drew ?_ | refine blk_alloc ?_ _)); exact BK985.out) hkp (fun hs_ => (fun e_ => (Kd.R_ne HO_12.out BK985.out (by decide)) e_) hs_)); have n7_ := Aside0.mk (hb); clear HO_8; clear HO_9; clear HO_12; clear HO_13; clear HO_986001; clear BK968; clear BK985; clear HB; have HO_8 := n0_; have HO_9 := n1_; have HO_12 := n2_; have HO_13 := n3_; have HO_986001 := n4_; have BK968 := n5_; have BK985 := n6_; have HB := n7_; clear n0_ n1_ n2_ n3_ n4_ n5_ n6_ n7_; (try clear hb); (try clear hkp); (try clear hy0); obtain ⟨Ao83, co83, eo83⟩ := Kd.R_slice HO_13.out; subst eo83) | ((with_reducible refine gate_callee (f := 22) rfl ?_); refine goesL_ (some 92) rfl rfl Try.func22 (by kernel_rfl) rfl #[.slice Ao83 t989.length co83, .int .i64 t1004] rfl (by (try simp only [List.map_toArray, List.map_cons, List.map_nil]); first | done | rfl | (simp only [List.length_drop, List.length_take]; rfl)) ?_; (with_reducible refine (laws_markInt64S.calls kj46 (fun k_ => some k_ = (.slice Ao83 t989.length co83 : Value).ownBlock) (.slice Ao83 t989.length co83) t989 t1004 t1006 t1007 w _ ?side1 ?side2 A72.out).mono ?_); (case side1 => repeat (first | (with_reducible first | exact HB.out | apply below_alloc | apply pw_below_drewN | apply below_drew1 | refine below_set ?_ GE968.out | refine below_set ?_ GE985.out) | exact HB.out)); (case side2 => exact Kd.R_tight rfl HO_13.out); rintro e w84 ⟨rfl, hy0, hb, hkp⟩; refine ⟨_, rfl, ?_⟩; have n0_ := Aside0.mk (Kd.R_mono (ok' := fun k_ => some k_ ≠ (v978 : Value).ownBlock ∧ some k_ ≠ (.slice Ao81 t986.length co81 : Value).ownBlock ∧ some k_ ≠ (.slice Ao83 t989.length co83 : Value).ownBlock ∧ some k_ ≠ (.slice Ao26 t1001.length co26 : Value).ownBlock) (Kd.R_keptB (HO_8.out) hkp (fun k_ hk_ hs_ => (hk_.2.2.1) hs_)) (fun k_ hk_ => ⟨hk_.1.1, hk_.1.2.1, hk_.1.2.2.1, hk_.1.2.2.2⟩)); have n1_ := Aside0.mk (Kd.R_mono (ok' := fun k_ => some k_ ≠ (v975 : Value).ownBlock ∧ some k_ ≠ (.slice Ao81 t986.length co81 : Value).ownBlock ∧ some k_ ≠ (.slice Ao83 t989.length co83 : Value).ownBlock ∧ some k_ ≠ (.slice Ao26 t1001.length co26 : Value).ownBlock) (Kd.R_keptB (HO_9.out) hkp (fun k_ hk_ hs_ => (hk_.2.2.1) hs_)) (fun k_ hk_ => ⟨hk_.1.1, hk_.1.2.1, hk_.1.2.2.1, hk_.1.2.2.2⟩)); have n2_ := Aside0.mk (Kd.R_mono (ok' := fun k_ => some k_ ≠ (v975 : Value).ownBlock ∧ some k_ ≠ (v978 : Value).ownBlock ∧ some k_ ≠ (.slice Ao83 t989.length co83 : Value).ownBlock ∧ some k_ ≠ (.slice Ao26 t1001.length co26 : Value).ownBlock) (Kd.R_keptB (HO_12.out) hkp (fun k_ hk_ hs_ => (hk_.2.2.1) hs_)) (fun k_ hk_ => ⟨hk_.1.1, hk_.1.2.1, hk_.1.2.2.1, hk_.1.2.2.2⟩)); have n3_ := Aside0.mk (Kd.R_reok rfl hy0 (fun k_ e_ => HO_13.out.1 k_ e_)); have n4_ := Aside0.mk (Kd.R_mono (ok' := fun k_ => some k_ ≠ (v975 : Value).ownBlock ∧ some k_ ≠ (v978 : Value).ownBlock ∧ some k_ ≠ (.slice Ao81 t986.length co81 : Value).ownBlock ∧ some k_ ≠ (.slice Ao83 t989.length co83 : Value).ownBlock) (Kd.R_keptB (HO_986001.out) hkp (fun k_ hk_ hs_ => (hk_.2.2.2) hs_)) (fun k_ hk_ => ⟨hk_.1.1, hk_.1.2.1, hk_.1.2.2.1, hk_.1.2.2.2⟩)); have n5_ := Aside0.mk (blk_kept (by (with_reducible repeat (first | refine blk_drewN ?_ _ | refine blk_drew ?_ | refine blk_alloc ?_ _)); exact BK968.out) hkp (fun hs_ => (fun e_ => (Kd.R_ne HO_13.out BK968.out (by decide)) e_) hs_)); have n6_ := Aside0.mk (blk_kept (by (with_reducible repeat (first | refine blk_drewN ?_ _ | refine blk_drew ?_ | refine blk_alloc ?_ _)); exact BK985.out) hkp (fun hs_ => (fun e_ => (Kd.R_ne HO_13.out BK985.out (by decide)) e_) hs_)); have n7_ := Aside0.mk (hb); clear HO_8; clear HO_9; clear HO_12; clear HO_13; clear HO_986001; clear BK968; clear BK985; clear HB; have HO_8 := n0_; have HO_9 := n1_; have HO_12 := n2_; have HO_13 := n3_; have HO_986001 := n4_; have BK968 := n5_; have BK985 := n6_; have HB := n7_; clear n0_ n1_ n2_ n3_ n4_ n5_ n6_ n7_; (try clear hb); (try clear hkp); (try clear hy0)) | ((with_reducible refine gate_callee (f := 23) rfl ?_); refine goesL_ (some 95) rfl rfl Try.func23 (by kernel_rfl) rfl #[.slice Ao81 t1005.length co81, .int .i64 1] rfl (by (try simp only [List.map_toArray, List.map_cons, List.map_nil]); first | done | (rw [show t1005.length = t986.length from (Kd.R_reads' HO_12.out).1.symm] <;> rfl) | rfl | (simp only [List.length_drop, List.length_take]; rfl)) ?_; (with_reducible refine (laws_heldInt64S.calls kj46 _ _ t1005 1 t1008 _ ?side1 ?side2 A73.out).mono ?_); (case side1 => repeat (first | exact (Kd.R_reads' HO_12.out).2.2 | (with_reducible refine Kd.C_alloc ?_ _) | (with_reducible refine Kd.C_drewN ?_ _) | (with_reducible refine Kd.C_drew ?_))); (case side2 => rw [show t1005.length = t986.length from (Kd.R_reads' HO_12.out).1.symm]; exact (Kd.R_reads' HO_12.out).2.1); rintro e w' ⟨rfl, ⟨nd, rfl⟩⟩; refine ⟨_, rfl, ?_⟩) | ((with_reducible refine gate_callee (f := 23) rfl ?_); refine goesL_ (some 100) rfl rfl Try.func23 (by kernel_rfl) rfl #[.slice Ao83 t1007.length co83, .int .i64 t1008] rfl (by (try simp only [List.map_toArray, List.map_cons, List.map_nil]); first | done | (rw [show t1007.length = t989.length from (Kd.R_reads' HO_13.out).1.symm] <;> rfl) | rfl | (simp only [List.length_drop, List.length_take]; rfl)) ?_; (with_reducible refine (laws_heldInt64S.calls kj46 _ _ t1007 t1008 t1009 _ ?side1 ?side2 A79.out).mono ?_); (case side1 => repeat (first | exact (Kd.R_reads' HO_13.out).2.2 | (with_reducible refine Kd.C_alloc ?_ _) | (with_reducible refine Kd.C_drewN ?_ _) | (with_reducible refine Kd.C_drew ?_))); (case side2 => rw [show t1007.length = t989.length from (Kd.R_reads' HO_13.out).1.symm]; exact (Kd.R_reads' HO_13.out).2.1); rintro e w' ⟨rfl, ⟨nd, rfl⟩⟩; refine ⟨_, rfl, ?_⟩))
                        go_ret
                        exact ⟨by first | rfl | (simp [errW_none, errW_some] <;> rfl) | (simp [*, errW_none, errW_some] <;> rfl), by repeat (first | (with_reducible first | exact HB.out | apply below_alloc | apply pw_below_drewN | apply below_drew1 | refine below_set ?_ GE968.out | refine below_set ?_ GE985.out) | exact HB.out)⟩
                    · rw [if_neg c80] at H
                      have c80b0 : decide (t1009 < 0) = false := decide_eq_false c80
                      clear c80
                      by_cases c85 : t1009 = t1006
                      · rw [if_pos c85] at H
                        have c85b0 : (t1009 == t1006) = true := beq_iff_eq.mpr c85
                        have c85b1 : (t1009 != t1006) = false := bne_eq_false_iff_eq.mpr c85
                        clear c85
                        replace H := Option.bind_eq_some_iff.mp H
                        obtain ⟨⟨t1010, t1011⟩, A860, H⟩ := H
                        replace H : ((impl_SecondOf.f kj46 t1010 t1011 a1 a2).bind fun bt1014 => ((laws_eqInt64S.f kj46 bt1014.1 t974).bind fun t1021 => (if t1021 = true then ((laws_eqInt64S.f kj46 bt1014.2.1 t977).bind fun t1022 => (if t1022 = true then (laws_FnExactSecondOf.j2 kj46 t1005 t1007 t1006 (bt1014.2.2 != t980)) else (laws_FnExactSecondOf.j2 kj46 t1005 t1007 t1006 true))) else (laws_FnExactSecondOf.j2 kj46 t1005 t1007 t1006 true)))) = some r := H
                        have A86 := Aside0.mk A860
                        clear A860
                        replace H := Option.bind_eq_some_iff.mp H
                        obtain ⟨⟨t1014, t1017, t1020⟩, A870, H⟩ := H
                        replace H : ((laws_eqInt64S.f kj46 t1014 t974).bind fun t1021 => (if t1021 = true then ((laws_eqInt64S.f kj46 t1017 t977).bind fun t1022 => (if t1022 = true then (laws_FnExactSecondOf.j2 kj46 t1005 t1007 t1006 (t1020 != t980)) else (laws_FnExactSecondOf.j2 kj46 t1005 t1007 t1006 true))) else (laws_FnExactSecondOf.j2 kj46 t1005 t1007 t1006 true))) = some r := H
                        have A87 := Aside0.mk A870
                        clear A870
                        have HC88 := Aside0.mk H
                        clear H
                        obtain ⟨Ao89, co89, eo89⟩ := Kd.R_slice HO_12.out
                        subst eo89
                        go_upto_region 29 with (first | ((with_reducible refine gate_callee (f := 22) rfl ?_); refine goesL_ (some 89) rfl rfl Try.func22 (by kernel_rfl) rfl #[.slice Ao89 t986.length co89, .int .i64 1] rfl (by (try simp only [List.map_toArray, List.map_cons, List.map_nil]); first | done | rfl | (simp only [List.length_drop, List.length_take]; rfl)) ?_; (with_reducible refine (laws_markInt64S.calls kj46 (fun k_ => some k_ = (.slice Ao89 t986.length co89 : Value).ownBlock) (.slice Ao89 t986.length co89) t986 1 t1004 t1005 w _ ?side1 ?side2 A71.out).mono ?_); (case side1 => repeat (first | (with_reducible first | exact HB.out | apply below_alloc | apply pw_below_drewN | apply below_drew1 | refine below_set ?_ GE968.out | refine below_set ?_ GE985.out) | exact HB.out)); (case side2 => exact Kd.R_tight rfl HO_12.out); rintro e w90 ⟨rfl, hy0, hb, hkp⟩; refine ⟨_, rfl, ?_⟩; have n0_ := Aside0.mk (Kd.R_mono (ok' := fun k_ => some k_ ≠ (v978 : Value).ownBlock ∧ some k_ ≠ (.slice Ao89 t986.length co89 : Value).ownBlock ∧ some k_ ≠ (v990 : Value).ownBlock ∧ some k_ ≠ (.slice Ao26 t1001.length co26 : Value).ownBlock) (Kd.R_keptB (HO_8.out) hkp (fun k_ hk_ hs_ => (hk_.2.1) hs_)) (fun k_ hk_ => ⟨hk_.1.1, hk_.1.2.1, hk_.1.2.2.1, hk_.1.2.2.2⟩)); have n1_ := Aside0.mk (Kd.R_mono (ok' := fun k_ => some k_ ≠ (v975 : Value).ownBlock ∧ some k_ ≠ (.slice Ao89 t986.length co89 : Value).ownBlock ∧ some k_ ≠ (v990 : Value).ownBlock ∧ some k_ ≠ (.slice Ao26 t1001.length co26 : Value).ownBlock) (Kd.R_keptB (HO_9.out) hkp (fun k_ hk_ hs_ => (hk_.2.1) hs_)) (fun k_ hk_ => ⟨hk_.1.1, hk_.1.2.1, hk_.1.2.2.1, hk_.1.2.2.2⟩)); have n2_ := Aside0.mk (Kd.R_reok rfl hy0 (fun k_ e_ => HO_12.out.1 k_ e_)); have n3_ := Aside0.mk (Kd.R_mono (ok' := fun k_ => some k_ ≠ (v975 : Value).ownBlock ∧ some k_ ≠ (v978 : Value).ownBlock ∧ some k_ ≠ (.slice Ao89 t986.length co89 : Value).ownBlock ∧ some k_ ≠ (.slice Ao26 t1001.length co26 : Value).ownBlock) (Kd.R_keptB (HO_13.out) hkp (fun k_ hk_ hs_ => (hk_.2.2.1) hs_)) (fun k_ hk_ => ⟨hk_.1.1, hk_.1.2.1, hk_.1.2.2.1, hk_.1.2.2.2⟩)); have n4_ := Aside0.mk (Kd.R_mono (ok' := fun k_ => some k_ ≠ (v975 : Value).ownBlock ∧ some k_ ≠ (v978 : Value).ownBlock ∧ some k_ ≠ (.slice Ao89 t986.length co89 : Value).ownBlock ∧ some k_ ≠ (v990 : Value).ownBlock) (Kd.R_keptB (HO_986001.out) hkp (fun k_ hk_ hs_ => (hk_.2.2.1) hs_)) (fun k_ hk_ => ⟨hk_.1.1, hk_.1.2.1, hk_.1.2.2.1, hk_.1.2.2.2⟩)); have n5_ := Aside0.mk (blk_kept (by (with_reducible repeat (first | refine blk_drewN ?_ _ | refine blk_drew ?_ | refine blk_alloc ?_ _)); exact BK968.out) hkp (fun hs_ => (fun e_ => (Kd.R_ne HO_12.out BK968.out (by decide)) e_) hs_)); have n6_ := Aside0.mk (blk_kept (by (with_reducible repeat (first | refine blk_drewN ?_ _ | refine blk_drew ?_ | refine blk_alloc ?_ _)); exact BK985.out) hkp (fun hs_ => (fun e_ => (Kd.R_ne HO_12.out BK985.out (by decide)) e_) hs_)); have n7_ := Aside0.mk (hb); clear HO_8; clear HO_9; clear HO_12; clear HO_13; clear HO_986001; clear BK968; clear BK985; clear HB; have HO_8 := n0_; have HO_9 := n1_; have HO_12 := n2_; have HO_13 := n3_; have HO_986001 := n4_; have BK968 := n5_; have BK985 := n6_; have HB := n7_; clear n0_ n1_ n2_ n3_ n4_ n5_ n6_ n7_; (try clear hb); (try clear hkp); (try clear hy0); obtain ⟨Ao91, co91, eo91⟩ := Kd.R_slice HO_13.out; subst eo91) | ((with_reducible refine gate_callee (f := 22) rfl ?_); refine goesL_ (some 92) rfl rfl Try.func22 (by kernel_rfl) rfl #[.slice Ao91 t989.length co91, .int .i64 t1004] rfl (by (try simp only [List.map_toArray, List.map_cons, List.map_nil]); first | done | rfl | (simp only [List.length_drop, List.length_take]; rfl)) ?_; (with_reducible refine (laws_markInt64S.calls kj46 (fun k_ => some k_ = (.slice Ao91 t989.length co91 : Value).ownBlock) (.slice Ao91 t989.length co91) t989 t1004 t1006 t1007 w _ ?side1 ?side2 A72.out).mono ?_); (case side1 => repeat (first | (with_reducible first | exact HB.out | apply below_alloc | apply pw_below_drewN | apply below_drew1 | refine below_set ?_ GE968.out | refine below_set ?_ GE985.out) | exact HB.out)); (case side2 => exact Kd.R_tight rfl HO_13.out); rintro e w92 ⟨rfl, hy0, hb, hkp⟩; refine ⟨_, rfl, ?_⟩; have n0_ := Aside0.mk (Kd.R_mono (ok' := fun k_ => some k_ ≠ (v978 : Value).ownBlock ∧ some k_ ≠ (.slice Ao89 t986.length co89 : Value).ownBlock ∧ some k_ ≠ (.slice Ao91 t989.length co91 : Value).ownBlock ∧ some k_ ≠ (.slice Ao26 t1001.length co26 : Value).ownBlock) (Kd.R_keptB (HO_8.out) hkp (fun k_ hk_ hs_ => (hk_.2.2.1) hs_)) (fun k_ hk_ => ⟨hk_.1.1, hk_.1.2.1, hk_.1.2.2.1, hk_.1.2.2.2⟩)); have n1_ := Aside0.mk (Kd.R_mono (ok' := fun k_ => some k_ ≠ (v975 : Value).ownBlock ∧ some k_ ≠ (.slice Ao89 t986.length co89 : Value).ownBlock ∧ some k_ ≠ (.slice Ao91 t989.length co91 : Value).ownBlock ∧ some k_ ≠ (.slice Ao26 t1001.length co26 : Value).ownBlock) (Kd.R_keptB (HO_9.out) hkp (fun k_ hk_ hs_ => (hk_.2.2.1) hs_)) (fun k_ hk_ => ⟨hk_.1.1, hk_.1.2.1, hk_.1.2.2.1, hk_.1.2.2.2⟩)); have n2_ := Aside0.mk (Kd.R_mono (ok' := fun k_ => some k_ ≠ (v975 : Value).ownBlock ∧ some k_ ≠ (v978 : Value).ownBlock ∧ some k_ ≠ (.slice Ao91 t989.length co91 : Value).ownBlock ∧ some k_ ≠ (.slice Ao26 t1001.length co26 : Value).ownBlock) (Kd.R_keptB (HO_12.out) hkp (fun k_ hk_ hs_ => (hk_.2.2.1) hs_)) (fun k_ hk_ => ⟨hk_.1.1, hk_.1.2.1, hk_.1.2.2.1, hk_.1.2.2.2⟩)); have n3_ := Aside0.mk (Kd.R_reok rfl hy0 (fun k_ e_ => HO_13.out.1 k_ e_)); have n4_ := Aside0.mk (Kd.R_mono (ok' := fun k_ => some k_ ≠ (v975 : Value).ownBlock ∧ some k_ ≠ (v978 : Value).ownBlock ∧ some k_ ≠ (.slice Ao89 t986.length co89 : Value).ownBlock ∧ some k_ ≠ (.slice Ao91 t989.length co91 : Value).ownBlock) (Kd.R_keptB (HO_986001.out) hkp (fun k_ hk_ hs_ => (hk_.2.2.2) hs_)) (fun k_ hk_ => ⟨hk_.1.1, hk_.1.2.1, hk_.1.2.2.1, hk_.1.2.2.2⟩)); have n5_ := Aside0.mk (blk_kept (by (with_reducible repeat (first | refine blk_drewN ?_ _ | refine blk_drew ?_ | refine blk_alloc ?_ _)); exact BK968.out) hkp (fun hs_ => (fun e_ => (Kd.R_ne HO_13.out BK968.out (by decide)) e_) hs_)); have n6_ := Aside0.mk (blk_kept (by (with_reducible repeat (first | refine blk_drewN ?_ _ | refine blk_drew ?_ | refine blk_alloc ?_ _)); exact BK985.out) hkp (fun hs_ => (fun e_ => (Kd.R_ne HO_13.out BK985.out (by decide)) e_) hs_)); have n7_ := Aside0.mk (hb); clear HO_8; clear HO_9; clear HO_12; clear HO_13; clear HO_986001; clear BK968; clear BK985; clear HB; have HO_8 := n0_; have HO_9 := n1_; have HO_12 := n2_; have HO_13 := n3_; have HO_986001 := n4_; have BK968 := n5_; have BK985 := n6_; have HB := n7_; clear n0_ n1_ n2_ n3_ n4_ n5_ n6_ n7_; (try clear hb); (try clear hkp); (try clear hy0)) | ((with_reducible refine gate_callee (f := 23) rfl ?_); refine goesL_ (some 95) rfl rfl Try.func23 (by kernel_rfl) rfl #[.slice Ao89 t1005.length co89, .int .i64 1] rfl (by (try simp only [List.map_toArray, List.map_cons, List.map_nil]); first | done | (rw [show t1005.length = t986.length from (Kd.R_reads' HO_12.out).1.symm] <;> rfl) | rfl | (simp only [List.length_drop, List.length_take]; rfl)) ?_; (with_reducible refine (laws_heldInt64S.calls kj46 _ _ t1005 1 t1008 _ ?side1 ?side2 A73.out).mono ?_); (case side1 => repeat (first | exact (Kd.R_reads' HO_12.out).2.2 | (with_reducible refine Kd.C_alloc ?_ _) | (with_reducible refine Kd.C_drewN ?_ _) | (with_reducible refine Kd.C_drew ?_))); (case side2 => rw [show t1005.length = t986.length from (Kd.R_reads' HO_12.out).1.symm]; exact (Kd.R_reads' HO_12.out).2.1); rintro e w' ⟨rfl, ⟨nd, rfl⟩⟩; refine ⟨_, rfl, ?_⟩) | ((with_reducible refine gate_callee (f := 23) rfl ?_); refine goesL_ (some 100) rfl rfl Try.func23 (by kernel_rfl) rfl #[.slice Ao91 t1007.length co91, .int .i64 t1008] rfl (by (try simp only [List.map_toArray, List.map_cons, List.map_nil]); first | done | (rw [show t1007.length = t989.length from (Kd.R_reads' HO_13.out).1.symm] <;> rfl) | rfl | (simp only [List.length_drop, List.length_take]; rfl)) ?_; (with_reducible refine (laws_heldInt64S.calls kj46 _ _ t1007 t1008 t1009 _ ?side1 ?side2 A79.out).mono ?_); (case side1 => repeat (first | exact (Kd.R_reads' HO_13.out).2.2 | (with_reducible refine Kd.C_alloc ?_ _) | (with_reducible refine Kd.C_drewN ?_ _) | (with_reducible refine Kd.C_drew ?_))); (case side2 => rw [show t1007.length = t989.length from (Kd.R_reads' HO_13.out).1.symm]; exact (Kd.R_reads' HO_13.out).2.1); rintro e w' ⟨rfl, ⟨nd, rfl⟩⟩; refine ⟨_, rfl, ?_⟩; have hnb93 := NB968_985.out; have hnc93 := NB985_968.out; have hcz94_0 : w92.cell? ⟨gb968, 0, none⟩ = some (.int .i64 a0_0) := (blk_cell BK968.out 0).trans rfl; have hcz94_1 : w92.cell? ⟨gb968, 1, none⟩ = some (.slice A0_1 l0_1.length c0_1) := (blk_cell BK968.out 1).trans rfl; have hfz94_0 := blk_frozen BK968.out 0; have hfz94_1 := blk_frozen BK968.out 1) | ((with_reducible refine gate_callee (f := 17) rfl ?_); refine goesL_ (some 108) rfl rfl Try.func17 (by kernel_rfl) rfl #[.agg #[.int .i64 a0_0, .slice A0_1 l0_1.length c0_1]] rfl (by (try simp only [List.map_toArray, List.map_cons, List.map_nil]); first | done | rfl | (simp only [List.length_drop, List.length_take]; rfl)) ?_; (with_reducible refine (laws_toValues.calls kj46 a0_0 _ _ l0_1 t1010 t1011 _ ?side1 ?side2 A86.out).mono ?_); (case side1 => repeat (first | exact (Kd.C_below HR0_1.out (by repeat (first | (with_reducible first | exact HB.out | apply below_alloc | apply pw_below_drewN | apply below_drew1 | refine below_set ?_ GE968.out | refine below_set ?_ GE985.out) | exact HB.out))) | (with_reducible refine Kd.C_alloc ?_ _) | (with_reducible refine Kd.C_drewN ?_ _) | (with_reducible refine Kd.C_drew ?_))); (case side2 => exact HC0_1.out); rintro e w95 ⟨v1012, rfl, ho0, hb⟩; refine ⟨_, rfl, ?_⟩; have n0_ := Aside0.mk (Kd.R_elder' (by (with_reducible repeat (first | apply Kd.R_alloc | apply Kd.R_drewN | apply Kd.R_drew)); exact HO_8.out) (Kd.R_base ho0) hb); have n1_ := Aside0.mk (Kd.R_elder' (by (with_reducible repeat (first | apply Kd.R_alloc | apply Kd.R_drewN | apply Kd.R_drew)); exact HO_9.out) (Kd.R_base ho0) hb); have n2_ := Aside0.mk (Kd.R_elder' (by (with_reducible repeat (first | apply Kd.R_alloc | apply Kd.R_drewN | apply Kd.R_drew)); exact HO_12.out) (Kd.R_base ho0) hb); have n3_ := Aside0.mk (Kd.R_elder' (by (with_reducible repeat (first | apply Kd.R_alloc | apply Kd.R_drewN | apply Kd.R_drew)); exact HO_13.out) (Kd.R_base ho0) hb); have n4_ := Aside0.mk (Kd.R_elder' (by (with_reducible repeat (first | apply Kd.R_alloc | apply Kd.R_drewN | apply Kd.R_drew)); exact HO_986001.out) (Kd.R_base ho0) hb); have n5_ := Aside0.mk (Kd.R_lower (Kd.R_new' (Kd.R_new' (Kd.R_new' (Kd.R_new' (Kd.R_new' ho0 (Kd.R_lt (by (with_reducible repeat (first | apply Kd.R_alloc | apply Kd.R_drewN | apply Kd.R_drew)); exact HO_8.out))) (Kd.R_lt (by (with_reducible repeat (first | apply Kd.R_alloc | apply Kd.R_drewN | apply Kd.R_drew)); exact HO_9.out))) (Kd.R_lt (by (with_reducible repeat (first | apply Kd.R_alloc | apply Kd.R_drewN | apply Kd.R_drew)); exact HO_12.out))) (Kd.R_lt (by (with_reducible repeat (first | apply Kd.R_alloc | apply Kd.R_drewN | apply Kd.R_drew)); exact HO_13.out))) (Kd.R_lt (by (with_reducible repeat (first | apply Kd.R_alloc | apply Kd.R_drewN | apply Kd.R_drew)); exact HO_986001.out))) (below_size (by repeat (first | (with_reducible first | exact HB.out | apply below_alloc | apply pw_below_drewN | apply below_drew1 | refine below_set ?_ GE968.out | refine below_set ?_ GE985.out) | exact HB.out)))); have n6_ := Aside0.mk (blk_below (g := gb968) (o := .cells #[.int .i64 a0_0, .slice A0_1 l0_1.length c0_1] 24 (0, 0)) (by (with_reducible repeat (first | refine blk_drewN ?_ _ | refine blk_drew ?_ | refine blk_alloc ?_ _)); exact BK968.out) hb); have n7_ := Aside0.mk (blk_below (g := gb985) (o := .cells #[.int .i64 t981, .slice Ao26 t1001.length co26] 28 (0, 0)) (by (with_reducible repeat (first | refine blk_drewN ?_ _ | refine blk_drew ?_ | refine blk_alloc ?_ _)); exact BK985.out) hb); have n8_ := Aside0.mk (below_step (by repeat (first | (with_reducible first | exact HB.out | apply below_alloc | apply pw_below_drewN | apply below_drew1 | refine below_set ?_ GE968.out | refine below_set ?_ GE985.out) | exact HB.out)) hb); clear HO_8; clear HO_9; clear HO_12; clear HO_13; clear HO_986001; clear BK968; clear BK985; clear HB; have HO_8 := n0_; have HO_9 := n1_; have HO_12 := n2_; have HO_13 := n3_; have HO_986001 := n4_; have HO1013 := n5_; have BK968 := n6_; have BK985 := n7_; have HB := n8_; clear n0_ n1_ n2_ n3_ n4_ n5_ n6_ n7_ n8_; (try clear hb); (try clear hb2); (try clear hk); (try clear hi); (try clear ho0); obtain ⟨Ao96, co96, eo96⟩ := Kd.R_slice HO1013.out; subst eo96) | ((with_reducible refine gate_callee (f := 45) rfl ?_); refine goesL_ (some 111) rfl rfl Try.func45 (by kernel_rfl) rfl #[.agg #[.int .i64 t1010, .slice Ao96 t1011.length co96], .int .i64 a1, .int .i64 a2] rfl (by (try simp only [List.map_toArray, List.map_cons, List.map_nil]); first | done | rfl | (simp only [List.length_drop, List.length_take]; rfl)) ?_; (with_reducible refine (impl_SecondOf.calls kj46 t1010 _ _ t1011 a1 a2 t1014 t1017 t1020 _ ?side1 ?side2 A87.out).mono ?_); (case side1 => repeat (first | exact (Kd.R_reads' HO1013.out).2.2 | (with_reducible refine Kd.C_alloc ?_ _) | (with_reducible refine Kd.C_drewN ?_ _) | (with_reducible refine Kd.C_drew ?_))); (case side2 => exact (Kd.R_reads' HO1013.out).2.1); rintro e w97 ⟨v1015, v1018, rfl, ho0, ho1, hb⟩; refine ⟨_, rfl, ?_⟩; have n0_ := Aside0.mk (Kd.R_mono (Kd.R_told (Kd.R_told (Kd.R_old (by (with_reducible repeat (first | apply Kd.R_alloc | apply Kd.R_drewN | apply Kd.R_drew)); exact HO_8.out) hb) (Kd.R_base ho0)) (Kd.R_base ho1)) (fun _ h_ => h_.1)); have n1_ := Aside0.mk (Kd.R_mono (Kd.R_told (Kd.R_told (Kd.R_old (by (with_reducible repeat (first | apply Kd.R_alloc | apply Kd.R_drewN | apply Kd.R_drew)); exact HO_9.out) hb) (Kd.R_base ho0)) (Kd.R_base ho1)) (fun _ h_ => h_.1)); have n2_ := Aside0.mk (Kd.R_mono (Kd.R_told (Kd.R_told (Kd.R_old (by (with_reducible repeat (first | apply Kd.R_alloc | apply Kd.R_drewN | apply Kd.R_drew)); exact HO_12.out) hb) (Kd.R_base ho0)) (Kd.R_base ho1)) (fun _ h_ => h_.1)); have n3_ := Aside0.mk (Kd.R_mono (Kd.R_told (Kd.R_told (Kd.R_old (by (with_reducible repeat (first | apply Kd.R_alloc | apply Kd.R_drewN | apply Kd.R_drew)); exact HO_13.out) hb) (Kd.R_base ho0)) (Kd.R_base ho1)) (fun _ h_ => h_.1)); have n4_ := Aside0.mk (Kd.R_mono (Kd.R_told (Kd.R_told (Kd.R_old (by (with_reducible repeat (first | apply Kd.R_alloc | apply Kd.R_drewN | apply Kd.R_drew)); exact HO_986001.out) hb) (Kd.R_base ho0)) (Kd.R_base ho1)) (fun _ h_ => h_.1)); have n5_ := Aside0.mk (Kd.R_mono (Kd.R_told (Kd.R_told (Kd.R_old (by (with_reducible repeat (first | apply Kd.R_alloc | apply Kd.R_drewN | apply Kd.R_drew)); exact HO1013.out) hb) (Kd.R_base ho0)) (Kd.R_base ho1)) (fun _ h_ => h_.1)); have n6_ := Aside0.mk (Kd.R_lower (Kd.R_new' (Kd.R_new' (Kd.R_new' (Kd.R_new' (Kd.R_new' (Kd.R_new' ho0 (Kd.R_lt (by (with_reducible repeat (first | apply Kd.R_alloc | apply Kd.R_drewN | apply Kd.R_drew)); exact HO_8.out))) (Kd.R_lt (by (with_reducible repeat (first | apply Kd.R_alloc | apply Kd.R_drewN | apply Kd.R_drew)); exact HO_9.out))) (Kd.R_lt (by (with_reducible repeat (first | apply Kd.R_alloc | apply Kd.R_drewN | apply Kd.R_drew)); exact HO_12.out))) (Kd.R_lt (by (with_reducible repeat (first | apply Kd.R_alloc | apply Kd.R_drewN | apply Kd.R_drew)); exact HO_13.out))) (Kd.R_lt (by (with_reducible repeat (first | apply Kd.R_alloc | apply Kd.R_drewN | apply Kd.R_drew)); exact HO_986001.out))) (Kd.R_lt (by (with_reducible repeat (first | apply Kd.R_alloc | apply Kd.R_drewN | apply Kd.R_drew)); exact HO1013.out))) (below_size (by repeat (first | (with_reducible first | exact HB.out | apply below_alloc | apply pw_below_drewN | apply below_drew1 | refine below_set ?_ GE968.out | refine below_set ?_ GE985.out) | exact HB.out)))); have n7_ := Aside0.mk (Kd.R_lower (Kd.R_new' (Kd.R_new' (Kd.R_new' (Kd.R_new' (Kd.R_new' (Kd.R_new' ho1 (Kd.R_lt (by (with_reducible repeat (first | apply Kd.R_alloc | apply Kd.R_drewN | apply Kd.R_drew)); exact HO_8.out))) (Kd.R_lt (by (with_reducible repeat (first | apply Kd.R_alloc | apply Kd.R_drewN | apply Kd.R_drew)); exact HO_9.out))) (Kd.R_lt (by (with_reducible repeat (first | apply Kd.R_alloc | apply Kd.R_drewN | apply Kd.R_drew)); exact HO_12.out))) (Kd.R_lt (by (with_reducible repeat (first | apply Kd.R_alloc | apply Kd.R_drewN | apply Kd.R_drew)); exact HO_13.out))) (Kd.R_lt (by (with_reducible repeat (first | apply Kd.R_alloc | apply Kd.R_drewN | apply Kd.R_drew)); exact HO_986001.out))) (Kd.R_lt (by (with_reducible repeat (first | apply Kd.R_alloc | apply Kd.R_drewN | apply Kd.R_drew)); exact HO1013.out))) (below_size (by repeat (first | (with_reducible first | exact HB.out | apply below_alloc | apply pw_below_drewN | apply below_drew1 | refine below_set ?_ GE968.out | refine below_set ?_ GE985.out) | exact HB.out)))); have n8_ := Aside0.mk (blk_below (g := gb968) (o := .cells #[.int .i64 a0_0, .slice A0_1 l0_1.length c0_1] 24 (0, 0)) (by (with_reducible repeat (first | refine blk_drewN ?_ _ | refine blk_drew ?_ | refine blk_alloc ?_ _)); exact BK968.out) hb); have n9_ := Aside0.mk (blk_below (g := gb985) (o := .cells #[.int .i64 t981, .slice Ao26 t1001.length co26] 28 (0, 0)) (by (with_reducible repeat (first | refine blk_drewN ?_ _ | refine blk_drew ?_ | refine blk_alloc ?_ _)); exact BK985.out) hb); have n10_ := Aside0.mk (below_step (by repeat (first | (with_reducible first | exact HB.out | apply below_alloc | apply pw_below_drewN | apply below_drew1 | refine below_set ?_ GE968.out | refine below_set ?_ GE985.out) | exact HB.out)) hb); clear HO_8; clear HO_9; clear HO_12; clear HO_13; clear HO_986001; clear HO1013; clear BK968; clear BK985; clear HB; have HO_8 := n0_; have HO_9 := n1_; have HO_12 := n2_; have HO_13 := n3_; have HO_986001 := n4_; have HO1013 := n5_; have HO1016 := n6_; have HO1019 := n7_; have BK968 := n8_; have BK985 := n9_; have HB := n10_; clear n0_ n1_ n2_ n3_ n4_ n5_ n6_ n7_ n8_ n9_ n10_; (try clear hb); (try clear hb2); (try clear hk); (try clear hi); (try clear ho0); (try clear ho1)))
                        (try simp only [Act.put, List.setIfInBounds_toArray, List.set_cons_zero, List.set_cons_succ])
                        go_cut [129] (fun v129 wc => ∃ (kq : Nat) (x129_87 : Bool), v129 = .bool x129_87 ∧ Aside0 (laws_FnExactSecondOf.j2 kq t1005 t1007 t1006 x129_87 = some r) ∧ Aside0 (kq ≤ kj46) ∧ Aside0 (Kd.R (Kd.int .i64) 2 wc w.heap.size (fun k_ => some k_ ≠ ((.slice Ao91 t989.length co91) : Value).ownBlock ∧ some k_ ≠ ((.slice Ao26 t1001.length co26) : Value).ownBlock) (.slice Ao89 t986.length co89) t1005) ∧ Aside0 (Kd.R (Kd.int .i64) 2 wc w.heap.size (fun k_ => some k_ ≠ ((.slice Ao89 t986.length co89) : Value).ownBlock ∧ some k_ ≠ ((.slice Ao26 t1001.length co26) : Value).ownBlock) (.slice Ao91 t989.length co91) t1007) ∧ Aside0 (Kd.R (Kd.int .i64) 2 wc w.heap.size (fun k_ => some k_ ≠ ((.slice Ao89 t986.length co89) : Value).ownBlock ∧ some k_ ≠ ((.slice Ao91 t989.length co91) : Value).ownBlock) (.slice Ao26 t1001.length co26) t1001) ∧ Aside0 (wc.heap[gb968]? = some (.cells #[.int .i64 a0_0, (.slice A0_1 l0_1.length c0_1)] 24 (0, 0))) ∧ Aside0 (wc.heap[gb985]? = some (.cells #[.int .i64 t981, (.slice Ao26 t1001.length co26)] 28 (0, 0))) ∧ Aside0 (Below w.heap.size w wc))
                        case first =>
                          have H := HC88.out
                          clear HC88
                          replace H := Option.bind_eq_some_iff.mp H
                          obtain ⟨t1021, A980, H⟩ := H
                          replace H : (if t1021 = true then ((laws_eqInt64S.f kj46 t1017 t977).bind fun t1022 => (if t1022 = true then (laws_FnExactSecondOf.j2 kj46 t1005 t1007 t1006 (t1020 != t980)) else (laws_FnExactSecondOf.j2 kj46 t1005 t1007 t1006 true))) else (laws_FnExactSecondOf.j2 kj46 t1005 t1007 t1006 true)) = some r := H
                          have A98 := Aside0.mk A980
                          clear A980
                          by_cases c99 : t1021 = true
                          · subst c99
                            have H1 : ((laws_eqInt64S.f kj46 t1017 t977).bind fun t1022 => (if t1022 = true then (laws_FnExactSecondOf.j2 kj46 t1005 t1007 t1006 (t1020 != t980)) else (laws_FnExactSecondOf.j2 kj46 t1005 t1007 t1006 true))) = some r := by rw [if_pos rfl] at H; exact H
                            clear H
                            have H := H1
                            clear H1
                            replace H := Option.bind_eq_some_iff.mp H
                            obtain ⟨t1022, A1000, H⟩ := H
                            replace H : (if t1022 = true then (laws_FnExactSecondOf.j2 kj46 t1005 t1007 t1006 (t1020 != t980)) else (laws_FnExactSecondOf.j2 kj46 t1005 t1007 t1006 true)) = some r := H
                            have A100 := Aside0.mk A1000
                            clear A1000
                            by_cases c101 : t1022 = true
                            · subst c101
                              have H1 : (laws_FnExactSecondOf.j2 kj46 t1005 t1007 t1006 (t1020 != t980)) = some r := by rw [if_pos rfl] at H; exact H
                              clear H
                              have H := H1
                              clear H1
                              have H' := Aside0.mk H
                              clear H
                              obtain ⟨Ao102, co102, eo102⟩ := Kd.R_slice HO1016.out
                              subst eo102
                              obtain ⟨Ao103, co103, eo103⟩ := Kd.R_slice HO_8.out
                              subst eo103
                              as_aux_lemma =>
                                go_wp2_with (first | ((with_reducible refine gate_callee (f := 19) rfl ?_); refine goesL_ (some 117) rfl rfl Try.func19 (by kernel_rfl) rfl #[.slice Ao102 t1014.length co102, .slice Ao103 t974.length co103] rfl (by (try simp only [List.map_toArray, List.map_cons, List.map_nil]); first | done | rfl | (simp only [List.length_drop, List.length_take]; rfl)) ?_; (with_reducible refine (laws_eqInt64S.calls kj46 _ _ t1014 _ _ t974 true _ ?side1 ?side2 ?side3 ?side4 A98.out).mono ?_); (case side1 => repeat (first | exact (Kd.R_reads' HO1016.out).2.2 | (with_reducible refine Kd.C_alloc ?_ _) | (with_reducible refine Kd.C_drewN ?_ _) | (with_reducible refine Kd.C_drew ?_))); (case side2 => exact (Kd.R_reads' HO1016.out).2.1); (case side3 => repeat (first | exact (Kd.R_reads' HO_8.out).2.2 | (with_reducible refine Kd.C_alloc ?_ _) | (with_reducible refine Kd.C_drewN ?_ _) | (with_reducible refine Kd.C_drew ?_))); (case side4 => exact (Kd.R_reads' HO_8.out).2.1); rintro e w' ⟨rfl, ⟨nd, rfl⟩⟩; refine ⟨_, rfl, ?_⟩; obtain ⟨Ao104, co104, eo104⟩ := Kd.R_slice HO1019.out; subst eo104; obtain ⟨Ao105, co105, eo105⟩ := Kd.R_slice HO_9.out; subst eo105) | (go_at_call 19; (with_reducible refine (laws_eqInt64S.calls kj46 _ _ t1017 _ _ t977 true _ ?side1 ?side2 ?side3 ?side4 A100.out).mono ?_); (case side1 => repeat (first | exact (Kd.R_reads' HO1019.out).2.2 | (with_reducible refine Kd.C_alloc ?_ _) | (with_reducible refine Kd.C_drewN ?_ _) | (with_reducible refine Kd.C_drew ?_))); (case side2 => exact (Kd.R_reads' HO1019.out).2.1); (case side3 => repeat (first | exact (Kd.R_reads' HO_9.out).2.2 | (with_reducible refine Kd.C_alloc ?_ _) | (with_reducible refine Kd.C_drewN ?_ _) | (with_reducible refine Kd.C_drew ?_))); (case side4 => exact (Kd.R_reads' HO_9.out).2.1); rintro e w' ⟨rfl, ⟨nd, rfl⟩⟩))
                                go_meet
                                case rel => exact ⟨_, ((t1020 != t980)), (by first | rfl | (simp; done) | (simp [*]; done) | (simp [IntWalk.i64_left, *]; done)), H', ⟨by have := HJ12.out; have := HJ46.out; first | omega | exact Nat.le_refl _⟩, ⟨by (try simp only [hl986001_46]); (with_reducible repeat (first | apply Kd.R_alloc | apply Kd.R_drewN | apply Kd.R_drew)); exact Kd.R_mono HO_12.out (fun _ hk => ⟨hk.1.1.1.2.2.1, hk.1.1.1.2.2.2⟩)⟩, ⟨by (try simp only [hl986001_46]); (with_reducible repeat (first | apply Kd.R_alloc | apply Kd.R_drewN | apply Kd.R_drew)); exact Kd.R_mono HO_13.out (fun _ hk => ⟨hk.1.1.1.2.2.1, hk.1.1.1.2.2.2⟩)⟩, ⟨by (try simp only [hl986001_46]); (with_reducible repeat (first | apply Kd.R_alloc | apply Kd.R_drewN | apply Kd.R_drew)); exact Kd.R_mono HO_986001.out (fun _ hk => ⟨hk.1.1.1.2.2.1, hk.1.1.1.2.2.2⟩)⟩, ⟨by (try simp only [hl986001_46]); (with_reducible repeat (first | refine blk_drewN ?_ _ | refine blk_drew ?_ | refine blk_alloc ?_ _)); exact BK968.out⟩, ⟨by (try simp only [hl986001_46]); (with_reducible repeat (first | refine blk_drewN ?_ _ | refine blk_drew ?_ | refine blk_alloc ?_ _)); exact BK985.out⟩, ⟨by repeat (first | (with_reducible first | exact HB.out | apply below_alloc | apply pw_below_drewN | apply below_drew1 | refine below_set ?_ GE968.out | refine below_set ?_ GE985.out) | exact HB.out)⟩⟩
                            · replace c101 := Bool.eq_false_iff.mpr c101
                              subst c101
                              have H1 : (laws_FnExactSecondOf.j2 kj46 t1005 t1007 t1006 true) = some r := by rw [if_neg (show ¬ (false = true) by decide)] at H; exact H
                              clear H
                              have H := H1
                              clear H1
                              have H' := Aside0.mk H
                              clear H
                              obtain ⟨Ao106, co106, eo106⟩ := Kd.R_slice HO1016.out
                              subst eo106
                              obtain ⟨Ao107, co107, eo107⟩ := Kd.R_slice HO_8.out
                              subst eo107
                              as_aux_lemma =>
                                go_wp2_with (first | ((with_reducible refine gate_callee (f := 19) rfl ?_); refine goesL_ (some 117) rfl rfl Try.func19 (by kernel_rfl) rfl #[.slice Ao106 t1014.length co106, .slice Ao107 t974.length co107] rfl (by (try simp only [List.map_toArray, List.map_cons, List.map_nil]); first | done | rfl | (simp only [List.length_drop, List.length_take]; rfl)) ?_; (with_reducible refine (laws_eqInt64S.calls kj46 _ _ t1014 _ _ t974 true _ ?side1 ?side2 ?side3 ?side4 A98.out).mono ?_); (case side1 => repeat (first | exact (Kd.R_reads' HO1016.out).2.2 | (with_reducible refine Kd.C_alloc ?_ _) | (with_reducible refine Kd.C_drewN ?_ _) | (with_reducible refine Kd.C_drew ?_))); (case side2 => exact (Kd.R_reads' HO1016.out).2.1); (case side3 => repeat (first | exact (Kd.R_reads' HO_8.out).2.2 | (with_reducible refine Kd.C_alloc ?_ _) | (with_reducible refine Kd.C_drewN ?_ _) | (with_reducible refine Kd.C_drew ?_))); (case side4 => exact (Kd.R_reads' HO_8.out).2.1); rintro e w' ⟨rfl, ⟨nd, rfl⟩⟩; refine ⟨_, rfl, ?_⟩; obtain ⟨Ao108, co108, eo108⟩ := Kd.R_slice HO1019.out; subst eo108; obtain ⟨Ao109, co109, eo109⟩ := Kd.R_slice HO_9.out; subst eo109) | (go_at_call 19; (with_reducible refine (laws_eqInt64S.calls kj46 _ _ t1017 _ _ t977 false _ ?side1 ?side2 ?side3 ?side4 A100.out).mono ?_); (case side1 => repeat (first | exact (Kd.R_reads' HO1019.out).2.2 | (with_reducible refine Kd.C_alloc ?_ _) | (with_reducible refine Kd.C_drewN ?_ _) | (with_reducible refine Kd.C_drew ?_))); (case side2 => exact (Kd.R_reads' HO1019.out).2.1); (case side3 => repeat (first | exact (Kd.R_reads' HO_9.out).2.2 | (with_reducible refine Kd.C_alloc ?_ _) | (with_reducible refine Kd.C_drewN ?_ _) | (with_reducible refine Kd.C_drew ?_))); (case side4 => exact (Kd.R_reads' HO_9.out).2.1); rintro e w' ⟨rfl, ⟨nd, rfl⟩⟩))
                                go_meet
                                case rel => exact ⟨_, (true), (by first | rfl | (simp; done) | (simp [*]; done) | (simp [IntWalk.i64_left, *]; done)), H', ⟨by have := HJ12.out; have := HJ46.out; first | omega | exact Nat.le_refl _⟩, ⟨by (try simp only [hl986001_46]); (with_reducible repeat (first | apply Kd.R_alloc | apply Kd.R_drewN | apply Kd.R_drew)); exact Kd.R_mono HO_12.out (fun _ hk => ⟨hk.1.1.1.2.2.1, hk.1.1.1.2.2.2⟩)⟩, ⟨by (try simp only [hl986001_46]); (with_reducible repeat (first | apply Kd.R_alloc | apply Kd.R_drewN | apply Kd.R_drew)); exact Kd.R_mono HO_13.out (fun _ hk => ⟨hk.1.1.1.2.2.1, hk.1.1.1.2.2.2⟩)⟩, ⟨by (try simp only [hl986001_46]); (with_reducible repeat (first | apply Kd.R_alloc | apply Kd.R_drewN | apply Kd.R_drew)); exact Kd.R_mono HO_986001.out (fun _ hk => ⟨hk.1.1.1.2.2.1, hk.1.1.1.2.2.2⟩)⟩, ⟨by (try simp only [hl986001_46]); (with_reducible repeat (first | refine blk_drewN ?_ _ | refine blk_drew ?_ | refine blk_alloc ?_ _)); exact BK968.out⟩, ⟨by (try simp only [hl986001_46]); (with_reducible repeat (first | refine blk_drewN ?_ _ | refine blk_drew ?_ | refine blk_alloc ?_ _)); exact BK985.out⟩, ⟨by repeat (first | (with_reducible first | exact HB.out | apply below_alloc | apply pw_below_drewN | apply below_drew1 | refine below_set ?_ GE968.out | refine below_set ?_ GE985.out) | exact HB.out)⟩⟩
                          · replace c99 := Bool.eq_false_iff.mpr c99
                            subst c99
                            have H1 : (laws_FnExactSecondOf.j2 kj46 t1005 t1007 t1006 true) = some r := by rw [if_neg (show ¬ (false = true) by decide)] at H; exact H
                            clear H
                            have H := H1
                            clear H1
                            have H' := Aside0.mk H
                            clear H
                            obtain ⟨Ao110, co110, eo110⟩ := Kd.R_slice HO1016.out
                            subst eo110
                            obtain ⟨Ao111, co111, eo111⟩ := Kd.R_slice HO_8.out
                            subst eo111
                            as_aux_lemma =>
                              go_wp2_with (first | ((with_reducible refine gate_callee (f := 19) rfl ?_); refine goesL_ (some 117) rfl rfl Try.func19 (by kernel_rfl) rfl #[.slice Ao110 t1014.length co110, .slice Ao111 t974.length co111] rfl (by (try simp only [List.map_toArray, List.map_cons, List.map_nil]); first | done | rfl | (simp only [List.length_drop, List.length_take]; rfl)) ?_; (with_reducible refine (laws_eqInt64S.calls kj46 _ _ t1014 _ _ t974 false _ ?side1 ?side2 ?side3 ?side4 A98.out).mono ?_); (case side1 => repeat (first | exact (Kd.R_reads' HO1016.out).2.2 | (with_reducible refine Kd.C_alloc ?_ _) | (with_reducible refine Kd.C_drewN ?_ _) | (with_reducible refine Kd.C_drew ?_))); (case side2 => exact (Kd.R_reads' HO1016.out).2.1); (case side3 => repeat (first | exact (Kd.R_reads' HO_8.out).2.2 | (with_reducible refine Kd.C_alloc ?_ _) | (with_reducible refine Kd.C_drewN ?_ _) | (with_reducible refine Kd.C_drew ?_))); (case side4 => exact (Kd.R_reads' HO_8.out).2.1); rintro e w' ⟨rfl, ⟨nd, rfl⟩⟩; refine ⟨_, rfl, ?_⟩))
                              go_meet
                              case rel => exact ⟨_, (true), (by first | rfl | (simp; done) | (simp [*]; done) | (simp [IntWalk.i64_left, *]; done)), H', ⟨by have := HJ12.out; have := HJ46.out; first | omega | exact Nat.le_refl _⟩, ⟨by (try simp only [hl986001_46]); (with_reducible repeat (first | apply Kd.R_alloc | apply Kd.R_drewN | apply Kd.R_drew)); exact Kd.R_mono HO_12.out (fun _ hk => ⟨hk.1.1.1.2.2.1, hk.1.1.1.2.2.2⟩)⟩, ⟨by (try simp only [hl986001_46]); (with_reducible repeat (first | apply Kd.R_alloc | apply Kd.R_drewN | apply Kd.R_drew)); exact Kd.R_mono HO_13.out (fun _ hk => ⟨hk.1.1.1.2.2.1, hk.1.1.1.2.2.2⟩)⟩, ⟨by (try simp only [hl986001_46]); (with_reducible repeat (first | apply Kd.R_alloc | apply Kd.R_drewN | apply Kd.R_drew)); exact Kd.R_mono HO_986001.out (fun _ hk => ⟨hk.1.1.1.2.2.1, hk.1.1.1.2.2.2⟩)⟩, ⟨by (try simp only [hl986001_46]); (with_reducible repeat (first | refine blk_drewN ?_ _ | refine blk_drew ?_ | refine blk_alloc ?_ _)); exact BK968.out⟩, ⟨by (try simp only [hl986001_46]); (with_reducible repeat (first | refine blk_drewN ?_ _ | refine blk_drew ?_ | refine blk_alloc ?_ _)); exact BK985.out⟩, ⟨by repeat (first | (with_reducible first | exact HB.out | apply below_alloc | apply pw_below_drewN | apply below_drew1 | refine below_set ?_ GE968.out | refine below_set ?_ GE985.out) | exact HB.out)⟩⟩
                        case rest =>
                          clear HC88
                          try clear c1
                          try clear c2
                          try clear p2
                          try clear c3
                          try clear c4
                          try clear c5
                          try clear c5b0
                          try clear c7
                          try clear c8
                          try clear c9
                          try clear c10
                          try clear c12
                          try clear c15
                          try clear c17
                          try clear c19
                          try clear c20
                          try clear c21
                          try clear c22
                          try clear c23
                          try clear c24
                          try clear c29
                          try clear c31
                          try clear c42
                          try clear c45
                          try clear c46
                          try clear c52
                          try clear c55
                          try clear c55b0
                          try clear c57
                          try clear c59
                          try clear c70
                          try clear c74
                          try clear c74b0
                          try clear c80
                          try clear c80b0
                          try clear c85
                          try clear c85b0
                          try clear c85b1
                          try clear c93
                          try clear c99
                          try clear c101
                          try clear hcz15_0
                          try clear hcz15_1
                          try clear hcz17_0
                          try clear hcz17_1
                          try clear hcz21_0
                          try clear hcz21_1
                          try clear hcz25_0
                          try clear hcz25_1
                          try clear hcz53_0
                          try clear hcz53_1
                          try clear hcz7_0
                          try clear hcz7_1
                          try clear hcz94_0
                          try clear hcz94_1
                          try clear hfz15_0
                          try clear hfz15_1
                          try clear hfz17_0
                          try clear hfz17_1
                          try clear hfz21_0
                          try clear hfz21_1
                          try clear hfz25_0
                          try clear hfz25_1
                          try clear hfz53_0
                          try clear hfz53_1
                          try clear hfz7_0
                          try clear hfz7_1
                          try clear hfz94_0
                          try clear hfz94_1
                          try clear p2
                          obtain ⟨kq, x129_87, rfl, HA, HJ87, HO_12, HO_13, HO_986001, BK968, BK985, HB⟩ := hcut
                          have hl12_87 := (Kd.R_reads' HO_12.out).1
                          rw [hl12_87] at HO_12
                          (try simp only [hl12_87])
                          (try simp only [hl12_87] at BK968)
                          (try simp only [hl12_87] at BK985)
                          (try simp only [hl12_87] at HO_13)
                          (try simp only [hl12_87] at HO_986001)
                          have hl13_87 := (Kd.R_reads' HO_13.out).1
                          rw [hl13_87] at HO_13
                          (try simp only [hl13_87])
                          (try simp only [hl13_87] at BK968)
                          (try simp only [hl13_87] at BK985)
                          (try simp only [hl13_87] at HO_12)
                          (try simp only [hl13_87] at HO_986001)
                          cases kq with
                          | zero => exact absurd HA.out (by simp [laws_FnExactSecondOf.j2])
                          | succ kj87 =>
                            have H := HA.out
                            clear HA
                            simp only [laws_FnExactSecondOf.j2] at H
                            by_cases c112 : x129_87 = true
                            · subst c112
                              have H1 : (some false) = some r := by rw [if_pos rfl] at H; exact H
                              clear H
                              have H := H1
                              clear H1
                              obtain rfl := Option.some.inj H
                              as_aux_lemma =>
                                go_wp2
                                go_ret
                                exact ⟨by first | rfl | (simp [errW_none, errW_some] <;> rfl) | (simp [*, errW_none, errW_some] <;> rfl), by repeat (first | (with_reducible first | exact HB.out | apply below_alloc | apply pw_below_drewN | apply below_drew1 | refine below_set ?_ GE968.out | refine below_set ?_ GE985.out) | exact HB.out)⟩
                            · replace c112 := Bool.eq_false_iff.mpr c112
                              subst c112
                              have H1 : ((laws_heldInt64S.f kj87 t1005 1).bind fun t1023 => (if t1023 < 0 then (some false) else ((laws_heldInt64S.f kj87 t1007 t1023).bind fun t1024 => (if t1024 < 0 then (some false) else (if t1024 = t1006 then (some true) else (some false)))))) = some r := by rw [if_neg (show ¬ (false = true) by decide)] at H; exact H
                              clear H
                              have H := H1
                              clear H1
                              replace H := Option.bind_eq_some_iff.mp H
                              obtain ⟨t1023, A1130, H⟩ := H
                              replace H : (if t1023 < 0 then (some false) else ((laws_heldInt64S.f kj87 t1007 t1023).bind fun t1024 => (if t1024 < 0 then (some false) else (if t1024 = t1006 then (some true) else (some false))))) = some r := H
                              have A113 := Aside0.mk A1130
                              clear A1130
                              by_cases c114 : t1023 < 0
                              · rw [if_pos c114] at H
                                have c114b0 : decide (t1023 < 0) = true := decide_eq_true c114
                                clear c114
                                obtain rfl := Option.some.inj H
                                as_aux_lemma =>
                                  go_wp2_with (first | ((with_reducible refine gate_callee (f := 23) rfl ?_); refine goesL_ (some 132) rfl rfl Try.func23 (by kernel_rfl) rfl #[.slice Ao89 t1005.length co89, .int .i64 1] rfl (by (try simp only [List.map_toArray, List.map_cons, List.map_nil]); first | done | rfl | (simp only [List.length_drop, List.length_take]; rfl)) ?_; (with_reducible refine (laws_heldInt64S.calls kj87 _ _ t1005 1 t1023 _ ?side1 ?side2 A113.out).mono ?_); (case side1 => repeat (first | exact (Kd.R_reads' HO_12.out).2.2 | (with_reducible refine Kd.C_alloc ?_ _) | (with_reducible refine Kd.C_drewN ?_ _) | (with_reducible refine Kd.C_drew ?_))); (case side2 => exact (Kd.R_reads' HO_12.out).2.1); rintro e w' ⟨rfl, ⟨nd, rfl⟩⟩; refine ⟨_, rfl, ?_⟩))
                                  go_ret
                                  exact ⟨by first | rfl | (simp [errW_none, errW_some] <;> rfl) | (simp [*, errW_none, errW_some] <;> rfl), by repeat (first | (with_reducible first | exact HB.out | apply below_alloc | apply pw_below_drewN | apply below_drew1 | refine below_set ?_ GE968.out | refine below_set ?_ GE985.out) | exact HB.out)⟩
                              · rw [if_neg c114] at H
                                have c114b0 : decide (t1023 < 0) = false := decide_eq_false c114
                                clear c114
                                replace H := Option.bind_eq_some_iff.mp H
                                obtain ⟨t1024, A1150, H⟩ := H
                                replace H : (if t1024 < 0 then (some false) else (if t1024 = t1006 then (some true) else (some false))) = some r := H
                                have A115 := Aside0.mk A1150
                                clear A1150
                                by_cases c116 : t1024 < 0
                                · rw [if_pos c116] at H
                                  have c116b0 : decide (t1024 < 0) = true := decide_eq_true c116
                                  clear c116
                                  obtain rfl := Option.some.inj H
                                  as_aux_lemma =>
                                    go_wp2_with (first | ((with_reducible refine gate_callee (f := 23) rfl ?_); refine goesL_ (some 132) rfl rfl Try.func23 (by kernel_rfl) rfl #[.slice Ao89 t1005.length co89, .int .i64 1] rfl (by (try simp only [List.map_toArray, List.map_cons, List.map_nil]); first | done | rfl | (simp only [List.length_drop, List.length_take]; rfl)) ?_; (with_reducible refine (laws_heldInt64S.calls kj87 _ _ t1005 1 t1023 _ ?side1 ?side2 A113.out).mono ?_); (case side1 => repeat (first | exact (Kd.R_reads' HO_12.out).2.2 | (with_reducible refine Kd.C_alloc ?_ _) | (with_reducible refine Kd.C_drewN ?_ _) | (with_reducible refine Kd.C_drew ?_))); (case side2 => exact (Kd.R_reads' HO_12.out).2.1); rintro e w' ⟨rfl, ⟨nd, rfl⟩⟩; refine ⟨_, rfl, ?_⟩) | ((with_reducible refine gate_callee (f := 23) rfl ?_); refine goesL_ (some 137) rfl rfl Try.func23 (by kernel_rfl) rfl #[.slice Ao91 t1007.length co91, .int .i64 t1023] rfl (by (try simp only [List.map_toArray, List.map_cons, List.map_nil]); first | done | rfl | (simp only [List.length_drop, List.length_take]; rfl)) ?_; (with_reducible refine (laws_heldInt64S.calls kj87 _ _ t1007 t1023 t1024 _ ?side1 ?side2 A115.out).mono ?_); (case side1 => repeat (first | exact (Kd.R_reads' HO_13.out).2.2 | (with_reducible refine Kd.C_alloc ?_ _) | (with_reducible refine Kd.C_drewN ?_ _) | (with_reducible refine Kd.C_drew ?_))); (case side2 => exact (Kd.R_reads' HO_13.out).2.1); rintro e w' ⟨rfl, ⟨nd, rfl⟩⟩; refine ⟨_, rfl, ?_⟩))
                                    go_ret
                                    exact ⟨by first | rfl | (simp [errW_none, errW_some] <;> rfl) | (simp [*, errW_none, errW_some] <;> rfl), by repeat (first | (with_reducible first | exact HB.out | apply below_alloc | apply pw_below_drewN | apply below_drew1 | refine below_set ?_ GE968.out | refine below_set ?_ GE985.out) | exact HB.out)⟩
                                · rw [if_neg c116] at H
                                  have c116b0 : decide (t1024 < 0) = false := decide_eq_false c116
                                  clear c116
                                  by_cases c117 : t1024 = t1006
                                  · rw [if_pos c117] at H
                                    have c117b0 : (t1024 == t1006) = true := beq_iff_eq.mpr c117
                                    have c117b1 : (t1024 != t1006) = false := bne_eq_false_iff_eq.mpr c117
                                    clear c117
                                    obtain rfl := Option.some.inj H
                                    as_aux_lemma =>
                                      go_wp2_with (first | ((with_reducible refine gate_callee (f := 23) rfl ?_); refine goesL_ (some 132) rfl rfl Try.func23 (by kernel_rfl) rfl #[.slice Ao89 t1005.length co89, .int .i64 1] rfl (by (try simp only [List.map_toArray, List.map_cons, List.map_nil]); first | done | rfl | (simp only [List.length_drop, List.length_take]; rfl)) ?_; (with_reducible refine (laws_heldInt64S.calls kj87 _ _ t1005 1 t1023 _ ?side1 ?side2 A113.out).mono ?_); (case side1 => repeat (first | exact (Kd.R_reads' HO_12.out).2.2 | (with_reducible refine Kd.C_alloc ?_ _) | (with_reducible refine Kd.C_drewN ?_ _) | (with_reducible refine Kd.C_drew ?_))); (case side2 => exact (Kd.R_reads' HO_12.out).2.1); rintro e w' ⟨rfl, ⟨nd, rfl⟩⟩; refine ⟨_, rfl, ?_⟩) | ((with_reducible refine gate_callee (f := 23) rfl ?_); refine goesL_ (some 137) rfl rfl Try.func23 (by kernel_rfl) rfl #[.slice Ao91 t1007.length co91, .int .i64 t1023] rfl (by (try simp only [List.map_toArray, List.map_cons, List.map_nil]); first | done | rfl | (simp only [List.length_drop, List.length_take]; rfl)) ?_; (with_reducible refine (laws_heldInt64S.calls kj87 _ _ t1007 t1023 t1024 _ ?side1 ?side2 A115.out).mono ?_); (case side1 => repeat (first | exact (Kd.R_reads' HO_13.out).2.2 | (with_reducible refine Kd.C_alloc ?_ _) | (with_reducible refine Kd.C_drewN ?_ _) | (with_reducible refine Kd.C_drew ?_))); (case side2 => exact (Kd.R_reads' HO_13.out).2.1); rintro e w' ⟨rfl, ⟨nd, rfl⟩⟩; refine ⟨_, rfl, ?_⟩))
                                      go_ret
                                      exact ⟨by first | rfl | (simp [errW_none, errW_some] <;> rfl) | (simp [*, errW_none, errW_some] <;> rfl), by repeat (first | (with_reducible first | exact HB.out | apply below_alloc | apply pw_below_drewN | apply below_drew1 | refine below_set ?_ GE968.out | refine below_set ?_ GE985.out) | exact HB.out)⟩
                                  · rw [if_neg c117] at H
                                    have c117b0 : (t1024 == t1006) = false := beq_eq_false_iff_ne.mpr c117
                                    have c117b1 : (t1024 != t1006) = true := bne_iff_ne.mpr c117
                                    obtain rfl := Option.some.inj H
                                    as_aux_lemma =>
                                      go_wp2_with (first | ((with_reducible refine gate_callee (f := 23) rfl ?_); refine goesL_ (some 132) rfl rfl Try.func23 (by kernel_rfl) rfl #[.slice Ao89 t1005.length co89, .int .i64 1] rfl (by (try simp only [List.map_toArray, List.map_cons, List.map_nil]); first | done | rfl | (simp only [List.length_drop, List.length_take]; rfl)) ?_; (with_reducible refine (laws_heldInt64S.calls kj87 _ _ t1005 1 t1023 _ ?side1 ?side2 A113.out).mono ?_); (case side1 => repeat (first | exact (Kd.R_reads' HO_12.out).2.2 | (with_reducible refine Kd.C_alloc ?_ _) | (with_reducible refine Kd.C_drewN ?_ _) | (with_reducible refine Kd.C_drew ?_))); (case side2 => exact (Kd.R_reads' HO_12.out).2.1); rintro e w' ⟨rfl, ⟨nd, rfl⟩⟩; refine ⟨_, rfl, ?_⟩) | ((with_reducible refine gate_callee (f := 23) rfl ?_); refine goesL_ (some 137) rfl rfl Try.func23 (by kernel_rfl) rfl #[.slice Ao91 t1007.length co91, .int .i64 t1023] rfl (by (try simp only [List.map_toArray, List.map_cons, List.map_nil]); first | done | rfl | (simp only [List.length_drop, List.length_take]; rfl)) ?_; (with_reducible refine (laws_heldInt64S.calls kj87 _ _ t1007 t1023 t1024 _ ?side1 ?side2 A115.out).mono ?_); (case side1 => repeat (first | exact (Kd.R_reads' HO_13.out).2.2 | (with_reducible refine Kd.C_alloc ?_ _) | (with_reducible refine Kd.C_drewN ?_ _) | (with_reducible refine Kd.C_drew ?_))); (case side2 => exact (Kd.R_reads' HO_13.out).2.1); rintro e w' ⟨rfl, ⟨nd, rfl⟩⟩; refine ⟨_, rfl, ?_⟩))
                                      go_ret
                                      exact ⟨by first | rfl | (simp [errW_none, errW_some] <;> rfl) | (simp [*, errW_none, errW_some] <;> rfl), by repeat (first | (with_reducible first | exact HB.out | apply below_alloc | apply pw_below_drewN | apply below_drew1 | refine below_set ?_ GE968.out | refine below_set ?_ GE985.out) | exact HB.out)⟩
                      · rw [if_neg c85] at H
                        have c85b0 : (t1009 == t1006) = false := beq_eq_false_iff_ne.mpr c85
                        have c85b1 : (t1009 != t1006) = true := bne_iff_ne.mpr c85
                        obtain rfl := Option.some.inj H
                        obtain ⟨Ao118, co118, eo118⟩ := Kd.R_slice HO_12.out
                        subst eo118
                        as_aux_lemma =>
                          go_wp2_with (first | ((with_reducible refine gate_callee (f := 22) rfl ?_); refine goesL_ (some 89) rfl rfl Try.func22 (by kernel_rfl) rfl #[.slice Ao118 t986.length co118, .int .i64 1] rfl (by (try simp only [List.map_toArray, List.map_cons, List.map_nil]); first | done | rfl | (simp only [List.length_drop, List.length_take]; rfl)) ?_; (with_reducible refine (laws_markInt64S.calls kj46 (fun k_ => some k_ = (.slice Ao118 t986.length co118 : Value).ownBlock) (.slice Ao118 t986.length co118) t986 1 t1004 t1005 w _ ?side1 ?side2 A71.out).mono ?_); (case side1 => repeat (first | (with_reducible first | exact HB.out | apply below_alloc | apply pw_below_drewN | apply below_drew1 | refine below_set ?_ GE968.out | refine below_set ?_ GE985.out) | exact HB.out)); (case side2 => exact Kd.R_tight rfl HO_12.out); rintro e w119 ⟨rfl, hy0, hb, hkp⟩; refine ⟨_, rfl, ?_⟩; have n0_ := Aside0.mk (Kd.R_mono (ok' := fun k_ => some k_ ≠ (v978 : Value).ownBlock ∧ some k_ ≠ (.slice Ao118 t986.length co118 : Value).ownBlock ∧ some k_ ≠ (v990 : Value).ownBlock ∧ some k_ ≠ (.slice Ao26 t1001.length co26 : Value).ownBlock) (Kd.R_keptB (HO_8.out) hkp (fun k_ hk_ hs_ => (hk_.2.1) hs_)) (fun k_ hk_ => ⟨hk_.1.1, hk_.1.2.1, hk_.1.2.2.1, hk_.1.2.2.2⟩)); have n1_ := Aside0.mk (Kd.R_mono (ok' := fun k_ => some k_ ≠ (v975 : Value).ownBlock ∧ some k_ ≠ (.slice Ao118 t986.length co118 : Value).ownBlock ∧ some k_ ≠ (v990 : Value).ownBlock ∧ some k_ ≠ (.slice Ao26 t1001.length co26 : Value).ownBlock) (Kd.R_keptB (HO_9.out) hkp (fun k_ hk_ hs_ => (hk_.2.1) hs_)) (fun k_ hk_ => ⟨hk_.1.1, hk_.1.2.1, hk_.1.2.2.1, hk_.1.2.2.2⟩)); have n2_ := Aside0.mk (Kd.R_reok rfl hy0 (fun k_ e_ => HO_12.out.1 k_ e_)); have n3_ := Aside0.mk (Kd.R_mono (ok' := fun k_ => some k_ ≠ (v975 : Value).ownBlock ∧ some k_ ≠ (v978 : Value).ownBlock ∧ some k_ ≠ (.slice Ao118 t986.length co118 : Value).ownBlock ∧ some k_ ≠ (.slice Ao26 t1001.length co26 : Value).ownBlock) (Kd.R_keptB (HO_13.out) hkp (fun k_ hk_ hs_ => (hk_.2.2.1) hs_)) (fun k_ hk_ => ⟨hk_.1.1, hk_.1.2.1, hk_.1.2.2.1, hk_.1.2.2.2⟩)); have n4_ := Aside0.mk (Kd.R_mono (ok' := fun k_ => some k_ ≠ (v975 : Value).ownBlock ∧ some k_ ≠ (v978 : Value).ownBlock ∧ some k_ ≠ (.slice Ao118 t986.length co118 : Value).ownBlock ∧ some k_ ≠ (v990 : Value).ownBlock) (Kd.R_keptB (HO_986001.out) hkp (fun k_ hk_ hs_ => (hk_.2.2.1) hs_)) (fun k_ hk_ => ⟨hk_.1.1, hk_.1.2.1, hk_.1.2.2.1, hk_.1.2.2.2⟩)); have n5_ := Aside0.mk (blk_kept (by (with_reducible repeat (first | refine blk_drewN ?_ _ | refine blk_drew ?_ | refine blk_alloc ?_ _)); exact BK968.out) hkp (fun hs_ => (fun e_ => (Kd.R_ne HO_12.out BK968.out (by decide)) e_) hs_)); have n6_ := Aside0.mk (blk_kept (by (with_reducible repeat (first | refine blk_drewN ?_ _ | refine blk_drew ?_ | refine blk_alloc ?_ _)); exact BK985.out) hkp (fun hs_ => (fun e_ => (Kd.R_ne HO_12.out BK985.out (by decide)) e_) hs_)); have n7_ := Aside0.mk (hb); clear HO_8; clear HO_9; clear HO_12; clear HO_13; clear HO_986001; clear BK968; clear BK985; clear HB; have HO_8 := n0_; have HO_9 := n1_; have HO_12 := n2_; have HO_13 := n3_; have HO_986001 := n4_; have BK968 := n5_; have BK985 := n6_; have HB := n7_; clear n0_ n1_ n2_ n3_ n4_ n5_ n6_ n7_; (try clear hb); (try clear hkp); (try clear hy0); obtain ⟨Ao120, co120, eo120⟩ := Kd.R_slice HO_13.out; subst eo120) | ((with_reducible refine gate_callee (f := 22) rfl ?_); refine goesL_ (some 92) rfl rfl Try.func22 (by kernel_rfl) rfl #[.slice Ao120 t989.length co120, .int .i64 t1004] rfl (by (try simp only [List.map_toArray, List.map_cons, List.map_nil]); first | done | rfl | (simp only [List.length_drop, List.length_take]; rfl)) ?_; (with_reducible refine (laws_markInt64S.calls kj46 (fun k_ => some k_ = (.slice Ao120 t989.length co120 : Value).ownBlock) (.slice Ao120 t989.length co120) t989 t1004 t1006 t1007 w _ ?side1 ?side2 A72.out).mono ?_); (case side1 => repeat (first | (with_reducible first | exact HB.out | apply below_alloc | apply pw_below_drewN | apply below_drew1 | refine below_set ?_ GE968.out | refine below_set ?_ GE985.out) | exact HB.out)); (case side2 => exact Kd.R_tight rfl HO_13.out); rintro e w121 ⟨rfl, hy0, hb, hkp⟩; refine ⟨_, rfl, ?_⟩; have n0_ := Aside0.mk (Kd.R_mono (ok' := fun k_ => some k_ ≠ (v978 : Value).ownBlock ∧ some k_ ≠ (.slice Ao118 t986.length co118 : Value).ownBlock ∧ some k_ ≠ (.slice Ao120 t989.length co120 : Value).ownBlock ∧ some k_ ≠ (.slice Ao26 t1001.length co26 : Value).ownBlock) (Kd.R_keptB (HO_8.out) hkp (fun k_ hk_ hs_ => (hk_.2.2.1) hs_)) (fun k_ hk_ => ⟨hk_.1.1, hk_.1.2.1, hk_.1.2.2.1, hk_.1.2.2.2⟩)); have n1_ := Aside0.mk (Kd.R_mono (ok' := fun k_ => some k_ ≠ (v975 : Value).ownBlock ∧ some k_ ≠ (.slice Ao118 t986.length co118 : Value).ownBlock ∧ some k_ ≠ (.slice Ao120 t989.length co120 : Value).ownBlock ∧ some k_ ≠ (.slice Ao26 t1001.length co26 : Value).ownBlock) (Kd.R_keptB (HO_9.out) hkp (fun k_ hk_ hs_ => (hk_.2.2.1) hs_)) (fun k_ hk_ => ⟨hk_.1.1, hk_.1.2.1, hk_.1.2.2.1, hk_.1.2.2.2⟩)); have n2_ := Aside0.mk (Kd.R_mono (ok' := fun k_ => some k_ ≠ (v975 : Value).ownBlock ∧ some k_ ≠ (v978 : Value).ownBlock ∧ some k_ ≠ (.slice Ao120 t989.length co120 : Value).ownBlock ∧ some k_ ≠ (.slice Ao26 t1001.length co26 : Value).ownBlock) (Kd.R_keptB (HO_12.out) hkp (fun k_ hk_ hs_ => (hk_.2.2.1) hs_)) (fun k_ hk_ => ⟨hk_.1.1, hk_.1.2.1, hk_.1.2.2.1, hk_.1.2.2.2⟩)); have n3_ := Aside0.mk (Kd.R_reok rfl hy0 (fun k_ e_ => HO_13.out.1 k_ e_)); have n4_ := Aside0.mk (Kd.R_mono (ok' := fun k_ => some k_ ≠ (v975 : Value).ownBlock ∧ some k_ ≠ (v978 : Value).ownBlock ∧ some k_ ≠ (.slice Ao118 t986.length co118 : Value).ownBlock ∧ some k_ ≠ (.slice Ao120 t989.length co120 : Value).ownBlock) (Kd.R_keptB (HO_986001.out) hkp (fun k_ hk_ hs_ => (hk_.2.2.2) hs_)) (fun k_ hk_ => ⟨hk_.1.1, hk_.1.2.1, hk_.1.2.2.1, hk_.1.2.2.2⟩)); have n5_ := Aside0.mk (blk_kept (by (with_reducible repeat (first | refine blk_drewN ?_ _ | refine blk_drew ?_ | refine blk_alloc ?_ _)); exact BK968.out) hkp (fun hs_ => (fun e_ => (Kd.R_ne HO_13.out BK968.out (by decide)) e_) hs_)); have n6_ := Aside0.mk (blk_kept (by (with_reducible repeat (first | refine blk_drewN ?_ _ | refine blk_drew ?_ | refine blk_alloc ?_ _)); exact BK985.out) hkp (fun hs_ => (fun e_ => (Kd.R_ne HO_13.out BK985.out (by decide)) e_) hs_)); have n7_ := Aside0.mk (hb); clear HO_8; clear HO_9; clear HO_12; clear HO_13; clear HO_986001; clear BK968; clear BK985; clear HB; have HO_8 := n0_; have HO_9 := n1_; have HO_12 := n2_; have HO_13 := n3_; have HO_986001 := n4_; have BK968 := n5_; have BK985 := n6_; have HB := n7_; clear n0_ n1_ n2_ n3_ n4_ n5_ n6_ n7_; (try clear hb); (try clear hkp); (try clear hy0)) | ((with_reducible refine gate_callee (f := 23) rfl ?_); refine goesL_ (some 95) rfl rfl Try.func23 (by kernel_rfl) rfl #[.slice Ao118 t1005.length co118, .int .i64 1] rfl (by (try simp only [List.map_toArray, List.map_cons, List.map_nil]); first | done | (rw [show t1005.length = t986.length from (Kd.R_reads' HO_12.out).1.symm] <;> rfl) | rfl | (simp only [List.length_drop, List.length_take]; rfl)) ?_; (with_reducible refine (laws_heldInt64S.calls kj46 _ _ t1005 1 t1008 _ ?side1 ?side2 A73.out).mono ?_); (case side1 => repeat (first | exact (Kd.R_reads' HO_12.out).2.2 | (with_reducible refine Kd.C_alloc ?_ _) | (with_reducible refine Kd.C_drewN ?_ _) | (with_reducible refine Kd.C_drew ?_))); (case side2 => rw [show t1005.length = t986.length from (Kd.R_reads' HO_12.out).1.symm]; exact (Kd.R_reads' HO_12.out).2.1); rintro e w' ⟨rfl, ⟨nd, rfl⟩⟩; refine ⟨_, rfl, ?_⟩) | ((with_reducible refine gate_callee (f := 23) rfl ?_); refine goesL_ (some 100) rfl rfl Try.func23 (by kernel_rfl) rfl #[.slice Ao120 t1007.length co120, .int .i64 t1008] rfl (by (try simp only [List.map_toArray, List.map_cons, List.map_nil]); first | done | (rw [show t1007.length = t989.length from (Kd.R_reads' HO_13.out).1.symm] <;> rfl) | rfl | (simp only [List.length_drop, List.length_take]; rfl)) ?_; (with_reducible refine (laws_heldInt64S.calls kj46 _ _ t1007 t1008 t1009 _ ?side1 ?side2 A79.out).mono ?_); (case side1 => repeat (first | exact (Kd.R_reads' HO_13.out).2.2 | (with_reducible refine Kd.C_alloc ?_ _) | (with_reducible refine Kd.C_drewN ?_ _) | (with_reducible refine Kd.C_drew ?_))); (case side2 => rw [show t1007.length = t989.length from (Kd.R_reads' HO_13.out).1.symm]; exact (Kd.R_reads' HO_13.out).2.1); rintro e w' ⟨rfl, ⟨nd, rfl⟩⟩; refine ⟨_, rfl, ?_⟩))
                          go_ret
                          exact ⟨by first | rfl | (simp [errW_none, errW_some] <;> rfl) | (simp [*, errW_none, errW_some] <;> rfl), by repeat (first | (with_reducible first | exact HB.out | apply below_alloc | apply pw_below_drewN | apply below_drew1 | refine below_set ?_ GE968.out | refine below_set ?_ GE985.out) | exact HB.out)⟩
          · replace c45 := Bool.eq_false_iff.mpr c45
            subst c45
            have H1 : (some false) = some r := by rw [if_neg (show ¬ (false = true) by decide)] at H; exact H
            clear H
            have H := H1
            clear H1
            obtain rfl := Option.some.inj H
            try go_wp2
            have n0_ := Aside0.mk (Kd.R_drew HO_8.out)
            have n1_ := Aside0.mk (Kd.R_drew HO_9.out)
            have n2_ := Aside0.mk (Kd.R_drew HO_12.out)
            have n3_ := Aside0.mk (Kd.R_drew HO_13.out)
            have n4_ := Aside0.mk (Kd.R_drew HO_986001.out)
            have n5_ := Aside0.mk (blk_drew BK968.out)
            have n6_ := Aside0.mk (blk_drew BK985.out)
            have n7_ := Aside0.mk (below_drew1 HB.out)
            clear HO_8
            clear HO_9
            clear HO_12
            clear HO_13
            clear HO_986001
            clear BK968
            clear BK985
            clear HB
            have HO_8 := n0_
            have HO_9 := n1_
            have HO_12 := n2_
            have HO_13 := n3_
            have HO_986001 := n4_
            have BK968 := n5_
            have BK985 := n6_
            have HB := n7_
            clear n0_ n1_ n2_ n3_ n4_ n5_ n6_ n7_
            refine start_ (n := 5) (S := fun w' => w'.cell? ⟨gb985, 0, none⟩ = some (.int .i64 t981) ∧ w'.cell? ⟨gb985, 1, none⟩ = some (.slice Ao26 t982.length co26) ∧ w'.cell? ⟨gb968, 0, none⟩ = some (.int .i64 a0_0) ∧ w'.cell? ⟨gb968, 1, none⟩ = some (.slice A0_1 l0_1.length c0_1)) (ds := []) #[false, false, false, false, false] (by kernel_rfl) rfl rfl ⟨(blk_cell BK985.out 0).trans rfl, (blk_cell BK985.out 1).trans rfl, (blk_cell BK968.out 0).trans rfl, (blk_cell BK968.out 1).trans rfl⟩ (fun hHeld => ?_)
            generalize wc.drew = w122 at HO_8 HO_9 HO_12 HO_13 HO_986001 BK968 BK985 HB hHeld ⊢
            refine take_ (i := 0) (N := some 60) (v := ?_) (a' := ?_) #[true, false, false, false, false] rfl rfl (by kernel_rfl) (fun _ _ _ h => h) (Or.inl ⟨by rfl, ?_⟩) hHeld ?_ ?_
            rotate_left
            · rintro w' ⟨s0, s1, s2, s3⟩
              go_simp
              with_reducible rfl
            rotate_left
            · simp only [Act.put, List.setIfInBounds_toArray, List.set_cons_zero, List.set_cons_succ, i64_w, i32_w]
              rfl
            refine take_ (i := 1) (N := some 61) (v := ?_) (a' := ?_) #[true, true, false, false, false] rfl rfl (by kernel_rfl) (fun _ _ _ h => h) (Or.inl ⟨by rfl, ?_⟩) hHeld ?_ ?_
            rotate_left
            · rintro w' ⟨s0, s1, s2, s3⟩
              go_simp
              with_reducible rfl
            rotate_left
            · simp only [Act.put, List.setIfInBounds_toArray, List.set_cons_zero, List.set_cons_succ, i64_w, i32_w]
              rfl
            refine one_ (i := 2) (N := some 62) #[true, true, true, false, false] rfl rfl (by kernel_rfl) (by decide) (fun K hK => ?_)
            refine goes_ Try.func17 (by kernel_rfl) rfl #[.agg #[.int .i64 a0_0, .slice A0_1 l0_1.length c0_1]] (by rfl) rfl rfl (by (try simp only [List.map_toArray, List.map_cons, List.map_nil]); first | done | rfl | (simp only [List.length_drop, List.length_take]; rfl)) ?_
            with_reducible refine (laws_toValues.calls kj12 a0_0 _ _ l0_1 t995 t996 _ ?side1 ?side2 A43.out).mono ?_
            (case side1 => repeat (first | exact (Kd.C_below HR0_1.out HB.out) | (with_reducible refine Kd.C_alloc ?_ _) | (with_reducible refine Kd.C_drewN ?_ _) | (with_reducible refine Kd.C_drew ?_)))
            (case side2 => exact HC0_1.out)
            rintro e w123 ⟨v997, rfl, ho0, hb⟩
            refine ⟨_, rfl, ?_⟩
            have n0_ := Aside0.mk (Kd.R_elder' (by (with_reducible repeat (first | apply Kd.R_alloc | apply Kd.R_drewN | apply Kd.R_drew)); exact HO_8.out) (Kd.R_base ho0) hb)
            have n1_ := Aside0.mk (Kd.R_elder' (by (with_reducible repeat (first | apply Kd.R_alloc | apply Kd.R_drewN | apply Kd.R_drew)); exact HO_9.out) (Kd.R_base ho0) hb)
            have n2_ := Aside0.mk (Kd.R_elder' (by (with_reducible repeat (first | apply Kd.R_alloc | apply Kd.R_drewN | apply Kd.R_drew)); exact HO_12.out) (Kd.R_base ho0) hb)
            have n3_ := Aside0.mk (Kd.R_elder' (by (with_reducible repeat (first | apply Kd.R_alloc | apply Kd.R_drewN | apply Kd.R_drew)); exact HO_13.out) (Kd.R_base ho0) hb)
            have n4_ := Aside0.mk (Kd.R_elder' (by (with_reducible repeat (first | apply Kd.R_alloc | apply Kd.R_drewN | apply Kd.R_drew)); exact HO_986001.out) (Kd.R_base ho0) hb)
            have n5_ := Aside0.mk (Kd.R_lower (Kd.R_new' (Kd.R_new' (Kd.R_new' (Kd.R_new' (Kd.R_new' ho0 (Kd.R_lt (by (with_reducible repeat (first | apply Kd.R_alloc | apply Kd.R_drewN | apply Kd.R_drew)); exact HO_8.out))) (Kd.R_lt (by (with_reducible repeat (first | apply Kd.R_alloc | apply Kd.R_drewN | apply Kd.R_drew)); exact HO_9.out))) (Kd.R_lt (by (with_reducible repeat (first | apply Kd.R_alloc | apply Kd.R_drewN | apply Kd.R_drew)); exact HO_12.out))) (Kd.R_lt (by (with_reducible repeat (first | apply Kd.R_alloc | apply Kd.R_drewN | apply Kd.R_drew)); exact HO_13.out))) (Kd.R_lt (by (with_reducible repeat (first | apply Kd.R_alloc | apply Kd.R_drewN | apply Kd.R_drew)); exact HO_986001.out))) (below_size (by repeat (first | (with_reducible first | exact HB.out | apply below_alloc | apply pw_below_drewN | apply below_drew1 | refine below_set ?_ GE968.out | refine below_set ?_ GE985.out) | exact HB.out))))
            have n6_ := Aside0.mk (blk_below (g := gb968) (o := .cells #[.int .i64 a0_0, .slice A0_1 l0_1.length c0_1] 24 (0, 0)) (by (with_reducible repeat (first | refine blk_drewN ?_ _ | refine blk_drew ?_ | refine blk_alloc ?_ _)); exact BK968.out) hb)
            have n7_ := Aside0.mk (blk_below (g := gb985) (o := .cells #[.int .i64 t981, .slice Ao26 t982.length co26] 28 (0, 0)) (by (with_reducible repeat (first | refine blk_drewN ?_ _ | refine blk_drew ?_ | refine blk_alloc ?_ _)); exact BK985.out) hb)
            have n8_ := Aside0.mk (below_step (by repeat (first | (with_reducible first | exact HB.out | apply below_alloc | apply pw_below_drewN | apply below_drew1 | refine below_set ?_ GE968.out | refine below_set ?_ GE985.out) | exact HB.out)) hb)
            clear HO_8
            clear HO_9
            clear HO_12
            clear HO_13
            clear HO_986001
            clear BK968
            clear BK985
            clear HB
            have HO_8 := n0_
            have HO_9 := n1_
            have HO_12 := n2_
            have HO_13 := n3_
            have HO_986001 := n4_
            have HO998 := n5_
            have BK968 := n6_
            have BK985 := n7_
            have HB := n8_
            clear n0_ n1_ n2_ n3_ n4_ n5_ n6_ n7_ n8_
            (try clear hb)
            (try clear hb2)
            (try clear hk)
            (try clear hi)
            (try clear ho0)
            obtain ⟨Ao124, co124, eo124⟩ := Kd.R_slice HO998.out
            (first | subst eo124 | (injection eo124 with f1_ f2_ f3_; have f4_ := f1_.symm; have f5_ := f3_.symm; clear f1_ f2_ f3_; subst f4_; subst f5_))
            refine hK.out _ _ ⟨(blk_cell BK985.out 0).trans rfl, (blk_cell BK985.out 1).trans rfl, (blk_cell BK968.out 0).trans rfl, (blk_cell BK968.out 1).trans rfl⟩ (fun hHeld => ?_)
            clear hK K
            refine norm_ (a' := ?_) ?_ ?_
            rotate_left
            · show Act.put _ (some 62) _ = _
              simp only [Act.put, List.setIfInBounds_toArray, List.set_cons_zero, List.set_cons_succ, i64_w, i32_w]
              rfl
            refine one_ (i := 3) (N := some 63) #[true, true, true, true, false] rfl rfl (by kernel_rfl) (by decide) (fun K hK => ?_)
            refine goes_ Try.func20 (by kernel_rfl) rfl #[.agg #[.int .i64 t981, .slice Ao26 t982.length co26], .agg #[.int .i64 t995, .slice Ao124 t996.length co124]] (by rfl) rfl rfl (by (try simp only [List.map_toArray, List.map_cons, List.map_nil]); first | done | rfl | (simp only [List.length_drop, List.length_take]; rfl)) ?_
            with_reducible refine (laws_eqValues.calls kj12 t981 _ _ t982 t995 _ _ t996 false _ ?side1 ?side2 ?side3 ?side4 A44.out).mono ?_
            (case side1 => repeat (first | exact (Kd.R_reads' HO_986001.out).2.2 | (with_reducible refine Kd.C_alloc ?_ _) | (with_reducible refine Kd.C_drewN ?_ _) | (with_reducible refine Kd.C_drew ?_)))
            (case side2 => exact (Kd.R_reads' HO_986001.out).2.1)
            (case side3 => repeat (first | exact (Kd.R_reads' HO998.out).2.2 | (with_reducible refine Kd.C_alloc ?_ _) | (with_reducible refine Kd.C_drewN ?_ _) | (with_reducible refine Kd.C_drew ?_)))
            (case side4 => exact (Kd.R_reads' HO998.out).2.1)
            rintro e w125 ⟨rfl, hb⟩
            refine ⟨_, rfl, ?_⟩
            have n0_ := Aside0.mk (Kd.R_below (by (with_reducible repeat (first | apply Kd.R_alloc | apply Kd.R_drewN | apply Kd.R_drew)); exact HO_8.out) hb)
            have n1_ := Aside0.mk (Kd.R_below (by (with_reducible repeat (first | apply Kd.R_alloc | apply Kd.R_drewN | apply Kd.R_drew)); exact HO_9.out) hb)
            have n2_ := Aside0.mk (Kd.R_below (by (with_reducible repeat (first | apply Kd.R_alloc | apply Kd.R_drewN | apply Kd.R_drew)); exact HO_12.out) hb)
            have n3_ := Aside0.mk (Kd.R_below (by (with_reducible repeat (first | apply Kd.R_alloc | apply Kd.R_drewN | apply Kd.R_drew)); exact HO_13.out) hb)
            have n4_ := Aside0.mk (Kd.R_below (by (with_reducible repeat (first | apply Kd.R_alloc | apply Kd.R_drewN | apply Kd.R_drew)); exact HO_986001.out) hb)
            have n5_ := Aside0.mk (Kd.R_below (by (with_reducible repeat (first | apply Kd.R_alloc | apply Kd.R_drewN | apply Kd.R_drew)); exact HO998.out) hb)
            have n6_ := Aside0.mk (blk_below (g := gb968) (o := .cells #[.int .i64 a0_0, .slice A0_1 l0_1.length c0_1] 24 (0, 0)) (by (with_reducible repeat (first | refine blk_drewN ?_ _ | refine blk_drew ?_ | refine blk_alloc ?_ _)); exact BK968.out) hb)
            have n7_ := Aside0.mk (blk_below (g := gb985) (o := .cells #[.int .i64 t981, .slice Ao26 t982.length co26] 28 (0, 0)) (by (with_reducible repeat (first | refine blk_drewN ?_ _ | refine blk_drew ?_ | refine blk_alloc ?_ _)); exact BK985.out) hb)
            have n8_ := Aside0.mk (below_step (by repeat (first | (with_reducible first | exact HB.out | apply below_alloc | apply pw_below_drewN | apply below_drew1 | refine below_set ?_ GE968.out | refine below_set ?_ GE985.out) | exact HB.out)) hb)
            clear HO_8
            clear HO_9
            clear HO_12
            clear HO_13
            clear HO_986001
            clear HO998
            clear BK968
            clear BK985
            clear HB
            have HO_8 := n0_
            have HO_9 := n1_
            have HO_12 := n2_
            have HO_13 := n3_
            have HO_986001 := n4_
            have HO998 := n5_
            have BK968 := n6_
            have BK985 := n7_
            have HB := n8_
            clear n0_ n1_ n2_ n3_ n4_ n5_ n6_ n7_ n8_
            (try clear hb)
            (try clear hb2)
            (try clear hk)
            (try clear hi)
            refine hK.out _ _ ⟨(blk_cell BK985.out 0).trans rfl, (blk_cell BK985.out 1).trans rfl, (blk_cell BK968.out 0).trans rfl, (blk_cell BK968.out 1).trans rfl⟩ (fun hHeld => ?_)
            clear hK K
            refine norm_ (a' := ?_) ?_ ?_
            rotate_left
            · show Act.put _ (some 63) _ = _
              simp only [Act.put, List.setIfInBounds_toArray, List.set_cons_zero, List.set_cons_succ, i64_w, i32_w]
              rfl
            refine pure_ (i := 4) (N := some 64) (v := ?_) (a' := ?_) #[true, true, true, true, true] rfl rfl (by kernel_rfl) (fun _ _ _ h => h) (Or.inl ⟨by rfl, ?_⟩) ?_ ?_
            rotate_left
            · intro w'
              go_simp
              with_reducible rfl
            rotate_left
            · simp only [Act.put, List.setIfInBounds_toArray, List.set_cons_zero, List.set_cons_succ, i64_w, i32_w]
              rfl
            refine done_ (by kernel_rfl) ?_
            try go_wp2
            go_ret
            exact ⟨by first | rfl | (simp [errW_none, errW_some] <;> rfl) | (simp [*, errW_none, errW_some] <;> rfl), by repeat (first | (with_reducible first | exact HB.out | apply below_alloc | apply pw_below_drewN | apply below_drew1 | refine below_set ?_ GE968.out | refine below_set ?_ GE985.out) | exact HB.out)⟩

/-- THE ONE PURE STATEMENT of laws_FnExactSecondOf: ours. -/
def laws_FnExactSecondOf.Pure : Prop := ∀ (a0_0 : Int) (l0_1 : List Int) (a1 : Int) (a2 : Int), (Lit.int .i64 a0_0).wf = true → l0_1.length ≤ maxLen → (∀ x ∈ l0_1, (Lit.int .i64 x).wf = true) → (Lit.int .i64 a1).wf = true → (Lit.int .i64 a2).wf = true → ∃ k, laws_FnExactSecondOf.f k a0_0 l0_1 a1 a2 = some true
theorem laws_FnExactSecondOf.walk (P : laws_FnExactSecondOf.Pure) (a0_0 : Int) (A0_1 : Option Addr) (len0_1 cap0_1 : Nat) (z0_1 : List Int) (a1 : Int) (a2 : Int) (w : World) (w0_0 : (Lit.int .i64 a0_0).wf = true) (w0_1 : (A0_1 = none ∧ len0_1 = 0 ∧ cap0_1 = 0 ∧ z0_1 = []) ∨ ∃ x, A0_1 = some x ∧ len0_1 ≤ cap0_1 ∧ cap0_1 ≤ maxLen ∧ z0_1.length = cap0_1 ∧ (∀ i, i < z0_1.length → w.cell? (x.add i) = some (.int .i64 (z0_1.getD i 0))) ∧ ∀ n ∈ z0_1, (Lit.int .i64 n).wf = true) (w1 : (Lit.int .i64 a1).wf = true) (w2 : (Lit.int .i64 a2).wf = true) :
    Calls Try.prog 12 #[.agg #[.int .i64 a0_0, .slice A0_1 len0_1 cap0_1], .int .i64 a1, .int .i64 a2] w fun e w' => e = .returned (.bool true) ∧ Below w.heap.size w w' := by
  obtain ⟨l0_1, rfl, hr0_1, hm0_1, hw0_1, hc0_1⟩ := ReadsInt.ofRowC w0_1
  obtain ⟨k, h⟩ := P a0_0 l0_1 a1 a2 w0_0 hm0_1 hw0_1 w1 w2
  refine (laws_FnExactSecondOf.calls k a0_0 _ _ l0_1 a1 a2 true w (Kd.C_of_reads (d := (0 : Int)) (h1 := fun _ => rfl) hr0_1) hc0_1 h).mono ?_
  rintro e w' ⟨rfl, hd⟩
  exact ⟨rfl, hd⟩

end Go.Proofs.Ytnjehjkacicamaa.P
