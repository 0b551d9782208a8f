-- Written by gen.py (wip/gen of this repo) over the kit's print: not trusted, Lean checks it.
import Derived.Test.YtnibakbjbijghaaP0
import Derived.Test.YtnibakbjbijghaaP12xFnSeatsGiven
import Derived.Test.YtnibakbjbijghaaP15xFnSeatsGiven
import Derived.Test.YtnibakbjbijghaaP16xFnSeatsGiven
import Derived.Test.YtnibakbjbijghaaP17xFnSeatsGiven
import Derived.Test.YtnibakbjbijghaaP18xFnSeatsGiven
namespace Go.Proofs.Ytnibakbjbijghaa.P
open Go.RowKit Go.Proofs.YtnibakbjbijghaaW.PrintWords Go.Proofs.YtnibakbjbijghaaW.PrintLast Go.Proofs.YtnibakbjbijghaaW.PrintMore
attribute [local go_sem] max2_int min2_int max_two min_two max_three min_three max_four min_four   -- for this text's walks alone
set_option linter.unusedVariables false
set_option linter.unusedSimpArgs false

/-! ### laws_FnSeatsGiven: function 14 -/
mutual
def laws_FnSeatsGiven.j0 : Nat → List Int → List Int → List Int → Bool → Option (Bool)
  | 0, _, _, _, _ => none
  | k + 1, x5, x8, x10, x75 => if x75 = true then (some false) else (laws_FnSeatsGiven.l0 k x5 x8 x10 0 0)
def laws_FnSeatsGiven.l0 : Nat → List Int → List Int → List Int → Int → Int → Option (Bool)
  | 0, _, _, _, _, _ => none
  | k + 1, x5, x8, x10, x12, x13 => if x13 < (x8.length : Int) then (if 0 ≤ x13 then (if x13 < (x10.length : Int) then (if (rd x10 x13) = (wrap64 ((rd x8 x13) + 1)) then (if x13 < (x5.length : Int) then (if (rd x5 x13) = 0 then (if (rd x8 x13) > 0 then (some false) else (laws_FnSeatsGiven.l0 k x5 x8 x10 (wrap64 (x12 + 1)) (wrap64 (x13 + 1)))) else (laws_FnSeatsGiven.l0 k x5 x8 x10 (wrap64 (x12 + 1)) (wrap64 (x13 + 1)))) else (none)) else (if (rd x10 x13) = (rd x8 x13) then (if x13 < (x5.length : Int) then (if (rd x5 x13) = 0 then (if (rd x8 x13) > 0 then (some false) else (laws_FnSeatsGiven.l0 k x5 x8 x10 x12 (wrap64 (x13 + 1)))) else (laws_FnSeatsGiven.l0 k x5 x8 x10 x12 (wrap64 (x13 + 1)))) else (none)) else (some false))) else (none)) else (none)) else (some (x12 == 1))
end
def laws_FnSeatsGiven.f (k : Nat) (l0 : List Int) (l1 : List Int) : Option (Bool) := (laws_r8Long.f l0 l1).bind fun t869 => (if t869 = true then (some true) else ((spec_R8Votes.f k l0).bind fun t870 => ((laws_r8At.f l1 0 4).bind fun t873 => ((laws_r8At.f l1 1 40).bind fun t874 => ((impl_SeatsBy.f k t873 t870 t874).bind fun bt875 => ((impl_SeatsBy.f k t873 t870 (wrap64 (t874 + 1))).bind fun bt879 => (if bt875.2 = true then (if bt879.2 = true then ((impl_ValidVotes.f k t870).bind fun t883 => (if t883 = true then (if (bt875.1.length : Int) = (t870.length : Int) then (if (bt879.1.length : Int) = (t870.length : Int) then ((laws_r8Sum.f k bt875.1).bind fun t884 => (if t884 = t874 then ((impl_IsSeatsBy.f k t873 t870 bt875.1).bind fun t885 => (laws_FnSeatsGiven.j0 k t870 bt875.1 bt879.1 (!t885))) else (laws_FnSeatsGiven.j0 k t870 bt875.1 bt879.1 true))) else (laws_FnSeatsGiven.j0 k t870 bt875.1 bt879.1 true)) else (laws_FnSeatsGiven.j0 k t870 bt875.1 bt879.1 true)) else (laws_FnSeatsGiven.j0 k t870 bt875.1 bt879.1 true))) else (laws_FnSeatsGiven.j0 k t870 bt875.1 bt879.1 true)) else (laws_FnSeatsGiven.j0 k t870 bt875.1 bt879.1 true))))))))
theorem laws_FnSeatsGiven.mono_l : ∀ k, (∀ y0 y1 y2 y3, LeO (laws_FnSeatsGiven.j0 k y0 y1 y2 y3) (laws_FnSeatsGiven.j0 (k + 1) y0 y1 y2 y3)) ∧ (∀ y0 y1 y2 y3 y4, LeO (laws_FnSeatsGiven.l0 k y0 y1 y2 y3 y4) (laws_FnSeatsGiven.l0 (k + 1) y0 y1 y2 y3 y4))
  | 0 => ⟨fun _ _ _ _ r h => by simp [laws_FnSeatsGiven.j0] at h, fun _ _ _ _ _ r h => by simp [laws_FnSeatsGiven.l0] at h⟩
  | k + 1 => by
    obtain ⟨ih0, ih1⟩ := laws_FnSeatsGiven.mono_l k
    refine ⟨?_, ?_⟩
    · intro y0 y1 y2 y3
      unfold laws_FnSeatsGiven.j0
      repeat' first
      | (with_reducible exact ih0 _ _ _ _)
      | (with_reducible exact ih1 _ _ _ _ _)
      | (with_reducible exact impl_IsSeatsBy.mono _ _ _ _)
      | (with_reducible exact impl_SeatsBy.mono _ _ _ _)
      | (with_reducible exact impl_ValidVotes.mono _ _)
      | (with_reducible exact laws_r8Sum.mono _ _)
      | (with_reducible exact spec_R8Votes.mono _ _)
      | (with_reducible exact LeO.refl _)
      | (with_reducible exact LeO.none _)
      | (with_reducible refine LeO.ite ?_ ?_)
      | (with_reducible refine LeO.bind ?_ (fun _ => ?_))
      | exact ih0 _ _ _ _
      | exact ih1 _ _ _ _ _
      | exact impl_IsSeatsBy.mono _ _ _ _
      | exact impl_SeatsBy.mono _ _ _ _
      | exact impl_ValidVotes.mono _ _
      | exact laws_r8Sum.mono _ _
      | exact spec_R8Votes.mono _ _
      | exact LeO.none _
      | refine LeO.ite ?_ ?_
      | refine LeO.bind ?_ (fun _ => ?_)
    · intro y0 y1 y2 y3 y4
      unfold laws_FnSeatsGiven.l0
      repeat' first
      | (with_reducible exact ih0 _ _ _ _)
      | (with_reducible exact ih1 _ _ _ _ _)
      | (with_reducible exact impl_IsSeatsBy.mono _ _ _ _)
      | (with_reducible exact impl_SeatsBy.mono _ _ _ _)
      | (with_reducible exact impl_ValidVotes.mono _ _)
      | (with_reducible exact laws_r8Sum.mono _ _)
      | (with_reducible exact spec_R8Votes.mono _ _)
      | (with_reducible exact LeO.refl _)
      | (with_reducible exact LeO.none _)
      | (with_reducible refine LeO.ite ?_ ?_)
      | (with_reducible refine LeO.bind ?_ (fun _ => ?_))
      | exact ih0 _ _ _ _
      | exact ih1 _ _ _ _ _
      | exact impl_IsSeatsBy.mono _ _ _ _
      | exact impl_SeatsBy.mono _ _ _ _
      | exact impl_ValidVotes.mono _ _
      | exact laws_r8Sum.mono _ _
      | exact spec_R8Votes.mono _ _
      | exact LeO.none _
      | refine LeO.ite ?_ ?_
      | refine LeO.bind ?_ (fun _ => ?_)
theorem laws_FnSeatsGiven.mono : ∀ a0 a1 k, LeO (laws_FnSeatsGiven.f k a0 a1) (laws_FnSeatsGiven.f (k + 1) a0 a1) := by
  intro a0 a1 k
  obtain ⟨ih0, ih1⟩ := laws_FnSeatsGiven.mono_l k
  unfold laws_FnSeatsGiven.f
  repeat' first
      | (with_reducible exact ih0 _ _ _ _)
      | (with_reducible exact ih1 _ _ _ _ _)
      | (with_reducible exact impl_IsSeatsBy.mono _ _ _ _)
      | (with_reducible exact impl_SeatsBy.mono _ _ _ _)
      | (with_reducible exact impl_ValidVotes.mono _ _)
      | (with_reducible exact laws_r8Sum.mono _ _)
      | (with_reducible exact spec_R8Votes.mono _ _)
      | (with_reducible exact LeO.refl _)
      | (with_reducible exact LeO.none _)
      | (with_reducible refine LeO.ite ?_ ?_)
      | (with_reducible refine LeO.bind ?_ (fun _ => ?_))
      | exact ih0 _ _ _ _
      | exact ih1 _ _ _ _ _
      | exact impl_IsSeatsBy.mono _ _ _ _
      | exact impl_SeatsBy.mono _ _ _ _
      | exact impl_ValidVotes.mono _ _
      | exact laws_r8Sum.mono _ _
      | exact spec_R8Votes.mono _ _
      | exact LeO.none _
      | refine LeO.ite ?_ ?_
      | refine LeO.bind ?_ (fun _ => ?_)
set_option maxHeartbeats 8000000 in
set_option maxRecDepth 100000 in
theorem laws_FnSeatsGiven.calls (k : Nat) (A0 : Option Addr) (c0 : Nat) (l0 : List Int) (A1 : Option Addr) (c1 : Nat) (l1 : List Int) (r : Bool) (w : World) (hr0 : Kd.C (Kd.int .u8) w A0 l0.length l0) (hc0 : l0.length ≤ c0) (hr1 : Kd.C (Kd.int .u8) w A1 l1.length l1) (hc1 : l1.length ≤ c1) (h : laws_FnSeatsGiven.f k l0 l1 = some r) :
    Calls Try.prog 14 #[.slice A0 l0.length c0, .slice A1 l1.length c1] w fun e w' => e = .returned (.bool r) ∧ Below w.heap.size w w' := by
  have HR0 := Aside0.mk hr0
  have HC0 := Aside0.mk hc0
  clear hr0 hc0
  have HR1 := Aside0.mk hr1
  have HC1 := Aside0.mk hc1
  clear hr1 hc1
  have HB := Aside0.mk (Below.refl w.heap.size w)
  have H : ((laws_r8Long.f l0 l1).bind fun t869 => (if t869 = true then (some true) else ((spec_R8Votes.f k l0).bind fun t870 => ((laws_r8At.f l1 0 4).bind fun t873 => ((laws_r8At.f l1 1 40).bind fun t874 => ((impl_SeatsBy.f k t873 t870 t874).bind fun bt875 => ((impl_SeatsBy.f k t873 t870 (wrap64 (t874 + 1))).bind fun bt879 => (if bt875.2 = true then (if bt879.2 = true then ((impl_ValidVotes.f k t870).bind fun t883 => (if t883 = true then (if (bt875.1.length : Int) = (t870.length : Int) then (if (bt879.1.length : Int) = (t870.length : Int) then ((laws_r8Sum.f k bt875.1).bind fun t884 => (if t884 = t874 then ((impl_IsSeatsBy.f k t873 t870 bt875.1).bind fun t885 => (laws_FnSeatsGiven.j0 k t870 bt875.1 bt879.1 (!t885))) else (laws_FnSeatsGiven.j0 k t870 bt875.1 bt879.1 true))) else (laws_FnSeatsGiven.j0 k t870 bt875.1 bt879.1 true)) else (laws_FnSeatsGiven.j0 k t870 bt875.1 bt879.1 true)) else (laws_FnSeatsGiven.j0 k t870 bt875.1 bt879.1 true))) else (laws_FnSeatsGiven.j0 k t870 bt875.1 bt879.1 true)) else (laws_FnSeatsGiven.j0 k t870 bt875.1 bt879.1 true))))))))) = some r := h
  clear h
  replace H := Option.bind_eq_some_iff.mp H
  obtain ⟨t869, A30, H⟩ := H
  replace H : (if t869 = true then (some true) else ((spec_R8Votes.f k l0).bind fun t870 => ((laws_r8At.f l1 0 4).bind fun t873 => ((laws_r8At.f l1 1 40).bind fun t874 => ((impl_SeatsBy.f k t873 t870 t874).bind fun bt875 => ((impl_SeatsBy.f k t873 t870 (wrap64 (t874 + 1))).bind fun bt879 => (if bt875.2 = true then (if bt879.2 = true then ((impl_ValidVotes.f k t870).bind fun t883 => (if t883 = true then (if (bt875.1.length : Int) = (t870.length : Int) then (if (bt879.1.length : Int) = (t870.length : Int) then ((laws_r8Sum.f k bt875.1).bind fun t884 => (if t884 = t874 then ((impl_IsSeatsBy.f k t873 t870 bt875.1).bind fun t885 => (laws_FnSeatsGiven.j0 k t870 bt875.1 bt879.1 (!t885))) else (laws_FnSeatsGiven.j0 k t870 bt875.1 bt879.1 true))) else (laws_FnSeatsGiven.j0 k t870 bt875.1 bt879.1 true)) else (laws_FnSeatsGiven.j0 k t870 bt875.1 bt879.1 true)) else (laws_FnSeatsGiven.j0 k t870 bt875.1 bt879.1 true))) else (laws_FnSeatsGiven.j0 k t870 bt875.1 bt879.1 true)) else (laws_FnSeatsGiven.j0 k t870 bt875.1 bt879.1 true)))))))) = some r := H
  have A3 := Aside0.mk A30
  clear A30
  by_cases c4 : t869 = true
  · subst c4
    have H1 : (some true) = some r := by rw [if_pos rfl] at H; exact H
    clear H
    have H := H1
    clear H1
    obtain rfl := Option.some.inj H
    as_aux_lemma =>
      go_enter Try.func14, Try.ntmps14
      go_wp2_with (first | (go_at_call 47; (with_reducible refine (laws_r8Long.calls _ _ l0 _ _ l1 true _ ?side1 ?side2 ?side3 ?side4 A3.out).mono ?_); (case side1 => repeat (first | exact HR0.out | (with_reducible refine Kd.C_alloc ?_ _) | (with_reducible refine Kd.C_drewN ?_ _) | (with_reducible refine Kd.C_drew ?_))); (case side2 => exact HC0.out); (case side3 => repeat (first | exact HR1.out | (with_reducible refine Kd.C_alloc ?_ _) | (with_reducible refine Kd.C_drewN ?_ _) | (with_reducible refine Kd.C_drew ?_))); (case side4 => exact HC1.out); rintro e w' ⟨rfl, ⟨nd, rfl⟩⟩; (try first | exact ⟨rfl, _, World.drewN_drewN _ _ _⟩ | exact ⟨rfl, _, Eq.trans (World.drewN_drewN _ _ _) (congrArg (World.drewN _) (Nat.add_assoc _ _ _))⟩)))
      repeat (go_quiet (first | (go_at_call 47; (with_reducible refine (laws_r8Long.calls _ _ l0 _ _ l1 true _ ?side1 ?side2 ?side3 ?side4 A3.out).mono ?_); (case side1 => repeat (first | exact HR0.out | (with_reducible refine Kd.C_alloc ?_ _) | (with_reducible refine Kd.C_drewN ?_ _) | (with_reducible refine Kd.C_drew ?_))); (case side2 => exact HC0.out); (case side3 => repeat (first | exact HR1.out | (with_reducible refine Kd.C_alloc ?_ _) | (with_reducible refine Kd.C_drewN ?_ _) | (with_reducible refine Kd.C_drew ?_))); (case side4 => exact HC1.out); rintro e w' ⟨rfl, ⟨nd, rfl⟩⟩; (try first | exact ⟨rfl, _, World.drewN_drewN _ _ _⟩ | exact ⟨rfl, _, Eq.trans (World.drewN_drewN _ _ _) (congrArg (World.drewN _) (Nat.add_assoc _ _ _))⟩))); try go_wp2_with (first | (go_at_call 47; (with_reducible refine (laws_r8Long.calls _ _ l0 _ _ l1 true _ ?side1 ?side2 ?side3 ?side4 A3.out).mono ?_); (case side1 => repeat (first | exact HR0.out | (with_reducible refine Kd.C_alloc ?_ _) | (with_reducible refine Kd.C_drewN ?_ _) | (with_reducible refine Kd.C_drew ?_))); (case side2 => exact HC0.out); (case side3 => repeat (first | exact HR1.out | (with_reducible refine Kd.C_alloc ?_ _) | (with_reducible refine Kd.C_drewN ?_ _) | (with_reducible refine Kd.C_drew ?_))); (case side4 => exact HC1.out); rintro e w' ⟨rfl, ⟨nd, rfl⟩⟩; (try first | exact ⟨rfl, _, World.drewN_drewN _ _ _⟩ | exact ⟨rfl, _, Eq.trans (World.drewN_drewN _ _ _) (congrArg (World.drewN _) (Nat.add_assoc _ _ _))⟩))))
      go_ret
      exact ⟨by first | rfl | (simp [errW_none, errW_some] <;> rfl) | (simp [*, errW_none, errW_some] <;> rfl), by repeat (first | (with_reducible first | exact HB.out | apply below_alloc | apply pw_below_drewN | apply below_drew1) | exact HB.out)⟩
  · replace c4 := Bool.eq_false_iff.mpr c4
    subst c4
    have H1 : ((spec_R8Votes.f k l0).bind fun t870 => ((laws_r8At.f l1 0 4).bind fun t873 => ((laws_r8At.f l1 1 40).bind fun t874 => ((impl_SeatsBy.f k t873 t870 t874).bind fun bt875 => ((impl_SeatsBy.f k t873 t870 (wrap64 (t874 + 1))).bind fun bt879 => (if bt875.2 = true then (if bt879.2 = true then ((impl_ValidVotes.f k t870).bind fun t883 => (if t883 = true then (if (bt875.1.length : Int) = (t870.length : Int) then (if (bt879.1.length : Int) = (t870.length : Int) then ((laws_r8Sum.f k bt875.1).bind fun t884 => (if t884 = t874 then ((impl_IsSeatsBy.f k t873 t870 bt875.1).bind fun t885 => (laws_FnSeatsGiven.j0 k t870 bt875.1 bt879.1 (!t885))) else (laws_FnSeatsGiven.j0 k t870 bt875.1 bt879.1 true))) else (laws_FnSeatsGiven.j0 k t870 bt875.1 bt879.1 true)) else (laws_FnSeatsGiven.j0 k t870 bt875.1 bt879.1 true)) else (laws_FnSeatsGiven.j0 k t870 bt875.1 bt879.1 true))) else (laws_FnSeatsGiven.j0 k t870 bt875.1 bt879.1 true)) else (laws_FnSeatsGiven.j0 k t870 bt875.1 bt879.1 true))))))) = some r := by rw [if_neg (show ¬ (false = true) by decide)] at H; exact H
    clear H
    have H := H1
    clear H1
    replace H := Option.bind_eq_some_iff.mp H
    obtain ⟨t870, A50, H⟩ := H
    replace H : ((laws_r8At.f l1 0 4).bind fun t873 => ((laws_r8At.f l1 1 40).bind fun t874 => ((impl_SeatsBy.f k t873 t870 t874).bind fun bt875 => ((impl_SeatsBy.f k t873 t870 (wrap64 (t874 + 1))).bind fun bt879 => (if bt875.2 = true then (if bt879.2 = true then ((impl_ValidVotes.f k t870).bind fun t883 => (if t883 = true then (if (bt875.1.length : Int) = (t870.length : Int) then (if (bt879.1.length : Int) = (t870.length : Int) then ((laws_r8Sum.f k bt875.1).bind fun t884 => (if t884 = t874 then ((impl_IsSeatsBy.f k t873 t870 bt875.1).bind fun t885 => (laws_FnSeatsGiven.j0 k t870 bt875.1 bt879.1 (!t885))) else (laws_FnSeatsGiven.j0 k t870 bt875.1 bt879.1 true))) else (laws_FnSeatsGiven.j0 k t870 bt875.1 bt879.1 true)) else (laws_FnSeatsGiven.j0 k t870 bt875.1 bt879.1 true)) else (laws_FnSeatsGiven.j0 k t870 bt875.1 bt879.1 true))) else (laws_FnSeatsGiven.j0 k t870 bt875.1 bt879.1 true)) else (laws_FnSeatsGiven.j0 k t870 bt875.1 bt879.1 true)))))) = some r := H
    have A5 := Aside0.mk A50
    clear A50
    replace H := Option.bind_eq_some_iff.mp H
    obtain ⟨t873, A60, H⟩ := H
    replace H : ((laws_r8At.f l1 1 40).bind fun t874 => ((impl_SeatsBy.f k t873 t870 t874).bind fun bt875 => ((impl_SeatsBy.f k t873 t870 (wrap64 (t874 + 1))).bind fun bt879 => (if bt875.2 = true then (if bt879.2 = true then ((impl_ValidVotes.f k t870).bind fun t883 => (if t883 = true then (if (bt875.1.length : Int) = (t870.length : Int) then (if (bt879.1.length : Int) = (t870.length : Int) then ((laws_r8Sum.f k bt875.1).bind fun t884 => (if t884 = t874 then ((impl_IsSeatsBy.f k t873 t870 bt875.1).bind fun t885 => (laws_FnSeatsGiven.j0 k t870 bt875.1 bt879.1 (!t885))) else (laws_FnSeatsGiven.j0 k t870 bt875.1 bt879.1 true))) else (laws_FnSeatsGiven.j0 k t870 bt875.1 bt879.1 true)) else (laws_FnSeatsGiven.j0 k t870 bt875.1 bt879.1 true)) else (laws_FnSeatsGiven.j0 k t870 bt875.1 bt879.1 true))) else (laws_FnSeatsGiven.j0 k t870 bt875.1 bt879.1 true)) else (laws_FnSeatsGiven.j0 k t870 bt875.1 bt879.1 true))))) = some r := H
    have A6 := Aside0.mk A60
    clear A60
    replace H := Option.bind_eq_some_iff.mp H
    obtain ⟨t874, A70, H⟩ := H
    replace H : ((impl_SeatsBy.f k t873 t870 t874).bind fun bt875 => ((impl_SeatsBy.f k t873 t870 (wrap64 (t874 + 1))).bind fun bt879 => (if bt875.2 = true then (if bt879.2 = true then ((impl_ValidVotes.f k t870).bind fun t883 => (if t883 = true then (if (bt875.1.length : Int) = (t870.length : Int) then (if (bt879.1.length : Int) = (t870.length : Int) then ((laws_r8Sum.f k bt875.1).bind fun t884 => (if t884 = t874 then ((impl_IsSeatsBy.f k t873 t870 bt875.1).bind fun t885 => (laws_FnSeatsGiven.j0 k t870 bt875.1 bt879.1 (!t885))) else (laws_FnSeatsGiven.j0 k t870 bt875.1 bt879.1 true))) else (laws_FnSeatsGiven.j0 k t870 bt875.1 bt879.1 true)) else (laws_FnSeatsGiven.j0 k t870 bt875.1 bt879.1 true)) else (laws_FnSeatsGiven.j0 k t870 bt875.1 bt879.1 true))) else (laws_FnSeatsGiven.j0 k t870 bt875.1 bt879.1 true)) else (laws_FnSeatsGiven.j0 k t870 bt875.1 bt879.1 true)))) = some r := H
    have A7 := Aside0.mk A70
    clear A70
    replace H := Option.bind_eq_some_iff.mp H
    obtain ⟨⟨t875, t876⟩, A80, H⟩ := H
    replace H : ((impl_SeatsBy.f k t873 t870 (wrap64 (t874 + 1))).bind fun bt879 => (if t876 = true then (if bt879.2 = true then ((impl_ValidVotes.f k t870).bind fun t883 => (if t883 = true then (if (t875.length : Int) = (t870.length : Int) then (if (bt879.1.length : Int) = (t870.length : Int) then ((laws_r8Sum.f k t875).bind fun t884 => (if t884 = t874 then ((impl_IsSeatsBy.f k t873 t870 t875).bind fun t885 => (laws_FnSeatsGiven.j0 k t870 t875 bt879.1 (!t885))) else (laws_FnSeatsGiven.j0 k t870 t875 bt879.1 true))) else (laws_FnSeatsGiven.j0 k t870 t875 bt879.1 true)) else (laws_FnSeatsGiven.j0 k t870 t875 bt879.1 true)) else (laws_FnSeatsGiven.j0 k t870 t875 bt879.1 true))) else (laws_FnSeatsGiven.j0 k t870 t875 bt879.1 true)) else (laws_FnSeatsGiven.j0 k t870 t875 bt879.1 true))) = some r := H
    have A8 := Aside0.mk A80
    clear A80
    replace H := Option.bind_eq_some_iff.mp H
    obtain ⟨⟨t879, t880⟩, A90, H⟩ := H
    replace H : (if t876 = true then (if t880 = true then ((impl_ValidVotes.f k t870).bind fun t883 => (if t883 = true then (if (t875.length : Int) = (t870.length : Int) then (if (t879.length : Int) = (t870.length : Int) then ((laws_r8Sum.f k t875).bind fun t884 => (if t884 = t874 then ((impl_IsSeatsBy.f k t873 t870 t875).bind fun t885 => (laws_FnSeatsGiven.j0 k t870 t875 t879 (!t885))) else (laws_FnSeatsGiven.j0 k t870 t875 t879 true))) else (laws_FnSeatsGiven.j0 k t870 t875 t879 true)) else (laws_FnSeatsGiven.j0 k t870 t875 t879 true)) else (laws_FnSeatsGiven.j0 k t870 t875 t879 true))) else (laws_FnSeatsGiven.j0 k t870 t875 t879 true)) else (laws_FnSeatsGiven.j0 k t870 t875 t879 true)) = some r := H
    have A9 := Aside0.mk A90
    clear A90
    have HC10 := Aside0.mk H
    clear H
    go_enter Try.func14, Try.ntmps14
    go_upto_region 8 with (first | (go_at_call 47; (with_reducible refine (laws_r8Long.calls _ _ l0 _ _ l1 false _ ?side1 ?side2 ?side3 ?side4 A3.out).mono ?_); (case side1 => repeat (first | exact HR0.out | (with_reducible refine Kd.C_alloc ?_ _) | (with_reducible refine Kd.C_drewN ?_ _) | (with_reducible refine Kd.C_drew ?_))); (case side2 => exact HC0.out); (case side3 => repeat (first | exact HR1.out | (with_reducible refine Kd.C_alloc ?_ _) | (with_reducible refine Kd.C_drewN ?_ _) | (with_reducible refine Kd.C_drew ?_))); (case side4 => exact HC1.out); rintro e w' ⟨rfl, ⟨nd, rfl⟩⟩; (try first | exact ⟨rfl, _, World.drewN_drewN _ _ _⟩ | exact ⟨rfl, _, Eq.trans (World.drewN_drewN _ _ _) (congrArg (World.drewN _) (Nat.add_assoc _ _ _))⟩)) | (go_at_call 48; (with_reducible refine (spec_R8Votes.calls k _ _ l0 t870 _ ?side1 ?side2 A5.out).mono ?_); (case side1 => repeat (first | exact HR0.out | (with_reducible refine Kd.C_alloc ?_ _) | (with_reducible refine Kd.C_drewN ?_ _) | (with_reducible refine Kd.C_drew ?_))); (case side2 => exact HC0.out); rintro e w11 ⟨v871, rfl, ho0, hb⟩; have n0_ := Aside0.mk (Kd.R_lower ho0 (below_size (by repeat (first | (with_reducible first | exact HB.out | apply below_alloc | apply pw_below_drewN | apply below_drew1) | exact HB.out)))); have n1_ := Aside0.mk (below_step (by repeat (first | (with_reducible first | exact HB.out | apply below_alloc | apply pw_below_drewN | apply below_drew1) | exact HB.out)) hb); clear HB; have HO872 := n0_; have HB := n1_; clear n0_ n1_; (try clear hb); (try clear hb2); (try clear hk); (try clear hi); (try clear ho0)) | (go_at_call 49; (with_reducible refine (laws_r8At.calls _ _ l1 0 4 t873 _ ?side1 ?side2 A6.out).mono ?_); (case side1 => repeat (first | exact (Kd.C_below HR1.out HB.out) | (with_reducible refine Kd.C_alloc ?_ _) | (with_reducible refine Kd.C_drewN ?_ _) | (with_reducible refine Kd.C_drew ?_))); (case side2 => exact HC1.out); rintro e w' ⟨rfl, ⟨nd, rfl⟩⟩; (try first | exact ⟨rfl, _, World.drewN_drewN _ _ _⟩ | exact ⟨rfl, _, Eq.trans (World.drewN_drewN _ _ _) (congrArg (World.drewN _) (Nat.add_assoc _ _ _))⟩)) | (go_at_call 49; (with_reducible refine (laws_r8At.calls _ _ l1 1 40 t874 _ ?side1 ?side2 A7.out).mono ?_); (case side1 => repeat (first | exact (Kd.C_below HR1.out (by repeat (first | (with_reducible first | exact HB.out | apply below_alloc | apply pw_below_drewN | apply below_drew1) | exact HB.out))) | (with_reducible refine Kd.C_alloc ?_ _) | (with_reducible refine Kd.C_drewN ?_ _) | (with_reducible refine Kd.C_drew ?_))); (case side2 => exact HC1.out); rintro e w' ⟨rfl, ⟨nd, rfl⟩⟩; (try first | exact ⟨rfl, _, World.drewN_drewN _ _ _⟩ | exact ⟨rfl, _, Eq.trans (World.drewN_drewN _ _ _) (congrArg (World.drewN _) (Nat.add_assoc _ _ _))⟩); obtain ⟨Ao12, co12, eo12⟩ := Kd.R_slice HO872.out; subst eo12) | (go_at_call 50; (with_reducible refine (impl_SeatsBy.calls k t873 _ _ t870 t874 t875 t876 _ ?side1 ?side2 A8.out).mono ?_); (case side1 => repeat (first | exact (Kd.R_reads' HO872.out).2.2 | (with_reducible refine Kd.C_alloc ?_ _) | (with_reducible refine Kd.C_drewN ?_ _) | (with_reducible refine Kd.C_drew ?_))); (case side2 => exact (Kd.R_reads' HO872.out).2.1); rintro e w13 ⟨v877, rfl, ho0, hb⟩; have n0_ := Aside0.mk (Kd.R_elder' (by (with_reducible repeat (first | apply Kd.R_alloc | apply Kd.R_drewN | apply Kd.R_drew)); exact HO872.out) (Kd.R_base ho0) hb); have n1_ := Aside0.mk (Kd.R_lower (Kd.R_new' ho0 (Kd.R_lt (by (with_reducible repeat (first | apply Kd.R_alloc | apply Kd.R_drewN | apply Kd.R_drew)); exact HO872.out))) (below_size (by repeat (first | (with_reducible first | exact HB.out | apply below_alloc | apply pw_below_drewN | apply below_drew1) | exact HB.out)))); have n2_ := Aside0.mk (below_step (by repeat (first | (with_reducible first | exact HB.out | apply below_alloc | apply pw_below_drewN | apply below_drew1) | exact HB.out)) hb); clear HO872; clear HB; have HO872 := n0_; have HO878 := n1_; have HB := n2_; clear n0_ n1_ n2_; (try clear hb); (try clear hb2); (try clear hk); (try clear hi); (try clear ho0)) | (go_at_call 50; (with_reducible refine (impl_SeatsBy.calls k t873 _ _ t870 (wrap64 (t874 + 1)) t879 t880 _ ?side1 ?side2 A9.out).mono ?_); (case side1 => repeat (first | exact (Kd.R_reads' HO872.out).2.2 | (with_reducible refine Kd.C_alloc ?_ _) | (with_reducible refine Kd.C_drewN ?_ _) | (with_reducible refine Kd.C_drew ?_))); (case side2 => exact (Kd.R_reads' HO872.out).2.1); rintro e w14 ⟨v881, rfl, ho0, hb⟩; have n0_ := Aside0.mk (Kd.R_elder' (by (with_reducible repeat (first | apply Kd.R_alloc | apply Kd.R_drewN | apply Kd.R_drew)); exact HO872.out) (Kd.R_base ho0) hb); have n1_ := Aside0.mk (Kd.R_elder' (by (with_reducible repeat (first | apply Kd.R_alloc | apply Kd.R_drewN | apply Kd.R_drew)); exact HO878.out) (Kd.R_base ho0) hb); have n2_ := Aside0.mk (Kd.R_lower (Kd.R_new' (Kd.R_new' ho0 (Kd.R_lt (by (with_reducible repeat (first | apply Kd.R_alloc | apply Kd.R_drewN | apply Kd.R_drew)); exact HO872.out))) (Kd.R_lt (by (with_reducible repeat (first | apply Kd.R_alloc | apply Kd.R_drewN | apply Kd.R_drew)); exact HO878.out))) (below_size (by repeat (first | (with_reducible first | exact HB.out | apply below_alloc | apply pw_below_drewN | apply below_drew1) | exact HB.out)))); have n3_ := Aside0.mk (below_step (by repeat (first | (with_reducible first | exact HB.out | apply below_alloc | apply pw_below_drewN | apply below_drew1) | exact HB.out)) hb); clear HO872; clear HO878; clear HB; have HO872 := n0_; have HO878 := n1_; have HO882 := n2_; have HB := n3_; clear n0_ n1_ n2_ n3_; (try clear hb); (try clear hb2); (try clear hk); (try clear hi); (try clear ho0)))
    repeat (go_quiet (first | (go_at_call 47; (with_reducible refine (laws_r8Long.calls _ _ l0 _ _ l1 false _ ?side1 ?side2 ?side3 ?side4 A3.out).mono ?_); (case side1 => repeat (first | exact HR0.out | (with_reducible refine Kd.C_alloc ?_ _) | (with_reducible refine Kd.C_drewN ?_ _) | (with_reducible refine Kd.C_drew ?_))); (case side2 => exact HC0.out); (case side3 => repeat (first | exact HR1.out | (with_reducible refine Kd.C_alloc ?_ _) | (with_reducible refine Kd.C_drewN ?_ _) | (with_reducible refine Kd.C_drew ?_))); (case side4 => exact HC1.out); rintro e w' ⟨rfl, ⟨nd, rfl⟩⟩; (try first | exact ⟨rfl, _, World.drewN_drewN _ _ _⟩ | exact ⟨rfl, _, Eq.trans (World.drewN_drewN _ _ _) (congrArg (World.drewN _) (Nat.add_assoc _ _ _))⟩)) | (go_at_call 48; (with_reducible refine (spec_R8Votes.calls k _ _ l0 t870 _ ?side1 ?side2 A5.out).mono ?_); (case side1 => repeat (first | exact HR0.out | (with_reducible refine Kd.C_alloc ?_ _) | (with_reducible refine Kd.C_drewN ?_ _) | (with_reducible refine Kd.C_drew ?_))); (case side2 => exact HC0.out); rintro e w11 ⟨v871, rfl, ho0, hb⟩; have n0_ := Aside0.mk (Kd.R_lower ho0 (below_size (by repeat (first | (with_reducible first | exact HB.out | apply below_alloc | apply pw_below_drewN | apply below_drew1) | exact HB.out)))); have n1_ := Aside0.mk (below_step (by repeat (first | (with_reducible first | exact HB.out | apply below_alloc | apply pw_below_drewN | apply below_drew1) | exact HB.out)) hb); clear HB; have HO872 := n0_; have HB := n1_; clear n0_ n1_; (try clear hb); (try clear hb2); (try clear hk); (try clear hi); (try clear ho0)) | (go_at_call 49; (with_reducible refine (laws_r8At.calls _ _ l1 0 4 t873 _ ?side1 ?side2 A6.out).mono ?_); (case side1 => repeat (first | exact (Kd.C_below HR1.out HB.out) | (with_reducible refine Kd.C_alloc ?_ _) | (with_reducible refine Kd.C_drewN ?_ _) | (with_reducible refine Kd.C_drew ?_))); (case side2 => exact HC1.out); rintro e w' ⟨rfl, ⟨nd, rfl⟩⟩; (try first | exact ⟨rfl, _, World.drewN_drewN _ _ _⟩ | exact ⟨rfl, _, Eq.trans (World.drewN_drewN _ _ _) (congrArg (World.drewN _) (Nat.add_assoc _ _ _))⟩)) | (go_at_call 49; (with_reducible refine (laws_r8At.calls _ _ l1 1 40 t874 _ ?side1 ?side2 A7.out).mono ?_); (case side1 => repeat (first | exact (Kd.C_below HR1.out (by repeat (first | (with_reducible first | exact HB.out | apply below_alloc | apply pw_below_drewN | apply below_drew1) | exact HB.out))) | (with_reducible refine Kd.C_alloc ?_ _) | (with_reducible refine Kd.C_drewN ?_ _) | (with_reducible refine Kd.C_drew ?_))); (case side2 => exact HC1.out); rintro e w' ⟨rfl, ⟨nd, rfl⟩⟩; (try first | exact ⟨rfl, _, World.drewN_drewN _ _ _⟩ | exact ⟨rfl, _, Eq.trans (World.drewN_drewN _ _ _) (congrArg (World.drewN _) (Nat.add_assoc _ _ _))⟩); obtain ⟨Ao12, co12, eo12⟩ := Kd.R_slice HO872.out; subst eo12) | (go_at_call 50; (with_reducible refine (impl_SeatsBy.calls k t873 _ _ t870 t874 t875 t876 _ ?side1 ?side2 A8.out).mono ?_); (case side1 => repeat (first | exact (Kd.R_reads' HO872.out).2.2 | (with_reducible refine Kd.C_alloc ?_ _) | (with_reducible refine Kd.C_drewN ?_ _) | (with_reducible refine Kd.C_drew ?_))); (case side2 => exact (Kd.R_reads' HO872.out).2.1); rintro e w13 ⟨v877, rfl, ho0, hb⟩; have n0_ := Aside0.mk (Kd.R_elder' (by (with_reducible repeat (first | apply Kd.R_alloc | apply Kd.R_drewN | apply Kd.R_drew)); exact HO872.out) (Kd.R_base ho0) hb); have n1_ := Aside0.mk (Kd.R_lower (Kd.R_new' ho0 (Kd.R_lt (by (with_reducible repeat (first | apply Kd.R_alloc | apply Kd.R_drewN | apply Kd.R_drew)); exact HO872.out))) (below_size (by repeat (first | (with_reducible first | exact HB.out | apply below_alloc | apply pw_below_drewN | apply below_drew1) | exact HB.out)))); have n2_ := Aside0.mk (below_step (by repeat (first | (with_reducible first | exact HB.out | apply below_alloc | apply pw_below_drewN | apply below_drew1) | exact HB.out)) hb); clear HO872; clear HB; have HO872 := n0_; have HO878 := n1_; have HB := n2_; clear n0_ n1_ n2_; (try clear hb); (try clear hb2); (try clear hk); (try clear hi); (try clear ho0)) | (go_at_call 50; (with_reducible refine (impl_SeatsBy.calls k t873 _ _ t870 (wrap64 (t874 + 1)) t879 t880 _ ?side1 ?side2 A9.out).mono ?_); (case side1 => repeat (first | exact (Kd.R_reads' HO872.out).2.2 | (with_reducible refine Kd.C_alloc ?_ _) | (with_reducible refine Kd.C_drewN ?_ _) | (with_reducible refine Kd.C_drew ?_))); (case side2 => exact (Kd.R_reads' HO872.out).2.1); rintro e w14 ⟨v881, rfl, ho0, hb⟩; have n0_ := Aside0.mk (Kd.R_elder' (by (with_reducible repeat (first | apply Kd.R_alloc | apply Kd.R_drewN | apply Kd.R_drew)); exact HO872.out) (Kd.R_base ho0) hb); have n1_ := Aside0.mk (Kd.R_elder' (by (with_reducible repeat (first | apply Kd.R_alloc | apply Kd.R_drewN | apply Kd.R_drew)); exact HO878.out) (Kd.R_base ho0) hb); have n2_ := Aside0.mk (Kd.R_lower (Kd.R_new' (Kd.R_new' ho0 (Kd.R_lt (by (with_reducible repeat (first | apply Kd.R_alloc | apply Kd.R_drewN | apply Kd.R_drew)); exact HO872.out))) (Kd.R_lt (by (with_reducible repeat (first | apply Kd.R_alloc | apply Kd.R_drewN | apply Kd.R_drew)); exact HO878.out))) (below_size (by repeat (first | (with_reducible first | exact HB.out | apply below_alloc | apply pw_below_drewN | apply below_drew1) | exact HB.out)))); have n3_ := Aside0.mk (below_step (by repeat (first | (with_reducible first | exact HB.out | apply below_alloc | apply pw_below_drewN | apply below_drew1) | exact HB.out)) hb); clear HO872; clear HO878; clear HB; have HO872 := n0_; have HO878 := n1_; have HO882 := n2_; have HB := n3_; clear n0_ n1_ n2_ n3_; (try clear hb); (try clear hb2); (try clear hk); (try clear hi); (try clear ho0))); go_upto_region 8 with (first | (go_at_call 47; (with_reducible refine (laws_r8Long.calls _ _ l0 _ _ l1 false _ ?side1 ?side2 ?side3 ?side4 A3.out).mono ?_); (case side1 => repeat (first | exact HR0.out | (with_reducible refine Kd.C_alloc ?_ _) | (with_reducible refine Kd.C_drewN ?_ _) | (with_reducible refine Kd.C_drew ?_))); (case side2 => exact HC0.out); (case side3 => repeat (first | exact HR1.out | (with_reducible refine Kd.C_alloc ?_ _) | (with_reducible refine Kd.C_drewN ?_ _) | (with_reducible refine Kd.C_drew ?_))); (case side4 => exact HC1.out); rintro e w' ⟨rfl, ⟨nd, rfl⟩⟩; (try first | exact ⟨rfl, _, World.drewN_drewN _ _ _⟩ | exact ⟨rfl, _, Eq.trans (World.drewN_drewN _ _ _) (congrArg (World.drewN _) (Nat.add_assoc _ _ _))⟩)) | (go_at_call 48; (with_reducible refine (spec_R8Votes.calls k _ _ l0 t870 _ ?side1 ?side2 A5.out).mono ?_); (case side1 => repeat (first | exact HR0.out | (with_reducible refine Kd.C_alloc ?_ _) | (with_reducible refine Kd.C_drewN ?_ _) | (with_reducible refine Kd.C_drew ?_))); (case side2 => exact HC0.out); rintro e w11 ⟨v871, rfl, ho0, hb⟩; have n0_ := Aside0.mk (Kd.R_lower ho0 (below_size (by repeat (first | (with_reducible first | exact HB.out | apply below_alloc | apply pw_below_drewN | apply below_drew1) | exact HB.out)))); have n1_ := Aside0.mk (below_step (by repeat (first | (with_reducible first | exact HB.out | apply below_alloc | apply pw_below_drewN | apply below_drew1) | exact HB.out)) hb); clear HB; have HO872 := n0_; have HB := n1_; clear n0_ n1_; (try clear hb); (try clear hb2); (try clear hk); (try clear hi); (try clear ho0)) | (go_at_call 49; (with_reducible refine (laws_r8At.calls _ _ l1 0 4 t873 _ ?side1 ?side2 A6.out).mono ?_); (case side1 => repeat (first | exact (Kd.C_below HR1.out HB.out) | (with_reducible refine Kd.C_alloc ?_ _) | (with_reducible refine Kd.C_drewN ?_ _) | (with_reducible refine Kd.C_drew ?_))); (case side2 => exact HC1.out); rintro e w' ⟨rfl, ⟨nd, rfl⟩⟩; (try first | exact ⟨rfl, _, World.drewN_drewN _ _ _⟩ | exact ⟨rfl, _, Eq.trans (World.drewN_drewN _ _ _) (congrArg (World.drewN _) (Nat.add_assoc _ _ _))⟩)) | (go_at_call 49; (with_reducible refine (laws_r8At.calls _ _ l1 1 40 t874 _ ?side1 ?side2 A7.out).mono ?_); (case side1 => repeat (first | exact (Kd.C_below HR1.out (by repeat (first | (with_reducible first | exact HB.out | apply below_alloc | apply pw_below_drewN | apply below_drew1) | exact HB.out))) | (with_reducible refine Kd.C_alloc ?_ _) | (with_reducible refine Kd.C_drewN ?_ _) | (with_reducible refine Kd.C_drew ?_))); (case side2 => exact HC1.out); rintro e w' ⟨rfl, ⟨nd, rfl⟩⟩; (try first | exact ⟨rfl, _, World.drewN_drewN _ _ _⟩ | exact ⟨rfl, _, Eq.trans (World.drewN_drewN _ _ _) (congrArg (World.drewN _) (Nat.add_assoc _ _ _))⟩); obtain ⟨Ao12, co12, eo12⟩ := Kd.R_slice HO872.out; subst eo12) | (go_at_call 50; (with_reducible refine (impl_SeatsBy.calls k t873 _ _ t870 t874 t875 t876 _ ?side1 ?side2 A8.out).mono ?_); (case side1 => repeat (first | exact (Kd.R_reads' HO872.out).2.2 | (with_reducible refine Kd.C_alloc ?_ _) | (with_reducible refine Kd.C_drewN ?_ _) | (with_reducible refine Kd.C_drew ?_))); (case side2 => exact (Kd.R_reads' HO872.out).2.1); rintro e w13 ⟨v877, rfl, ho0, hb⟩; have n0_ := Aside0.mk (Kd.R_elder' (by (with_reducible repeat (first | apply Kd.R_alloc | apply Kd.R_drewN | apply Kd.R_drew)); exact HO872.out) (Kd.R_base ho0) hb); have n1_ := Aside0.mk (Kd.R_lower (Kd.R_new' ho0 (Kd.R_lt (by (with_reducible repeat (first | apply Kd.R_alloc | apply Kd.R_drewN | apply Kd.R_drew)); exact HO872.out))) (below_size (by repeat (first | (with_reducible first | exact HB.out | apply below_alloc | apply pw_below_drewN | apply below_drew1) | exact HB.out)))); have n2_ := Aside0.mk (below_step (by repeat (first | (with_reducible first | exact HB.out | apply below_alloc | apply pw_below_drewN | apply below_drew1) | exact HB.out)) hb); clear HO872; clear HB; have HO872 := n0_; have HO878 := n1_; have HB := n2_; clear n0_ n1_ n2_; (try clear hb); (try clear hb2); (try clear hk); (try clear hi); (try clear ho0)) | (go_at_call 50; (with_reducible refine (impl_SeatsBy.calls k t873 _ _ t870 (wrap64 (t874 + 1)) t879 t880 _ ?side1 ?side2 A9.out).mono ?_); (case side1 => repeat (first | exact (Kd.R_reads' HO872.out).2.2 | (with_reducible refine Kd.C_alloc ?_ _) | (with_reducible refine Kd.C_drewN ?_ _) | (with_reducible refine Kd.C_drew ?_))); (case side2 => exact (Kd.R_reads' HO872.out).2.1); rintro e w14 ⟨v881, rfl, ho0, hb⟩; have n0_ := Aside0.mk (Kd.R_elder' (by (with_reducible repeat (first | apply Kd.R_alloc | apply Kd.R_drewN | apply Kd.R_drew)); exact HO872.out) (Kd.R_base ho0) hb); have n1_ := Aside0.mk (Kd.R_elder' (by (with_reducible repeat (first | apply Kd.R_alloc | apply Kd.R_drewN | apply Kd.R_drew)); exact HO878.out) (Kd.R_base ho0) hb); have n2_ := Aside0.mk (Kd.R_lower (Kd.R_new' (Kd.R_new' ho0 (Kd.R_lt (by (with_reducible repeat (first | apply Kd.R_alloc | apply Kd.R_drewN | apply Kd.R_drew)); exact HO872.out))) (Kd.R_lt (by (with_reducible repeat (first | apply Kd.R_alloc | apply Kd.R_drewN | apply Kd.R_drew)); exact HO878.out))) (below_size (by repeat (first | (with_reducible first | exact HB.out | apply below_alloc | apply pw_below_drewN | apply below_drew1) | exact HB.out)))); have n3_ := Aside0.mk (below_step (by repeat (first | (with_reducible first | exact HB.out | apply below_alloc | apply pw_below_drewN | apply below_drew1) | exact HB.out)) hb); clear HO872; clear HO878; clear HB; have HO872 := n0_; have HO878 := n1_; have HO882 := n2_; have HB := n3_; clear n0_ n1_ n2_ n3_; (try clear hb); (try clear hb2); (try clear hk); (try clear hi); (try clear ho0))))
    (try simp only [Act.put, List.setIfInBounds_toArray, List.set_cons_zero, List.set_cons_succ])
    go_cut [75] (fun v75 wc => ∃ (kq : Nat) (x75_9 : Bool), v75 = .bool x75_9 ∧ Aside0 (laws_FnSeatsGiven.j0 kq t870 t875 t879 x75_9 = some r) ∧ Aside0 (kq ≤ k) ∧ Aside0 (Kd.R (Kd.int .i64) 2 wc w.heap.size (fun k_ => some k_ ≠ (v877 : Value).ownBlock ∧ some k_ ≠ (v881 : Value).ownBlock) (.slice Ao12 t870.length co12) t870) ∧ Aside0 (Kd.R (Kd.int .i64) 2 wc w.heap.size (fun k_ => some k_ ≠ ((.slice Ao12 t870.length co12) : Value).ownBlock ∧ some k_ ≠ (v881 : Value).ownBlock) v877 t875) ∧ Aside0 (Kd.R (Kd.int .i64) 2 wc w.heap.size (fun k_ => some k_ ≠ ((.slice Ao12 t870.length co12) : Value).ownBlock ∧ some k_ ≠ (v877 : Value).ownBlock) v881 t879) ∧ Aside0 (Below w.heap.size w wc))
    case first =>
      have H := HC10.out
      clear HC10
      by_cases c15 : t876 = true
      · subst c15
        have H1 : (if t880 = true then ((impl_ValidVotes.f k t870).bind fun t883 => (if t883 = true then (if (t875.length : Int) = (t870.length : Int) then (if (t879.length : Int) = (t870.length : Int) then ((laws_r8Sum.f k t875).bind fun t884 => (if t884 = t874 then ((impl_IsSeatsBy.f k t873 t870 t875).bind fun t885 => (laws_FnSeatsGiven.j0 k t870 t875 t879 (!t885))) else (laws_FnSeatsGiven.j0 k t870 t875 t879 true))) else (laws_FnSeatsGiven.j0 k t870 t875 t879 true)) else (laws_FnSeatsGiven.j0 k t870 t875 t879 true)) else (laws_FnSeatsGiven.j0 k t870 t875 t879 true))) else (laws_FnSeatsGiven.j0 k t870 t875 t879 true)) = some r := by rw [if_pos rfl] at H; exact H
        clear H
        have H := H1
        clear H1
        by_cases c16 : t880 = true
        · subst c16
          have H1 : ((impl_ValidVotes.f k t870).bind fun t883 => (if t883 = true then (if (t875.length : Int) = (t870.length : Int) then (if (t879.length : Int) = (t870.length : Int) then ((laws_r8Sum.f k t875).bind fun t884 => (if t884 = t874 then ((impl_IsSeatsBy.f k t873 t870 t875).bind fun t885 => (laws_FnSeatsGiven.j0 k t870 t875 t879 (!t885))) else (laws_FnSeatsGiven.j0 k t870 t875 t879 true))) else (laws_FnSeatsGiven.j0 k t870 t875 t879 true)) else (laws_FnSeatsGiven.j0 k t870 t875 t879 true)) else (laws_FnSeatsGiven.j0 k t870 t875 t879 true))) = some r := by rw [if_pos rfl] at H; exact H
          clear H
          have H := H1
          clear H1
          replace H := Option.bind_eq_some_iff.mp H
          obtain ⟨t883, A170, H⟩ := H
          replace H : (if t883 = true then (if (t875.length : Int) = (t870.length : Int) then (if (t879.length : Int) = (t870.length : Int) then ((laws_r8Sum.f k t875).bind fun t884 => (if t884 = t874 then ((impl_IsSeatsBy.f k t873 t870 t875).bind fun t885 => (laws_FnSeatsGiven.j0 k t870 t875 t879 (!t885))) else (laws_FnSeatsGiven.j0 k t870 t875 t879 true))) else (laws_FnSeatsGiven.j0 k t870 t875 t879 true)) else (laws_FnSeatsGiven.j0 k t870 t875 t879 true)) else (laws_FnSeatsGiven.j0 k t870 t875 t879 true)) = some r := H
          have A17 := Aside0.mk A170
          clear A170
          by_cases c18 : t883 = true
          · subst c18
            have H1 : (if (t875.length : Int) = (t870.length : Int) then (if (t879.length : Int) = (t870.length : Int) then ((laws_r8Sum.f k t875).bind fun t884 => (if t884 = t874 then ((impl_IsSeatsBy.f k t873 t870 t875).bind fun t885 => (laws_FnSeatsGiven.j0 k t870 t875 t879 (!t885))) else (laws_FnSeatsGiven.j0 k t870 t875 t879 true))) else (laws_FnSeatsGiven.j0 k t870 t875 t879 true)) else (laws_FnSeatsGiven.j0 k t870 t875 t879 true)) = some r := by rw [if_pos rfl] at H; exact H
            clear H
            have H := H1
            clear H1
            by_cases c19 : (t875.length : Int) = (t870.length : Int)
            · rw [if_pos c19] at H
              have c19b0 : ((t875.length : Int) == (t870.length : Int)) = true := beq_iff_eq.mpr c19
              have c19b1 : ((t875.length : Int) != (t870.length : Int)) = false := bne_eq_false_iff_eq.mpr c19
              have c19b2 : (t875.length == t870.length) = true := by first | simpa using c19 | (simp at c19 ⊢; omega)
              clear c19
              (first | rw [c19b0] | (simp only [i64_w, i32_w]; rw [c19b0]) | skip)
              by_cases c20 : (t879.length : Int) = (t870.length : Int)
              · rw [if_pos c20] at H
                have c20b0 : ((t879.length : Int) == (t870.length : Int)) = true := beq_iff_eq.mpr c20
                have c20b1 : ((t879.length : Int) != (t870.length : Int)) = false := bne_eq_false_iff_eq.mpr c20
                have c20b2 : (t879.length == t870.length) = true := by first | simpa using c20 | (simp at c20 ⊢; omega)
                clear c20
                replace H := Option.bind_eq_some_iff.mp H
                obtain ⟨t884, A210, H⟩ := H
                replace H : (if t884 = t874 then ((impl_IsSeatsBy.f k t873 t870 t875).bind fun t885 => (laws_FnSeatsGiven.j0 k t870 t875 t879 (!t885))) else (laws_FnSeatsGiven.j0 k t870 t875 t879 true)) = some r := H
                have A21 := Aside0.mk A210
                clear A210
                by_cases c22 : t884 = t874
                · rw [if_pos c22] at H
                  have c22b0 : (t884 == t874) = true := beq_iff_eq.mpr c22
                  have c22b1 : (t884 != t874) = false := bne_eq_false_iff_eq.mpr c22
                  clear c22
                  replace H := Option.bind_eq_some_iff.mp H
                  obtain ⟨t885, A230, H⟩ := H
                  replace H : (laws_FnSeatsGiven.j0 k t870 t875 t879 (!t885)) = some r := H
                  have A23 := Aside0.mk A230
                  clear A230
                  have H' := Aside0.mk H
                  clear H
                  as_aux_lemma =>
                    go_wp2_with (first | (go_at_call 51; (with_reducible refine (impl_ValidVotes.calls k _ _ t870 true _ ?side1 ?side2 A17.out).mono ?_); (case side1 => repeat (first | exact (Kd.R_reads' HO872.out).2.2 | (with_reducible refine Kd.C_alloc ?_ _) | (with_reducible refine Kd.C_drewN ?_ _) | (with_reducible refine Kd.C_drew ?_))); (case side2 => exact (Kd.R_reads' HO872.out).2.1); rintro e w24 ⟨rfl, hb⟩; have n0_ := Aside0.mk (Kd.R_below (by (with_reducible repeat (first | apply Kd.R_alloc | apply Kd.R_drewN | apply Kd.R_drew)); exact HO872.out) hb); have n1_ := Aside0.mk (Kd.R_below (by (with_reducible repeat (first | apply Kd.R_alloc | apply Kd.R_drewN | apply Kd.R_drew)); exact HO878.out) hb); have n2_ := Aside0.mk (Kd.R_below (by (with_reducible repeat (first | apply Kd.R_alloc | apply Kd.R_drewN | apply Kd.R_drew)); exact HO882.out) hb); have n3_ := Aside0.mk (below_step (by repeat (first | (with_reducible first | exact HB.out | apply below_alloc | apply pw_below_drewN | apply below_drew1) | exact HB.out)) hb); clear HO872; clear HO878; clear HO882; clear HB; have HO872 := n0_; have HO878 := n1_; have HO882 := n2_; have HB := n3_; clear n0_ n1_ n2_ n3_; (try clear hb); (try clear hb2); (try clear hk); (try clear hi); obtain ⟨Ao25, co25, eo25⟩ := Kd.R_slice HO878.out; subst eo25; obtain ⟨Ao26, co26, eo26⟩ := Kd.R_slice HO882.out; subst eo26) | (go_at_call 52; (with_reducible refine (laws_r8Sum.calls k _ _ t875 t884 _ ?side1 ?side2 A21.out).mono ?_); (case side1 => repeat (first | exact (Kd.R_reads' HO878.out).2.2 | (with_reducible refine Kd.C_alloc ?_ _) | (with_reducible refine Kd.C_drewN ?_ _) | (with_reducible refine Kd.C_drew ?_))); (case side2 => exact (Kd.R_reads' HO878.out).2.1); rintro e w' ⟨rfl, ⟨nd, rfl⟩⟩; (try first | exact ⟨rfl, _, World.drewN_drewN _ _ _⟩ | exact ⟨rfl, _, Eq.trans (World.drewN_drewN _ _ _) (congrArg (World.drewN _) (Nat.add_assoc _ _ _))⟩)) | (go_at_call 53; (with_reducible refine (impl_IsSeatsBy.calls k t873 _ _ t870 _ _ t875 t885 _ ?side1 ?side2 ?side3 ?side4 A23.out).mono ?_); (case side1 => repeat (first | exact (Kd.R_reads' HO872.out).2.2 | (with_reducible refine Kd.C_alloc ?_ _) | (with_reducible refine Kd.C_drewN ?_ _) | (with_reducible refine Kd.C_drew ?_))); (case side2 => exact (Kd.R_reads' HO872.out).2.1); (case side3 => repeat (first | exact (Kd.R_reads' HO878.out).2.2 | (with_reducible refine Kd.C_alloc ?_ _) | (with_reducible refine Kd.C_drewN ?_ _) | (with_reducible refine Kd.C_drew ?_))); (case side4 => exact (Kd.R_reads' HO878.out).2.1); rintro e w27 ⟨rfl, hb⟩; have n0_ := Aside0.mk (Kd.R_below (by (with_reducible repeat (first | apply Kd.R_alloc | apply Kd.R_drewN | apply Kd.R_drew)); exact HO872.out) hb); have n1_ := Aside0.mk (Kd.R_below (by (with_reducible repeat (first | apply Kd.R_alloc | apply Kd.R_drewN | apply Kd.R_drew)); exact HO878.out) hb); have n2_ := Aside0.mk (Kd.R_below (by (with_reducible repeat (first | apply Kd.R_alloc | apply Kd.R_drewN | apply Kd.R_drew)); exact HO882.out) hb); have n3_ := Aside0.mk (below_step (by repeat (first | (with_reducible first | exact HB.out | apply below_alloc | apply pw_below_drewN | apply below_drew1) | exact HB.out)) hb); clear HO872; clear HO878; clear HO882; clear HB; have HO872 := n0_; have HO878 := n1_; have HO882 := n2_; have HB := n3_; clear n0_ n1_ n2_ n3_; (try clear hb); (try clear hb2); (try clear hk); (try clear hi)))
                    repeat (go_quiet (first | (go_at_call 51; (with_reducible refine (impl_ValidVotes.calls k _ _ t870 true _ ?side1 ?side2 A17.out).mono ?_); (case side1 => repeat (first | exact (Kd.R_reads' HO872.out).2.2 | (with_reducible refine Kd.C_alloc ?_ _) | (with_reducible refine Kd.C_drewN ?_ _) | (with_reducible refine Kd.C_drew ?_))); (case side2 => exact (Kd.R_reads' HO872.out).2.1); rintro e w24 ⟨rfl, hb⟩; have n0_ := Aside0.mk (Kd.R_below (by (with_reducible repeat (first | apply Kd.R_alloc | apply Kd.R_drewN | apply Kd.R_drew)); exact HO872.out) hb); have n1_ := Aside0.mk (Kd.R_below (by (with_reducible repeat (first | apply Kd.R_alloc | apply Kd.R_drewN | apply Kd.R_drew)); exact HO878.out) hb); have n2_ := Aside0.mk (Kd.R_below (by (with_reducible repeat (first | apply Kd.R_alloc | apply Kd.R_drewN | apply Kd.R_drew)); exact HO882.out) hb); have n3_ := Aside0.mk (below_step (by repeat (first | (with_reducible first | exact HB.out | apply below_alloc | apply pw_below_drewN | apply below_drew1) | exact HB.out)) hb); clear HO872; clear HO878; clear HO882; clear HB; have HO872 := n0_; have HO878 := n1_; have HO882 := n2_; have HB := n3_; clear n0_ n1_ n2_ n3_; (try clear hb); (try clear hb2); (try clear hk); (try clear hi); obtain ⟨Ao25, co25, eo25⟩ := Kd.R_slice HO878.out; subst eo25; obtain ⟨Ao26, co26, eo26⟩ := Kd.R_slice HO882.out; subst eo26) | (go_at_call 52; (with_reducible refine (laws_r8Sum.calls k _ _ t875 t884 _ ?side1 ?side2 A21.out).mono ?_); (case side1 => repeat (first | exact (Kd.R_reads' HO878.out).2.2 | (with_reducible refine Kd.C_alloc ?_ _) | (with_reducible refine Kd.C_drewN ?_ _) | (with_reducible refine Kd.C_drew ?_))); (case side2 => exact (Kd.R_reads' HO878.out).2.1); rintro e w' ⟨rfl, ⟨nd, rfl⟩⟩; (try first | exact ⟨rfl, _, World.drewN_drewN _ _ _⟩ | exact ⟨rfl, _, Eq.trans (World.drewN_drewN _ _ _) (congrArg (World.drewN _) (Nat.add_assoc _ _ _))⟩)) | (go_at_call 53; (with_reducible refine (impl_IsSeatsBy.calls k t873 _ _ t870 _ _ t875 t885 _ ?side1 ?side2 ?side3 ?side4 A23.out).mono ?_); (case side1 => repeat (first | exact (Kd.R_reads' HO872.out).2.2 | (with_reducible refine Kd.C_alloc ?_ _) | (with_reducible refine Kd.C_drewN ?_ _) | (with_reducible refine Kd.C_drew ?_))); (case side2 => exact (Kd.R_reads' HO872.out).2.1); (case side3 => repeat (first | exact (Kd.R_reads' HO878.out).2.2 | (with_reducible refine Kd.C_alloc ?_ _) | (with_reducible refine Kd.C_drewN ?_ _) | (with_reducible refine Kd.C_drew ?_))); (case side4 => exact (Kd.R_reads' HO878.out).2.1); rintro e w27 ⟨rfl, hb⟩; have n0_ := Aside0.mk (Kd.R_below (by (with_reducible repeat (first | apply Kd.R_alloc | apply Kd.R_drewN | apply Kd.R_drew)); exact HO872.out) hb); have n1_ := Aside0.mk (Kd.R_below (by (with_reducible repeat (first | apply Kd.R_alloc | apply Kd.R_drewN | apply Kd.R_drew)); exact HO878.out) hb); have n2_ := Aside0.mk (Kd.R_below (by (with_reducible repeat (first | apply Kd.R_alloc | apply Kd.R_drewN | apply Kd.R_drew)); exact HO882.out) hb); have n3_ := Aside0.mk (below_step (by repeat (first | (with_reducible first | exact HB.out | apply below_alloc | apply pw_below_drewN | apply below_drew1) | exact HB.out)) hb); clear HO872; clear HO878; clear HO882; clear HB; have HO872 := n0_; have HO878 := n1_; have HO882 := n2_; have HB := n3_; clear n0_ n1_ n2_ n3_; (try clear hb); (try clear hb2); (try clear hk); (try clear hi))); try go_wp2_with (first | (go_at_call 51; (with_reducible refine (impl_ValidVotes.calls k _ _ t870 true _ ?side1 ?side2 A17.out).mono ?_); (case side1 => repeat (first | exact (Kd.R_reads' HO872.out).2.2 | (with_reducible refine Kd.C_alloc ?_ _) | (with_reducible refine Kd.C_drewN ?_ _) | (with_reducible refine Kd.C_drew ?_))); (case side2 => exact (Kd.R_reads' HO872.out).2.1); rintro e w24 ⟨rfl, hb⟩; have n0_ := Aside0.mk (Kd.R_below (by (with_reducible repeat (first | apply Kd.R_alloc | apply Kd.R_drewN | apply Kd.R_drew)); exact HO872.out) hb); have n1_ := Aside0.mk (Kd.R_below (by (with_reducible repeat (first | apply Kd.R_alloc | apply Kd.R_drewN | apply Kd.R_drew)); exact HO878.out) hb); have n2_ := Aside0.mk (Kd.R_below (by (with_reducible repeat (first | apply Kd.R_alloc | apply Kd.R_drewN | apply Kd.R_drew)); exact HO882.out) hb); have n3_ := Aside0.mk (below_step (by repeat (first | (with_reducible first | exact HB.out | apply below_alloc | apply pw_below_drewN | apply below_drew1) | exact HB.out)) hb); clear HO872; clear HO878; clear HO882; clear HB; have HO872 := n0_; have HO878 := n1_; have HO882 := n2_; have HB := n3_; clear n0_ n1_ n2_ n3_; (try clear hb); (try clear hb2); (try clear hk); (try clear hi); obtain ⟨Ao25, co25, eo25⟩ := Kd.R_slice HO878.out; subst eo25; obtain ⟨Ao26, co26, eo26⟩ := Kd.R_slice HO882.out; subst eo26) | (go_at_call 52; (with_reducible refine (laws_r8Sum.calls k _ _ t875 t884 _ ?side1 ?side2 A21.out).mono ?_); (case side1 => repeat (first | exact (Kd.R_reads' HO878.out).2.2 | (with_reducible refine Kd.C_alloc ?_ _) | (with_reducible refine Kd.C_drewN ?_ _) | (with_reducible refine Kd.C_drew ?_))); (case side2 => exact (Kd.R_reads' HO878.out).2.1); rintro e w' ⟨rfl, ⟨nd, rfl⟩⟩; (try first | exact ⟨rfl, _, World.drewN_drewN _ _ _⟩ | exact ⟨rfl, _, Eq.trans (World.drewN_drewN _ _ _) (congrArg (World.drewN _) (Nat.add_assoc _ _ _))⟩)) | (go_at_call 53; (with_reducible refine (impl_IsSeatsBy.calls k t873 _ _ t870 _ _ t875 t885 _ ?side1 ?side2 ?side3 ?side4 A23.out).mono ?_); (case side1 => repeat (first | exact (Kd.R_reads' HO872.out).2.2 | (with_reducible refine Kd.C_alloc ?_ _) | (with_reducible refine Kd.C_drewN ?_ _) | (with_reducible refine Kd.C_drew ?_))); (case side2 => exact (Kd.R_reads' HO872.out).2.1); (case side3 => repeat (first | exact (Kd.R_reads' HO878.out).2.2 | (with_reducible refine Kd.C_alloc ?_ _) | (with_reducible refine Kd.C_drewN ?_ _) | (with_reducible refine Kd.C_drew ?_))); (case side4 => exact (Kd.R_reads' HO878.out).2.1); rintro e w27 ⟨rfl, hb⟩; have n0_ := Aside0.mk (Kd.R_below (by (with_reducible repeat (first | apply Kd.R_alloc | apply Kd.R_drewN | apply Kd.R_drew)); exact HO872.out) hb); have n1_ := Aside0.mk (Kd.R_below (by (with_reducible repeat (first | apply Kd.R_alloc | apply Kd.R_drewN | apply Kd.R_drew)); exact HO878.out) hb); have n2_ := Aside0.mk (Kd.R_below (by (with_reducible repeat (first | apply Kd.R_alloc | apply Kd.R_drewN | apply Kd.R_drew)); exact HO882.out) hb); have n3_ := Aside0.mk (below_step (by repeat (first | (with_reducible first | exact HB.out | apply below_alloc | apply pw_below_drewN | apply below_drew1) | exact HB.out)) hb); clear HO872; clear HO878; clear HO882; clear HB; have HO872 := n0_; have HO878 := n1_; have HO882 := n2_; have HB := n3_; clear n0_ n1_ n2_ n3_; (try clear hb); (try clear hb2); (try clear hk); (try clear hi))))
                    go_meet
                    case rel => exact ⟨_, (!t885), (by first | rfl | (simp; done) | (simp [*]; done) | (simp [IntWalk.i64_left, *]; done)), H', ⟨by first | omega | exact Nat.le_refl _⟩, ⟨by (with_reducible repeat (first | apply Kd.R_alloc | apply Kd.R_drewN | apply Kd.R_drew)); exact Kd.R_mono HO872.out (fun _ hk => ⟨hk.1.2, hk.2⟩)⟩, ⟨by (with_reducible repeat (first | apply Kd.R_alloc | apply Kd.R_drewN | apply Kd.R_drew)); exact Kd.R_mono HO878.out (fun _ hk => ⟨hk.1.2, hk.2⟩)⟩, ⟨by (with_reducible repeat (first | apply Kd.R_alloc | apply Kd.R_drewN | apply Kd.R_drew)); exact Kd.R_mono HO882.out (fun _ hk => ⟨hk.1.2, hk.2⟩)⟩, ⟨by repeat (first | (with_reducible first | exact HB.out | apply below_alloc | apply pw_below_drewN | apply below_drew1) | exact HB.out)⟩⟩
                · rw [if_neg c22] at H
                  have c22b0 : (t884 == t874) = false := beq_eq_false_iff_ne.mpr c22
                  have c22b1 : (t884 != t874) = true := bne_iff_ne.mpr c22
                  have H' := Aside0.mk H
                  clear H
                  as_aux_lemma =>
                    go_wp2_with (first | (go_at_call 51; (with_reducible refine (impl_ValidVotes.calls k _ _ t870 true _ ?side1 ?side2 A17.out).mono ?_); (case side1 => repeat (first | exact (Kd.R_reads' HO872.out).2.2 | (with_reducible refine Kd.C_alloc ?_ _) | (with_reducible refine Kd.C_drewN ?_ _) | (with_reducible refine Kd.C_drew ?_))); (case side2 => exact (Kd.R_reads' HO872.out).2.1); rintro e w28 ⟨rfl, hb⟩; have n0_ := Aside0.mk (Kd.R_below (by (with_reducible repeat (first | apply Kd.R_alloc | apply Kd.R_drewN | apply Kd.R_drew)); exact HO872.out) hb); have n1_ := Aside0.mk (Kd.R_below (by (with_reducible repeat (first | apply Kd.R_alloc | apply Kd.R_drewN | apply Kd.R_drew)); exact HO878.out) hb); have n2_ := Aside0.mk (Kd.R_below (by (with_reducible repeat (first | apply Kd.R_alloc | apply Kd.R_drewN | apply Kd.R_drew)); exact HO882.out) hb); have n3_ := Aside0.mk (below_step (by repeat (first | (with_reducible first | exact HB.out | apply below_alloc | apply pw_below_drewN | apply below_drew1) | exact HB.out)) hb); clear HO872; clear HO878; clear HO882; clear HB; have HO872 := n0_; have HO878 := n1_; have HO882 := n2_; have HB := n3_; clear n0_ n1_ n2_ n3_; (try clear hb); (try clear hb2); (try clear hk); (try clear hi); obtain ⟨Ao29, co29, eo29⟩ := Kd.R_slice HO878.out; subst eo29; obtain ⟨Ao30, co30, eo30⟩ := Kd.R_slice HO882.out; subst eo30) | (go_at_call 52; (with_reducible refine (laws_r8Sum.calls k _ _ t875 t884 _ ?side1 ?side2 A21.out).mono ?_); (case side1 => repeat (first | exact (Kd.R_reads' HO878.out).2.2 | (with_reducible refine Kd.C_alloc ?_ _) | (with_reducible refine Kd.C_drewN ?_ _) | (with_reducible refine Kd.C_drew ?_))); (case side2 => exact (Kd.R_reads' HO878.out).2.1); rintro e w' ⟨rfl, ⟨nd, rfl⟩⟩; (try first | exact ⟨rfl, _, World.drewN_drewN _ _ _⟩ | exact ⟨rfl, _, Eq.trans (World.drewN_drewN _ _ _) (congrArg (World.drewN _) (Nat.add_assoc _ _ _))⟩)))
                    repeat (go_quiet (first | (go_at_call 51; (with_reducible refine (impl_ValidVotes.calls k _ _ t870 true _ ?side1 ?side2 A17.out).mono ?_); (case side1 => repeat (first | exact (Kd.R_reads' HO872.out).2.2 | (with_reducible refine Kd.C_alloc ?_ _) | (with_reducible refine Kd.C_drewN ?_ _) | (with_reducible refine Kd.C_drew ?_))); (case side2 => exact (Kd.R_reads' HO872.out).2.1); rintro e w28 ⟨rfl, hb⟩; have n0_ := Aside0.mk (Kd.R_below (by (with_reducible repeat (first | apply Kd.R_alloc | apply Kd.R_drewN | apply Kd.R_drew)); exact HO872.out) hb); have n1_ := Aside0.mk (Kd.R_below (by (with_reducible repeat (first | apply Kd.R_alloc | apply Kd.R_drewN | apply Kd.R_drew)); exact HO878.out) hb); have n2_ := Aside0.mk (Kd.R_below (by (with_reducible repeat (first | apply Kd.R_alloc | apply Kd.R_drewN | apply Kd.R_drew)); exact HO882.out) hb); have n3_ := Aside0.mk (below_step (by repeat (first | (with_reducible first | exact HB.out | apply below_alloc | apply pw_below_drewN | apply below_drew1) | exact HB.out)) hb); clear HO872; clear HO878; clear HO882; clear HB; have HO872 := n0_; have HO878 := n1_; have HO882 := n2_; have HB := n3_; clear n0_ n1_ n2_ n3_; (try clear hb); (try clear hb2); (try clear hk); (try clear hi); obtain ⟨Ao29, co29, eo29⟩ := Kd.R_slice HO878.out; subst eo29; obtain ⟨Ao30, co30, eo30⟩ := Kd.R_slice HO882.out; subst eo30) | (go_at_call 52; (with_reducible refine (laws_r8Sum.calls k _ _ t875 t884 _ ?side1 ?side2 A21.out).mono ?_); (case side1 => repeat (first | exact (Kd.R_reads' HO878.out).2.2 | (with_reducible refine Kd.C_alloc ?_ _) | (with_reducible refine Kd.C_drewN ?_ _) | (with_reducible refine Kd.C_drew ?_))); (case side2 => exact (Kd.R_reads' HO878.out).2.1); rintro e w' ⟨rfl, ⟨nd, rfl⟩⟩; (try first | exact ⟨rfl, _, World.drewN_drewN _ _ _⟩ | exact ⟨rfl, _, Eq.trans (World.drewN_drewN _ _ _) (congrArg (World.drewN _) (Nat.add_assoc _ _ _))⟩))); try go_wp2_with (first | (go_at_call 51; (with_reducible refine (impl_ValidVotes.calls k _ _ t870 true _ ?side1 ?side2 A17.out).mono ?_); (case side1 => repeat (first | exact (Kd.R_reads' HO872.out).2.2 | (with_reducible refine Kd.C_alloc ?_ _) | (with_reducible refine Kd.C_drewN ?_ _) | (with_reducible refine Kd.C_drew ?_))); (case side2 => exact (Kd.R_reads' HO872.out).2.1); rintro e w28 ⟨rfl, hb⟩; have n0_ := Aside0.mk (Kd.R_below (by (with_reducible repeat (first | apply Kd.R_alloc | apply Kd.R_drewN | apply Kd.R_drew)); exact HO872.out) hb); have n1_ := Aside0.mk (Kd.R_below (by (with_reducible repeat (first | apply Kd.R_alloc | apply Kd.R_drewN | apply Kd.R_drew)); exact HO878.out) hb); have n2_ := Aside0.mk (Kd.R_below (by (with_reducible repeat (first | apply Kd.R_alloc | apply Kd.R_drewN | apply Kd.R_drew)); exact HO882.out) hb); have n3_ := Aside0.mk (below_step (by repeat (first | (with_reducible first | exact HB.out | apply below_alloc | apply pw_below_drewN | apply below_drew1) | exact HB.out)) hb); clear HO872; clear HO878; clear HO882; clear HB; have HO872 := n0_; have HO878 := n1_; have HO882 := n2_; have HB := n3_; clear n0_ n1_ n2_ n3_; (try clear hb); (try clear hb2); (try clear hk); (try clear hi); obtain ⟨Ao29, co29, eo29⟩ := Kd.R_slice HO878.out; subst eo29; obtain ⟨Ao30, co30, eo30⟩ := Kd.R_slice HO882.out; subst eo30) | (go_at_call 52; (with_reducible refine (laws_r8Sum.calls k _ _ t875 t884 _ ?side1 ?side2 A21.out).mono ?_); (case side1 => repeat (first | exact (Kd.R_reads' HO878.out).2.2 | (with_reducible refine Kd.C_alloc ?_ _) | (with_reducible refine Kd.C_drewN ?_ _) | (with_reducible refine Kd.C_drew ?_))); (case side2 => exact (Kd.R_reads' HO878.out).2.1); rintro e w' ⟨rfl, ⟨nd, rfl⟩⟩; (try first | exact ⟨rfl, _, World.drewN_drewN _ _ _⟩ | exact ⟨rfl, _, Eq.trans (World.drewN_drewN _ _ _) (congrArg (World.drewN _) (Nat.add_assoc _ _ _))⟩))))
                    go_meet
                    case rel => exact ⟨_, (true), (by first | rfl | (simp; done) | (simp [*]; done) | (simp [IntWalk.i64_left, *]; done)), H', ⟨by first | omega | exact Nat.le_refl _⟩, ⟨by (with_reducible repeat (first | apply Kd.R_alloc | apply Kd.R_drewN | apply Kd.R_drew)); exact Kd.R_mono HO872.out (fun _ hk => ⟨hk.1.2, hk.2⟩)⟩, ⟨by (with_reducible repeat (first | apply Kd.R_alloc | apply Kd.R_drewN | apply Kd.R_drew)); exact Kd.R_mono HO878.out (fun _ hk => ⟨hk.1.2, hk.2⟩)⟩, ⟨by (with_reducible repeat (first | apply Kd.R_alloc | apply Kd.R_drewN | apply Kd.R_drew)); exact Kd.R_mono HO882.out (fun _ hk => ⟨hk.1.2, hk.2⟩)⟩, ⟨by repeat (first | (with_reducible first | exact HB.out | apply below_alloc | apply pw_below_drewN | apply below_drew1) | exact HB.out)⟩⟩
              · rw [if_neg c20] at H
                have c20b0 : ((t879.length : Int) == (t870.length : Int)) = false := beq_eq_false_iff_ne.mpr c20
                have c20b1 : ((t879.length : Int) != (t870.length : Int)) = true := bne_iff_ne.mpr c20
                have c20b2 : (t879.length == t870.length) = false := by first | simpa using c20 | (simp at c20 ⊢; omega)
                have H' := Aside0.mk H
                clear H
                as_aux_lemma =>
                  go_wp2_with (first | (go_at_call 51; (with_reducible refine (impl_ValidVotes.calls k _ _ t870 true _ ?side1 ?side2 A17.out).mono ?_); (case side1 => repeat (first | exact (Kd.R_reads' HO872.out).2.2 | (with_reducible refine Kd.C_alloc ?_ _) | (with_reducible refine Kd.C_drewN ?_ _) | (with_reducible refine Kd.C_drew ?_))); (case side2 => exact (Kd.R_reads' HO872.out).2.1); rintro e w31 ⟨rfl, hb⟩; have n0_ := Aside0.mk (Kd.R_below (by (with_reducible repeat (first | apply Kd.R_alloc | apply Kd.R_drewN | apply Kd.R_drew)); exact HO872.out) hb); have n1_ := Aside0.mk (Kd.R_below (by (with_reducible repeat (first | apply Kd.R_alloc | apply Kd.R_drewN | apply Kd.R_drew)); exact HO878.out) hb); have n2_ := Aside0.mk (Kd.R_below (by (with_reducible repeat (first | apply Kd.R_alloc | apply Kd.R_drewN | apply Kd.R_drew)); exact HO882.out) hb); have n3_ := Aside0.mk (below_step (by repeat (first | (with_reducible first | exact HB.out | apply below_alloc | apply pw_below_drewN | apply below_drew1) | exact HB.out)) hb); clear HO872; clear HO878; clear HO882; clear HB; have HO872 := n0_; have HO878 := n1_; have HO882 := n2_; have HB := n3_; clear n0_ n1_ n2_ n3_; (try clear hb); (try clear hb2); (try clear hk); (try clear hi); obtain ⟨Ao32, co32, eo32⟩ := Kd.R_slice HO878.out; subst eo32; obtain ⟨Ao33, co33, eo33⟩ := Kd.R_slice HO882.out; subst eo33))
                  repeat (go_quiet (first | (go_at_call 51; (with_reducible refine (impl_ValidVotes.calls k _ _ t870 true _ ?side1 ?side2 A17.out).mono ?_); (case side1 => repeat (first | exact (Kd.R_reads' HO872.out).2.2 | (with_reducible refine Kd.C_alloc ?_ _) | (with_reducible refine Kd.C_drewN ?_ _) | (with_reducible refine Kd.C_drew ?_))); (case side2 => exact (Kd.R_reads' HO872.out).2.1); rintro e w31 ⟨rfl, hb⟩; have n0_ := Aside0.mk (Kd.R_below (by (with_reducible repeat (first | apply Kd.R_alloc | apply Kd.R_drewN | apply Kd.R_drew)); exact HO872.out) hb); have n1_ := Aside0.mk (Kd.R_below (by (with_reducible repeat (first | apply Kd.R_alloc | apply Kd.R_drewN | apply Kd.R_drew)); exact HO878.out) hb); have n2_ := Aside0.mk (Kd.R_below (by (with_reducible repeat (first | apply Kd.R_alloc | apply Kd.R_drewN | apply Kd.R_drew)); exact HO882.out) hb); have n3_ := Aside0.mk (below_step (by repeat (first | (with_reducible first | exact HB.out | apply below_alloc | apply pw_below_drewN | apply below_drew1) | exact HB.out)) hb); clear HO872; clear HO878; clear HO882; clear HB; have HO872 := n0_; have HO878 := n1_; have HO882 := n2_; have HB := n3_; clear n0_ n1_ n2_ n3_; (try clear hb); (try clear hb2); (try clear hk); (try clear hi); obtain ⟨Ao32, co32, eo32⟩ := Kd.R_slice HO878.out; subst eo32; obtain ⟨Ao33, co33, eo33⟩ := Kd.R_slice HO882.out; subst eo33)); try go_wp2_with (first | (go_at_call 51; (with_reducible refine (impl_ValidVotes.calls k _ _ t870 true _ ?side1 ?side2 A17.out).mono ?_); (case side1 => repeat (first | exact (Kd.R_reads' HO872.out).2.2 | (with_reducible refine Kd.C_alloc ?_ _) | (with_reducible refine Kd.C_drewN ?_ _) | (with_reducible refine Kd.C_drew ?_))); (case side2 => exact (Kd.R_reads' HO872.out).2.1); rintro e w31 ⟨rfl, hb⟩; have n0_ := Aside0.mk (Kd.R_below (by (with_reducible repeat (first | apply Kd.R_alloc | apply Kd.R_drewN | apply Kd.R_drew)); exact HO872.out) hb); have n1_ := Aside0.mk (Kd.R_below (by (with_reducible repeat (first | apply Kd.R_alloc | apply Kd.R_drewN | apply Kd.R_drew)); exact HO878.out) hb); have n2_ := Aside0.mk (Kd.R_below (by (with_reducible repeat (first | apply Kd.R_alloc | apply Kd.R_drewN | apply Kd.R_drew)); exact HO882.out) hb); have n3_ := Aside0.mk (below_step (by repeat (first | (with_reducible first | exact HB.out | apply below_alloc | apply pw_below_drewN | apply below_drew1) | exact HB.out)) hb); clear HO872; clear HO878; clear HO882; clear HB; have HO872 := n0_; have HO878 := n1_; have HO882 := n2_; have HB := n3_; clear n0_ n1_ n2_ n3_; (try clear hb); (try clear hb2); (try clear hk); (try clear hi); obtain ⟨Ao32, co32, eo32⟩ := Kd.R_slice HO878.out; subst eo32; obtain ⟨Ao33, co33, eo33⟩ := Kd.R_slice HO882.out; subst eo33)))
                  go_meet
                  case rel => exact ⟨_, (true), (by first | rfl | (simp; done) | (simp [*]; done) | (simp [IntWalk.i64_left, *]; done)), H', ⟨by first | omega | exact Nat.le_refl _⟩, ⟨by (with_reducible repeat (first | apply Kd.R_alloc | apply Kd.R_drewN | apply Kd.R_drew)); exact Kd.R_mono HO872.out (fun _ hk => ⟨hk.1.2, hk.2⟩)⟩, ⟨by (with_reducible repeat (first | apply Kd.R_alloc | apply Kd.R_drewN | apply Kd.R_drew)); exact Kd.R_mono HO878.out (fun _ hk => ⟨hk.1.2, hk.2⟩)⟩, ⟨by (with_reducible repeat (first | apply Kd.R_alloc | apply Kd.R_drewN | apply Kd.R_drew)); exact Kd.R_mono HO882.out (fun _ hk => ⟨hk.1.2, hk.2⟩)⟩, ⟨by repeat (first | (with_reducible first | exact HB.out | apply below_alloc | apply pw_below_drewN | apply below_drew1) | exact HB.out)⟩⟩
            · rw [if_neg c19] at H
              have c19b0 : ((t875.length : Int) == (t870.length : Int)) = false := beq_eq_false_iff_ne.mpr c19
              have c19b1 : ((t875.length : Int) != (t870.length : Int)) = true := bne_iff_ne.mpr c19
              have c19b2 : (t875.length == t870.length) = false := by first | simpa using c19 | (simp at c19 ⊢; omega)
              (first | rw [c19b0] | (simp only [i64_w, i32_w]; rw [c19b0]) | skip)
              have H' := Aside0.mk H
              clear H
              as_aux_lemma =>
                go_wp2_with (first | (go_at_call 51; (with_reducible refine (impl_ValidVotes.calls k _ _ t870 true _ ?side1 ?side2 A17.out).mono ?_); (case side1 => repeat (first | exact (Kd.R_reads' HO872.out).2.2 | (with_reducible refine Kd.C_alloc ?_ _) | (with_reducible refine Kd.C_drewN ?_ _) | (with_reducible refine Kd.C_drew ?_))); (case side2 => exact (Kd.R_reads' HO872.out).2.1); rintro e w34 ⟨rfl, hb⟩; have n0_ := Aside0.mk (Kd.R_below (by (with_reducible repeat (first | apply Kd.R_alloc | apply Kd.R_drewN | apply Kd.R_drew)); exact HO872.out) hb); have n1_ := Aside0.mk (Kd.R_below (by (with_reducible repeat (first | apply Kd.R_alloc | apply Kd.R_drewN | apply Kd.R_drew)); exact HO878.out) hb); have n2_ := Aside0.mk (Kd.R_below (by (with_reducible repeat (first | apply Kd.R_alloc | apply Kd.R_drewN | apply Kd.R_drew)); exact HO882.out) hb); have n3_ := Aside0.mk (below_step (by repeat (first | (with_reducible first | exact HB.out | apply below_alloc | apply pw_below_drewN | apply below_drew1) | exact HB.out)) hb); clear HO872; clear HO878; clear HO882; clear HB; have HO872 := n0_; have HO878 := n1_; have HO882 := n2_; have HB := n3_; clear n0_ n1_ n2_ n3_; (try clear hb); (try clear hb2); (try clear hk); (try clear hi); obtain ⟨Ao35, co35, eo35⟩ := Kd.R_slice HO878.out; subst eo35))
                repeat (go_quiet (first | (go_at_call 51; (with_reducible refine (impl_ValidVotes.calls k _ _ t870 true _ ?side1 ?side2 A17.out).mono ?_); (case side1 => repeat (first | exact (Kd.R_reads' HO872.out).2.2 | (with_reducible refine Kd.C_alloc ?_ _) | (with_reducible refine Kd.C_drewN ?_ _) | (with_reducible refine Kd.C_drew ?_))); (case side2 => exact (Kd.R_reads' HO872.out).2.1); rintro e w34 ⟨rfl, hb⟩; have n0_ := Aside0.mk (Kd.R_below (by (with_reducible repeat (first | apply Kd.R_alloc | apply Kd.R_drewN | apply Kd.R_drew)); exact HO872.out) hb); have n1_ := Aside0.mk (Kd.R_below (by (with_reducible repeat (first | apply Kd.R_alloc | apply Kd.R_drewN | apply Kd.R_drew)); exact HO878.out) hb); have n2_ := Aside0.mk (Kd.R_below (by (with_reducible repeat (first | apply Kd.R_alloc | apply Kd.R_drewN | apply Kd.R_drew)); exact HO882.out) hb); have n3_ := Aside0.mk (below_step (by repeat (first | (with_reducible first | exact HB.out | apply below_alloc | apply pw_below_drewN | apply below_drew1) | exact HB.out)) hb); clear HO872; clear HO878; clear HO882; clear HB; have HO872 := n0_; have HO878 := n1_; have HO882 := n2_; have HB := n3_; clear n0_ n1_ n2_ n3_; (try clear hb); (try clear hb2); (try clear hk); (try clear hi); obtain ⟨Ao35, co35, eo35⟩ := Kd.R_slice HO878.out; subst eo35)); try go_wp2_with (first | (go_at_call 51; (with_reducible refine (impl_ValidVotes.calls k _ _ t870 true _ ?side1 ?side2 A17.out).mono ?_); (case side1 => repeat (first | exact (Kd.R_reads' HO872.out).2.2 | (with_reducible refine Kd.C_alloc ?_ _) | (with_reducible refine Kd.C_drewN ?_ _) | (with_reducible refine Kd.C_drew ?_))); (case side2 => exact (Kd.R_reads' HO872.out).2.1); rintro e w34 ⟨rfl, hb⟩; have n0_ := Aside0.mk (Kd.R_below (by (with_reducible repeat (first | apply Kd.R_alloc | apply Kd.R_drewN | apply Kd.R_drew)); exact HO872.out) hb); have n1_ := Aside0.mk (Kd.R_below (by (with_reducible repeat (first | apply Kd.R_alloc | apply Kd.R_drewN | apply Kd.R_drew)); exact HO878.out) hb); have n2_ := Aside0.mk (Kd.R_below (by (with_reducible repeat (first | apply Kd.R_alloc | apply Kd.R_drewN | apply Kd.R_drew)); exact HO882.out) hb); have n3_ := Aside0.mk (below_step (by repeat (first | (with_reducible first | exact HB.out | apply below_alloc | apply pw_below_drewN | apply below_drew1) | exact HB.out)) hb); clear HO872; clear HO878; clear HO882; clear HB; have HO872 := n0_; have HO878 := n1_; have HO882 := n2_; have HB := n3_; clear n0_ n1_ n2_ n3_; (try clear hb); (try clear hb2); (try clear hk); (try clear hi); obtain ⟨Ao35, co35, eo35⟩ := Kd.R_slice HO878.out; subst eo35)))
                go_meet
                case rel => exact ⟨_, (true), (by first | rfl | (simp; done) | (simp [*]; done) | (simp [IntWalk.i64_left, *]; done)), H', ⟨by first | omega | exact Nat.le_refl _⟩, ⟨by (with_reducible repeat (first | apply Kd.R_alloc | apply Kd.R_drewN | apply Kd.R_drew)); exact Kd.R_mono HO872.out (fun _ hk => ⟨hk.1.2, hk.2⟩)⟩, ⟨by (with_reducible repeat (first | apply Kd.R_alloc | apply Kd.R_drewN | apply Kd.R_drew)); exact Kd.R_mono HO878.out (fun _ hk => ⟨hk.1.2, hk.2⟩)⟩, ⟨by (with_reducible repeat (first | apply Kd.R_alloc | apply Kd.R_drewN | apply Kd.R_drew)); exact Kd.R_mono HO882.out (fun _ hk => ⟨hk.1.2, hk.2⟩)⟩, ⟨by repeat (first | (with_reducible first | exact HB.out | apply below_alloc | apply pw_below_drewN | apply below_drew1) | exact HB.out)⟩⟩
          · replace c18 := Bool.eq_false_iff.mpr c18
            subst c18
            have H1 : (laws_FnSeatsGiven.j0 k t870 t875 t879 true) = some r := by rw [if_neg (show ¬ (false = true) by decide)] at H; exact H
            clear H
            have H := H1
            clear H1
            have H' := Aside0.mk H
            clear H
            as_aux_lemma =>
              go_wp2_with (first | (go_at_call 51; (with_reducible refine (impl_ValidVotes.calls k _ _ t870 false _ ?side1 ?side2 A17.out).mono ?_); (case side1 => repeat (first | exact (Kd.R_reads' HO872.out).2.2 | (with_reducible refine Kd.C_alloc ?_ _) | (with_reducible refine Kd.C_drewN ?_ _) | (with_reducible refine Kd.C_drew ?_))); (case side2 => exact (Kd.R_reads' HO872.out).2.1); rintro e w36 ⟨rfl, hb⟩; have n0_ := Aside0.mk (Kd.R_below (by (with_reducible repeat (first | apply Kd.R_alloc | apply Kd.R_drewN | apply Kd.R_drew)); exact HO872.out) hb); have n1_ := Aside0.mk (Kd.R_below (by (with_reducible repeat (first | apply Kd.R_alloc | apply Kd.R_drewN | apply Kd.R_drew)); exact HO878.out) hb); have n2_ := Aside0.mk (Kd.R_below (by (with_reducible repeat (first | apply Kd.R_alloc | apply Kd.R_drewN | apply Kd.R_drew)); exact HO882.out) hb); have n3_ := Aside0.mk (below_step (by repeat (first | (with_reducible first | exact HB.out | apply below_alloc | apply pw_below_drewN | apply below_drew1) | exact HB.out)) hb); clear HO872; clear HO878; clear HO882; clear HB; have HO872 := n0_; have HO878 := n1_; have HO882 := n2_; have HB := n3_; clear n0_ n1_ n2_ n3_; (try clear hb); (try clear hb2); (try clear hk); (try clear hi)))
              repeat (go_quiet (first | (go_at_call 51; (with_reducible refine (impl_ValidVotes.calls k _ _ t870 false _ ?side1 ?side2 A17.out).mono ?_); (case side1 => repeat (first | exact (Kd.R_reads' HO872.out).2.2 | (with_reducible refine Kd.C_alloc ?_ _) | (with_reducible refine Kd.C_drewN ?_ _) | (with_reducible refine Kd.C_drew ?_))); (case side2 => exact (Kd.R_reads' HO872.out).2.1); rintro e w36 ⟨rfl, hb⟩; have n0_ := Aside0.mk (Kd.R_below (by (with_reducible repeat (first | apply Kd.R_alloc | apply Kd.R_drewN | apply Kd.R_drew)); exact HO872.out) hb); have n1_ := Aside0.mk (Kd.R_below (by (with_reducible repeat (first | apply Kd.R_alloc | apply Kd.R_drewN | apply Kd.R_drew)); exact HO878.out) hb); have n2_ := Aside0.mk (Kd.R_below (by (with_reducible repeat (first | apply Kd.R_alloc | apply Kd.R_drewN | apply Kd.R_drew)); exact HO882.out) hb); have n3_ := Aside0.mk (below_step (by repeat (first | (with_reducible first | exact HB.out | apply below_alloc | apply pw_below_drewN | apply below_drew1) | exact HB.out)) hb); clear HO872; clear HO878; clear HO882; clear HB; have HO872 := n0_; have HO878 := n1_; have HO882 := n2_; have HB := n3_; clear n0_ n1_ n2_ n3_; (try clear hb); (try clear hb2); (try clear hk); (try clear hi))); try go_wp2_with (first | (go_at_call 51; (with_reducible refine (impl_ValidVotes.calls k _ _ t870 false _ ?side1 ?side2 A17.out).mono ?_); (case side1 => repeat (first | exact (Kd.R_reads' HO872.out).2.2 | (with_reducible refine Kd.C_alloc ?_ _) | (with_reducible refine Kd.C_drewN ?_ _) | (with_reducible refine Kd.C_drew ?_))); (case side2 => exact (Kd.R_reads' HO872.out).2.1); rintro e w36 ⟨rfl, hb⟩; have n0_ := Aside0.mk (Kd.R_below (by (with_reducible repeat (first | apply Kd.R_alloc | apply Kd.R_drewN | apply Kd.R_drew)); exact HO872.out) hb); have n1_ := Aside0.mk (Kd.R_below (by (with_reducible repeat (first | apply Kd.R_alloc | apply Kd.R_drewN | apply Kd.R_drew)); exact HO878.out) hb); have n2_ := Aside0.mk (Kd.R_below (by (with_reducible repeat (first | apply Kd.R_alloc | apply Kd.R_drewN | apply Kd.R_drew)); exact HO882.out) hb); have n3_ := Aside0.mk (below_step (by repeat (first | (with_reducible first | exact HB.out | apply below_alloc | apply pw_below_drewN | apply below_drew1) | exact HB.out)) hb); clear HO872; clear HO878; clear HO882; clear HB; have HO872 := n0_; have HO878 := n1_; have HO882 := n2_; have HB := n3_; clear n0_ n1_ n2_ n3_; (try clear hb); (try clear hb2); (try clear hk); (try clear hi))))
              go_meet
              case rel => exact ⟨_, (true), (by first | rfl | (simp; done) | (simp [*]; done) | (simp [IntWalk.i64_left, *]; done)), H', ⟨by first | omega | exact Nat.le_refl _⟩, ⟨by (with_reducible repeat (first | apply Kd.R_alloc | apply Kd.R_drewN | apply Kd.R_drew)); exact Kd.R_mono HO872.out (fun _ hk => ⟨hk.1.2, hk.2⟩)⟩, ⟨by (with_reducible repeat (first | apply Kd.R_alloc | apply Kd.R_drewN | apply Kd.R_drew)); exact Kd.R_mono HO878.out (fun _ hk => ⟨hk.1.2, hk.2⟩)⟩, ⟨by (with_reducible repeat (first | apply Kd.R_alloc | apply Kd.R_drewN | apply Kd.R_drew)); exact Kd.R_mono HO882.out (fun _ hk => ⟨hk.1.2, hk.2⟩)⟩, ⟨by repeat (first | (with_reducible first | exact HB.out | apply below_alloc | apply pw_below_drewN | apply below_drew1) | exact HB.out)⟩⟩
        · replace c16 := Bool.eq_false_iff.mpr c16
          subst c16
          have H1 : (laws_FnSeatsGiven.j0 k t870 t875 t879 true) = some r := by rw [if_neg (show ¬ (false = true) by decide)] at H; exact H
          clear H
          have H := H1
          clear H1
          have H' := Aside0.mk H
          clear H
          as_aux_lemma =>
            go_wp2
            repeat (go_quiet (fail); try go_wp2)
            go_meet
            case rel => exact ⟨_, (true), (by first | rfl | (simp; done) | (simp [*]; done) | (simp [IntWalk.i64_left, *]; done)), H', ⟨by first | omega | exact Nat.le_refl _⟩, ⟨by (with_reducible repeat (first | apply Kd.R_alloc | apply Kd.R_drewN | apply Kd.R_drew)); exact Kd.R_mono HO872.out (fun _ hk => ⟨hk.1.2, hk.2⟩)⟩, ⟨by (with_reducible repeat (first | apply Kd.R_alloc | apply Kd.R_drewN | apply Kd.R_drew)); exact Kd.R_mono HO878.out (fun _ hk => ⟨hk.1.2, hk.2⟩)⟩, ⟨by (with_reducible repeat (first | apply Kd.R_alloc | apply Kd.R_drewN | apply Kd.R_drew)); exact Kd.R_mono HO882.out (fun _ hk => ⟨hk.1.2, hk.2⟩)⟩, ⟨by repeat (first | (with_reducible first | exact HB.out | apply below_alloc | apply pw_below_drewN | apply below_drew1) | exact HB.out)⟩⟩
      · replace c15 := Bool.eq_false_iff.mpr c15
        subst c15
        have H1 : (laws_FnSeatsGiven.j0 k t870 t875 t879 true) = some r := by rw [if_neg (show ¬ (false = true) by decide)] at H; exact H
        clear H
        have H := H1
        clear H1
        have H' := Aside0.mk H
        clear H
        as_aux_lemma =>
          go_wp2
          repeat (go_quiet (fail); try go_wp2)
          go_meet
          case rel => exact ⟨_, (true), (by first | rfl | (simp; done) | (simp [*]; done) | (simp [IntWalk.i64_left, *]; done)), H', ⟨by first | omega | exact Nat.le_refl _⟩, ⟨by (with_reducible repeat (first | apply Kd.R_alloc | apply Kd.R_drewN | apply Kd.R_drew)); exact Kd.R_mono HO872.out (fun _ hk => ⟨hk.1.2, hk.2⟩)⟩, ⟨by (with_reducible repeat (first | apply Kd.R_alloc | apply Kd.R_drewN | apply Kd.R_drew)); exact Kd.R_mono HO878.out (fun _ hk => ⟨hk.1.2, hk.2⟩)⟩, ⟨by (with_reducible repeat (first | apply Kd.R_alloc | apply Kd.R_drewN | apply Kd.R_drew)); exact Kd.R_mono HO882.out (fun _ hk => ⟨hk.1.2, hk.2⟩)⟩, ⟨by repeat (first | (with_reducible first | exact HB.out | apply below_alloc | apply pw_below_drewN | apply below_drew1) | exact HB.out)⟩⟩
    case rest =>
      clear HC10
      try clear c1
      try clear c2
      try clear p2
      try clear c4
      try clear p6
      try clear c14
      try clear c15
      try clear c16
      try clear c18
      try clear c19
      try clear c19b0
      try clear c19b1
      try clear c19b2
      try clear c20
      try clear c20b0
      try clear c20b1
      try clear c20b2
      try clear c22
      try clear c22b0
      try clear c22b1
      obtain ⟨kq, x75_9, rfl, HA, HJ9, HO_5, HO_8, HO_10, HB⟩ := hcut
      cases kq with
      | zero => exact absurd HA.out (by simp [laws_FnSeatsGiven.j0])
      | succ kj9 =>
        have H := HA.out
        clear HA
        simp only [laws_FnSeatsGiven.j0] at H
        by_cases c37 : x75_9 = true
        · subst c37
          have H1 : (some false) = some r := by rw [if_pos rfl] at H; exact H
          clear H
          have H := H1
          clear H1
          obtain rfl := Option.some.inj H
          as_aux_lemma =>
            go_wp2
            repeat (go_quiet (fail); try go_wp2)
            go_ret
            exact ⟨by first | rfl | (simp [errW_none, errW_some] <;> rfl) | (simp [*, errW_none, errW_some] <;> rfl), by repeat (first | (with_reducible first | exact HB.out | apply below_alloc | apply pw_below_drewN | apply below_drew1) | exact HB.out)⟩
        · replace c37 := Bool.eq_false_iff.mpr c37
          subst c37
          have H1 : (laws_FnSeatsGiven.l0 kj9 t870 t875 t879 0 0) = some r := by rw [if_neg (show ¬ (false = true) by decide)] at H; exact H
          clear H
          have H := H1
          clear H1
          have H' := Aside0.mk H
          clear H
          go_wp2
          repeat (go_quiet (fail); try go_wp2)
          go_loopg [12, 13] kj9 (fun kq v12 v13 w' => ∃ (x12_2 : Int) (x13_2 : Int), v12 = .int .i64 x12_2 ∧ v13 = .int .i64 x13_2 ∧ Aside0 (laws_FnSeatsGiven.l0 kq t870 t875 t879 x12_2 x13_2 = some r) ∧ Aside0 (kq ≤ kj9) ∧ Aside0 (Kd.R (Kd.int .i64) 2 w' w.heap.size (fun k_ => some k_ ≠ (v877 : Value).ownBlock ∧ some k_ ≠ (v881 : Value).ownBlock) (.slice Ao12 t870.length co12) t870) ∧ Aside0 (Kd.R (Kd.int .i64) 2 w' w.heap.size (fun k_ => some k_ ≠ ((.slice Ao12 t870.length co12) : Value).ownBlock ∧ some k_ ≠ (v881 : Value).ownBlock) v877 t875) ∧ Aside0 (Kd.R (Kd.int .i64) 2 w' w.heap.size (fun k_ => some k_ ≠ ((.slice Ao12 t870.length co12) : Value).ownBlock ∧ some k_ ≠ (v877 : Value).ownBlock) v881 t879) ∧ Aside0 (Below w.heap.size w w'))
          case atStart => exact ⟨(0), (0), (by first | rfl | (simp; done) | (simp [*]; done) | (simp [IntWalk.i64_left, *]; done)), (by first | rfl | (simp; done) | (simp [*]; done) | (simp [IntWalk.i64_left, *]; done)), H', ⟨Nat.le_refl _⟩, ⟨by (with_reducible repeat (first | apply Kd.R_alloc | apply Kd.R_drewN | apply Kd.R_drew)); exact HO_5.out⟩, ⟨by (with_reducible repeat (first | apply Kd.R_alloc | apply Kd.R_drewN | apply Kd.R_drew)); exact HO_8.out⟩, ⟨by (with_reducible repeat (first | apply Kd.R_alloc | apply Kd.R_drewN | apply Kd.R_drew)); exact HO_10.out⟩, ⟨by repeat (first | (with_reducible first | exact HB.out | apply below_alloc | apply pw_below_drewN | apply below_drew1) | exact HB.out)⟩⟩
          case round =>
            clear H'
            try clear c1
            try clear c2
            try clear p2
            try clear c3
            try clear c4
            try clear p6
            try clear c14
            try clear c15
            try clear c16
            try clear c18
            try clear c19
            try clear c19b0
            try clear c19b1
            try clear c19b2
            try clear c20
            try clear c20b0
            try clear c20b1
            try clear c20b2
            try clear c22
            try clear c22b0
            try clear c22b1
            try clear c37
            try clear p2
            try clear p6
            obtain ⟨x12_2, x13_2, rfl, rfl, HA, HK2, HO_5, HO_8, HO_10, HB⟩ := hrel
            cases gk with
            | zero => exact absurd HA.out (by simp [laws_FnSeatsGiven.l0])
            | succ k2 =>
              have H := HA.out
              clear HA
              simp only [laws_FnSeatsGiven.l0] at H
              by_cases c38 : x13_2 < (t875.length : Int)
              · rw [if_pos c38] at H
                have c38b0 : decide (x13_2 < (t875.length : Int)) = true := decide_eq_true c38
                clear c38
                by_cases c39 : 0 ≤ x13_2
                · rw [if_pos c39] at H
                  have c39b0 : decide (0 ≤ x13_2) = true := decide_eq_true c39
                  clear c39
                  by_cases c40 : x13_2 < (t879.length : Int)
                  · rw [if_pos c40] at H
                    have c40b0 : decide (x13_2 < (t879.length : Int)) = true := decide_eq_true c40
                    clear c40
                    by_cases c41 : (rd t879 x13_2) = (wrap64 ((rd t875 x13_2) + 1))
                    · rw [if_pos c41] at H
                      have c41b0 : ((rd t879 x13_2) == (wrap64 ((rd t875 x13_2) + 1))) = true := beq_iff_eq.mpr c41
                      have c41b1 : ((rd t879 x13_2) != (wrap64 ((rd t875 x13_2) + 1))) = false := bne_eq_false_iff_eq.mpr c41
                      clear c41
                      by_cases c42 : x13_2 < (t870.length : Int)
                      · rw [if_pos c42] at H
                        have c42b0 : decide (x13_2 < (t870.length : Int)) = true := decide_eq_true c42
                        clear c42
                        by_cases c43 : (rd t870 x13_2) = 0
                        · rw [if_pos c43] at H
                          have c43b0 : ((rd t870 x13_2) == 0) = true := beq_iff_eq.mpr c43
                          have c43b1 : ((rd t870 x13_2) != 0) = false := bne_eq_false_iff_eq.mpr c43
                          clear c43
                          by_cases c44 : (rd t875 x13_2) > 0
                          · rw [if_pos c44] at H
                            have c44b0 : decide (0 < (rd t875 x13_2)) = true := decide_eq_true c44
                            clear c44
                            obtain rfl := Option.some.inj H
                            obtain ⟨Ao45, co45, eo45⟩ := Kd.R_slice HO_8.out
                            subst eo45
                            obtain ⟨Ao46, co46, eo46⟩ := Kd.R_slice HO_10.out
                            subst eo46
                            have p886 : 0 ≤ (x13_2 : Int) := of_decide_eq_true (by first | (with_reducible assumption) | assumption)
                            have q886 : x13_2 < (t879.length : Int) := of_decide_eq_true (by first | (with_reducible assumption) | assumption)
                            obtain ⟨ad886, e886, hx886_0⟩ := Kd.at_int (Kd.R_reads' HO_10.out).2.2 x13_2 p886 q886
                            cases e886
                            replace p886 := eq_true p886
                            replace q886 := eq_true q886
                            have p887 : 0 ≤ (x13_2 : Int) := of_decide_eq_true (by first | (with_reducible assumption) | assumption)
                            have q887 : x13_2 < (t875.length : Int) := of_decide_eq_true (by first | (with_reducible assumption) | assumption)
                            obtain ⟨ad887, e887, hx887_0⟩ := Kd.at_int (Kd.R_reads' HO_8.out).2.2 x13_2 p887 q887
                            cases e887
                            replace p887 := eq_true p887
                            replace q887 := eq_true q887
                            have p888 : 0 ≤ (x13_2 : Int) := of_decide_eq_true (by first | (with_reducible assumption) | assumption)
                            have q888 : x13_2 < (t870.length : Int) := of_decide_eq_true (by first | (with_reducible assumption) | assumption)
                            obtain ⟨ad888, e888, hx888_0⟩ := Kd.at_int (Kd.R_reads' HO_5.out).2.2 x13_2 p888 q888
                            cases e888
                            replace p888 := eq_true p888
                            replace q888 := eq_true q888
                            have p889 : 0 ≤ (x13_2 : Int) := of_decide_eq_true (by first | (with_reducible assumption) | assumption)
                            have q889 : x13_2 < (t875.length : Int) := of_decide_eq_true (by first | (with_reducible assumption) | assumption)
                            obtain ⟨ad889, e889, hx889_0⟩ := Kd.at_int (Kd.R_reads' HO_8.out).2.2 x13_2 p889 q889
                            obtain rfl : ad887 = ad889 := (by injection e889)
                            replace p889 := eq_true p889
                            replace q889 := eq_true q889
                            as_aux_lemma =>
                              go_wp2
                              repeat (go_quiet (fail); try go_wp2)
                              go_ret
                              exact ⟨by first | rfl | (simp [errW_none, errW_some] <;> rfl) | (simp [*, errW_none, errW_some] <;> rfl), by repeat (first | (with_reducible first | exact HB.out | apply below_alloc | apply pw_below_drewN | apply below_drew1) | exact HB.out)⟩
                          · rw [if_neg c44] at H
                            have c44b0 : decide (0 < (rd t875 x13_2)) = false := decide_eq_false c44
                            clear c44
                            have H' := Aside0.mk H
                            clear H
                            obtain ⟨Ao47, co47, eo47⟩ := Kd.R_slice HO_8.out
                            subst eo47
                            obtain ⟨Ao48, co48, eo48⟩ := Kd.R_slice HO_10.out
                            subst eo48
                            have p886 : 0 ≤ (x13_2 : Int) := of_decide_eq_true (by first | (with_reducible assumption) | assumption)
                            have q886 : x13_2 < (t879.length : Int) := of_decide_eq_true (by first | (with_reducible assumption) | assumption)
                            obtain ⟨ad886, e886, hx886_0⟩ := Kd.at_int (Kd.R_reads' HO_10.out).2.2 x13_2 p886 q886
                            cases e886
                            replace p886 := eq_true p886
                            replace q886 := eq_true q886
                            have p887 : 0 ≤ (x13_2 : Int) := of_decide_eq_true (by first | (with_reducible assumption) | assumption)
                            have q887 : x13_2 < (t875.length : Int) := of_decide_eq_true (by first | (with_reducible assumption) | assumption)
                            obtain ⟨ad887, e887, hx887_0⟩ := Kd.at_int (Kd.R_reads' HO_8.out).2.2 x13_2 p887 q887
                            cases e887
                            replace p887 := eq_true p887
                            replace q887 := eq_true q887
                            have p888 : 0 ≤ (x13_2 : Int) := of_decide_eq_true (by first | (with_reducible assumption) | assumption)
                            have q888 : x13_2 < (t870.length : Int) := of_decide_eq_true (by first | (with_reducible assumption) | assumption)
                            obtain ⟨ad888, e888, hx888_0⟩ := Kd.at_int (Kd.R_reads' HO_5.out).2.2 x13_2 p888 q888
                            cases e888
                            replace p888 := eq_true p888
                            replace q888 := eq_true q888
                            have p889 : 0 ≤ (x13_2 : Int) := of_decide_eq_true (by first | (with_reducible assumption) | assumption)
                            have q889 : x13_2 < (t875.length : Int) := of_decide_eq_true (by first | (with_reducible assumption) | assumption)
                            obtain ⟨ad889, e889, hx889_0⟩ := Kd.at_int (Kd.R_reads' HO_8.out).2.2 x13_2 p889 q889
                            obtain rfl : ad887 = ad889 := (by injection e889)
                            replace p889 := eq_true p889
                            replace q889 := eq_true q889
                            as_aux_lemma =>
                              go_wp2
                              repeat (go_quiet (fail); try go_wp2)
                              go_roundg k2
                              case measure => have := HJ9.out; have := HK2.out; omega
                              case rel => exact ⟨(wrap64 (x12_2 + 1)), (wrap64 (x13_2 + 1)), (by first | rfl | (simp; done) | (simp [*]; done) | (simp [IntWalk.i64_left, *]; done)), (by first | rfl | (simp; done) | (simp [*]; done) | (simp [IntWalk.i64_left, *]; done)), H', ⟨by have := HJ9.out; have := HK2.out; omega⟩, ⟨by (with_reducible repeat (first | apply Kd.R_alloc | apply Kd.R_drewN | apply Kd.R_drew)); exact HO_5.out⟩, ⟨by (with_reducible repeat (first | apply Kd.R_alloc | apply Kd.R_drewN | apply Kd.R_drew)); exact HO_8.out⟩, ⟨by (with_reducible repeat (first | apply Kd.R_alloc | apply Kd.R_drewN | apply Kd.R_drew)); exact HO_10.out⟩, ⟨by repeat (first | (with_reducible first | exact HB.out | apply below_alloc | apply pw_below_drewN | apply below_drew1) | exact HB.out)⟩⟩
                        · rw [if_neg c43] at H
                          have c43b0 : ((rd t870 x13_2) == 0) = false := beq_eq_false_iff_ne.mpr c43
                          have c43b1 : ((rd t870 x13_2) != 0) = true := bne_iff_ne.mpr c43
                          have H' := Aside0.mk H
                          clear H
                          obtain ⟨Ao49, co49, eo49⟩ := Kd.R_slice HO_8.out
                          subst eo49
                          obtain ⟨Ao50, co50, eo50⟩ := Kd.R_slice HO_10.out
                          subst eo50
                          have p886 : 0 ≤ (x13_2 : Int) := of_decide_eq_true (by first | (with_reducible assumption) | assumption)
                          have q886 : x13_2 < (t879.length : Int) := of_decide_eq_true (by first | (with_reducible assumption) | assumption)
                          obtain ⟨ad886, e886, hx886_0⟩ := Kd.at_int (Kd.R_reads' HO_10.out).2.2 x13_2 p886 q886
                          cases e886
                          replace p886 := eq_true p886
                          replace q886 := eq_true q886
                          have p887 : 0 ≤ (x13_2 : Int) := of_decide_eq_true (by first | (with_reducible assumption) | assumption)
                          have q887 : x13_2 < (t875.length : Int) := of_decide_eq_true (by first | (with_reducible assumption) | assumption)
                          obtain ⟨ad887, e887, hx887_0⟩ := Kd.at_int (Kd.R_reads' HO_8.out).2.2 x13_2 p887 q887
                          cases e887
                          replace p887 := eq_true p887
                          replace q887 := eq_true q887
                          have p888 : 0 ≤ (x13_2 : Int) := of_decide_eq_true (by first | (with_reducible assumption) | assumption)
                          have q888 : x13_2 < (t870.length : Int) := of_decide_eq_true (by first | (with_reducible assumption) | assumption)
                          obtain ⟨ad888, e888, hx888_0⟩ := Kd.at_int (Kd.R_reads' HO_5.out).2.2 x13_2 p888 q888
                          cases e888
                          replace p888 := eq_true p888
                          replace q888 := eq_true q888
                          as_aux_lemma =>
                            go_wp2
                            repeat (go_quiet (fail); try go_wp2)
                            go_roundg k2
                            case measure => have := HJ9.out; have := HK2.out; omega
                            case rel => exact ⟨(wrap64 (x12_2 + 1)), (wrap64 (x13_2 + 1)), (by first | rfl | (simp; done) | (simp [*]; done) | (simp [IntWalk.i64_left, *]; done)), (by first | rfl | (simp; done) | (simp [*]; done) | (simp [IntWalk.i64_left, *]; done)), H', ⟨by have := HJ9.out; have := HK2.out; omega⟩, ⟨by (with_reducible repeat (first | apply Kd.R_alloc | apply Kd.R_drewN | apply Kd.R_drew)); exact HO_5.out⟩, ⟨by (with_reducible repeat (first | apply Kd.R_alloc | apply Kd.R_drewN | apply Kd.R_drew)); exact HO_8.out⟩, ⟨by (with_reducible repeat (first | apply Kd.R_alloc | apply Kd.R_drewN | apply Kd.R_drew)); exact HO_10.out⟩, ⟨by repeat (first | (with_reducible first | exact HB.out | apply below_alloc | apply pw_below_drewN | apply below_drew1) | exact HB.out)⟩⟩
                      · rw [if_neg c42] at H
                        exact absurd H (by simp)
                    · rw [if_neg c41] at H
                      have c41b0 : ((rd t879 x13_2) == (wrap64 ((rd t875 x13_2) + 1))) = false := beq_eq_false_iff_ne.mpr c41
                      have c41b1 : ((rd t879 x13_2) != (wrap64 ((rd t875 x13_2) + 1))) = true := bne_iff_ne.mpr c41
                      by_cases c51 : (rd t879 x13_2) = (rd t875 x13_2)
                      · rw [if_pos c51] at H
                        have c51b0 : ((rd t879 x13_2) == (rd t875 x13_2)) = true := beq_iff_eq.mpr c51
                        have c51b1 : ((rd t879 x13_2) != (rd t875 x13_2)) = false := bne_eq_false_iff_eq.mpr c51
                        clear c51
                        by_cases c52 : x13_2 < (t870.length : Int)
                        · rw [if_pos c52] at H
                          have c52b0 : decide (x13_2 < (t870.length : Int)) = true := decide_eq_true c52
                          clear c52
                          by_cases c53 : (rd t870 x13_2) = 0
                          · rw [if_pos c53] at H
                            have c53b0 : ((rd t870 x13_2) == 0) = true := beq_iff_eq.mpr c53
                            have c53b1 : ((rd t870 x13_2) != 0) = false := bne_eq_false_iff_eq.mpr c53
                            clear c53
                            by_cases c54 : (rd t875 x13_2) > 0
                            · rw [if_pos c54] at H
                              have c54b0 : decide (0 < (rd t875 x13_2)) = true := decide_eq_true c54
                              clear c54
                              obtain rfl := Option.some.inj H
                              obtain ⟨Ao55, co55, eo55⟩ := Kd.R_slice HO_8.out
                              subst eo55
                              obtain ⟨Ao56, co56, eo56⟩ := Kd.R_slice HO_10.out
                              subst eo56
                              have p886 : 0 ≤ (x13_2 : Int) := of_decide_eq_true (by first | (with_reducible assumption) | assumption)
                              have q886 : x13_2 < (t879.length : Int) := of_decide_eq_true (by first | (with_reducible assumption) | assumption)
                              obtain ⟨ad886, e886, hx886_0⟩ := Kd.at_int (Kd.R_reads' HO_10.out).2.2 x13_2 p886 q886
                              cases e886
                              replace p886 := eq_true p886
                              replace q886 := eq_true q886
                              have p887 : 0 ≤ (x13_2 : Int) := of_decide_eq_true (by first | (with_reducible assumption) | assumption)
                              have q887 : x13_2 < (t875.length : Int) := of_decide_eq_true (by first | (with_reducible assumption) | assumption)
                              obtain ⟨ad887, e887, hx887_0⟩ := Kd.at_int (Kd.R_reads' HO_8.out).2.2 x13_2 p887 q887
                              cases e887
                              replace p887 := eq_true p887
                              replace q887 := eq_true q887
                              have p890 : 0 ≤ (x13_2 : Int) := of_decide_eq_true (by first | (with_reducible assumption) | assumption)
                              have q890 : x13_2 < (t879.length : Int) := of_decide_eq_true (by first | (with_reducible assumption) | assumption)
                              obtain ⟨ad890, e890, hx890_0⟩ := Kd.at_int (Kd.R_reads' HO_10.out).2.2 x13_2 p890 q890
                              obtain rfl : ad886 = ad890 := (by injection e890)
                              replace p890 := eq_true p890
                              replace q890 := eq_true q890
                              have p891 : 0 ≤ (x13_2 : Int) := of_decide_eq_true (by first | (with_reducible assumption) | assumption)
                              have q891 : x13_2 < (t875.length : Int) := of_decide_eq_true (by first | (with_reducible assumption) | assumption)
                              obtain ⟨ad891, e891, hx891_0⟩ := Kd.at_int (Kd.R_reads' HO_8.out).2.2 x13_2 p891 q891
                              obtain rfl : ad887 = ad891 := (by injection e891)
                              replace p891 := eq_true p891
                              replace q891 := eq_true q891
                              have p892 : 0 ≤ (x13_2 : Int) := of_decide_eq_true (by first | (with_reducible assumption) | assumption)
                              have q892 : x13_2 < (t870.length : Int) := of_decide_eq_true (by first | (with_reducible assumption) | assumption)
                              obtain ⟨ad892, e892, hx892_0⟩ := Kd.at_int (Kd.R_reads' HO_5.out).2.2 x13_2 p892 q892
                              cases e892
                              replace p892 := eq_true p892
                              replace q892 := eq_true q892
                              have p893 : 0 ≤ (x13_2 : Int) := of_decide_eq_true (by first | (with_reducible assumption) | assumption)
                              have q893 : x13_2 < (t875.length : Int) := of_decide_eq_true (by first | (with_reducible assumption) | assumption)
                              obtain ⟨ad893, e893, hx893_0⟩ := Kd.at_int (Kd.R_reads' HO_8.out).2.2 x13_2 p893 q893
                              obtain rfl : ad887 = ad893 := (by injection e893)
                              replace p893 := eq_true p893
                              replace q893 := eq_true q893
                              as_aux_lemma =>
                                go_wp2
                                repeat (go_quiet (fail); try go_wp2)
                                go_ret
                                exact ⟨by first | rfl | (simp [errW_none, errW_some] <;> rfl) | (simp [*, errW_none, errW_some] <;> rfl), by repeat (first | (with_reducible first | exact HB.out | apply below_alloc | apply pw_below_drewN | apply below_drew1) | exact HB.out)⟩
                            · rw [if_neg c54] at H
                              have c54b0 : decide (0 < (rd t875 x13_2)) = false := decide_eq_false c54
                              clear c54
                              have H' := Aside0.mk H
                              clear H
                              obtain ⟨Ao57, co57, eo57⟩ := Kd.R_slice HO_8.out
                              subst eo57
                              obtain ⟨Ao58, co58, eo58⟩ := Kd.R_slice HO_10.out
                              subst eo58
                              have p886 : 0 ≤ (x13_2 : Int) := of_decide_eq_true (by first | (with_reducible assumption) | assumption)
                              have q886 : x13_2 < (t879.length : Int) := of_decide_eq_true (by first | (with_reducible assumption) | assumption)
                              obtain ⟨ad886, e886, hx886_0⟩ := Kd.at_int (Kd.R_reads' HO_10.out).2.2 x13_2 p886 q886
                              cases e886
                              replace p886 := eq_true p886
                              replace q886 := eq_true q886
                              have p887 : 0 ≤ (x13_2 : Int) := of_decide_eq_true (by first | (with_reducible assumption) | assumption)
                              have q887 : x13_2 < (t875.length : Int) := of_decide_eq_true (by first | (with_reducible assumption) | assumption)
                              obtain ⟨ad887, e887, hx887_0⟩ := Kd.at_int (Kd.R_reads' HO_8.out).2.2 x13_2 p887 q887
                              cases e887
                              replace p887 := eq_true p887
                              replace q887 := eq_true q887
                              have p890 : 0 ≤ (x13_2 : Int) := of_decide_eq_true (by first | (with_reducible assumption) | assumption)
                              have q890 : x13_2 < (t879.length : Int) := of_decide_eq_true (by first | (with_reducible assumption) | assumption)
                              obtain ⟨ad890, e890, hx890_0⟩ := Kd.at_int (Kd.R_reads' HO_10.out).2.2 x13_2 p890 q890
                              obtain rfl : ad886 = ad890 := (by injection e890)
                              replace p890 := eq_true p890
                              replace q890 := eq_true q890
                              have p891 : 0 ≤ (x13_2 : Int) := of_decide_eq_true (by first | (with_reducible assumption) | assumption)
                              have q891 : x13_2 < (t875.length : Int) := of_decide_eq_true (by first | (with_reducible assumption) | assumption)
                              obtain ⟨ad891, e891, hx891_0⟩ := Kd.at_int (Kd.R_reads' HO_8.out).2.2 x13_2 p891 q891
                              obtain rfl : ad887 = ad891 := (by injection e891)
                              replace p891 := eq_true p891
                              replace q891 := eq_true q891
                              have p892 : 0 ≤ (x13_2 : Int) := of_decide_eq_true (by first | (with_reducible assumption) | assumption)
                              have q892 : x13_2 < (t870.length : Int) := of_decide_eq_true (by first | (with_reducible assumption) | assumption)
                              obtain ⟨ad892, e892, hx892_0⟩ := Kd.at_int (Kd.R_reads' HO_5.out).2.2 x13_2 p892 q892
                              cases e892
                              replace p892 := eq_true p892
                              replace q892 := eq_true q892
                              have p893 : 0 ≤ (x13_2 : Int) := of_decide_eq_true (by first | (with_reducible assumption) | assumption)
                              have q893 : x13_2 < (t875.length : Int) := of_decide_eq_true (by first | (with_reducible assumption) | assumption)
                              obtain ⟨ad893, e893, hx893_0⟩ := Kd.at_int (Kd.R_reads' HO_8.out).2.2 x13_2 p893 q893
                              obtain rfl : ad887 = ad893 := (by injection e893)
                              replace p893 := eq_true p893
                              replace q893 := eq_true q893
                              as_aux_lemma =>
                                go_wp2
                                repeat (go_quiet (fail); try go_wp2)
                                go_roundg k2
                                case measure => have := HJ9.out; have := HK2.out; omega
                                case rel => exact ⟨(x12_2), (wrap64 (x13_2 + 1)), (by first | rfl | (simp; done) | (simp [*]; done) | (simp [IntWalk.i64_left, *]; done)), (by first | rfl | (simp; done) | (simp [*]; done) | (simp [IntWalk.i64_left, *]; done)), H', ⟨by have := HJ9.out; have := HK2.out; omega⟩, ⟨by (with_reducible repeat (first | apply Kd.R_alloc | apply Kd.R_drewN | apply Kd.R_drew)); exact HO_5.out⟩, ⟨by (with_reducible repeat (first | apply Kd.R_alloc | apply Kd.R_drewN | apply Kd.R_drew)); exact HO_8.out⟩, ⟨by (with_reducible repeat (first | apply Kd.R_alloc | apply Kd.R_drewN | apply Kd.R_drew)); exact HO_10.out⟩, ⟨by repeat (first | (with_reducible first | exact HB.out | apply below_alloc | apply pw_below_drewN | apply below_drew1) | exact HB.out)⟩⟩
                          · rw [if_neg c53] at H
                            have c53b0 : ((rd t870 x13_2) == 0) = false := beq_eq_false_iff_ne.mpr c53
                            have c53b1 : ((rd t870 x13_2) != 0) = true := bne_iff_ne.mpr c53
                            have H' := Aside0.mk H
                            clear H
                            obtain ⟨Ao59, co59, eo59⟩ := Kd.R_slice HO_8.out
                            subst eo59
                            obtain ⟨Ao60, co60, eo60⟩ := Kd.R_slice HO_10.out
                            subst eo60
                            have p886 : 0 ≤ (x13_2 : Int) := of_decide_eq_true (by first | (with_reducible assumption) | assumption)
                            have q886 : x13_2 < (t879.length : Int) := of_decide_eq_true (by first | (with_reducible assumption) | assumption)
                            obtain ⟨ad886, e886, hx886_0⟩ := Kd.at_int (Kd.R_reads' HO_10.out).2.2 x13_2 p886 q886
                            cases e886
                            replace p886 := eq_true p886
                            replace q886 := eq_true q886
                            have p887 : 0 ≤ (x13_2 : Int) := of_decide_eq_true (by first | (with_reducible assumption) | assumption)
                            have q887 : x13_2 < (t875.length : Int) := of_decide_eq_true (by first | (with_reducible assumption) | assumption)
                            obtain ⟨ad887, e887, hx887_0⟩ := Kd.at_int (Kd.R_reads' HO_8.out).2.2 x13_2 p887 q887
                            cases e887
                            replace p887 := eq_true p887
                            replace q887 := eq_true q887
                            have p890 : 0 ≤ (x13_2 : Int) := of_decide_eq_true (by first | (with_reducible assumption) | assumption)
                            have q890 : x13_2 < (t879.length : Int) := of_decide_eq_true (by first | (with_reducible assumption) | assumption)
                            obtain ⟨ad890, e890, hx890_0⟩ := Kd.at_int (Kd.R_reads' HO_10.out).2.2 x13_2 p890 q890
                            obtain rfl : ad886 = ad890 := (by injection e890)
                            replace p890 := eq_true p890
                            replace q890 := eq_true q890
                            have p891 : 0 ≤ (x13_2 : Int) := of_decide_eq_true (by first | (with_reducible assumption) | assumption)
                            have q891 : x13_2 < (t875.length : Int) := of_decide_eq_true (by first | (with_reducible assumption) | assumption)
                            obtain ⟨ad891, e891, hx891_0⟩ := Kd.at_int (Kd.R_reads' HO_8.out).2.2 x13_2 p891 q891
                            obtain rfl : ad887 = ad891 := (by injection e891)
                            replace p891 := eq_true p891
                            replace q891 := eq_true q891
                            have p892 : 0 ≤ (x13_2 : Int) := of_decide_eq_true (by first | (with_reducible assumption) | assumption)
                            have q892 : x13_2 < (t870.length : Int) := of_decide_eq_true (by first | (with_reducible assumption) | assumption)
                            obtain ⟨ad892, e892, hx892_0⟩ := Kd.at_int (Kd.R_reads' HO_5.out).2.2 x13_2 p892 q892
                            cases e892
                            replace p892 := eq_true p892
                            replace q892 := eq_true q892
                            as_aux_lemma =>
                              go_wp2
                              repeat (go_quiet (fail); try go_wp2)
                              go_roundg k2
                              case measure => have := HJ9.out; have := HK2.out; omega
                              case rel => exact ⟨(x12_2), (wrap64 (x13_2 + 1)), (by first | rfl | (simp; done) | (simp [*]; done) | (simp [IntWalk.i64_left, *]; done)), (by first | rfl | (simp; done) | (simp [*]; done) | (simp [IntWalk.i64_left, *]; done)), H', ⟨by have := HJ9.out; have := HK2.out; omega⟩, ⟨by (with_reducible repeat (first | apply Kd.R_alloc | apply Kd.R_drewN | apply Kd.R_drew)); exact HO_5.out⟩, ⟨by (with_reducible repeat (first | apply Kd.R_alloc | apply Kd.R_drewN | apply Kd.R_drew)); exact HO_8.out⟩, ⟨by (with_reducible repeat (first | apply Kd.R_alloc | apply Kd.R_drewN | apply Kd.R_drew)); exact HO_10.out⟩, ⟨by repeat (first | (with_reducible first | exact HB.out | apply below_alloc | apply pw_below_drewN | apply below_drew1) | exact HB.out)⟩⟩
                        · rw [if_neg c52] at H
                          exact absurd H (by simp)
                      · rw [if_neg c51] at H
                        have c51b0 : ((rd t879 x13_2) == (rd t875 x13_2)) = false := beq_eq_false_iff_ne.mpr c51
                        have c51b1 : ((rd t879 x13_2) != (rd t875 x13_2)) = true := bne_iff_ne.mpr c51
                        obtain rfl := Option.some.inj H
                        obtain ⟨Ao61, co61, eo61⟩ := Kd.R_slice HO_8.out
                        subst eo61
                        obtain ⟨Ao62, co62, eo62⟩ := Kd.R_slice HO_10.out
                        subst eo62
                        have p886 : 0 ≤ (x13_2 : Int) := of_decide_eq_true (by first | (with_reducible assumption) | assumption)
                        have q886 : x13_2 < (t879.length : Int) := of_decide_eq_true (by first | (with_reducible assumption) | assumption)
                        obtain ⟨ad886, e886, hx886_0⟩ := Kd.at_int (Kd.R_reads' HO_10.out).2.2 x13_2 p886 q886
                        cases e886
                        replace p886 := eq_true p886
                        replace q886 := eq_true q886
                        have p887 : 0 ≤ (x13_2 : Int) := of_decide_eq_true (by first | (with_reducible assumption) | assumption)
                        have q887 : x13_2 < (t875.length : Int) := of_decide_eq_true (by first | (with_reducible assumption) | assumption)
                        obtain ⟨ad887, e887, hx887_0⟩ := Kd.at_int (Kd.R_reads' HO_8.out).2.2 x13_2 p887 q887
                        cases e887
                        replace p887 := eq_true p887
                        replace q887 := eq_true q887
                        have p890 : 0 ≤ (x13_2 : Int) := of_decide_eq_true (by first | (with_reducible assumption) | assumption)
                        have q890 : x13_2 < (t879.length : Int) := of_decide_eq_true (by first | (with_reducible assumption) | assumption)
                        obtain ⟨ad890, e890, hx890_0⟩ := Kd.at_int (Kd.R_reads' HO_10.out).2.2 x13_2 p890 q890
                        obtain rfl : ad886 = ad890 := (by injection e890)
                        replace p890 := eq_true p890
                        replace q890 := eq_true q890
                        have p891 : 0 ≤ (x13_2 : Int) := of_decide_eq_true (by first | (with_reducible assumption) | assumption)
                        have q891 : x13_2 < (t875.length : Int) := of_decide_eq_true (by first | (with_reducible assumption) | assumption)
                        obtain ⟨ad891, e891, hx891_0⟩ := Kd.at_int (Kd.R_reads' HO_8.out).2.2 x13_2 p891 q891
                        obtain rfl : ad887 = ad891 := (by injection e891)
                        replace p891 := eq_true p891
                        replace q891 := eq_true q891
                        as_aux_lemma =>
                          go_wp2
                          repeat (go_quiet (fail); try go_wp2)
                          go_ret
                          exact ⟨by first | rfl | (simp [errW_none, errW_some] <;> rfl) | (simp [*, errW_none, errW_some] <;> rfl), by repeat (first | (with_reducible first | exact HB.out | apply below_alloc | apply pw_below_drewN | apply below_drew1) | exact HB.out)⟩
                  · rw [if_neg c40] at H
                    exact absurd H (by simp)
                · rw [if_neg c39] at H
                  exact absurd H (by simp)
              · rw [if_neg c38] at H
                have c38b0 : decide (x13_2 < (t875.length : Int)) = false := decide_eq_false c38
                clear c38
                obtain rfl := Option.some.inj H
                obtain ⟨Ao63, co63, eo63⟩ := Kd.R_slice HO_8.out
                subst eo63
                as_aux_lemma =>
                  go_wp2
                  repeat (go_quiet (fail); try go_wp2)
                  go_ret
                  exact ⟨by first | rfl | (simp [errW_none, errW_some] <;> rfl) | (simp [*, errW_none, errW_some] <;> rfl), by repeat (first | (with_reducible first | exact HB.out | apply below_alloc | apply pw_below_drewN | apply below_drew1) | exact HB.out)⟩
  
/-- THE ONE PURE STATEMENT of laws_FnSeatsGiven: ours. -/
def laws_FnSeatsGiven.Pure : Prop := ∀ (l0 : List Int) (l1 : List Int), l0.length ≤ maxLen → l0.length * 1 ≤ 140737488351232 → (∀ x ∈ l0, (Lit.int .u8 x).wf = true) → l1.length ≤ maxLen → l1.length * 1 ≤ 140737488351232 → (∀ x ∈ l1, (Lit.int .u8 x).wf = true) → ∃ k, laws_FnSeatsGiven.f k l0 l1 = some true
theorem laws_FnSeatsGiven.walk (P : laws_FnSeatsGiven.Pure) (A0 : Option Addr) (len0 cap0 : Nat) (z0 : List Int) (A1 : Option Addr) (len1 cap1 : Nat) (z1 : List Int) (w : World) (w0 : (A0 = none ∧ len0 = 0 ∧ cap0 = 0 ∧ z0 = []) ∨ ∃ x, A0 = some x ∧ len0 ≤ cap0 ∧ cap0 ≤ maxLen ∧ z0.length = cap0 ∧ (∀ i, i < z0.length → w.cell? (x.add i) = some (.int .u8 (z0.getD i 0))) ∧ ∀ n ∈ z0, (Lit.int .u8 n).wf = true) (y0 : len0 * 1 ≤ 140737488351232) (w1 : (A1 = none ∧ len1 = 0 ∧ cap1 = 0 ∧ z1 = []) ∨ ∃ x, A1 = some x ∧ len1 ≤ cap1 ∧ cap1 ≤ maxLen ∧ z1.length = cap1 ∧ (∀ i, i < z1.length → w.cell? (x.add i) = some (.int .u8 (z1.getD i 0))) ∧ ∀ n ∈ z1, (Lit.int .u8 n).wf = true) (y1 : len1 * 1 ≤ 140737488351232) :
    Calls Try.prog 14 #[.slice A0 len0 cap0, .slice A1 len1 cap1] w fun e w' => e = .returned (.bool true) ∧ Below w.heap.size w w' := by
  obtain ⟨l0, rfl, hr0, hm0, hw0, hc0⟩ := ReadsInt.ofRowC w0
  obtain ⟨l1, rfl, hr1, hm1, hw1, hc1⟩ := ReadsInt.ofRowC w1
  obtain ⟨k, h⟩ := P l0 l1 hm0 y0 hw0 hm1 y1 hw1
  refine (laws_FnSeatsGiven.calls k _ _ l0 _ _ l1 true w (Kd.C_of_reads (d := (0 : Int)) (h1 := fun _ => rfl) hr0) hc0 (Kd.C_of_reads (d := (0 : Int)) (h1 := fun _ => rfl) hr1) hc1 h).mono ?_
  rintro e w' ⟨rfl, hd⟩
  exact ⟨rfl, hd⟩

end Go.Proofs.Ytnibakbjbijghaa.P
