import Derived.Test.YtebofadnefkacaaXP0FnQuotas
import Derived.Test.YtebofadnefkacaaXP4FnQuotas
import Derived.Test.YtebofadnefkacaaXP11FnQuotas
import Derived.Test.YtebofadnefkacaaXP15FnQuotas
import Derived.Test.YtebofadnefkacaaXP18FnQuotas
import Derived.Test.YtebofadnefkacaaXP19FnQuotas
import Derived.Test.YtebofadnefkacaaXP20FnQuotas
namespace Go.Proofs.Ytebofadnefkacaa.P
open Go.RowKit Go.Proofs.YtebofadnefkacaaW.PrintWords Go.Proofs.YtebofadnefkacaaW.PrintLast Go.Proofs.YtebofadnefkacaaW.PrintMore
attribute [local go_sem] max2_int min2_int max_two min_two max_three min_three max_four min_four
set_option linter.unusedVariables false
set_option linter.unusedSimpArgs false
mutual
def laws_FnQuotas.j0 : Nat → List Int → Int → List Int → List Int → List Int → List Int → List Int → Int → Bool → Option (Bool)
 | 0, _, _, _, _, _, _, _, _, _ => none
 | k + 1, x5, x6, x7, x8, x10, x12, x14, x18, x119 => if x119 = true then (some false) else ((laws_r8Sum.f k x5).bind fun t660 => (laws_FnQuotas.l0 k x5 x6 x7 x8 x10 x12 x14 x18 t660 0))
def laws_FnQuotas.l0 : Nat → List Int → Int → List Int → List Int → List Int → List Int → List Int → Int → Int → Int → Option (Bool)
 | 0, _, _, _, _, _, _, _, _, _, _ => none
 | k + 1, x5, x6, x7, x8, x10, x12, x14, x18, x19, x20 => if x20 < x18 then (if 0 ≤ x20 then (if x20 < (x7.length : Int) then (if x20 < (x5.length : Int) then (if (wrap64 ((rd x7 x20) * x19)) > (wrap64 (x6 * (rd x5 x20))) then (some false) else (if x20 < (x8.length : Int) then (if (wrap64 ((rd x8 x20) * x19)) < (wrap64 (x6 * (rd x5 x20))) then (some false) else (if (wrap64 ((rd x8 x20) - (rd x7 x20))) > 1 then (some false) else (if x20 < (x10.length : Int) then (if (rd x10 x20) < (rd x7 x20) then (some false) else (if (rd x10 x20) > (rd x8 x20) then (some false) else (if x20 < (x12.length : Int) then (if (rd x12 x20) > (rd x8 x20) then (some false) else (if x20 < (x14.length : Int) then (if (rd x14 x20) < (rd x7 x20) then (some false) else (laws_FnQuotas.l0 k x5 x6 x7 x8 x10 x12 x14 x18 x19 (wrap64 (x20 + 1)))) else (none))) else (none)))) else (none)))) else (none))) else (none)) else (none)) else (none)) else (some true)
end
def laws_FnQuotas.f (k : Nat) (l0 : List Int) (l1 : List Int) : Option (Bool) := (laws_r8Long.f l0 l1).bind fun t631 => (if t631 = true then (some true) else ((spec_R8Votes.f k l0).bind fun t632 => ((laws_r8At.f l1 0 40).bind fun t635 => ((impl_QuotasOf.f k t632 t635).bind fun bt636 => ((impl_RemainderSeats.f k t632 t635).bind fun bt643 => ((impl_SeatsBy.f k 0 t632 t635).bind fun bt647 => ((impl_SeatsBy.f k 3 t632 t635).bind fun bt651 => ((Zak.f k t632 bt643.1).bind fun bt655 => (if bt636.2.2 = true then (if bt643.2 = true then (if bt647.2 = true then (if bt651.2 = true then (if bt655.2 = true then (if (bt636.1.length : Int) = (t632.length : Int) then (if (bt636.2.1.length : Int) = (t632.length : Int) then (if (bt643.1.length : Int) = (t632.length : Int) then (if (bt647.1.length : Int) = (t632.length : Int) then (if (bt651.1.length : Int) = (t632.length : Int) then ((laws_r8Sum.f k bt643.1).bind fun t659 => (if t659 = t635 then (laws_FnQuotas.j0 k t632 t635 bt636.1 bt636.2.1 bt643.1 bt647.1 bt651.1 (t632.length : Int) ((bt655.1.length : Int) != 0)) else (laws_FnQuotas.j0 k t632 t635 bt636.1 bt636.2.1 bt643.1 bt647.1 bt651.1 (t632.length : Int) true))) else (laws_FnQuotas.j0 k t632 t635 bt636.1 bt636.2.1 bt643.1 bt647.1 bt651.1 (t632.length : Int) true)) else (laws_FnQuotas.j0 k t632 t635 bt636.1 bt636.2.1 bt643.1 bt647.1 bt651.1 (t632.length : Int) true)) else (laws_FnQuotas.j0 k t632 t635 bt636.1 bt636.2.1 bt643.1 bt647.1 bt651.1 (t632.length : Int) true)) else (laws_FnQuotas.j0 k t632 t635 bt636.1 bt636.2.1 bt643.1 bt647.1 bt651.1 (t632.length : Int) true)) else (laws_FnQuotas.j0 k t632 t635 bt636.1 bt636.2.1 bt643.1 bt647.1 bt651.1 (t632.length : Int) true)) else (laws_FnQuotas.j0 k t632 t635 bt636.1 bt636.2.1 bt643.1 bt647.1 bt651.1 (t632.length : Int) true)) else (laws_FnQuotas.j0 k t632 t635 bt636.1 bt636.2.1 bt643.1 bt647.1 bt651.1 (t632.length : Int) true)) else (laws_FnQuotas.j0 k t632 t635 bt636.1 bt636.2.1 bt643.1 bt647.1 bt651.1 (t632.length : Int) true)) else (laws_FnQuotas.j0 k t632 t635 bt636.1 bt636.2.1 bt643.1 bt647.1 bt651.1 (t632.length : Int) true)) else (laws_FnQuotas.j0 k t632 t635 bt636.1 bt636.2.1 bt643.1 bt647.1 bt651.1 (t632.length : Int) true))))))))))
set_option maxHeartbeats 8000000 in
set_option maxRecDepth 100000 in
theorem laws_FnQuotas.calls (k : Nat) (A0 : Option Addr) (c0 : Nat) (l0 : List Int) (A1 : Option Addr) (c1 : Nat) (l1 : List Int) (r : Bool) (w : World) (hr0 : Kd.C (Kd.int .u8) w A0 l0.length l0) (hc0 : l0.length ≤ c0) (hr1 : Kd.C (Kd.int .u8) w A1 l1.length l1) (hc1 : l1.length ≤ c1) (h : laws_FnQuotas.f k l0 l1 = some r) :
  Calls Try.prog 11 #[.slice A0 l0.length c0, .slice A1 l1.length c1] w fun e w' => e = .returned (.bool r) ∧ Below w.heap.size w w' := by
 have HR0 := Zab.mk hr0
 have HC0 := Zab.mk hc0
 clear hr0 hc0
 have HR1 := Zab.mk hr1
 have HC1 := Zab.mk hc1
 clear hr1 hc1
 have HB := Zab.mk (Below.refl w.heap.size w)
 have H : ((laws_r8Long.f l0 l1).bind fun t631 => (if t631 = true then (some true) else ((spec_R8Votes.f k l0).bind fun t632 => ((laws_r8At.f l1 0 40).bind fun t635 => ((impl_QuotasOf.f k t632 t635).bind fun bt636 => ((impl_RemainderSeats.f k t632 t635).bind fun bt643 => ((impl_SeatsBy.f k 0 t632 t635).bind fun bt647 => ((impl_SeatsBy.f k 3 t632 t635).bind fun bt651 => ((Zak.f k t632 bt643.1).bind fun bt655 => (if bt636.2.2 = true then (if bt643.2 = true then (if bt647.2 = true then (if bt651.2 = true then (if bt655.2 = true then (if (bt636.1.length : Int) = (t632.length : Int) then (if (bt636.2.1.length : Int) = (t632.length : Int) then (if (bt643.1.length : Int) = (t632.length : Int) then (if (bt647.1.length : Int) = (t632.length : Int) then (if (bt651.1.length : Int) = (t632.length : Int) then ((laws_r8Sum.f k bt643.1).bind fun t659 => (if t659 = t635 then (laws_FnQuotas.j0 k t632 t635 bt636.1 bt636.2.1 bt643.1 bt647.1 bt651.1 (t632.length : Int) ((bt655.1.length : Int) != 0)) else (laws_FnQuotas.j0 k t632 t635 bt636.1 bt636.2.1 bt643.1 bt647.1 bt651.1 (t632.length : Int) true))) else (laws_FnQuotas.j0 k t632 t635 bt636.1 bt636.2.1 bt643.1 bt647.1 bt651.1 (t632.length : Int) true)) else (laws_FnQuotas.j0 k t632 t635 bt636.1 bt636.2.1 bt643.1 bt647.1 bt651.1 (t632.length : Int) true)) else (laws_FnQuotas.j0 k t632 t635 bt636.1 bt636.2.1 bt643.1 bt647.1 bt651.1 (t632.length : Int) true)) else (laws_FnQuotas.j0 k t632 t635 bt636.1 bt636.2.1 bt643.1 bt647.1 bt651.1 (t632.length : Int) true)) else (laws_FnQuotas.j0 k t632 t635 bt636.1 bt636.2.1 bt643.1 bt647.1 bt651.1 (t632.length : Int) true)) else (laws_FnQuotas.j0 k t632 t635 bt636.1 bt636.2.1 bt643.1 bt647.1 bt651.1 (t632.length : Int) true)) else (laws_FnQuotas.j0 k t632 t635 bt636.1 bt636.2.1 bt643.1 bt647.1 bt651.1 (t632.length : Int) true)) else (laws_FnQuotas.j0 k t632 t635 bt636.1 bt636.2.1 bt643.1 bt647.1 bt651.1 (t632.length : Int) true)) else (laws_FnQuotas.j0 k t632 t635 bt636.1 bt636.2.1 bt643.1 bt647.1 bt651.1 (t632.length : Int) true)) else (laws_FnQuotas.j0 k t632 t635 bt636.1 bt636.2.1 bt643.1 bt647.1 bt651.1 (t632.length : Int) true))))))))))) = some r := h
 clear h
 replace H := Option.bind_eq_some_iff.mp H
 obtain ⟨t631, A30, H⟩ := H
 replace H : (if t631 = true then (some true) else ((spec_R8Votes.f k l0).bind fun t632 => ((laws_r8At.f l1 0 40).bind fun t635 => ((impl_QuotasOf.f k t632 t635).bind fun bt636 => ((impl_RemainderSeats.f k t632 t635).bind fun bt643 => ((impl_SeatsBy.f k 0 t632 t635).bind fun bt647 => ((impl_SeatsBy.f k 3 t632 t635).bind fun bt651 => ((Zak.f k t632 bt643.1).bind fun bt655 => (if bt636.2.2 = true then (if bt643.2 = true then (if bt647.2 = true then (if bt651.2 = true then (if bt655.2 = true then (if (bt636.1.length : Int) = (t632.length : Int) then (if (bt636.2.1.length : Int) = (t632.length : Int) then (if (bt643.1.length : Int) = (t632.length : Int) then (if (bt647.1.length : Int) = (t632.length : Int) then (if (bt651.1.length : Int) = (t632.length : Int) then ((laws_r8Sum.f k bt643.1).bind fun t659 => (if t659 = t635 then (laws_FnQuotas.j0 k t632 t635 bt636.1 bt636.2.1 bt643.1 bt647.1 bt651.1 (t632.length : Int) ((bt655.1.length : Int) != 0)) else (laws_FnQuotas.j0 k t632 t635 bt636.1 bt636.2.1 bt643.1 bt647.1 bt651.1 (t632.length : Int) true))) else (laws_FnQuotas.j0 k t632 t635 bt636.1 bt636.2.1 bt643.1 bt647.1 bt651.1 (t632.length : Int) true)) else (laws_FnQuotas.j0 k t632 t635 bt636.1 bt636.2.1 bt643.1 bt647.1 bt651.1 (t632.length : Int) true)) else (laws_FnQuotas.j0 k t632 t635 bt636.1 bt636.2.1 bt643.1 bt647.1 bt651.1 (t632.length : Int) true)) else (laws_FnQuotas.j0 k t632 t635 bt636.1 bt636.2.1 bt643.1 bt647.1 bt651.1 (t632.length : Int) true)) else (laws_FnQuotas.j0 k t632 t635 bt636.1 bt636.2.1 bt643.1 bt647.1 bt651.1 (t632.length : Int) true)) else (laws_FnQuotas.j0 k t632 t635 bt636.1 bt636.2.1 bt643.1 bt647.1 bt651.1 (t632.length : Int) true)) else (laws_FnQuotas.j0 k t632 t635 bt636.1 bt636.2.1 bt643.1 bt647.1 bt651.1 (t632.length : Int) true)) else (laws_FnQuotas.j0 k t632 t635 bt636.1 bt636.2.1 bt643.1 bt647.1 bt651.1 (t632.length : Int) true)) else (laws_FnQuotas.j0 k t632 t635 bt636.1 bt636.2.1 bt643.1 bt647.1 bt651.1 (t632.length : Int) true)) else (laws_FnQuotas.j0 k t632 t635 bt636.1 bt636.2.1 bt643.1 bt647.1 bt651.1 (t632.length : Int) true)))))))))) = some r := H
 have A3 := Zab.mk A30
 clear A30
 by_cases c4 : t631 = true
 ·subst c4
  have H1 : (some true) = some r := by rw [if_pos rfl] at H; exact H
  clear H
  have H := H1
  clear H1
  obtain rfl := Option.some.inj H
  as_aux_lemma =>
   go_enter Try.func11, Try.ntmps11
   go_wp2_with (first | (go_at_call 30; (with_reducible refine (laws_r8Long.calls _ _ l0 _ _ l1 true _ ?side1 ?side2 ?side3 ?side4 A3.out).mono ?_); (case side1 => repeat (first | exact HR0.out | (with_reducible refine Kd.C_alloc ?_ _) | (with_reducible refine Kd.C_drewN ?_ _) | (with_reducible refine Kd.C_drew ?_))); (case side2 => exact HC0.out); (case side3 => repeat (first | exact HR1.out | (with_reducible refine Kd.C_alloc ?_ _) | (with_reducible refine Kd.C_drewN ?_ _) | (with_reducible refine Kd.C_drew ?_))); (case side4 => exact HC1.out); rintro e w' ⟨rfl, ⟨nd, rfl⟩⟩; (try first | exact ⟨rfl, _, World.drewN_drewN _ _ _⟩ | exact ⟨rfl, _, Eq.trans (World.drewN_drewN _ _ _) (congrArg (World.drewN _) (Nat.add_assoc _ _ _))⟩)))
   repeat (go_quiet (first | (go_at_call 30; (with_reducible refine (laws_r8Long.calls _ _ l0 _ _ l1 true _ ?side1 ?side2 ?side3 ?side4 A3.out).mono ?_); (case side1 => repeat (first | exact HR0.out | (with_reducible refine Kd.C_alloc ?_ _) | (with_reducible refine Kd.C_drewN ?_ _) | (with_reducible refine Kd.C_drew ?_))); (case side2 => exact HC0.out); (case side3 => repeat (first | exact HR1.out | (with_reducible refine Kd.C_alloc ?_ _) | (with_reducible refine Kd.C_drewN ?_ _) | (with_reducible refine Kd.C_drew ?_))); (case side4 => exact HC1.out); rintro e w' ⟨rfl, ⟨nd, rfl⟩⟩; (try first | exact ⟨rfl, _, World.drewN_drewN _ _ _⟩ | exact ⟨rfl, _, Eq.trans (World.drewN_drewN _ _ _) (congrArg (World.drewN _) (Nat.add_assoc _ _ _))⟩))); try go_wp2_with (first | (go_at_call 30; (with_reducible refine (laws_r8Long.calls _ _ l0 _ _ l1 true _ ?side1 ?side2 ?side3 ?side4 A3.out).mono ?_); (case side1 => repeat (first | exact HR0.out | (with_reducible refine Kd.C_alloc ?_ _) | (with_reducible refine Kd.C_drewN ?_ _) | (with_reducible refine Kd.C_drew ?_))); (case side2 => exact HC0.out); (case side3 => repeat (first | exact HR1.out | (with_reducible refine Kd.C_alloc ?_ _) | (with_reducible refine Kd.C_drewN ?_ _) | (with_reducible refine Kd.C_drew ?_))); (case side4 => exact HC1.out); rintro e w' ⟨rfl, ⟨nd, rfl⟩⟩; (try first | exact ⟨rfl, _, World.drewN_drewN _ _ _⟩ | exact ⟨rfl, _, Eq.trans (World.drewN_drewN _ _ _) (congrArg (World.drewN _) (Nat.add_assoc _ _ _))⟩))))
   go_ret
   exact ⟨by first | rfl | (simp [Zal, Zam] <;> rfl) | (simp [*, Zal, Zam] <;> rfl), by repeat (first | (with_reducible first | exact HB.out | apply Zad | apply Zaa | apply Zac) | exact HB.out)⟩
 ·replace c4 := Bool.eq_false_iff.mpr c4
  subst c4
  have H1 : ((spec_R8Votes.f k l0).bind fun t632 => ((laws_r8At.f l1 0 40).bind fun t635 => ((impl_QuotasOf.f k t632 t635).bind fun bt636 => ((impl_RemainderSeats.f k t632 t635).bind fun bt643 => ((impl_SeatsBy.f k 0 t632 t635).bind fun bt647 => ((impl_SeatsBy.f k 3 t632 t635).bind fun bt651 => ((Zak.f k t632 bt643.1).bind fun bt655 => (if bt636.2.2 = true then (if bt643.2 = true then (if bt647.2 = true then (if bt651.2 = true then (if bt655.2 = true then (if (bt636.1.length : Int) = (t632.length : Int) then (if (bt636.2.1.length : Int) = (t632.length : Int) then (if (bt643.1.length : Int) = (t632.length : Int) then (if (bt647.1.length : Int) = (t632.length : Int) then (if (bt651.1.length : Int) = (t632.length : Int) then ((laws_r8Sum.f k bt643.1).bind fun t659 => (if t659 = t635 then (laws_FnQuotas.j0 k t632 t635 bt636.1 bt636.2.1 bt643.1 bt647.1 bt651.1 (t632.length : Int) ((bt655.1.length : Int) != 0)) else (laws_FnQuotas.j0 k t632 t635 bt636.1 bt636.2.1 bt643.1 bt647.1 bt651.1 (t632.length : Int) true))) else (laws_FnQuotas.j0 k t632 t635 bt636.1 bt636.2.1 bt643.1 bt647.1 bt651.1 (t632.length : Int) true)) else (laws_FnQuotas.j0 k t632 t635 bt636.1 bt636.2.1 bt643.1 bt647.1 bt651.1 (t632.length : Int) true)) else (laws_FnQuotas.j0 k t632 t635 bt636.1 bt636.2.1 bt643.1 bt647.1 bt651.1 (t632.length : Int) true)) else (laws_FnQuotas.j0 k t632 t635 bt636.1 bt636.2.1 bt643.1 bt647.1 bt651.1 (t632.length : Int) true)) else (laws_FnQuotas.j0 k t632 t635 bt636.1 bt636.2.1 bt643.1 bt647.1 bt651.1 (t632.length : Int) true)) else (laws_FnQuotas.j0 k t632 t635 bt636.1 bt636.2.1 bt643.1 bt647.1 bt651.1 (t632.length : Int) true)) else (laws_FnQuotas.j0 k t632 t635 bt636.1 bt636.2.1 bt643.1 bt647.1 bt651.1 (t632.length : Int) true)) else (laws_FnQuotas.j0 k t632 t635 bt636.1 bt636.2.1 bt643.1 bt647.1 bt651.1 (t632.length : Int) true)) else (laws_FnQuotas.j0 k t632 t635 bt636.1 bt636.2.1 bt643.1 bt647.1 bt651.1 (t632.length : Int) true)) else (laws_FnQuotas.j0 k t632 t635 bt636.1 bt636.2.1 bt643.1 bt647.1 bt651.1 (t632.length : Int) true))))))))) = some r := by rw [if_neg (show ¬ (false = true) by decide)] at H; exact H
  clear H
  have H := H1
  clear H1
  replace H := Option.bind_eq_some_iff.mp H
  obtain ⟨t632, A50, H⟩ := H
  replace H : ((laws_r8At.f l1 0 40).bind fun t635 => ((impl_QuotasOf.f k t632 t635).bind fun bt636 => ((impl_RemainderSeats.f k t632 t635).bind fun bt643 => ((impl_SeatsBy.f k 0 t632 t635).bind fun bt647 => ((impl_SeatsBy.f k 3 t632 t635).bind fun bt651 => ((Zak.f k t632 bt643.1).bind fun bt655 => (if bt636.2.2 = true then (if bt643.2 = true then (if bt647.2 = true then (if bt651.2 = true then (if bt655.2 = true then (if (bt636.1.length : Int) = (t632.length : Int) then (if (bt636.2.1.length : Int) = (t632.length : Int) then (if (bt643.1.length : Int) = (t632.length : Int) then (if (bt647.1.length : Int) = (t632.length : Int) then (if (bt651.1.length : Int) = (t632.length : Int) then ((laws_r8Sum.f k bt643.1).bind fun t659 => (if t659 = t635 then (laws_FnQuotas.j0 k t632 t635 bt636.1 bt636.2.1 bt643.1 bt647.1 bt651.1 (t632.length : Int) ((bt655.1.length : Int) != 0)) else (laws_FnQuotas.j0 k t632 t635 bt636.1 bt636.2.1 bt643.1 bt647.1 bt651.1 (t632.length : Int) true))) else (laws_FnQuotas.j0 k t632 t635 bt636.1 bt636.2.1 bt643.1 bt647.1 bt651.1 (t632.length : Int) true)) else (laws_FnQuotas.j0 k t632 t635 bt636.1 bt636.2.1 bt643.1 bt647.1 bt651.1 (t632.length : Int) true)) else (laws_FnQuotas.j0 k t632 t635 bt636.1 bt636.2.1 bt643.1 bt647.1 bt651.1 (t632.length : Int) true)) else (laws_FnQuotas.j0 k t632 t635 bt636.1 bt636.2.1 bt643.1 bt647.1 bt651.1 (t632.length : Int) true)) else (laws_FnQuotas.j0 k t632 t635 bt636.1 bt636.2.1 bt643.1 bt647.1 bt651.1 (t632.length : Int) true)) else (laws_FnQuotas.j0 k t632 t635 bt636.1 bt636.2.1 bt643.1 bt647.1 bt651.1 (t632.length : Int) true)) else (laws_FnQuotas.j0 k t632 t635 bt636.1 bt636.2.1 bt643.1 bt647.1 bt651.1 (t632.length : Int) true)) else (laws_FnQuotas.j0 k t632 t635 bt636.1 bt636.2.1 bt643.1 bt647.1 bt651.1 (t632.length : Int) true)) else (laws_FnQuotas.j0 k t632 t635 bt636.1 bt636.2.1 bt643.1 bt647.1 bt651.1 (t632.length : Int) true)) else (laws_FnQuotas.j0 k t632 t635 bt636.1 bt636.2.1 bt643.1 bt647.1 bt651.1 (t632.length : Int) true)))))))) = some r := H
  have A5 := Zab.mk A50
  clear A50
  replace H := Option.bind_eq_some_iff.mp H
  obtain ⟨t635, A60, H⟩ := H
  replace H : ((impl_QuotasOf.f k t632 t635).bind fun bt636 => ((impl_RemainderSeats.f k t632 t635).bind fun bt643 => ((impl_SeatsBy.f k 0 t632 t635).bind fun bt647 => ((impl_SeatsBy.f k 3 t632 t635).bind fun bt651 => ((Zak.f k t632 bt643.1).bind fun bt655 => (if bt636.2.2 = true then (if bt643.2 = true then (if bt647.2 = true then (if bt651.2 = true then (if bt655.2 = true then (if (bt636.1.length : Int) = (t632.length : Int) then (if (bt636.2.1.length : Int) = (t632.length : Int) then (if (bt643.1.length : Int) = (t632.length : Int) then (if (bt647.1.length : Int) = (t632.length : Int) then (if (bt651.1.length : Int) = (t632.length : Int) then ((laws_r8Sum.f k bt643.1).bind fun t659 => (if t659 = t635 then (laws_FnQuotas.j0 k t632 t635 bt636.1 bt636.2.1 bt643.1 bt647.1 bt651.1 (t632.length : Int) ((bt655.1.length : Int) != 0)) else (laws_FnQuotas.j0 k t632 t635 bt636.1 bt636.2.1 bt643.1 bt647.1 bt651.1 (t632.length : Int) true))) else (laws_FnQuotas.j0 k t632 t635 bt636.1 bt636.2.1 bt643.1 bt647.1 bt651.1 (t632.length : Int) true)) else (laws_FnQuotas.j0 k t632 t635 bt636.1 bt636.2.1 bt643.1 bt647.1 bt651.1 (t632.length : Int) true)) else (laws_FnQuotas.j0 k t632 t635 bt636.1 bt636.2.1 bt643.1 bt647.1 bt651.1 (t632.length : Int) true)) else (laws_FnQuotas.j0 k t632 t635 bt636.1 bt636.2.1 bt643.1 bt647.1 bt651.1 (t632.length : Int) true)) else (laws_FnQuotas.j0 k t632 t635 bt636.1 bt636.2.1 bt643.1 bt647.1 bt651.1 (t632.length : Int) true)) else (laws_FnQuotas.j0 k t632 t635 bt636.1 bt636.2.1 bt643.1 bt647.1 bt651.1 (t632.length : Int) true)) else (laws_FnQuotas.j0 k t632 t635 bt636.1 bt636.2.1 bt643.1 bt647.1 bt651.1 (t632.length : Int) true)) else (laws_FnQuotas.j0 k t632 t635 bt636.1 bt636.2.1 bt643.1 bt647.1 bt651.1 (t632.length : Int) true)) else (laws_FnQuotas.j0 k t632 t635 bt636.1 bt636.2.1 bt643.1 bt647.1 bt651.1 (t632.length : Int) true)) else (laws_FnQuotas.j0 k t632 t635 bt636.1 bt636.2.1 bt643.1 bt647.1 bt651.1 (t632.length : Int) true))))))) = some r := H
  have A6 := Zab.mk A60
  clear A60
  replace H := Option.bind_eq_some_iff.mp H
  obtain ⟨⟨t636, t637, t638⟩, A70, H⟩ := H
  replace H : ((impl_RemainderSeats.f k t632 t635).bind fun bt643 => ((impl_SeatsBy.f k 0 t632 t635).bind fun bt647 => ((impl_SeatsBy.f k 3 t632 t635).bind fun bt651 => ((Zak.f k t632 bt643.1).bind fun bt655 => (if t638 = true then (if bt643.2 = true then (if bt647.2 = true then (if bt651.2 = true then (if bt655.2 = true then (if (t636.length : Int) = (t632.length : Int) then (if (t637.length : Int) = (t632.length : Int) then (if (bt643.1.length : Int) = (t632.length : Int) then (if (bt647.1.length : Int) = (t632.length : Int) then (if (bt651.1.length : Int) = (t632.length : Int) then ((laws_r8Sum.f k bt643.1).bind fun t659 => (if t659 = t635 then (laws_FnQuotas.j0 k t632 t635 t636 t637 bt643.1 bt647.1 bt651.1 (t632.length : Int) ((bt655.1.length : Int) != 0)) else (laws_FnQuotas.j0 k t632 t635 t636 t637 bt643.1 bt647.1 bt651.1 (t632.length : Int) true))) else (laws_FnQuotas.j0 k t632 t635 t636 t637 bt643.1 bt647.1 bt651.1 (t632.length : Int) true)) else (laws_FnQuotas.j0 k t632 t635 t636 t637 bt643.1 bt647.1 bt651.1 (t632.length : Int) true)) else (laws_FnQuotas.j0 k t632 t635 t636 t637 bt643.1 bt647.1 bt651.1 (t632.length : Int) true)) else (laws_FnQuotas.j0 k t632 t635 t636 t637 bt643.1 bt647.1 bt651.1 (t632.length : Int) true)) else (laws_FnQuotas.j0 k t632 t635 t636 t637 bt643.1 bt647.1 bt651.1 (t632.length : Int) true)) else (laws_FnQuotas.j0 k t632 t635 t636 t637 bt643.1 bt647.1 bt651.1 (t632.length : Int) true)) else (laws_FnQuotas.j0 k t632 t635 t636 t637 bt643.1 bt647.1 bt651.1 (t632.length : Int) true)) else (laws_FnQuotas.j0 k t632 t635 t636 t637 bt643.1 bt647.1 bt651.1 (t632.length : Int) true)) else (laws_FnQuotas.j0 k t632 t635 t636 t637 bt643.1 bt647.1 bt651.1 (t632.length : Int) true)) else (laws_FnQuotas.j0 k t632 t635 t636 t637 bt643.1 bt647.1 bt651.1 (t632.length : Int) true)))))) = some r := H
  have A7 := Zab.mk A70
  clear A70
  replace H := Option.bind_eq_some_iff.mp H
  obtain ⟨⟨t643, t644⟩, A80, H⟩ := H
  replace H : ((impl_SeatsBy.f k 0 t632 t635).bind fun bt647 => ((impl_SeatsBy.f k 3 t632 t635).bind fun bt651 => ((Zak.f k t632 t643).bind fun bt655 => (if t638 = true then (if t644 = true then (if bt647.2 = true then (if bt651.2 = true then (if bt655.2 = true then (if (t636.length : Int) = (t632.length : Int) then (if (t637.length : Int) = (t632.length : Int) then (if (t643.length : Int) = (t632.length : Int) then (if (bt647.1.length : Int) = (t632.length : Int) then (if (bt651.1.length : Int) = (t632.length : Int) then ((laws_r8Sum.f k t643).bind fun t659 => (if t659 = t635 then (laws_FnQuotas.j0 k t632 t635 t636 t637 t643 bt647.1 bt651.1 (t632.length : Int) ((bt655.1.length : Int) != 0)) else (laws_FnQuotas.j0 k t632 t635 t636 t637 t643 bt647.1 bt651.1 (t632.length : Int) true))) else (laws_FnQuotas.j0 k t632 t635 t636 t637 t643 bt647.1 bt651.1 (t632.length : Int) true)) else (laws_FnQuotas.j0 k t632 t635 t636 t637 t643 bt647.1 bt651.1 (t632.length : Int) true)) else (laws_FnQuotas.j0 k t632 t635 t636 t637 t643 bt647.1 bt651.1 (t632.length : Int) true)) else (laws_FnQuotas.j0 k t632 t635 t636 t637 t643 bt647.1 bt651.1 (t632.length : Int) true)) else (laws_FnQuotas.j0 k t632 t635 t636 t637 t643 bt647.1 bt651.1 (t632.length : Int) true)) else (laws_FnQuotas.j0 k t632 t635 t636 t637 t643 bt647.1 bt651.1 (t632.length : Int) true)) else (laws_FnQuotas.j0 k t632 t635 t636 t637 t643 bt647.1 bt651.1 (t632.length : Int) true)) else (laws_FnQuotas.j0 k t632 t635 t636 t637 t643 bt647.1 bt651.1 (t632.length : Int) true)) else (laws_FnQuotas.j0 k t632 t635 t636 t637 t643 bt647.1 bt651.1 (t632.length : Int) true)) else (laws_FnQuotas.j0 k t632 t635 t636 t637 t643 bt647.1 bt651.1 (t632.length : Int) true))))) = some r := H
  have A8 := Zab.mk A80
  clear A80
  replace H := Option.bind_eq_some_iff.mp H
  obtain ⟨⟨t647, t648⟩, A90, H⟩ := H
  replace H : ((impl_SeatsBy.f k 3 t632 t635).bind fun bt651 => ((Zak.f k t632 t643).bind fun bt655 => (if t638 = true then (if t644 = true then (if t648 = true then (if bt651.2 = true then (if bt655.2 = true then (if (t636.length : Int) = (t632.length : Int) then (if (t637.length : Int) = (t632.length : Int) then (if (t643.length : Int) = (t632.length : Int) then (if (t647.length : Int) = (t632.length : Int) then (if (bt651.1.length : Int) = (t632.length : Int) then ((laws_r8Sum.f k t643).bind fun t659 => (if t659 = t635 then (laws_FnQuotas.j0 k t632 t635 t636 t637 t643 t647 bt651.1 (t632.length : Int) ((bt655.1.length : Int) != 0)) else (laws_FnQuotas.j0 k t632 t635 t636 t637 t643 t647 bt651.1 (t632.length : Int) true))) else (laws_FnQuotas.j0 k t632 t635 t636 t637 t643 t647 bt651.1 (t632.length : Int) true)) else (laws_FnQuotas.j0 k t632 t635 t636 t637 t643 t647 bt651.1 (t632.length : Int) true)) else (laws_FnQuotas.j0 k t632 t635 t636 t637 t643 t647 bt651.1 (t632.length : Int) true)) else (laws_FnQuotas.j0 k t632 t635 t636 t637 t643 t647 bt651.1 (t632.length : Int) true)) else (laws_FnQuotas.j0 k t632 t635 t636 t637 t643 t647 bt651.1 (t632.length : Int) true)) else (laws_FnQuotas.j0 k t632 t635 t636 t637 t643 t647 bt651.1 (t632.length : Int) true)) else (laws_FnQuotas.j0 k t632 t635 t636 t637 t643 t647 bt651.1 (t632.length : Int) true)) else (laws_FnQuotas.j0 k t632 t635 t636 t637 t643 t647 bt651.1 (t632.length : Int) true)) else (laws_FnQuotas.j0 k t632 t635 t636 t637 t643 t647 bt651.1 (t632.length : Int) true)) else (laws_FnQuotas.j0 k t632 t635 t636 t637 t643 t647 bt651.1 (t632.length : Int) true)))) = some r := H
  have A9 := Zab.mk A90
  clear A90
  replace H := Option.bind_eq_some_iff.mp H
  obtain ⟨⟨t651, t652⟩, A100, H⟩ := H
  replace H : ((Zak.f k t632 t643).bind fun bt655 => (if t638 = true then (if t644 = true then (if t648 = true then (if t652 = true then (if bt655.2 = true then (if (t636.length : Int) = (t632.length : Int) then (if (t637.length : Int) = (t632.length : Int) then (if (t643.length : Int) = (t632.length : Int) then (if (t647.length : Int) = (t632.length : Int) then (if (t651.length : Int) = (t632.length : Int) then ((laws_r8Sum.f k t643).bind fun t659 => (if t659 = t635 then (laws_FnQuotas.j0 k t632 t635 t636 t637 t643 t647 t651 (t632.length : Int) ((bt655.1.length : Int) != 0)) else (laws_FnQuotas.j0 k t632 t635 t636 t637 t643 t647 t651 (t632.length : Int) true))) else (laws_FnQuotas.j0 k t632 t635 t636 t637 t643 t647 t651 (t632.length : Int) true)) else (laws_FnQuotas.j0 k t632 t635 t636 t637 t643 t647 t651 (t632.length : Int) true)) else (laws_FnQuotas.j0 k t632 t635 t636 t637 t643 t647 t651 (t632.length : Int) true)) else (laws_FnQuotas.j0 k t632 t635 t636 t637 t643 t647 t651 (t632.length : Int) true)) else (laws_FnQuotas.j0 k t632 t635 t636 t637 t643 t647 t651 (t632.length : Int) true)) else (laws_FnQuotas.j0 k t632 t635 t636 t637 t643 t647 t651 (t632.length : Int) true)) else (laws_FnQuotas.j0 k t632 t635 t636 t637 t643 t647 t651 (t632.length : Int) true)) else (laws_FnQuotas.j0 k t632 t635 t636 t637 t643 t647 t651 (t632.length : Int) true)) else (laws_FnQuotas.j0 k t632 t635 t636 t637 t643 t647 t651 (t632.length : Int) true)) else (laws_FnQuotas.j0 k t632 t635 t636 t637 t643 t647 t651 (t632.length : Int) true))) = some r := H
  have A10 := Zab.mk A100
  clear A100
  replace H := Option.bind_eq_some_iff.mp H
  obtain ⟨⟨t655, t656⟩, A110, H⟩ := H
  replace H : (if t638 = true then (if t644 = true then (if t648 = true then (if t652 = true then (if t656 = true then (if (t636.length : Int) = (t632.length : Int) then (if (t637.length : Int) = (t632.length : Int) then (if (t643.length : Int) = (t632.length : Int) then (if (t647.length : Int) = (t632.length : Int) then (if (t651.length : Int) = (t632.length : Int) then ((laws_r8Sum.f k t643).bind fun t659 => (if t659 = t635 then (laws_FnQuotas.j0 k t632 t635 t636 t637 t643 t647 t651 (t632.length : Int) ((t655.length : Int) != 0)) else (laws_FnQuotas.j0 k t632 t635 t636 t637 t643 t647 t651 (t632.length : Int) true))) else (laws_FnQuotas.j0 k t632 t635 t636 t637 t643 t647 t651 (t632.length : Int) true)) else (laws_FnQuotas.j0 k t632 t635 t636 t637 t643 t647 t651 (t632.length : Int) true)) else (laws_FnQuotas.j0 k t632 t635 t636 t637 t643 t647 t651 (t632.length : Int) true)) else (laws_FnQuotas.j0 k t632 t635 t636 t637 t643 t647 t651 (t632.length : Int) true)) else (laws_FnQuotas.j0 k t632 t635 t636 t637 t643 t647 t651 (t632.length : Int) true)) else (laws_FnQuotas.j0 k t632 t635 t636 t637 t643 t647 t651 (t632.length : Int) true)) else (laws_FnQuotas.j0 k t632 t635 t636 t637 t643 t647 t651 (t632.length : Int) true)) else (laws_FnQuotas.j0 k t632 t635 t636 t637 t643 t647 t651 (t632.length : Int) true)) else (laws_FnQuotas.j0 k t632 t635 t636 t637 t643 t647 t651 (t632.length : Int) true)) else (laws_FnQuotas.j0 k t632 t635 t636 t637 t643 t647 t651 (t632.length : Int) true)) = some r := H
  have A11 := Zab.mk A110
  clear A110
  have HC12 := Zab.mk H
  clear H
  go_enter Try.func11, Try.ntmps11
  go_upto_region 11 with (first | (go_at_call 30; (with_reducible refine (laws_r8Long.calls _ _ l0 _ _ l1 false _ ?side1 ?side2 ?side3 ?side4 A3.out).mono ?_); (case side1 => repeat (first | exact HR0.out | (with_reducible refine Kd.C_alloc ?_ _) | (with_reducible refine Kd.C_drewN ?_ _) | (with_reducible refine Kd.C_drew ?_))); (case side2 => exact HC0.out); (case side3 => repeat (first | exact HR1.out | (with_reducible refine Kd.C_alloc ?_ _) | (with_reducible refine Kd.C_drewN ?_ _) | (with_reducible refine Kd.C_drew ?_))); (case side4 => exact HC1.out); rintro e w' ⟨rfl, ⟨nd, rfl⟩⟩; (try first | exact ⟨rfl, _, World.drewN_drewN _ _ _⟩ | exact ⟨rfl, _, Eq.trans (World.drewN_drewN _ _ _) (congrArg (World.drewN _) (Nat.add_assoc _ _ _))⟩)) | (go_at_call 31; (with_reducible refine (spec_R8Votes.calls k _ _ l0 t632 _ ?side1 ?side2 A5.out).mono ?_); (case side1 => repeat (first | exact HR0.out | (with_reducible refine Kd.C_alloc ?_ _) | (with_reducible refine Kd.C_drewN ?_ _) | (with_reducible refine Kd.C_drew ?_))); (case side2 => exact HC0.out); rintro e w13 ⟨v633, rfl, ho0, hb⟩; have n0_ := Zab.mk (Kd.R_lower ho0 (Zap (by repeat (first | (with_reducible first | exact HB.out | apply Zad | apply Zaa | apply Zac) | exact HB.out)))); have n1_ := Zab.mk (Zaq (by repeat (first | (with_reducible first | exact HB.out | apply Zad | apply Zaa | apply Zac) | exact HB.out)) hb); clear HB; have HO634 := n0_; have HB := n1_; clear n0_ n1_; (try clear hb); (try clear hb2); (try clear hk); (try clear hi); (try clear ho0)) | (go_at_call 33; (with_reducible refine (laws_r8At.calls _ _ l1 0 40 t635 _ ?side1 ?side2 A6.out).mono ?_); (case side1 => repeat (first | exact (Kd.C_below HR1.out HB.out) | (with_reducible refine Kd.C_alloc ?_ _) | (with_reducible refine Kd.C_drewN ?_ _) | (with_reducible refine Kd.C_drew ?_))); (case side2 => exact HC1.out); rintro e w' ⟨rfl, ⟨nd, rfl⟩⟩; (try first | exact ⟨rfl, _, World.drewN_drewN _ _ _⟩ | exact ⟨rfl, _, Eq.trans (World.drewN_drewN _ _ _) (congrArg (World.drewN _) (Nat.add_assoc _ _ _))⟩); obtain ⟨Ao14, co14, eo14⟩ := Kd.R_slice HO634.out; subst eo14) | (go_at_call 39; (with_reducible refine (impl_QuotasOf.calls k _ _ t632 t635 t636 t637 t638 _ ?side1 ?side2 A7.out).mono ?_); (case side1 => repeat (first | exact (Kd.R_reads' HO634.out).2.2 | (with_reducible refine Kd.C_alloc ?_ _) | (with_reducible refine Kd.C_drewN ?_ _) | (with_reducible refine Kd.C_drew ?_))); (case side2 => exact (Kd.R_reads' HO634.out).2.1); rintro e w15 ⟨v639, v641, rfl, ho0, ho1, hb⟩; have n0_ := Zab.mk (Kd.R_mono (Kd.R_told (Kd.R_told (Kd.R_old (by (with_reducible repeat (first | apply Kd.R_alloc | apply Kd.R_drewN | apply Kd.R_drew)); exact HO634.out) hb) (Kd.R_base ho0)) (Kd.R_base ho1)) (fun _ h_ => h_.1)); have n1_ := Zab.mk (Kd.R_lower (Kd.R_new' ho0 (Kd.R_lt (by (with_reducible repeat (first | apply Kd.R_alloc | apply Kd.R_drewN | apply Kd.R_drew)); exact HO634.out))) (Zap (by repeat (first | (with_reducible first | exact HB.out | apply Zad | apply Zaa | apply Zac) | exact HB.out)))); have n2_ := Zab.mk (Kd.R_lower (Kd.R_new' ho1 (Kd.R_lt (by (with_reducible repeat (first | apply Kd.R_alloc | apply Kd.R_drewN | apply Kd.R_drew)); exact HO634.out))) (Zap (by repeat (first | (with_reducible first | exact HB.out | apply Zad | apply Zaa | apply Zac) | exact HB.out)))); have n3_ := Zab.mk (Zaq (by repeat (first | (with_reducible first | exact HB.out | apply Zad | apply Zaa | apply Zac) | exact HB.out)) hb); clear HO634; clear HB; have HO634 := n0_; have HO640 := n1_; have HO642 := n2_; have HB := n3_; clear n0_ n1_ n2_ n3_; (try clear hb); (try clear hb2); (try clear hk); (try clear hi); (try clear ho0); (try clear ho1)) | (go_at_call 34; (with_reducible refine (impl_RemainderSeats.calls k _ _ t632 t635 t643 t644 _ ?side1 ?side2 A8.out).mono ?_); (case side1 => repeat (first | exact (Kd.R_reads' HO634.out).2.2 | (with_reducible refine Kd.C_alloc ?_ _) | (with_reducible refine Kd.C_drewN ?_ _) | (with_reducible refine Kd.C_drew ?_))); (case side2 => exact (Kd.R_reads' HO634.out).2.1); rintro e w16 ⟨v645, rfl, ho0, hb⟩; have n0_ := Zab.mk (Kd.R_elder' (by (with_reducible repeat (first | apply Kd.R_alloc | apply Kd.R_drewN | apply Kd.R_drew)); exact HO634.out) (Kd.R_base ho0) hb); have n1_ := Zab.mk (Kd.R_elder' (by (with_reducible repeat (first | apply Kd.R_alloc | apply Kd.R_drewN | apply Kd.R_drew)); exact HO640.out) (Kd.R_base ho0) hb); have n2_ := Zab.mk (Kd.R_elder' (by (with_reducible repeat (first | apply Kd.R_alloc | apply Kd.R_drewN | apply Kd.R_drew)); exact HO642.out) (Kd.R_base ho0) hb); have n3_ := Zab.mk (Kd.R_lower (Kd.R_new' (Kd.R_new' (Kd.R_new' ho0 (Kd.R_lt (by (with_reducible repeat (first | apply Kd.R_alloc | apply Kd.R_drewN | apply Kd.R_drew)); exact HO634.out))) (Kd.R_lt (by (with_reducible repeat (first | apply Kd.R_alloc | apply Kd.R_drewN | apply Kd.R_drew)); exact HO640.out))) (Kd.R_lt (by (with_reducible repeat (first | apply Kd.R_alloc | apply Kd.R_drewN | apply Kd.R_drew)); exact HO642.out))) (Zap (by repeat (first | (with_reducible first | exact HB.out | apply Zad | apply Zaa | apply Zac) | exact HB.out)))); have n4_ := Zab.mk (Zaq (by repeat (first | (with_reducible first | exact HB.out | apply Zad | apply Zaa | apply Zac) | exact HB.out)) hb); clear HO634; clear HO640; clear HO642; clear HB; have HO634 := n0_; have HO640 := n1_; have HO642 := n2_; have HO646 := n3_; have HB := n4_; clear n0_ n1_ n2_ n3_ n4_; (try clear hb); (try clear hb2); (try clear hk); (try clear hi); (try clear ho0)) | (go_at_call 22; (with_reducible refine (impl_SeatsBy.calls k 0 _ _ t632 t635 t647 t648 _ ?side1 ?side2 A9.out).mono ?_); (case side1 => repeat (first | exact (Kd.R_reads' HO634.out).2.2 | (with_reducible refine Kd.C_alloc ?_ _) | (with_reducible refine Kd.C_drewN ?_ _) | (with_reducible refine Kd.C_drew ?_))); (case side2 => exact (Kd.R_reads' HO634.out).2.1); rintro e w17 ⟨v649, rfl, ho0, hb⟩; have n0_ := Zab.mk (Kd.R_elder' (by (with_reducible repeat (first | apply Kd.R_alloc | apply Kd.R_drewN | apply Kd.R_drew)); exact HO634.out) (Kd.R_base ho0) hb); have n1_ := Zab.mk (Kd.R_elder' (by (with_reducible repeat (first | apply Kd.R_alloc | apply Kd.R_drewN | apply Kd.R_drew)); exact HO640.out) (Kd.R_base ho0) hb); have n2_ := Zab.mk (Kd.R_elder' (by (with_reducible repeat (first | apply Kd.R_alloc | apply Kd.R_drewN | apply Kd.R_drew)); exact HO642.out) (Kd.R_base ho0) hb); have n3_ := Zab.mk (Kd.R_elder' (by (with_reducible repeat (first | apply Kd.R_alloc | apply Kd.R_drewN | apply Kd.R_drew)); exact HO646.out) (Kd.R_base ho0) hb); have n4_ := Zab.mk (Kd.R_lower (Kd.R_new' (Kd.R_new' (Kd.R_new' (Kd.R_new' ho0 (Kd.R_lt (by (with_reducible repeat (first | apply Kd.R_alloc | apply Kd.R_drewN | apply Kd.R_drew)); exact HO634.out))) (Kd.R_lt (by (with_reducible repeat (first | apply Kd.R_alloc | apply Kd.R_drewN | apply Kd.R_drew)); exact HO640.out))) (Kd.R_lt (by (with_reducible repeat (first | apply Kd.R_alloc | apply Kd.R_drewN | apply Kd.R_drew)); exact HO642.out))) (Kd.R_lt (by (with_reducible repeat (first | apply Kd.R_alloc | apply Kd.R_drewN | apply Kd.R_drew)); exact HO646.out))) (Zap (by repeat (first | (with_reducible first | exact HB.out | apply Zad | apply Zaa | apply Zac) | exact HB.out)))); have n5_ := Zab.mk (Zaq (by repeat (first | (with_reducible first | exact HB.out | apply Zad | apply Zaa | apply Zac) | exact HB.out)) hb); clear HO634; clear HO640; clear HO642; clear HO646; clear HB; have HO634 := n0_; have HO640 := n1_; have HO642 := n2_; have HO646 := n3_; have HO650 := n4_; have HB := n5_; clear n0_ n1_ n2_ n3_ n4_ n5_; (try clear hb); (try clear hb2); (try clear hk); (try clear hi); (try clear ho0)) | (go_at_call 22; (with_reducible refine (impl_SeatsBy.calls k 3 _ _ t632 t635 t651 t652 _ ?side1 ?side2 A10.out).mono ?_); (case side1 => repeat (first | exact (Kd.R_reads' HO634.out).2.2 | (with_reducible refine Kd.C_alloc ?_ _) | (with_reducible refine Kd.C_drewN ?_ _) | (with_reducible refine Kd.C_drew ?_))); (case side2 => exact (Kd.R_reads' HO634.out).2.1); rintro e w18 ⟨v653, rfl, ho0, hb⟩; have n0_ := Zab.mk (Kd.R_elder' (by (with_reducible repeat (first | apply Kd.R_alloc | apply Kd.R_drewN | apply Kd.R_drew)); exact HO634.out) (Kd.R_base ho0) hb); have n1_ := Zab.mk (Kd.R_elder' (by (with_reducible repeat (first | apply Kd.R_alloc | apply Kd.R_drewN | apply Kd.R_drew)); exact HO640.out) (Kd.R_base ho0) hb); have n2_ := Zab.mk (Kd.R_elder' (by (with_reducible repeat (first | apply Kd.R_alloc | apply Kd.R_drewN | apply Kd.R_drew)); exact HO642.out) (Kd.R_base ho0) hb); have n3_ := Zab.mk (Kd.R_elder' (by (with_reducible repeat (first | apply Kd.R_alloc | apply Kd.R_drewN | apply Kd.R_drew)); exact HO646.out) (Kd.R_base ho0) hb); have n4_ := Zab.mk (Kd.R_elder' (by (with_reducible repeat (first | apply Kd.R_alloc | apply Kd.R_drewN | apply Kd.R_drew)); exact HO650.out) (Kd.R_base ho0) hb); have n5_ := Zab.mk (Kd.R_lower (Kd.R_new' (Kd.R_new' (Kd.R_new' (Kd.R_new' (Kd.R_new' ho0 (Kd.R_lt (by (with_reducible repeat (first | apply Kd.R_alloc | apply Kd.R_drewN | apply Kd.R_drew)); exact HO634.out))) (Kd.R_lt (by (with_reducible repeat (first | apply Kd.R_alloc | apply Kd.R_drewN | apply Kd.R_drew)); exact HO640.out))) (Kd.R_lt (by (with_reducible repeat (first | apply Kd.R_alloc | apply Kd.R_drewN | apply Kd.R_drew)); exact HO642.out))) (Kd.R_lt (by (with_reducible repeat (first | apply Kd.R_alloc | apply Kd.R_drewN | apply Kd.R_drew)); exact HO646.out))) (Kd.R_lt (by (with_reducible repeat (first | apply Kd.R_alloc | apply Kd.R_drewN | apply Kd.R_drew)); exact HO650.out))) (Zap (by repeat (first | (with_reducible first | exact HB.out | apply Zad | apply Zaa | apply Zac) | exact HB.out)))); have n6_ := Zab.mk (Zaq (by repeat (first | (with_reducible first | exact HB.out | apply Zad | apply Zaa | apply Zac) | exact HB.out)) hb); clear HO634; clear HO640; clear HO642; clear HO646; clear HO650; clear HB; have HO634 := n0_; have HO640 := n1_; have HO642 := n2_; have HO646 := n3_; have HO650 := n4_; have HO654 := n5_; have HB := n6_; clear n0_ n1_ n2_ n3_ n4_ n5_ n6_; (try clear hb); (try clear hb2); (try clear hk); (try clear hi); (try clear ho0); obtain ⟨Ao19, co19, eo19⟩ := Kd.R_slice HO646.out; subst eo19) | (go_at_call 40; (with_reducible refine (Zak.calls k _ _ t632 _ _ t643 t655 t656 _ ?side1 ?side2 ?side3 ?side4 A11.out).mono ?_); (case side1 => repeat (first | exact (Kd.R_reads' HO634.out).2.2 | (with_reducible refine Kd.C_alloc ?_ _) | (with_reducible refine Kd.C_drewN ?_ _) | (with_reducible refine Kd.C_drew ?_))); (case side2 => exact (Kd.R_reads' HO634.out).2.1); (case side3 => repeat (first | exact (Kd.R_reads' HO646.out).2.2 | (with_reducible refine Kd.C_alloc ?_ _) | (with_reducible refine Kd.C_drewN ?_ _) | (with_reducible refine Kd.C_drew ?_))); (case side4 => exact (Kd.R_reads' HO646.out).2.1); rintro e w20 ⟨v657, rfl, ho0, hb⟩; have n0_ := Zab.mk (Kd.R_elder' (by (with_reducible repeat (first | apply Kd.R_alloc | apply Kd.R_drewN | apply Kd.R_drew)); exact HO634.out) (Kd.R_base ho0) hb); have n1_ := Zab.mk (Kd.R_elder' (by (with_reducible repeat (first | apply Kd.R_alloc | apply Kd.R_drewN | apply Kd.R_drew)); exact HO640.out) (Kd.R_base ho0) hb); have n2_ := Zab.mk (Kd.R_elder' (by (with_reducible repeat (first | apply Kd.R_alloc | apply Kd.R_drewN | apply Kd.R_drew)); exact HO642.out) (Kd.R_base ho0) hb); have n3_ := Zab.mk (Kd.R_elder' (by (with_reducible repeat (first | apply Kd.R_alloc | apply Kd.R_drewN | apply Kd.R_drew)); exact HO646.out) (Kd.R_base ho0) hb); have n4_ := Zab.mk (Kd.R_elder' (by (with_reducible repeat (first | apply Kd.R_alloc | apply Kd.R_drewN | apply Kd.R_drew)); exact HO650.out) (Kd.R_base ho0) hb); have n5_ := Zab.mk (Kd.R_elder' (by (with_reducible repeat (first | apply Kd.R_alloc | apply Kd.R_drewN | apply Kd.R_drew)); exact HO654.out) (Kd.R_base ho0) hb); have n6_ := Zab.mk (Kd.R_lower (Kd.R_new' (Kd.R_new' (Kd.R_new' (Kd.R_new' (Kd.R_new' (Kd.R_new' ho0 (Kd.R_lt (by (with_reducible repeat (first | apply Kd.R_alloc | apply Kd.R_drewN | apply Kd.R_drew)); exact HO634.out))) (Kd.R_lt (by (with_reducible repeat (first | apply Kd.R_alloc | apply Kd.R_drewN | apply Kd.R_drew)); exact HO640.out))) (Kd.R_lt (by (with_reducible repeat (first | apply Kd.R_alloc | apply Kd.R_drewN | apply Kd.R_drew)); exact HO642.out))) (Kd.R_lt (by (with_reducible repeat (first | apply Kd.R_alloc | apply Kd.R_drewN | apply Kd.R_drew)); exact HO646.out))) (Kd.R_lt (by (with_reducible repeat (first | apply Kd.R_alloc | apply Kd.R_drewN | apply Kd.R_drew)); exact HO650.out))) (Kd.R_lt (by (with_reducible repeat (first | apply Kd.R_alloc | apply Kd.R_drewN | apply Kd.R_drew)); exact HO654.out))) (Zap (by repeat (first | (with_reducible first | exact HB.out | apply Zad | apply Zaa | apply Zac) | exact HB.out)))); have n7_ := Zab.mk (Zaq (by repeat (first | (with_reducible first | exact HB.out | apply Zad | apply Zaa | apply Zac) | exact HB.out)) hb); clear HO634; clear HO640; clear HO642; clear HO646; clear HO650; clear HO654; clear HB; have HO634 := n0_; have HO640 := n1_; have HO642 := n2_; have HO646 := n3_; have HO650 := n4_; have HO654 := n5_; have HO658 := n6_; have HB := n7_; clear n0_ n1_ n2_ n3_ n4_ n5_ n6_ n7_; (try clear hb); (try clear hb2); (try clear hk); (try clear hi); (try clear ho0)))
  repeat (go_quiet (first | (go_at_call 30; (with_reducible refine (laws_r8Long.calls _ _ l0 _ _ l1 false _ ?side1 ?side2 ?side3 ?side4 A3.out).mono ?_); (case side1 => repeat (first | exact HR0.out | (with_reducible refine Kd.C_alloc ?_ _) | (with_reducible refine Kd.C_drewN ?_ _) | (with_reducible refine Kd.C_drew ?_))); (case side2 => exact HC0.out); (case side3 => repeat (first | exact HR1.out | (with_reducible refine Kd.C_alloc ?_ _) | (with_reducible refine Kd.C_drewN ?_ _) | (with_reducible refine Kd.C_drew ?_))); (case side4 => exact HC1.out); rintro e w' ⟨rfl, ⟨nd, rfl⟩⟩; (try first | exact ⟨rfl, _, World.drewN_drewN _ _ _⟩ | exact ⟨rfl, _, Eq.trans (World.drewN_drewN _ _ _) (congrArg (World.drewN _) (Nat.add_assoc _ _ _))⟩)) | (go_at_call 31; (with_reducible refine (spec_R8Votes.calls k _ _ l0 t632 _ ?side1 ?side2 A5.out).mono ?_); (case side1 => repeat (first | exact HR0.out | (with_reducible refine Kd.C_alloc ?_ _) | (with_reducible refine Kd.C_drewN ?_ _) | (with_reducible refine Kd.C_drew ?_))); (case side2 => exact HC0.out); rintro e w13 ⟨v633, rfl, ho0, hb⟩; have n0_ := Zab.mk (Kd.R_lower ho0 (Zap (by repeat (first | (with_reducible first | exact HB.out | apply Zad | apply Zaa | apply Zac) | exact HB.out)))); have n1_ := Zab.mk (Zaq (by repeat (first | (with_reducible first | exact HB.out | apply Zad | apply Zaa | apply Zac) | exact HB.out)) hb); clear HB; have HO634 := n0_; have HB := n1_; clear n0_ n1_; (try clear hb); (try clear hb2); (try clear hk); (try clear hi); (try clear ho0)) | (go_at_call 33; (with_reducible refine (laws_r8At.calls _ _ l1 0 40 t635 _ ?side1 ?side2 A6.out).mono ?_); (case side1 => repeat (first | exact (Kd.C_below HR1.out HB.out) | (with_reducible refine Kd.C_alloc ?_ _) | (with_reducible refine Kd.C_drewN ?_ _) | (with_reducible refine Kd.C_drew ?_))); (case side2 => exact HC1.out); rintro e w' ⟨rfl, ⟨nd, rfl⟩⟩; (try first | exact ⟨rfl, _, World.drewN_drewN _ _ _⟩ | exact ⟨rfl, _, Eq.trans (World.drewN_drewN _ _ _) (congrArg (World.drewN _) (Nat.add_assoc _ _ _))⟩); obtain ⟨Ao14, co14, eo14⟩ := Kd.R_slice HO634.out; subst eo14) | (go_at_call 39; (with_reducible refine (impl_QuotasOf.calls k _ _ t632 t635 t636 t637 t638 _ ?side1 ?side2 A7.out).mono ?_); (case side1 => repeat (first | exact (Kd.R_reads' HO634.out).2.2 | (with_reducible refine Kd.C_alloc ?_ _) | (with_reducible refine Kd.C_drewN ?_ _) | (with_reducible refine Kd.C_drew ?_))); (case side2 => exact (Kd.R_reads' HO634.out).2.1); rintro e w15 ⟨v639, v641, rfl, ho0, ho1, hb⟩; have n0_ := Zab.mk (Kd.R_mono (Kd.R_told (Kd.R_told (Kd.R_old (by (with_reducible repeat (first | apply Kd.R_alloc | apply Kd.R_drewN | apply Kd.R_drew)); exact HO634.out) hb) (Kd.R_base ho0)) (Kd.R_base ho1)) (fun _ h_ => h_.1)); have n1_ := Zab.mk (Kd.R_lower (Kd.R_new' ho0 (Kd.R_lt (by (with_reducible repeat (first | apply Kd.R_alloc | apply Kd.R_drewN | apply Kd.R_drew)); exact HO634.out))) (Zap (by repeat (first | (with_reducible first | exact HB.out | apply Zad | apply Zaa | apply Zac) | exact HB.out)))); have n2_ := Zab.mk (Kd.R_lower (Kd.R_new' ho1 (Kd.R_lt (by (with_reducible repeat (first | apply Kd.R_alloc | apply Kd.R_drewN | apply Kd.R_drew)); exact HO634.out))) (Zap (by repeat (first | (with_reducible first | exact HB.out | apply Zad | apply Zaa | apply Zac) | exact HB.out)))); have n3_ := Zab.mk (Zaq (by repeat (first | (with_reducible first | exact HB.out | apply Zad | apply Zaa | apply Zac) | exact HB.out)) hb); clear HO634; clear HB; have HO634 := n0_; have HO640 := n1_; have HO642 := n2_; have HB := n3_; clear n0_ n1_ n2_ n3_; (try clear hb); (try clear hb2); (try clear hk); (try clear hi); (try clear ho0); (try clear ho1)) | (go_at_call 34; (with_reducible refine (impl_RemainderSeats.calls k _ _ t632 t635 t643 t644 _ ?side1 ?side2 A8.out).mono ?_); (case side1 => repeat (first | exact (Kd.R_reads' HO634.out).2.2 | (with_reducible refine Kd.C_alloc ?_ _) | (with_reducible refine Kd.C_drewN ?_ _) | (with_reducible refine Kd.C_drew ?_))); (case side2 => exact (Kd.R_reads' HO634.out).2.1); rintro e w16 ⟨v645, rfl, ho0, hb⟩; have n0_ := Zab.mk (Kd.R_elder' (by (with_reducible repeat (first | apply Kd.R_alloc | apply Kd.R_drewN | apply Kd.R_drew)); exact HO634.out) (Kd.R_base ho0) hb); have n1_ := Zab.mk (Kd.R_elder' (by (with_reducible repeat (first | apply Kd.R_alloc | apply Kd.R_drewN | apply Kd.R_drew)); exact HO640.out) (Kd.R_base ho0) hb); have n2_ := Zab.mk (Kd.R_elder' (by (with_reducible repeat (first | apply Kd.R_alloc | apply Kd.R_drewN | apply Kd.R_drew)); exact HO642.out) (Kd.R_base ho0) hb); have n3_ := Zab.mk (Kd.R_lower (Kd.R_new' (Kd.R_new' (Kd.R_new' ho0 (Kd.R_lt (by (with_reducible repeat (first | apply Kd.R_alloc | apply Kd.R_drewN | apply Kd.R_drew)); exact HO634.out))) (Kd.R_lt (by (with_reducible repeat (first | apply Kd.R_alloc | apply Kd.R_drewN | apply Kd.R_drew)); exact HO640.out))) (Kd.R_lt (by (with_reducible repeat (first | apply Kd.R_alloc | apply Kd.R_drewN | apply Kd.R_drew)); exact HO642.out))) (Zap (by repeat (first | (with_reducible first | exact HB.out | apply Zad | apply Zaa | apply Zac) | exact HB.out)))); have n4_ := Zab.mk (Zaq (by repeat (first | (with_reducible first | exact HB.out | apply Zad | apply Zaa | apply Zac) | exact HB.out)) hb); clear HO634; clear HO640; clear HO642; clear HB; have HO634 := n0_; have HO640 := n1_; have HO642 := n2_; have HO646 := n3_; have HB := n4_; clear n0_ n1_ n2_ n3_ n4_; (try clear hb); (try clear hb2); (try clear hk); (try clear hi); (try clear ho0)) | (go_at_call 22; (with_reducible refine (impl_SeatsBy.calls k 0 _ _ t632 t635 t647 t648 _ ?side1 ?side2 A9.out).mono ?_); (case side1 => repeat (first | exact (Kd.R_reads' HO634.out).2.2 | (with_reducible refine Kd.C_alloc ?_ _) | (with_reducible refine Kd.C_drewN ?_ _) | (with_reducible refine Kd.C_drew ?_))); (case side2 => exact (Kd.R_reads' HO634.out).2.1); rintro e w17 ⟨v649, rfl, ho0, hb⟩; have n0_ := Zab.mk (Kd.R_elder' (by (with_reducible repeat (first | apply Kd.R_alloc | apply Kd.R_drewN | apply Kd.R_drew)); exact HO634.out) (Kd.R_base ho0) hb); have n1_ := Zab.mk (Kd.R_elder' (by (with_reducible repeat (first | apply Kd.R_alloc | apply Kd.R_drewN | apply Kd.R_drew)); exact HO640.out) (Kd.R_base ho0) hb); have n2_ := Zab.mk (Kd.R_elder' (by (with_reducible repeat (first | apply Kd.R_alloc | apply Kd.R_drewN | apply Kd.R_drew)); exact HO642.out) (Kd.R_base ho0) hb); have n3_ := Zab.mk (Kd.R_elder' (by (with_reducible repeat (first | apply Kd.R_alloc | apply Kd.R_drewN | apply Kd.R_drew)); exact HO646.out) (Kd.R_base ho0) hb); have n4_ := Zab.mk (Kd.R_lower (Kd.R_new' (Kd.R_new' (Kd.R_new' (Kd.R_new' ho0 (Kd.R_lt (by (with_reducible repeat (first | apply Kd.R_alloc | apply Kd.R_drewN | apply Kd.R_drew)); exact HO634.out))) (Kd.R_lt (by (with_reducible repeat (first | apply Kd.R_alloc | apply Kd.R_drewN | apply Kd.R_drew)); exact HO640.out))) (Kd.R_lt (by (with_reducible repeat (first | apply Kd.R_alloc | apply Kd.R_drewN | apply Kd.R_drew)); exact HO642.out))) (Kd.R_lt (by (with_reducible repeat (first | apply Kd.R_alloc | apply Kd.R_drewN | apply Kd.R_drew)); exact HO646.out))) (Zap (by repeat (first | (with_reducible first | exact HB.out | apply Zad | apply Zaa | apply Zac) | exact HB.out)))); have n5_ := Zab.mk (Zaq (by repeat (first | (with_reducible first | exact HB.out | apply Zad | apply Zaa | apply Zac) | exact HB.out)) hb); clear HO634; clear HO640; clear HO642; clear HO646; clear HB; have HO634 := n0_; have HO640 := n1_; have HO642 := n2_; have HO646 := n3_; have HO650 := n4_; have HB := n5_; clear n0_ n1_ n2_ n3_ n4_ n5_; (try clear hb); (try clear hb2); (try clear hk); (try clear hi); (try clear ho0)) | (go_at_call 22; (with_reducible refine (impl_SeatsBy.calls k 3 _ _ t632 t635 t651 t652 _ ?side1 ?side2 A10.out).mono ?_); (case side1 => repeat (first | exact (Kd.R_reads' HO634.out).2.2 | (with_reducible refine Kd.C_alloc ?_ _) | (with_reducible refine Kd.C_drewN ?_ _) | (with_reducible refine Kd.C_drew ?_))); (case side2 => exact (Kd.R_reads' HO634.out).2.1); rintro e w18 ⟨v653, rfl, ho0, hb⟩; have n0_ := Zab.mk (Kd.R_elder' (by (with_reducible repeat (first | apply Kd.R_alloc | apply Kd.R_drewN | apply Kd.R_drew)); exact HO634.out) (Kd.R_base ho0) hb); have n1_ := Zab.mk (Kd.R_elder' (by (with_reducible repeat (first | apply Kd.R_alloc | apply Kd.R_drewN | apply Kd.R_drew)); exact HO640.out) (Kd.R_base ho0) hb); have n2_ := Zab.mk (Kd.R_elder' (by (with_reducible repeat (first | apply Kd.R_alloc | apply Kd.R_drewN | apply Kd.R_drew)); exact HO642.out) (Kd.R_base ho0) hb); have n3_ := Zab.mk (Kd.R_elder' (by (with_reducible repeat (first | apply Kd.R_alloc | apply Kd.R_drewN | apply Kd.R_drew)); exact HO646.out) (Kd.R_base ho0) hb); have n4_ := Zab.mk (Kd.R_elder' (by (with_reducible repeat (first | apply Kd.R_alloc | apply Kd.R_drewN | apply Kd.R_drew)); exact HO650.out) (Kd.R_base ho0) hb); have n5_ := Zab.mk (Kd.R_lower (Kd.R_new' (Kd.R_new' (Kd.R_new' (Kd.R_new' (Kd.R_new' ho0 (Kd.R_lt (by (with_reducible repeat (first | apply Kd.R_alloc | apply Kd.R_drewN | apply Kd.R_drew)); exact HO634.out))) (Kd.R_lt (by (with_reducible repeat (first | apply Kd.R_alloc | apply Kd.R_drewN | apply Kd.R_drew)); exact HO640.out))) (Kd.R_lt (by (with_reducible repeat (first | apply Kd.R_alloc | apply Kd.R_drewN | apply Kd.R_drew)); exact HO642.out))) (Kd.R_lt (by (with_reducible repeat (first | apply Kd.R_alloc | apply Kd.R_drewN | apply Kd.R_drew)); exact HO646.out))) (Kd.R_lt (by (with_reducible repeat (first | apply Kd.R_alloc | apply Kd.R_drewN | apply Kd.R_drew)); exact HO650.out))) (Zap (by repeat (first | (with_reducible first | exact HB.out | apply Zad | apply Zaa | apply Zac) | exact HB.out)))); have n6_ := Zab.mk (Zaq (by repeat (first | (with_reducible first | exact HB.out | apply Zad | apply Zaa | apply Zac) | exact HB.out)) hb); clear HO634; clear HO640; clear HO642; clear HO646; clear HO650; clear HB; have HO634 := n0_; have HO640 := n1_; have HO642 := n2_; have HO646 := n3_; have HO650 := n4_; have HO654 := n5_; have HB := n6_; clear n0_ n1_ n2_ n3_ n4_ n5_ n6_; (try clear hb); (try clear hb2); (try clear hk); (try clear hi); (try clear ho0); obtain ⟨Ao19, co19, eo19⟩ := Kd.R_slice HO646.out; subst eo19) | (go_at_call 40; (with_reducible refine (Zak.calls k _ _ t632 _ _ t643 t655 t656 _ ?side1 ?side2 ?side3 ?side4 A11.out).mono ?_); (case side1 => repeat (first | exact (Kd.R_reads' HO634.out).2.2 | (with_reducible refine Kd.C_alloc ?_ _) | (with_reducible refine Kd.C_drewN ?_ _) | (with_reducible refine Kd.C_drew ?_))); (case side2 => exact (Kd.R_reads' HO634.out).2.1); (case side3 => repeat (first | exact (Kd.R_reads' HO646.out).2.2 | (with_reducible refine Kd.C_alloc ?_ _) | (with_reducible refine Kd.C_drewN ?_ _) | (with_reducible refine Kd.C_drew ?_))); (case side4 => exact (Kd.R_reads' HO646.out).2.1); rintro e w20 ⟨v657, rfl, ho0, hb⟩; have n0_ := Zab.mk (Kd.R_elder' (by (with_reducible repeat (first | apply Kd.R_alloc | apply Kd.R_drewN | apply Kd.R_drew)); exact HO634.out) (Kd.R_base ho0) hb); have n1_ := Zab.mk (Kd.R_elder' (by (with_reducible repeat (first | apply Kd.R_alloc | apply Kd.R_drewN | apply Kd.R_drew)); exact HO640.out) (Kd.R_base ho0) hb); have n2_ := Zab.mk (Kd.R_elder' (by (with_reducible repeat (first | apply Kd.R_alloc | apply Kd.R_drewN | apply Kd.R_drew)); exact HO642.out) (Kd.R_base ho0) hb); have n3_ := Zab.mk (Kd.R_elder' (by (with_reducible repeat (first | apply Kd.R_alloc | apply Kd.R_drewN | apply Kd.R_drew)); exact HO646.out) (Kd.R_base ho0) hb); have n4_ := Zab.mk (Kd.R_elder' (by (with_reducible repeat (first | apply Kd.R_alloc | apply Kd.R_drewN | apply Kd.R_drew)); exact HO650.out) (Kd.R_base ho0) hb); have n5_ := Zab.mk (Kd.R_elder' (by (with_reducible repeat (first | apply Kd.R_alloc | apply Kd.R_drewN | apply Kd.R_drew)); exact HO654.out) (Kd.R_base ho0) hb); have n6_ := Zab.mk (Kd.R_lower (Kd.R_new' (Kd.R_new' (Kd.R_new' (Kd.R_new' (Kd.R_new' (Kd.R_new' ho0 (Kd.R_lt (by (with_reducible repeat (first | apply Kd.R_alloc | apply Kd.R_drewN | apply Kd.R_drew)); exact HO634.out))) (Kd.R_lt (by (with_reducible repeat (first | apply Kd.R_alloc | apply Kd.R_drewN | apply Kd.R_drew)); exact HO640.out))) (Kd.R_lt (by (with_reducible repeat (first | apply Kd.R_alloc | apply Kd.R_drewN | apply Kd.R_drew)); exact HO642.out))) (Kd.R_lt (by (with_reducible repeat (first | apply Kd.R_alloc | apply Kd.R_drewN | apply Kd.R_drew)); exact HO646.out))) (Kd.R_lt (by (with_reducible repeat (first | apply Kd.R_alloc | apply Kd.R_drewN | apply Kd.R_drew)); exact HO650.out))) (Kd.R_lt (by (with_reducible repeat (first | apply Kd.R_alloc | apply Kd.R_drewN | apply Kd.R_drew)); exact HO654.out))) (Zap (by repeat (first | (with_reducible first | exact HB.out | apply Zad | apply Zaa | apply Zac) | exact HB.out)))); have n7_ := Zab.mk (Zaq (by repeat (first | (with_reducible first | exact HB.out | apply Zad | apply Zaa | apply Zac) | exact HB.out)) hb); clear HO634; clear HO640; clear HO642; clear HO646; clear HO650; clear HO654; clear HB; have HO634 := n0_; have HO640 := n1_; have HO642 := n2_; have HO646 := n3_; have HO650 := n4_; have HO654 := n5_; have HO658 := n6_; have HB := n7_; clear n0_ n1_ n2_ n3_ n4_ n5_ n6_ n7_; (try clear hb); (try clear hb2); (try clear hk); (try clear hi); (try clear ho0))); go_upto_region 11 with (first | (go_at_call 30; (with_reducible refine (laws_r8Long.calls _ _ l0 _ _ l1 false _ ?side1 ?side2 ?side3 ?side4 A3.out).mono ?_); (case side1 => repeat (first | exact HR0.out | (with_reducible refine Kd.C_alloc ?_ _) | (with_reducible refine Kd.C_drewN ?_ _) | (with_reducible refine Kd.C_drew ?_))); (case side2 => exact HC0.out); (case side3 => repeat (first | exact HR1.out | (with_reducible refine Kd.C_alloc ?_ _) | (with_reducible refine Kd.C_drewN ?_ _) | (with_reducible refine Kd.C_drew ?_))); (case side4 => exact HC1.out); rintro e w' ⟨rfl, ⟨nd, rfl⟩⟩; (try first | exact ⟨rfl, _, World.drewN_drewN _ _ _⟩ | exact ⟨rfl, _, Eq.trans (World.drewN_drewN _ _ _) (congrArg (World.drewN _) (Nat.add_assoc _ _ _))⟩)) | (go_at_call 31; (with_reducible refine (spec_R8Votes.calls k _ _ l0 t632 _ ?side1 ?side2 A5.out).mono ?_); (case side1 => repeat (first | exact HR0.out | (with_reducible refine Kd.C_alloc ?_ _) | (with_reducible refine Kd.C_drewN ?_ _) | (with_reducible refine Kd.C_drew ?_))); (case side2 => exact HC0.out); rintro e w13 ⟨v633, rfl, ho0, hb⟩; have n0_ := Zab.mk (Kd.R_lower ho0 (Zap (by repeat (first | (with_reducible first | exact HB.out | apply Zad | apply Zaa | apply Zac) | exact HB.out)))); have n1_ := Zab.mk (Zaq (by repeat (first | (with_reducible first | exact HB.out | apply Zad | apply Zaa | apply Zac) | exact HB.out)) hb); clear HB; have HO634 := n0_; have HB := n1_; clear n0_ n1_; (try clear hb); (try clear hb2); (try clear hk); (try clear hi); (try clear ho0)) | (go_at_call 33; (with_reducible refine (laws_r8At.calls _ _ l1 0 40 t635 _ ?side1 ?side2 A6.out).mono ?_); (case side1 => repeat (first | exact (Kd.C_below HR1.out HB.out) | (with_reducible refine Kd.C_alloc ?_ _) | (with_reducible refine Kd.C_drewN ?_ _) | (with_reducible refine Kd.C_drew ?_))); (case side2 => exact HC1.out); rintro e w' ⟨rfl, ⟨nd, rfl⟩⟩; (try first | exact ⟨rfl, _, World.drewN_drewN _ _ _⟩ | exact ⟨rfl, _, Eq.trans (World.drewN_drewN _ _ _) (congrArg (World.drewN _) (Nat.add_assoc _ _ _))⟩); obtain ⟨Ao14, co14, eo14⟩ := Kd.R_slice HO634.out; subst eo14) | (go_at_call 39; (with_reducible refine (impl_QuotasOf.calls k _ _ t632 t635 t636 t637 t638 _ ?side1 ?side2 A7.out).mono ?_); (case side1 => repeat (first | exact (Kd.R_reads' HO634.out).2.2 | (with_reducible refine Kd.C_alloc ?_ _) | (with_reducible refine Kd.C_drewN ?_ _) | (with_reducible refine Kd.C_drew ?_))); (case side2 => exact (Kd.R_reads' HO634.out).2.1); rintro e w15 ⟨v639, v641, rfl, ho0, ho1, hb⟩; have n0_ := Zab.mk (Kd.R_mono (Kd.R_told (Kd.R_told (Kd.R_old (by (with_reducible repeat (first | apply Kd.R_alloc | apply Kd.R_drewN | apply Kd.R_drew)); exact HO634.out) hb) (Kd.R_base ho0)) (Kd.R_base ho1)) (fun _ h_ => h_.1)); have n1_ := Zab.mk (Kd.R_lower (Kd.R_new' ho0 (Kd.R_lt (by (with_reducible repeat (first | apply Kd.R_alloc | apply Kd.R_drewN | apply Kd.R_drew)); exact HO634.out))) (Zap (by repeat (first | (with_reducible first | exact HB.out | apply Zad | apply Zaa | apply Zac) | exact HB.out)))); have n2_ := Zab.mk (Kd.R_lower (Kd.R_new' ho1 (Kd.R_lt (by (with_reducible repeat (first | apply Kd.R_alloc | apply Kd.R_drewN | apply Kd.R_drew)); exact HO634.out))) (Zap (by repeat (first | (with_reducible first | exact HB.out | apply Zad | apply Zaa | apply Zac) | exact HB.out)))); have n3_ := Zab.mk (Zaq (by repeat (first | (with_reducible first | exact HB.out | apply Zad | apply Zaa | apply Zac) | exact HB.out)) hb); clear HO634; clear HB; have HO634 := n0_; have HO640 := n1_; have HO642 := n2_; have HB := n3_; clear n0_ n1_ n2_ n3_; (try clear hb); (try clear hb2); (try clear hk); (try clear hi); (try clear ho0); (try clear ho1)) | (go_at_call 34; (with_reducible refine (impl_RemainderSeats.calls k _ _ t632 t635 t643 t644 _ ?side1 ?side2 A8.out).mono ?_); (case side1 => repeat (first | exact (Kd.R_reads' HO634.out).2.2 | (with_reducible refine Kd.C_alloc ?_ _) | (with_reducible refine Kd.C_drewN ?_ _) | (with_reducible refine Kd.C_drew ?_))); (case side2 => exact (Kd.R_reads' HO634.out).2.1); rintro e w16 ⟨v645, rfl, ho0, hb⟩; have n0_ := Zab.mk (Kd.R_elder' (by (with_reducible repeat (first | apply Kd.R_alloc | apply Kd.R_drewN | apply Kd.R_drew)); exact HO634.out) (Kd.R_base ho0) hb); have n1_ := Zab.mk (Kd.R_elder' (by (with_reducible repeat (first | apply Kd.R_alloc | apply Kd.R_drewN | apply Kd.R_drew)); exact HO640.out) (Kd.R_base ho0) hb); have n2_ := Zab.mk (Kd.R_elder' (by (with_reducible repeat (first | apply Kd.R_alloc | apply Kd.R_drewN | apply Kd.R_drew)); exact HO642.out) (Kd.R_base ho0) hb); have n3_ := Zab.mk (Kd.R_lower (Kd.R_new' (Kd.R_new' (Kd.R_new' ho0 (Kd.R_lt (by (with_reducible repeat (first | apply Kd.R_alloc | apply Kd.R_drewN | apply Kd.R_drew)); exact HO634.out))) (Kd.R_lt (by (with_reducible repeat (first | apply Kd.R_alloc | apply Kd.R_drewN | apply Kd.R_drew)); exact HO640.out))) (Kd.R_lt (by (with_reducible repeat (first | apply Kd.R_alloc | apply Kd.R_drewN | apply Kd.R_drew)); exact HO642.out))) (Zap (by repeat (first | (with_reducible first | exact HB.out | apply Zad | apply Zaa | apply Zac) | exact HB.out)))); have n4_ := Zab.mk (Zaq (by repeat (first | (with_reducible first | exact HB.out | apply Zad | apply Zaa | apply Zac) | exact HB.out)) hb); clear HO634; clear HO640; clear HO642; clear HB; have HO634 := n0_; have HO640 := n1_; have HO642 := n2_; have HO646 := n3_; have HB := n4_; clear n0_ n1_ n2_ n3_ n4_; (try clear hb); (try clear hb2); (try clear hk); (try clear hi); (try clear ho0)) | (go_at_call 22; (with_reducible refine (impl_SeatsBy.calls k 0 _ _ t632 t635 t647 t648 _ ?side1 ?side2 A9.out).mono ?_); (case side1 => repeat (first | exact (Kd.R_reads' HO634.out).2.2 | (with_reducible refine Kd.C_alloc ?_ _) | (with_reducible refine Kd.C_drewN ?_ _) | (with_reducible refine Kd.C_drew ?_))); (case side2 => exact (Kd.R_reads' HO634.out).2.1); rintro e w17 ⟨v649, rfl, ho0, hb⟩; have n0_ := Zab.mk (Kd.R_elder' (by (with_reducible repeat (first | apply Kd.R_alloc | apply Kd.R_drewN | apply Kd.R_drew)); exact HO634.out) (Kd.R_base ho0) hb); have n1_ := Zab.mk (Kd.R_elder' (by (with_reducible repeat (first | apply Kd.R_alloc | apply Kd.R_drewN | apply Kd.R_drew)); exact HO640.out) (Kd.R_base ho0) hb); have n2_ := Zab.mk (Kd.R_elder' (by (with_reducible repeat (first | apply Kd.R_alloc | apply Kd.R_drewN | apply Kd.R_drew)); exact HO642.out) (Kd.R_base ho0) hb); have n3_ := Zab.mk (Kd.R_elder' (by (with_reducible repeat (first | apply Kd.R_alloc | apply Kd.R_drewN | apply Kd.R_drew)); exact HO646.out) (Kd.R_base ho0) hb); have n4_ := Zab.mk (Kd.R_lower (Kd.R_new' (Kd.R_new' (Kd.R_new' (Kd.R_new' ho0 (Kd.R_lt (by (with_reducible repeat (first | apply Kd.R_alloc | apply Kd.R_drewN | apply Kd.R_drew)); exact HO634.out))) (Kd.R_lt (by (with_reducible repeat (first | apply Kd.R_alloc | apply Kd.R_drewN | apply Kd.R_drew)); exact HO640.out))) (Kd.R_lt (by (with_reducible repeat (first | apply Kd.R_alloc | apply Kd.R_drewN | apply Kd.R_drew)); exact HO642.out))) (Kd.R_lt (by (with_reducible repeat (first | apply Kd.R_alloc | apply Kd.R_drewN | apply Kd.R_drew)); exact HO646.out))) (Zap (by repeat (first | (with_reducible first | exact HB.out | apply Zad | apply Zaa | apply Zac) | exact HB.out)))); have n5_ := Zab.mk (Zaq (by repeat (first | (with_reducible first | exact HB.out | apply Zad | apply Zaa | apply Zac) | exact HB.out)) hb); clear HO634; clear HO640; clear HO642; clear HO646; clear HB; have HO634 := n0_; have HO640 := n1_; have HO642 := n2_; have HO646 := n3_; have HO650 := n4_; have HB := n5_; clear n0_ n1_ n2_ n3_ n4_ n5_; (try clear hb); (try clear hb2); (try clear hk); (try clear hi); (try clear ho0)) | (go_at_call 22; (with_reducible refine (impl_SeatsBy.calls k 3 _ _ t632 t635 t651 t652 _ ?side1 ?side2 A10.out).mono ?_); (case side1 => repeat (first | exact (Kd.R_reads' HO634.out).2.2 | (with_reducible refine Kd.C_alloc ?_ _) | (with_reducible refine Kd.C_drewN ?_ _) | (with_reducible refine Kd.C_drew ?_))); (case side2 => exact (Kd.R_reads' HO634.out).2.1); rintro e w18 ⟨v653, rfl, ho0, hb⟩; have n0_ := Zab.mk (Kd.R_elder' (by (with_reducible repeat (first | apply Kd.R_alloc | apply Kd.R_drewN | apply Kd.R_drew)); exact HO634.out) (Kd.R_base ho0) hb); have n1_ := Zab.mk (Kd.R_elder' (by (with_reducible repeat (first | apply Kd.R_alloc | apply Kd.R_drewN | apply Kd.R_drew)); exact HO640.out) (Kd.R_base ho0) hb); have n2_ := Zab.mk (Kd.R_elder' (by (with_reducible repeat (first | apply Kd.R_alloc | apply Kd.R_drewN | apply Kd.R_drew)); exact HO642.out) (Kd.R_base ho0) hb); have n3_ := Zab.mk (Kd.R_elder' (by (with_reducible repeat (first | apply Kd.R_alloc | apply Kd.R_drewN | apply Kd.R_drew)); exact HO646.out) (Kd.R_base ho0) hb); have n4_ := Zab.mk (Kd.R_elder' (by (with_reducible repeat (first | apply Kd.R_alloc | apply Kd.R_drewN | apply Kd.R_drew)); exact HO650.out) (Kd.R_base ho0) hb); have n5_ := Zab.mk (Kd.R_lower (Kd.R_new' (Kd.R_new' (Kd.R_new' (Kd.R_new' (Kd.R_new' ho0 (Kd.R_lt (by (with_reducible repeat (first | apply Kd.R_alloc | apply Kd.R_drewN | apply Kd.R_drew)); exact HO634.out))) (Kd.R_lt (by (with_reducible repeat (first | apply Kd.R_alloc | apply Kd.R_drewN | apply Kd.R_drew)); exact HO640.out))) (Kd.R_lt (by (with_reducible repeat (first | apply Kd.R_alloc | apply Kd.R_drewN | apply Kd.R_drew)); exact HO642.out))) (Kd.R_lt (by (with_reducible repeat (first | apply Kd.R_alloc | apply Kd.R_drewN | apply Kd.R_drew)); exact HO646.out))) (Kd.R_lt (by (with_reducible repeat (first | apply Kd.R_alloc | apply Kd.R_drewN | apply Kd.R_drew)); exact HO650.out))) (Zap (by repeat (first | (with_reducible first | exact HB.out | apply Zad | apply Zaa | apply Zac) | exact HB.out)))); have n6_ := Zab.mk (Zaq (by repeat (first | (with_reducible first | exact HB.out | apply Zad | apply Zaa | apply Zac) | exact HB.out)) hb); clear HO634; clear HO640; clear HO642; clear HO646; clear HO650; clear HB; have HO634 := n0_; have HO640 := n1_; have HO642 := n2_; have HO646 := n3_; have HO650 := n4_; have HO654 := n5_; have HB := n6_; clear n0_ n1_ n2_ n3_ n4_ n5_ n6_; (try clear hb); (try clear hb2); (try clear hk); (try clear hi); (try clear ho0); obtain ⟨Ao19, co19, eo19⟩ := Kd.R_slice HO646.out; subst eo19) | (go_at_call 40; (with_reducible refine (Zak.calls k _ _ t632 _ _ t643 t655 t656 _ ?side1 ?side2 ?side3 ?side4 A11.out).mono ?_); (case side1 => repeat (first | exact (Kd.R_reads' HO634.out).2.2 | (with_reducible refine Kd.C_alloc ?_ _) | (with_reducible refine Kd.C_drewN ?_ _) | (with_reducible refine Kd.C_drew ?_))); (case side2 => exact (Kd.R_reads' HO634.out).2.1); (case side3 => repeat (first | exact (Kd.R_reads' HO646.out).2.2 | (with_reducible refine Kd.C_alloc ?_ _) | (with_reducible refine Kd.C_drewN ?_ _) | (with_reducible refine Kd.C_drew ?_))); (case side4 => exact (Kd.R_reads' HO646.out).2.1); rintro e w20 ⟨v657, rfl, ho0, hb⟩; have n0_ := Zab.mk (Kd.R_elder' (by (with_reducible repeat (first | apply Kd.R_alloc | apply Kd.R_drewN | apply Kd.R_drew)); exact HO634.out) (Kd.R_base ho0) hb); have n1_ := Zab.mk (Kd.R_elder' (by (with_reducible repeat (first | apply Kd.R_alloc | apply Kd.R_drewN | apply Kd.R_drew)); exact HO640.out) (Kd.R_base ho0) hb); have n2_ := Zab.mk (Kd.R_elder' (by (with_reducible repeat (first | apply Kd.R_alloc | apply Kd.R_drewN | apply Kd.R_drew)); exact HO642.out) (Kd.R_base ho0) hb); have n3_ := Zab.mk (Kd.R_elder' (by (with_reducible repeat (first | apply Kd.R_alloc | apply Kd.R_drewN | apply Kd.R_drew)); exact HO646.out) (Kd.R_base ho0) hb); have n4_ := Zab.mk (Kd.R_elder' (by (with_reducible repeat (first | apply Kd.R_alloc | apply Kd.R_drewN | apply Kd.R_drew)); exact HO650.out) (Kd.R_base ho0) hb); have n5_ := Zab.mk (Kd.R_elder' (by (with_reducible repeat (first | apply Kd.R_alloc | apply Kd.R_drewN | apply Kd.R_drew)); exact HO654.out) (Kd.R_base ho0) hb); have n6_ := Zab.mk (Kd.R_lower (Kd.R_new' (Kd.R_new' (Kd.R_new' (Kd.R_new' (Kd.R_new' (Kd.R_new' ho0 (Kd.R_lt (by (with_reducible repeat (first | apply Kd.R_alloc | apply Kd.R_drewN | apply Kd.R_drew)); exact HO634.out))) (Kd.R_lt (by (with_reducible repeat (first | apply Kd.R_alloc | apply Kd.R_drewN | apply Kd.R_drew)); exact HO640.out))) (Kd.R_lt (by (with_reducible repeat (first | apply Kd.R_alloc | apply Kd.R_drewN | apply Kd.R_drew)); exact HO642.out))) (Kd.R_lt (by (with_reducible repeat (first | apply Kd.R_alloc | apply Kd.R_drewN | apply Kd.R_drew)); exact HO646.out))) (Kd.R_lt (by (with_reducible repeat (first | apply Kd.R_alloc | apply Kd.R_drewN | apply Kd.R_drew)); exact HO650.out))) (Kd.R_lt (by (with_reducible repeat (first | apply Kd.R_alloc | apply Kd.R_drewN | apply Kd.R_drew)); exact HO654.out))) (Zap (by repeat (first | (with_reducible first | exact HB.out | apply Zad | apply Zaa | apply Zac) | exact HB.out)))); have n7_ := Zab.mk (Zaq (by repeat (first | (with_reducible first | exact HB.out | apply Zad | apply Zaa | apply Zac) | exact HB.out)) hb); clear HO634; clear HO640; clear HO642; clear HO646; clear HO650; clear HO654; clear HB; have HO634 := n0_; have HO640 := n1_; have HO642 := n2_; have HO646 := n3_; have HO650 := n4_; have HO654 := n5_; have HO658 := n6_; have HB := n7_; clear n0_ n1_ n2_ n3_ n4_ n5_ n6_ n7_; (try clear hb); (try clear hb2); (try clear hk); (try clear hi); (try clear ho0))))
  (try simp only [Act.put, List.setIfInBounds_toArray, List.set_cons_zero, List.set_cons_succ])
  go_cut [119] (fun v119 wc => ∃ (kq : Nat) (x119_11 : Bool), v119 = .bool x119_11 ∧ Zab (laws_FnQuotas.j0 kq t632 t635 t636 t637 t643 t647 t651 (t632.length : Int) x119_11 = some r) ∧ Zab (kq ≤ k) ∧ Zab (Kd.R (Kd.int .i64) 2 wc w.heap.size (fun k_ => some k_ ≠ (v639 : Value).ownBlock ∧ some k_ ≠ (v641 : Value).ownBlock ∧ some k_ ≠ ((.slice Ao19 t643.length co19) : Value).ownBlock ∧ some k_ ≠ (v649 : Value).ownBlock ∧ some k_ ≠ (v653 : Value).ownBlock) (.slice Ao14 t632.length co14) t632) ∧ Zab (Kd.R (Kd.int .i64) 2 wc w.heap.size (fun k_ => some k_ ≠ ((.slice Ao14 t632.length co14) : Value).ownBlock ∧ some k_ ≠ (v641 : Value).ownBlock ∧ some k_ ≠ ((.slice Ao19 t643.length co19) : Value).ownBlock ∧ some k_ ≠ (v649 : Value).ownBlock ∧ some k_ ≠ (v653 : Value).ownBlock) v639 t636) ∧ Zab (Kd.R (Kd.int .i64) 2 wc w.heap.size (fun k_ => some k_ ≠ ((.slice Ao14 t632.length co14) : Value).ownBlock ∧ some k_ ≠ (v639 : Value).ownBlock ∧ some k_ ≠ ((.slice Ao19 t643.length co19) : Value).ownBlock ∧ some k_ ≠ (v649 : Value).ownBlock ∧ some k_ ≠ (v653 : Value).ownBlock) v641 t637) ∧ Zab (Kd.R (Kd.int .i64) 2 wc w.heap.size (fun k_ => some k_ ≠ ((.slice Ao14 t632.length co14) : Value).ownBlock ∧ some k_ ≠ (v639 : Value).ownBlock ∧ some k_ ≠ (v641 : Value).ownBlock ∧ some k_ ≠ (v649 : Value).ownBlock ∧ some k_ ≠ (v653 : Value).ownBlock) (.slice Ao19 t643.length co19) t643) ∧ Zab (Kd.R (Kd.int .i64) 2 wc w.heap.size (fun k_ => some k_ ≠ ((.slice Ao14 t632.length co14) : Value).ownBlock ∧ some k_ ≠ (v639 : Value).ownBlock ∧ some k_ ≠ (v641 : Value).ownBlock ∧ some k_ ≠ ((.slice Ao19 t643.length co19) : Value).ownBlock ∧ some k_ ≠ (v653 : Value).ownBlock) v649 t647) ∧ Zab (Kd.R (Kd.int .i64) 2 wc w.heap.size (fun k_ => some k_ ≠ ((.slice Ao14 t632.length co14) : Value).ownBlock ∧ some k_ ≠ (v639 : Value).ownBlock ∧ some k_ ≠ (v641 : Value).ownBlock ∧ some k_ ≠ ((.slice Ao19 t643.length co19) : Value).ownBlock ∧ some k_ ≠ (v649 : Value).ownBlock) v653 t651) ∧ Zab (Below w.heap.size w wc))
  case first =>
   have H := HC12.out
   clear HC12
   by_cases c21 : t638 = true
   ·subst c21
    have H1 : (if t644 = true then (if t648 = true then (if t652 = true then (if t656 = true then (if (t636.length : Int) = (t632.length : Int) then (if (t637.length : Int) = (t632.length : Int) then (if (t643.length : Int) = (t632.length : Int) then (if (t647.length : Int) = (t632.length : Int) then (if (t651.length : Int) = (t632.length : Int) then ((laws_r8Sum.f k t643).bind fun t659 => (if t659 = t635 then (laws_FnQuotas.j0 k t632 t635 t636 t637 t643 t647 t651 (t632.length : Int) ((t655.length : Int) != 0)) else (laws_FnQuotas.j0 k t632 t635 t636 t637 t643 t647 t651 (t632.length : Int) true))) else (laws_FnQuotas.j0 k t632 t635 t636 t637 t643 t647 t651 (t632.length : Int) true)) else (laws_FnQuotas.j0 k t632 t635 t636 t637 t643 t647 t651 (t632.length : Int) true)) else (laws_FnQuotas.j0 k t632 t635 t636 t637 t643 t647 t651 (t632.length : Int) true)) else (laws_FnQuotas.j0 k t632 t635 t636 t637 t643 t647 t651 (t632.length : Int) true)) else (laws_FnQuotas.j0 k t632 t635 t636 t637 t643 t647 t651 (t632.length : Int) true)) else (laws_FnQuotas.j0 k t632 t635 t636 t637 t643 t647 t651 (t632.length : Int) true)) else (laws_FnQuotas.j0 k t632 t635 t636 t637 t643 t647 t651 (t632.length : Int) true)) else (laws_FnQuotas.j0 k t632 t635 t636 t637 t643 t647 t651 (t632.length : Int) true)) else (laws_FnQuotas.j0 k t632 t635 t636 t637 t643 t647 t651 (t632.length : Int) true)) = some r := by rw [if_pos rfl] at H; exact H
    clear H
    have H := H1
    clear H1
    by_cases c22 : t644 = true
    ·subst c22
     have H1 : (if t648 = true then (if t652 = true then (if t656 = true then (if (t636.length : Int) = (t632.length : Int) then (if (t637.length : Int) = (t632.length : Int) then (if (t643.length : Int) = (t632.length : Int) then (if (t647.length : Int) = (t632.length : Int) then (if (t651.length : Int) = (t632.length : Int) then ((laws_r8Sum.f k t643).bind fun t659 => (if t659 = t635 then (laws_FnQuotas.j0 k t632 t635 t636 t637 t643 t647 t651 (t632.length : Int) ((t655.length : Int) != 0)) else (laws_FnQuotas.j0 k t632 t635 t636 t637 t643 t647 t651 (t632.length : Int) true))) else (laws_FnQuotas.j0 k t632 t635 t636 t637 t643 t647 t651 (t632.length : Int) true)) else (laws_FnQuotas.j0 k t632 t635 t636 t637 t643 t647 t651 (t632.length : Int) true)) else (laws_FnQuotas.j0 k t632 t635 t636 t637 t643 t647 t651 (t632.length : Int) true)) else (laws_FnQuotas.j0 k t632 t635 t636 t637 t643 t647 t651 (t632.length : Int) true)) else (laws_FnQuotas.j0 k t632 t635 t636 t637 t643 t647 t651 (t632.length : Int) true)) else (laws_FnQuotas.j0 k t632 t635 t636 t637 t643 t647 t651 (t632.length : Int) true)) else (laws_FnQuotas.j0 k t632 t635 t636 t637 t643 t647 t651 (t632.length : Int) true)) else (laws_FnQuotas.j0 k t632 t635 t636 t637 t643 t647 t651 (t632.length : Int) true)) = some r := by rw [if_pos rfl] at H; exact H
     clear H
     have H := H1
     clear H1
     by_cases c23 : t648 = true
     ·subst c23
      have H1 : (if t652 = true then (if t656 = true then (if (t636.length : Int) = (t632.length : Int) then (if (t637.length : Int) = (t632.length : Int) then (if (t643.length : Int) = (t632.length : Int) then (if (t647.length : Int) = (t632.length : Int) then (if (t651.length : Int) = (t632.length : Int) then ((laws_r8Sum.f k t643).bind fun t659 => (if t659 = t635 then (laws_FnQuotas.j0 k t632 t635 t636 t637 t643 t647 t651 (t632.length : Int) ((t655.length : Int) != 0)) else (laws_FnQuotas.j0 k t632 t635 t636 t637 t643 t647 t651 (t632.length : Int) true))) else (laws_FnQuotas.j0 k t632 t635 t636 t637 t643 t647 t651 (t632.length : Int) true)) else (laws_FnQuotas.j0 k t632 t635 t636 t637 t643 t647 t651 (t632.length : Int) true)) else (laws_FnQuotas.j0 k t632 t635 t636 t637 t643 t647 t651 (t632.length : Int) true)) else (laws_FnQuotas.j0 k t632 t635 t636 t637 t643 t647 t651 (t632.length : Int) true)) else (laws_FnQuotas.j0 k t632 t635 t636 t637 t643 t647 t651 (t632.length : Int) true)) else (laws_FnQuotas.j0 k t632 t635 t636 t637 t643 t647 t651 (t632.length : Int) true)) else (laws_FnQuotas.j0 k t632 t635 t636 t637 t643 t647 t651 (t632.length : Int) true)) = some r := by rw [if_pos rfl] at H; exact H
      clear H
      have H := H1
      clear H1
      by_cases c24 : t652 = true
      ·subst c24
       have H1 : (if t656 = true then (if (t636.length : Int) = (t632.length : Int) then (if (t637.length : Int) = (t632.length : Int) then (if (t643.length : Int) = (t632.length : Int) then (if (t647.length : Int) = (t632.length : Int) then (if (t651.length : Int) = (t632.length : Int) then ((laws_r8Sum.f k t643).bind fun t659 => (if t659 = t635 then (laws_FnQuotas.j0 k t632 t635 t636 t637 t643 t647 t651 (t632.length : Int) ((t655.length : Int) != 0)) else (laws_FnQuotas.j0 k t632 t635 t636 t637 t643 t647 t651 (t632.length : Int) true))) else (laws_FnQuotas.j0 k t632 t635 t636 t637 t643 t647 t651 (t632.length : Int) true)) else (laws_FnQuotas.j0 k t632 t635 t636 t637 t643 t647 t651 (t632.length : Int) true)) else (laws_FnQuotas.j0 k t632 t635 t636 t637 t643 t647 t651 (t632.length : Int) true)) else (laws_FnQuotas.j0 k t632 t635 t636 t637 t643 t647 t651 (t632.length : Int) true)) else (laws_FnQuotas.j0 k t632 t635 t636 t637 t643 t647 t651 (t632.length : Int) true)) else (laws_FnQuotas.j0 k t632 t635 t636 t637 t643 t647 t651 (t632.length : Int) true)) = some r := by rw [if_pos rfl] at H; exact H
       clear H
       have H := H1
       clear H1
       by_cases c25 : t656 = true
       ·subst c25
        have H1 : (if (t636.length : Int) = (t632.length : Int) then (if (t637.length : Int) = (t632.length : Int) then (if (t643.length : Int) = (t632.length : Int) then (if (t647.length : Int) = (t632.length : Int) then (if (t651.length : Int) = (t632.length : Int) then ((laws_r8Sum.f k t643).bind fun t659 => (if t659 = t635 then (laws_FnQuotas.j0 k t632 t635 t636 t637 t643 t647 t651 (t632.length : Int) ((t655.length : Int) != 0)) else (laws_FnQuotas.j0 k t632 t635 t636 t637 t643 t647 t651 (t632.length : Int) true))) else (laws_FnQuotas.j0 k t632 t635 t636 t637 t643 t647 t651 (t632.length : Int) true)) else (laws_FnQuotas.j0 k t632 t635 t636 t637 t643 t647 t651 (t632.length : Int) true)) else (laws_FnQuotas.j0 k t632 t635 t636 t637 t643 t647 t651 (t632.length : Int) true)) else (laws_FnQuotas.j0 k t632 t635 t636 t637 t643 t647 t651 (t632.length : Int) true)) else (laws_FnQuotas.j0 k t632 t635 t636 t637 t643 t647 t651 (t632.length : Int) true)) = some r := by rw [if_pos rfl] at H; exact H
        clear H
        have H := H1
        clear H1
        by_cases c26 : (t636.length : Int) = (t632.length : Int)
        ·rw [if_pos c26] at H
         have c26b0 : ((t636.length : Int) == (t632.length : Int)) = true := beq_iff_eq.mpr c26
         have c26b1 : ((t636.length : Int) != (t632.length : Int)) = false := bne_eq_false_iff_eq.mpr c26
         have c26b2 : (t636.length == t632.length) = true := by first | simpa using c26 | (simp at c26 ⊢; omega)
         clear c26
         (first | rw [c26b0] | (simp only [i64_w, i32_w]; rw [c26b0]) | skip)
         by_cases c27 : (t637.length : Int) = (t632.length : Int)
         ·rw [if_pos c27] at H
          have c27b0 : ((t637.length : Int) == (t632.length : Int)) = true := beq_iff_eq.mpr c27
          have c27b1 : ((t637.length : Int) != (t632.length : Int)) = false := bne_eq_false_iff_eq.mpr c27
          have c27b2 : (t637.length == t632.length) = true := by first | simpa using c27 | (simp at c27 ⊢; omega)
          clear c27
          by_cases c28 : (t643.length : Int) = (t632.length : Int)
          ·rw [if_pos c28] at H
           have c28b0 : ((t643.length : Int) == (t632.length : Int)) = true := beq_iff_eq.mpr c28
           have c28b1 : ((t643.length : Int) != (t632.length : Int)) = false := bne_eq_false_iff_eq.mpr c28
           have c28b2 : (t643.length == t632.length) = true := by first | simpa using c28 | (simp at c28 ⊢; omega)
           clear c28
           by_cases c29 : (t647.length : Int) = (t632.length : Int)
           ·rw [if_pos c29] at H
            have c29b0 : ((t647.length : Int) == (t632.length : Int)) = true := beq_iff_eq.mpr c29
            have c29b1 : ((t647.length : Int) != (t632.length : Int)) = false := bne_eq_false_iff_eq.mpr c29
            have c29b2 : (t647.length == t632.length) = true := by first | simpa using c29 | (simp at c29 ⊢; omega)
            clear c29
            by_cases c30 : (t651.length : Int) = (t632.length : Int)
            ·rw [if_pos c30] at H
             have c30b0 : ((t651.length : Int) == (t632.length : Int)) = true := beq_iff_eq.mpr c30
             have c30b1 : ((t651.length : Int) != (t632.length : Int)) = false := bne_eq_false_iff_eq.mpr c30
             have c30b2 : (t651.length == t632.length) = true := by first | simpa using c30 | (simp at c30 ⊢; omega)
             clear c30
             replace H := Option.bind_eq_some_iff.mp H
             obtain ⟨t659, A310, H⟩ := H
             replace H : (if t659 = t635 then (laws_FnQuotas.j0 k t632 t635 t636 t637 t643 t647 t651 (t632.length : Int) ((t655.length : Int) != 0)) else (laws_FnQuotas.j0 k t632 t635 t636 t637 t643 t647 t651 (t632.length : Int) true)) = some r := H
             have A31 := Zab.mk A310
             clear A310
             by_cases c32 : t659 = t635
             ·rw [if_pos c32] at H
              have c32b0 : (t659 == t635) = true := beq_iff_eq.mpr c32
              have c32b1 : (t659 != t635) = false := bne_eq_false_iff_eq.mpr c32
              clear c32
              have H' := Zab.mk H
              clear H
              obtain ⟨Ao33, co33, eo33⟩ := Kd.R_slice HO640.out
              subst eo33
              obtain ⟨Ao34, co34, eo34⟩ := Kd.R_slice HO642.out
              subst eo34
              obtain ⟨Ao35, co35, eo35⟩ := Kd.R_slice HO650.out
              subst eo35
              obtain ⟨Ao36, co36, eo36⟩ := Kd.R_slice HO654.out
              subst eo36
              as_aux_lemma =>
               go_wp2_with (first | (go_at_call 41; (with_reducible refine (laws_r8Sum.calls k _ _ t643 t659 _ ?side1 ?side2 A31.out).mono ?_); (case side1 => repeat (first | exact (Kd.R_reads' HO646.out).2.2 | (with_reducible refine Kd.C_alloc ?_ _) | (with_reducible refine Kd.C_drewN ?_ _) | (with_reducible refine Kd.C_drew ?_))); (case side2 => exact (Kd.R_reads' HO646.out).2.1); rintro e w' ⟨rfl, ⟨nd, rfl⟩⟩; (try first | exact ⟨rfl, _, World.drewN_drewN _ _ _⟩ | exact ⟨rfl, _, Eq.trans (World.drewN_drewN _ _ _) (congrArg (World.drewN _) (Nat.add_assoc _ _ _))⟩); obtain ⟨Ao37, co37, eo37⟩ := Kd.R_slice HO658.out; subst eo37))
               repeat (go_quiet (first | (go_at_call 41; (with_reducible refine (laws_r8Sum.calls k _ _ t643 t659 _ ?side1 ?side2 A31.out).mono ?_); (case side1 => repeat (first | exact (Kd.R_reads' HO646.out).2.2 | (with_reducible refine Kd.C_alloc ?_ _) | (with_reducible refine Kd.C_drewN ?_ _) | (with_reducible refine Kd.C_drew ?_))); (case side2 => exact (Kd.R_reads' HO646.out).2.1); rintro e w' ⟨rfl, ⟨nd, rfl⟩⟩; (try first | exact ⟨rfl, _, World.drewN_drewN _ _ _⟩ | exact ⟨rfl, _, Eq.trans (World.drewN_drewN _ _ _) (congrArg (World.drewN _) (Nat.add_assoc _ _ _))⟩); obtain ⟨Ao37, co37, eo37⟩ := Kd.R_slice HO658.out; subst eo37)); try go_wp2_with (first | (go_at_call 41; (with_reducible refine (laws_r8Sum.calls k _ _ t643 t659 _ ?side1 ?side2 A31.out).mono ?_); (case side1 => repeat (first | exact (Kd.R_reads' HO646.out).2.2 | (with_reducible refine Kd.C_alloc ?_ _) | (with_reducible refine Kd.C_drewN ?_ _) | (with_reducible refine Kd.C_drew ?_))); (case side2 => exact (Kd.R_reads' HO646.out).2.1); rintro e w' ⟨rfl, ⟨nd, rfl⟩⟩; (try first | exact ⟨rfl, _, World.drewN_drewN _ _ _⟩ | exact ⟨rfl, _, Eq.trans (World.drewN_drewN _ _ _) (congrArg (World.drewN _) (Nat.add_assoc _ _ _))⟩); obtain ⟨Ao37, co37, eo37⟩ := Kd.R_slice HO658.out; subst eo37)))
               go_meet
               case rel => exact ⟨_, (((t655.length : Int) != 0)), (by first | rfl | (simp; done) | (simp [*]; done) | (simp [IntWalk.i64_left, *]; done)), H', ⟨by first | omega | exact Nat.le_refl _⟩, ⟨by (with_reducible repeat (first | apply Kd.R_alloc | apply Kd.R_drewN | apply Kd.R_drew)); exact Kd.R_mono HO634.out (fun _ hk => ⟨hk.1.1.1.1.1.2, ⟨hk.1.1.1.1.2, ⟨hk.1.1.1.2, ⟨hk.1.1.2, hk.1.2⟩⟩⟩⟩)⟩, ⟨by (with_reducible repeat (first | apply Kd.R_alloc | apply Kd.R_drewN | apply Kd.R_drew)); exact Kd.R_mono HO640.out (fun _ hk => ⟨hk.1.1.1.1.2, ⟨hk.1.1.1.1.1, ⟨hk.1.1.1.2, ⟨hk.1.1.2, hk.1.2⟩⟩⟩⟩)⟩, ⟨by (with_reducible repeat (first | apply Kd.R_alloc | apply Kd.R_drewN | apply Kd.R_drew)); exact Kd.R_mono HO642.out (fun _ hk => ⟨hk.1.1.1.1.2, ⟨hk.1.1.1.1.1, ⟨hk.1.1.1.2, ⟨hk.1.1.2, hk.1.2⟩⟩⟩⟩)⟩, ⟨by (with_reducible repeat (first | apply Kd.R_alloc | apply Kd.R_drewN | apply Kd.R_drew)); exact Kd.R_mono HO646.out (fun _ hk => ⟨hk.1.1.1.1.1.2, ⟨hk.1.1.1.1.2, ⟨hk.1.1.1.2, ⟨hk.1.1.2, hk.1.2⟩⟩⟩⟩)⟩, ⟨by (with_reducible repeat (first | apply Kd.R_alloc | apply Kd.R_drewN | apply Kd.R_drew)); exact Kd.R_mono HO650.out (fun _ hk => ⟨hk.1.1.1.1.1.2, ⟨hk.1.1.1.1.2, ⟨hk.1.1.1.2, ⟨hk.1.1.2, hk.1.2⟩⟩⟩⟩)⟩, ⟨by (with_reducible repeat (first | apply Kd.R_alloc | apply Kd.R_drewN | apply Kd.R_drew)); exact Kd.R_mono HO654.out (fun _ hk => ⟨hk.1.1.1.1.1.2, ⟨hk.1.1.1.1.2, ⟨hk.1.1.1.2, ⟨hk.1.1.2, hk.1.2⟩⟩⟩⟩)⟩, ⟨by repeat (first | (with_reducible first | exact HB.out | apply Zad | apply Zaa | apply Zac) | exact HB.out)⟩⟩
             ·rw [if_neg c32] at H
              have c32b0 : (t659 == t635) = false := beq_eq_false_iff_ne.mpr c32
              have c32b1 : (t659 != t635) = true := bne_iff_ne.mpr c32
              have H' := Zab.mk H
              clear H
              obtain ⟨Ao38, co38, eo38⟩ := Kd.R_slice HO640.out
              subst eo38
              obtain ⟨Ao39, co39, eo39⟩ := Kd.R_slice HO642.out
              subst eo39
              obtain ⟨Ao40, co40, eo40⟩ := Kd.R_slice HO650.out
              subst eo40
              obtain ⟨Ao41, co41, eo41⟩ := Kd.R_slice HO654.out
              subst eo41
              as_aux_lemma =>
               go_wp2_with (first | (go_at_call 41; (with_reducible refine (laws_r8Sum.calls k _ _ t643 t659 _ ?side1 ?side2 A31.out).mono ?_); (case side1 => repeat (first | exact (Kd.R_reads' HO646.out).2.2 | (with_reducible refine Kd.C_alloc ?_ _) | (with_reducible refine Kd.C_drewN ?_ _) | (with_reducible refine Kd.C_drew ?_))); (case side2 => exact (Kd.R_reads' HO646.out).2.1); rintro e w' ⟨rfl, ⟨nd, rfl⟩⟩; (try first | exact ⟨rfl, _, World.drewN_drewN _ _ _⟩ | exact ⟨rfl, _, Eq.trans (World.drewN_drewN _ _ _) (congrArg (World.drewN _) (Nat.add_assoc _ _ _))⟩)))
               repeat (go_quiet (first | (go_at_call 41; (with_reducible refine (laws_r8Sum.calls k _ _ t643 t659 _ ?side1 ?side2 A31.out).mono ?_); (case side1 => repeat (first | exact (Kd.R_reads' HO646.out).2.2 | (with_reducible refine Kd.C_alloc ?_ _) | (with_reducible refine Kd.C_drewN ?_ _) | (with_reducible refine Kd.C_drew ?_))); (case side2 => exact (Kd.R_reads' HO646.out).2.1); rintro e w' ⟨rfl, ⟨nd, rfl⟩⟩; (try first | exact ⟨rfl, _, World.drewN_drewN _ _ _⟩ | exact ⟨rfl, _, Eq.trans (World.drewN_drewN _ _ _) (congrArg (World.drewN _) (Nat.add_assoc _ _ _))⟩))); try go_wp2_with (first | (go_at_call 41; (with_reducible refine (laws_r8Sum.calls k _ _ t643 t659 _ ?side1 ?side2 A31.out).mono ?_); (case side1 => repeat (first | exact (Kd.R_reads' HO646.out).2.2 | (with_reducible refine Kd.C_alloc ?_ _) | (with_reducible refine Kd.C_drewN ?_ _) | (with_reducible refine Kd.C_drew ?_))); (case side2 => exact (Kd.R_reads' HO646.out).2.1); rintro e w' ⟨rfl, ⟨nd, rfl⟩⟩; (try first | exact ⟨rfl, _, World.drewN_drewN _ _ _⟩ | exact ⟨rfl, _, Eq.trans (World.drewN_drewN _ _ _) (congrArg (World.drewN _) (Nat.add_assoc _ _ _))⟩))))
               go_meet
               case rel => exact ⟨_, (true), (by first | rfl | (simp; done) | (simp [*]; done) | (simp [IntWalk.i64_left, *]; done)), H', ⟨by first | omega | exact Nat.le_refl _⟩, ⟨by (with_reducible repeat (first | apply Kd.R_alloc | apply Kd.R_drewN | apply Kd.R_drew)); exact Kd.R_mono HO634.out (fun _ hk => ⟨hk.1.1.1.1.1.2, ⟨hk.1.1.1.1.2, ⟨hk.1.1.1.2, ⟨hk.1.1.2, hk.1.2⟩⟩⟩⟩)⟩, ⟨by (with_reducible repeat (first | apply Kd.R_alloc | apply Kd.R_drewN | apply Kd.R_drew)); exact Kd.R_mono HO640.out (fun _ hk => ⟨hk.1.1.1.1.2, ⟨hk.1.1.1.1.1, ⟨hk.1.1.1.2, ⟨hk.1.1.2, hk.1.2⟩⟩⟩⟩)⟩, ⟨by (with_reducible repeat (first | apply Kd.R_alloc | apply Kd.R_drewN | apply Kd.R_drew)); exact Kd.R_mono HO642.out (fun _ hk => ⟨hk.1.1.1.1.2, ⟨hk.1.1.1.1.1, ⟨hk.1.1.1.2, ⟨hk.1.1.2, hk.1.2⟩⟩⟩⟩)⟩, ⟨by (with_reducible repeat (first | apply Kd.R_alloc | apply Kd.R_drewN | apply Kd.R_drew)); exact Kd.R_mono HO646.out (fun _ hk => ⟨hk.1.1.1.1.1.2, ⟨hk.1.1.1.1.2, ⟨hk.1.1.1.2, ⟨hk.1.1.2, hk.1.2⟩⟩⟩⟩)⟩, ⟨by (with_reducible repeat (first | apply Kd.R_alloc | apply Kd.R_drewN | apply Kd.R_drew)); exact Kd.R_mono HO650.out (fun _ hk => ⟨hk.1.1.1.1.1.2, ⟨hk.1.1.1.1.2, ⟨hk.1.1.1.2, ⟨hk.1.1.2, hk.1.2⟩⟩⟩⟩)⟩, ⟨by (with_reducible repeat (first | apply Kd.R_alloc | apply Kd.R_drewN | apply Kd.R_drew)); exact Kd.R_mono HO654.out (fun _ hk => ⟨hk.1.1.1.1.1.2, ⟨hk.1.1.1.1.2, ⟨hk.1.1.1.2, ⟨hk.1.1.2, hk.1.2⟩⟩⟩⟩)⟩, ⟨by repeat (first | (with_reducible first | exact HB.out | apply Zad | apply Zaa | apply Zac) | exact HB.out)⟩⟩
            ·rw [if_neg c30] at H
             have c30b0 : ((t651.length : Int) == (t632.length : Int)) = false := beq_eq_false_iff_ne.mpr c30
             have c30b1 : ((t651.length : Int) != (t632.length : Int)) = true := bne_iff_ne.mpr c30
             have c30b2 : (t651.length == t632.length) = false := by first | simpa using c30 | (simp at c30 ⊢; omega)
             have H' := Zab.mk H
             clear H
             obtain ⟨Ao42, co42, eo42⟩ := Kd.R_slice HO640.out
             subst eo42
             obtain ⟨Ao43, co43, eo43⟩ := Kd.R_slice HO642.out
             subst eo43
             obtain ⟨Ao44, co44, eo44⟩ := Kd.R_slice HO650.out
             subst eo44
             obtain ⟨Ao45, co45, eo45⟩ := Kd.R_slice HO654.out
             subst eo45
             as_aux_lemma =>
              go_wp2
              repeat (go_quiet (fail); try go_wp2)
              go_meet
              case rel => exact ⟨_, (true), (by first | rfl | (simp; done) | (simp [*]; done) | (simp [IntWalk.i64_left, *]; done)), H', ⟨by first | omega | exact Nat.le_refl _⟩, ⟨by (with_reducible repeat (first | apply Kd.R_alloc | apply Kd.R_drewN | apply Kd.R_drew)); exact Kd.R_mono HO634.out (fun _ hk => ⟨hk.1.1.1.1.1.2, ⟨hk.1.1.1.1.2, ⟨hk.1.1.1.2, ⟨hk.1.1.2, hk.1.2⟩⟩⟩⟩)⟩, ⟨by (with_reducible repeat (first | apply Kd.R_alloc | apply Kd.R_drewN | apply Kd.R_drew)); exact Kd.R_mono HO640.out (fun _ hk => ⟨hk.1.1.1.1.2, ⟨hk.1.1.1.1.1, ⟨hk.1.1.1.2, ⟨hk.1.1.2, hk.1.2⟩⟩⟩⟩)⟩, ⟨by (with_reducible repeat (first | apply Kd.R_alloc | apply Kd.R_drewN | apply Kd.R_drew)); exact Kd.R_mono HO642.out (fun _ hk => ⟨hk.1.1.1.1.2, ⟨hk.1.1.1.1.1, ⟨hk.1.1.1.2, ⟨hk.1.1.2, hk.1.2⟩⟩⟩⟩)⟩, ⟨by (with_reducible repeat (first | apply Kd.R_alloc | apply Kd.R_drewN | apply Kd.R_drew)); exact Kd.R_mono HO646.out (fun _ hk => ⟨hk.1.1.1.1.1.2, ⟨hk.1.1.1.1.2, ⟨hk.1.1.1.2, ⟨hk.1.1.2, hk.1.2⟩⟩⟩⟩)⟩, ⟨by (with_reducible repeat (first | apply Kd.R_alloc | apply Kd.R_drewN | apply Kd.R_drew)); exact Kd.R_mono HO650.out (fun _ hk => ⟨hk.1.1.1.1.1.2, ⟨hk.1.1.1.1.2, ⟨hk.1.1.1.2, ⟨hk.1.1.2, hk.1.2⟩⟩⟩⟩)⟩, ⟨by (with_reducible repeat (first | apply Kd.R_alloc | apply Kd.R_drewN | apply Kd.R_drew)); exact Kd.R_mono HO654.out (fun _ hk => ⟨hk.1.1.1.1.1.2, ⟨hk.1.1.1.1.2, ⟨hk.1.1.1.2, ⟨hk.1.1.2, hk.1.2⟩⟩⟩⟩)⟩, ⟨by repeat (first | (with_reducible first | exact HB.out | apply Zad | apply Zaa | apply Zac) | exact HB.out)⟩⟩
           ·rw [if_neg c29] at H
            have c29b0 : ((t647.length : Int) == (t632.length : Int)) = false := beq_eq_false_iff_ne.mpr c29
            have c29b1 : ((t647.length : Int) != (t632.length : Int)) = true := bne_iff_ne.mpr c29
            have c29b2 : (t647.length == t632.length) = false := by first | simpa using c29 | (simp at c29 ⊢; omega)
            have H' := Zab.mk H
            clear H
            obtain ⟨Ao46, co46, eo46⟩ := Kd.R_slice HO640.out
            subst eo46
            obtain ⟨Ao47, co47, eo47⟩ := Kd.R_slice HO642.out
            subst eo47
            obtain ⟨Ao48, co48, eo48⟩ := Kd.R_slice HO650.out
            subst eo48
            as_aux_lemma =>
             go_wp2
             repeat (go_quiet (fail); try go_wp2)
             go_meet
             case rel => exact ⟨_, (true), (by first | rfl | (simp; done) | (simp [*]; done) | (simp [IntWalk.i64_left, *]; done)), H', ⟨by first | omega | exact Nat.le_refl _⟩, ⟨by (with_reducible repeat (first | apply Kd.R_alloc | apply Kd.R_drewN | apply Kd.R_drew)); exact Kd.R_mono HO634.out (fun _ hk => ⟨hk.1.1.1.1.1.2, ⟨hk.1.1.1.1.2, ⟨hk.1.1.1.2, ⟨hk.1.1.2, hk.1.2⟩⟩⟩⟩)⟩, ⟨by (with_reducible repeat (first | apply Kd.R_alloc | apply Kd.R_drewN | apply Kd.R_drew)); exact Kd.R_mono HO640.out (fun _ hk => ⟨hk.1.1.1.1.2, ⟨hk.1.1.1.1.1, ⟨hk.1.1.1.2, ⟨hk.1.1.2, hk.1.2⟩⟩⟩⟩)⟩, ⟨by (with_reducible repeat (first | apply Kd.R_alloc | apply Kd.R_drewN | apply Kd.R_drew)); exact Kd.R_mono HO642.out (fun _ hk => ⟨hk.1.1.1.1.2, ⟨hk.1.1.1.1.1, ⟨hk.1.1.1.2, ⟨hk.1.1.2, hk.1.2⟩⟩⟩⟩)⟩, ⟨by (with_reducible repeat (first | apply Kd.R_alloc | apply Kd.R_drewN | apply Kd.R_drew)); exact Kd.R_mono HO646.out (fun _ hk => ⟨hk.1.1.1.1.1.2, ⟨hk.1.1.1.1.2, ⟨hk.1.1.1.2, ⟨hk.1.1.2, hk.1.2⟩⟩⟩⟩)⟩, ⟨by (with_reducible repeat (first | apply Kd.R_alloc | apply Kd.R_drewN | apply Kd.R_drew)); exact Kd.R_mono HO650.out (fun _ hk => ⟨hk.1.1.1.1.1.2, ⟨hk.1.1.1.1.2, ⟨hk.1.1.1.2, ⟨hk.1.1.2, hk.1.2⟩⟩⟩⟩)⟩, ⟨by (with_reducible repeat (first | apply Kd.R_alloc | apply Kd.R_drewN | apply Kd.R_drew)); exact Kd.R_mono HO654.out (fun _ hk => ⟨hk.1.1.1.1.1.2, ⟨hk.1.1.1.1.2, ⟨hk.1.1.1.2, ⟨hk.1.1.2, hk.1.2⟩⟩⟩⟩)⟩, ⟨by repeat (first | (with_reducible first | exact HB.out | apply Zad | apply Zaa | apply Zac) | exact HB.out)⟩⟩
          ·rw [if_neg c28] at H
           have c28b0 : ((t643.length : Int) == (t632.length : Int)) = false := beq_eq_false_iff_ne.mpr c28
           have c28b1 : ((t643.length : Int) != (t632.length : Int)) = true := bne_iff_ne.mpr c28
           have c28b2 : (t643.length == t632.length) = false := by first | simpa using c28 | (simp at c28 ⊢; omega)
           have H' := Zab.mk H
           clear H
           obtain ⟨Ao49, co49, eo49⟩ := Kd.R_slice HO640.out
           subst eo49
           obtain ⟨Ao50, co50, eo50⟩ := Kd.R_slice HO642.out
           subst eo50
           as_aux_lemma =>
            go_wp2
            repeat (go_quiet (fail); try go_wp2)
            go_meet
            case rel => exact ⟨_, (true), (by first | rfl | (simp; done) | (simp [*]; done) | (simp [IntWalk.i64_left, *]; done)), H', ⟨by first | omega | exact Nat.le_refl _⟩, ⟨by (with_reducible repeat (first | apply Kd.R_alloc | apply Kd.R_drewN | apply Kd.R_drew)); exact Kd.R_mono HO634.out (fun _ hk => ⟨hk.1.1.1.1.1.2, ⟨hk.1.1.1.1.2, ⟨hk.1.1.1.2, ⟨hk.1.1.2, hk.1.2⟩⟩⟩⟩)⟩, ⟨by (with_reducible repeat (first | apply Kd.R_alloc | apply Kd.R_drewN | apply Kd.R_drew)); exact Kd.R_mono HO640.out (fun _ hk => ⟨hk.1.1.1.1.2, ⟨hk.1.1.1.1.1, ⟨hk.1.1.1.2, ⟨hk.1.1.2, hk.1.2⟩⟩⟩⟩)⟩, ⟨by (with_reducible repeat (first | apply Kd.R_alloc | apply Kd.R_drewN | apply Kd.R_drew)); exact Kd.R_mono HO642.out (fun _ hk => ⟨hk.1.1.1.1.2, ⟨hk.1.1.1.1.1, ⟨hk.1.1.1.2, ⟨hk.1.1.2, hk.1.2⟩⟩⟩⟩)⟩, ⟨by (with_reducible repeat (first | apply Kd.R_alloc | apply Kd.R_drewN | apply Kd.R_drew)); exact Kd.R_mono HO646.out (fun _ hk => ⟨hk.1.1.1.1.1.2, ⟨hk.1.1.1.1.2, ⟨hk.1.1.1.2, ⟨hk.1.1.2, hk.1.2⟩⟩⟩⟩)⟩, ⟨by (with_reducible repeat (first | apply Kd.R_alloc | apply Kd.R_drewN | apply Kd.R_drew)); exact Kd.R_mono HO650.out (fun _ hk => ⟨hk.1.1.1.1.1.2, ⟨hk.1.1.1.1.2, ⟨hk.1.1.1.2, ⟨hk.1.1.2, hk.1.2⟩⟩⟩⟩)⟩, ⟨by (with_reducible repeat (first | apply Kd.R_alloc | apply Kd.R_drewN | apply Kd.R_drew)); exact Kd.R_mono HO654.out (fun _ hk => ⟨hk.1.1.1.1.1.2, ⟨hk.1.1.1.1.2, ⟨hk.1.1.1.2, ⟨hk.1.1.2, hk.1.2⟩⟩⟩⟩)⟩, ⟨by repeat (first | (with_reducible first | exact HB.out | apply Zad | apply Zaa | apply Zac) | exact HB.out)⟩⟩
         ·rw [if_neg c27] at H
          have c27b0 : ((t637.length : Int) == (t632.length : Int)) = false := beq_eq_false_iff_ne.mpr c27
          have c27b1 : ((t637.length : Int) != (t632.length : Int)) = true := bne_iff_ne.mpr c27
          have c27b2 : (t637.length == t632.length) = false := by first | simpa using c27 | (simp at c27 ⊢; omega)
          have H' := Zab.mk H
          clear H
          obtain ⟨Ao51, co51, eo51⟩ := Kd.R_slice HO640.out
          subst eo51
          obtain ⟨Ao52, co52, eo52⟩ := Kd.R_slice HO642.out
          subst eo52
          as_aux_lemma =>
           go_wp2
           repeat (go_quiet (fail); try go_wp2)
           go_meet
           case rel => exact ⟨_, (true), (by first | rfl | (simp; done) | (simp [*]; done) | (simp [IntWalk.i64_left, *]; done)), H', ⟨by first | omega | exact Nat.le_refl _⟩, ⟨by (with_reducible repeat (first | apply Kd.R_alloc | apply Kd.R_drewN | apply Kd.R_drew)); exact Kd.R_mono HO634.out (fun _ hk => ⟨hk.1.1.1.1.1.2, ⟨hk.1.1.1.1.2, ⟨hk.1.1.1.2, ⟨hk.1.1.2, hk.1.2⟩⟩⟩⟩)⟩, ⟨by (with_reducible repeat (first | apply Kd.R_alloc | apply Kd.R_drewN | apply Kd.R_drew)); exact Kd.R_mono HO640.out (fun _ hk => ⟨hk.1.1.1.1.2, ⟨hk.1.1.1.1.1, ⟨hk.1.1.1.2, ⟨hk.1.1.2, hk.1.2⟩⟩⟩⟩)⟩, ⟨by (with_reducible repeat (first | apply Kd.R_alloc | apply Kd.R_drewN | apply Kd.R_drew)); exact Kd.R_mono HO642.out (fun _ hk => ⟨hk.1.1.1.1.2, ⟨hk.1.1.1.1.1, ⟨hk.1.1.1.2, ⟨hk.1.1.2, hk.1.2⟩⟩⟩⟩)⟩, ⟨by (with_reducible repeat (first | apply Kd.R_alloc | apply Kd.R_drewN | apply Kd.R_drew)); exact Kd.R_mono HO646.out (fun _ hk => ⟨hk.1.1.1.1.1.2, ⟨hk.1.1.1.1.2, ⟨hk.1.1.1.2, ⟨hk.1.1.2, hk.1.2⟩⟩⟩⟩)⟩, ⟨by (with_reducible repeat (first | apply Kd.R_alloc | apply Kd.R_drewN | apply Kd.R_drew)); exact Kd.R_mono HO650.out (fun _ hk => ⟨hk.1.1.1.1.1.2, ⟨hk.1.1.1.1.2, ⟨hk.1.1.1.2, ⟨hk.1.1.2, hk.1.2⟩⟩⟩⟩)⟩, ⟨by (with_reducible repeat (first | apply Kd.R_alloc | apply Kd.R_drewN | apply Kd.R_drew)); exact Kd.R_mono HO654.out (fun _ hk => ⟨hk.1.1.1.1.1.2, ⟨hk.1.1.1.1.2, ⟨hk.1.1.1.2, ⟨hk.1.1.2, hk.1.2⟩⟩⟩⟩)⟩, ⟨by repeat (first | (with_reducible first | exact HB.out | apply Zad | apply Zaa | apply Zac) | exact HB.out)⟩⟩
        ·rw [if_neg c26] at H
         have c26b0 : ((t636.length : Int) == (t632.length : Int)) = false := beq_eq_false_iff_ne.mpr c26
         have c26b1 : ((t636.length : Int) != (t632.length : Int)) = true := bne_iff_ne.mpr c26
         have c26b2 : (t636.length == t632.length) = false := by first | simpa using c26 | (simp at c26 ⊢; omega)
         (first | rw [c26b0] | (simp only [i64_w, i32_w]; rw [c26b0]) | skip)
         have H' := Zab.mk H
         clear H
         obtain ⟨Ao53, co53, eo53⟩ := Kd.R_slice HO640.out
         subst eo53
         as_aux_lemma =>
          go_wp2
          repeat (go_quiet (fail); try go_wp2)
          go_meet
          case rel => exact ⟨_, (true), (by first | rfl | (simp; done) | (simp [*]; done) | (simp [IntWalk.i64_left, *]; done)), H', ⟨by first | omega | exact Nat.le_refl _⟩, ⟨by (with_reducible repeat (first | apply Kd.R_alloc | apply Kd.R_drewN | apply Kd.R_drew)); exact Kd.R_mono HO634.out (fun _ hk => ⟨hk.1.1.1.1.1.2, ⟨hk.1.1.1.1.2, ⟨hk.1.1.1.2, ⟨hk.1.1.2, hk.1.2⟩⟩⟩⟩)⟩, ⟨by (with_reducible repeat (first | apply Kd.R_alloc | apply Kd.R_drewN | apply Kd.R_drew)); exact Kd.R_mono HO640.out (fun _ hk => ⟨hk.1.1.1.1.2, ⟨hk.1.1.1.1.1, ⟨hk.1.1.1.2, ⟨hk.1.1.2, hk.1.2⟩⟩⟩⟩)⟩, ⟨by (with_reducible repeat (first | apply Kd.R_alloc | apply Kd.R_drewN | apply Kd.R_drew)); exact Kd.R_mono HO642.out (fun _ hk => ⟨hk.1.1.1.1.2, ⟨hk.1.1.1.1.1, ⟨hk.1.1.1.2, ⟨hk.1.1.2, hk.1.2⟩⟩⟩⟩)⟩, ⟨by (with_reducible repeat (first | apply Kd.R_alloc | apply Kd.R_drewN | apply Kd.R_drew)); exact Kd.R_mono HO646.out (fun _ hk => ⟨hk.1.1.1.1.1.2, ⟨hk.1.1.1.1.2, ⟨hk.1.1.1.2, ⟨hk.1.1.2, hk.1.2⟩⟩⟩⟩)⟩, ⟨by (with_reducible repeat (first | apply Kd.R_alloc | apply Kd.R_drewN | apply Kd.R_drew)); exact Kd.R_mono HO650.out (fun _ hk => ⟨hk.1.1.1.1.1.2, ⟨hk.1.1.1.1.2, ⟨hk.1.1.1.2, ⟨hk.1.1.2, hk.1.2⟩⟩⟩⟩)⟩, ⟨by (with_reducible repeat (first | apply Kd.R_alloc | apply Kd.R_drewN | apply Kd.R_drew)); exact Kd.R_mono HO654.out (fun _ hk => ⟨hk.1.1.1.1.1.2, ⟨hk.1.1.1.1.2, ⟨hk.1.1.1.2, ⟨hk.1.1.2, hk.1.2⟩⟩⟩⟩)⟩, ⟨by repeat (first | (with_reducible first | exact HB.out | apply Zad | apply Zaa | apply Zac) | exact HB.out)⟩⟩
       ·replace c25 := Bool.eq_false_iff.mpr c25
        subst c25
        have H1 : (laws_FnQuotas.j0 k t632 t635 t636 t637 t643 t647 t651 (t632.length : Int) true) = some r := by rw [if_neg (show ¬ (false = true) by decide)] at H; exact H
        clear H
        have H := H1
        clear H1
        have H' := Zab.mk H
        clear H
        as_aux_lemma =>
         go_wp2
         repeat (go_quiet (fail); try go_wp2)
         go_meet
         case rel => exact ⟨_, (true), (by first | rfl | (simp; done) | (simp [*]; done) | (simp [IntWalk.i64_left, *]; done)), H', ⟨by first | omega | exact Nat.le_refl _⟩, ⟨by (with_reducible repeat (first | apply Kd.R_alloc | apply Kd.R_drewN | apply Kd.R_drew)); exact Kd.R_mono HO634.out (fun _ hk => ⟨hk.1.1.1.1.1.2, ⟨hk.1.1.1.1.2, ⟨hk.1.1.1.2, ⟨hk.1.1.2, hk.1.2⟩⟩⟩⟩)⟩, ⟨by (with_reducible repeat (first | apply Kd.R_alloc | apply Kd.R_drewN | apply Kd.R_drew)); exact Kd.R_mono HO640.out (fun _ hk => ⟨hk.1.1.1.1.2, ⟨hk.1.1.1.1.1, ⟨hk.1.1.1.2, ⟨hk.1.1.2, hk.1.2⟩⟩⟩⟩)⟩, ⟨by (with_reducible repeat (first | apply Kd.R_alloc | apply Kd.R_drewN | apply Kd.R_drew)); exact Kd.R_mono HO642.out (fun _ hk => ⟨hk.1.1.1.1.2, ⟨hk.1.1.1.1.1, ⟨hk.1.1.1.2, ⟨hk.1.1.2, hk.1.2⟩⟩⟩⟩)⟩, ⟨by (with_reducible repeat (first | apply Kd.R_alloc | apply Kd.R_drewN | apply Kd.R_drew)); exact Kd.R_mono HO646.out (fun _ hk => ⟨hk.1.1.1.1.1.2, ⟨hk.1.1.1.1.2, ⟨hk.1.1.1.2, ⟨hk.1.1.2, hk.1.2⟩⟩⟩⟩)⟩, ⟨by (with_reducible repeat (first | apply Kd.R_alloc | apply Kd.R_drewN | apply Kd.R_drew)); exact Kd.R_mono HO650.out (fun _ hk => ⟨hk.1.1.1.1.1.2, ⟨hk.1.1.1.1.2, ⟨hk.1.1.1.2, ⟨hk.1.1.2, hk.1.2⟩⟩⟩⟩)⟩, ⟨by (with_reducible repeat (first | apply Kd.R_alloc | apply Kd.R_drewN | apply Kd.R_drew)); exact Kd.R_mono HO654.out (fun _ hk => ⟨hk.1.1.1.1.1.2, ⟨hk.1.1.1.1.2, ⟨hk.1.1.1.2, ⟨hk.1.1.2, hk.1.2⟩⟩⟩⟩)⟩, ⟨by repeat (first | (with_reducible first | exact HB.out | apply Zad | apply Zaa | apply Zac) | exact HB.out)⟩⟩
      ·replace c24 := Bool.eq_false_iff.mpr c24
       subst c24
       have H1 : (laws_FnQuotas.j0 k t632 t635 t636 t637 t643 t647 t651 (t632.length : Int) true) = some r := by rw [if_neg (show ¬ (false = true) by decide)] at H; exact H
       clear H
       have H := H1
       clear H1
       have H' := Zab.mk H
       clear H
       as_aux_lemma =>
        go_wp2
        repeat (go_quiet (fail); try go_wp2)
        go_meet
        case rel => exact ⟨_, (true), (by first | rfl | (simp; done) | (simp [*]; done) | (simp [IntWalk.i64_left, *]; done)), H', ⟨by first | omega | exact Nat.le_refl _⟩, ⟨by (with_reducible repeat (first | apply Kd.R_alloc | apply Kd.R_drewN | apply Kd.R_drew)); exact Kd.R_mono HO634.out (fun _ hk => ⟨hk.1.1.1.1.1.2, ⟨hk.1.1.1.1.2, ⟨hk.1.1.1.2, ⟨hk.1.1.2, hk.1.2⟩⟩⟩⟩)⟩, ⟨by (with_reducible repeat (first | apply Kd.R_alloc | apply Kd.R_drewN | apply Kd.R_drew)); exact Kd.R_mono HO640.out (fun _ hk => ⟨hk.1.1.1.1.2, ⟨hk.1.1.1.1.1, ⟨hk.1.1.1.2, ⟨hk.1.1.2, hk.1.2⟩⟩⟩⟩)⟩, ⟨by (with_reducible repeat (first | apply Kd.R_alloc | apply Kd.R_drewN | apply Kd.R_drew)); exact Kd.R_mono HO642.out (fun _ hk => ⟨hk.1.1.1.1.2, ⟨hk.1.1.1.1.1, ⟨hk.1.1.1.2, ⟨hk.1.1.2, hk.1.2⟩⟩⟩⟩)⟩, ⟨by (with_reducible repeat (first | apply Kd.R_alloc | apply Kd.R_drewN | apply Kd.R_drew)); exact Kd.R_mono HO646.out (fun _ hk => ⟨hk.1.1.1.1.1.2, ⟨hk.1.1.1.1.2, ⟨hk.1.1.1.2, ⟨hk.1.1.2, hk.1.2⟩⟩⟩⟩)⟩, ⟨by (with_reducible repeat (first | apply Kd.R_alloc | apply Kd.R_drewN | apply Kd.R_drew)); exact Kd.R_mono HO650.out (fun _ hk => ⟨hk.1.1.1.1.1.2, ⟨hk.1.1.1.1.2, ⟨hk.1.1.1.2, ⟨hk.1.1.2, hk.1.2⟩⟩⟩⟩)⟩, ⟨by (with_reducible repeat (first | apply Kd.R_alloc | apply Kd.R_drewN | apply Kd.R_drew)); exact Kd.R_mono HO654.out (fun _ hk => ⟨hk.1.1.1.1.1.2, ⟨hk.1.1.1.1.2, ⟨hk.1.1.1.2, ⟨hk.1.1.2, hk.1.2⟩⟩⟩⟩)⟩, ⟨by repeat (first | (with_reducible first | exact HB.out | apply Zad | apply Zaa | apply Zac) | exact HB.out)⟩⟩
     ·replace c23 := Bool.eq_false_iff.mpr c23
      subst c23
      have H1 : (laws_FnQuotas.j0 k t632 t635 t636 t637 t643 t647 t651 (t632.length : Int) true) = some r := by rw [if_neg (show ¬ (false = true) by decide)] at H; exact H
      clear H
      have H := H1
      clear H1
      have H' := Zab.mk H
      clear H
      as_aux_lemma =>
       go_wp2
       repeat (go_quiet (fail); try go_wp2)
       go_meet
       case rel => exact ⟨_, (true), (by first | rfl | (simp; done) | (simp [*]; done) | (simp [IntWalk.i64_left, *]; done)), H', ⟨by first | omega | exact Nat.le_refl _⟩, ⟨by (with_reducible repeat (first | apply Kd.R_alloc | apply Kd.R_drewN | apply Kd.R_drew)); exact Kd.R_mono HO634.out (fun _ hk => ⟨hk.1.1.1.1.1.2, ⟨hk.1.1.1.1.2, ⟨hk.1.1.1.2, ⟨hk.1.1.2, hk.1.2⟩⟩⟩⟩)⟩, ⟨by (with_reducible repeat (first | apply Kd.R_alloc | apply Kd.R_drewN | apply Kd.R_drew)); exact Kd.R_mono HO640.out (fun _ hk => ⟨hk.1.1.1.1.2, ⟨hk.1.1.1.1.1, ⟨hk.1.1.1.2, ⟨hk.1.1.2, hk.1.2⟩⟩⟩⟩)⟩, ⟨by (with_reducible repeat (first | apply Kd.R_alloc | apply Kd.R_drewN | apply Kd.R_drew)); exact Kd.R_mono HO642.out (fun _ hk => ⟨hk.1.1.1.1.2, ⟨hk.1.1.1.1.1, ⟨hk.1.1.1.2, ⟨hk.1.1.2, hk.1.2⟩⟩⟩⟩)⟩, ⟨by (with_reducible repeat (first | apply Kd.R_alloc | apply Kd.R_drewN | apply Kd.R_drew)); exact Kd.R_mono HO646.out (fun _ hk => ⟨hk.1.1.1.1.1.2, ⟨hk.1.1.1.1.2, ⟨hk.1.1.1.2, ⟨hk.1.1.2, hk.1.2⟩⟩⟩⟩)⟩, ⟨by (with_reducible repeat (first | apply Kd.R_alloc | apply Kd.R_drewN | apply Kd.R_drew)); exact Kd.R_mono HO650.out (fun _ hk => ⟨hk.1.1.1.1.1.2, ⟨hk.1.1.1.1.2, ⟨hk.1.1.1.2, ⟨hk.1.1.2, hk.1.2⟩⟩⟩⟩)⟩, ⟨by (with_reducible repeat (first | apply Kd.R_alloc | apply Kd.R_drewN | apply Kd.R_drew)); exact Kd.R_mono HO654.out (fun _ hk => ⟨hk.1.1.1.1.1.2, ⟨hk.1.1.1.1.2, ⟨hk.1.1.1.2, ⟨hk.1.1.2, hk.1.2⟩⟩⟩⟩)⟩, ⟨by repeat (first | (with_reducible first | exact HB.out | apply Zad | apply Zaa | apply Zac) | exact HB.out)⟩⟩
    ·replace c22 := Bool.eq_false_iff.mpr c22
     subst c22
     have H1 : (laws_FnQuotas.j0 k t632 t635 t636 t637 t643 t647 t651 (t632.length : Int) true) = some r := by rw [if_neg (show ¬ (false = true) by decide)] at H; exact H
     clear H
     have H := H1
     clear H1
     have H' := Zab.mk H
     clear H
     as_aux_lemma =>
      go_wp2
      repeat (go_quiet (fail); try go_wp2)
      go_meet
      case rel => exact ⟨_, (true), (by first | rfl | (simp; done) | (simp [*]; done) | (simp [IntWalk.i64_left, *]; done)), H', ⟨by first | omega | exact Nat.le_refl _⟩, ⟨by (with_reducible repeat (first | apply Kd.R_alloc | apply Kd.R_drewN | apply Kd.R_drew)); exact Kd.R_mono HO634.out (fun _ hk => ⟨hk.1.1.1.1.1.2, ⟨hk.1.1.1.1.2, ⟨hk.1.1.1.2, ⟨hk.1.1.2, hk.1.2⟩⟩⟩⟩)⟩, ⟨by (with_reducible repeat (first | apply Kd.R_alloc | apply Kd.R_drewN | apply Kd.R_drew)); exact Kd.R_mono HO640.out (fun _ hk => ⟨hk.1.1.1.1.2, ⟨hk.1.1.1.1.1, ⟨hk.1.1.1.2, ⟨hk.1.1.2, hk.1.2⟩⟩⟩⟩)⟩, ⟨by (with_reducible repeat (first | apply Kd.R_alloc | apply Kd.R_drewN | apply Kd.R_drew)); exact Kd.R_mono HO642.out (fun _ hk => ⟨hk.1.1.1.1.2, ⟨hk.1.1.1.1.1, ⟨hk.1.1.1.2, ⟨hk.1.1.2, hk.1.2⟩⟩⟩⟩)⟩, ⟨by (with_reducible repeat (first | apply Kd.R_alloc | apply Kd.R_drewN | apply Kd.R_drew)); exact Kd.R_mono HO646.out (fun _ hk => ⟨hk.1.1.1.1.1.2, ⟨hk.1.1.1.1.2, ⟨hk.1.1.1.2, ⟨hk.1.1.2, hk.1.2⟩⟩⟩⟩)⟩, ⟨by (with_reducible repeat (first | apply Kd.R_alloc | apply Kd.R_drewN | apply Kd.R_drew)); exact Kd.R_mono HO650.out (fun _ hk => ⟨hk.1.1.1.1.1.2, ⟨hk.1.1.1.1.2, ⟨hk.1.1.1.2, ⟨hk.1.1.2, hk.1.2⟩⟩⟩⟩)⟩, ⟨by (with_reducible repeat (first | apply Kd.R_alloc | apply Kd.R_drewN | apply Kd.R_drew)); exact Kd.R_mono HO654.out (fun _ hk => ⟨hk.1.1.1.1.1.2, ⟨hk.1.1.1.1.2, ⟨hk.1.1.1.2, ⟨hk.1.1.2, hk.1.2⟩⟩⟩⟩)⟩, ⟨by repeat (first | (with_reducible first | exact HB.out | apply Zad | apply Zaa | apply Zac) | exact HB.out)⟩⟩
   ·replace c21 := Bool.eq_false_iff.mpr c21
    subst c21
    have H1 : (laws_FnQuotas.j0 k t632 t635 t636 t637 t643 t647 t651 (t632.length : Int) true) = some r := by rw [if_neg (show ¬ (false = true) by decide)] at H; exact H
    clear H
    have H := H1
    clear H1
    have H' := Zab.mk H
    clear H
    as_aux_lemma =>
     go_wp2
     repeat (go_quiet (fail); try go_wp2)
     go_meet
     case rel => exact ⟨_, (true), (by first | rfl | (simp; done) | (simp [*]; done) | (simp [IntWalk.i64_left, *]; done)), H', ⟨by first | omega | exact Nat.le_refl _⟩, ⟨by (with_reducible repeat (first | apply Kd.R_alloc | apply Kd.R_drewN | apply Kd.R_drew)); exact Kd.R_mono HO634.out (fun _ hk => ⟨hk.1.1.1.1.1.2, ⟨hk.1.1.1.1.2, ⟨hk.1.1.1.2, ⟨hk.1.1.2, hk.1.2⟩⟩⟩⟩)⟩, ⟨by (with_reducible repeat (first | apply Kd.R_alloc | apply Kd.R_drewN | apply Kd.R_drew)); exact Kd.R_mono HO640.out (fun _ hk => ⟨hk.1.1.1.1.2, ⟨hk.1.1.1.1.1, ⟨hk.1.1.1.2, ⟨hk.1.1.2, hk.1.2⟩⟩⟩⟩)⟩, ⟨by (with_reducible repeat (first | apply Kd.R_alloc | apply Kd.R_drewN | apply Kd.R_drew)); exact Kd.R_mono HO642.out (fun _ hk => ⟨hk.1.1.1.1.2, ⟨hk.1.1.1.1.1, ⟨hk.1.1.1.2, ⟨hk.1.1.2, hk.1.2⟩⟩⟩⟩)⟩, ⟨by (with_reducible repeat (first | apply Kd.R_alloc | apply Kd.R_drewN | apply Kd.R_drew)); exact Kd.R_mono HO646.out (fun _ hk => ⟨hk.1.1.1.1.1.2, ⟨hk.1.1.1.1.2, ⟨hk.1.1.1.2, ⟨hk.1.1.2, hk.1.2⟩⟩⟩⟩)⟩, ⟨by (with_reducible repeat (first | apply Kd.R_alloc | apply Kd.R_drewN | apply Kd.R_drew)); exact Kd.R_mono HO650.out (fun _ hk => ⟨hk.1.1.1.1.1.2, ⟨hk.1.1.1.1.2, ⟨hk.1.1.1.2, ⟨hk.1.1.2, hk.1.2⟩⟩⟩⟩)⟩, ⟨by (with_reducible repeat (first | apply Kd.R_alloc | apply Kd.R_drewN | apply Kd.R_drew)); exact Kd.R_mono HO654.out (fun _ hk => ⟨hk.1.1.1.1.1.2, ⟨hk.1.1.1.1.2, ⟨hk.1.1.1.2, ⟨hk.1.1.2, hk.1.2⟩⟩⟩⟩)⟩, ⟨by repeat (first | (with_reducible first | exact HB.out | apply Zad | apply Zaa | apply Zac) | exact HB.out)⟩⟩
  case rest =>
   clear HC12
   try clear c1
   try clear c2
   try clear p2
   try clear c3
   try clear c4
   try clear c11
   try clear c21
   try clear c22
   try clear c23
   try clear c24
   try clear c25
   try clear c26
   try clear c26b0
   try clear c26b1
   try clear c26b2
   try clear c27
   try clear c27b0
   try clear c27b1
   try clear c27b2
   try clear c28
   try clear c28b0
   try clear c28b1
   try clear c28b2
   try clear c29
   try clear c29b0
   try clear c29b1
   try clear c29b2
   try clear c30
   try clear c30b0
   try clear c30b1
   try clear c30b2
   try clear c32
   try clear c32b0
   try clear c32b1
   obtain ⟨kq, x119_11, rfl, HA, HJ11, HO_5, HO_7, HO_8, HO_10, HO_12, HO_14, HB⟩ := hcut
   cases kq with
   | zero => exact absurd HA.out (by simp [laws_FnQuotas.j0])
   | succ kj11 =>
    have H := HA.out
    clear HA
    simp only [laws_FnQuotas.j0] at H
    by_cases c54 : x119_11 = true
    ·subst c54
     have H1 : (some false) = some r := by rw [if_pos rfl] at H; exact H
     clear H
     have H := H1
     clear H1
     obtain rfl := Option.some.inj H
     as_aux_lemma =>
      go_wp2
      repeat (go_quiet (fail); try go_wp2)
      go_ret
      exact ⟨by first | rfl | (simp [Zal, Zam] <;> rfl) | (simp [*, Zal, Zam] <;> rfl), by repeat (first | (with_reducible first | exact HB.out | apply Zad | apply Zaa | apply Zac) | exact HB.out)⟩
    ·replace c54 := Bool.eq_false_iff.mpr c54
     subst c54
     have H1 : ((laws_r8Sum.f kj11 t632).bind fun t660 => (laws_FnQuotas.l0 kj11 t632 t635 t636 t637 t643 t647 t651 (t632.length : Int) t660 0)) = some r := by rw [if_neg (show ¬ (false = true) by decide)] at H; exact H
     clear H
     have H := H1
     clear H1
     replace H := Option.bind_eq_some_iff.mp H
     obtain ⟨t660, A550, H⟩ := H
     replace H : (laws_FnQuotas.l0 kj11 t632 t635 t636 t637 t643 t647 t651 (t632.length : Int) t660 0) = some r := H
     have A55 := Zab.mk A550
     clear A550
     have H' := Zab.mk H
     clear H
     go_wp2_with (first | (go_at_call 41; (with_reducible refine (laws_r8Sum.calls kj11 _ _ t632 t660 _ ?side1 ?side2 A55.out).mono ?_); (case side1 => repeat (first | exact (Kd.R_reads' HO_5.out).2.2 | (with_reducible refine Kd.C_alloc ?_ _) | (with_reducible refine Kd.C_drewN ?_ _) | (with_reducible refine Kd.C_drew ?_))); (case side2 => exact (Kd.R_reads' HO_5.out).2.1); rintro e w' ⟨rfl, ⟨nd, rfl⟩⟩; (try first | exact ⟨rfl, _, World.drewN_drewN _ _ _⟩ | exact ⟨rfl, _, Eq.trans (World.drewN_drewN _ _ _) (congrArg (World.drewN _) (Nat.add_assoc _ _ _))⟩)))
     repeat (go_quiet (first | (go_at_call 41; (with_reducible refine (laws_r8Sum.calls kj11 _ _ t632 t660 _ ?side1 ?side2 A55.out).mono ?_); (case side1 => repeat (first | exact (Kd.R_reads' HO_5.out).2.2 | (with_reducible refine Kd.C_alloc ?_ _) | (with_reducible refine Kd.C_drewN ?_ _) | (with_reducible refine Kd.C_drew ?_))); (case side2 => exact (Kd.R_reads' HO_5.out).2.1); rintro e w' ⟨rfl, ⟨nd, rfl⟩⟩; (try first | exact ⟨rfl, _, World.drewN_drewN _ _ _⟩ | exact ⟨rfl, _, Eq.trans (World.drewN_drewN _ _ _) (congrArg (World.drewN _) (Nat.add_assoc _ _ _))⟩))); try go_wp2_with (first | (go_at_call 41; (with_reducible refine (laws_r8Sum.calls kj11 _ _ t632 t660 _ ?side1 ?side2 A55.out).mono ?_); (case side1 => repeat (first | exact (Kd.R_reads' HO_5.out).2.2 | (with_reducible refine Kd.C_alloc ?_ _) | (with_reducible refine Kd.C_drewN ?_ _) | (with_reducible refine Kd.C_drew ?_))); (case side2 => exact (Kd.R_reads' HO_5.out).2.1); rintro e w' ⟨rfl, ⟨nd, rfl⟩⟩; (try first | exact ⟨rfl, _, World.drewN_drewN _ _ _⟩ | exact ⟨rfl, _, Eq.trans (World.drewN_drewN _ _ _) (congrArg (World.drewN _) (Nat.add_assoc _ _ _))⟩))))
     go_loopg [20] kj11 (fun kq v20 w' => ∃ (x20_2 : Int), v20 = .int .i64 x20_2 ∧ Zab (laws_FnQuotas.l0 kq t632 t635 t636 t637 t643 t647 t651 (t632.length : Int) t660 x20_2 = some r) ∧ Zab (kq ≤ kj11) ∧ Zab (Kd.R (Kd.int .i64) 2 w' w.heap.size (fun k_ => some k_ ≠ (v639 : Value).ownBlock ∧ some k_ ≠ (v641 : Value).ownBlock ∧ some k_ ≠ ((.slice Ao19 t643.length co19) : Value).ownBlock ∧ some k_ ≠ (v649 : Value).ownBlock ∧ some k_ ≠ (v653 : Value).ownBlock) (.slice Ao14 t632.length co14) t632) ∧ Zab (Kd.R (Kd.int .i64) 2 w' w.heap.size (fun k_ => some k_ ≠ ((.slice Ao14 t632.length co14) : Value).ownBlock ∧ some k_ ≠ (v641 : Value).ownBlock ∧ some k_ ≠ ((.slice Ao19 t643.length co19) : Value).ownBlock ∧ some k_ ≠ (v649 : Value).ownBlock ∧ some k_ ≠ (v653 : Value).ownBlock) v639 t636) ∧ Zab (Kd.R (Kd.int .i64) 2 w' w.heap.size (fun k_ => some k_ ≠ ((.slice Ao14 t632.length co14) : Value).ownBlock ∧ some k_ ≠ (v639 : Value).ownBlock ∧ some k_ ≠ ((.slice Ao19 t643.length co19) : Value).ownBlock ∧ some k_ ≠ (v649 : Value).ownBlock ∧ some k_ ≠ (v653 : Value).ownBlock) v641 t637) ∧ Zab (Kd.R (Kd.int .i64) 2 w' w.heap.size (fun k_ => some k_ ≠ ((.slice Ao14 t632.length co14) : Value).ownBlock ∧ some k_ ≠ (v639 : Value).ownBlock ∧ some k_ ≠ (v641 : Value).ownBlock ∧ some k_ ≠ (v649 : Value).ownBlock ∧ some k_ ≠ (v653 : Value).ownBlock) (.slice Ao19 t643.length co19) t643) ∧ Zab (Kd.R (Kd.int .i64) 2 w' w.heap.size (fun k_ => some k_ ≠ ((.slice Ao14 t632.length co14) : Value).ownBlock ∧ some k_ ≠ (v639 : Value).ownBlock ∧ some k_ ≠ (v641 : Value).ownBlock ∧ some k_ ≠ ((.slice Ao19 t643.length co19) : Value).ownBlock ∧ some k_ ≠ (v653 : Value).ownBlock) v649 t647) ∧ Zab (Kd.R (Kd.int .i64) 2 w' w.heap.size (fun k_ => some k_ ≠ ((.slice Ao14 t632.length co14) : Value).ownBlock ∧ some k_ ≠ (v639 : Value).ownBlock ∧ some k_ ≠ (v641 : Value).ownBlock ∧ some k_ ≠ ((.slice Ao19 t643.length co19) : Value).ownBlock ∧ some k_ ≠ (v649 : Value).ownBlock) v653 t651) ∧ Zab (Below w.heap.size w w'))
     case atStart => exact ⟨(0), (by first | rfl | (simp; done) | (simp [*]; done) | (simp [IntWalk.i64_left, *]; done)), H', ⟨Nat.le_refl _⟩, ⟨by (with_reducible repeat (first | apply Kd.R_alloc | apply Kd.R_drewN | apply Kd.R_drew)); exact HO_5.out⟩, ⟨by (with_reducible repeat (first | apply Kd.R_alloc | apply Kd.R_drewN | apply Kd.R_drew)); exact HO_7.out⟩, ⟨by (with_reducible repeat (first | apply Kd.R_alloc | apply Kd.R_drewN | apply Kd.R_drew)); exact HO_8.out⟩, ⟨by (with_reducible repeat (first | apply Kd.R_alloc | apply Kd.R_drewN | apply Kd.R_drew)); exact HO_10.out⟩, ⟨by (with_reducible repeat (first | apply Kd.R_alloc | apply Kd.R_drewN | apply Kd.R_drew)); exact HO_12.out⟩, ⟨by (with_reducible repeat (first | apply Kd.R_alloc | apply Kd.R_drewN | apply Kd.R_drew)); exact HO_14.out⟩, ⟨by repeat (first | (with_reducible first | exact HB.out | apply Zad | apply Zaa | apply Zac) | exact HB.out)⟩⟩
     case round =>
      clear H'
      try clear c1
      try clear c2
      try clear p2
      try clear c3
      try clear c4
      try clear c5
      try clear c11
      try clear c21
      try clear c22
      try clear c23
      try clear c24
      try clear c25
      try clear c26
      try clear c26b0
      try clear c26b1
      try clear c26b2
      try clear c27
      try clear c27b0
      try clear c27b1
      try clear c27b2
      try clear c28
      try clear c28b0
      try clear c28b1
      try clear c28b2
      try clear c29
      try clear c29b0
      try clear c29b1
      try clear c29b2
      try clear c30
      try clear c30b0
      try clear c30b1
      try clear c30b2
      try clear c32
      try clear c32b0
      try clear c32b1
      try clear c54
      try clear p2
      obtain ⟨x20_2, rfl, HA, HK2, HO_5, HO_7, HO_8, HO_10, HO_12, HO_14, HB⟩ := hrel
      cases gk with
      | zero => exact absurd HA.out (by simp [laws_FnQuotas.l0])
      | succ k2 =>
       have H := HA.out
       clear HA
       simp only [laws_FnQuotas.l0] at H
       by_cases c56 : x20_2 < (t632.length : Int)
       ·rw [if_pos c56] at H
        have c56b0 : decide (x20_2 < (t632.length : Int)) = true := decide_eq_true c56
        clear c56
        by_cases c57 : 0 ≤ x20_2
        ·rw [if_pos c57] at H
         have c57b0 : decide (0 ≤ x20_2) = true := decide_eq_true c57
         clear c57
         by_cases c58 : x20_2 < (t636.length : Int)
         ·rw [if_pos c58] at H
          have c58b0 : decide (x20_2 < (t636.length : Int)) = true := decide_eq_true c58
          clear c58
          by_cases c59 : x20_2 < (t632.length : Int)
          ·rw [if_pos c59] at H
           have c59b0 : decide (x20_2 < (t632.length : Int)) = true := decide_eq_true c59
           clear c59
           by_cases c60 : (wrap64 ((rd t636 x20_2) * t660)) > (wrap64 (t635 * (rd t632 x20_2)))
           ·rw [if_pos c60] at H
            have c60b0 : decide ((wrap64 (t635 * (rd t632 x20_2))) < (wrap64 ((rd t636 x20_2) * t660))) = true := decide_eq_true c60
            clear c60
            obtain rfl := Option.some.inj H
            obtain ⟨Ao61, co61, eo61⟩ := Kd.R_slice HO_7.out
            subst eo61
            have p661 : 0 ≤ (x20_2 : Int) := of_decide_eq_true (by first | (with_reducible assumption) | assumption)
            have q661 : x20_2 < (t636.length : Int) := of_decide_eq_true (by first | (with_reducible assumption) | assumption)
            obtain ⟨ad661, e661, hx661_0⟩ := Kd.at_int (Kd.R_reads' HO_7.out).2.2 x20_2 p661 q661
            cases e661
            replace p661 := eq_true p661
            replace q661 := eq_true q661
            have p662 : 0 ≤ (x20_2 : Int) := of_decide_eq_true (by first | (with_reducible assumption) | assumption)
            have q662 : x20_2 < (t632.length : Int) := of_decide_eq_true (by first | (with_reducible assumption) | assumption)
            obtain ⟨ad662, e662, hx662_0⟩ := Kd.at_int (Kd.R_reads' HO_5.out).2.2 x20_2 p662 q662
            cases e662
            replace p662 := eq_true p662
            replace q662 := eq_true q662
            as_aux_lemma =>
             go_wp2
             repeat (go_quiet (fail); try go_wp2)
             go_ret
             exact ⟨by first | rfl | (simp [Zal, Zam] <;> rfl) | (simp [*, Zal, Zam] <;> rfl), by repeat (first | (with_reducible first | exact HB.out | apply Zad | apply Zaa | apply Zac) | exact HB.out)⟩
           ·rw [if_neg c60] at H
            have c60b0 : decide ((wrap64 (t635 * (rd t632 x20_2))) < (wrap64 ((rd t636 x20_2) * t660))) = false := decide_eq_false c60
            clear c60
            by_cases c62 : x20_2 < (t637.length : Int)
            ·rw [if_pos c62] at H
             have c62b0 : decide (x20_2 < (t637.length : Int)) = true := decide_eq_true c62
             clear c62
             by_cases c63 : (wrap64 ((rd t637 x20_2) * t660)) < (wrap64 (t635 * (rd t632 x20_2)))
             ·rw [if_pos c63] at H
              have c63b0 : decide ((wrap64 ((rd t637 x20_2) * t660)) < (wrap64 (t635 * (rd t632 x20_2)))) = true := decide_eq_true c63
              clear c63
              obtain rfl := Option.some.inj H
              obtain ⟨Ao64, co64, eo64⟩ := Kd.R_slice HO_7.out
              subst eo64
              have p661 : 0 ≤ (x20_2 : Int) := of_decide_eq_true (by first | (with_reducible assumption) | assumption)
              have q661 : x20_2 < (t636.length : Int) := of_decide_eq_true (by first | (with_reducible assumption) | assumption)
              obtain ⟨ad661, e661, hx661_0⟩ := Kd.at_int (Kd.R_reads' HO_7.out).2.2 x20_2 p661 q661
              cases e661
              replace p661 := eq_true p661
              replace q661 := eq_true q661
              have p662 : 0 ≤ (x20_2 : Int) := of_decide_eq_true (by first | (with_reducible assumption) | assumption)
              have q662 : x20_2 < (t632.length : Int) := of_decide_eq_true (by first | (with_reducible assumption) | assumption)
              obtain ⟨ad662, e662, hx662_0⟩ := Kd.at_int (Kd.R_reads' HO_5.out).2.2 x20_2 p662 q662
              cases e662
              replace p662 := eq_true p662
              replace q662 := eq_true q662
              obtain ⟨Ao65, co65, eo65⟩ := Kd.R_slice HO_8.out
              subst eo65
              have p663 : 0 ≤ (x20_2 : Int) := of_decide_eq_true (by first | (with_reducible assumption) | assumption)
              have q663 : x20_2 < (t637.length : Int) := of_decide_eq_true (by first | (with_reducible assumption) | assumption)
              obtain ⟨ad663, e663, hx663_0⟩ := Kd.at_int (Kd.R_reads' HO_8.out).2.2 x20_2 p663 q663
              cases e663
              replace p663 := eq_true p663
              replace q663 := eq_true q663
              have p664 : 0 ≤ (x20_2 : Int) := of_decide_eq_true (by first | (with_reducible assumption) | assumption)
              have q664 : x20_2 < (t632.length : Int) := of_decide_eq_true (by first | (with_reducible assumption) | assumption)
              obtain ⟨ad664, e664, hx664_0⟩ := Kd.at_int (Kd.R_reads' HO_5.out).2.2 x20_2 p664 q664
              obtain rfl : ad662 = ad664 := (by injection e664)
              replace p664 := eq_true p664
              replace q664 := eq_true q664
              as_aux_lemma =>
               go_wp2
               repeat (go_quiet (fail); try go_wp2)
               go_ret
               exact ⟨by first | rfl | (simp [Zal, Zam] <;> rfl) | (simp [*, Zal, Zam] <;> rfl), by repeat (first | (with_reducible first | exact HB.out | apply Zad | apply Zaa | apply Zac) | exact HB.out)⟩
             ·rw [if_neg c63] at H
              have c63b0 : decide ((wrap64 ((rd t637 x20_2) * t660)) < (wrap64 (t635 * (rd t632 x20_2)))) = false := decide_eq_false c63
              clear c63
              by_cases c66 : (wrap64 ((rd t637 x20_2) - (rd t636 x20_2))) > 1
              ·rw [if_pos c66] at H
               have c66b0 : decide (1 < (wrap64 ((rd t637 x20_2) - (rd t636 x20_2)))) = true := decide_eq_true c66
               clear c66
               obtain rfl := Option.some.inj H
               obtain ⟨Ao67, co67, eo67⟩ := Kd.R_slice HO_7.out
               subst eo67
               have p661 : 0 ≤ (x20_2 : Int) := of_decide_eq_true (by first | (with_reducible assumption) | assumption)
               have q661 : x20_2 < (t636.length : Int) := of_decide_eq_true (by first | (with_reducible assumption) | assumption)
               obtain ⟨ad661, e661, hx661_0⟩ := Kd.at_int (Kd.R_reads' HO_7.out).2.2 x20_2 p661 q661
               cases e661
               replace p661 := eq_true p661
               replace q661 := eq_true q661
               have p662 : 0 ≤ (x20_2 : Int) := of_decide_eq_true (by first | (with_reducible assumption) | assumption)
               have q662 : x20_2 < (t632.length : Int) := of_decide_eq_true (by first | (with_reducible assumption) | assumption)
               obtain ⟨ad662, e662, hx662_0⟩ := Kd.at_int (Kd.R_reads' HO_5.out).2.2 x20_2 p662 q662
               cases e662
               replace p662 := eq_true p662
               replace q662 := eq_true q662
               obtain ⟨Ao68, co68, eo68⟩ := Kd.R_slice HO_8.out
               subst eo68
               have p663 : 0 ≤ (x20_2 : Int) := of_decide_eq_true (by first | (with_reducible assumption) | assumption)
               have q663 : x20_2 < (t637.length : Int) := of_decide_eq_true (by first | (with_reducible assumption) | assumption)
               obtain ⟨ad663, e663, hx663_0⟩ := Kd.at_int (Kd.R_reads' HO_8.out).2.2 x20_2 p663 q663
               cases e663
               replace p663 := eq_true p663
               replace q663 := eq_true q663
               have p664 : 0 ≤ (x20_2 : Int) := of_decide_eq_true (by first | (with_reducible assumption) | assumption)
               have q664 : x20_2 < (t632.length : Int) := of_decide_eq_true (by first | (with_reducible assumption) | assumption)
               obtain ⟨ad664, e664, hx664_0⟩ := Kd.at_int (Kd.R_reads' HO_5.out).2.2 x20_2 p664 q664
               obtain rfl : ad662 = ad664 := (by injection e664)
               replace p664 := eq_true p664
               replace q664 := eq_true q664
               have p665 : 0 ≤ (x20_2 : Int) := of_decide_eq_true (by first | (with_reducible assumption) | assumption)
               have q665 : x20_2 < (t637.length : Int) := of_decide_eq_true (by first | (with_reducible assumption) | assumption)
               obtain ⟨ad665, e665, hx665_0⟩ := Kd.at_int (Kd.R_reads' HO_8.out).2.2 x20_2 p665 q665
               obtain rfl : ad663 = ad665 := (by injection e665)
               replace p665 := eq_true p665
               replace q665 := eq_true q665
               have p666 : 0 ≤ (x20_2 : Int) := of_decide_eq_true (by first | (with_reducible assumption) | assumption)
               have q666 : x20_2 < (t636.length : Int) := of_decide_eq_true (by first | (with_reducible assumption) | assumption)
               obtain ⟨ad666, e666, hx666_0⟩ := Kd.at_int (Kd.R_reads' HO_7.out).2.2 x20_2 p666 q666
               obtain rfl : ad661 = ad666 := (by injection e666)
               replace p666 := eq_true p666
               replace q666 := eq_true q666
               as_aux_lemma =>
                go_wp2
                repeat (go_quiet (fail); try go_wp2)
                go_ret
                exact ⟨by first | rfl | (simp [Zal, Zam] <;> rfl) | (simp [*, Zal, Zam] <;> rfl), by repeat (first | (with_reducible first | exact HB.out | apply Zad | apply Zaa | apply Zac) | exact HB.out)⟩
              ·rw [if_neg c66] at H
               have c66b0 : decide (1 < (wrap64 ((rd t637 x20_2) - (rd t636 x20_2)))) = false := decide_eq_false c66
               clear c66
               by_cases c69 : x20_2 < (t643.length : Int)
               ·rw [if_pos c69] at H
                have c69b0 : decide (x20_2 < (t643.length : Int)) = true := decide_eq_true c69
                clear c69
                by_cases c70 : (rd t643 x20_2) < (rd t636 x20_2)
                ·rw [if_pos c70] at H
                 have c70b0 : decide ((rd t643 x20_2) < (rd t636 x20_2)) = true := decide_eq_true c70
                 clear c70
                 obtain rfl := Option.some.inj H
                 obtain ⟨Ao71, co71, eo71⟩ := Kd.R_slice HO_7.out
                 subst eo71
                 have p661 : 0 ≤ (x20_2 : Int) := of_decide_eq_true (by first | (with_reducible assumption) | assumption)
                 have q661 : x20_2 < (t636.length : Int) := of_decide_eq_true (by first | (with_reducible assumption) | assumption)
                 obtain ⟨ad661, e661, hx661_0⟩ := Kd.at_int (Kd.R_reads' HO_7.out).2.2 x20_2 p661 q661
                 cases e661
                 replace p661 := eq_true p661
                 replace q661 := eq_true q661
                 have p662 : 0 ≤ (x20_2 : Int) := of_decide_eq_true (by first | (with_reducible assumption) | assumption)
                 have q662 : x20_2 < (t632.length : Int) := of_decide_eq_true (by first | (with_reducible assumption) | assumption)
                 obtain ⟨ad662, e662, hx662_0⟩ := Kd.at_int (Kd.R_reads' HO_5.out).2.2 x20_2 p662 q662
                 cases e662
                 replace p662 := eq_true p662
                 replace q662 := eq_true q662
                 obtain ⟨Ao72, co72, eo72⟩ := Kd.R_slice HO_8.out
                 subst eo72
                 have p663 : 0 ≤ (x20_2 : Int) := of_decide_eq_true (by first | (with_reducible assumption) | assumption)
                 have q663 : x20_2 < (t637.length : Int) := of_decide_eq_true (by first | (with_reducible assumption) | assumption)
                 obtain ⟨ad663, e663, hx663_0⟩ := Kd.at_int (Kd.R_reads' HO_8.out).2.2 x20_2 p663 q663
                 cases e663
                 replace p663 := eq_true p663
                 replace q663 := eq_true q663
                 have p664 : 0 ≤ (x20_2 : Int) := of_decide_eq_true (by first | (with_reducible assumption) | assumption)
                 have q664 : x20_2 < (t632.length : Int) := of_decide_eq_true (by first | (with_reducible assumption) | assumption)
                 obtain ⟨ad664, e664, hx664_0⟩ := Kd.at_int (Kd.R_reads' HO_5.out).2.2 x20_2 p664 q664
                 obtain rfl : ad662 = ad664 := (by injection e664)
                 replace p664 := eq_true p664
                 replace q664 := eq_true q664
                 have p665 : 0 ≤ (x20_2 : Int) := of_decide_eq_true (by first | (with_reducible assumption) | assumption)
                 have q665 : x20_2 < (t637.length : Int) := of_decide_eq_true (by first | (with_reducible assumption) | assumption)
                 obtain ⟨ad665, e665, hx665_0⟩ := Kd.at_int (Kd.R_reads' HO_8.out).2.2 x20_2 p665 q665
                 obtain rfl : ad663 = ad665 := (by injection e665)
                 replace p665 := eq_true p665
                 replace q665 := eq_true q665
                 have p666 : 0 ≤ (x20_2 : Int) := of_decide_eq_true (by first | (with_reducible assumption) | assumption)
                 have q666 : x20_2 < (t636.length : Int) := of_decide_eq_true (by first | (with_reducible assumption) | assumption)
                 obtain ⟨ad666, e666, hx666_0⟩ := Kd.at_int (Kd.R_reads' HO_7.out).2.2 x20_2 p666 q666
                 obtain rfl : ad661 = ad666 := (by injection e666)
                 replace p666 := eq_true p666
                 replace q666 := eq_true q666
                 have p667 : 0 ≤ (x20_2 : Int) := of_decide_eq_true (by first | (with_reducible assumption) | assumption)
                 have q667 : x20_2 < (t643.length : Int) := of_decide_eq_true (by first | (with_reducible assumption) | assumption)
                 obtain ⟨ad667, e667, hx667_0⟩ := Kd.at_int (Kd.R_reads' HO_10.out).2.2 x20_2 p667 q667
                 cases e667
                 replace p667 := eq_true p667
                 replace q667 := eq_true q667
                 have p668 : 0 ≤ (x20_2 : Int) := of_decide_eq_true (by first | (with_reducible assumption) | assumption)
                 have q668 : x20_2 < (t636.length : Int) := of_decide_eq_true (by first | (with_reducible assumption) | assumption)
                 obtain ⟨ad668, e668, hx668_0⟩ := Kd.at_int (Kd.R_reads' HO_7.out).2.2 x20_2 p668 q668
                 obtain rfl : ad661 = ad668 := (by injection e668)
                 replace p668 := eq_true p668
                 replace q668 := eq_true q668
                 as_aux_lemma =>
                  go_wp2
                  repeat (go_quiet (fail); try go_wp2)
                  go_ret
                  exact ⟨by first | rfl | (simp [Zal, Zam] <;> rfl) | (simp [*, Zal, Zam] <;> rfl), by repeat (first | (with_reducible first | exact HB.out | apply Zad | apply Zaa | apply Zac) | exact HB.out)⟩
                ·rw [if_neg c70] at H
                 have c70b0 : decide ((rd t643 x20_2) < (rd t636 x20_2)) = false := decide_eq_false c70
                 clear c70
                 by_cases c73 : (rd t643 x20_2) > (rd t637 x20_2)
                 ·rw [if_pos c73] at H
                  have c73b0 : decide ((rd t637 x20_2) < (rd t643 x20_2)) = true := decide_eq_true c73
                  clear c73
                  obtain rfl := Option.some.inj H
                  obtain ⟨Ao74, co74, eo74⟩ := Kd.R_slice HO_7.out
                  subst eo74
                  have p661 : 0 ≤ (x20_2 : Int) := of_decide_eq_true (by first | (with_reducible assumption) | assumption)
                  have q661 : x20_2 < (t636.length : Int) := of_decide_eq_true (by first | (with_reducible assumption) | assumption)
                  obtain ⟨ad661, e661, hx661_0⟩ := Kd.at_int (Kd.R_reads' HO_7.out).2.2 x20_2 p661 q661
                  cases e661
                  replace p661 := eq_true p661
                  replace q661 := eq_true q661
                  have p662 : 0 ≤ (x20_2 : Int) := of_decide_eq_true (by first | (with_reducible assumption) | assumption)
                  have q662 : x20_2 < (t632.length : Int) := of_decide_eq_true (by first | (with_reducible assumption) | assumption)
                  obtain ⟨ad662, e662, hx662_0⟩ := Kd.at_int (Kd.R_reads' HO_5.out).2.2 x20_2 p662 q662
                  cases e662
                  replace p662 := eq_true p662
                  replace q662 := eq_true q662
                  obtain ⟨Ao75, co75, eo75⟩ := Kd.R_slice HO_8.out
                  subst eo75
                  have p663 : 0 ≤ (x20_2 : Int) := of_decide_eq_true (by first | (with_reducible assumption) | assumption)
                  have q663 : x20_2 < (t637.length : Int) := of_decide_eq_true (by first | (with_reducible assumption) | assumption)
                  obtain ⟨ad663, e663, hx663_0⟩ := Kd.at_int (Kd.R_reads' HO_8.out).2.2 x20_2 p663 q663
                  cases e663
                  replace p663 := eq_true p663
                  replace q663 := eq_true q663
                  have p664 : 0 ≤ (x20_2 : Int) := of_decide_eq_true (by first | (with_reducible assumption) | assumption)
                  have q664 : x20_2 < (t632.length : Int) := of_decide_eq_true (by first | (with_reducible assumption) | assumption)
                  obtain ⟨ad664, e664, hx664_0⟩ := Kd.at_int (Kd.R_reads' HO_5.out).2.2 x20_2 p664 q664
                  obtain rfl : ad662 = ad664 := (by injection e664)
                  replace p664 := eq_true p664
                  replace q664 := eq_true q664
                  have p665 : 0 ≤ (x20_2 : Int) := of_decide_eq_true (by first | (with_reducible assumption) | assumption)
                  have q665 : x20_2 < (t637.length : Int) := of_decide_eq_true (by first | (with_reducible assumption) | assumption)
                  obtain ⟨ad665, e665, hx665_0⟩ := Kd.at_int (Kd.R_reads' HO_8.out).2.2 x20_2 p665 q665
                  obtain rfl : ad663 = ad665 := (by injection e665)
                  replace p665 := eq_true p665
                  replace q665 := eq_true q665
                  have p666 : 0 ≤ (x20_2 : Int) := of_decide_eq_true (by first | (with_reducible assumption) | assumption)
                  have q666 : x20_2 < (t636.length : Int) := of_decide_eq_true (by first | (with_reducible assumption) | assumption)
                  obtain ⟨ad666, e666, hx666_0⟩ := Kd.at_int (Kd.R_reads' HO_7.out).2.2 x20_2 p666 q666
                  obtain rfl : ad661 = ad666 := (by injection e666)
                  replace p666 := eq_true p666
                  replace q666 := eq_true q666
                  have p667 : 0 ≤ (x20_2 : Int) := of_decide_eq_true (by first | (with_reducible assumption) | assumption)
                  have q667 : x20_2 < (t643.length : Int) := of_decide_eq_true (by first | (with_reducible assumption) | assumption)
                  obtain ⟨ad667, e667, hx667_0⟩ := Kd.at_int (Kd.R_reads' HO_10.out).2.2 x20_2 p667 q667
                  cases e667
                  replace p667 := eq_true p667
                  replace q667 := eq_true q667
                  have p668 : 0 ≤ (x20_2 : Int) := of_decide_eq_true (by first | (with_reducible assumption) | assumption)
                  have q668 : x20_2 < (t636.length : Int) := of_decide_eq_true (by first | (with_reducible assumption) | assumption)
                  obtain ⟨ad668, e668, hx668_0⟩ := Kd.at_int (Kd.R_reads' HO_7.out).2.2 x20_2 p668 q668
                  obtain rfl : ad661 = ad668 := (by injection e668)
                  replace p668 := eq_true p668
                  replace q668 := eq_true q668
                  have p669 : 0 ≤ (x20_2 : Int) := of_decide_eq_true (by first | (with_reducible assumption) | assumption)
                  have q669 : x20_2 < (t643.length : Int) := of_decide_eq_true (by first | (with_reducible assumption) | assumption)
                  obtain ⟨ad669, e669, hx669_0⟩ := Kd.at_int (Kd.R_reads' HO_10.out).2.2 x20_2 p669 q669
                  obtain rfl : ad667 = ad669 := (by injection e669)
                  replace p669 := eq_true p669
                  replace q669 := eq_true q669
                  have p670 : 0 ≤ (x20_2 : Int) := of_decide_eq_true (by first | (with_reducible assumption) | assumption)
                  have q670 : x20_2 < (t637.length : Int) := of_decide_eq_true (by first | (with_reducible assumption) | assumption)
                  obtain ⟨ad670, e670, hx670_0⟩ := Kd.at_int (Kd.R_reads' HO_8.out).2.2 x20_2 p670 q670
                  obtain rfl : ad663 = ad670 := (by injection e670)
                  replace p670 := eq_true p670
                  replace q670 := eq_true q670
                  as_aux_lemma =>
                   go_wp2
                   repeat (go_quiet (fail); try go_wp2)
                   go_ret
                   exact ⟨by first | rfl | (simp [Zal, Zam] <;> rfl) | (simp [*, Zal, Zam] <;> rfl), by repeat (first | (with_reducible first | exact HB.out | apply Zad | apply Zaa | apply Zac) | exact HB.out)⟩
                 ·rw [if_neg c73] at H
                  have c73b0 : decide ((rd t637 x20_2) < (rd t643 x20_2)) = false := decide_eq_false c73
                  clear c73
                  by_cases c76 : x20_2 < (t647.length : Int)
                  ·rw [if_pos c76] at H
                   have c76b0 : decide (x20_2 < (t647.length : Int)) = true := decide_eq_true c76
                   clear c76
                   by_cases c77 : (rd t647 x20_2) > (rd t637 x20_2)
                   ·rw [if_pos c77] at H
                    have c77b0 : decide ((rd t637 x20_2) < (rd t647 x20_2)) = true := decide_eq_true c77
                    clear c77
                    obtain rfl := Option.some.inj H
                    obtain ⟨Ao78, co78, eo78⟩ := Kd.R_slice HO_7.out
                    subst eo78
                    have p661 : 0 ≤ (x20_2 : Int) := of_decide_eq_true (by first | (with_reducible assumption) | assumption)
                    have q661 : x20_2 < (t636.length : Int) := of_decide_eq_true (by first | (with_reducible assumption) | assumption)
                    obtain ⟨ad661, e661, hx661_0⟩ := Kd.at_int (Kd.R_reads' HO_7.out).2.2 x20_2 p661 q661
                    cases e661
                    replace p661 := eq_true p661
                    replace q661 := eq_true q661
                    have p662 : 0 ≤ (x20_2 : Int) := of_decide_eq_true (by first | (with_reducible assumption) | assumption)
                    have q662 : x20_2 < (t632.length : Int) := of_decide_eq_true (by first | (with_reducible assumption) | assumption)
                    obtain ⟨ad662, e662, hx662_0⟩ := Kd.at_int (Kd.R_reads' HO_5.out).2.2 x20_2 p662 q662
                    cases e662
                    replace p662 := eq_true p662
                    replace q662 := eq_true q662
                    obtain ⟨Ao79, co79, eo79⟩ := Kd.R_slice HO_8.out
                    subst eo79
                    have p663 : 0 ≤ (x20_2 : Int) := of_decide_eq_true (by first | (with_reducible assumption) | assumption)
                    have q663 : x20_2 < (t637.length : Int) := of_decide_eq_true (by first | (with_reducible assumption) | assumption)
                    obtain ⟨ad663, e663, hx663_0⟩ := Kd.at_int (Kd.R_reads' HO_8.out).2.2 x20_2 p663 q663
                    cases e663
                    replace p663 := eq_true p663
                    replace q663 := eq_true q663
                    have p664 : 0 ≤ (x20_2 : Int) := of_decide_eq_true (by first | (with_reducible assumption) | assumption)
                    have q664 : x20_2 < (t632.length : Int) := of_decide_eq_true (by first | (with_reducible assumption) | assumption)
                    obtain ⟨ad664, e664, hx664_0⟩ := Kd.at_int (Kd.R_reads' HO_5.out).2.2 x20_2 p664 q664
                    obtain rfl : ad662 = ad664 := (by injection e664)
                    replace p664 := eq_true p664
                    replace q664 := eq_true q664
                    have p665 : 0 ≤ (x20_2 : Int) := of_decide_eq_true (by first | (with_reducible assumption) | assumption)
                    have q665 : x20_2 < (t637.length : Int) := of_decide_eq_true (by first | (with_reducible assumption) | assumption)
                    obtain ⟨ad665, e665, hx665_0⟩ := Kd.at_int (Kd.R_reads' HO_8.out).2.2 x20_2 p665 q665
                    obtain rfl : ad663 = ad665 := (by injection e665)
                    replace p665 := eq_true p665
                    replace q665 := eq_true q665
                    have p666 : 0 ≤ (x20_2 : Int) := of_decide_eq_true (by first | (with_reducible assumption) | assumption)
                    have q666 : x20_2 < (t636.length : Int) := of_decide_eq_true (by first | (with_reducible assumption) | assumption)
                    obtain ⟨ad666, e666, hx666_0⟩ := Kd.at_int (Kd.R_reads' HO_7.out).2.2 x20_2 p666 q666
                    obtain rfl : ad661 = ad666 := (by injection e666)
                    replace p666 := eq_true p666
                    replace q666 := eq_true q666
                    have p667 : 0 ≤ (x20_2 : Int) := of_decide_eq_true (by first | (with_reducible assumption) | assumption)
                    have q667 : x20_2 < (t643.length : Int) := of_decide_eq_true (by first | (with_reducible assumption) | assumption)
                    obtain ⟨ad667, e667, hx667_0⟩ := Kd.at_int (Kd.R_reads' HO_10.out).2.2 x20_2 p667 q667
                    cases e667
                    replace p667 := eq_true p667
                    replace q667 := eq_true q667
                    have p668 : 0 ≤ (x20_2 : Int) := of_decide_eq_true (by first | (with_reducible assumption) | assumption)
                    have q668 : x20_2 < (t636.length : Int) := of_decide_eq_true (by first | (with_reducible assumption) | assumption)
                    obtain ⟨ad668, e668, hx668_0⟩ := Kd.at_int (Kd.R_reads' HO_7.out).2.2 x20_2 p668 q668
                    obtain rfl : ad661 = ad668 := (by injection e668)
                    replace p668 := eq_true p668
                    replace q668 := eq_true q668
                    have p669 : 0 ≤ (x20_2 : Int) := of_decide_eq_true (by first | (with_reducible assumption) | assumption)
                    have q669 : x20_2 < (t643.length : Int) := of_decide_eq_true (by first | (with_reducible assumption) | assumption)
                    obtain ⟨ad669, e669, hx669_0⟩ := Kd.at_int (Kd.R_reads' HO_10.out).2.2 x20_2 p669 q669
                    obtain rfl : ad667 = ad669 := (by injection e669)
                    replace p669 := eq_true p669
                    replace q669 := eq_true q669
                    have p670 : 0 ≤ (x20_2 : Int) := of_decide_eq_true (by first | (with_reducible assumption) | assumption)
                    have q670 : x20_2 < (t637.length : Int) := of_decide_eq_true (by first | (with_reducible assumption) | assumption)
                    obtain ⟨ad670, e670, hx670_0⟩ := Kd.at_int (Kd.R_reads' HO_8.out).2.2 x20_2 p670 q670
                    obtain rfl : ad663 = ad670 := (by injection e670)
                    replace p670 := eq_true p670
                    replace q670 := eq_true q670
                    obtain ⟨Ao80, co80, eo80⟩ := Kd.R_slice HO_12.out
                    subst eo80
                    have p671 : 0 ≤ (x20_2 : Int) := of_decide_eq_true (by first | (with_reducible assumption) | assumption)
                    have q671 : x20_2 < (t647.length : Int) := of_decide_eq_true (by first | (with_reducible assumption) | assumption)
                    obtain ⟨ad671, e671, hx671_0⟩ := Kd.at_int (Kd.R_reads' HO_12.out).2.2 x20_2 p671 q671
                    cases e671
                    replace p671 := eq_true p671
                    replace q671 := eq_true q671
                    have p672 : 0 ≤ (x20_2 : Int) := of_decide_eq_true (by first | (with_reducible assumption) | assumption)
                    have q672 : x20_2 < (t637.length : Int) := of_decide_eq_true (by first | (with_reducible assumption) | assumption)
                    obtain ⟨ad672, e672, hx672_0⟩ := Kd.at_int (Kd.R_reads' HO_8.out).2.2 x20_2 p672 q672
                    obtain rfl : ad663 = ad672 := (by injection e672)
                    replace p672 := eq_true p672
                    replace q672 := eq_true q672
                    as_aux_lemma =>
                     go_wp2
                     repeat (go_quiet (fail); try go_wp2)
                     go_ret
                     exact ⟨by first | rfl | (simp [Zal, Zam] <;> rfl) | (simp [*, Zal, Zam] <;> rfl), by repeat (first | (with_reducible first | exact HB.out | apply Zad | apply Zaa | apply Zac) | exact HB.out)⟩
                   ·rw [if_neg c77] at H
                    have c77b0 : decide ((rd t637 x20_2) < (rd t647 x20_2)) = false := decide_eq_false c77
                    clear c77
                    by_cases c81 : x20_2 < (t651.length : Int)
                    ·rw [if_pos c81] at H
                     have c81b0 : decide (x20_2 < (t651.length : Int)) = true := decide_eq_true c81
                     clear c81
                     by_cases c82 : (rd t651 x20_2) < (rd t636 x20_2)
                     ·rw [if_pos c82] at H
                      have c82b0 : decide ((rd t651 x20_2) < (rd t636 x20_2)) = true := decide_eq_true c82
                      clear c82
                      obtain rfl := Option.some.inj H
                      obtain ⟨Ao83, co83, eo83⟩ := Kd.R_slice HO_7.out
                      subst eo83
                      have p661 : 0 ≤ (x20_2 : Int) := of_decide_eq_true (by first | (with_reducible assumption) | assumption)
                      have q661 : x20_2 < (t636.length : Int) := of_decide_eq_true (by first | (with_reducible assumption) | assumption)
                      obtain ⟨ad661, e661, hx661_0⟩ := Kd.at_int (Kd.R_reads' HO_7.out).2.2 x20_2 p661 q661
                      cases e661
                      replace p661 := eq_true p661
                      replace q661 := eq_true q661
                      have p662 : 0 ≤ (x20_2 : Int) := of_decide_eq_true (by first | (with_reducible assumption) | assumption)
                      have q662 : x20_2 < (t632.length : Int) := of_decide_eq_true (by first | (with_reducible assumption) | assumption)
                      obtain ⟨ad662, e662, hx662_0⟩ := Kd.at_int (Kd.R_reads' HO_5.out).2.2 x20_2 p662 q662
                      cases e662
                      replace p662 := eq_true p662
                      replace q662 := eq_true q662
                      obtain ⟨Ao84, co84, eo84⟩ := Kd.R_slice HO_8.out
                      subst eo84
                      have p663 : 0 ≤ (x20_2 : Int) := of_decide_eq_true (by first | (with_reducible assumption) | assumption)
                      have q663 : x20_2 < (t637.length : Int) := of_decide_eq_true (by first | (with_reducible assumption) | assumption)
                      obtain ⟨ad663, e663, hx663_0⟩ := Kd.at_int (Kd.R_reads' HO_8.out).2.2 x20_2 p663 q663
                      cases e663
                      replace p663 := eq_true p663
                      replace q663 := eq_true q663
                      have p664 : 0 ≤ (x20_2 : Int) := of_decide_eq_true (by first | (with_reducible assumption) | assumption)
                      have q664 : x20_2 < (t632.length : Int) := of_decide_eq_true (by first | (with_reducible assumption) | assumption)
                      obtain ⟨ad664, e664, hx664_0⟩ := Kd.at_int (Kd.R_reads' HO_5.out).2.2 x20_2 p664 q664
                      obtain rfl : ad662 = ad664 := (by injection e664)
                      replace p664 := eq_true p664
                      replace q664 := eq_true q664
                      have p665 : 0 ≤ (x20_2 : Int) := of_decide_eq_true (by first | (with_reducible assumption) | assumption)
                      have q665 : x20_2 < (t637.length : Int) := of_decide_eq_true (by first | (with_reducible assumption) | assumption)
                      obtain ⟨ad665, e665, hx665_0⟩ := Kd.at_int (Kd.R_reads' HO_8.out).2.2 x20_2 p665 q665
                      obtain rfl : ad663 = ad665 := (by injection e665)
                      replace p665 := eq_true p665
                      replace q665 := eq_true q665
                      have p666 : 0 ≤ (x20_2 : Int) := of_decide_eq_true (by first | (with_reducible assumption) | assumption)
                      have q666 : x20_2 < (t636.length : Int) := of_decide_eq_true (by first | (with_reducible assumption) | assumption)
                      obtain ⟨ad666, e666, hx666_0⟩ := Kd.at_int (Kd.R_reads' HO_7.out).2.2 x20_2 p666 q666
                      obtain rfl : ad661 = ad666 := (by injection e666)
                      replace p666 := eq_true p666
                      replace q666 := eq_true q666
                      have p667 : 0 ≤ (x20_2 : Int) := of_decide_eq_true (by first | (with_reducible assumption) | assumption)
                      have q667 : x20_2 < (t643.length : Int) := of_decide_eq_true (by first | (with_reducible assumption) | assumption)
                      obtain ⟨ad667, e667, hx667_0⟩ := Kd.at_int (Kd.R_reads' HO_10.out).2.2 x20_2 p667 q667
                      cases e667
                      replace p667 := eq_true p667
                      replace q667 := eq_true q667
                      have p668 : 0 ≤ (x20_2 : Int) := of_decide_eq_true (by first | (with_reducible assumption) | assumption)
                      have q668 : x20_2 < (t636.length : Int) := of_decide_eq_true (by first | (with_reducible assumption) | assumption)
                      obtain ⟨ad668, e668, hx668_0⟩ := Kd.at_int (Kd.R_reads' HO_7.out).2.2 x20_2 p668 q668
                      obtain rfl : ad661 = ad668 := (by injection e668)
                      replace p668 := eq_true p668
                      replace q668 := eq_true q668
                      have p669 : 0 ≤ (x20_2 : Int) := of_decide_eq_true (by first | (with_reducible assumption) | assumption)
                      have q669 : x20_2 < (t643.length : Int) := of_decide_eq_true (by first | (with_reducible assumption) | assumption)
                      obtain ⟨ad669, e669, hx669_0⟩ := Kd.at_int (Kd.R_reads' HO_10.out).2.2 x20_2 p669 q669
                      obtain rfl : ad667 = ad669 := (by injection e669)
                      replace p669 := eq_true p669
                      replace q669 := eq_true q669
                      have p670 : 0 ≤ (x20_2 : Int) := of_decide_eq_true (by first | (with_reducible assumption) | assumption)
                      have q670 : x20_2 < (t637.length : Int) := of_decide_eq_true (by first | (with_reducible assumption) | assumption)
                      obtain ⟨ad670, e670, hx670_0⟩ := Kd.at_int (Kd.R_reads' HO_8.out).2.2 x20_2 p670 q670
                      obtain rfl : ad663 = ad670 := (by injection e670)
                      replace p670 := eq_true p670
                      replace q670 := eq_true q670
                      obtain ⟨Ao85, co85, eo85⟩ := Kd.R_slice HO_12.out
                      subst eo85
                      have p671 : 0 ≤ (x20_2 : Int) := of_decide_eq_true (by first | (with_reducible assumption) | assumption)
                      have q671 : x20_2 < (t647.length : Int) := of_decide_eq_true (by first | (with_reducible assumption) | assumption)
                      obtain ⟨ad671, e671, hx671_0⟩ := Kd.at_int (Kd.R_reads' HO_12.out).2.2 x20_2 p671 q671
                      cases e671
                      replace p671 := eq_true p671
                      replace q671 := eq_true q671
                      have p672 : 0 ≤ (x20_2 : Int) := of_decide_eq_true (by first | (with_reducible assumption) | assumption)
                      have q672 : x20_2 < (t637.length : Int) := of_decide_eq_true (by first | (with_reducible assumption) | assumption)
                      obtain ⟨ad672, e672, hx672_0⟩ := Kd.at_int (Kd.R_reads' HO_8.out).2.2 x20_2 p672 q672
                      obtain rfl : ad663 = ad672 := (by injection e672)
                      replace p672 := eq_true p672
                      replace q672 := eq_true q672
                      obtain ⟨Ao86, co86, eo86⟩ := Kd.R_slice HO_14.out
                      subst eo86
                      have p673 : 0 ≤ (x20_2 : Int) := of_decide_eq_true (by first | (with_reducible assumption) | assumption)
                      have q673 : x20_2 < (t651.length : Int) := of_decide_eq_true (by first | (with_reducible assumption) | assumption)
                      obtain ⟨ad673, e673, hx673_0⟩ := Kd.at_int (Kd.R_reads' HO_14.out).2.2 x20_2 p673 q673
                      cases e673
                      replace p673 := eq_true p673
                      replace q673 := eq_true q673
                      have p674 : 0 ≤ (x20_2 : Int) := of_decide_eq_true (by first | (with_reducible assumption) | assumption)
                      have q674 : x20_2 < (t636.length : Int) := of_decide_eq_true (by first | (with_reducible assumption) | assumption)
                      obtain ⟨ad674, e674, hx674_0⟩ := Kd.at_int (Kd.R_reads' HO_7.out).2.2 x20_2 p674 q674
                      obtain rfl : ad661 = ad674 := (by injection e674)
                      replace p674 := eq_true p674
                      replace q674 := eq_true q674
                      as_aux_lemma =>
                       go_wp2
                       repeat (go_quiet (fail); try go_wp2)
                       go_ret
                       exact ⟨by first | rfl | (simp [Zal, Zam] <;> rfl) | (simp [*, Zal, Zam] <;> rfl), by repeat (first | (with_reducible first | exact HB.out | apply Zad | apply Zaa | apply Zac) | exact HB.out)⟩
                     ·rw [if_neg c82] at H
                      have c82b0 : decide ((rd t651 x20_2) < (rd t636 x20_2)) = false := decide_eq_false c82
                      clear c82
                      have H' := Zab.mk H
                      clear H
                      obtain ⟨Ao87, co87, eo87⟩ := Kd.R_slice HO_7.out
                      subst eo87
                      have p661 : 0 ≤ (x20_2 : Int) := of_decide_eq_true (by first | (with_reducible assumption) | assumption)
                      have q661 : x20_2 < (t636.length : Int) := of_decide_eq_true (by first | (with_reducible assumption) | assumption)
                      obtain ⟨ad661, e661, hx661_0⟩ := Kd.at_int (Kd.R_reads' HO_7.out).2.2 x20_2 p661 q661
                      cases e661
                      replace p661 := eq_true p661
                      replace q661 := eq_true q661
                      have p662 : 0 ≤ (x20_2 : Int) := of_decide_eq_true (by first | (with_reducible assumption) | assumption)
                      have q662 : x20_2 < (t632.length : Int) := of_decide_eq_true (by first | (with_reducible assumption) | assumption)
                      obtain ⟨ad662, e662, hx662_0⟩ := Kd.at_int (Kd.R_reads' HO_5.out).2.2 x20_2 p662 q662
                      cases e662
                      replace p662 := eq_true p662
                      replace q662 := eq_true q662
                      obtain ⟨Ao88, co88, eo88⟩ := Kd.R_slice HO_8.out
                      subst eo88
                      have p663 : 0 ≤ (x20_2 : Int) := of_decide_eq_true (by first | (with_reducible assumption) | assumption)
                      have q663 : x20_2 < (t637.length : Int) := of_decide_eq_true (by first | (with_reducible assumption) | assumption)
                      obtain ⟨ad663, e663, hx663_0⟩ := Kd.at_int (Kd.R_reads' HO_8.out).2.2 x20_2 p663 q663
                      cases e663
                      replace p663 := eq_true p663
                      replace q663 := eq_true q663
                      have p664 : 0 ≤ (x20_2 : Int) := of_decide_eq_true (by first | (with_reducible assumption) | assumption)
                      have q664 : x20_2 < (t632.length : Int) := of_decide_eq_true (by first | (with_reducible assumption) | assumption)
                      obtain ⟨ad664, e664, hx664_0⟩ := Kd.at_int (Kd.R_reads' HO_5.out).2.2 x20_2 p664 q664
                      obtain rfl : ad662 = ad664 := (by injection e664)
                      replace p664 := eq_true p664
                      replace q664 := eq_true q664
                      have p665 : 0 ≤ (x20_2 : Int) := of_decide_eq_true (by first | (with_reducible assumption) | assumption)
                      have q665 : x20_2 < (t637.length : Int) := of_decide_eq_true (by first | (with_reducible assumption) | assumption)
                      obtain ⟨ad665, e665, hx665_0⟩ := Kd.at_int (Kd.R_reads' HO_8.out).2.2 x20_2 p665 q665
                      obtain rfl : ad663 = ad665 := (by injection e665)
                      replace p665 := eq_true p665
                      replace q665 := eq_true q665
                      have p666 : 0 ≤ (x20_2 : Int) := of_decide_eq_true (by first | (with_reducible assumption) | assumption)
                      have q666 : x20_2 < (t636.length : Int) := of_decide_eq_true (by first | (with_reducible assumption) | assumption)
                      obtain ⟨ad666, e666, hx666_0⟩ := Kd.at_int (Kd.R_reads' HO_7.out).2.2 x20_2 p666 q666
                      obtain rfl : ad661 = ad666 := (by injection e666)
                      replace p666 := eq_true p666
                      replace q666 := eq_true q666
                      have p667 : 0 ≤ (x20_2 : Int) := of_decide_eq_true (by first | (with_reducible assumption) | assumption)
                      have q667 : x20_2 < (t643.length : Int) := of_decide_eq_true (by first | (with_reducible assumption) | assumption)
                      obtain ⟨ad667, e667, hx667_0⟩ := Kd.at_int (Kd.R_reads' HO_10.out).2.2 x20_2 p667 q667
                      cases e667
                      replace p667 := eq_true p667
                      replace q667 := eq_true q667
                      have p668 : 0 ≤ (x20_2 : Int) := of_decide_eq_true (by first | (with_reducible assumption) | assumption)
                      have q668 : x20_2 < (t636.length : Int) := of_decide_eq_true (by first | (with_reducible assumption) | assumption)
                      obtain ⟨ad668, e668, hx668_0⟩ := Kd.at_int (Kd.R_reads' HO_7.out).2.2 x20_2 p668 q668
                      obtain rfl : ad661 = ad668 := (by injection e668)
                      replace p668 := eq_true p668
                      replace q668 := eq_true q668
                      have p669 : 0 ≤ (x20_2 : Int) := of_decide_eq_true (by first | (with_reducible assumption) | assumption)
                      have q669 : x20_2 < (t643.length : Int) := of_decide_eq_true (by first | (with_reducible assumption) | assumption)
                      obtain ⟨ad669, e669, hx669_0⟩ := Kd.at_int (Kd.R_reads' HO_10.out).2.2 x20_2 p669 q669
                      obtain rfl : ad667 = ad669 := (by injection e669)
                      replace p669 := eq_true p669
                      replace q669 := eq_true q669
                      have p670 : 0 ≤ (x20_2 : Int) := of_decide_eq_true (by first | (with_reducible assumption) | assumption)
                      have q670 : x20_2 < (t637.length : Int) := of_decide_eq_true (by first | (with_reducible assumption) | assumption)
                      obtain ⟨ad670, e670, hx670_0⟩ := Kd.at_int (Kd.R_reads' HO_8.out).2.2 x20_2 p670 q670
                      obtain rfl : ad663 = ad670 := (by injection e670)
                      replace p670 := eq_true p670
                      replace q670 := eq_true q670
                      obtain ⟨Ao89, co89, eo89⟩ := Kd.R_slice HO_12.out
                      subst eo89
                      have p671 : 0 ≤ (x20_2 : Int) := of_decide_eq_true (by first | (with_reducible assumption) | assumption)
                      have q671 : x20_2 < (t647.length : Int) := of_decide_eq_true (by first | (with_reducible assumption) | assumption)
                      obtain ⟨ad671, e671, hx671_0⟩ := Kd.at_int (Kd.R_reads' HO_12.out).2.2 x20_2 p671 q671
                      cases e671
                      replace p671 := eq_true p671
                      replace q671 := eq_true q671
                      have p672 : 0 ≤ (x20_2 : Int) := of_decide_eq_true (by first | (with_reducible assumption) | assumption)
                      have q672 : x20_2 < (t637.length : Int) := of_decide_eq_true (by first | (with_reducible assumption) | assumption)
                      obtain ⟨ad672, e672, hx672_0⟩ := Kd.at_int (Kd.R_reads' HO_8.out).2.2 x20_2 p672 q672
                      obtain rfl : ad663 = ad672 := (by injection e672)
                      replace p672 := eq_true p672
                      replace q672 := eq_true q672
                      obtain ⟨Ao90, co90, eo90⟩ := Kd.R_slice HO_14.out
                      subst eo90
                      have p673 : 0 ≤ (x20_2 : Int) := of_decide_eq_true (by first | (with_reducible assumption) | assumption)
                      have q673 : x20_2 < (t651.length : Int) := of_decide_eq_true (by first | (with_reducible assumption) | assumption)
                      obtain ⟨ad673, e673, hx673_0⟩ := Kd.at_int (Kd.R_reads' HO_14.out).2.2 x20_2 p673 q673
                      cases e673
                      replace p673 := eq_true p673
                      replace q673 := eq_true q673
                      have p674 : 0 ≤ (x20_2 : Int) := of_decide_eq_true (by first | (with_reducible assumption) | assumption)
                      have q674 : x20_2 < (t636.length : Int) := of_decide_eq_true (by first | (with_reducible assumption) | assumption)
                      obtain ⟨ad674, e674, hx674_0⟩ := Kd.at_int (Kd.R_reads' HO_7.out).2.2 x20_2 p674 q674
                      obtain rfl : ad661 = ad674 := (by injection e674)
                      replace p674 := eq_true p674
                      replace q674 := eq_true q674
                      as_aux_lemma =>
                       go_wp2
                       repeat (go_quiet (fail); try go_wp2)
                       go_roundg k2
                       case measure => have := HJ11.out; have := HK2.out; omega
                       case rel => exact ⟨(wrap64 (x20_2 + 1)), (by first | rfl | (simp; done) | (simp [*]; done) | (simp [IntWalk.i64_left, *]; done)), H', ⟨by have := HJ11.out; have := HK2.out; omega⟩, ⟨by (with_reducible repeat (first | apply Kd.R_alloc | apply Kd.R_drewN | apply Kd.R_drew)); exact HO_5.out⟩, ⟨by (with_reducible repeat (first | apply Kd.R_alloc | apply Kd.R_drewN | apply Kd.R_drew)); exact HO_7.out⟩, ⟨by (with_reducible repeat (first | apply Kd.R_alloc | apply Kd.R_drewN | apply Kd.R_drew)); exact HO_8.out⟩, ⟨by (with_reducible repeat (first | apply Kd.R_alloc | apply Kd.R_drewN | apply Kd.R_drew)); exact HO_10.out⟩, ⟨by (with_reducible repeat (first | apply Kd.R_alloc | apply Kd.R_drewN | apply Kd.R_drew)); exact HO_12.out⟩, ⟨by (with_reducible repeat (first | apply Kd.R_alloc | apply Kd.R_drewN | apply Kd.R_drew)); exact HO_14.out⟩, ⟨by repeat (first | (with_reducible first | exact HB.out | apply Zad | apply Zaa | apply Zac) | exact HB.out)⟩⟩
                    ·rw [if_neg c81] at H
                     exact absurd H (by simp)
                  ·rw [if_neg c76] at H
                   exact absurd H (by simp)
               ·rw [if_neg c69] at H
                exact absurd H (by simp)
            ·rw [if_neg c62] at H
             exact absurd H (by simp)
          ·rw [if_neg c59] at H
           exact absurd H (by simp)
         ·rw [if_neg c58] at H
          exact absurd H (by simp)
        ·rw [if_neg c57] at H
         exact absurd H (by simp)
       ·rw [if_neg c56] at H
        have c56b0 : decide (x20_2 < (t632.length : Int)) = false := decide_eq_false c56
        clear c56
        obtain rfl := Option.some.inj H
        as_aux_lemma =>
         go_wp2
         repeat (go_quiet (fail); try go_wp2)
         go_ret
         exact ⟨by first | rfl | (simp [Zal, Zam] <;> rfl) | (simp [*, Zal, Zam] <;> rfl), by repeat (first | (with_reducible first | exact HB.out | apply Zad | apply Zaa | apply Zac) | exact HB.out)⟩
def laws_FnQuotas.Pure : Prop := ∀ (l0 : List Int) (l1 : List Int), l0.length ≤ maxLen → l0.length * 1 ≤ 140737488351232 → (∀ x ∈ l0, (Lit.int .u8 x).wf = true) → l1.length ≤ maxLen → l1.length * 1 ≤ 140737488351232 → (∀ x ∈ l1, (Lit.int .u8 x).wf = true) → ∃ k, laws_FnQuotas.f k l0 l1 = some true
theorem laws_FnQuotas.walk (P : laws_FnQuotas.Pure) (A0 : Option Addr) (len0 cap0 : Nat) (z0 : List Int) (A1 : Option Addr) (len1 cap1 : Nat) (z1 : List Int) (w : World) (w0 : (A0 = none ∧ len0 = 0 ∧ cap0 = 0 ∧ z0 = []) ∨ ∃ x, A0 = some x ∧ len0 ≤ cap0 ∧ cap0 ≤ maxLen ∧ z0.length = cap0 ∧ (∀ i, i < z0.length → w.cell? (x.add i) = some (.int .u8 (z0.getD i 0))) ∧ ∀ n ∈ z0, (Lit.int .u8 n).wf = true) (y0 : len0 * 1 ≤ 140737488351232) (w1 : (A1 = none ∧ len1 = 0 ∧ cap1 = 0 ∧ z1 = []) ∨ ∃ x, A1 = some x ∧ len1 ≤ cap1 ∧ cap1 ≤ maxLen ∧ z1.length = cap1 ∧ (∀ i, i < z1.length → w.cell? (x.add i) = some (.int .u8 (z1.getD i 0))) ∧ ∀ n ∈ z1, (Lit.int .u8 n).wf = true) (y1 : len1 * 1 ≤ 140737488351232) :
  Calls Try.prog 11 #[.slice A0 len0 cap0, .slice A1 len1 cap1] w fun e w' => e = .returned (.bool true) ∧ Below w.heap.size w w' := by
 obtain ⟨l0, rfl, hr0, hm0, hw0, hc0⟩ := ReadsInt.ofRowC w0
 obtain ⟨l1, rfl, hr1, hm1, hw1, hc1⟩ := ReadsInt.ofRowC w1
 obtain ⟨k, h⟩ := P l0 l1 hm0 y0 hw0 hm1 y1 hw1
 refine (laws_FnQuotas.calls k _ _ l0 _ _ l1 true w (Kd.C_of_reads (d := (0 : Int)) (h1 := fun _ => rfl) hr0) hc0 (Kd.C_of_reads (d := (0 : Int)) (h1 := fun _ => rfl) hr1) hc1 h).mono ?_
 rintro e w' ⟨rfl, hd⟩
 exact ⟨rfl, hd⟩
end Go.Proofs.Ytebofadnefkacaa.P
