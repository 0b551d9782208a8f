import Derived.Test.YtijpgenadhhkcaaGreatDoorXP0FnValues
import Derived.Test.YtijpgenadhhkcaaGreatDoorXP1FnValues
import Derived.Test.YtijpgenadhhkcaaGreatDoorXP2FnValues
import Derived.Test.YtijpgenadhhkcaaGreatDoorXP3FnValues
import Derived.Test.YtijpgenadhhkcaaGreatDoorXP4FnValues
import Derived.Test.YtijpgenadhhkcaaGreatDoorXP5FnValues
import Derived.Test.YtijpgenadhhkcaaGreatDoorXP6FnValues
import Derived.Test.YtijpgenadhhkcaaGreatDoorXP7FnValues
import Derived.Test.YtijpgenadhhkcaaGreatDoorXP8FnValues
namespace Go.Proofs.YtijpgenadhhkcaaGreatDoor.P
open Go.RowKit Go.Proofs.YtijpgenadhhkcaaGreatDoorW.PrintWords Go.Proofs.YtijpgenadhhkcaaGreatDoorW.PrintLast Go.Proofs.YtijpgenadhhkcaaGreatDoorW.PrintMore
attribute [local go_sem] max2_int min2_int max_two min_two max_three min_three max_four min_four
set_option linter.unusedVariables false
set_option linter.unusedSimpArgs false
mutual
def laws_FnValues.j0 : Nat → List Int → List Int → Int → List Int → List Int → Bool → Int → List Int → Option (Bool)
 | 0, _, _, _, _, _, _, _, _ => none
 | k + 1, x6, x7, x9, x15, x17, x125, x310000, x310001 => if x125 = true then (some false) else (laws_FnValues.l0 k x6 x7 x9 x15 x17 0 x310000 x310001)
def laws_FnValues.l0 : Nat → List Int → List Int → Int → List Int → List Int → Int → Int → List Int → Option (Bool)
 | 0, _, _, _, _, _, _, _, _ => none
 | k + 1, x6, x7, x9, x15, x17, x21, x310000, x310001 => if x21 < (x7.length : Int) then (if 0 ≤ x21 then ((laws_b10Abs.f (rd x7 x21)).bind fun t343 => (if t343 ≥ x310000 then (some false) else (if x21 < (x6.length : Int) then (if x21 < (x15.length : Int) then (if (rd x6 x21) < (rd x15 x21) then (some false) else (if x21 < (x17.length : Int) then (if (rd x6 x21) > (rd x17 x21) then (some false) else (laws_FnValues.l0 k x6 x7 x9 x15 x17 (wrap64 (x21 + 1)) x310000 x310001)) else (none))) else (none)) else (none)))) else (none)) else ((laws_b10Sum.f k x7).bind fun t348 => ((laws_b10Sum.f k x6).bind fun t349 => (if t348 = (wrap64 ((wrap64 (x310000 * t349)) - x9)) then ((laws_b10Sum.f k x310001).bind fun t350 => (some (x9 == t350))) else (some false))))
end
def laws_FnValues.f (k : Nat) (l0 : List Int) (l1 : List Int) : Option (Bool) := (laws_b10Long.f l0 l1).bind fun t304 => (if t304 = true then (some true) else ((spec_B10Values.f k l0).bind fun bt305 => ((Zay.f k l1 bt305.1 bt305.2).bind fun t310 => ((impl_ErrorsOf.f k bt305.1 bt305.2 t310).bind fun bt313 => ((impl_SumOf.f k bt305.1 bt305.2).bind fun bt317 => ((impl_ValuesText.f k bt305.1 bt305.2).bind fun bt319 => ((impl_ReadValues.f k bt319.1).bind fun bt321 => ((impl_FloorsOf.f k bt305.1 bt305.2).bind fun bt327 => ((impl_CeilingsOf.f k bt305.1 bt305.2).bind fun bt331 => ((impl_NearestOf.f k bt305.1 bt305.2).bind fun bt335 => (if bt313.2 = true then (if bt317.2 = true then (if bt319.2 = true then (if bt321.2.2 = true then (if bt327.2 = true then (if bt331.2 = true then (if bt335.2 = true then ((Zal.f k bt305.1 bt305.2 t310).bind fun t339 => (if t339 = true then ((Zal.f k bt305.1 bt305.2 bt335.1).bind fun t340 => (if t340 = true then (if (bt313.1.length : Int) = (t310.length : Int) then (if bt321.1 = bt305.1 then ((Za0.f k bt321.2.1 bt305.2).bind fun t341 => (laws_FnValues.j0 k t310 bt313.1 bt317.1 bt327.1 bt331.1 (!t341) bt305.1 bt305.2)) else (laws_FnValues.j0 k t310 bt313.1 bt317.1 bt327.1 bt331.1 true bt305.1 bt305.2)) else (laws_FnValues.j0 k t310 bt313.1 bt317.1 bt327.1 bt331.1 true bt305.1 bt305.2)) else (laws_FnValues.j0 k t310 bt313.1 bt317.1 bt327.1 bt331.1 true bt305.1 bt305.2))) else (laws_FnValues.j0 k t310 bt313.1 bt317.1 bt327.1 bt331.1 true bt305.1 bt305.2))) else (laws_FnValues.j0 k t310 bt313.1 bt317.1 bt327.1 bt331.1 true bt305.1 bt305.2)) else (laws_FnValues.j0 k t310 bt313.1 bt317.1 bt327.1 bt331.1 true bt305.1 bt305.2)) else (laws_FnValues.j0 k t310 bt313.1 bt317.1 bt327.1 bt331.1 true bt305.1 bt305.2)) else (laws_FnValues.j0 k t310 bt313.1 bt317.1 bt327.1 bt331.1 true bt305.1 bt305.2)) else (laws_FnValues.j0 k t310 bt313.1 bt317.1 bt327.1 bt331.1 true bt305.1 bt305.2)) else (laws_FnValues.j0 k t310 bt313.1 bt317.1 bt327.1 bt331.1 true bt305.1 bt305.2)) else (laws_FnValues.j0 k t310 bt313.1 bt317.1 bt327.1 bt331.1 true bt305.1 bt305.2))))))))))))
def laws_FnValues.T17 : Bool × List (List Nat × List Nat) := (true, [([], []), ([], []), ([0, 1], [0, 1]), ([2], [2]), ([3], [3]), ([], []), ([5], [5]), ([4, 6], [4, 6]), ([7, 4], [7]), ([8], [8]), ([8], [8]), ([9, 10, 8], [8, 9, 10]), ([11, 8], [8, 11]), ([8], [8]), ([8], [8]), ([13, 14, 8], [8, 13, 14]), ([15, 8], [8, 15]), ([12, 16, 8], [8, 12, 16]), ([8, 17], [8, 17]), ([18, 8], [18]), ([19], [19]), ([19], [19]), ([20, 21, 19], [19, 20, 21]), ([22, 19], [19, 22]), ([19], [19]), ([19], [19]), ([24, 25, 19], [19, 24, 25]), ([26, 19], [19, 26]), ([23, 27, 19], [19, 23, 27]), ([19, 28], [19, 28])])
def laws_FnValues.B17 : List Nat := [0, 0, 3, 7, 15, 0, 32, 127, 255, 511, 511, 2047, 4095, 511, 511, 25087, 57855, 131071, 262143, 524287, 1048575, 1048575, 4194303, 8388607, 1048575, 1048575, 51380223, 118489087, 268435455, 536870911]
theorem laws_FnValues.tab17 : rtab .any (opsOf Tryz.f3 17) = laws_FnValues.T17 := by kernel_rfl
theorem laws_FnValues.bits17 : waitsOk laws_FnValues.T17.2 laws_FnValues.B17 = true := by kernel_rfl
def laws_FnValues.T19 : Bool × List (List Nat × List Nat) := (true, [([], []), ([0], [0]), ([], []), ([2], [2]), ([], []), ([4, 1], [4]), ([3, 5], [3, 5]), ([], []), ([6, 7], [6, 7]), ([1, 8], [1, 8]), ([9, 5], [9]), ([10], [10]), ([10], [10]), ([12, 10], [10, 12]), ([13, 10, 10], [10, 13]), ([11, 14, 10], [10, 11, 14]), ([10, 15], [10, 15]), ([16, 14, 0, 1, 2, 3, 4, 5, 6, 7, 8, 9, 10, 11, 12, 13, 14, 15, 16], [16])])
def laws_FnValues.B19 : List Nat := [0, 1, 0, 4, 0, 19, 63, 0, 255, 511, 1023, 2047, 2047, 6143, 14335, 32767, 65535, 131071]
theorem laws_FnValues.tab19 : rtab .any (opsOf Tryz.f3 19) = laws_FnValues.T19 := by kernel_rfl
theorem laws_FnValues.bits19 : waitsOk laws_FnValues.T19.2 laws_FnValues.B19 = true := by kernel_rfl
set_option maxHeartbeats 8000000 in
set_option maxRecDepth 100000 in
theorem laws_FnValues.calls (k : Nat) (A0 : Option Addr) (c0 : Nat) (l0 : List Int) (A1 : Option Addr) (c1 : Nat) (l1 : List Int) (r : Bool) (w : World) (hr0 : Kd.C (Kd.int .u8) w A0 l0.length l0) (hc0 : l0.length ≤ c0) (hr1 : Kd.C (Kd.int .u8) w A1 l1.length l1) (hc1 : l1.length ≤ c1) (hT : Pow10 w) (h : laws_FnValues.f k l0 l1 = some r) :
  Calls Tryz.prog 3 #[.slice A0 l0.length c0, .slice A1 l1.length c1] w fun e w' => e = .returned (.bool r) ∧ Below w.heap.size w w' := by
 have hu26 := Tryz.underlying26
 have HR0 := Zad.mk hr0
 have HC0 := Zad.mk hc0
 clear hr0 hc0
 have HR1 := Zad.mk hr1
 have HC1 := Zad.mk hc1
 clear hr1 hc1
 have HB := Zad.mk (Below.refl w.heap.size w)
 have HT := Zad.mk hT
 clear hT
 have H : ((laws_b10Long.f l0 l1).bind fun t304 => (if t304 = true then (some true) else ((spec_B10Values.f k l0).bind fun bt305 => ((Zay.f k l1 bt305.1 bt305.2).bind fun t310 => ((impl_ErrorsOf.f k bt305.1 bt305.2 t310).bind fun bt313 => ((impl_SumOf.f k bt305.1 bt305.2).bind fun bt317 => ((impl_ValuesText.f k bt305.1 bt305.2).bind fun bt319 => ((impl_ReadValues.f k bt319.1).bind fun bt321 => ((impl_FloorsOf.f k bt305.1 bt305.2).bind fun bt327 => ((impl_CeilingsOf.f k bt305.1 bt305.2).bind fun bt331 => ((impl_NearestOf.f k bt305.1 bt305.2).bind fun bt335 => (if bt313.2 = true then (if bt317.2 = true then (if bt319.2 = true then (if bt321.2.2 = true then (if bt327.2 = true then (if bt331.2 = true then (if bt335.2 = true then ((Zal.f k bt305.1 bt305.2 t310).bind fun t339 => (if t339 = true then ((Zal.f k bt305.1 bt305.2 bt335.1).bind fun t340 => (if t340 = true then (if (bt313.1.length : Int) = (t310.length : Int) then (if bt321.1 = bt305.1 then ((Za0.f k bt321.2.1 bt305.2).bind fun t341 => (laws_FnValues.j0 k t310 bt313.1 bt317.1 bt327.1 bt331.1 (!t341) bt305.1 bt305.2)) else (laws_FnValues.j0 k t310 bt313.1 bt317.1 bt327.1 bt331.1 true bt305.1 bt305.2)) else (laws_FnValues.j0 k t310 bt313.1 bt317.1 bt327.1 bt331.1 true bt305.1 bt305.2)) else (laws_FnValues.j0 k t310 bt313.1 bt317.1 bt327.1 bt331.1 true bt305.1 bt305.2))) else (laws_FnValues.j0 k t310 bt313.1 bt317.1 bt327.1 bt331.1 true bt305.1 bt305.2))) else (laws_FnValues.j0 k t310 bt313.1 bt317.1 bt327.1 bt331.1 true bt305.1 bt305.2)) else (laws_FnValues.j0 k t310 bt313.1 bt317.1 bt327.1 bt331.1 true bt305.1 bt305.2)) else (laws_FnValues.j0 k t310 bt313.1 bt317.1 bt327.1 bt331.1 true bt305.1 bt305.2)) else (laws_FnValues.j0 k t310 bt313.1 bt317.1 bt327.1 bt331.1 true bt305.1 bt305.2)) else (laws_FnValues.j0 k t310 bt313.1 bt317.1 bt327.1 bt331.1 true bt305.1 bt305.2)) else (laws_FnValues.j0 k t310 bt313.1 bt317.1 bt327.1 bt331.1 true bt305.1 bt305.2)) else (laws_FnValues.j0 k t310 bt313.1 bt317.1 bt327.1 bt331.1 true bt305.1 bt305.2))))))))))))) = some r := h
 clear h
 replace H := Option.bind_eq_some_iff.mp H
 obtain ⟨t304, A30, H⟩ := H
 replace H : (if t304 = true then (some true) else ((spec_B10Values.f k l0).bind fun bt305 => ((Zay.f k l1 bt305.1 bt305.2).bind fun t310 => ((impl_ErrorsOf.f k bt305.1 bt305.2 t310).bind fun bt313 => ((impl_SumOf.f k bt305.1 bt305.2).bind fun bt317 => ((impl_ValuesText.f k bt305.1 bt305.2).bind fun bt319 => ((impl_ReadValues.f k bt319.1).bind fun bt321 => ((impl_FloorsOf.f k bt305.1 bt305.2).bind fun bt327 => ((impl_CeilingsOf.f k bt305.1 bt305.2).bind fun bt331 => ((impl_NearestOf.f k bt305.1 bt305.2).bind fun bt335 => (if bt313.2 = true then (if bt317.2 = true then (if bt319.2 = true then (if bt321.2.2 = true then (if bt327.2 = true then (if bt331.2 = true then (if bt335.2 = true then ((Zal.f k bt305.1 bt305.2 t310).bind fun t339 => (if t339 = true then ((Zal.f k bt305.1 bt305.2 bt335.1).bind fun t340 => (if t340 = true then (if (bt313.1.length : Int) = (t310.length : Int) then (if bt321.1 = bt305.1 then ((Za0.f k bt321.2.1 bt305.2).bind fun t341 => (laws_FnValues.j0 k t310 bt313.1 bt317.1 bt327.1 bt331.1 (!t341) bt305.1 bt305.2)) else (laws_FnValues.j0 k t310 bt313.1 bt317.1 bt327.1 bt331.1 true bt305.1 bt305.2)) else (laws_FnValues.j0 k t310 bt313.1 bt317.1 bt327.1 bt331.1 true bt305.1 bt305.2)) else (laws_FnValues.j0 k t310 bt313.1 bt317.1 bt327.1 bt331.1 true bt305.1 bt305.2))) else (laws_FnValues.j0 k t310 bt313.1 bt317.1 bt327.1 bt331.1 true bt305.1 bt305.2))) else (laws_FnValues.j0 k t310 bt313.1 bt317.1 bt327.1 bt331.1 true bt305.1 bt305.2)) else (laws_FnValues.j0 k t310 bt313.1 bt317.1 bt327.1 bt331.1 true bt305.1 bt305.2)) else (laws_FnValues.j0 k t310 bt313.1 bt317.1 bt327.1 bt331.1 true bt305.1 bt305.2)) else (laws_FnValues.j0 k t310 bt313.1 bt317.1 bt327.1 bt331.1 true bt305.1 bt305.2)) else (laws_FnValues.j0 k t310 bt313.1 bt317.1 bt327.1 bt331.1 true bt305.1 bt305.2)) else (laws_FnValues.j0 k t310 bt313.1 bt317.1 bt327.1 bt331.1 true bt305.1 bt305.2)) else (laws_FnValues.j0 k t310 bt313.1 bt317.1 bt327.1 bt331.1 true bt305.1 bt305.2)))))))))))) = some r := H
 have A3 := Zad.mk A30
 clear A30
 by_cases c4 : t304 = true
 ·subst c4
  have H1 : (some true) = some r := by rw [if_pos rfl] at H; exact H
  clear H
  have H := H1
  clear H1
  obtain rfl := Option.some.inj H
  as_aux_lemma =>
   go_enter Tryz.func3, Tryz.ntmps3
   go_wp2_with (first | ((with_reducible refine Zar (f := 4) rfl ?_); refine goesL_ (some 24) rfl rfl Tryz.func4 (by kernel_rfl) rfl #[.slice A0 l0.length c0, .slice A1 l1.length c1] rfl (by (try simp only [List.map_toArray, List.map_cons, List.map_nil]); first | done | rfl | (simp only [List.length_drop, List.length_take]; rfl)) ?_; (with_reducible refine (laws_b10Long.calls _ _ l0 _ _ l1 true _ ?side1 ?side2 ?side3 ?side4 A3.out).mono ?_); (case side1 => repeat (first | exact HR0.out | (with_reducible refine Kd.C_alloc ?_ _) | (with_reducible refine Kd.C_drewN ?_ _) | (with_reducible refine Kd.C_drew ?_))); (case side2 => exact HC0.out); (case side3 => repeat (first | exact HR1.out | (with_reducible refine Kd.C_alloc ?_ _) | (with_reducible refine Kd.C_drewN ?_ _) | (with_reducible refine Kd.C_drew ?_))); (case side4 => exact HC1.out); rintro e w' ⟨rfl, ⟨nd, rfl⟩⟩; refine ⟨_, rfl, ?_⟩))
   go_ret
   exact ⟨by first | rfl | (simp [Zao, Zan] <;> rfl) | (simp [*, Zao, Zan] <;> rfl), by repeat (first | (with_reducible first | exact HB.out | apply Zac | apply Zaa | apply Zab) | exact HB.out)⟩
 ·replace c4 := Bool.eq_false_iff.mpr c4
  subst c4
  have H1 : ((spec_B10Values.f k l0).bind fun bt305 => ((Zay.f k l1 bt305.1 bt305.2).bind fun t310 => ((impl_ErrorsOf.f k bt305.1 bt305.2 t310).bind fun bt313 => ((impl_SumOf.f k bt305.1 bt305.2).bind fun bt317 => ((impl_ValuesText.f k bt305.1 bt305.2).bind fun bt319 => ((impl_ReadValues.f k bt319.1).bind fun bt321 => ((impl_FloorsOf.f k bt305.1 bt305.2).bind fun bt327 => ((impl_CeilingsOf.f k bt305.1 bt305.2).bind fun bt331 => ((impl_NearestOf.f k bt305.1 bt305.2).bind fun bt335 => (if bt313.2 = true then (if bt317.2 = true then (if bt319.2 = true then (if bt321.2.2 = true then (if bt327.2 = true then (if bt331.2 = true then (if bt335.2 = true then ((Zal.f k bt305.1 bt305.2 t310).bind fun t339 => (if t339 = true then ((Zal.f k bt305.1 bt305.2 bt335.1).bind fun t340 => (if t340 = true then (if (bt313.1.length : Int) = (t310.length : Int) then (if bt321.1 = bt305.1 then ((Za0.f k bt321.2.1 bt305.2).bind fun t341 => (laws_FnValues.j0 k t310 bt313.1 bt317.1 bt327.1 bt331.1 (!t341) bt305.1 bt305.2)) else (laws_FnValues.j0 k t310 bt313.1 bt317.1 bt327.1 bt331.1 true bt305.1 bt305.2)) else (laws_FnValues.j0 k t310 bt313.1 bt317.1 bt327.1 bt331.1 true bt305.1 bt305.2)) else (laws_FnValues.j0 k t310 bt313.1 bt317.1 bt327.1 bt331.1 true bt305.1 bt305.2))) else (laws_FnValues.j0 k t310 bt313.1 bt317.1 bt327.1 bt331.1 true bt305.1 bt305.2))) else (laws_FnValues.j0 k t310 bt313.1 bt317.1 bt327.1 bt331.1 true bt305.1 bt305.2)) else (laws_FnValues.j0 k t310 bt313.1 bt317.1 bt327.1 bt331.1 true bt305.1 bt305.2)) else (laws_FnValues.j0 k t310 bt313.1 bt317.1 bt327.1 bt331.1 true bt305.1 bt305.2)) else (laws_FnValues.j0 k t310 bt313.1 bt317.1 bt327.1 bt331.1 true bt305.1 bt305.2)) else (laws_FnValues.j0 k t310 bt313.1 bt317.1 bt327.1 bt331.1 true bt305.1 bt305.2)) else (laws_FnValues.j0 k t310 bt313.1 bt317.1 bt327.1 bt331.1 true bt305.1 bt305.2)) else (laws_FnValues.j0 k t310 bt313.1 bt317.1 bt327.1 bt331.1 true bt305.1 bt305.2))))))))))) = some r := by rw [if_neg (show ¬ (false = true) by decide)] at H; exact H
  clear H
  have H := H1
  clear H1
  replace H := Option.bind_eq_some_iff.mp H
  obtain ⟨⟨t305, t306⟩, A50, H⟩ := H
  replace H : ((Zay.f k l1 t305 t306).bind fun t310 => ((impl_ErrorsOf.f k t305 t306 t310).bind fun bt313 => ((impl_SumOf.f k t305 t306).bind fun bt317 => ((impl_ValuesText.f k t305 t306).bind fun bt319 => ((impl_ReadValues.f k bt319.1).bind fun bt321 => ((impl_FloorsOf.f k t305 t306).bind fun bt327 => ((impl_CeilingsOf.f k t305 t306).bind fun bt331 => ((impl_NearestOf.f k t305 t306).bind fun bt335 => (if bt313.2 = true then (if bt317.2 = true then (if bt319.2 = true then (if bt321.2.2 = true then (if bt327.2 = true then (if bt331.2 = true then (if bt335.2 = true then ((Zal.f k t305 t306 t310).bind fun t339 => (if t339 = true then ((Zal.f k t305 t306 bt335.1).bind fun t340 => (if t340 = true then (if (bt313.1.length : Int) = (t310.length : Int) then (if bt321.1 = t305 then ((Za0.f k bt321.2.1 t306).bind fun t341 => (laws_FnValues.j0 k t310 bt313.1 bt317.1 bt327.1 bt331.1 (!t341) t305 t306)) else (laws_FnValues.j0 k t310 bt313.1 bt317.1 bt327.1 bt331.1 true t305 t306)) else (laws_FnValues.j0 k t310 bt313.1 bt317.1 bt327.1 bt331.1 true t305 t306)) else (laws_FnValues.j0 k t310 bt313.1 bt317.1 bt327.1 bt331.1 true t305 t306))) else (laws_FnValues.j0 k t310 bt313.1 bt317.1 bt327.1 bt331.1 true t305 t306))) else (laws_FnValues.j0 k t310 bt313.1 bt317.1 bt327.1 bt331.1 true t305 t306)) else (laws_FnValues.j0 k t310 bt313.1 bt317.1 bt327.1 bt331.1 true t305 t306)) else (laws_FnValues.j0 k t310 bt313.1 bt317.1 bt327.1 bt331.1 true t305 t306)) else (laws_FnValues.j0 k t310 bt313.1 bt317.1 bt327.1 bt331.1 true t305 t306)) else (laws_FnValues.j0 k t310 bt313.1 bt317.1 bt327.1 bt331.1 true t305 t306)) else (laws_FnValues.j0 k t310 bt313.1 bt317.1 bt327.1 bt331.1 true t305 t306)) else (laws_FnValues.j0 k t310 bt313.1 bt317.1 bt327.1 bt331.1 true t305 t306)))))))))) = some r := H
  have A5 := Zad.mk A50
  clear A50
  replace H := Option.bind_eq_some_iff.mp H
  obtain ⟨t310, A60, H⟩ := H
  replace H : ((impl_ErrorsOf.f k t305 t306 t310).bind fun bt313 => ((impl_SumOf.f k t305 t306).bind fun bt317 => ((impl_ValuesText.f k t305 t306).bind fun bt319 => ((impl_ReadValues.f k bt319.1).bind fun bt321 => ((impl_FloorsOf.f k t305 t306).bind fun bt327 => ((impl_CeilingsOf.f k t305 t306).bind fun bt331 => ((impl_NearestOf.f k t305 t306).bind fun bt335 => (if bt313.2 = true then (if bt317.2 = true then (if bt319.2 = true then (if bt321.2.2 = true then (if bt327.2 = true then (if bt331.2 = true then (if bt335.2 = true then ((Zal.f k t305 t306 t310).bind fun t339 => (if t339 = true then ((Zal.f k t305 t306 bt335.1).bind fun t340 => (if t340 = true then (if (bt313.1.length : Int) = (t310.length : Int) then (if bt321.1 = t305 then ((Za0.f k bt321.2.1 t306).bind fun t341 => (laws_FnValues.j0 k t310 bt313.1 bt317.1 bt327.1 bt331.1 (!t341) t305 t306)) else (laws_FnValues.j0 k t310 bt313.1 bt317.1 bt327.1 bt331.1 true t305 t306)) else (laws_FnValues.j0 k t310 bt313.1 bt317.1 bt327.1 bt331.1 true t305 t306)) else (laws_FnValues.j0 k t310 bt313.1 bt317.1 bt327.1 bt331.1 true t305 t306))) else (laws_FnValues.j0 k t310 bt313.1 bt317.1 bt327.1 bt331.1 true t305 t306))) else (laws_FnValues.j0 k t310 bt313.1 bt317.1 bt327.1 bt331.1 true t305 t306)) else (laws_FnValues.j0 k t310 bt313.1 bt317.1 bt327.1 bt331.1 true t305 t306)) else (laws_FnValues.j0 k t310 bt313.1 bt317.1 bt327.1 bt331.1 true t305 t306)) else (laws_FnValues.j0 k t310 bt313.1 bt317.1 bt327.1 bt331.1 true t305 t306)) else (laws_FnValues.j0 k t310 bt313.1 bt317.1 bt327.1 bt331.1 true t305 t306)) else (laws_FnValues.j0 k t310 bt313.1 bt317.1 bt327.1 bt331.1 true t305 t306)) else (laws_FnValues.j0 k t310 bt313.1 bt317.1 bt327.1 bt331.1 true t305 t306))))))))) = some r := H
  have A6 := Zad.mk A60
  clear A60
  replace H := Option.bind_eq_some_iff.mp H
  obtain ⟨⟨t313, t316⟩, A70, H⟩ := H
  replace H : ((impl_SumOf.f k t305 t306).bind fun bt317 => ((impl_ValuesText.f k t305 t306).bind fun bt319 => ((impl_ReadValues.f k bt319.1).bind fun bt321 => ((impl_FloorsOf.f k t305 t306).bind fun bt327 => ((impl_CeilingsOf.f k t305 t306).bind fun bt331 => ((impl_NearestOf.f k t305 t306).bind fun bt335 => (if t316 = true then (if bt317.2 = true then (if bt319.2 = true then (if bt321.2.2 = true then (if bt327.2 = true then (if bt331.2 = true then (if bt335.2 = true then ((Zal.f k t305 t306 t310).bind fun t339 => (if t339 = true then ((Zal.f k t305 t306 bt335.1).bind fun t340 => (if t340 = true then (if (t313.length : Int) = (t310.length : Int) then (if bt321.1 = t305 then ((Za0.f k bt321.2.1 t306).bind fun t341 => (laws_FnValues.j0 k t310 t313 bt317.1 bt327.1 bt331.1 (!t341) t305 t306)) else (laws_FnValues.j0 k t310 t313 bt317.1 bt327.1 bt331.1 true t305 t306)) else (laws_FnValues.j0 k t310 t313 bt317.1 bt327.1 bt331.1 true t305 t306)) else (laws_FnValues.j0 k t310 t313 bt317.1 bt327.1 bt331.1 true t305 t306))) else (laws_FnValues.j0 k t310 t313 bt317.1 bt327.1 bt331.1 true t305 t306))) else (laws_FnValues.j0 k t310 t313 bt317.1 bt327.1 bt331.1 true t305 t306)) else (laws_FnValues.j0 k t310 t313 bt317.1 bt327.1 bt331.1 true t305 t306)) else (laws_FnValues.j0 k t310 t313 bt317.1 bt327.1 bt331.1 true t305 t306)) else (laws_FnValues.j0 k t310 t313 bt317.1 bt327.1 bt331.1 true t305 t306)) else (laws_FnValues.j0 k t310 t313 bt317.1 bt327.1 bt331.1 true t305 t306)) else (laws_FnValues.j0 k t310 t313 bt317.1 bt327.1 bt331.1 true t305 t306)) else (laws_FnValues.j0 k t310 t313 bt317.1 bt327.1 bt331.1 true t305 t306)))))))) = some r := H
  have A7 := Zad.mk A70
  clear A70
  replace H := Option.bind_eq_some_iff.mp H
  obtain ⟨⟨t317, t318⟩, A80, H⟩ := H
  replace H : ((impl_ValuesText.f k t305 t306).bind fun bt319 => ((impl_ReadValues.f k bt319.1).bind fun bt321 => ((impl_FloorsOf.f k t305 t306).bind fun bt327 => ((impl_CeilingsOf.f k t305 t306).bind fun bt331 => ((impl_NearestOf.f k t305 t306).bind fun bt335 => (if t316 = true then (if t318 = true then (if bt319.2 = true then (if bt321.2.2 = true then (if bt327.2 = true then (if bt331.2 = true then (if bt335.2 = true then ((Zal.f k t305 t306 t310).bind fun t339 => (if t339 = true then ((Zal.f k t305 t306 bt335.1).bind fun t340 => (if t340 = true then (if (t313.length : Int) = (t310.length : Int) then (if bt321.1 = t305 then ((Za0.f k bt321.2.1 t306).bind fun t341 => (laws_FnValues.j0 k t310 t313 t317 bt327.1 bt331.1 (!t341) t305 t306)) else (laws_FnValues.j0 k t310 t313 t317 bt327.1 bt331.1 true t305 t306)) else (laws_FnValues.j0 k t310 t313 t317 bt327.1 bt331.1 true t305 t306)) else (laws_FnValues.j0 k t310 t313 t317 bt327.1 bt331.1 true t305 t306))) else (laws_FnValues.j0 k t310 t313 t317 bt327.1 bt331.1 true t305 t306))) else (laws_FnValues.j0 k t310 t313 t317 bt327.1 bt331.1 true t305 t306)) else (laws_FnValues.j0 k t310 t313 t317 bt327.1 bt331.1 true t305 t306)) else (laws_FnValues.j0 k t310 t313 t317 bt327.1 bt331.1 true t305 t306)) else (laws_FnValues.j0 k t310 t313 t317 bt327.1 bt331.1 true t305 t306)) else (laws_FnValues.j0 k t310 t313 t317 bt327.1 bt331.1 true t305 t306)) else (laws_FnValues.j0 k t310 t313 t317 bt327.1 bt331.1 true t305 t306)) else (laws_FnValues.j0 k t310 t313 t317 bt327.1 bt331.1 true t305 t306))))))) = some r := H
  have A8 := Zad.mk A80
  clear A80
  replace H := Option.bind_eq_some_iff.mp H
  obtain ⟨⟨t319, t320⟩, A90, H⟩ := H
  replace H : ((impl_ReadValues.f k t319).bind fun bt321 => ((impl_FloorsOf.f k t305 t306).bind fun bt327 => ((impl_CeilingsOf.f k t305 t306).bind fun bt331 => ((impl_NearestOf.f k t305 t306).bind fun bt335 => (if t316 = true then (if t318 = true then (if t320 = true then (if bt321.2.2 = true then (if bt327.2 = true then (if bt331.2 = true then (if bt335.2 = true then ((Zal.f k t305 t306 t310).bind fun t339 => (if t339 = true then ((Zal.f k t305 t306 bt335.1).bind fun t340 => (if t340 = true then (if (t313.length : Int) = (t310.length : Int) then (if bt321.1 = t305 then ((Za0.f k bt321.2.1 t306).bind fun t341 => (laws_FnValues.j0 k t310 t313 t317 bt327.1 bt331.1 (!t341) t305 t306)) else (laws_FnValues.j0 k t310 t313 t317 bt327.1 bt331.1 true t305 t306)) else (laws_FnValues.j0 k t310 t313 t317 bt327.1 bt331.1 true t305 t306)) else (laws_FnValues.j0 k t310 t313 t317 bt327.1 bt331.1 true t305 t306))) else (laws_FnValues.j0 k t310 t313 t317 bt327.1 bt331.1 true t305 t306))) else (laws_FnValues.j0 k t310 t313 t317 bt327.1 bt331.1 true t305 t306)) else (laws_FnValues.j0 k t310 t313 t317 bt327.1 bt331.1 true t305 t306)) else (laws_FnValues.j0 k t310 t313 t317 bt327.1 bt331.1 true t305 t306)) else (laws_FnValues.j0 k t310 t313 t317 bt327.1 bt331.1 true t305 t306)) else (laws_FnValues.j0 k t310 t313 t317 bt327.1 bt331.1 true t305 t306)) else (laws_FnValues.j0 k t310 t313 t317 bt327.1 bt331.1 true t305 t306)) else (laws_FnValues.j0 k t310 t313 t317 bt327.1 bt331.1 true t305 t306)))))) = some r := H
  have A9 := Zad.mk A90
  clear A90
  replace H := Option.bind_eq_some_iff.mp H
  obtain ⟨⟨t321, t322, t325⟩, A100, H⟩ := H
  replace H : ((impl_FloorsOf.f k t305 t306).bind fun bt327 => ((impl_CeilingsOf.f k t305 t306).bind fun bt331 => ((impl_NearestOf.f k t305 t306).bind fun bt335 => (if t316 = true then (if t318 = true then (if t320 = true then (if t325 = true then (if bt327.2 = true then (if bt331.2 = true then (if bt335.2 = true then ((Zal.f k t305 t306 t310).bind fun t339 => (if t339 = true then ((Zal.f k t305 t306 bt335.1).bind fun t340 => (if t340 = true then (if (t313.length : Int) = (t310.length : Int) then (if t321 = t305 then ((Za0.f k t322 t306).bind fun t341 => (laws_FnValues.j0 k t310 t313 t317 bt327.1 bt331.1 (!t341) t305 t306)) else (laws_FnValues.j0 k t310 t313 t317 bt327.1 bt331.1 true t305 t306)) else (laws_FnValues.j0 k t310 t313 t317 bt327.1 bt331.1 true t305 t306)) else (laws_FnValues.j0 k t310 t313 t317 bt327.1 bt331.1 true t305 t306))) else (laws_FnValues.j0 k t310 t313 t317 bt327.1 bt331.1 true t305 t306))) else (laws_FnValues.j0 k t310 t313 t317 bt327.1 bt331.1 true t305 t306)) else (laws_FnValues.j0 k t310 t313 t317 bt327.1 bt331.1 true t305 t306)) else (laws_FnValues.j0 k t310 t313 t317 bt327.1 bt331.1 true t305 t306)) else (laws_FnValues.j0 k t310 t313 t317 bt327.1 bt331.1 true t305 t306)) else (laws_FnValues.j0 k t310 t313 t317 bt327.1 bt331.1 true t305 t306)) else (laws_FnValues.j0 k t310 t313 t317 bt327.1 bt331.1 true t305 t306)) else (laws_FnValues.j0 k t310 t313 t317 bt327.1 bt331.1 true t305 t306))))) = some r := H
  have A10 := Zad.mk A100
  clear A100
  replace H := Option.bind_eq_some_iff.mp H
  obtain ⟨⟨t327, t330⟩, A110, H⟩ := H
  replace H : ((impl_CeilingsOf.f k t305 t306).bind fun bt331 => ((impl_NearestOf.f k t305 t306).bind fun bt335 => (if t316 = true then (if t318 = true then (if t320 = true then (if t325 = true then (if t330 = true then (if bt331.2 = true then (if bt335.2 = true then ((Zal.f k t305 t306 t310).bind fun t339 => (if t339 = true then ((Zal.f k t305 t306 bt335.1).bind fun t340 => (if t340 = true then (if (t313.length : Int) = (t310.length : Int) then (if t321 = t305 then ((Za0.f k t322 t306).bind fun t341 => (laws_FnValues.j0 k t310 t313 t317 t327 bt331.1 (!t341) t305 t306)) else (laws_FnValues.j0 k t310 t313 t317 t327 bt331.1 true t305 t306)) else (laws_FnValues.j0 k t310 t313 t317 t327 bt331.1 true t305 t306)) else (laws_FnValues.j0 k t310 t313 t317 t327 bt331.1 true t305 t306))) else (laws_FnValues.j0 k t310 t313 t317 t327 bt331.1 true t305 t306))) else (laws_FnValues.j0 k t310 t313 t317 t327 bt331.1 true t305 t306)) else (laws_FnValues.j0 k t310 t313 t317 t327 bt331.1 true t305 t306)) else (laws_FnValues.j0 k t310 t313 t317 t327 bt331.1 true t305 t306)) else (laws_FnValues.j0 k t310 t313 t317 t327 bt331.1 true t305 t306)) else (laws_FnValues.j0 k t310 t313 t317 t327 bt331.1 true t305 t306)) else (laws_FnValues.j0 k t310 t313 t317 t327 bt331.1 true t305 t306)) else (laws_FnValues.j0 k t310 t313 t317 t327 bt331.1 true t305 t306)))) = some r := H
  have A11 := Zad.mk A110
  clear A110
  replace H := Option.bind_eq_some_iff.mp H
  obtain ⟨⟨t331, t334⟩, A120, H⟩ := H
  replace H : ((impl_NearestOf.f k t305 t306).bind fun bt335 => (if t316 = true then (if t318 = true then (if t320 = true then (if t325 = true then (if t330 = true then (if t334 = true then (if bt335.2 = true then ((Zal.f k t305 t306 t310).bind fun t339 => (if t339 = true then ((Zal.f k t305 t306 bt335.1).bind fun t340 => (if t340 = true then (if (t313.length : Int) = (t310.length : Int) then (if t321 = t305 then ((Za0.f k t322 t306).bind fun t341 => (laws_FnValues.j0 k t310 t313 t317 t327 t331 (!t341) t305 t306)) else (laws_FnValues.j0 k t310 t313 t317 t327 t331 true t305 t306)) else (laws_FnValues.j0 k t310 t313 t317 t327 t331 true t305 t306)) else (laws_FnValues.j0 k t310 t313 t317 t327 t331 true t305 t306))) else (laws_FnValues.j0 k t310 t313 t317 t327 t331 true t305 t306))) else (laws_FnValues.j0 k t310 t313 t317 t327 t331 true t305 t306)) else (laws_FnValues.j0 k t310 t313 t317 t327 t331 true t305 t306)) else (laws_FnValues.j0 k t310 t313 t317 t327 t331 true t305 t306)) else (laws_FnValues.j0 k t310 t313 t317 t327 t331 true t305 t306)) else (laws_FnValues.j0 k t310 t313 t317 t327 t331 true t305 t306)) else (laws_FnValues.j0 k t310 t313 t317 t327 t331 true t305 t306)) else (laws_FnValues.j0 k t310 t313 t317 t327 t331 true t305 t306))) = some r := H
  have A12 := Zad.mk A120
  clear A120
  replace H := Option.bind_eq_some_iff.mp H
  obtain ⟨⟨t335, t338⟩, A130, H⟩ := H
  replace H : (if t316 = true then (if t318 = true then (if t320 = true then (if t325 = true then (if t330 = true then (if t334 = true then (if t338 = true then ((Zal.f k t305 t306 t310).bind fun t339 => (if t339 = true then ((Zal.f k t305 t306 t335).bind fun t340 => (if t340 = true then (if (t313.length : Int) = (t310.length : Int) then (if t321 = t305 then ((Za0.f k t322 t306).bind fun t341 => (laws_FnValues.j0 k t310 t313 t317 t327 t331 (!t341) t305 t306)) else (laws_FnValues.j0 k t310 t313 t317 t327 t331 true t305 t306)) else (laws_FnValues.j0 k t310 t313 t317 t327 t331 true t305 t306)) else (laws_FnValues.j0 k t310 t313 t317 t327 t331 true t305 t306))) else (laws_FnValues.j0 k t310 t313 t317 t327 t331 true t305 t306))) else (laws_FnValues.j0 k t310 t313 t317 t327 t331 true t305 t306)) else (laws_FnValues.j0 k t310 t313 t317 t327 t331 true t305 t306)) else (laws_FnValues.j0 k t310 t313 t317 t327 t331 true t305 t306)) else (laws_FnValues.j0 k t310 t313 t317 t327 t331 true t305 t306)) else (laws_FnValues.j0 k t310 t313 t317 t327 t331 true t305 t306)) else (laws_FnValues.j0 k t310 t313 t317 t327 t331 true t305 t306)) else (laws_FnValues.j0 k t310 t313 t317 t327 t331 true t305 t306)) = some r := H
  have A13 := Zad.mk A130
  clear A130
  have HC14 := Zad.mk H
  clear H
  go_enter Tryz.func3, Tryz.ntmps3
  go_upto_region 12 with (first | ((with_reducible refine Zar (f := 4) rfl ?_); refine goesL_ (some 24) rfl rfl Tryz.func4 (by kernel_rfl) rfl #[.slice A0 l0.length c0, .slice A1 l1.length c1] rfl (by (try simp only [List.map_toArray, List.map_cons, List.map_nil]); first | done | rfl | (simp only [List.length_drop, List.length_take]; rfl)) ?_; (with_reducible refine (laws_b10Long.calls _ _ l0 _ _ l1 false _ ?side1 ?side2 ?side3 ?side4 A3.out).mono ?_); (case side1 => repeat (first | exact HR0.out | (with_reducible refine Kd.C_alloc ?_ _) | (with_reducible refine Kd.C_drewN ?_ _) | (with_reducible refine Kd.C_drew ?_))); (case side2 => exact HC0.out); (case side3 => repeat (first | exact HR1.out | (with_reducible refine Kd.C_alloc ?_ _) | (with_reducible refine Kd.C_drewN ?_ _) | (with_reducible refine Kd.C_drew ?_))); (case side4 => exact HC1.out); rintro e w' ⟨rfl, ⟨nd, rfl⟩⟩; refine ⟨_, rfl, ?_⟩) | ((with_reducible refine Zar (f := 5) rfl ?_); refine goesL_ (some 26) rfl rfl Tryz.func5 (by kernel_rfl) rfl #[.slice A0 l0.length c0] rfl (by (try simp only [List.map_toArray, List.map_cons, List.map_nil]); first | done | rfl | (simp only [List.length_drop, List.length_take]; rfl)) ?_; (with_reducible refine (spec_B10Values.calls k _ _ l0 t305 t306 _ ?side1 ?side2 A5.out).mono ?_); (case side1 => repeat (first | exact HR0.out | (with_reducible refine Kd.C_alloc ?_ _) | (with_reducible refine Kd.C_drewN ?_ _) | (with_reducible refine Kd.C_drew ?_))); (case side2 => exact HC0.out); rintro e w15 ⟨v307, rfl, ho0, hb⟩; refine ⟨_, rfl, ?_⟩; have n0_ := Zad.mk (Kd.R_lower ho0 (Zam (by repeat (first | (with_reducible first | exact HB.out | apply Zac | apply Zaa | apply Zab) | exact HB.out)))); have n1_ := Zad.mk (Zak (by repeat (first | (with_reducible first | exact HB.out | apply Zac | apply Zaa | apply Zab) | exact HB.out)) hb); clear HB; have HO308 := n0_; have HB := n1_; clear n0_ n1_; (try clear hb); (try clear hb2); (try clear hk); (try clear hi); (try clear ho0)) | ((with_reducible refine gate_dst (N := 5) rfl ?_); (try (refine gate_guard (by rfl) ?_; dsimp only)); refine box_event ?hg (N := 5) ?hd (cs := #[.int .i64 0, .slice none 0 0]) (t := 26) ?hr ?_; (case hd => rfl); (case hg => rfl); (case hr => first | (go_simp; done) | (go_simp; rfl)); intro gb309 hg w16 hbox hb; have n0_ := Zad.mk (Kd.R_below (by (with_reducible repeat (first | apply Kd.R_alloc | apply Kd.R_drewN | apply Kd.R_drew)); exact HO308.out) hb); have n1_ := Zad.mk (Zak (by repeat (first | (with_reducible first | exact HB.out | apply Zac | apply Zaa | apply Zab) | exact HB.out)) hb); have n2_ := Zad.mk (hbox); have n3_ := Zad.mk ((by rw [hg]; exact (Zam (by repeat (first | (with_reducible first | exact HB.out | apply Zac | apply Zaa | apply Zab) | exact HB.out))) : w.heap.size ≤ gb309)); have n4_ := Zad.mk ((by rw [hg]; exact (Zam (by repeat (first | (with_reducible first | exact HB.out | apply Zac | apply Zaa | apply Zab) | exact HB.out))) : w.heap.size ≤ gb309)); clear HO308; clear HB; have HO308 := n0_; have HB := n1_; have BK309 := n2_; have GW309 := n3_; have GE309 := n4_; clear n0_ n1_ n2_ n3_ n4_; clear hb hbox hg; have hcz17_0 : w16.cell? ⟨gb309, 0, none⟩ = some (.int .i64 0) := (Zaj BK309.out 0).trans rfl; have hcz17_1 : w16.cell? ⟨gb309, 1, none⟩ = some (.slice none 0 0) := (Zaj BK309.out 1).trans rfl; have hfz17_0 := Zai BK309.out 0; have hfz17_1 := Zai BK309.out 1; obtain ⟨Ao18, co18, eo18⟩ := Kd.R_slice HO308.out; subst eo18) | ((with_reducible refine Zar (f := 6) rfl ?_); refine goesL_ (some 29) rfl rfl Tryz.func6 (by kernel_rfl) rfl #[.slice A1 l1.length c1, .agg #[.int .i64 t305, .slice Ao18 t306.length co18]] rfl (by (try simp only [List.map_toArray, List.map_cons, List.map_nil]); first | done | rfl | (simp only [List.length_drop, List.length_take]; rfl)) ?_; (with_reducible refine (Zay.calls k _ _ l1 t305 _ _ t306 t310 _ ?side1 ?side2 ?side3 ?side4 A6.out).mono ?_); (case side1 => exact Kd.C_below HR1.out (by repeat (first | (with_reducible first | exact HB.out | apply Zac | apply Zaa | apply Zab | refine Zae ?_ GE309.out) | exact HB.out))); (case side2 => exact HC1.out); (case side3 => refine (Kd.R_reads' (e := 2) (base := w.heap.size) (ok := fun k_ => True) (n := t306.length) (c := co18) ?_).2.2; exact (by (with_reducible repeat (first | apply Kd.R_alloc | apply Kd.R_drewN | apply Kd.R_drew)); exact (Kd.R_mono (Kd.R_far (p := ⟨gb309, 1, none⟩) (Kd.R_far (p := ⟨gb309, 0, none⟩) (Kd.R_types HO308.out BK309.out (by decide)) (fun _ hk => hk.2) (.int .i64 t305)) (fun _ hk => hk.2) (.slice Ao18 t306.length co18)) (fun _ h_ => h_.1)))); (case side4 => exact (Kd.R_reads' HO308.out).2.1); rintro e w19 ⟨v311, rfl, ho0, hb⟩; refine ⟨_, rfl, ?_⟩; have n0_ := Zad.mk (Kd.R_elder' (by (with_reducible repeat (first | apply Kd.R_alloc | apply Kd.R_drewN | apply Kd.R_drew)); exact (Kd.R_mono (Kd.R_far (p := ⟨gb309, 1, none⟩) (Kd.R_far (p := ⟨gb309, 0, none⟩) (Kd.R_types HO308.out BK309.out (by decide)) (fun _ hk => hk.2) (.int .i64 t305)) (fun _ hk => hk.2) (.slice Ao18 t306.length co18)) (fun _ h_ => h_.1))) (Kd.R_base ho0) hb); have n1_ := Zad.mk (Kd.R_lower (Kd.R_new' ho0 (Kd.R_lt (by (with_reducible repeat (first | apply Kd.R_alloc | apply Kd.R_drewN | apply Kd.R_drew)); exact (Kd.R_mono (Kd.R_far (p := ⟨gb309, 1, none⟩) (Kd.R_far (p := ⟨gb309, 0, none⟩) (Kd.R_types HO308.out BK309.out (by decide)) (fun _ hk => hk.2) (.int .i64 t305)) (fun _ hk => hk.2) (.slice Ao18 t306.length co18)) (fun _ h_ => h_.1))))) (Zam (by repeat (first | (with_reducible first | exact HB.out | apply Zac | apply Zaa | apply Zab | refine Zae ?_ GE309.out) | exact HB.out)))); have n2_ := Zad.mk (Zap (g := gb309) (o := .cells #[.int .i64 t305, .slice Ao18 t306.length co18] 26 (0, 0)) (by (with_reducible repeat (first | refine Zag ?_ _ | refine Zah ?_ | refine Zaf ?_ _)); refine blk_put (cs := #[.int .i64 t305, .slice none 0 0]) ?_ 1 _ rfl; (with_reducible repeat (first | refine Zag ?_ _ | refine Zah ?_ | refine Zaf ?_ _)); refine blk_put (cs := #[.int .i64 0, .slice none 0 0]) ?_ 0 _ rfl; (with_reducible repeat (first | refine Zag ?_ _ | refine Zah ?_ | refine Zaf ?_ _)); exact BK309.out) hb); have n3_ := Zad.mk (Zak (by repeat (first | (with_reducible first | exact HB.out | apply Zac | apply Zaa | apply Zab | refine Zae ?_ GE309.out) | exact HB.out)) hb); clear HO308; clear BK309; clear HB; have HO308 := n0_; have HO312 := n1_; have BK309 := n2_; have HB := n3_; clear n0_ n1_ n2_ n3_; (try clear hb); (try clear hb2); (try clear hk); (try clear hi); (try clear ho0); have hcz20_0 : w19.cell? ⟨gb309, 0, none⟩ = some (.int .i64 t305) := (Zaj BK309.out 0).trans rfl; have hcz20_1 : w19.cell? ⟨gb309, 1, none⟩ = some (.slice Ao18 t306.length co18) := (Zaj BK309.out 1).trans rfl; have hfz20_0 := Zai BK309.out 0; have hfz20_1 := Zai BK309.out 1; obtain ⟨Ao21, co21, eo21⟩ := Kd.R_slice HO312.out; subst eo21) | ((with_reducible refine Zar (f := 7) rfl ?_); refine goesL_ (some 33) rfl rfl Tryz.func7 (by kernel_rfl) rfl #[.agg #[.int .i64 t305, .slice Ao18 t306.length co18], .slice Ao21 t310.length co21] rfl (by (try simp only [List.map_toArray, List.map_cons, List.map_nil]); first | done | rfl | (simp only [List.length_drop, List.length_take]; rfl)) ?_; (with_reducible refine (impl_ErrorsOf.calls k t305 _ _ t306 _ _ t310 t313 t316 _ ?side1 ?side2 ?side3 ?side4 A7.out).mono ?_); (case side1 => repeat (first | exact (Kd.R_reads' HO308.out).2.2 | (with_reducible refine Kd.C_alloc ?_ _) | (with_reducible refine Kd.C_drewN ?_ _) | (with_reducible refine Kd.C_drew ?_))); (case side2 => exact (Kd.R_reads' HO308.out).2.1); (case side3 => repeat (first | exact (Kd.R_reads' HO312.out).2.2 | (with_reducible refine Kd.C_alloc ?_ _) | (with_reducible refine Kd.C_drewN ?_ _) | (with_reducible refine Kd.C_drew ?_))); (case side4 => exact (Kd.R_reads' HO312.out).2.1); rintro e w22 ⟨v314, rfl, ho0, hb⟩; refine ⟨_, rfl, ?_⟩; have n0_ := Zad.mk (Kd.R_elder' (by (with_reducible repeat (first | apply Kd.R_alloc | apply Kd.R_drewN | apply Kd.R_drew)); exact HO308.out) (Kd.R_base ho0) hb); have n1_ := Zad.mk (Kd.R_elder' (by (with_reducible repeat (first | apply Kd.R_alloc | apply Kd.R_drewN | apply Kd.R_drew)); exact HO312.out) (Kd.R_base ho0) hb); have n2_ := Zad.mk (Kd.R_lower (Kd.R_new' (Kd.R_new' ho0 (Kd.R_lt (by (with_reducible repeat (first | apply Kd.R_alloc | apply Kd.R_drewN | apply Kd.R_drew)); exact HO308.out))) (Kd.R_lt (by (with_reducible repeat (first | apply Kd.R_alloc | apply Kd.R_drewN | apply Kd.R_drew)); exact HO312.out))) (Zam (by repeat (first | (with_reducible first | exact HB.out | apply Zac | apply Zaa | apply Zab | refine Zae ?_ GE309.out) | exact HB.out)))); have n3_ := Zad.mk (Zap (g := gb309) (o := .cells #[.int .i64 t305, .slice Ao18 t306.length co18] 26 (0, 0)) (by (with_reducible repeat (first | refine Zag ?_ _ | refine Zah ?_ | refine Zaf ?_ _)); exact BK309.out) hb); have n4_ := Zad.mk (Zak (by repeat (first | (with_reducible first | exact HB.out | apply Zac | apply Zaa | apply Zab | refine Zae ?_ GE309.out) | exact HB.out)) hb); clear HO308; clear HO312; clear BK309; clear HB; have HO308 := n0_; have HO312 := n1_; have HO315 := n2_; have BK309 := n3_; have HB := n4_; clear n0_ n1_ n2_ n3_ n4_; (try clear hb); (try clear hb2); (try clear hk); (try clear hi); (try clear ho0); have hcz23_0 : w22.cell? ⟨gb309, 0, none⟩ = some (.int .i64 t305) := (Zaj BK309.out 0).trans rfl; have hcz23_1 : w22.cell? ⟨gb309, 1, none⟩ = some (.slice Ao18 t306.length co18) := (Zaj BK309.out 1).trans rfl; have hfz23_0 := Zai BK309.out 0; have hfz23_1 := Zai BK309.out 1) | ((with_reducible refine Zar (f := 8) rfl ?_); refine goesL_ (some 38) rfl rfl Tryz.func8 (by kernel_rfl) rfl #[.agg #[.int .i64 t305, .slice Ao18 t306.length co18]] rfl (by (try simp only [List.map_toArray, List.map_cons, List.map_nil]); first | done | rfl | (simp only [List.length_drop, List.length_take]; rfl)) ?_; (with_reducible refine (impl_SumOf.calls k t305 _ _ t306 t317 t318 _ ?side1 ?side2 A8.out).mono ?_); (case side1 => repeat (first | exact (Kd.R_reads' HO308.out).2.2 | (with_reducible refine Kd.C_alloc ?_ _) | (with_reducible refine Kd.C_drewN ?_ _) | (with_reducible refine Kd.C_drew ?_))); (case side2 => exact (Kd.R_reads' HO308.out).2.1); rintro e w24 ⟨rfl, hb⟩; refine ⟨_, rfl, ?_⟩; have n0_ := Zad.mk (Kd.R_below (by (with_reducible repeat (first | apply Kd.R_alloc | apply Kd.R_drewN | apply Kd.R_drew)); exact HO308.out) hb); have n1_ := Zad.mk (Kd.R_below (by (with_reducible repeat (first | apply Kd.R_alloc | apply Kd.R_drewN | apply Kd.R_drew)); exact HO312.out) hb); have n2_ := Zad.mk (Kd.R_below (by (with_reducible repeat (first | apply Kd.R_alloc | apply Kd.R_drewN | apply Kd.R_drew)); exact HO315.out) hb); have n3_ := Zad.mk (Zap (g := gb309) (o := .cells #[.int .i64 t305, .slice Ao18 t306.length co18] 26 (0, 0)) (by (with_reducible repeat (first | refine Zag ?_ _ | refine Zah ?_ | refine Zaf ?_ _)); exact BK309.out) hb); have n4_ := Zad.mk (Zak (by repeat (first | (with_reducible first | exact HB.out | apply Zac | apply Zaa | apply Zab | refine Zae ?_ GE309.out) | exact HB.out)) hb); clear HO308; clear HO312; clear HO315; clear BK309; clear HB; have HO308 := n0_; have HO312 := n1_; have HO315 := n2_; have BK309 := n3_; have HB := n4_; clear n0_ n1_ n2_ n3_ n4_; (try clear hb); (try clear hb2); (try clear hk); (try clear hi); have hcz25_0 : w24.cell? ⟨gb309, 0, none⟩ = some (.int .i64 t305) := (Zaj BK309.out 0).trans rfl; have hcz25_1 : w24.cell? ⟨gb309, 1, none⟩ = some (.slice Ao18 t306.length co18) := (Zaj BK309.out 1).trans rfl; have hfz25_0 := Zai BK309.out 0; have hfz25_1 := Zai BK309.out 1) | ((with_reducible refine Zar (f := 9) rfl ?_); refine goesL_ (some 43) rfl rfl Tryz.func9 (by kernel_rfl) rfl #[.agg #[.int .i64 t305, .slice Ao18 t306.length co18]] rfl (by (try simp only [List.map_toArray, List.map_cons, List.map_nil]); first | done | rfl | (simp only [List.length_drop, List.length_take]; rfl)) ?_; (with_reducible refine (impl_ValuesText.calls k t305 _ _ t306 t319 t320 _ ?side1 ?side2 (Pow10_below HT.out (by repeat (first | (with_reducible first | exact HB.out | apply Zac | apply Zaa | apply Zab | refine Zae ?_ GE309.out | refine Zae ?_ GE326.out) | exact HB.out))) A9.out).mono ?_); (case side1 => repeat (first | exact (Kd.R_reads' HO308.out).2.2 | (with_reducible refine Kd.C_alloc ?_ _) | (with_reducible refine Kd.C_drewN ?_ _) | (with_reducible refine Kd.C_drew ?_))); (case side2 => exact (Kd.R_reads' HO308.out).2.1); rintro e w26 ⟨rfl, hb⟩; refine ⟨_, rfl, ?_⟩; have n0_ := Zad.mk (Kd.R_below (by (with_reducible repeat (first | apply Kd.R_alloc | apply Kd.R_drewN | apply Kd.R_drew)); exact HO308.out) hb); have n1_ := Zad.mk (Kd.R_below (by (with_reducible repeat (first | apply Kd.R_alloc | apply Kd.R_drewN | apply Kd.R_drew)); exact HO312.out) hb); have n2_ := Zad.mk (Kd.R_below (by (with_reducible repeat (first | apply Kd.R_alloc | apply Kd.R_drewN | apply Kd.R_drew)); exact HO315.out) hb); have n3_ := Zad.mk (Zap (g := gb309) (o := .cells #[.int .i64 t305, .slice Ao18 t306.length co18] 26 (0, 0)) (by (with_reducible repeat (first | refine Zag ?_ _ | refine Zah ?_ | refine Zaf ?_ _)); exact BK309.out) hb); have n4_ := Zad.mk (Zak (by repeat (first | (with_reducible first | exact HB.out | apply Zac | apply Zaa | apply Zab | refine Zae ?_ GE309.out) | exact HB.out)) hb); clear HO308; clear HO312; clear HO315; clear BK309; clear HB; have HO308 := n0_; have HO312 := n1_; have HO315 := n2_; have BK309 := n3_; have HB := n4_; clear n0_ n1_ n2_ n3_ n4_; (try clear hb); (try clear hb2); (try clear hk); (try clear hi)) | ((with_reducible refine Zar (f := 10) rfl ?_); refine goesL_ (some 48) rfl rfl Tryz.func10 (by kernel_rfl) rfl #[.string t319] rfl (by (try simp only [List.map_toArray, List.map_cons, List.map_nil]); first | done | rfl | (simp only [List.length_drop, List.length_take]; rfl)) ?_; (with_reducible refine (impl_ReadValues.calls k t319 t321 t322 t325 _ (Pow10_below HT.out (by repeat (first | (with_reducible first | exact HB.out | apply Zac | apply Zaa | apply Zab | refine Zae ?_ GE309.out | refine Zae ?_ GE326.out) | exact HB.out))) A10.out).mono ?_); rintro e w27 ⟨v323, rfl, ho0, hb⟩; refine ⟨_, rfl, ?_⟩; have n0_ := Zad.mk (Kd.R_elder' (by (with_reducible repeat (first | apply Kd.R_alloc | apply Kd.R_drewN | apply Kd.R_drew)); exact HO308.out) (Kd.R_base ho0) hb); have n1_ := Zad.mk (Kd.R_elder' (by (with_reducible repeat (first | apply Kd.R_alloc | apply Kd.R_drewN | apply Kd.R_drew)); exact HO312.out) (Kd.R_base ho0) hb); have n2_ := Zad.mk (Kd.R_elder' (by (with_reducible repeat (first | apply Kd.R_alloc | apply Kd.R_drewN | apply Kd.R_drew)); exact HO315.out) (Kd.R_base ho0) hb); have n3_ := Zad.mk (Kd.R_lower (Kd.R_new' (Kd.R_new' (Kd.R_new' ho0 (Kd.R_lt (by (with_reducible repeat (first | apply Kd.R_alloc | apply Kd.R_drewN | apply Kd.R_drew)); exact HO308.out))) (Kd.R_lt (by (with_reducible repeat (first | apply Kd.R_alloc | apply Kd.R_drewN | apply Kd.R_drew)); exact HO312.out))) (Kd.R_lt (by (with_reducible repeat (first | apply Kd.R_alloc | apply Kd.R_drewN | apply Kd.R_drew)); exact HO315.out))) (Zam (by repeat (first | (with_reducible first | exact HB.out | apply Zac | apply Zaa | apply Zab | refine Zae ?_ GE309.out) | exact HB.out)))); have n4_ := Zad.mk (Zap (g := gb309) (o := .cells #[.int .i64 t305, .slice Ao18 t306.length co18] 26 (0, 0)) (by (with_reducible repeat (first | refine Zag ?_ _ | refine Zah ?_ | refine Zaf ?_ _)); exact BK309.out) hb); have n5_ := Zad.mk (Zak (by repeat (first | (with_reducible first | exact HB.out | apply Zac | apply Zaa | apply Zab | refine Zae ?_ GE309.out) | exact HB.out)) hb); clear HO308; clear HO312; clear HO315; clear BK309; clear HB; have HO308 := n0_; have HO312 := n1_; have HO315 := n2_; have HO324 := n3_; have BK309 := n4_; have HB := n5_; clear n0_ n1_ n2_ n3_ n4_ n5_; (try clear hb); (try clear hb2); (try clear hk); (try clear hi); (try clear ho0)) | ((with_reducible refine gate_dst (N := 13) rfl ?_); (try (refine gate_guard (by rfl) ?_; dsimp only)); refine box_event ?hg (N := 13) ?hd (cs := #[.int .i64 0, .slice none 0 0]) (t := 26) ?hr ?_; (case hd => rfl); (case hg => rfl); (case hr => first | (go_simp; done) | (go_simp; rfl)); intro gb326 hg w28 hbox hb; have n0_ := Zad.mk (Kd.R_below (by (with_reducible repeat (first | apply Kd.R_alloc | apply Kd.R_drewN | apply Kd.R_drew)); exact HO308.out) hb); have n1_ := Zad.mk (Kd.R_below (by (with_reducible repeat (first | apply Kd.R_alloc | apply Kd.R_drewN | apply Kd.R_drew)); exact HO312.out) hb); have n2_ := Zad.mk (Kd.R_below (by (with_reducible repeat (first | apply Kd.R_alloc | apply Kd.R_drewN | apply Kd.R_drew)); exact HO315.out) hb); have n3_ := Zad.mk (Kd.R_below (by (with_reducible repeat (first | apply Kd.R_alloc | apply Kd.R_drewN | apply Kd.R_drew)); exact HO324.out) hb); have n4_ := Zad.mk (Zap (g := gb309) (o := .cells #[.int .i64 t305, .slice Ao18 t306.length co18] 26 (0, 0)) (by (with_reducible repeat (first | refine Zag ?_ _ | refine Zah ?_ | refine Zaf ?_ _)); exact BK309.out) hb); have n5_ := Zad.mk (Zak (by repeat (first | (with_reducible first | exact HB.out | apply Zac | apply Zaa | apply Zab | refine Zae ?_ GE309.out) | exact HB.out)) hb); have n6_ := Zad.mk (hbox); have n7_ := Zad.mk ((by rw [hg]; exact (Zam (by repeat (first | (with_reducible first | exact HB.out | apply Zac | apply Zaa | apply Zab | refine Zae ?_ GE309.out) | exact HB.out))) : w.heap.size ≤ gb326)); have n8_ := Zad.mk ((by rw [hg]; exact (Zam (by repeat (first | (with_reducible first | exact HB.out | apply Zac | apply Zaa | apply Zab | refine Zae ?_ GE309.out) | exact HB.out))) : w.heap.size ≤ gb326)); have n9_ := Zad.mk ((by rw [hg]; exact Nat.ne_of_lt (blk_lt (g := gb309) (o := .cells #[.int .i64 t305, .slice Ao18 t306.length co18] 26 (0, 0)) (by (with_reducible repeat (first | refine Zag ?_ _ | refine Zah ?_ | refine Zaf ?_ _)); exact BK309.out)) : gb309 ≠ gb326)); have n10_ := Zad.mk ((by rw [hg]; exact Nat.ne_of_gt (blk_lt (g := gb309) (o := .cells #[.int .i64 t305, .slice Ao18 t306.length co18] 26 (0, 0)) (by (with_reducible repeat (first | refine Zag ?_ _ | refine Zah ?_ | refine Zaf ?_ _)); exact BK309.out)) : gb326 ≠ gb309)); clear HO308; clear HO312; clear HO315; clear HO324; clear BK309; clear HB; have HO308 := n0_; have HO312 := n1_; have HO315 := n2_; have HO324 := n3_; have BK309 := n4_; have HB := n5_; have BK326 := n6_; have GW326 := n7_; have GE326 := n8_; have NB309_326 := n9_; have NB326_309 := n10_; clear n0_ n1_ n2_ n3_ n4_ n5_ n6_ n7_ n8_ n9_ n10_; clear hb hbox hg; have hnb29 := NB326_309.out; have hnc29 := NB309_326.out; have hcz30_0 : w28.cell? ⟨gb326, 0, none⟩ = some (.int .i64 0) := (Zaj BK326.out 0).trans rfl; have hcz30_1 : w28.cell? ⟨gb326, 1, none⟩ = some (.slice none 0 0) := (Zaj BK326.out 1).trans rfl; have hfz30_0 := Zai BK326.out 0; have hfz30_1 := Zai BK326.out 1; obtain ⟨Ao31, co31, eo31⟩ := Kd.R_slice HO324.out; subst eo31; have hcz32_0 : w28.cell? ⟨gb309, 0, none⟩ = some (.int .i64 t305) := (Zaj BK309.out 0).trans rfl; have hcz32_1 : w28.cell? ⟨gb309, 1, none⟩ = some (.slice Ao18 t306.length co18) := (Zaj BK309.out 1).trans rfl; have hfz32_0 := Zai BK309.out 0; have hfz32_1 := Zai BK309.out 1) | ((with_reducible refine Zar (f := 11) rfl ?_); refine goesL_ (some 53) rfl rfl Tryz.func11 (by kernel_rfl) rfl #[.agg #[.int .i64 t305, .slice Ao18 t306.length co18]] rfl (by (try simp only [List.map_toArray, List.map_cons, List.map_nil]); first | done | rfl | (simp only [List.length_drop, List.length_take]; rfl)) ?_; (with_reducible refine (impl_FloorsOf.calls k t305 _ _ t306 t327 t330 _ ?side1 ?side2 A11.out).mono ?_); (case side1 => refine (Kd.R_reads' (e := 2) (base := w.heap.size) (ok := fun k_ => (((True ∧ some k_ ≠ (.slice Ao21 t310.length co21 : Value).ownBlock) ∧ some k_ ≠ (v314 : Value).ownBlock) ∧ some k_ ≠ (.slice Ao31 t322.length co31 : Value).ownBlock)) (n := t306.length) (c := co18) ?_).2.2; exact (by (with_reducible repeat (first | apply Kd.R_alloc | apply Kd.R_drewN | apply Kd.R_drew)); exact (Kd.R_mono (Kd.R_far (p := ⟨gb326, 1, none⟩) (Kd.R_far (p := ⟨gb326, 0, none⟩) (Kd.R_types HO308.out BK326.out (by decide)) (fun _ hk => hk.2) (.int .i64 t321)) (fun _ hk => hk.2) (.slice Ao31 t322.length co31)) (fun _ h_ => h_.1)))); (case side2 => exact (Kd.R_reads' HO308.out).2.1); rintro e w33 ⟨v328, rfl, ho0, hb⟩; refine ⟨_, rfl, ?_⟩; have n0_ := Zad.mk (Kd.R_elder' (by (with_reducible repeat (first | apply Kd.R_alloc | apply Kd.R_drewN | apply Kd.R_drew)); exact (Kd.R_mono (Kd.R_far (p := ⟨gb326, 1, none⟩) (Kd.R_far (p := ⟨gb326, 0, none⟩) (Kd.R_types HO308.out BK326.out (by decide)) (fun _ hk => hk.2) (.int .i64 t321)) (fun _ hk => hk.2) (.slice Ao31 t322.length co31)) (fun _ h_ => h_.1))) (Kd.R_base ho0) hb); have n1_ := Zad.mk (Kd.R_elder' (by (with_reducible repeat (first | apply Kd.R_alloc | apply Kd.R_drewN | apply Kd.R_drew)); exact (Kd.R_mono (Kd.R_far (p := ⟨gb326, 1, none⟩) (Kd.R_far (p := ⟨gb326, 0, none⟩) (Kd.R_types HO312.out BK326.out (by decide)) (fun _ hk => hk.2) (.int .i64 t321)) (fun _ hk => hk.2) (.slice Ao31 t322.length co31)) (fun _ h_ => h_.1))) (Kd.R_base ho0) hb); have n2_ := Zad.mk (Kd.R_elder' (by (with_reducible repeat (first | apply Kd.R_alloc | apply Kd.R_drewN | apply Kd.R_drew)); exact (Kd.R_mono (Kd.R_far (p := ⟨gb326, 1, none⟩) (Kd.R_far (p := ⟨gb326, 0, none⟩) (Kd.R_types HO315.out BK326.out (by decide)) (fun _ hk => hk.2) (.int .i64 t321)) (fun _ hk => hk.2) (.slice Ao31 t322.length co31)) (fun _ h_ => h_.1))) (Kd.R_base ho0) hb); have n3_ := Zad.mk (Kd.R_elder' (by (with_reducible repeat (first | apply Kd.R_alloc | apply Kd.R_drewN | apply Kd.R_drew)); exact (Kd.R_mono (Kd.R_far (p := ⟨gb326, 1, none⟩) (Kd.R_far (p := ⟨gb326, 0, none⟩) (Kd.R_types HO324.out BK326.out (by decide)) (fun _ hk => hk.2) (.int .i64 t321)) (fun _ hk => hk.2) (.slice Ao31 t322.length co31)) (fun _ h_ => h_.1))) (Kd.R_base ho0) hb); have n4_ := Zad.mk (Kd.R_lower (Kd.R_new' (Kd.R_new' (Kd.R_new' (Kd.R_new' ho0 (Kd.R_lt (by (with_reducible repeat (first | apply Kd.R_alloc | apply Kd.R_drewN | apply Kd.R_drew)); exact (Kd.R_mono (Kd.R_far (p := ⟨gb326, 1, none⟩) (Kd.R_far (p := ⟨gb326, 0, none⟩) (Kd.R_types HO308.out BK326.out (by decide)) (fun _ hk => hk.2) (.int .i64 t321)) (fun _ hk => hk.2) (.slice Ao31 t322.length co31)) (fun _ h_ => h_.1))))) (Kd.R_lt (by (with_reducible repeat (first | apply Kd.R_alloc | apply Kd.R_drewN | apply Kd.R_drew)); exact (Kd.R_mono (Kd.R_far (p := ⟨gb326, 1, none⟩) (Kd.R_far (p := ⟨gb326, 0, none⟩) (Kd.R_types HO312.out BK326.out (by decide)) (fun _ hk => hk.2) (.int .i64 t321)) (fun _ hk => hk.2) (.slice Ao31 t322.length co31)) (fun _ h_ => h_.1))))) (Kd.R_lt (by (with_reducible repeat (first | apply Kd.R_alloc | apply Kd.R_drewN | apply Kd.R_drew)); exact (Kd.R_mono (Kd.R_far (p := ⟨gb326, 1, none⟩) (Kd.R_far (p := ⟨gb326, 0, none⟩) (Kd.R_types HO315.out BK326.out (by decide)) (fun _ hk => hk.2) (.int .i64 t321)) (fun _ hk => hk.2) (.slice Ao31 t322.length co31)) (fun _ h_ => h_.1))))) (Kd.R_lt (by (with_reducible repeat (first | apply Kd.R_alloc | apply Kd.R_drewN | apply Kd.R_drew)); exact (Kd.R_mono (Kd.R_far (p := ⟨gb326, 1, none⟩) (Kd.R_far (p := ⟨gb326, 0, none⟩) (Kd.R_types HO324.out BK326.out (by decide)) (fun _ hk => hk.2) (.int .i64 t321)) (fun _ hk => hk.2) (.slice Ao31 t322.length co31)) (fun _ h_ => h_.1))))) (Zam (by repeat (first | (with_reducible first | exact HB.out | apply Zac | apply Zaa | apply Zab | refine Zae ?_ GE309.out | refine Zae ?_ GE326.out) | exact HB.out)))); have n5_ := Zad.mk (Zap (g := gb309) (o := .cells #[.int .i64 t305, .slice Ao18 t306.length co18] 26 (0, 0)) (by (with_reducible repeat (first | refine Zag ?_ _ | refine Zah ?_ | refine Zaf ?_ _)); refine blk_far ?_ NB309_326.out _; (with_reducible repeat (first | refine Zag ?_ _ | refine Zah ?_ | refine Zaf ?_ _)); refine blk_far ?_ NB309_326.out _; (with_reducible repeat (first | refine Zag ?_ _ | refine Zah ?_ | refine Zaf ?_ _)); exact BK309.out) hb); have n6_ := Zad.mk (Zap (g := gb326) (o := .cells #[.int .i64 t321, .slice Ao31 t322.length co31] 26 (0, 0)) (by (with_reducible repeat (first | refine Zag ?_ _ | refine Zah ?_ | refine Zaf ?_ _)); refine blk_put (cs := #[.int .i64 t321, .slice none 0 0]) ?_ 1 _ rfl; (with_reducible repeat (first | refine Zag ?_ _ | refine Zah ?_ | refine Zaf ?_ _)); refine blk_put (cs := #[.int .i64 0, .slice none 0 0]) ?_ 0 _ rfl; (with_reducible repeat (first | refine Zag ?_ _ | refine Zah ?_ | refine Zaf ?_ _)); exact BK326.out) hb); have n7_ := Zad.mk (Zak (by repeat (first | (with_reducible first | exact HB.out | apply Zac | apply Zaa | apply Zab | refine Zae ?_ GE309.out | refine Zae ?_ GE326.out) | exact HB.out)) hb); clear HO308; clear HO312; clear HO315; clear HO324; clear BK309; clear BK326; clear HB; have HO308 := n0_; have HO312 := n1_; have HO315 := n2_; have HO324 := n3_; have HO329 := n4_; have BK309 := n5_; have BK326 := n6_; have HB := n7_; clear n0_ n1_ n2_ n3_ n4_ n5_ n6_ n7_; (try clear hb); (try clear hb2); (try clear hk); (try clear hi); (try clear ho0); have hcz34_0 : w33.cell? ⟨gb309, 0, none⟩ = some (.int .i64 t305) := (Zaj BK309.out 0).trans rfl; have hcz34_1 : w33.cell? ⟨gb309, 1, none⟩ = some (.slice Ao18 t306.length co18) := (Zaj BK309.out 1).trans rfl; have hfz34_0 := Zai BK309.out 0; have hfz34_1 := Zai BK309.out 1) | ((with_reducible refine Zar (f := 12) rfl ?_); refine goesL_ (some 58) rfl rfl Tryz.func12 (by kernel_rfl) rfl #[.agg #[.int .i64 t305, .slice Ao18 t306.length co18]] rfl (by (try simp only [List.map_toArray, List.map_cons, List.map_nil]); first | done | rfl | (simp only [List.length_drop, List.length_take]; rfl)) ?_; (with_reducible refine (impl_CeilingsOf.calls k t305 _ _ t306 t331 t334 _ ?side1 ?side2 A12.out).mono ?_); (case side1 => repeat (first | exact (Kd.R_reads' HO308.out).2.2 | (with_reducible refine Kd.C_alloc ?_ _) | (with_reducible refine Kd.C_drewN ?_ _) | (with_reducible refine Kd.C_drew ?_))); (case side2 => exact (Kd.R_reads' HO308.out).2.1); rintro e w35 ⟨v332, rfl, ho0, hb⟩; refine ⟨_, rfl, ?_⟩; have n0_ := Zad.mk (Kd.R_elder' (by (with_reducible repeat (first | apply Kd.R_alloc | apply Kd.R_drewN | apply Kd.R_drew)); exact HO308.out) (Kd.R_base ho0) hb); have n1_ := Zad.mk (Kd.R_elder' (by (with_reducible repeat (first | apply Kd.R_alloc | apply Kd.R_drewN | apply Kd.R_drew)); exact HO312.out) (Kd.R_base ho0) hb); have n2_ := Zad.mk (Kd.R_elder' (by (with_reducible repeat (first | apply Kd.R_alloc | apply Kd.R_drewN | apply Kd.R_drew)); exact HO315.out) (Kd.R_base ho0) hb); have n3_ := Zad.mk (Kd.R_elder' (by (with_reducible repeat (first | apply Kd.R_alloc | apply Kd.R_drewN | apply Kd.R_drew)); exact HO324.out) (Kd.R_base ho0) hb); have n4_ := Zad.mk (Kd.R_elder' (by (with_reducible repeat (first | apply Kd.R_alloc | apply Kd.R_drewN | apply Kd.R_drew)); exact HO329.out) (Kd.R_base ho0) hb); have n5_ := Zad.mk (Kd.R_lower (Kd.R_new' (Kd.R_new' (Kd.R_new' (Kd.R_new' (Kd.R_new' ho0 (Kd.R_lt (by (with_reducible repeat (first | apply Kd.R_alloc | apply Kd.R_drewN | apply Kd.R_drew)); exact HO308.out))) (Kd.R_lt (by (with_reducible repeat (first | apply Kd.R_alloc | apply Kd.R_drewN | apply Kd.R_drew)); exact HO312.out))) (Kd.R_lt (by (with_reducible repeat (first | apply Kd.R_alloc | apply Kd.R_drewN | apply Kd.R_drew)); exact HO315.out))) (Kd.R_lt (by (with_reducible repeat (first | apply Kd.R_alloc | apply Kd.R_drewN | apply Kd.R_drew)); exact HO324.out))) (Kd.R_lt (by (with_reducible repeat (first | apply Kd.R_alloc | apply Kd.R_drewN | apply Kd.R_drew)); exact HO329.out))) (Zam (by repeat (first | (with_reducible first | exact HB.out | apply Zac | apply Zaa | apply Zab | refine Zae ?_ GE309.out | refine Zae ?_ GE326.out) | exact HB.out)))); have n6_ := Zad.mk (Zap (g := gb309) (o := .cells #[.int .i64 t305, .slice Ao18 t306.length co18] 26 (0, 0)) (by (with_reducible repeat (first | refine Zag ?_ _ | refine Zah ?_ | refine Zaf ?_ _)); exact BK309.out) hb); have n7_ := Zad.mk (Zap (g := gb326) (o := .cells #[.int .i64 t321, .slice Ao31 t322.length co31] 26 (0, 0)) (by (with_reducible repeat (first | refine Zag ?_ _ | refine Zah ?_ | refine Zaf ?_ _)); exact BK326.out) hb); have n8_ := Zad.mk (Zak (by repeat (first | (with_reducible first | exact HB.out | apply Zac | apply Zaa | apply Zab | refine Zae ?_ GE309.out | refine Zae ?_ GE326.out) | exact HB.out)) hb); clear HO308; clear HO312; clear HO315; clear HO324; clear HO329; clear BK309; clear BK326; clear HB; have HO308 := n0_; have HO312 := n1_; have HO315 := n2_; have HO324 := n3_; have HO329 := n4_; have HO333 := n5_; have BK309 := n6_; have BK326 := n7_; have HB := n8_; clear n0_ n1_ n2_ n3_ n4_ n5_ n6_ n7_ n8_; (try clear hb); (try clear hb2); (try clear hk); (try clear hi); (try clear ho0); have hcz36_0 : w35.cell? ⟨gb309, 0, none⟩ = some (.int .i64 t305) := (Zaj BK309.out 0).trans rfl; have hcz36_1 : w35.cell? ⟨gb309, 1, none⟩ = some (.slice Ao18 t306.length co18) := (Zaj BK309.out 1).trans rfl; have hfz36_0 := Zai BK309.out 0; have hfz36_1 := Zai BK309.out 1) | ((with_reducible refine Zar (f := 13) rfl ?_); refine goesL_ (some 63) rfl rfl Tryz.func13 (by kernel_rfl) rfl #[.agg #[.int .i64 t305, .slice Ao18 t306.length co18]] rfl (by (try simp only [List.map_toArray, List.map_cons, List.map_nil]); first | done | rfl | (simp only [List.length_drop, List.length_take]; rfl)) ?_; (with_reducible refine (impl_NearestOf.calls k t305 _ _ t306 t335 t338 _ ?side1 ?side2 A13.out).mono ?_); (case side1 => repeat (first | exact (Kd.R_reads' HO308.out).2.2 | (with_reducible refine Kd.C_alloc ?_ _) | (with_reducible refine Kd.C_drewN ?_ _) | (with_reducible refine Kd.C_drew ?_))); (case side2 => exact (Kd.R_reads' HO308.out).2.1); rintro e w37 ⟨v336, rfl, ho0, hb⟩; refine ⟨_, rfl, ?_⟩; have n0_ := Zad.mk (Kd.R_elder' (by (with_reducible repeat (first | apply Kd.R_alloc | apply Kd.R_drewN | apply Kd.R_drew)); exact HO308.out) (Kd.R_base ho0) hb); have n1_ := Zad.mk (Kd.R_elder' (by (with_reducible repeat (first | apply Kd.R_alloc | apply Kd.R_drewN | apply Kd.R_drew)); exact HO312.out) (Kd.R_base ho0) hb); have n2_ := Zad.mk (Kd.R_elder' (by (with_reducible repeat (first | apply Kd.R_alloc | apply Kd.R_drewN | apply Kd.R_drew)); exact HO315.out) (Kd.R_base ho0) hb); have n3_ := Zad.mk (Kd.R_elder' (by (with_reducible repeat (first | apply Kd.R_alloc | apply Kd.R_drewN | apply Kd.R_drew)); exact HO324.out) (Kd.R_base ho0) hb); have n4_ := Zad.mk (Kd.R_elder' (by (with_reducible repeat (first | apply Kd.R_alloc | apply Kd.R_drewN | apply Kd.R_drew)); exact HO329.out) (Kd.R_base ho0) hb); have n5_ := Zad.mk (Kd.R_elder' (by (with_reducible repeat (first | apply Kd.R_alloc | apply Kd.R_drewN | apply Kd.R_drew)); exact HO333.out) (Kd.R_base ho0) hb); have n6_ := Zad.mk (Kd.R_lower (Kd.R_new' (Kd.R_new' (Kd.R_new' (Kd.R_new' (Kd.R_new' (Kd.R_new' ho0 (Kd.R_lt (by (with_reducible repeat (first | apply Kd.R_alloc | apply Kd.R_drewN | apply Kd.R_drew)); exact HO308.out))) (Kd.R_lt (by (with_reducible repeat (first | apply Kd.R_alloc | apply Kd.R_drewN | apply Kd.R_drew)); exact HO312.out))) (Kd.R_lt (by (with_reducible repeat (first | apply Kd.R_alloc | apply Kd.R_drewN | apply Kd.R_drew)); exact HO315.out))) (Kd.R_lt (by (with_reducible repeat (first | apply Kd.R_alloc | apply Kd.R_drewN | apply Kd.R_drew)); exact HO324.out))) (Kd.R_lt (by (with_reducible repeat (first | apply Kd.R_alloc | apply Kd.R_drewN | apply Kd.R_drew)); exact HO329.out))) (Kd.R_lt (by (with_reducible repeat (first | apply Kd.R_alloc | apply Kd.R_drewN | apply Kd.R_drew)); exact HO333.out))) (Zam (by repeat (first | (with_reducible first | exact HB.out | apply Zac | apply Zaa | apply Zab | refine Zae ?_ GE309.out | refine Zae ?_ GE326.out) | exact HB.out)))); have n7_ := Zad.mk (Zap (g := gb309) (o := .cells #[.int .i64 t305, .slice Ao18 t306.length co18] 26 (0, 0)) (by (with_reducible repeat (first | refine Zag ?_ _ | refine Zah ?_ | refine Zaf ?_ _)); exact BK309.out) hb); have n8_ := Zad.mk (Zap (g := gb326) (o := .cells #[.int .i64 t321, .slice Ao31 t322.length co31] 26 (0, 0)) (by (with_reducible repeat (first | refine Zag ?_ _ | refine Zah ?_ | refine Zaf ?_ _)); exact BK326.out) hb); have n9_ := Zad.mk (Zak (by repeat (first | (with_reducible first | exact HB.out | apply Zac | apply Zaa | apply Zab | refine Zae ?_ GE309.out | refine Zae ?_ GE326.out) | exact HB.out)) hb); clear HO308; clear HO312; clear HO315; clear HO324; clear HO329; clear HO333; clear BK309; clear BK326; clear HB; have HO308 := n0_; have HO312 := n1_; have HO315 := n2_; have HO324 := n3_; have HO329 := n4_; have HO333 := n5_; have HO337 := n6_; have BK309 := n7_; have BK326 := n8_; have HB := n9_; clear n0_ n1_ n2_ n3_ n4_ n5_ n6_ n7_ n8_ n9_; (try clear hb); (try clear hb2); (try clear hk); (try clear hi); (try clear ho0)))
  (try simp only [Act.put, List.setIfInBounds_toArray, List.set_cons_zero, List.set_cons_succ])
  go_cut [125] (fun v125 wc => ∃ (kq : Nat) (x125_13 : Bool), v125 = .bool x125_13 ∧ Zad (laws_FnValues.j0 kq t310 t313 t317 t327 t331 x125_13 t305 t306 = some r) ∧ Zad (kq ≤ k) ∧ Zad (Kd.R (Kd.int .i64) 2 wc w.heap.size (fun k_ => some k_ ≠ (v314 : Value).ownBlock ∧ some k_ ≠ (v328 : Value).ownBlock ∧ some k_ ≠ (v332 : Value).ownBlock ∧ some k_ ≠ ((.slice Ao18 t306.length co18) : Value).ownBlock ∧ some k_ ≠ ((.slice Ao31 t322.length co31) : Value).ownBlock) (.slice Ao21 t310.length co21) t310) ∧ Zad (Kd.R (Kd.int .i64) 2 wc w.heap.size (fun k_ => some k_ ≠ ((.slice Ao21 t310.length co21) : Value).ownBlock ∧ some k_ ≠ (v328 : Value).ownBlock ∧ some k_ ≠ (v332 : Value).ownBlock ∧ some k_ ≠ ((.slice Ao18 t306.length co18) : Value).ownBlock ∧ some k_ ≠ ((.slice Ao31 t322.length co31) : Value).ownBlock) v314 t313) ∧ Zad (Kd.R (Kd.int .i64) 2 wc w.heap.size (fun k_ => some k_ ≠ ((.slice Ao21 t310.length co21) : Value).ownBlock ∧ some k_ ≠ (v314 : Value).ownBlock ∧ some k_ ≠ (v332 : Value).ownBlock ∧ some k_ ≠ ((.slice Ao18 t306.length co18) : Value).ownBlock ∧ some k_ ≠ ((.slice Ao31 t322.length co31) : Value).ownBlock) v328 t327) ∧ Zad (Kd.R (Kd.int .i64) 2 wc w.heap.size (fun k_ => some k_ ≠ ((.slice Ao21 t310.length co21) : Value).ownBlock ∧ some k_ ≠ (v314 : Value).ownBlock ∧ some k_ ≠ (v328 : Value).ownBlock ∧ some k_ ≠ ((.slice Ao18 t306.length co18) : Value).ownBlock ∧ some k_ ≠ ((.slice Ao31 t322.length co31) : Value).ownBlock) v332 t331) ∧ Zad (Kd.R (Kd.int .i64) 2 wc w.heap.size (fun k_ => some k_ ≠ ((.slice Ao21 t310.length co21) : Value).ownBlock ∧ some k_ ≠ (v314 : Value).ownBlock ∧ some k_ ≠ (v328 : Value).ownBlock ∧ some k_ ≠ (v332 : Value).ownBlock ∧ some k_ ≠ ((.slice Ao31 t322.length co31) : Value).ownBlock) (.slice Ao18 t306.length co18) t306) ∧ Zad (Kd.R (Kd.int .i64) 2 wc w.heap.size (fun k_ => some k_ ≠ ((.slice Ao21 t310.length co21) : Value).ownBlock ∧ some k_ ≠ (v314 : Value).ownBlock ∧ some k_ ≠ (v328 : Value).ownBlock ∧ some k_ ≠ (v332 : Value).ownBlock ∧ some k_ ≠ ((.slice Ao18 t306.length co18) : Value).ownBlock) (.slice Ao31 t322.length co31) t322) ∧ Zad (wc.heap[gb309]? = some (.cells #[.int .i64 t305, (.slice Ao18 t306.length co18)] 26 (0, 0))) ∧ Zad (wc.heap[gb326]? = some (.cells #[.int .i64 t321, (.slice Ao31 t322.length co31)] 26 (0, 0))) ∧ Zad (Below w.heap.size w wc))
  case first =>
   have H := HC14.out
   clear HC14
   by_cases c38 : t316 = true
   ·subst c38
    have H1 : (if t318 = true then (if t320 = true then (if t325 = true then (if t330 = true then (if t334 = true then (if t338 = true then ((Zal.f k t305 t306 t310).bind fun t339 => (if t339 = true then ((Zal.f k t305 t306 t335).bind fun t340 => (if t340 = true then (if (t313.length : Int) = (t310.length : Int) then (if t321 = t305 then ((Za0.f k t322 t306).bind fun t341 => (laws_FnValues.j0 k t310 t313 t317 t327 t331 (!t341) t305 t306)) else (laws_FnValues.j0 k t310 t313 t317 t327 t331 true t305 t306)) else (laws_FnValues.j0 k t310 t313 t317 t327 t331 true t305 t306)) else (laws_FnValues.j0 k t310 t313 t317 t327 t331 true t305 t306))) else (laws_FnValues.j0 k t310 t313 t317 t327 t331 true t305 t306))) else (laws_FnValues.j0 k t310 t313 t317 t327 t331 true t305 t306)) else (laws_FnValues.j0 k t310 t313 t317 t327 t331 true t305 t306)) else (laws_FnValues.j0 k t310 t313 t317 t327 t331 true t305 t306)) else (laws_FnValues.j0 k t310 t313 t317 t327 t331 true t305 t306)) else (laws_FnValues.j0 k t310 t313 t317 t327 t331 true t305 t306)) else (laws_FnValues.j0 k t310 t313 t317 t327 t331 true t305 t306)) = some r := by rw [if_pos rfl] at H; exact H
    clear H
    have H := H1
    clear H1
    by_cases c39 : t318 = true
    ·subst c39
     have H1 : (if t320 = true then (if t325 = true then (if t330 = true then (if t334 = true then (if t338 = true then ((Zal.f k t305 t306 t310).bind fun t339 => (if t339 = true then ((Zal.f k t305 t306 t335).bind fun t340 => (if t340 = true then (if (t313.length : Int) = (t310.length : Int) then (if t321 = t305 then ((Za0.f k t322 t306).bind fun t341 => (laws_FnValues.j0 k t310 t313 t317 t327 t331 (!t341) t305 t306)) else (laws_FnValues.j0 k t310 t313 t317 t327 t331 true t305 t306)) else (laws_FnValues.j0 k t310 t313 t317 t327 t331 true t305 t306)) else (laws_FnValues.j0 k t310 t313 t317 t327 t331 true t305 t306))) else (laws_FnValues.j0 k t310 t313 t317 t327 t331 true t305 t306))) else (laws_FnValues.j0 k t310 t313 t317 t327 t331 true t305 t306)) else (laws_FnValues.j0 k t310 t313 t317 t327 t331 true t305 t306)) else (laws_FnValues.j0 k t310 t313 t317 t327 t331 true t305 t306)) else (laws_FnValues.j0 k t310 t313 t317 t327 t331 true t305 t306)) else (laws_FnValues.j0 k t310 t313 t317 t327 t331 true t305 t306)) = some r := by rw [if_pos rfl] at H; exact H
     clear H
     have H := H1
     clear H1
     by_cases c40 : t320 = true
     ·subst c40
      have H1 : (if t325 = true then (if t330 = true then (if t334 = true then (if t338 = true then ((Zal.f k t305 t306 t310).bind fun t339 => (if t339 = true then ((Zal.f k t305 t306 t335).bind fun t340 => (if t340 = true then (if (t313.length : Int) = (t310.length : Int) then (if t321 = t305 then ((Za0.f k t322 t306).bind fun t341 => (laws_FnValues.j0 k t310 t313 t317 t327 t331 (!t341) t305 t306)) else (laws_FnValues.j0 k t310 t313 t317 t327 t331 true t305 t306)) else (laws_FnValues.j0 k t310 t313 t317 t327 t331 true t305 t306)) else (laws_FnValues.j0 k t310 t313 t317 t327 t331 true t305 t306))) else (laws_FnValues.j0 k t310 t313 t317 t327 t331 true t305 t306))) else (laws_FnValues.j0 k t310 t313 t317 t327 t331 true t305 t306)) else (laws_FnValues.j0 k t310 t313 t317 t327 t331 true t305 t306)) else (laws_FnValues.j0 k t310 t313 t317 t327 t331 true t305 t306)) else (laws_FnValues.j0 k t310 t313 t317 t327 t331 true t305 t306)) = some r := by rw [if_pos rfl] at H; exact H
      clear H
      have H := H1
      clear H1
      by_cases c41 : t325 = true
      ·subst c41
       have H1 : (if t330 = true then (if t334 = true then (if t338 = true then ((Zal.f k t305 t306 t310).bind fun t339 => (if t339 = true then ((Zal.f k t305 t306 t335).bind fun t340 => (if t340 = true then (if (t313.length : Int) = (t310.length : Int) then (if t321 = t305 then ((Za0.f k t322 t306).bind fun t341 => (laws_FnValues.j0 k t310 t313 t317 t327 t331 (!t341) t305 t306)) else (laws_FnValues.j0 k t310 t313 t317 t327 t331 true t305 t306)) else (laws_FnValues.j0 k t310 t313 t317 t327 t331 true t305 t306)) else (laws_FnValues.j0 k t310 t313 t317 t327 t331 true t305 t306))) else (laws_FnValues.j0 k t310 t313 t317 t327 t331 true t305 t306))) else (laws_FnValues.j0 k t310 t313 t317 t327 t331 true t305 t306)) else (laws_FnValues.j0 k t310 t313 t317 t327 t331 true t305 t306)) else (laws_FnValues.j0 k t310 t313 t317 t327 t331 true t305 t306)) = some r := by rw [if_pos rfl] at H; exact H
       clear H
       have H := H1
       clear H1
       by_cases c42 : t330 = true
       ·subst c42
        have H1 : (if t334 = true then (if t338 = true then ((Zal.f k t305 t306 t310).bind fun t339 => (if t339 = true then ((Zal.f k t305 t306 t335).bind fun t340 => (if t340 = true then (if (t313.length : Int) = (t310.length : Int) then (if t321 = t305 then ((Za0.f k t322 t306).bind fun t341 => (laws_FnValues.j0 k t310 t313 t317 t327 t331 (!t341) t305 t306)) else (laws_FnValues.j0 k t310 t313 t317 t327 t331 true t305 t306)) else (laws_FnValues.j0 k t310 t313 t317 t327 t331 true t305 t306)) else (laws_FnValues.j0 k t310 t313 t317 t327 t331 true t305 t306))) else (laws_FnValues.j0 k t310 t313 t317 t327 t331 true t305 t306))) else (laws_FnValues.j0 k t310 t313 t317 t327 t331 true t305 t306)) else (laws_FnValues.j0 k t310 t313 t317 t327 t331 true t305 t306)) = some r := by rw [if_pos rfl] at H; exact H
        clear H
        have H := H1
        clear H1
        by_cases c43 : t334 = true
        ·subst c43
         have H1 : (if t338 = true then ((Zal.f k t305 t306 t310).bind fun t339 => (if t339 = true then ((Zal.f k t305 t306 t335).bind fun t340 => (if t340 = true then (if (t313.length : Int) = (t310.length : Int) then (if t321 = t305 then ((Za0.f k t322 t306).bind fun t341 => (laws_FnValues.j0 k t310 t313 t317 t327 t331 (!t341) t305 t306)) else (laws_FnValues.j0 k t310 t313 t317 t327 t331 true t305 t306)) else (laws_FnValues.j0 k t310 t313 t317 t327 t331 true t305 t306)) else (laws_FnValues.j0 k t310 t313 t317 t327 t331 true t305 t306))) else (laws_FnValues.j0 k t310 t313 t317 t327 t331 true t305 t306))) else (laws_FnValues.j0 k t310 t313 t317 t327 t331 true t305 t306)) = some r := by rw [if_pos rfl] at H; exact H
         clear H
         have H := H1
         clear H1
         by_cases c44 : t338 = true
         ·subst c44
          have H1 : ((Zal.f k t305 t306 t310).bind fun t339 => (if t339 = true then ((Zal.f k t305 t306 t335).bind fun t340 => (if t340 = true then (if (t313.length : Int) = (t310.length : Int) then (if t321 = t305 then ((Za0.f k t322 t306).bind fun t341 => (laws_FnValues.j0 k t310 t313 t317 t327 t331 (!t341) t305 t306)) else (laws_FnValues.j0 k t310 t313 t317 t327 t331 true t305 t306)) else (laws_FnValues.j0 k t310 t313 t317 t327 t331 true t305 t306)) else (laws_FnValues.j0 k t310 t313 t317 t327 t331 true t305 t306))) else (laws_FnValues.j0 k t310 t313 t317 t327 t331 true t305 t306))) = some r := by rw [if_pos rfl] at H; exact H
          clear H
          have H := H1
          clear H1
          replace H := Option.bind_eq_some_iff.mp H
          obtain ⟨t339, A450, H⟩ := H
          replace H : (if t339 = true then ((Zal.f k t305 t306 t335).bind fun t340 => (if t340 = true then (if (t313.length : Int) = (t310.length : Int) then (if t321 = t305 then ((Za0.f k t322 t306).bind fun t341 => (laws_FnValues.j0 k t310 t313 t317 t327 t331 (!t341) t305 t306)) else (laws_FnValues.j0 k t310 t313 t317 t327 t331 true t305 t306)) else (laws_FnValues.j0 k t310 t313 t317 t327 t331 true t305 t306)) else (laws_FnValues.j0 k t310 t313 t317 t327 t331 true t305 t306))) else (laws_FnValues.j0 k t310 t313 t317 t327 t331 true t305 t306)) = some r := H
          have A45 := Zad.mk A450
          clear A450
          by_cases c46 : t339 = true
          ·subst c46
           have H1 : ((Zal.f k t305 t306 t335).bind fun t340 => (if t340 = true then (if (t313.length : Int) = (t310.length : Int) then (if t321 = t305 then ((Za0.f k t322 t306).bind fun t341 => (laws_FnValues.j0 k t310 t313 t317 t327 t331 (!t341) t305 t306)) else (laws_FnValues.j0 k t310 t313 t317 t327 t331 true t305 t306)) else (laws_FnValues.j0 k t310 t313 t317 t327 t331 true t305 t306)) else (laws_FnValues.j0 k t310 t313 t317 t327 t331 true t305 t306))) = some r := by rw [if_pos rfl] at H; exact H
           clear H
           have H := H1
           clear H1
           replace H := Option.bind_eq_some_iff.mp H
           obtain ⟨t340, A470, H⟩ := H
           replace H : (if t340 = true then (if (t313.length : Int) = (t310.length : Int) then (if t321 = t305 then ((Za0.f k t322 t306).bind fun t341 => (laws_FnValues.j0 k t310 t313 t317 t327 t331 (!t341) t305 t306)) else (laws_FnValues.j0 k t310 t313 t317 t327 t331 true t305 t306)) else (laws_FnValues.j0 k t310 t313 t317 t327 t331 true t305 t306)) else (laws_FnValues.j0 k t310 t313 t317 t327 t331 true t305 t306)) = some r := H
           have A47 := Zad.mk A470
           clear A470
           by_cases c48 : t340 = true
           ·subst c48
            have H1 : (if (t313.length : Int) = (t310.length : Int) then (if t321 = t305 then ((Za0.f k t322 t306).bind fun t341 => (laws_FnValues.j0 k t310 t313 t317 t327 t331 (!t341) t305 t306)) else (laws_FnValues.j0 k t310 t313 t317 t327 t331 true t305 t306)) else (laws_FnValues.j0 k t310 t313 t317 t327 t331 true t305 t306)) = some r := by rw [if_pos rfl] at H; exact H
            clear H
            have H := H1
            clear H1
            by_cases c49 : (t313.length : Int) = (t310.length : Int)
            ·rw [if_pos c49] at H
             have c49b0 : ((t313.length : Int) == (t310.length : Int)) = true := beq_iff_eq.mpr c49
             have c49b1 : ((t313.length : Int) != (t310.length : Int)) = false := bne_eq_false_iff_eq.mpr c49
             have c49b2 : (t313.length == t310.length) = true := by first | simpa using c49 | (simp at c49 ⊢; omega)
             clear c49
             (first | rw [c49b0] | (simp only [i64_w, i32_w]; rw [c49b0]) | skip)
             by_cases c50 : t321 = t305
             ·rw [if_pos c50] at H
              have c50b0 : (t321 == t305) = true := beq_iff_eq.mpr c50
              have c50b1 : (t321 != t305) = false := bne_eq_false_iff_eq.mpr c50
              clear c50
              replace H := Option.bind_eq_some_iff.mp H
              obtain ⟨t341, A510, H⟩ := H
              replace H : (laws_FnValues.j0 k t310 t313 t317 t327 t331 (!t341) t305 t306) = some r := H
              have A51 := Zad.mk A510
              clear A510
              have H' := Zad.mk H
              clear H
              have hnb52 := NB309_326.out
              have hnc52 := NB326_309.out
              have hcz53_0 : w37.cell? ⟨gb309, 0, none⟩ = some (.int .i64 t305) := (Zaj BK309.out 0).trans rfl
              have hcz53_1 : w37.cell? ⟨gb309, 1, none⟩ = some (.slice Ao18 t306.length co18) := (Zaj BK309.out 1).trans rfl
              have hfz53_0 := Zai BK309.out 0
              have hfz53_1 := Zai BK309.out 1
              as_aux_lemma =>
               go_wp2_with (first | (go_at_call 14; (with_reducible refine (Zal.calls k t305 _ _ t306 _ _ t310 true _ ?side1 ?side2 ?side3 ?side4 A45.out).mono ?_); (case side1 => repeat (first | exact (Kd.R_reads' HO308.out).2.2 | (with_reducible refine Kd.C_alloc ?_ _) | (with_reducible refine Kd.C_drewN ?_ _) | (with_reducible refine Kd.C_drew ?_))); (case side2 => exact (Kd.R_reads' HO308.out).2.1); (case side3 => repeat (first | exact (Kd.R_reads' HO312.out).2.2 | (with_reducible refine Kd.C_alloc ?_ _) | (with_reducible refine Kd.C_drewN ?_ _) | (with_reducible refine Kd.C_drew ?_))); (case side4 => exact (Kd.R_reads' HO312.out).2.1); rintro e w54 ⟨rfl, hb⟩; have n0_ := Zad.mk (Kd.R_below (by (with_reducible repeat (first | apply Kd.R_alloc | apply Kd.R_drewN | apply Kd.R_drew)); exact HO308.out) hb); have n1_ := Zad.mk (Kd.R_below (by (with_reducible repeat (first | apply Kd.R_alloc | apply Kd.R_drewN | apply Kd.R_drew)); exact HO312.out) hb); have n2_ := Zad.mk (Kd.R_below (by (with_reducible repeat (first | apply Kd.R_alloc | apply Kd.R_drewN | apply Kd.R_drew)); exact HO315.out) hb); have n3_ := Zad.mk (Kd.R_below (by (with_reducible repeat (first | apply Kd.R_alloc | apply Kd.R_drewN | apply Kd.R_drew)); exact HO324.out) hb); have n4_ := Zad.mk (Kd.R_below (by (with_reducible repeat (first | apply Kd.R_alloc | apply Kd.R_drewN | apply Kd.R_drew)); exact HO329.out) hb); have n5_ := Zad.mk (Kd.R_below (by (with_reducible repeat (first | apply Kd.R_alloc | apply Kd.R_drewN | apply Kd.R_drew)); exact HO333.out) hb); have n6_ := Zad.mk (Kd.R_below (by (with_reducible repeat (first | apply Kd.R_alloc | apply Kd.R_drewN | apply Kd.R_drew)); exact HO337.out) hb); have n7_ := Zad.mk (Zap (g := gb309) (o := .cells #[.int .i64 t305, .slice Ao18 t306.length co18] 26 (0, 0)) (by (with_reducible repeat (first | refine Zag ?_ _ | refine Zah ?_ | refine Zaf ?_ _)); exact BK309.out) hb); have n8_ := Zad.mk (Zap (g := gb326) (o := .cells #[.int .i64 t321, .slice Ao31 t322.length co31] 26 (0, 0)) (by (with_reducible repeat (first | refine Zag ?_ _ | refine Zah ?_ | refine Zaf ?_ _)); exact BK326.out) hb); have n9_ := Zad.mk (Zak (by repeat (first | (with_reducible first | exact HB.out | apply Zac | apply Zaa | apply Zab | refine Zae ?_ GE309.out | refine Zae ?_ GE326.out) | exact HB.out)) hb); clear HO308; clear HO312; clear HO315; clear HO324; clear HO329; clear HO333; clear HO337; clear BK309; clear BK326; clear HB; have HO308 := n0_; have HO312 := n1_; have HO315 := n2_; have HO324 := n3_; have HO329 := n4_; have HO333 := n5_; have HO337 := n6_; have BK309 := n7_; have BK326 := n8_; have HB := n9_; clear n0_ n1_ n2_ n3_ n4_ n5_ n6_ n7_ n8_ n9_; (try clear hb); (try clear hb2); (try clear hk); (try clear hi); have hcz55_0 : w54.cell? ⟨gb309, 0, none⟩ = some (.int .i64 t305) := (Zaj BK309.out 0).trans rfl; have hcz55_1 : w54.cell? ⟨gb309, 1, none⟩ = some (.slice Ao18 t306.length co18) := (Zaj BK309.out 1).trans rfl; have hfz55_0 := Zai BK309.out 0; have hfz55_1 := Zai BK309.out 1; obtain ⟨Ao56, co56, eo56⟩ := Kd.R_slice HO337.out; subst eo56) | (go_at_call 14; (with_reducible refine (Zal.calls k t305 _ _ t306 _ _ t335 true _ ?side1 ?side2 ?side3 ?side4 A47.out).mono ?_); (case side1 => repeat (first | exact (Kd.R_reads' HO308.out).2.2 | (with_reducible refine Kd.C_alloc ?_ _) | (with_reducible refine Kd.C_drewN ?_ _) | (with_reducible refine Kd.C_drew ?_))); (case side2 => exact (Kd.R_reads' HO308.out).2.1); (case side3 => repeat (first | exact (Kd.R_reads' HO337.out).2.2 | (with_reducible refine Kd.C_alloc ?_ _) | (with_reducible refine Kd.C_drewN ?_ _) | (with_reducible refine Kd.C_drew ?_))); (case side4 => exact (Kd.R_reads' HO337.out).2.1); rintro e w57 ⟨rfl, hb⟩; have n0_ := Zad.mk (Kd.R_below (by (with_reducible repeat (first | apply Kd.R_alloc | apply Kd.R_drewN | apply Kd.R_drew)); exact HO308.out) hb); have n1_ := Zad.mk (Kd.R_below (by (with_reducible repeat (first | apply Kd.R_alloc | apply Kd.R_drewN | apply Kd.R_drew)); exact HO312.out) hb); have n2_ := Zad.mk (Kd.R_below (by (with_reducible repeat (first | apply Kd.R_alloc | apply Kd.R_drewN | apply Kd.R_drew)); exact HO315.out) hb); have n3_ := Zad.mk (Kd.R_below (by (with_reducible repeat (first | apply Kd.R_alloc | apply Kd.R_drewN | apply Kd.R_drew)); exact HO324.out) hb); have n4_ := Zad.mk (Kd.R_below (by (with_reducible repeat (first | apply Kd.R_alloc | apply Kd.R_drewN | apply Kd.R_drew)); exact HO329.out) hb); have n5_ := Zad.mk (Kd.R_below (by (with_reducible repeat (first | apply Kd.R_alloc | apply Kd.R_drewN | apply Kd.R_drew)); exact HO333.out) hb); have n6_ := Zad.mk (Kd.R_below (by (with_reducible repeat (first | apply Kd.R_alloc | apply Kd.R_drewN | apply Kd.R_drew)); exact HO337.out) hb); have n7_ := Zad.mk (Zap (g := gb309) (o := .cells #[.int .i64 t305, .slice Ao18 t306.length co18] 26 (0, 0)) (by (with_reducible repeat (first | refine Zag ?_ _ | refine Zah ?_ | refine Zaf ?_ _)); exact BK309.out) hb); have n8_ := Zad.mk (Zap (g := gb326) (o := .cells #[.int .i64 t321, .slice Ao31 t322.length co31] 26 (0, 0)) (by (with_reducible repeat (first | refine Zag ?_ _ | refine Zah ?_ | refine Zaf ?_ _)); exact BK326.out) hb); have n9_ := Zad.mk (Zak (by repeat (first | (with_reducible first | exact HB.out | apply Zac | apply Zaa | apply Zab | refine Zae ?_ GE309.out | refine Zae ?_ GE326.out) | exact HB.out)) hb); clear HO308; clear HO312; clear HO315; clear HO324; clear HO329; clear HO333; clear HO337; clear BK309; clear BK326; clear HB; have HO308 := n0_; have HO312 := n1_; have HO315 := n2_; have HO324 := n3_; have HO329 := n4_; have HO333 := n5_; have HO337 := n6_; have BK309 := n7_; have BK326 := n8_; have HB := n9_; clear n0_ n1_ n2_ n3_ n4_ n5_ n6_ n7_ n8_ n9_; (try clear hb); (try clear hb2); (try clear hk); (try clear hi); obtain ⟨Ao58, co58, eo58⟩ := Kd.R_slice HO315.out; subst eo58; have hcz59_0 : w57.cell? ⟨gb326, 0, none⟩ = some (.int .i64 t321) := (Zaj BK326.out 0).trans rfl; have hcz59_1 : w57.cell? ⟨gb326, 1, none⟩ = some (.slice Ao31 t322.length co31) := (Zaj BK326.out 1).trans rfl; have hfz59_0 := Zai BK326.out 0; have hfz59_1 := Zai BK326.out 1; have hcz60_0 : w57.cell? ⟨gb309, 0, none⟩ = some (.int .i64 t305) := (Zaj BK309.out 0).trans rfl; have hcz60_1 : w57.cell? ⟨gb309, 1, none⟩ = some (.slice Ao18 t306.length co18) := (Zaj BK309.out 1).trans rfl; have hfz60_0 := Zai BK309.out 0; have hfz60_1 := Zai BK309.out 1) | (go_at_call 15; (with_reducible refine (Za0.calls k _ _ t322 _ _ t306 t341 _ ?side1 ?side2 ?side3 ?side4 A51.out).mono ?_); (case side1 => repeat (first | exact (Kd.R_reads' HO324.out).2.2 | (with_reducible refine Kd.C_alloc ?_ _) | (with_reducible refine Kd.C_drewN ?_ _) | (with_reducible refine Kd.C_drew ?_))); (case side2 => exact (Kd.R_reads' HO324.out).2.1); (case side3 => repeat (first | exact (Kd.R_reads' HO308.out).2.2 | (with_reducible refine Kd.C_alloc ?_ _) | (with_reducible refine Kd.C_drewN ?_ _) | (with_reducible refine Kd.C_drew ?_))); (case side4 => exact (Kd.R_reads' HO308.out).2.1); rintro e w' ⟨rfl, ⟨nd, rfl⟩⟩))
               go_meet
               case rel => exact ⟨_, (!t341), (by first | rfl | (simp; done) | (simp [*]; done) | (simp [IntWalk.i64_left, *]; done)), H', ⟨by first | omega | exact Nat.le_refl _⟩, ⟨by (with_reducible repeat (first | apply Kd.R_alloc | apply Kd.R_drewN | apply Kd.R_drew)); exact Kd.R_mono HO312.out (fun _ hk => ⟨hk.1.1.1.1.2, ⟨hk.1.1.2, ⟨hk.1.2, ⟨hk.1.1.1.1.1.2, hk.1.1.1.2⟩⟩⟩⟩)⟩, ⟨by (with_reducible repeat (first | apply Kd.R_alloc | apply Kd.R_drewN | apply Kd.R_drew)); exact Kd.R_mono HO315.out (fun _ hk => ⟨hk.1.1.1.1.2, ⟨hk.1.1.2, ⟨hk.1.2, ⟨hk.1.1.1.1.1.2, hk.1.1.1.2⟩⟩⟩⟩)⟩, ⟨by (with_reducible repeat (first | apply Kd.R_alloc | apply Kd.R_drewN | apply Kd.R_drew)); exact Kd.R_mono HO329.out (fun _ hk => ⟨hk.1.1.1.1.2, ⟨hk.1.1.1.2, ⟨hk.1.2, ⟨hk.1.1.1.1.1.2, hk.1.1.2⟩⟩⟩⟩)⟩, ⟨by (with_reducible repeat (first | apply Kd.R_alloc | apply Kd.R_drewN | apply Kd.R_drew)); exact Kd.R_mono HO333.out (fun _ hk => ⟨hk.1.1.1.1.2, ⟨hk.1.1.1.2, ⟨hk.1.2, ⟨hk.1.1.1.1.1.2, hk.1.1.2⟩⟩⟩⟩)⟩, ⟨by (with_reducible repeat (first | apply Kd.R_alloc | apply Kd.R_drewN | apply Kd.R_drew)); exact Kd.R_mono HO308.out (fun _ hk => ⟨hk.1.1.1.1.1.2, ⟨hk.1.1.1.1.2, ⟨hk.1.1.2, ⟨hk.1.2, hk.1.1.1.2⟩⟩⟩⟩)⟩, ⟨by (with_reducible repeat (first | apply Kd.R_alloc | apply Kd.R_drewN | apply Kd.R_drew)); exact Kd.R_mono HO324.out (fun _ hk => ⟨hk.1.1.1.1.2, ⟨hk.1.1.1.2, ⟨hk.1.1.2, ⟨hk.1.2, hk.1.1.1.1.1.2⟩⟩⟩⟩)⟩, ⟨by (with_reducible repeat (first | refine Zag ?_ _ | refine Zah ?_ | refine Zaf ?_ _)); exact BK309.out⟩, ⟨by (with_reducible repeat (first | refine Zag ?_ _ | refine Zah ?_ | refine Zaf ?_ _)); exact BK326.out⟩, ⟨by repeat (first | (with_reducible first | exact HB.out | apply Zac | apply Zaa | apply Zab | refine Zae ?_ GE309.out | refine Zae ?_ GE326.out) | exact HB.out)⟩⟩
             ·rw [if_neg c50] at H
              have c50b0 : (t321 == t305) = false := beq_eq_false_iff_ne.mpr c50
              have c50b1 : (t321 != t305) = true := bne_iff_ne.mpr c50
              have H' := Zad.mk H
              clear H
              have hnb61 := NB309_326.out
              have hnc61 := NB326_309.out
              have hcz62_0 : w37.cell? ⟨gb309, 0, none⟩ = some (.int .i64 t305) := (Zaj BK309.out 0).trans rfl
              have hcz62_1 : w37.cell? ⟨gb309, 1, none⟩ = some (.slice Ao18 t306.length co18) := (Zaj BK309.out 1).trans rfl
              have hfz62_0 := Zai BK309.out 0
              have hfz62_1 := Zai BK309.out 1
              as_aux_lemma =>
               go_wp2_with (first | (go_at_call 14; (with_reducible refine (Zal.calls k t305 _ _ t306 _ _ t310 true _ ?side1 ?side2 ?side3 ?side4 A45.out).mono ?_); (case side1 => repeat (first | exact (Kd.R_reads' HO308.out).2.2 | (with_reducible refine Kd.C_alloc ?_ _) | (with_reducible refine Kd.C_drewN ?_ _) | (with_reducible refine Kd.C_drew ?_))); (case side2 => exact (Kd.R_reads' HO308.out).2.1); (case side3 => repeat (first | exact (Kd.R_reads' HO312.out).2.2 | (with_reducible refine Kd.C_alloc ?_ _) | (with_reducible refine Kd.C_drewN ?_ _) | (with_reducible refine Kd.C_drew ?_))); (case side4 => exact (Kd.R_reads' HO312.out).2.1); rintro e w63 ⟨rfl, hb⟩; have n0_ := Zad.mk (Kd.R_below (by (with_reducible repeat (first | apply Kd.R_alloc | apply Kd.R_drewN | apply Kd.R_drew)); exact HO308.out) hb); have n1_ := Zad.mk (Kd.R_below (by (with_reducible repeat (first | apply Kd.R_alloc | apply Kd.R_drewN | apply Kd.R_drew)); exact HO312.out) hb); have n2_ := Zad.mk (Kd.R_below (by (with_reducible repeat (first | apply Kd.R_alloc | apply Kd.R_drewN | apply Kd.R_drew)); exact HO315.out) hb); have n3_ := Zad.mk (Kd.R_below (by (with_reducible repeat (first | apply Kd.R_alloc | apply Kd.R_drewN | apply Kd.R_drew)); exact HO324.out) hb); have n4_ := Zad.mk (Kd.R_below (by (with_reducible repeat (first | apply Kd.R_alloc | apply Kd.R_drewN | apply Kd.R_drew)); exact HO329.out) hb); have n5_ := Zad.mk (Kd.R_below (by (with_reducible repeat (first | apply Kd.R_alloc | apply Kd.R_drewN | apply Kd.R_drew)); exact HO333.out) hb); have n6_ := Zad.mk (Kd.R_below (by (with_reducible repeat (first | apply Kd.R_alloc | apply Kd.R_drewN | apply Kd.R_drew)); exact HO337.out) hb); have n7_ := Zad.mk (Zap (g := gb309) (o := .cells #[.int .i64 t305, .slice Ao18 t306.length co18] 26 (0, 0)) (by (with_reducible repeat (first | refine Zag ?_ _ | refine Zah ?_ | refine Zaf ?_ _)); exact BK309.out) hb); have n8_ := Zad.mk (Zap (g := gb326) (o := .cells #[.int .i64 t321, .slice Ao31 t322.length co31] 26 (0, 0)) (by (with_reducible repeat (first | refine Zag ?_ _ | refine Zah ?_ | refine Zaf ?_ _)); exact BK326.out) hb); have n9_ := Zad.mk (Zak (by repeat (first | (with_reducible first | exact HB.out | apply Zac | apply Zaa | apply Zab | refine Zae ?_ GE309.out | refine Zae ?_ GE326.out) | exact HB.out)) hb); clear HO308; clear HO312; clear HO315; clear HO324; clear HO329; clear HO333; clear HO337; clear BK309; clear BK326; clear HB; have HO308 := n0_; have HO312 := n1_; have HO315 := n2_; have HO324 := n3_; have HO329 := n4_; have HO333 := n5_; have HO337 := n6_; have BK309 := n7_; have BK326 := n8_; have HB := n9_; clear n0_ n1_ n2_ n3_ n4_ n5_ n6_ n7_ n8_ n9_; (try clear hb); (try clear hb2); (try clear hk); (try clear hi); have hcz64_0 : w63.cell? ⟨gb309, 0, none⟩ = some (.int .i64 t305) := (Zaj BK309.out 0).trans rfl; have hcz64_1 : w63.cell? ⟨gb309, 1, none⟩ = some (.slice Ao18 t306.length co18) := (Zaj BK309.out 1).trans rfl; have hfz64_0 := Zai BK309.out 0; have hfz64_1 := Zai BK309.out 1; obtain ⟨Ao65, co65, eo65⟩ := Kd.R_slice HO337.out; subst eo65) | (go_at_call 14; (with_reducible refine (Zal.calls k t305 _ _ t306 _ _ t335 true _ ?side1 ?side2 ?side3 ?side4 A47.out).mono ?_); (case side1 => repeat (first | exact (Kd.R_reads' HO308.out).2.2 | (with_reducible refine Kd.C_alloc ?_ _) | (with_reducible refine Kd.C_drewN ?_ _) | (with_reducible refine Kd.C_drew ?_))); (case side2 => exact (Kd.R_reads' HO308.out).2.1); (case side3 => repeat (first | exact (Kd.R_reads' HO337.out).2.2 | (with_reducible refine Kd.C_alloc ?_ _) | (with_reducible refine Kd.C_drewN ?_ _) | (with_reducible refine Kd.C_drew ?_))); (case side4 => exact (Kd.R_reads' HO337.out).2.1); rintro e w66 ⟨rfl, hb⟩; have n0_ := Zad.mk (Kd.R_below (by (with_reducible repeat (first | apply Kd.R_alloc | apply Kd.R_drewN | apply Kd.R_drew)); exact HO308.out) hb); have n1_ := Zad.mk (Kd.R_below (by (with_reducible repeat (first | apply Kd.R_alloc | apply Kd.R_drewN | apply Kd.R_drew)); exact HO312.out) hb); have n2_ := Zad.mk (Kd.R_below (by (with_reducible repeat (first | apply Kd.R_alloc | apply Kd.R_drewN | apply Kd.R_drew)); exact HO315.out) hb); have n3_ := Zad.mk (Kd.R_below (by (with_reducible repeat (first | apply Kd.R_alloc | apply Kd.R_drewN | apply Kd.R_drew)); exact HO324.out) hb); have n4_ := Zad.mk (Kd.R_below (by (with_reducible repeat (first | apply Kd.R_alloc | apply Kd.R_drewN | apply Kd.R_drew)); exact HO329.out) hb); have n5_ := Zad.mk (Kd.R_below (by (with_reducible repeat (first | apply Kd.R_alloc | apply Kd.R_drewN | apply Kd.R_drew)); exact HO333.out) hb); have n6_ := Zad.mk (Kd.R_below (by (with_reducible repeat (first | apply Kd.R_alloc | apply Kd.R_drewN | apply Kd.R_drew)); exact HO337.out) hb); have n7_ := Zad.mk (Zap (g := gb309) (o := .cells #[.int .i64 t305, .slice Ao18 t306.length co18] 26 (0, 0)) (by (with_reducible repeat (first | refine Zag ?_ _ | refine Zah ?_ | refine Zaf ?_ _)); exact BK309.out) hb); have n8_ := Zad.mk (Zap (g := gb326) (o := .cells #[.int .i64 t321, .slice Ao31 t322.length co31] 26 (0, 0)) (by (with_reducible repeat (first | refine Zag ?_ _ | refine Zah ?_ | refine Zaf ?_ _)); exact BK326.out) hb); have n9_ := Zad.mk (Zak (by repeat (first | (with_reducible first | exact HB.out | apply Zac | apply Zaa | apply Zab | refine Zae ?_ GE309.out | refine Zae ?_ GE326.out) | exact HB.out)) hb); clear HO308; clear HO312; clear HO315; clear HO324; clear HO329; clear HO333; clear HO337; clear BK309; clear BK326; clear HB; have HO308 := n0_; have HO312 := n1_; have HO315 := n2_; have HO324 := n3_; have HO329 := n4_; have HO333 := n5_; have HO337 := n6_; have BK309 := n7_; have BK326 := n8_; have HB := n9_; clear n0_ n1_ n2_ n3_ n4_ n5_ n6_ n7_ n8_ n9_; (try clear hb); (try clear hb2); (try clear hk); (try clear hi); obtain ⟨Ao67, co67, eo67⟩ := Kd.R_slice HO315.out; subst eo67; have hcz68_0 : w66.cell? ⟨gb326, 0, none⟩ = some (.int .i64 t321) := (Zaj BK326.out 0).trans rfl; have hcz68_1 : w66.cell? ⟨gb326, 1, none⟩ = some (.slice Ao31 t322.length co31) := (Zaj BK326.out 1).trans rfl; have hfz68_0 := Zai BK326.out 0; have hfz68_1 := Zai BK326.out 1; have hcz69_0 : w66.cell? ⟨gb309, 0, none⟩ = some (.int .i64 t305) := (Zaj BK309.out 0).trans rfl; have hcz69_1 : w66.cell? ⟨gb309, 1, none⟩ = some (.slice Ao18 t306.length co18) := (Zaj BK309.out 1).trans rfl; have hfz69_0 := Zai BK309.out 0; have hfz69_1 := Zai BK309.out 1))
               go_meet
               case rel => exact ⟨_, (true), (by first | rfl | (simp; done) | (simp [*]; done) | (simp [IntWalk.i64_left, *]; done)), H', ⟨by first | omega | exact Nat.le_refl _⟩, ⟨by (with_reducible repeat (first | apply Kd.R_alloc | apply Kd.R_drewN | apply Kd.R_drew)); exact Kd.R_mono HO312.out (fun _ hk => ⟨hk.1.1.1.1.2, ⟨hk.1.1.2, ⟨hk.1.2, ⟨hk.1.1.1.1.1.2, hk.1.1.1.2⟩⟩⟩⟩)⟩, ⟨by (with_reducible repeat (first | apply Kd.R_alloc | apply Kd.R_drewN | apply Kd.R_drew)); exact Kd.R_mono HO315.out (fun _ hk => ⟨hk.1.1.1.1.2, ⟨hk.1.1.2, ⟨hk.1.2, ⟨hk.1.1.1.1.1.2, hk.1.1.1.2⟩⟩⟩⟩)⟩, ⟨by (with_reducible repeat (first | apply Kd.R_alloc | apply Kd.R_drewN | apply Kd.R_drew)); exact Kd.R_mono HO329.out (fun _ hk => ⟨hk.1.1.1.1.2, ⟨hk.1.1.1.2, ⟨hk.1.2, ⟨hk.1.1.1.1.1.2, hk.1.1.2⟩⟩⟩⟩)⟩, ⟨by (with_reducible repeat (first | apply Kd.R_alloc | apply Kd.R_drewN | apply Kd.R_drew)); exact Kd.R_mono HO333.out (fun _ hk => ⟨hk.1.1.1.1.2, ⟨hk.1.1.1.2, ⟨hk.1.2, ⟨hk.1.1.1.1.1.2, hk.1.1.2⟩⟩⟩⟩)⟩, ⟨by (with_reducible repeat (first | apply Kd.R_alloc | apply Kd.R_drewN | apply Kd.R_drew)); exact Kd.R_mono HO308.out (fun _ hk => ⟨hk.1.1.1.1.1.2, ⟨hk.1.1.1.1.2, ⟨hk.1.1.2, ⟨hk.1.2, hk.1.1.1.2⟩⟩⟩⟩)⟩, ⟨by (with_reducible repeat (first | apply Kd.R_alloc | apply Kd.R_drewN | apply Kd.R_drew)); exact Kd.R_mono HO324.out (fun _ hk => ⟨hk.1.1.1.1.2, ⟨hk.1.1.1.2, ⟨hk.1.1.2, ⟨hk.1.2, hk.1.1.1.1.1.2⟩⟩⟩⟩)⟩, ⟨by (with_reducible repeat (first | refine Zag ?_ _ | refine Zah ?_ | refine Zaf ?_ _)); exact BK309.out⟩, ⟨by (with_reducible repeat (first | refine Zag ?_ _ | refine Zah ?_ | refine Zaf ?_ _)); exact BK326.out⟩, ⟨by repeat (first | (with_reducible first | exact HB.out | apply Zac | apply Zaa | apply Zab | refine Zae ?_ GE309.out | refine Zae ?_ GE326.out) | exact HB.out)⟩⟩
            ·rw [if_neg c49] at H
             have c49b0 : ((t313.length : Int) == (t310.length : Int)) = false := beq_eq_false_iff_ne.mpr c49
             have c49b1 : ((t313.length : Int) != (t310.length : Int)) = true := bne_iff_ne.mpr c49
             have c49b2 : (t313.length == t310.length) = false := by first | simpa using c49 | (simp at c49 ⊢; omega)
             (first | rw [c49b0] | (simp only [i64_w, i32_w]; rw [c49b0]) | skip)
             have H' := Zad.mk H
             clear H
             have hnb70 := NB309_326.out
             have hnc70 := NB326_309.out
             have hcz71_0 : w37.cell? ⟨gb309, 0, none⟩ = some (.int .i64 t305) := (Zaj BK309.out 0).trans rfl
             have hcz71_1 : w37.cell? ⟨gb309, 1, none⟩ = some (.slice Ao18 t306.length co18) := (Zaj BK309.out 1).trans rfl
             have hfz71_0 := Zai BK309.out 0
             have hfz71_1 := Zai BK309.out 1
             as_aux_lemma =>
              go_wp2_with (first | (go_at_call 14; (with_reducible refine (Zal.calls k t305 _ _ t306 _ _ t310 true _ ?side1 ?side2 ?side3 ?side4 A45.out).mono ?_); (case side1 => repeat (first | exact (Kd.R_reads' HO308.out).2.2 | (with_reducible refine Kd.C_alloc ?_ _) | (with_reducible refine Kd.C_drewN ?_ _) | (with_reducible refine Kd.C_drew ?_))); (case side2 => exact (Kd.R_reads' HO308.out).2.1); (case side3 => repeat (first | exact (Kd.R_reads' HO312.out).2.2 | (with_reducible refine Kd.C_alloc ?_ _) | (with_reducible refine Kd.C_drewN ?_ _) | (with_reducible refine Kd.C_drew ?_))); (case side4 => exact (Kd.R_reads' HO312.out).2.1); rintro e w72 ⟨rfl, hb⟩; have n0_ := Zad.mk (Kd.R_below (by (with_reducible repeat (first | apply Kd.R_alloc | apply Kd.R_drewN | apply Kd.R_drew)); exact HO308.out) hb); have n1_ := Zad.mk (Kd.R_below (by (with_reducible repeat (first | apply Kd.R_alloc | apply Kd.R_drewN | apply Kd.R_drew)); exact HO312.out) hb); have n2_ := Zad.mk (Kd.R_below (by (with_reducible repeat (first | apply Kd.R_alloc | apply Kd.R_drewN | apply Kd.R_drew)); exact HO315.out) hb); have n3_ := Zad.mk (Kd.R_below (by (with_reducible repeat (first | apply Kd.R_alloc | apply Kd.R_drewN | apply Kd.R_drew)); exact HO324.out) hb); have n4_ := Zad.mk (Kd.R_below (by (with_reducible repeat (first | apply Kd.R_alloc | apply Kd.R_drewN | apply Kd.R_drew)); exact HO329.out) hb); have n5_ := Zad.mk (Kd.R_below (by (with_reducible repeat (first | apply Kd.R_alloc | apply Kd.R_drewN | apply Kd.R_drew)); exact HO333.out) hb); have n6_ := Zad.mk (Kd.R_below (by (with_reducible repeat (first | apply Kd.R_alloc | apply Kd.R_drewN | apply Kd.R_drew)); exact HO337.out) hb); have n7_ := Zad.mk (Zap (g := gb309) (o := .cells #[.int .i64 t305, .slice Ao18 t306.length co18] 26 (0, 0)) (by (with_reducible repeat (first | refine Zag ?_ _ | refine Zah ?_ | refine Zaf ?_ _)); exact BK309.out) hb); have n8_ := Zad.mk (Zap (g := gb326) (o := .cells #[.int .i64 t321, .slice Ao31 t322.length co31] 26 (0, 0)) (by (with_reducible repeat (first | refine Zag ?_ _ | refine Zah ?_ | refine Zaf ?_ _)); exact BK326.out) hb); have n9_ := Zad.mk (Zak (by repeat (first | (with_reducible first | exact HB.out | apply Zac | apply Zaa | apply Zab | refine Zae ?_ GE309.out | refine Zae ?_ GE326.out) | exact HB.out)) hb); clear HO308; clear HO312; clear HO315; clear HO324; clear HO329; clear HO333; clear HO337; clear BK309; clear BK326; clear HB; have HO308 := n0_; have HO312 := n1_; have HO315 := n2_; have HO324 := n3_; have HO329 := n4_; have HO333 := n5_; have HO337 := n6_; have BK309 := n7_; have BK326 := n8_; have HB := n9_; clear n0_ n1_ n2_ n3_ n4_ n5_ n6_ n7_ n8_ n9_; (try clear hb); (try clear hb2); (try clear hk); (try clear hi); have hcz73_0 : w72.cell? ⟨gb309, 0, none⟩ = some (.int .i64 t305) := (Zaj BK309.out 0).trans rfl; have hcz73_1 : w72.cell? ⟨gb309, 1, none⟩ = some (.slice Ao18 t306.length co18) := (Zaj BK309.out 1).trans rfl; have hfz73_0 := Zai BK309.out 0; have hfz73_1 := Zai BK309.out 1; obtain ⟨Ao74, co74, eo74⟩ := Kd.R_slice HO337.out; subst eo74) | (go_at_call 14; (with_reducible refine (Zal.calls k t305 _ _ t306 _ _ t335 true _ ?side1 ?side2 ?side3 ?side4 A47.out).mono ?_); (case side1 => repeat (first | exact (Kd.R_reads' HO308.out).2.2 | (with_reducible refine Kd.C_alloc ?_ _) | (with_reducible refine Kd.C_drewN ?_ _) | (with_reducible refine Kd.C_drew ?_))); (case side2 => exact (Kd.R_reads' HO308.out).2.1); (case side3 => repeat (first | exact (Kd.R_reads' HO337.out).2.2 | (with_reducible refine Kd.C_alloc ?_ _) | (with_reducible refine Kd.C_drewN ?_ _) | (with_reducible refine Kd.C_drew ?_))); (case side4 => exact (Kd.R_reads' HO337.out).2.1); rintro e w75 ⟨rfl, hb⟩; have n0_ := Zad.mk (Kd.R_below (by (with_reducible repeat (first | apply Kd.R_alloc | apply Kd.R_drewN | apply Kd.R_drew)); exact HO308.out) hb); have n1_ := Zad.mk (Kd.R_below (by (with_reducible repeat (first | apply Kd.R_alloc | apply Kd.R_drewN | apply Kd.R_drew)); exact HO312.out) hb); have n2_ := Zad.mk (Kd.R_below (by (with_reducible repeat (first | apply Kd.R_alloc | apply Kd.R_drewN | apply Kd.R_drew)); exact HO315.out) hb); have n3_ := Zad.mk (Kd.R_below (by (with_reducible repeat (first | apply Kd.R_alloc | apply Kd.R_drewN | apply Kd.R_drew)); exact HO324.out) hb); have n4_ := Zad.mk (Kd.R_below (by (with_reducible repeat (first | apply Kd.R_alloc | apply Kd.R_drewN | apply Kd.R_drew)); exact HO329.out) hb); have n5_ := Zad.mk (Kd.R_below (by (with_reducible repeat (first | apply Kd.R_alloc | apply Kd.R_drewN | apply Kd.R_drew)); exact HO333.out) hb); have n6_ := Zad.mk (Kd.R_below (by (with_reducible repeat (first | apply Kd.R_alloc | apply Kd.R_drewN | apply Kd.R_drew)); exact HO337.out) hb); have n7_ := Zad.mk (Zap (g := gb309) (o := .cells #[.int .i64 t305, .slice Ao18 t306.length co18] 26 (0, 0)) (by (with_reducible repeat (first | refine Zag ?_ _ | refine Zah ?_ | refine Zaf ?_ _)); exact BK309.out) hb); have n8_ := Zad.mk (Zap (g := gb326) (o := .cells #[.int .i64 t321, .slice Ao31 t322.length co31] 26 (0, 0)) (by (with_reducible repeat (first | refine Zag ?_ _ | refine Zah ?_ | refine Zaf ?_ _)); exact BK326.out) hb); have n9_ := Zad.mk (Zak (by repeat (first | (with_reducible first | exact HB.out | apply Zac | apply Zaa | apply Zab | refine Zae ?_ GE309.out | refine Zae ?_ GE326.out) | exact HB.out)) hb); clear HO308; clear HO312; clear HO315; clear HO324; clear HO329; clear HO333; clear HO337; clear BK309; clear BK326; clear HB; have HO308 := n0_; have HO312 := n1_; have HO315 := n2_; have HO324 := n3_; have HO329 := n4_; have HO333 := n5_; have HO337 := n6_; have BK309 := n7_; have BK326 := n8_; have HB := n9_; clear n0_ n1_ n2_ n3_ n4_ n5_ n6_ n7_ n8_ n9_; (try clear hb); (try clear hb2); (try clear hk); (try clear hi); obtain ⟨Ao76, co76, eo76⟩ := Kd.R_slice HO315.out; subst eo76))
              go_meet
              case rel => exact ⟨_, (true), (by first | rfl | (simp; done) | (simp [*]; done) | (simp [IntWalk.i64_left, *]; done)), H', ⟨by first | omega | exact Nat.le_refl _⟩, ⟨by (with_reducible repeat (first | apply Kd.R_alloc | apply Kd.R_drewN | apply Kd.R_drew)); exact Kd.R_mono HO312.out (fun _ hk => ⟨hk.1.1.1.1.2, ⟨hk.1.1.2, ⟨hk.1.2, ⟨hk.1.1.1.1.1.2, hk.1.1.1.2⟩⟩⟩⟩)⟩, ⟨by (with_reducible repeat (first | apply Kd.R_alloc | apply Kd.R_drewN | apply Kd.R_drew)); exact Kd.R_mono HO315.out (fun _ hk => ⟨hk.1.1.1.1.2, ⟨hk.1.1.2, ⟨hk.1.2, ⟨hk.1.1.1.1.1.2, hk.1.1.1.2⟩⟩⟩⟩)⟩, ⟨by (with_reducible repeat (first | apply Kd.R_alloc | apply Kd.R_drewN | apply Kd.R_drew)); exact Kd.R_mono HO329.out (fun _ hk => ⟨hk.1.1.1.1.2, ⟨hk.1.1.1.2, ⟨hk.1.2, ⟨hk.1.1.1.1.1.2, hk.1.1.2⟩⟩⟩⟩)⟩, ⟨by (with_reducible repeat (first | apply Kd.R_alloc | apply Kd.R_drewN | apply Kd.R_drew)); exact Kd.R_mono HO333.out (fun _ hk => ⟨hk.1.1.1.1.2, ⟨hk.1.1.1.2, ⟨hk.1.2, ⟨hk.1.1.1.1.1.2, hk.1.1.2⟩⟩⟩⟩)⟩, ⟨by (with_reducible repeat (first | apply Kd.R_alloc | apply Kd.R_drewN | apply Kd.R_drew)); exact Kd.R_mono HO308.out (fun _ hk => ⟨hk.1.1.1.1.1.2, ⟨hk.1.1.1.1.2, ⟨hk.1.1.2, ⟨hk.1.2, hk.1.1.1.2⟩⟩⟩⟩)⟩, ⟨by (with_reducible repeat (first | apply Kd.R_alloc | apply Kd.R_drewN | apply Kd.R_drew)); exact Kd.R_mono HO324.out (fun _ hk => ⟨hk.1.1.1.1.2, ⟨hk.1.1.1.2, ⟨hk.1.1.2, ⟨hk.1.2, hk.1.1.1.1.1.2⟩⟩⟩⟩)⟩, ⟨by (with_reducible repeat (first | refine Zag ?_ _ | refine Zah ?_ | refine Zaf ?_ _)); exact BK309.out⟩, ⟨by (with_reducible repeat (first | refine Zag ?_ _ | refine Zah ?_ | refine Zaf ?_ _)); exact BK326.out⟩, ⟨by repeat (first | (with_reducible first | exact HB.out | apply Zac | apply Zaa | apply Zab | refine Zae ?_ GE309.out | refine Zae ?_ GE326.out) | exact HB.out)⟩⟩
           ·replace c48 := Bool.eq_false_iff.mpr c48
            subst c48
            have H1 : (laws_FnValues.j0 k t310 t313 t317 t327 t331 true t305 t306) = some r := by rw [if_neg (show ¬ (false = true) by decide)] at H; exact H
            clear H
            have H := H1
            clear H1
            have H' := Zad.mk H
            clear H
            have hnb77 := NB309_326.out
            have hnc77 := NB326_309.out
            have hcz78_0 : w37.cell? ⟨gb309, 0, none⟩ = some (.int .i64 t305) := (Zaj BK309.out 0).trans rfl
            have hcz78_1 : w37.cell? ⟨gb309, 1, none⟩ = some (.slice Ao18 t306.length co18) := (Zaj BK309.out 1).trans rfl
            have hfz78_0 := Zai BK309.out 0
            have hfz78_1 := Zai BK309.out 1
            as_aux_lemma =>
             go_wp2_with (first | (go_at_call 14; (with_reducible refine (Zal.calls k t305 _ _ t306 _ _ t310 true _ ?side1 ?side2 ?side3 ?side4 A45.out).mono ?_); (case side1 => repeat (first | exact (Kd.R_reads' HO308.out).2.2 | (with_reducible refine Kd.C_alloc ?_ _) | (with_reducible refine Kd.C_drewN ?_ _) | (with_reducible refine Kd.C_drew ?_))); (case side2 => exact (Kd.R_reads' HO308.out).2.1); (case side3 => repeat (first | exact (Kd.R_reads' HO312.out).2.2 | (with_reducible refine Kd.C_alloc ?_ _) | (with_reducible refine Kd.C_drewN ?_ _) | (with_reducible refine Kd.C_drew ?_))); (case side4 => exact (Kd.R_reads' HO312.out).2.1); rintro e w79 ⟨rfl, hb⟩; have n0_ := Zad.mk (Kd.R_below (by (with_reducible repeat (first | apply Kd.R_alloc | apply Kd.R_drewN | apply Kd.R_drew)); exact HO308.out) hb); have n1_ := Zad.mk (Kd.R_below (by (with_reducible repeat (first | apply Kd.R_alloc | apply Kd.R_drewN | apply Kd.R_drew)); exact HO312.out) hb); have n2_ := Zad.mk (Kd.R_below (by (with_reducible repeat (first | apply Kd.R_alloc | apply Kd.R_drewN | apply Kd.R_drew)); exact HO315.out) hb); have n3_ := Zad.mk (Kd.R_below (by (with_reducible repeat (first | apply Kd.R_alloc | apply Kd.R_drewN | apply Kd.R_drew)); exact HO324.out) hb); have n4_ := Zad.mk (Kd.R_below (by (with_reducible repeat (first | apply Kd.R_alloc | apply Kd.R_drewN | apply Kd.R_drew)); exact HO329.out) hb); have n5_ := Zad.mk (Kd.R_below (by (with_reducible repeat (first | apply Kd.R_alloc | apply Kd.R_drewN | apply Kd.R_drew)); exact HO333.out) hb); have n6_ := Zad.mk (Kd.R_below (by (with_reducible repeat (first | apply Kd.R_alloc | apply Kd.R_drewN | apply Kd.R_drew)); exact HO337.out) hb); have n7_ := Zad.mk (Zap (g := gb309) (o := .cells #[.int .i64 t305, .slice Ao18 t306.length co18] 26 (0, 0)) (by (with_reducible repeat (first | refine Zag ?_ _ | refine Zah ?_ | refine Zaf ?_ _)); exact BK309.out) hb); have n8_ := Zad.mk (Zap (g := gb326) (o := .cells #[.int .i64 t321, .slice Ao31 t322.length co31] 26 (0, 0)) (by (with_reducible repeat (first | refine Zag ?_ _ | refine Zah ?_ | refine Zaf ?_ _)); exact BK326.out) hb); have n9_ := Zad.mk (Zak (by repeat (first | (with_reducible first | exact HB.out | apply Zac | apply Zaa | apply Zab | refine Zae ?_ GE309.out | refine Zae ?_ GE326.out) | exact HB.out)) hb); clear HO308; clear HO312; clear HO315; clear HO324; clear HO329; clear HO333; clear HO337; clear BK309; clear BK326; clear HB; have HO308 := n0_; have HO312 := n1_; have HO315 := n2_; have HO324 := n3_; have HO329 := n4_; have HO333 := n5_; have HO337 := n6_; have BK309 := n7_; have BK326 := n8_; have HB := n9_; clear n0_ n1_ n2_ n3_ n4_ n5_ n6_ n7_ n8_ n9_; (try clear hb); (try clear hb2); (try clear hk); (try clear hi); have hcz80_0 : w79.cell? ⟨gb309, 0, none⟩ = some (.int .i64 t305) := (Zaj BK309.out 0).trans rfl; have hcz80_1 : w79.cell? ⟨gb309, 1, none⟩ = some (.slice Ao18 t306.length co18) := (Zaj BK309.out 1).trans rfl; have hfz80_0 := Zai BK309.out 0; have hfz80_1 := Zai BK309.out 1; obtain ⟨Ao81, co81, eo81⟩ := Kd.R_slice HO337.out; subst eo81) | (go_at_call 14; (with_reducible refine (Zal.calls k t305 _ _ t306 _ _ t335 false _ ?side1 ?side2 ?side3 ?side4 A47.out).mono ?_); (case side1 => repeat (first | exact (Kd.R_reads' HO308.out).2.2 | (with_reducible refine Kd.C_alloc ?_ _) | (with_reducible refine Kd.C_drewN ?_ _) | (with_reducible refine Kd.C_drew ?_))); (case side2 => exact (Kd.R_reads' HO308.out).2.1); (case side3 => repeat (first | exact (Kd.R_reads' HO337.out).2.2 | (with_reducible refine Kd.C_alloc ?_ _) | (with_reducible refine Kd.C_drewN ?_ _) | (with_reducible refine Kd.C_drew ?_))); (case side4 => exact (Kd.R_reads' HO337.out).2.1); rintro e w82 ⟨rfl, hb⟩; have n0_ := Zad.mk (Kd.R_below (by (with_reducible repeat (first | apply Kd.R_alloc | apply Kd.R_drewN | apply Kd.R_drew)); exact HO308.out) hb); have n1_ := Zad.mk (Kd.R_below (by (with_reducible repeat (first | apply Kd.R_alloc | apply Kd.R_drewN | apply Kd.R_drew)); exact HO312.out) hb); have n2_ := Zad.mk (Kd.R_below (by (with_reducible repeat (first | apply Kd.R_alloc | apply Kd.R_drewN | apply Kd.R_drew)); exact HO315.out) hb); have n3_ := Zad.mk (Kd.R_below (by (with_reducible repeat (first | apply Kd.R_alloc | apply Kd.R_drewN | apply Kd.R_drew)); exact HO324.out) hb); have n4_ := Zad.mk (Kd.R_below (by (with_reducible repeat (first | apply Kd.R_alloc | apply Kd.R_drewN | apply Kd.R_drew)); exact HO329.out) hb); have n5_ := Zad.mk (Kd.R_below (by (with_reducible repeat (first | apply Kd.R_alloc | apply Kd.R_drewN | apply Kd.R_drew)); exact HO333.out) hb); have n6_ := Zad.mk (Kd.R_below (by (with_reducible repeat (first | apply Kd.R_alloc | apply Kd.R_drewN | apply Kd.R_drew)); exact HO337.out) hb); have n7_ := Zad.mk (Zap (g := gb309) (o := .cells #[.int .i64 t305, .slice Ao18 t306.length co18] 26 (0, 0)) (by (with_reducible repeat (first | refine Zag ?_ _ | refine Zah ?_ | refine Zaf ?_ _)); exact BK309.out) hb); have n8_ := Zad.mk (Zap (g := gb326) (o := .cells #[.int .i64 t321, .slice Ao31 t322.length co31] 26 (0, 0)) (by (with_reducible repeat (first | refine Zag ?_ _ | refine Zah ?_ | refine Zaf ?_ _)); exact BK326.out) hb); have n9_ := Zad.mk (Zak (by repeat (first | (with_reducible first | exact HB.out | apply Zac | apply Zaa | apply Zab | refine Zae ?_ GE309.out | refine Zae ?_ GE326.out) | exact HB.out)) hb); clear HO308; clear HO312; clear HO315; clear HO324; clear HO329; clear HO333; clear HO337; clear BK309; clear BK326; clear HB; have HO308 := n0_; have HO312 := n1_; have HO315 := n2_; have HO324 := n3_; have HO329 := n4_; have HO333 := n5_; have HO337 := n6_; have BK309 := n7_; have BK326 := n8_; have HB := n9_; clear n0_ n1_ n2_ n3_ n4_ n5_ n6_ n7_ n8_ n9_; (try clear hb); (try clear hb2); (try clear hk); (try clear hi)))
             go_meet
             case rel => exact ⟨_, (true), (by first | rfl | (simp; done) | (simp [*]; done) | (simp [IntWalk.i64_left, *]; done)), H', ⟨by first | omega | exact Nat.le_refl _⟩, ⟨by (with_reducible repeat (first | apply Kd.R_alloc | apply Kd.R_drewN | apply Kd.R_drew)); exact Kd.R_mono HO312.out (fun _ hk => ⟨hk.1.1.1.1.2, ⟨hk.1.1.2, ⟨hk.1.2, ⟨hk.1.1.1.1.1.2, hk.1.1.1.2⟩⟩⟩⟩)⟩, ⟨by (with_reducible repeat (first | apply Kd.R_alloc | apply Kd.R_drewN | apply Kd.R_drew)); exact Kd.R_mono HO315.out (fun _ hk => ⟨hk.1.1.1.1.2, ⟨hk.1.1.2, ⟨hk.1.2, ⟨hk.1.1.1.1.1.2, hk.1.1.1.2⟩⟩⟩⟩)⟩, ⟨by (with_reducible repeat (first | apply Kd.R_alloc | apply Kd.R_drewN | apply Kd.R_drew)); exact Kd.R_mono HO329.out (fun _ hk => ⟨hk.1.1.1.1.2, ⟨hk.1.1.1.2, ⟨hk.1.2, ⟨hk.1.1.1.1.1.2, hk.1.1.2⟩⟩⟩⟩)⟩, ⟨by (with_reducible repeat (first | apply Kd.R_alloc | apply Kd.R_drewN | apply Kd.R_drew)); exact Kd.R_mono HO333.out (fun _ hk => ⟨hk.1.1.1.1.2, ⟨hk.1.1.1.2, ⟨hk.1.2, ⟨hk.1.1.1.1.1.2, hk.1.1.2⟩⟩⟩⟩)⟩, ⟨by (with_reducible repeat (first | apply Kd.R_alloc | apply Kd.R_drewN | apply Kd.R_drew)); exact Kd.R_mono HO308.out (fun _ hk => ⟨hk.1.1.1.1.1.2, ⟨hk.1.1.1.1.2, ⟨hk.1.1.2, ⟨hk.1.2, hk.1.1.1.2⟩⟩⟩⟩)⟩, ⟨by (with_reducible repeat (first | apply Kd.R_alloc | apply Kd.R_drewN | apply Kd.R_drew)); exact Kd.R_mono HO324.out (fun _ hk => ⟨hk.1.1.1.1.2, ⟨hk.1.1.1.2, ⟨hk.1.1.2, ⟨hk.1.2, hk.1.1.1.1.1.2⟩⟩⟩⟩)⟩, ⟨by (with_reducible repeat (first | refine Zag ?_ _ | refine Zah ?_ | refine Zaf ?_ _)); exact BK309.out⟩, ⟨by (with_reducible repeat (first | refine Zag ?_ _ | refine Zah ?_ | refine Zaf ?_ _)); exact BK326.out⟩, ⟨by repeat (first | (with_reducible first | exact HB.out | apply Zac | apply Zaa | apply Zab | refine Zae ?_ GE309.out | refine Zae ?_ GE326.out) | exact HB.out)⟩⟩
          ·replace c46 := Bool.eq_false_iff.mpr c46
           subst c46
           have H1 : (laws_FnValues.j0 k t310 t313 t317 t327 t331 true t305 t306) = some r := by rw [if_neg (show ¬ (false = true) by decide)] at H; exact H
           clear H
           have H := H1
           clear H1
           have H' := Zad.mk H
           clear H
           have hnb83 := NB309_326.out
           have hnc83 := NB326_309.out
           have hcz84_0 : w37.cell? ⟨gb309, 0, none⟩ = some (.int .i64 t305) := (Zaj BK309.out 0).trans rfl
           have hcz84_1 : w37.cell? ⟨gb309, 1, none⟩ = some (.slice Ao18 t306.length co18) := (Zaj BK309.out 1).trans rfl
           have hfz84_0 := Zai BK309.out 0
           have hfz84_1 := Zai BK309.out 1
           as_aux_lemma =>
            go_wp2_with (first | (go_at_call 14; (with_reducible refine (Zal.calls k t305 _ _ t306 _ _ t310 false _ ?side1 ?side2 ?side3 ?side4 A45.out).mono ?_); (case side1 => repeat (first | exact (Kd.R_reads' HO308.out).2.2 | (with_reducible refine Kd.C_alloc ?_ _) | (with_reducible refine Kd.C_drewN ?_ _) | (with_reducible refine Kd.C_drew ?_))); (case side2 => exact (Kd.R_reads' HO308.out).2.1); (case side3 => repeat (first | exact (Kd.R_reads' HO312.out).2.2 | (with_reducible refine Kd.C_alloc ?_ _) | (with_reducible refine Kd.C_drewN ?_ _) | (with_reducible refine Kd.C_drew ?_))); (case side4 => exact (Kd.R_reads' HO312.out).2.1); rintro e w85 ⟨rfl, hb⟩; have n0_ := Zad.mk (Kd.R_below (by (with_reducible repeat (first | apply Kd.R_alloc | apply Kd.R_drewN | apply Kd.R_drew)); exact HO308.out) hb); have n1_ := Zad.mk (Kd.R_below (by (with_reducible repeat (first | apply Kd.R_alloc | apply Kd.R_drewN | apply Kd.R_drew)); exact HO312.out) hb); have n2_ := Zad.mk (Kd.R_below (by (with_reducible repeat (first | apply Kd.R_alloc | apply Kd.R_drewN | apply Kd.R_drew)); exact HO315.out) hb); have n3_ := Zad.mk (Kd.R_below (by (with_reducible repeat (first | apply Kd.R_alloc | apply Kd.R_drewN | apply Kd.R_drew)); exact HO324.out) hb); have n4_ := Zad.mk (Kd.R_below (by (with_reducible repeat (first | apply Kd.R_alloc | apply Kd.R_drewN | apply Kd.R_drew)); exact HO329.out) hb); have n5_ := Zad.mk (Kd.R_below (by (with_reducible repeat (first | apply Kd.R_alloc | apply Kd.R_drewN | apply Kd.R_drew)); exact HO333.out) hb); have n6_ := Zad.mk (Kd.R_below (by (with_reducible repeat (first | apply Kd.R_alloc | apply Kd.R_drewN | apply Kd.R_drew)); exact HO337.out) hb); have n7_ := Zad.mk (Zap (g := gb309) (o := .cells #[.int .i64 t305, .slice Ao18 t306.length co18] 26 (0, 0)) (by (with_reducible repeat (first | refine Zag ?_ _ | refine Zah ?_ | refine Zaf ?_ _)); exact BK309.out) hb); have n8_ := Zad.mk (Zap (g := gb326) (o := .cells #[.int .i64 t321, .slice Ao31 t322.length co31] 26 (0, 0)) (by (with_reducible repeat (first | refine Zag ?_ _ | refine Zah ?_ | refine Zaf ?_ _)); exact BK326.out) hb); have n9_ := Zad.mk (Zak (by repeat (first | (with_reducible first | exact HB.out | apply Zac | apply Zaa | apply Zab | refine Zae ?_ GE309.out | refine Zae ?_ GE326.out) | exact HB.out)) hb); clear HO308; clear HO312; clear HO315; clear HO324; clear HO329; clear HO333; clear HO337; clear BK309; clear BK326; clear HB; have HO308 := n0_; have HO312 := n1_; have HO315 := n2_; have HO324 := n3_; have HO329 := n4_; have HO333 := n5_; have HO337 := n6_; have BK309 := n7_; have BK326 := n8_; have HB := n9_; clear n0_ n1_ n2_ n3_ n4_ n5_ n6_ n7_ n8_ n9_; (try clear hb); (try clear hb2); (try clear hk); (try clear hi)))
            go_meet
            case rel => exact ⟨_, (true), (by first | rfl | (simp; done) | (simp [*]; done) | (simp [IntWalk.i64_left, *]; done)), H', ⟨by first | omega | exact Nat.le_refl _⟩, ⟨by (with_reducible repeat (first | apply Kd.R_alloc | apply Kd.R_drewN | apply Kd.R_drew)); exact Kd.R_mono HO312.out (fun _ hk => ⟨hk.1.1.1.1.2, ⟨hk.1.1.2, ⟨hk.1.2, ⟨hk.1.1.1.1.1.2, hk.1.1.1.2⟩⟩⟩⟩)⟩, ⟨by (with_reducible repeat (first | apply Kd.R_alloc | apply Kd.R_drewN | apply Kd.R_drew)); exact Kd.R_mono HO315.out (fun _ hk => ⟨hk.1.1.1.1.2, ⟨hk.1.1.2, ⟨hk.1.2, ⟨hk.1.1.1.1.1.2, hk.1.1.1.2⟩⟩⟩⟩)⟩, ⟨by (with_reducible repeat (first | apply Kd.R_alloc | apply Kd.R_drewN | apply Kd.R_drew)); exact Kd.R_mono HO329.out (fun _ hk => ⟨hk.1.1.1.1.2, ⟨hk.1.1.1.2, ⟨hk.1.2, ⟨hk.1.1.1.1.1.2, hk.1.1.2⟩⟩⟩⟩)⟩, ⟨by (with_reducible repeat (first | apply Kd.R_alloc | apply Kd.R_drewN | apply Kd.R_drew)); exact Kd.R_mono HO333.out (fun _ hk => ⟨hk.1.1.1.1.2, ⟨hk.1.1.1.2, ⟨hk.1.2, ⟨hk.1.1.1.1.1.2, hk.1.1.2⟩⟩⟩⟩)⟩, ⟨by (with_reducible repeat (first | apply Kd.R_alloc | apply Kd.R_drewN | apply Kd.R_drew)); exact Kd.R_mono HO308.out (fun _ hk => ⟨hk.1.1.1.1.1.2, ⟨hk.1.1.1.1.2, ⟨hk.1.1.2, ⟨hk.1.2, hk.1.1.1.2⟩⟩⟩⟩)⟩, ⟨by (with_reducible repeat (first | apply Kd.R_alloc | apply Kd.R_drewN | apply Kd.R_drew)); exact Kd.R_mono HO324.out (fun _ hk => ⟨hk.1.1.1.1.2, ⟨hk.1.1.1.2, ⟨hk.1.1.2, ⟨hk.1.2, hk.1.1.1.1.1.2⟩⟩⟩⟩)⟩, ⟨by (with_reducible repeat (first | refine Zag ?_ _ | refine Zah ?_ | refine Zaf ?_ _)); exact BK309.out⟩, ⟨by (with_reducible repeat (first | refine Zag ?_ _ | refine Zah ?_ | refine Zaf ?_ _)); exact BK326.out⟩, ⟨by repeat (first | (with_reducible first | exact HB.out | apply Zac | apply Zaa | apply Zab | refine Zae ?_ GE309.out | refine Zae ?_ GE326.out) | exact HB.out)⟩⟩
         ·replace c44 := Bool.eq_false_iff.mpr c44
          subst c44
          have H1 : (laws_FnValues.j0 k t310 t313 t317 t327 t331 true t305 t306) = some r := by rw [if_neg (show ¬ (false = true) by decide)] at H; exact H
          clear H
          have H := H1
          clear H1
          have H' := Zad.mk H
          clear H
          as_aux_lemma =>
           go_wp2
           go_meet
           case rel => exact ⟨_, (true), (by first | rfl | (simp; done) | (simp [*]; done) | (simp [IntWalk.i64_left, *]; done)), H', ⟨by first | omega | exact Nat.le_refl _⟩, ⟨by (with_reducible repeat (first | apply Kd.R_alloc | apply Kd.R_drewN | apply Kd.R_drew)); exact Kd.R_mono HO312.out (fun _ hk => ⟨hk.1.1.1.1.2, ⟨hk.1.1.2, ⟨hk.1.2, ⟨hk.1.1.1.1.1.2, hk.1.1.1.2⟩⟩⟩⟩)⟩, ⟨by (with_reducible repeat (first | apply Kd.R_alloc | apply Kd.R_drewN | apply Kd.R_drew)); exact Kd.R_mono HO315.out (fun _ hk => ⟨hk.1.1.1.1.2, ⟨hk.1.1.2, ⟨hk.1.2, ⟨hk.1.1.1.1.1.2, hk.1.1.1.2⟩⟩⟩⟩)⟩, ⟨by (with_reducible repeat (first | apply Kd.R_alloc | apply Kd.R_drewN | apply Kd.R_drew)); exact Kd.R_mono HO329.out (fun _ hk => ⟨hk.1.1.1.1.2, ⟨hk.1.1.1.2, ⟨hk.1.2, ⟨hk.1.1.1.1.1.2, hk.1.1.2⟩⟩⟩⟩)⟩, ⟨by (with_reducible repeat (first | apply Kd.R_alloc | apply Kd.R_drewN | apply Kd.R_drew)); exact Kd.R_mono HO333.out (fun _ hk => ⟨hk.1.1.1.1.2, ⟨hk.1.1.1.2, ⟨hk.1.2, ⟨hk.1.1.1.1.1.2, hk.1.1.2⟩⟩⟩⟩)⟩, ⟨by (with_reducible repeat (first | apply Kd.R_alloc | apply Kd.R_drewN | apply Kd.R_drew)); exact Kd.R_mono HO308.out (fun _ hk => ⟨hk.1.1.1.1.1.2, ⟨hk.1.1.1.1.2, ⟨hk.1.1.2, ⟨hk.1.2, hk.1.1.1.2⟩⟩⟩⟩)⟩, ⟨by (with_reducible repeat (first | apply Kd.R_alloc | apply Kd.R_drewN | apply Kd.R_drew)); exact Kd.R_mono HO324.out (fun _ hk => ⟨hk.1.1.1.1.2, ⟨hk.1.1.1.2, ⟨hk.1.1.2, ⟨hk.1.2, hk.1.1.1.1.1.2⟩⟩⟩⟩)⟩, ⟨by (with_reducible repeat (first | refine Zag ?_ _ | refine Zah ?_ | refine Zaf ?_ _)); exact BK309.out⟩, ⟨by (with_reducible repeat (first | refine Zag ?_ _ | refine Zah ?_ | refine Zaf ?_ _)); exact BK326.out⟩, ⟨by repeat (first | (with_reducible first | exact HB.out | apply Zac | apply Zaa | apply Zab | refine Zae ?_ GE309.out | refine Zae ?_ GE326.out) | exact HB.out)⟩⟩
        ·replace c43 := Bool.eq_false_iff.mpr c43
         subst c43
         have H1 : (laws_FnValues.j0 k t310 t313 t317 t327 t331 true t305 t306) = some r := by rw [if_neg (show ¬ (false = true) by decide)] at H; exact H
         clear H
         have H := H1
         clear H1
         have H' := Zad.mk H
         clear H
         as_aux_lemma =>
          go_wp2
          go_meet
          case rel => exact ⟨_, (true), (by first | rfl | (simp; done) | (simp [*]; done) | (simp [IntWalk.i64_left, *]; done)), H', ⟨by first | omega | exact Nat.le_refl _⟩, ⟨by (with_reducible repeat (first | apply Kd.R_alloc | apply Kd.R_drewN | apply Kd.R_drew)); exact Kd.R_mono HO312.out (fun _ hk => ⟨hk.1.1.1.1.2, ⟨hk.1.1.2, ⟨hk.1.2, ⟨hk.1.1.1.1.1.2, hk.1.1.1.2⟩⟩⟩⟩)⟩, ⟨by (with_reducible repeat (first | apply Kd.R_alloc | apply Kd.R_drewN | apply Kd.R_drew)); exact Kd.R_mono HO315.out (fun _ hk => ⟨hk.1.1.1.1.2, ⟨hk.1.1.2, ⟨hk.1.2, ⟨hk.1.1.1.1.1.2, hk.1.1.1.2⟩⟩⟩⟩)⟩, ⟨by (with_reducible repeat (first | apply Kd.R_alloc | apply Kd.R_drewN | apply Kd.R_drew)); exact Kd.R_mono HO329.out (fun _ hk => ⟨hk.1.1.1.1.2, ⟨hk.1.1.1.2, ⟨hk.1.2, ⟨hk.1.1.1.1.1.2, hk.1.1.2⟩⟩⟩⟩)⟩, ⟨by (with_reducible repeat (first | apply Kd.R_alloc | apply Kd.R_drewN | apply Kd.R_drew)); exact Kd.R_mono HO333.out (fun _ hk => ⟨hk.1.1.1.1.2, ⟨hk.1.1.1.2, ⟨hk.1.2, ⟨hk.1.1.1.1.1.2, hk.1.1.2⟩⟩⟩⟩)⟩, ⟨by (with_reducible repeat (first | apply Kd.R_alloc | apply Kd.R_drewN | apply Kd.R_drew)); exact Kd.R_mono HO308.out (fun _ hk => ⟨hk.1.1.1.1.1.2, ⟨hk.1.1.1.1.2, ⟨hk.1.1.2, ⟨hk.1.2, hk.1.1.1.2⟩⟩⟩⟩)⟩, ⟨by (with_reducible repeat (first | apply Kd.R_alloc | apply Kd.R_drewN | apply Kd.R_drew)); exact Kd.R_mono HO324.out (fun _ hk => ⟨hk.1.1.1.1.2, ⟨hk.1.1.1.2, ⟨hk.1.1.2, ⟨hk.1.2, hk.1.1.1.1.1.2⟩⟩⟩⟩)⟩, ⟨by (with_reducible repeat (first | refine Zag ?_ _ | refine Zah ?_ | refine Zaf ?_ _)); exact BK309.out⟩, ⟨by (with_reducible repeat (first | refine Zag ?_ _ | refine Zah ?_ | refine Zaf ?_ _)); exact BK326.out⟩, ⟨by repeat (first | (with_reducible first | exact HB.out | apply Zac | apply Zaa | apply Zab | refine Zae ?_ GE309.out | refine Zae ?_ GE326.out) | exact HB.out)⟩⟩
       ·replace c42 := Bool.eq_false_iff.mpr c42
        subst c42
        have H1 : (laws_FnValues.j0 k t310 t313 t317 t327 t331 true t305 t306) = some r := by rw [if_neg (show ¬ (false = true) by decide)] at H; exact H
        clear H
        have H := H1
        clear H1
        have H' := Zad.mk H
        clear H
        as_aux_lemma =>
         go_wp2
         go_meet
         case rel => exact ⟨_, (true), (by first | rfl | (simp; done) | (simp [*]; done) | (simp [IntWalk.i64_left, *]; done)), H', ⟨by first | omega | exact Nat.le_refl _⟩, ⟨by (with_reducible repeat (first | apply Kd.R_alloc | apply Kd.R_drewN | apply Kd.R_drew)); exact Kd.R_mono HO312.out (fun _ hk => ⟨hk.1.1.1.1.2, ⟨hk.1.1.2, ⟨hk.1.2, ⟨hk.1.1.1.1.1.2, hk.1.1.1.2⟩⟩⟩⟩)⟩, ⟨by (with_reducible repeat (first | apply Kd.R_alloc | apply Kd.R_drewN | apply Kd.R_drew)); exact Kd.R_mono HO315.out (fun _ hk => ⟨hk.1.1.1.1.2, ⟨hk.1.1.2, ⟨hk.1.2, ⟨hk.1.1.1.1.1.2, hk.1.1.1.2⟩⟩⟩⟩)⟩, ⟨by (with_reducible repeat (first | apply Kd.R_alloc | apply Kd.R_drewN | apply Kd.R_drew)); exact Kd.R_mono HO329.out (fun _ hk => ⟨hk.1.1.1.1.2, ⟨hk.1.1.1.2, ⟨hk.1.2, ⟨hk.1.1.1.1.1.2, hk.1.1.2⟩⟩⟩⟩)⟩, ⟨by (with_reducible repeat (first | apply Kd.R_alloc | apply Kd.R_drewN | apply Kd.R_drew)); exact Kd.R_mono HO333.out (fun _ hk => ⟨hk.1.1.1.1.2, ⟨hk.1.1.1.2, ⟨hk.1.2, ⟨hk.1.1.1.1.1.2, hk.1.1.2⟩⟩⟩⟩)⟩, ⟨by (with_reducible repeat (first | apply Kd.R_alloc | apply Kd.R_drewN | apply Kd.R_drew)); exact Kd.R_mono HO308.out (fun _ hk => ⟨hk.1.1.1.1.1.2, ⟨hk.1.1.1.1.2, ⟨hk.1.1.2, ⟨hk.1.2, hk.1.1.1.2⟩⟩⟩⟩)⟩, ⟨by (with_reducible repeat (first | apply Kd.R_alloc | apply Kd.R_drewN | apply Kd.R_drew)); exact Kd.R_mono HO324.out (fun _ hk => ⟨hk.1.1.1.1.2, ⟨hk.1.1.1.2, ⟨hk.1.1.2, ⟨hk.1.2, hk.1.1.1.1.1.2⟩⟩⟩⟩)⟩, ⟨by (with_reducible repeat (first | refine Zag ?_ _ | refine Zah ?_ | refine Zaf ?_ _)); exact BK309.out⟩, ⟨by (with_reducible repeat (first | refine Zag ?_ _ | refine Zah ?_ | refine Zaf ?_ _)); exact BK326.out⟩, ⟨by repeat (first | (with_reducible first | exact HB.out | apply Zac | apply Zaa | apply Zab | refine Zae ?_ GE309.out | refine Zae ?_ GE326.out) | exact HB.out)⟩⟩
      ·replace c41 := Bool.eq_false_iff.mpr c41
       subst c41
       have H1 : (laws_FnValues.j0 k t310 t313 t317 t327 t331 true t305 t306) = some r := by rw [if_neg (show ¬ (false = true) by decide)] at H; exact H
       clear H
       have H := H1
       clear H1
       have H' := Zad.mk H
       clear H
       as_aux_lemma =>
        go_wp2
        go_meet
        case rel => exact ⟨_, (true), (by first | rfl | (simp; done) | (simp [*]; done) | (simp [IntWalk.i64_left, *]; done)), H', ⟨by first | omega | exact Nat.le_refl _⟩, ⟨by (with_reducible repeat (first | apply Kd.R_alloc | apply Kd.R_drewN | apply Kd.R_drew)); exact Kd.R_mono HO312.out (fun _ hk => ⟨hk.1.1.1.1.2, ⟨hk.1.1.2, ⟨hk.1.2, ⟨hk.1.1.1.1.1.2, hk.1.1.1.2⟩⟩⟩⟩)⟩, ⟨by (with_reducible repeat (first | apply Kd.R_alloc | apply Kd.R_drewN | apply Kd.R_drew)); exact Kd.R_mono HO315.out (fun _ hk => ⟨hk.1.1.1.1.2, ⟨hk.1.1.2, ⟨hk.1.2, ⟨hk.1.1.1.1.1.2, hk.1.1.1.2⟩⟩⟩⟩)⟩, ⟨by (with_reducible repeat (first | apply Kd.R_alloc | apply Kd.R_drewN | apply Kd.R_drew)); exact Kd.R_mono HO329.out (fun _ hk => ⟨hk.1.1.1.1.2, ⟨hk.1.1.1.2, ⟨hk.1.2, ⟨hk.1.1.1.1.1.2, hk.1.1.2⟩⟩⟩⟩)⟩, ⟨by (with_reducible repeat (first | apply Kd.R_alloc | apply Kd.R_drewN | apply Kd.R_drew)); exact Kd.R_mono HO333.out (fun _ hk => ⟨hk.1.1.1.1.2, ⟨hk.1.1.1.2, ⟨hk.1.2, ⟨hk.1.1.1.1.1.2, hk.1.1.2⟩⟩⟩⟩)⟩, ⟨by (with_reducible repeat (first | apply Kd.R_alloc | apply Kd.R_drewN | apply Kd.R_drew)); exact Kd.R_mono HO308.out (fun _ hk => ⟨hk.1.1.1.1.1.2, ⟨hk.1.1.1.1.2, ⟨hk.1.1.2, ⟨hk.1.2, hk.1.1.1.2⟩⟩⟩⟩)⟩, ⟨by (with_reducible repeat (first | apply Kd.R_alloc | apply Kd.R_drewN | apply Kd.R_drew)); exact Kd.R_mono HO324.out (fun _ hk => ⟨hk.1.1.1.1.2, ⟨hk.1.1.1.2, ⟨hk.1.1.2, ⟨hk.1.2, hk.1.1.1.1.1.2⟩⟩⟩⟩)⟩, ⟨by (with_reducible repeat (first | refine Zag ?_ _ | refine Zah ?_ | refine Zaf ?_ _)); exact BK309.out⟩, ⟨by (with_reducible repeat (first | refine Zag ?_ _ | refine Zah ?_ | refine Zaf ?_ _)); exact BK326.out⟩, ⟨by repeat (first | (with_reducible first | exact HB.out | apply Zac | apply Zaa | apply Zab | refine Zae ?_ GE309.out | refine Zae ?_ GE326.out) | exact HB.out)⟩⟩
     ·replace c40 := Bool.eq_false_iff.mpr c40
      subst c40
      have H1 : (laws_FnValues.j0 k t310 t313 t317 t327 t331 true t305 t306) = some r := by rw [if_neg (show ¬ (false = true) by decide)] at H; exact H
      clear H
      have H := H1
      clear H1
      have H' := Zad.mk H
      clear H
      as_aux_lemma =>
       go_wp2
       go_meet
       case rel => exact ⟨_, (true), (by first | rfl | (simp; done) | (simp [*]; done) | (simp [IntWalk.i64_left, *]; done)), H', ⟨by first | omega | exact Nat.le_refl _⟩, ⟨by (with_reducible repeat (first | apply Kd.R_alloc | apply Kd.R_drewN | apply Kd.R_drew)); exact Kd.R_mono HO312.out (fun _ hk => ⟨hk.1.1.1.1.2, ⟨hk.1.1.2, ⟨hk.1.2, ⟨hk.1.1.1.1.1.2, hk.1.1.1.2⟩⟩⟩⟩)⟩, ⟨by (with_reducible repeat (first | apply Kd.R_alloc | apply Kd.R_drewN | apply Kd.R_drew)); exact Kd.R_mono HO315.out (fun _ hk => ⟨hk.1.1.1.1.2, ⟨hk.1.1.2, ⟨hk.1.2, ⟨hk.1.1.1.1.1.2, hk.1.1.1.2⟩⟩⟩⟩)⟩, ⟨by (with_reducible repeat (first | apply Kd.R_alloc | apply Kd.R_drewN | apply Kd.R_drew)); exact Kd.R_mono HO329.out (fun _ hk => ⟨hk.1.1.1.1.2, ⟨hk.1.1.1.2, ⟨hk.1.2, ⟨hk.1.1.1.1.1.2, hk.1.1.2⟩⟩⟩⟩)⟩, ⟨by (with_reducible repeat (first | apply Kd.R_alloc | apply Kd.R_drewN | apply Kd.R_drew)); exact Kd.R_mono HO333.out (fun _ hk => ⟨hk.1.1.1.1.2, ⟨hk.1.1.1.2, ⟨hk.1.2, ⟨hk.1.1.1.1.1.2, hk.1.1.2⟩⟩⟩⟩)⟩, ⟨by (with_reducible repeat (first | apply Kd.R_alloc | apply Kd.R_drewN | apply Kd.R_drew)); exact Kd.R_mono HO308.out (fun _ hk => ⟨hk.1.1.1.1.1.2, ⟨hk.1.1.1.1.2, ⟨hk.1.1.2, ⟨hk.1.2, hk.1.1.1.2⟩⟩⟩⟩)⟩, ⟨by (with_reducible repeat (first | apply Kd.R_alloc | apply Kd.R_drewN | apply Kd.R_drew)); exact Kd.R_mono HO324.out (fun _ hk => ⟨hk.1.1.1.1.2, ⟨hk.1.1.1.2, ⟨hk.1.1.2, ⟨hk.1.2, hk.1.1.1.1.1.2⟩⟩⟩⟩)⟩, ⟨by (with_reducible repeat (first | refine Zag ?_ _ | refine Zah ?_ | refine Zaf ?_ _)); exact BK309.out⟩, ⟨by (with_reducible repeat (first | refine Zag ?_ _ | refine Zah ?_ | refine Zaf ?_ _)); exact BK326.out⟩, ⟨by repeat (first | (with_reducible first | exact HB.out | apply Zac | apply Zaa | apply Zab | refine Zae ?_ GE309.out | refine Zae ?_ GE326.out) | exact HB.out)⟩⟩
    ·replace c39 := Bool.eq_false_iff.mpr c39
     subst c39
     have H1 : (laws_FnValues.j0 k t310 t313 t317 t327 t331 true t305 t306) = some r := by rw [if_neg (show ¬ (false = true) by decide)] at H; exact H
     clear H
     have H := H1
     clear H1
     have H' := Zad.mk H
     clear H
     as_aux_lemma =>
      go_wp2
      go_meet
      case rel => exact ⟨_, (true), (by first | rfl | (simp; done) | (simp [*]; done) | (simp [IntWalk.i64_left, *]; done)), H', ⟨by first | omega | exact Nat.le_refl _⟩, ⟨by (with_reducible repeat (first | apply Kd.R_alloc | apply Kd.R_drewN | apply Kd.R_drew)); exact Kd.R_mono HO312.out (fun _ hk => ⟨hk.1.1.1.1.2, ⟨hk.1.1.2, ⟨hk.1.2, ⟨hk.1.1.1.1.1.2, hk.1.1.1.2⟩⟩⟩⟩)⟩, ⟨by (with_reducible repeat (first | apply Kd.R_alloc | apply Kd.R_drewN | apply Kd.R_drew)); exact Kd.R_mono HO315.out (fun _ hk => ⟨hk.1.1.1.1.2, ⟨hk.1.1.2, ⟨hk.1.2, ⟨hk.1.1.1.1.1.2, hk.1.1.1.2⟩⟩⟩⟩)⟩, ⟨by (with_reducible repeat (first | apply Kd.R_alloc | apply Kd.R_drewN | apply Kd.R_drew)); exact Kd.R_mono HO329.out (fun _ hk => ⟨hk.1.1.1.1.2, ⟨hk.1.1.1.2, ⟨hk.1.2, ⟨hk.1.1.1.1.1.2, hk.1.1.2⟩⟩⟩⟩)⟩, ⟨by (with_reducible repeat (first | apply Kd.R_alloc | apply Kd.R_drewN | apply Kd.R_drew)); exact Kd.R_mono HO333.out (fun _ hk => ⟨hk.1.1.1.1.2, ⟨hk.1.1.1.2, ⟨hk.1.2, ⟨hk.1.1.1.1.1.2, hk.1.1.2⟩⟩⟩⟩)⟩, ⟨by (with_reducible repeat (first | apply Kd.R_alloc | apply Kd.R_drewN | apply Kd.R_drew)); exact Kd.R_mono HO308.out (fun _ hk => ⟨hk.1.1.1.1.1.2, ⟨hk.1.1.1.1.2, ⟨hk.1.1.2, ⟨hk.1.2, hk.1.1.1.2⟩⟩⟩⟩)⟩, ⟨by (with_reducible repeat (first | apply Kd.R_alloc | apply Kd.R_drewN | apply Kd.R_drew)); exact Kd.R_mono HO324.out (fun _ hk => ⟨hk.1.1.1.1.2, ⟨hk.1.1.1.2, ⟨hk.1.1.2, ⟨hk.1.2, hk.1.1.1.1.1.2⟩⟩⟩⟩)⟩, ⟨by (with_reducible repeat (first | refine Zag ?_ _ | refine Zah ?_ | refine Zaf ?_ _)); exact BK309.out⟩, ⟨by (with_reducible repeat (first | refine Zag ?_ _ | refine Zah ?_ | refine Zaf ?_ _)); exact BK326.out⟩, ⟨by repeat (first | (with_reducible first | exact HB.out | apply Zac | apply Zaa | apply Zab | refine Zae ?_ GE309.out | refine Zae ?_ GE326.out) | exact HB.out)⟩⟩
   ·replace c38 := Bool.eq_false_iff.mpr c38
    subst c38
    have H1 : (laws_FnValues.j0 k t310 t313 t317 t327 t331 true t305 t306) = some r := by rw [if_neg (show ¬ (false = true) by decide)] at H; exact H
    clear H
    have H := H1
    clear H1
    have H' := Zad.mk H
    clear H
    as_aux_lemma =>
     go_wp2
     go_meet
     case rel => exact ⟨_, (true), (by first | rfl | (simp; done) | (simp [*]; done) | (simp [IntWalk.i64_left, *]; done)), H', ⟨by first | omega | exact Nat.le_refl _⟩, ⟨by (with_reducible repeat (first | apply Kd.R_alloc | apply Kd.R_drewN | apply Kd.R_drew)); exact Kd.R_mono HO312.out (fun _ hk => ⟨hk.1.1.1.1.2, ⟨hk.1.1.2, ⟨hk.1.2, ⟨hk.1.1.1.1.1.2, hk.1.1.1.2⟩⟩⟩⟩)⟩, ⟨by (with_reducible repeat (first | apply Kd.R_alloc | apply Kd.R_drewN | apply Kd.R_drew)); exact Kd.R_mono HO315.out (fun _ hk => ⟨hk.1.1.1.1.2, ⟨hk.1.1.2, ⟨hk.1.2, ⟨hk.1.1.1.1.1.2, hk.1.1.1.2⟩⟩⟩⟩)⟩, ⟨by (with_reducible repeat (first | apply Kd.R_alloc | apply Kd.R_drewN | apply Kd.R_drew)); exact Kd.R_mono HO329.out (fun _ hk => ⟨hk.1.1.1.1.2, ⟨hk.1.1.1.2, ⟨hk.1.2, ⟨hk.1.1.1.1.1.2, hk.1.1.2⟩⟩⟩⟩)⟩, ⟨by (with_reducible repeat (first | apply Kd.R_alloc | apply Kd.R_drewN | apply Kd.R_drew)); exact Kd.R_mono HO333.out (fun _ hk => ⟨hk.1.1.1.1.2, ⟨hk.1.1.1.2, ⟨hk.1.2, ⟨hk.1.1.1.1.1.2, hk.1.1.2⟩⟩⟩⟩)⟩, ⟨by (with_reducible repeat (first | apply Kd.R_alloc | apply Kd.R_drewN | apply Kd.R_drew)); exact Kd.R_mono HO308.out (fun _ hk => ⟨hk.1.1.1.1.1.2, ⟨hk.1.1.1.1.2, ⟨hk.1.1.2, ⟨hk.1.2, hk.1.1.1.2⟩⟩⟩⟩)⟩, ⟨by (with_reducible repeat (first | apply Kd.R_alloc | apply Kd.R_drewN | apply Kd.R_drew)); exact Kd.R_mono HO324.out (fun _ hk => ⟨hk.1.1.1.1.2, ⟨hk.1.1.1.2, ⟨hk.1.1.2, ⟨hk.1.2, hk.1.1.1.1.1.2⟩⟩⟩⟩)⟩, ⟨by (with_reducible repeat (first | refine Zag ?_ _ | refine Zah ?_ | refine Zaf ?_ _)); exact BK309.out⟩, ⟨by (with_reducible repeat (first | refine Zag ?_ _ | refine Zah ?_ | refine Zaf ?_ _)); exact BK326.out⟩, ⟨by repeat (first | (with_reducible first | exact HB.out | apply Zac | apply Zaa | apply Zab | refine Zae ?_ GE309.out | refine Zae ?_ GE326.out) | exact HB.out)⟩⟩
  case rest =>
   clear HC14
   try clear c1
   try clear c2
   try clear p2
   try clear c3
   try clear c4
   try clear c5
   try clear c6
   try clear c7
   try clear c8
   try clear c9
   try clear c10
   try clear c11
   try clear c12
   try clear c13
   try clear c29
   try clear c38
   try clear c39
   try clear c40
   try clear c41
   try clear c42
   try clear c43
   try clear c44
   try clear c46
   try clear c48
   try clear c49
   try clear c49b0
   try clear c49b1
   try clear c49b2
   try clear c50
   try clear c50b0
   try clear c50b1
   try clear c52
   try clear c61
   try clear c70
   try clear c77
   try clear c83
   try clear hcz17_0
   try clear hcz17_1
   try clear hcz20_0
   try clear hcz20_1
   try clear hcz23_0
   try clear hcz23_1
   try clear hcz25_0
   try clear hcz25_1
   try clear hcz30_0
   try clear hcz30_1
   try clear hcz32_0
   try clear hcz32_1
   try clear hcz34_0
   try clear hcz34_1
   try clear hcz36_0
   try clear hcz36_1
   try clear hcz53_0
   try clear hcz53_1
   try clear hcz55_0
   try clear hcz55_1
   try clear hcz59_0
   try clear hcz59_1
   try clear hcz60_0
   try clear hcz60_1
   try clear hcz62_0
   try clear hcz62_1
   try clear hcz64_0
   try clear hcz64_1
   try clear hcz68_0
   try clear hcz68_1
   try clear hcz69_0
   try clear hcz69_1
   try clear hcz71_0
   try clear hcz71_1
   try clear hcz73_0
   try clear hcz73_1
   try clear hcz78_0
   try clear hcz78_1
   try clear hcz80_0
   try clear hcz80_1
   try clear hcz84_0
   try clear hcz84_1
   try clear hfz17_0
   try clear hfz17_1
   try clear hfz20_0
   try clear hfz20_1
   try clear hfz23_0
   try clear hfz23_1
   try clear hfz25_0
   try clear hfz25_1
   try clear hfz30_0
   try clear hfz30_1
   try clear hfz32_0
   try clear hfz32_1
   try clear hfz34_0
   try clear hfz34_1
   try clear hfz36_0
   try clear hfz36_1
   try clear hfz53_0
   try clear hfz53_1
   try clear hfz55_0
   try clear hfz55_1
   try clear hfz59_0
   try clear hfz59_1
   try clear hfz60_0
   try clear hfz60_1
   try clear hfz62_0
   try clear hfz62_1
   try clear hfz64_0
   try clear hfz64_1
   try clear hfz68_0
   try clear hfz68_1
   try clear hfz69_0
   try clear hfz69_1
   try clear hfz71_0
   try clear hfz71_1
   try clear hfz73_0
   try clear hfz73_1
   try clear hfz78_0
   try clear hfz78_1
   try clear hfz80_0
   try clear hfz80_1
   try clear hfz84_0
   try clear hfz84_1
   obtain ⟨kq, x125_13, rfl, HA, HJ13, HO_6, HO_7, HO_15, HO_17, HO_310001, HO_327001, BK309, BK326, HB⟩ := hcut
   cases kq with
   | zero => exact absurd HA.out (by simp [laws_FnValues.j0])
   | succ kj13 =>
    have H := HA.out
    clear HA
    simp only [laws_FnValues.j0] at H
    by_cases c86 : x125_13 = true
    ·subst c86
     have H1 : (some false) = some r := by rw [if_pos rfl] at H; exact H
     clear H
     have H := H1
     clear H1
     obtain rfl := Option.some.inj H
     as_aux_lemma =>
      go_wp2
      go_ret
      exact ⟨by first | rfl | (simp [Zao, Zan] <;> rfl) | (simp [*, Zao, Zan] <;> rfl), by repeat (first | (with_reducible first | exact HB.out | apply Zac | apply Zaa | apply Zab | refine Zae ?_ GE309.out | refine Zae ?_ GE326.out) | exact HB.out)⟩
    ·replace c86 := Bool.eq_false_iff.mpr c86
     subst c86
     have H1 : (laws_FnValues.l0 kj13 t310 t313 t317 t327 t331 0 t305 t306) = some r := by rw [if_neg (show ¬ (false = true) by decide)] at H; exact H
     clear H
     have H := H1
     clear H1
     have H' := Zad.mk H
     clear H
     go_wp2
     go_loopg [21] kj13 (fun kq v21 w' => ∃ (x21_2 : Int), v21 = .int .i64 x21_2 ∧ Zad (laws_FnValues.l0 kq t310 t313 t317 t327 t331 x21_2 t305 t306 = some r) ∧ Zad (kq ≤ kj13) ∧ Zad (Kd.R (Kd.int .i64) 2 w' w.heap.size (fun k_ => some k_ ≠ (v314 : Value).ownBlock ∧ some k_ ≠ (v328 : Value).ownBlock ∧ some k_ ≠ (v332 : Value).ownBlock ∧ some k_ ≠ ((.slice Ao18 t306.length co18) : Value).ownBlock ∧ some k_ ≠ ((.slice Ao31 t322.length co31) : Value).ownBlock) (.slice Ao21 t310.length co21) t310) ∧ Zad (Kd.R (Kd.int .i64) 2 w' w.heap.size (fun k_ => some k_ ≠ ((.slice Ao21 t310.length co21) : Value).ownBlock ∧ some k_ ≠ (v328 : Value).ownBlock ∧ some k_ ≠ (v332 : Value).ownBlock ∧ some k_ ≠ ((.slice Ao18 t306.length co18) : Value).ownBlock ∧ some k_ ≠ ((.slice Ao31 t322.length co31) : Value).ownBlock) v314 t313) ∧ Zad (Kd.R (Kd.int .i64) 2 w' w.heap.size (fun k_ => some k_ ≠ ((.slice Ao21 t310.length co21) : Value).ownBlock ∧ some k_ ≠ (v314 : Value).ownBlock ∧ some k_ ≠ (v332 : Value).ownBlock ∧ some k_ ≠ ((.slice Ao18 t306.length co18) : Value).ownBlock ∧ some k_ ≠ ((.slice Ao31 t322.length co31) : Value).ownBlock) v328 t327) ∧ Zad (Kd.R (Kd.int .i64) 2 w' w.heap.size (fun k_ => some k_ ≠ ((.slice Ao21 t310.length co21) : Value).ownBlock ∧ some k_ ≠ (v314 : Value).ownBlock ∧ some k_ ≠ (v328 : Value).ownBlock ∧ some k_ ≠ ((.slice Ao18 t306.length co18) : Value).ownBlock ∧ some k_ ≠ ((.slice Ao31 t322.length co31) : Value).ownBlock) v332 t331) ∧ Zad (Kd.R (Kd.int .i64) 2 w' w.heap.size (fun k_ => some k_ ≠ ((.slice Ao21 t310.length co21) : Value).ownBlock ∧ some k_ ≠ (v314 : Value).ownBlock ∧ some k_ ≠ (v328 : Value).ownBlock ∧ some k_ ≠ (v332 : Value).ownBlock ∧ some k_ ≠ ((.slice Ao31 t322.length co31) : Value).ownBlock) (.slice Ao18 t306.length co18) t306) ∧ Zad (Kd.R (Kd.int .i64) 2 w' w.heap.size (fun k_ => some k_ ≠ ((.slice Ao21 t310.length co21) : Value).ownBlock ∧ some k_ ≠ (v314 : Value).ownBlock ∧ some k_ ≠ (v328 : Value).ownBlock ∧ some k_ ≠ (v332 : Value).ownBlock ∧ some k_ ≠ ((.slice Ao18 t306.length co18) : Value).ownBlock) (.slice Ao31 t322.length co31) t322) ∧ Zad (w'.heap[gb309]? = some (.cells #[.int .i64 t305, (.slice Ao18 t306.length co18)] 26 (0, 0))) ∧ Zad (w'.heap[gb326]? = some (.cells #[.int .i64 t321, (.slice Ao31 t322.length co31)] 26 (0, 0))) ∧ Zad (Below w.heap.size w w'))
     case atStart => exact ⟨(0), (by first | rfl | (simp; done) | (simp [*]; done) | (simp [IntWalk.i64_left, *]; done)), H', ⟨Nat.le_refl _⟩, ⟨by (with_reducible repeat (first | apply Kd.R_alloc | apply Kd.R_drewN | apply Kd.R_drew)); exact HO_6.out⟩, ⟨by (with_reducible repeat (first | apply Kd.R_alloc | apply Kd.R_drewN | apply Kd.R_drew)); exact HO_7.out⟩, ⟨by (with_reducible repeat (first | apply Kd.R_alloc | apply Kd.R_drewN | apply Kd.R_drew)); exact HO_15.out⟩, ⟨by (with_reducible repeat (first | apply Kd.R_alloc | apply Kd.R_drewN | apply Kd.R_drew)); exact HO_17.out⟩, ⟨by (with_reducible repeat (first | apply Kd.R_alloc | apply Kd.R_drewN | apply Kd.R_drew)); exact HO_310001.out⟩, ⟨by (with_reducible repeat (first | apply Kd.R_alloc | apply Kd.R_drewN | apply Kd.R_drew)); exact HO_327001.out⟩, ⟨by (with_reducible repeat (first | refine Zag ?_ _ | refine Zah ?_ | refine Zaf ?_ _)); exact BK309.out⟩, ⟨by (with_reducible repeat (first | refine Zag ?_ _ | refine Zah ?_ | refine Zaf ?_ _)); exact BK326.out⟩, ⟨by repeat (first | (with_reducible first | exact HB.out | apply Zac | apply Zaa | apply Zab | refine Zae ?_ GE309.out | refine Zae ?_ GE326.out) | exact HB.out)⟩⟩
     case round =>
      clear H'
      try clear c1
      try clear c2
      try clear p2
      try clear c3
      try clear c4
      try clear c5
      try clear c6
      try clear c7
      try clear c8
      try clear c9
      try clear c10
      try clear c11
      try clear c12
      try clear c13
      try clear c29
      try clear c38
      try clear c39
      try clear c40
      try clear c41
      try clear c42
      try clear c43
      try clear c44
      try clear c46
      try clear c48
      try clear c49
      try clear c49b0
      try clear c49b1
      try clear c49b2
      try clear c50
      try clear c50b0
      try clear c50b1
      try clear c52
      try clear c61
      try clear c70
      try clear c77
      try clear c83
      try clear c86
      try clear hcz17_0
      try clear hcz17_1
      try clear hcz20_0
      try clear hcz20_1
      try clear hcz23_0
      try clear hcz23_1
      try clear hcz25_0
      try clear hcz25_1
      try clear hcz30_0
      try clear hcz30_1
      try clear hcz32_0
      try clear hcz32_1
      try clear hcz34_0
      try clear hcz34_1
      try clear hcz36_0
      try clear hcz36_1
      try clear hcz53_0
      try clear hcz53_1
      try clear hcz55_0
      try clear hcz55_1
      try clear hcz59_0
      try clear hcz59_1
      try clear hcz60_0
      try clear hcz60_1
      try clear hcz62_0
      try clear hcz62_1
      try clear hcz64_0
      try clear hcz64_1
      try clear hcz68_0
      try clear hcz68_1
      try clear hcz69_0
      try clear hcz69_1
      try clear hcz71_0
      try clear hcz71_1
      try clear hcz73_0
      try clear hcz73_1
      try clear hcz78_0
      try clear hcz78_1
      try clear hcz80_0
      try clear hcz80_1
      try clear hcz84_0
      try clear hcz84_1
      try clear hfz17_0
      try clear hfz17_1
      try clear hfz20_0
      try clear hfz20_1
      try clear hfz23_0
      try clear hfz23_1
      try clear hfz25_0
      try clear hfz25_1
      try clear hfz30_0
      try clear hfz30_1
      try clear hfz32_0
      try clear hfz32_1
      try clear hfz34_0
      try clear hfz34_1
      try clear hfz36_0
      try clear hfz36_1
      try clear hfz53_0
      try clear hfz53_1
      try clear hfz55_0
      try clear hfz55_1
      try clear hfz59_0
      try clear hfz59_1
      try clear hfz60_0
      try clear hfz60_1
      try clear hfz62_0
      try clear hfz62_1
      try clear hfz64_0
      try clear hfz64_1
      try clear hfz68_0
      try clear hfz68_1
      try clear hfz69_0
      try clear hfz69_1
      try clear hfz71_0
      try clear hfz71_1
      try clear hfz73_0
      try clear hfz73_1
      try clear hfz78_0
      try clear hfz78_1
      try clear hfz80_0
      try clear hfz80_1
      try clear hfz84_0
      try clear hfz84_1
      try clear p2
      obtain ⟨x21_2, rfl, HA, HK2, HO_6, HO_7, HO_15, HO_17, HO_310001, HO_327001, BK309, BK326, HB⟩ := hrel
      cases gk with
      | zero => exact absurd HA.out (by simp [laws_FnValues.l0])
      | succ k2 =>
       have H := HA.out
       clear HA
       simp only [laws_FnValues.l0] at H
       by_cases c87 : x21_2 < (t313.length : Int)
       ·rw [if_pos c87] at H
        have c87b0 : decide (x21_2 < (t313.length : Int)) = true := decide_eq_true c87
        clear c87
        by_cases c88 : 0 ≤ x21_2
        ·rw [if_pos c88] at H
         have c88b0 : decide (0 ≤ x21_2) = true := decide_eq_true c88
         clear c88
         replace H := Option.bind_eq_some_iff.mp H
         obtain ⟨t343, A890, H⟩ := H
         replace H : (if t343 ≥ t305 then (some false) else (if x21_2 < (t310.length : Int) then (if x21_2 < (t327.length : Int) then (if (rd t310 x21_2) < (rd t327 x21_2) then (some false) else (if x21_2 < (t331.length : Int) then (if (rd t310 x21_2) > (rd t331 x21_2) then (some false) else (laws_FnValues.l0 k2 t310 t313 t317 t327 t331 (wrap64 (x21_2 + 1)) t305 t306)) else (none))) else (none)) else (none))) = some r := H
         have A89 := Zad.mk A890
         clear A890
         by_cases c90 : t343 ≥ t305
         ·rw [if_pos c90] at H
          have c90b0 : decide (t305 ≤ t343) = true := decide_eq_true c90
          clear c90
          obtain rfl := Option.some.inj H
          obtain ⟨Ao91, co91, eo91⟩ := Kd.R_slice HO_7.out
          subst eo91
          try go_wp2
          have n0_ := Zad.mk (Kd.R_drew HO_6.out)
          have n1_ := Zad.mk (Kd.R_drew HO_7.out)
          have n2_ := Zad.mk (Kd.R_drew HO_15.out)
          have n3_ := Zad.mk (Kd.R_drew HO_17.out)
          have n4_ := Zad.mk (Kd.R_drew HO_310001.out)
          have n5_ := Zad.mk (Kd.R_drew HO_327001.out)
          have n6_ := Zad.mk (Zah BK309.out)
          have n7_ := Zad.mk (Zah BK326.out)
          have n8_ := Zad.mk (Zab HB.out)
          clear HO_6
          clear HO_7
          clear HO_15
          clear HO_17
          clear HO_310001
          clear HO_327001
          clear BK309
          clear BK326
          clear HB
          have HO_6 := n0_
          have HO_7 := n1_
          have HO_15 := n2_
          have HO_17 := n3_
          have HO_310001 := n4_
          have HO_327001 := n5_
          have BK309 := n6_
          have BK326 := n7_
          have HB := n8_
          clear n0_ n1_ n2_ n3_ n4_ n5_ n6_ n7_ n8_
          have p342 : 0 ≤ (x21_2 : Int) := of_decide_eq_true (by first | (with_reducible assumption) | assumption)
          have q342 : x21_2 < (t313.length : Int) := of_decide_eq_true (by first | (with_reducible assumption) | assumption)
          (try (obtain ⟨Aqad342, cqad342, eqad342⟩ := Kd.R_slice HO_7.out; subst eqad342))
          obtain ⟨ad342, e342, hx342_0⟩ := Kd.at_int (Kd.R_reads' HO_7.out).2.2 x21_2 p342 q342
          cases e342
          replace p342 := eq_true p342
          replace q342 := eq_true q342
          refine start_ (n := 30) (S := fun w' => w'.cell? ⟨gb309, 0, none⟩ = some (.int .i64 t305) ∧ w'.cell? ⟨gb309, 1, none⟩ = some (.slice Ao18 t306.length co18) ∧ w'.cell? (ad342.add (x21_2).toNat) = some (.int .i64 (rd t313 x21_2))) (ds := []) #[false, false, false, false, false, false, false, false, false, false, false, false, false, false, false, false, false, false, false, false, false, false, false, false, false, false, false, false, false, false] (by kernel_rfl) rfl rfl ⟨(Zaj BK309.out 0).trans rfl, (Zaj BK309.out 1).trans rfl, hx342_0⟩ (fun hHeld => ?_); refine with_tabW laws_FnValues.tab17 laws_FnValues.bits17 (fun HT_ HW_ => ?_)
          generalize wr.drew = w92 at HO_6 HO_7 HO_15 HO_17 HO_310001 HO_327001 BK309 BK326 HB hx342_0 hHeld ⊢
          refine pure_ (i := 0) (N := some 132) (v := ?_) (a' := ?_) #[true, false, false, false, false, false, false, false, false, false, false, false, false, false, false, false, false, false, false, false, false, false, false, false, false, false, false, false, false, false] rfl rfl (Zaz HT_.out (by kernel_rfl)) (fun _ _ _ h => h) (Or.inl ⟨by rfl, ?_⟩) ?_ ?_
          rotate_left
          ·intro w'
           go_simp
           with_reducible rfl
          rotate_left
          ·simp only [Act.put, ZA, ZB, ZC, i64_w, i32_w]
           rfl
          refine pure_ (i := 1) (N := some 133) (v := ?_) (a' := ?_) #[true, true, false, false, false, false, false, false, false, false, false, false, false, false, false, false, false, false, false, false, false, false, false, false, false, false, false, false, false, false] rfl rfl (Zaz HT_.out (by kernel_rfl)) (fun _ _ _ h => h) (Or.inl ⟨by rfl, ?_⟩) ?_ ?_
          rotate_left
          ·intro w'
           go_simp
           with_reducible rfl
          rotate_left
          ·simp only [Act.put, ZA, ZB, ZC, i64_w, i32_w]
           rfl
          refine pure_ (i := 2) (N := some 134) (v := ?_) (a' := ?_) #[true, true, true, false, false, false, false, false, false, false, false, false, false, false, false, false, false, false, false, false, false, false, false, false, false, false, false, false, false, false] rfl rfl (Zaz HT_.out (by kernel_rfl)) (fun _ _ _ h => h) (Or.inl ⟨by rfl, ?_⟩) ?_ ?_
          rotate_left
          ·intro w'
           go_simp
           with_reducible rfl
          rotate_left
          ·simp only [Act.put, ZA, ZB, ZC, i64_w, i32_w]
           rfl
          refine pure_ (i := 5) (N := some 137) (v := ?_) (a' := ?_) #[true, true, true, false, false, true, false, false, false, false, false, false, false, false, false, false, false, false, false, false, false, false, false, false, false, false, false, false, false, false] rfl rfl (Zaz HT_.out (by kernel_rfl)) (fun _ _ _ h => h) (Or.inl ⟨by rfl, ?_⟩) ?_ ?_
          rotate_left
          ·intro w'
           go_simp
           with_reducible rfl
          rotate_left
          ·simp only [Act.put, ZA, ZB, ZC, i64_w, i32_w]
           rfl
          refine take_ (i := 3) (N := some 135) (v := ?_) (a' := ?_) #[true, true, true, true, false, true, false, false, false, false, false, false, false, false, false, false, false, false, false, false, false, false, false, false, false, false, false, false, false, false] rfl rfl (take_ofW HT_.out HW_.out (by kernel_rfl)) (fun _ _ _ h => h) (Or.inl ⟨by rfl, ?_⟩) hHeld ?_ ?_
          rotate_left
          ·rintro w' ⟨s0, s1, s2⟩
           go_simp
           with_reducible rfl
          rotate_left
          ·simp only [Act.put, ZA, ZB, ZC, i64_w, i32_w]
           rfl
          refine take_ (i := 6) (N := some 138) (v := ?_) (a' := ?_) #[true, true, true, true, false, true, true, false, false, false, false, false, false, false, false, false, false, false, false, false, false, false, false, false, false, false, false, false, false, false] rfl rfl (take_ofW HT_.out HW_.out (by kernel_rfl)) (fun _ _ _ h => h) (Or.inl ⟨by rfl, ?_⟩) hHeld ?_ ?_
          rotate_left
          ·rintro w' ⟨s0, s1, s2⟩
           go_simp
           with_reducible rfl
          rotate_left
          ·simp only [Act.put, ZA, ZB, ZC, i64_w, i32_w]
           rfl
          refine one_ (i := 4) (N := some 136) #[true, true, true, true, true, true, true, false, false, false, false, false, false, false, false, false, false, false, false, false, false, false, false, false, false, false, false, false, false, false] rfl rfl (one_of HT_.out (by kernel_rfl)) (by decide) (fun K hK => ?_)
          refine goes_ Tryz.func16 (by kernel_rfl) rfl #[.int .i64 (rd t313 x21_2)] (by rfl) rfl rfl (by (try simp only [List.map_toArray, List.map_cons, List.map_nil]); first | done | rfl | (simp only [List.length_drop, List.length_take]; rfl)) ?_
          with_reducible refine (laws_b10Abs.calls (rd t313 x21_2) t343 _ A89.out).mono ?_
          rintro e w' ⟨rfl, ⟨nd, rfl⟩⟩
          refine ⟨_, rfl, ?_⟩
          refine hK.out _ _ ⟨(Zaj BK309.out 0).trans rfl, (Zaj BK309.out 1).trans rfl, hHeld.2.2⟩ (fun hHeld => ?_)
          clear hK K
          refine norm_ (a' := ?_) ?_ ?_
          rotate_left
          ·show Act.put _ (some 136) _ = _
           simp only [Act.put, ZA, ZB, ZC, i64_w, i32_w]
           rfl
          refine pure_ (i := 7) (N := some 139) (v := ?_) (a' := ?_) #[true, true, true, true, true, true, true, true, false, false, false, false, false, false, false, false, false, false, false, false, false, false, false, false, false, false, false, false, false, false] rfl rfl (Zaz HT_.out (by kernel_rfl)) (fun _ _ _ h => h) (Or.inl ⟨by rfl, ?_⟩) ?_ ?_
          rotate_left
          ·intro w'
           go_simp
           with_reducible rfl
          rotate_left
          ·simp only [Act.put, ZA, ZB, ZC, i64_w, i32_w]
           rfl
          refine pure_ (i := 8) (N := some 140) (v := ?_) (a' := ?_) #[true, true, true, true, true, true, true, true, true, false, false, false, false, false, false, false, false, false, false, false, false, false, false, false, false, false, false, false, false, false] rfl rfl (Zaz HT_.out (by kernel_rfl)) (fun _ _ _ h => h) (Or.inl ⟨by rfl, ?_⟩) ?_ ?_
          rotate_left
          ·intro w'
           go_simp
           with_reducible rfl
          rotate_left
          ·simp only [Act.put, ZA, ZB, ZC, i64_w, i32_w]
           rfl
          refine pure_ (i := 9) (N := some 141) (v := undef) (a' := ?_) #[true, true, true, true, true, true, true, true, true, true, false, false, false, false, false, false, false, false, false, false, false, false, false, false, false, false, false, false, false, false] rfl rfl (Zaz HT_.out (by kernel_rfl)) (fun _ _ _ h => h) (Or.inr ⟨by rfl, rfl⟩) ?_ ?_
          rotate_left
          ·simp only [Act.put, ZA, ZB, ZC, i64_w, i32_w]
           rfl
          refine pure_ (i := 10) (N := some 142) (v := undef) (a' := ?_) #[true, true, true, true, true, true, true, true, true, true, true, false, false, false, false, false, false, false, false, false, false, false, false, false, false, false, false, false, false, false] rfl rfl (Zaz HT_.out (by kernel_rfl)) (fun _ _ _ h => h) (Or.inr ⟨by rfl, rfl⟩) ?_ ?_
          rotate_left
          ·simp only [Act.put, ZA, ZB, ZC, i64_w, i32_w]
           rfl
          refine pure_ (i := 11) (N := some 143) (v := undef) (a' := ?_) #[true, true, true, true, true, true, true, true, true, true, true, true, false, false, false, false, false, false, false, false, false, false, false, false, false, false, false, false, false, false] rfl rfl (Zaz HT_.out (by kernel_rfl)) (fun _ _ _ h => h) (Or.inr ⟨by rfl, rfl⟩) ?_ ?_
          rotate_left
          ·simp only [Act.put, ZA, ZB, ZC, i64_w, i32_w]
           rfl
          refine pure_ (i := 12) (N := some 144) (v := undef) (a' := ?_) #[true, true, true, true, true, true, true, true, true, true, true, true, true, false, false, false, false, false, false, false, false, false, false, false, false, false, false, false, false, false] rfl rfl (Zaz HT_.out (by kernel_rfl)) (fun _ _ _ h => h) (Or.inr ⟨by rfl, rfl⟩) ?_ ?_
          rotate_left
          ·simp only [Act.put, ZA, ZB, ZC, i64_w, i32_w]
           rfl
          refine pure_ (i := 13) (N := some 145) (v := undef) (a' := ?_) #[true, true, true, true, true, true, true, true, true, true, true, true, true, true, false, false, false, false, false, false, false, false, false, false, false, false, false, false, false, false] rfl rfl (Zaz HT_.out (by kernel_rfl)) (fun _ _ _ h => h) (Or.inr ⟨by rfl, rfl⟩) ?_ ?_
          rotate_left
          ·simp only [Act.put, ZA, ZB, ZC, i64_w, i32_w]
           rfl
          refine pure_ (i := 14) (N := some 146) (v := undef) (a' := ?_) #[true, true, true, true, true, true, true, true, true, true, true, true, true, true, true, false, false, false, false, false, false, false, false, false, false, false, false, false, false, false] rfl rfl (Zaz HT_.out (by kernel_rfl)) (fun _ _ _ h => h) (Or.inr ⟨by rfl, rfl⟩) ?_ ?_
          rotate_left
          ·simp only [Act.put, ZA, ZB, ZC, i64_w, i32_w]
           rfl
          refine pure_ (i := 15) (N := some 147) (v := undef) (a' := ?_) #[true, true, true, true, true, true, true, true, true, true, true, true, true, true, true, true, false, false, false, false, false, false, false, false, false, false, false, false, false, false] rfl rfl (Zaz HT_.out (by kernel_rfl)) (fun _ _ _ h => h) (Or.inr ⟨by rfl, rfl⟩) ?_ ?_
          rotate_left
          ·simp only [Act.put, ZA, ZB, ZC, i64_w, i32_w]
           rfl
          refine pure_ (i := 16) (N := some 148) (v := undef) (a' := ?_) #[true, true, true, true, true, true, true, true, true, true, true, true, true, true, true, true, true, false, false, false, false, false, false, false, false, false, false, false, false, false] rfl rfl (Zaz HT_.out (by kernel_rfl)) (fun _ _ _ h => h) (Or.inr ⟨by rfl, rfl⟩) ?_ ?_
          rotate_left
          ·simp only [Act.put, ZA, ZB, ZC, i64_w, i32_w]
           rfl
          refine pure_ (i := 17) (N := some 149) (v := undef) (a' := ?_) #[true, true, true, true, true, true, true, true, true, true, true, true, true, true, true, true, true, true, false, false, false, false, false, false, false, false, false, false, false, false] rfl rfl (Zaz HT_.out (by kernel_rfl)) (fun _ _ _ h => h) (Or.inr ⟨by rfl, rfl⟩) ?_ ?_
          rotate_left
          ·simp only [Act.put, ZA, ZB, ZC, i64_w, i32_w]
           rfl
          refine pure_ (i := 18) (N := some 150) (v := ?_) (a' := ?_) #[true, true, true, true, true, true, true, true, true, true, true, true, true, true, true, true, true, true, true, false, false, false, false, false, false, false, false, false, false, false] rfl rfl (Zaz HT_.out (by kernel_rfl)) (fun _ _ _ h => h) (Or.inl ⟨by rfl, ?_⟩) ?_ ?_
          rotate_left
          ·intro w'
           go_simp
           with_reducible rfl
          rotate_left
          ·simp only [Act.put, ZA, ZB, ZC, i64_w, i32_w]
           rfl
          refine pure_ (i := 19) (N := some 151) (v := ?_) (a' := ?_) #[true, true, true, true, true, true, true, true, true, true, true, true, true, true, true, true, true, true, true, true, false, false, false, false, false, false, false, false, false, false] rfl rfl (Zaz HT_.out (by kernel_rfl)) (fun _ _ _ h => h) (Or.inl ⟨by rfl, ?_⟩) ?_ ?_
          rotate_left
          ·intro w'
           go_simp
           with_reducible rfl
          rotate_left
          ·simp only [Act.put, ZA, ZB, ZC, i64_w, i32_w]
           rfl
          refine pure_ (i := 20) (N := some 152) (v := undef) (a' := ?_) #[true, true, true, true, true, true, true, true, true, true, true, true, true, true, true, true, true, true, true, true, true, false, false, false, false, false, false, false, false, false] rfl rfl (Zaz HT_.out (by kernel_rfl)) (fun _ _ _ h => h) (Or.inr ⟨by rfl, rfl⟩) ?_ ?_
          rotate_left
          ·simp only [Act.put, ZA, ZB, ZC, i64_w, i32_w]
           rfl
          refine pure_ (i := 21) (N := some 153) (v := undef) (a' := ?_) #[true, true, true, true, true, true, true, true, true, true, true, true, true, true, true, true, true, true, true, true, true, true, false, false, false, false, false, false, false, false] rfl rfl (Zaz HT_.out (by kernel_rfl)) (fun _ _ _ h => h) (Or.inr ⟨by rfl, rfl⟩) ?_ ?_
          rotate_left
          ·simp only [Act.put, ZA, ZB, ZC, i64_w, i32_w]
           rfl
          refine pure_ (i := 22) (N := some 154) (v := undef) (a' := ?_) #[true, true, true, true, true, true, true, true, true, true, true, true, true, true, true, true, true, true, true, true, true, true, true, false, false, false, false, false, false, false] rfl rfl (Zaz HT_.out (by kernel_rfl)) (fun _ _ _ h => h) (Or.inr ⟨by rfl, rfl⟩) ?_ ?_
          rotate_left
          ·simp only [Act.put, ZA, ZB, ZC, i64_w, i32_w]
           rfl
          refine pure_ (i := 23) (N := some 155) (v := undef) (a' := ?_) #[true, true, true, true, true, true, true, true, true, true, true, true, true, true, true, true, true, true, true, true, true, true, true, true, false, false, false, false, false, false] rfl rfl (Zaz HT_.out (by kernel_rfl)) (fun _ _ _ h => h) (Or.inr ⟨by rfl, rfl⟩) ?_ ?_
          rotate_left
          ·simp only [Act.put, ZA, ZB, ZC, i64_w, i32_w]
           rfl
          refine pure_ (i := 24) (N := some 156) (v := undef) (a' := ?_) #[true, true, true, true, true, true, true, true, true, true, true, true, true, true, true, true, true, true, true, true, true, true, true, true, true, false, false, false, false, false] rfl rfl (Zaz HT_.out (by kernel_rfl)) (fun _ _ _ h => h) (Or.inr ⟨by rfl, rfl⟩) ?_ ?_
          rotate_left
          ·simp only [Act.put, ZA, ZB, ZC, i64_w, i32_w]
           rfl
          refine pure_ (i := 25) (N := some 157) (v := undef) (a' := ?_) #[true, true, true, true, true, true, true, true, true, true, true, true, true, true, true, true, true, true, true, true, true, true, true, true, true, true, false, false, false, false] rfl rfl (Zaz HT_.out (by kernel_rfl)) (fun _ _ _ h => h) (Or.inr ⟨by rfl, rfl⟩) ?_ ?_
          rotate_left
          ·simp only [Act.put, ZA, ZB, ZC, i64_w, i32_w]
           rfl
          refine pure_ (i := 26) (N := some 158) (v := undef) (a' := ?_) #[true, true, true, true, true, true, true, true, true, true, true, true, true, true, true, true, true, true, true, true, true, true, true, true, true, true, true, false, false, false] rfl rfl (Zaz HT_.out (by kernel_rfl)) (fun _ _ _ h => h) (Or.inr ⟨by rfl, rfl⟩) ?_ ?_
          rotate_left
          ·simp only [Act.put, ZA, ZB, ZC, i64_w, i32_w]
           rfl
          refine pure_ (i := 27) (N := some 159) (v := undef) (a' := ?_) #[true, true, true, true, true, true, true, true, true, true, true, true, true, true, true, true, true, true, true, true, true, true, true, true, true, true, true, true, false, false] rfl rfl (Zaz HT_.out (by kernel_rfl)) (fun _ _ _ h => h) (Or.inr ⟨by rfl, rfl⟩) ?_ ?_
          rotate_left
          ·simp only [Act.put, ZA, ZB, ZC, i64_w, i32_w]
           rfl
          refine pure_ (i := 28) (N := some 160) (v := undef) (a' := ?_) #[true, true, true, true, true, true, true, true, true, true, true, true, true, true, true, true, true, true, true, true, true, true, true, true, true, true, true, true, true, false] rfl rfl (Zaz HT_.out (by kernel_rfl)) (fun _ _ _ h => h) (Or.inr ⟨by rfl, rfl⟩) ?_ ?_
          rotate_left
          ·simp only [Act.put, ZA, ZB, ZC, i64_w, i32_w]
           rfl
          refine pure_ (i := 29) (N := some 161) (v := ?_) (a' := ?_) #[true, true, true, true, true, true, true, true, true, true, true, true, true, true, true, true, true, true, true, true, true, true, true, true, true, true, true, true, true, true] rfl rfl (Zaz HT_.out (by kernel_rfl)) (fun _ _ _ h => h) (Or.inl ⟨by rfl, ?_⟩) ?_ ?_
          rotate_left
          ·intro w'
           go_simp
           with_reducible rfl
          rotate_left
          ·simp only [Act.put, ZA, ZB, ZC, i64_w, i32_w]
           rfl
          refine done_ (done_of HT_.out (by kernel_rfl)) ?_
          try go_wp2
          go_ret
          exact ⟨by first | rfl | (simp [Zao, Zan] <;> rfl) | (simp [*, Zao, Zan] <;> rfl), by repeat (first | (with_reducible first | exact HB.out | apply Zac | apply Zaa | apply Zab | refine Zae ?_ GE309.out | refine Zae ?_ GE326.out) | exact HB.out)⟩
         ·rw [if_neg c90] at H
          have c90b0 : decide (t305 ≤ t343) = false := decide_eq_false c90
          clear c90
          by_cases c93 : x21_2 < (t310.length : Int)
          ·rw [if_pos c93] at H
           have c93b0 : decide (x21_2 < (t310.length : Int)) = true := decide_eq_true c93
           clear c93
           by_cases c94 : x21_2 < (t327.length : Int)
           ·rw [if_pos c94] at H
            have c94b0 : decide (x21_2 < (t327.length : Int)) = true := decide_eq_true c94
            clear c94
            by_cases c95 : (rd t310 x21_2) < (rd t327 x21_2)
            ·rw [if_pos c95] at H
             have c95b0 : decide ((rd t310 x21_2) < (rd t327 x21_2)) = true := decide_eq_true c95
             clear c95
             obtain rfl := Option.some.inj H
             obtain ⟨Ao96, co96, eo96⟩ := Kd.R_slice HO_7.out
             subst eo96
             try go_wp2
             have n0_ := Zad.mk (Kd.R_drew HO_6.out)
             have n1_ := Zad.mk (Kd.R_drew HO_7.out)
             have n2_ := Zad.mk (Kd.R_drew HO_15.out)
             have n3_ := Zad.mk (Kd.R_drew HO_17.out)
             have n4_ := Zad.mk (Kd.R_drew HO_310001.out)
             have n5_ := Zad.mk (Kd.R_drew HO_327001.out)
             have n6_ := Zad.mk (Zah BK309.out)
             have n7_ := Zad.mk (Zah BK326.out)
             have n8_ := Zad.mk (Zab HB.out)
             clear HO_6
             clear HO_7
             clear HO_15
             clear HO_17
             clear HO_310001
             clear HO_327001
             clear BK309
             clear BK326
             clear HB
             have HO_6 := n0_
             have HO_7 := n1_
             have HO_15 := n2_
             have HO_17 := n3_
             have HO_310001 := n4_
             have HO_327001 := n5_
             have BK309 := n6_
             have BK326 := n7_
             have HB := n8_
             clear n0_ n1_ n2_ n3_ n4_ n5_ n6_ n7_ n8_
             have p342 : 0 ≤ (x21_2 : Int) := of_decide_eq_true (by first | (with_reducible assumption) | assumption)
             have q342 : x21_2 < (t313.length : Int) := of_decide_eq_true (by first | (with_reducible assumption) | assumption)
             (try (obtain ⟨Aqad342, cqad342, eqad342⟩ := Kd.R_slice HO_7.out; subst eqad342))
             obtain ⟨ad342, e342, hx342_0⟩ := Kd.at_int (Kd.R_reads' HO_7.out).2.2 x21_2 p342 q342
             cases e342
             replace p342 := eq_true p342
             replace q342 := eq_true q342
             have p344 : 0 ≤ (x21_2 : Int) := of_decide_eq_true (by first | (with_reducible assumption) | assumption)
             have q344 : x21_2 < (t310.length : Int) := of_decide_eq_true (by first | (with_reducible assumption) | assumption)
             (try (obtain ⟨Aqad344, cqad344, eqad344⟩ := Kd.R_slice HO_6.out; subst eqad344))
             obtain ⟨ad344, e344, hx344_0⟩ := Kd.at_int (Kd.R_reads' HO_6.out).2.2 x21_2 p344 q344
             cases e344
             replace p344 := eq_true p344
             replace q344 := eq_true q344
             have p345 : 0 ≤ (x21_2 : Int) := of_decide_eq_true (by first | (with_reducible assumption) | assumption)
             have q345 : x21_2 < (t327.length : Int) := of_decide_eq_true (by first | (with_reducible assumption) | assumption)
             (try (obtain ⟨Aqad345, cqad345, eqad345⟩ := Kd.R_slice HO_15.out; subst eqad345))
             obtain ⟨ad345, e345, hx345_0⟩ := Kd.at_int (Kd.R_reads' HO_15.out).2.2 x21_2 p345 q345
             cases e345
             replace p345 := eq_true p345
             replace q345 := eq_true q345
             refine start_ (n := 30) (S := fun w' => w'.cell? ⟨gb309, 0, none⟩ = some (.int .i64 t305) ∧ w'.cell? ⟨gb309, 1, none⟩ = some (.slice Ao18 t306.length co18) ∧ w'.cell? (ad342.add (x21_2).toNat) = some (.int .i64 (rd t313 x21_2)) ∧ w'.cell? (ad344.add (x21_2).toNat) = some (.int .i64 (rd t310 x21_2)) ∧ w'.cell? (ad345.add (x21_2).toNat) = some (.int .i64 (rd t327 x21_2))) (ds := []) #[false, false, false, false, false, false, false, false, false, false, false, false, false, false, false, false, false, false, false, false, false, false, false, false, false, false, false, false, false, false] (by kernel_rfl) rfl rfl ⟨(Zaj BK309.out 0).trans rfl, (Zaj BK309.out 1).trans rfl, hx342_0, hx344_0, hx345_0⟩ (fun hHeld => ?_); refine with_tabW laws_FnValues.tab17 laws_FnValues.bits17 (fun HT_ HW_ => ?_)
             generalize wr.drew = w97 at HO_6 HO_7 HO_15 HO_17 HO_310001 HO_327001 BK309 BK326 HB hx342_0 hx344_0 hx345_0 hHeld ⊢
             refine pure_ (i := 0) (N := some 132) (v := ?_) (a' := ?_) #[true, false, false, false, false, false, false, false, false, false, false, false, false, false, false, false, false, false, false, false, false, false, false, false, false, false, false, false, false, false] rfl rfl (Zaz HT_.out (by kernel_rfl)) (fun _ _ _ h => h) (Or.inl ⟨by rfl, ?_⟩) ?_ ?_
             rotate_left
             ·intro w'
              go_simp
              with_reducible rfl
             rotate_left
             ·simp only [Act.put, ZA, ZB, ZC, i64_w, i32_w]
              rfl
             refine pure_ (i := 1) (N := some 133) (v := ?_) (a' := ?_) #[true, true, false, false, false, false, false, false, false, false, false, false, false, false, false, false, false, false, false, false, false, false, false, false, false, false, false, false, false, false] rfl rfl (Zaz HT_.out (by kernel_rfl)) (fun _ _ _ h => h) (Or.inl ⟨by rfl, ?_⟩) ?_ ?_
             rotate_left
             ·intro w'
              go_simp
              with_reducible rfl
             rotate_left
             ·simp only [Act.put, ZA, ZB, ZC, i64_w, i32_w]
              rfl
             refine pure_ (i := 2) (N := some 134) (v := ?_) (a' := ?_) #[true, true, true, false, false, false, false, false, false, false, false, false, false, false, false, false, false, false, false, false, false, false, false, false, false, false, false, false, false, false] rfl rfl (Zaz HT_.out (by kernel_rfl)) (fun _ _ _ h => h) (Or.inl ⟨by rfl, ?_⟩) ?_ ?_
             rotate_left
             ·intro w'
              go_simp
              with_reducible rfl
             rotate_left
             ·simp only [Act.put, ZA, ZB, ZC, i64_w, i32_w]
              rfl
             refine pure_ (i := 5) (N := some 137) (v := ?_) (a' := ?_) #[true, true, true, false, false, true, false, false, false, false, false, false, false, false, false, false, false, false, false, false, false, false, false, false, false, false, false, false, false, false] rfl rfl (Zaz HT_.out (by kernel_rfl)) (fun _ _ _ h => h) (Or.inl ⟨by rfl, ?_⟩) ?_ ?_
             rotate_left
             ·intro w'
              go_simp
              with_reducible rfl
             rotate_left
             ·simp only [Act.put, ZA, ZB, ZC, i64_w, i32_w]
              rfl
             refine take_ (i := 3) (N := some 135) (v := ?_) (a' := ?_) #[true, true, true, true, false, true, false, false, false, false, false, false, false, false, false, false, false, false, false, false, false, false, false, false, false, false, false, false, false, false] rfl rfl (take_ofW HT_.out HW_.out (by kernel_rfl)) (fun _ _ _ h => h) (Or.inl ⟨by rfl, ?_⟩) hHeld ?_ ?_
             rotate_left
             ·rintro w' ⟨s0, s1, s2, s3, s4⟩
              go_simp
              with_reducible rfl
             rotate_left
             ·simp only [Act.put, ZA, ZB, ZC, i64_w, i32_w]
              rfl
             refine take_ (i := 6) (N := some 138) (v := ?_) (a' := ?_) #[true, true, true, true, false, true, true, false, false, false, false, false, false, false, false, false, false, false, false, false, false, false, false, false, false, false, false, false, false, false] rfl rfl (take_ofW HT_.out HW_.out (by kernel_rfl)) (fun _ _ _ h => h) (Or.inl ⟨by rfl, ?_⟩) hHeld ?_ ?_
             rotate_left
             ·rintro w' ⟨s0, s1, s2, s3, s4⟩
              go_simp
              with_reducible rfl
             rotate_left
             ·simp only [Act.put, ZA, ZB, ZC, i64_w, i32_w]
              rfl
             refine one_ (i := 4) (N := some 136) #[true, true, true, true, true, true, true, false, false, false, false, false, false, false, false, false, false, false, false, false, false, false, false, false, false, false, false, false, false, false] rfl rfl (one_of HT_.out (by kernel_rfl)) (by decide) (fun K hK => ?_)
             refine goes_ Tryz.func16 (by kernel_rfl) rfl #[.int .i64 (rd t313 x21_2)] (by rfl) rfl rfl (by (try simp only [List.map_toArray, List.map_cons, List.map_nil]); first | done | rfl | (simp only [List.length_drop, List.length_take]; rfl)) ?_
             with_reducible refine (laws_b10Abs.calls (rd t313 x21_2) t343 _ A89.out).mono ?_
             rintro e w' ⟨rfl, ⟨nd, rfl⟩⟩
             refine ⟨_, rfl, ?_⟩
             obtain ⟨Ao98, co98, eo98⟩ := Kd.R_slice HO_15.out
             (first | subst eo98 | (injection eo98 with f1_ f2_ f3_; have f4_ := f1_.symm; have f5_ := f3_.symm; clear f1_ f2_ f3_; subst f4_; subst f5_))
             refine hK.out _ _ ⟨(Zaj BK309.out 0).trans rfl, (Zaj BK309.out 1).trans rfl, hHeld.2.2.1, hHeld.2.2.2.1, hHeld.2.2.2.2⟩ (fun hHeld => ?_)
             clear hK K
             refine norm_ (a' := ?_) ?_ ?_
             rotate_left
             ·show Act.put _ (some 136) _ = _
              simp only [Act.put, ZA, ZB, ZC, i64_w, i32_w]
              rfl
             refine pure_ (i := 7) (N := some 139) (v := ?_) (a' := ?_) #[true, true, true, true, true, true, true, true, false, false, false, false, false, false, false, false, false, false, false, false, false, false, false, false, false, false, false, false, false, false] rfl rfl (Zaz HT_.out (by kernel_rfl)) (fun _ _ _ h => h) (Or.inl ⟨by rfl, ?_⟩) ?_ ?_
             rotate_left
             ·intro w'
              go_simp
              with_reducible rfl
             rotate_left
             ·simp only [Act.put, ZA, ZB, ZC, i64_w, i32_w]
              rfl
             refine pure_ (i := 8) (N := some 140) (v := ?_) (a' := ?_) #[true, true, true, true, true, true, true, true, true, false, false, false, false, false, false, false, false, false, false, false, false, false, false, false, false, false, false, false, false, false] rfl rfl (Zaz HT_.out (by kernel_rfl)) (fun _ _ _ h => h) (Or.inl ⟨by rfl, ?_⟩) ?_ ?_
             rotate_left
             ·intro w'
              go_simp
              with_reducible rfl
             rotate_left
             ·simp only [Act.put, ZA, ZB, ZC, i64_w, i32_w]
              rfl
             refine pure_ (i := 9) (N := some 141) (v := ?_) (a' := ?_) #[true, true, true, true, true, true, true, true, true, true, false, false, false, false, false, false, false, false, false, false, false, false, false, false, false, false, false, false, false, false] rfl rfl (Zaz HT_.out (by kernel_rfl)) (fun _ _ _ h => h) (Or.inl ⟨by rfl, ?_⟩) ?_ ?_
             rotate_left
             ·intro w'
              go_simp
              with_reducible rfl
             rotate_left
             ·simp only [Act.put, ZA, ZB, ZC, i64_w, i32_w]
              rfl
             refine pure_ (i := 10) (N := some 142) (v := ?_) (a' := ?_) #[true, true, true, true, true, true, true, true, true, true, true, false, false, false, false, false, false, false, false, false, false, false, false, false, false, false, false, false, false, false] rfl rfl (Zaz HT_.out (by kernel_rfl)) (fun _ _ _ h => h) (Or.inl ⟨by rfl, ?_⟩) ?_ ?_
             rotate_left
             ·intro w'
              go_simp
              with_reducible rfl
             rotate_left
             ·simp only [Act.put, ZA, ZB, ZC, i64_w, i32_w]
              rfl
             refine pure_ (i := 11) (N := some 143) (v := ?_) (a' := ?_) #[true, true, true, true, true, true, true, true, true, true, true, true, false, false, false, false, false, false, false, false, false, false, false, false, false, false, false, false, false, false] rfl rfl (Zaz HT_.out (by kernel_rfl)) (fun _ _ _ h => h) (Or.inl ⟨by rfl, ?_⟩) ?_ ?_
             rotate_left
             ·intro w'
              go_simp
              with_reducible rfl
             rotate_left
             ·simp only [Act.put, ZA, ZB, ZC, i64_w, i32_w]
              rfl
             refine pure_ (i := 13) (N := some 145) (v := ?_) (a' := ?_) #[true, true, true, true, true, true, true, true, true, true, true, true, false, true, false, false, false, false, false, false, false, false, false, false, false, false, false, false, false, false] rfl rfl (Zaz HT_.out (by kernel_rfl)) (fun _ _ _ h => h) (Or.inl ⟨by rfl, ?_⟩) ?_ ?_
             rotate_left
             ·intro w'
              go_simp
              with_reducible rfl
             rotate_left
             ·simp only [Act.put, ZA, ZB, ZC, i64_w, i32_w]
              rfl
             refine pure_ (i := 14) (N := some 146) (v := ?_) (a' := ?_) #[true, true, true, true, true, true, true, true, true, true, true, true, false, true, true, false, false, false, false, false, false, false, false, false, false, false, false, false, false, false] rfl rfl (Zaz HT_.out (by kernel_rfl)) (fun _ _ _ h => h) (Or.inl ⟨by rfl, ?_⟩) ?_ ?_
             rotate_left
             ·intro w'
              go_simp
              with_reducible rfl
             rotate_left
             ·simp only [Act.put, ZA, ZB, ZC, i64_w, i32_w]
              rfl
             refine pure_ (i := 15) (N := some 147) (v := ?_) (a' := ?_) #[true, true, true, true, true, true, true, true, true, true, true, true, false, true, true, true, false, false, false, false, false, false, false, false, false, false, false, false, false, false] rfl rfl (Zaz HT_.out (by kernel_rfl)) (fun _ _ _ h => h) (Or.inl ⟨by rfl, ?_⟩) ?_ ?_
             rotate_left
             ·intro w'
              go_simp
              with_reducible rfl
             rotate_left
             ·simp only [Act.put, ZA, ZB, ZC, i64_w, i32_w]
              rfl
             refine take_ (i := 12) (N := some 144) (v := ?_) (a' := ?_) #[true, true, true, true, true, true, true, true, true, true, true, true, true, true, true, true, false, false, false, false, false, false, false, false, false, false, false, false, false, false] rfl rfl (take_ofW HT_.out HW_.out (by kernel_rfl)) (fun _ _ _ h => h) (Or.inl ⟨by rfl, ?_⟩) hHeld ?_ ?_
             rotate_left
             ·rintro w' ⟨s0, s1, s2, s3, s4⟩
              go_simp
              with_reducible rfl
             rotate_left
             ·simp only [Act.put, ZA, ZB, ZC, i64_w, i32_w]
              rfl
             refine take_ (i := 16) (N := some 148) (v := ?_) (a' := ?_) #[true, true, true, true, true, true, true, true, true, true, true, true, true, true, true, true, true, false, false, false, false, false, false, false, false, false, false, false, false, false] rfl rfl (take_ofW HT_.out HW_.out (by kernel_rfl)) (fun _ _ _ h => h) (Or.inl ⟨by rfl, ?_⟩) hHeld ?_ ?_
             rotate_left
             ·rintro w' ⟨s0, s1, s2, s3, s4⟩
              go_simp
              with_reducible rfl
             rotate_left
             ·simp only [Act.put, ZA, ZB, ZC, i64_w, i32_w]
              rfl
             refine pure_ (i := 17) (N := some 149) (v := ?_) (a' := ?_) #[true, true, true, true, true, true, true, true, true, true, true, true, true, true, true, true, true, true, false, false, false, false, false, false, false, false, false, false, false, false] rfl rfl (Zaz HT_.out (by kernel_rfl)) (fun _ _ _ h => h) (Or.inl ⟨by rfl, ?_⟩) ?_ ?_
             rotate_left
             ·intro w'
              go_simp
              with_reducible rfl
             rotate_left
             ·simp only [Act.put, ZA, ZB, ZC, i64_w, i32_w]
              rfl
             refine pure_ (i := 18) (N := some 150) (v := ?_) (a' := ?_) #[true, true, true, true, true, true, true, true, true, true, true, true, true, true, true, true, true, true, true, false, false, false, false, false, false, false, false, false, false, false] rfl rfl (Zaz HT_.out (by kernel_rfl)) (fun _ _ _ h => h) (Or.inl ⟨by rfl, ?_⟩) ?_ ?_
             rotate_left
             ·intro w'
              go_simp
              with_reducible rfl
             rotate_left
             ·simp only [Act.put, ZA, ZB, ZC, i64_w, i32_w]
              rfl
             refine pure_ (i := 19) (N := some 151) (v := ?_) (a' := ?_) #[true, true, true, true, true, true, true, true, true, true, true, true, true, true, true, true, true, true, true, true, false, false, false, false, false, false, false, false, false, false] rfl rfl (Zaz HT_.out (by kernel_rfl)) (fun _ _ _ h => h) (Or.inl ⟨by rfl, ?_⟩) ?_ ?_
             rotate_left
             ·intro w'
              go_simp
              with_reducible rfl
             rotate_left
             ·simp only [Act.put, ZA, ZB, ZC, i64_w, i32_w]
              rfl
             refine pure_ (i := 20) (N := some 152) (v := undef) (a' := ?_) #[true, true, true, true, true, true, true, true, true, true, true, true, true, true, true, true, true, true, true, true, true, false, false, false, false, false, false, false, false, false] rfl rfl (Zaz HT_.out (by kernel_rfl)) (fun _ _ _ h => h) (Or.inr ⟨by rfl, rfl⟩) ?_ ?_
             rotate_left
             ·simp only [Act.put, ZA, ZB, ZC, i64_w, i32_w]
              rfl
             refine pure_ (i := 21) (N := some 153) (v := undef) (a' := ?_) #[true, true, true, true, true, true, true, true, true, true, true, true, true, true, true, true, true, true, true, true, true, true, false, false, false, false, false, false, false, false] rfl rfl (Zaz HT_.out (by kernel_rfl)) (fun _ _ _ h => h) (Or.inr ⟨by rfl, rfl⟩) ?_ ?_
             rotate_left
             ·simp only [Act.put, ZA, ZB, ZC, i64_w, i32_w]
              rfl
             refine pure_ (i := 22) (N := some 154) (v := undef) (a' := ?_) #[true, true, true, true, true, true, true, true, true, true, true, true, true, true, true, true, true, true, true, true, true, true, true, false, false, false, false, false, false, false] rfl rfl (Zaz HT_.out (by kernel_rfl)) (fun _ _ _ h => h) (Or.inr ⟨by rfl, rfl⟩) ?_ ?_
             rotate_left
             ·simp only [Act.put, ZA, ZB, ZC, i64_w, i32_w]
              rfl
             refine pure_ (i := 23) (N := some 155) (v := undef) (a' := ?_) #[true, true, true, true, true, true, true, true, true, true, true, true, true, true, true, true, true, true, true, true, true, true, true, true, false, false, false, false, false, false] rfl rfl (Zaz HT_.out (by kernel_rfl)) (fun _ _ _ h => h) (Or.inr ⟨by rfl, rfl⟩) ?_ ?_
             rotate_left
             ·simp only [Act.put, ZA, ZB, ZC, i64_w, i32_w]
              rfl
             refine pure_ (i := 24) (N := some 156) (v := undef) (a' := ?_) #[true, true, true, true, true, true, true, true, true, true, true, true, true, true, true, true, true, true, true, true, true, true, true, true, true, false, false, false, false, false] rfl rfl (Zaz HT_.out (by kernel_rfl)) (fun _ _ _ h => h) (Or.inr ⟨by rfl, rfl⟩) ?_ ?_
             rotate_left
             ·simp only [Act.put, ZA, ZB, ZC, i64_w, i32_w]
              rfl
             refine pure_ (i := 25) (N := some 157) (v := undef) (a' := ?_) #[true, true, true, true, true, true, true, true, true, true, true, true, true, true, true, true, true, true, true, true, true, true, true, true, true, true, false, false, false, false] rfl rfl (Zaz HT_.out (by kernel_rfl)) (fun _ _ _ h => h) (Or.inr ⟨by rfl, rfl⟩) ?_ ?_
             rotate_left
             ·simp only [Act.put, ZA, ZB, ZC, i64_w, i32_w]
              rfl
             refine pure_ (i := 26) (N := some 158) (v := undef) (a' := ?_) #[true, true, true, true, true, true, true, true, true, true, true, true, true, true, true, true, true, true, true, true, true, true, true, true, true, true, true, false, false, false] rfl rfl (Zaz HT_.out (by kernel_rfl)) (fun _ _ _ h => h) (Or.inr ⟨by rfl, rfl⟩) ?_ ?_
             rotate_left
             ·simp only [Act.put, ZA, ZB, ZC, i64_w, i32_w]
              rfl
             refine pure_ (i := 27) (N := some 159) (v := undef) (a' := ?_) #[true, true, true, true, true, true, true, true, true, true, true, true, true, true, true, true, true, true, true, true, true, true, true, true, true, true, true, true, false, false] rfl rfl (Zaz HT_.out (by kernel_rfl)) (fun _ _ _ h => h) (Or.inr ⟨by rfl, rfl⟩) ?_ ?_
             rotate_left
             ·simp only [Act.put, ZA, ZB, ZC, i64_w, i32_w]
              rfl
             refine pure_ (i := 28) (N := some 160) (v := undef) (a' := ?_) #[true, true, true, true, true, true, true, true, true, true, true, true, true, true, true, true, true, true, true, true, true, true, true, true, true, true, true, true, true, false] rfl rfl (Zaz HT_.out (by kernel_rfl)) (fun _ _ _ h => h) (Or.inr ⟨by rfl, rfl⟩) ?_ ?_
             rotate_left
             ·simp only [Act.put, ZA, ZB, ZC, i64_w, i32_w]
              rfl
             refine pure_ (i := 29) (N := some 161) (v := ?_) (a' := ?_) #[true, true, true, true, true, true, true, true, true, true, true, true, true, true, true, true, true, true, true, true, true, true, true, true, true, true, true, true, true, true] rfl rfl (Zaz HT_.out (by kernel_rfl)) (fun _ _ _ h => h) (Or.inl ⟨by rfl, ?_⟩) ?_ ?_
             rotate_left
             ·intro w'
              go_simp
              with_reducible rfl
             rotate_left
             ·simp only [Act.put, ZA, ZB, ZC, i64_w, i32_w]
              rfl
             refine done_ (done_of HT_.out (by kernel_rfl)) ?_
             try go_wp2
             go_ret
             exact ⟨by first | rfl | (simp [Zao, Zan] <;> rfl) | (simp [*, Zao, Zan] <;> rfl), by repeat (first | (with_reducible first | exact HB.out | apply Zac | apply Zaa | apply Zab | refine Zae ?_ GE309.out | refine Zae ?_ GE326.out) | exact HB.out)⟩
            ·rw [if_neg c95] at H
             have c95b0 : decide ((rd t310 x21_2) < (rd t327 x21_2)) = false := decide_eq_false c95
             clear c95
             by_cases c99 : x21_2 < (t331.length : Int)
             ·rw [if_pos c99] at H
              have c99b0 : decide (x21_2 < (t331.length : Int)) = true := decide_eq_true c99
              clear c99
              by_cases c100 : (rd t310 x21_2) > (rd t331 x21_2)
              ·rw [if_pos c100] at H
               have c100b0 : decide ((rd t331 x21_2) < (rd t310 x21_2)) = true := decide_eq_true c100
               clear c100
               obtain rfl := Option.some.inj H
               obtain ⟨Ao101, co101, eo101⟩ := Kd.R_slice HO_7.out
               subst eo101
               try go_wp2
               have n0_ := Zad.mk (Kd.R_drew HO_6.out)
               have n1_ := Zad.mk (Kd.R_drew HO_7.out)
               have n2_ := Zad.mk (Kd.R_drew HO_15.out)
               have n3_ := Zad.mk (Kd.R_drew HO_17.out)
               have n4_ := Zad.mk (Kd.R_drew HO_310001.out)
               have n5_ := Zad.mk (Kd.R_drew HO_327001.out)
               have n6_ := Zad.mk (Zah BK309.out)
               have n7_ := Zad.mk (Zah BK326.out)
               have n8_ := Zad.mk (Zab HB.out)
               clear HO_6
               clear HO_7
               clear HO_15
               clear HO_17
               clear HO_310001
               clear HO_327001
               clear BK309
               clear BK326
               clear HB
               have HO_6 := n0_
               have HO_7 := n1_
               have HO_15 := n2_
               have HO_17 := n3_
               have HO_310001 := n4_
               have HO_327001 := n5_
               have BK309 := n6_
               have BK326 := n7_
               have HB := n8_
               clear n0_ n1_ n2_ n3_ n4_ n5_ n6_ n7_ n8_
               have p342 : 0 ≤ (x21_2 : Int) := of_decide_eq_true (by first | (with_reducible assumption) | assumption)
               have q342 : x21_2 < (t313.length : Int) := of_decide_eq_true (by first | (with_reducible assumption) | assumption)
               (try (obtain ⟨Aqad342, cqad342, eqad342⟩ := Kd.R_slice HO_7.out; subst eqad342))
               obtain ⟨ad342, e342, hx342_0⟩ := Kd.at_int (Kd.R_reads' HO_7.out).2.2 x21_2 p342 q342
               cases e342
               replace p342 := eq_true p342
               replace q342 := eq_true q342
               have p344 : 0 ≤ (x21_2 : Int) := of_decide_eq_true (by first | (with_reducible assumption) | assumption)
               have q344 : x21_2 < (t310.length : Int) := of_decide_eq_true (by first | (with_reducible assumption) | assumption)
               (try (obtain ⟨Aqad344, cqad344, eqad344⟩ := Kd.R_slice HO_6.out; subst eqad344))
               obtain ⟨ad344, e344, hx344_0⟩ := Kd.at_int (Kd.R_reads' HO_6.out).2.2 x21_2 p344 q344
               cases e344
               replace p344 := eq_true p344
               replace q344 := eq_true q344
               have p345 : 0 ≤ (x21_2 : Int) := of_decide_eq_true (by first | (with_reducible assumption) | assumption)
               have q345 : x21_2 < (t327.length : Int) := of_decide_eq_true (by first | (with_reducible assumption) | assumption)
               (try (obtain ⟨Aqad345, cqad345, eqad345⟩ := Kd.R_slice HO_15.out; subst eqad345))
               obtain ⟨ad345, e345, hx345_0⟩ := Kd.at_int (Kd.R_reads' HO_15.out).2.2 x21_2 p345 q345
               cases e345
               replace p345 := eq_true p345
               replace q345 := eq_true q345
               have p346 : 0 ≤ (x21_2 : Int) := of_decide_eq_true (by first | (with_reducible assumption) | assumption)
               have q346 : x21_2 < (t310.length : Int) := of_decide_eq_true (by first | (with_reducible assumption) | assumption)
               (try (obtain ⟨Aqad346, cqad346, eqad346⟩ := Kd.R_slice HO_6.out; subst eqad346))
               obtain ⟨ad346, e346, hx346_0⟩ := Kd.at_int (Kd.R_reads' HO_6.out).2.2 x21_2 p346 q346
               obtain rfl : ad344 = ad346 := (by injection e346)
               replace p346 := eq_true p346
               replace q346 := eq_true q346
               have p347 : 0 ≤ (x21_2 : Int) := of_decide_eq_true (by first | (with_reducible assumption) | assumption)
               have q347 : x21_2 < (t331.length : Int) := of_decide_eq_true (by first | (with_reducible assumption) | assumption)
               (try (obtain ⟨Aqad347, cqad347, eqad347⟩ := Kd.R_slice HO_17.out; subst eqad347))
               obtain ⟨ad347, e347, hx347_0⟩ := Kd.at_int (Kd.R_reads' HO_17.out).2.2 x21_2 p347 q347
               cases e347
               replace p347 := eq_true p347
               replace q347 := eq_true q347
               refine start_ (n := 30) (S := fun w' => w'.cell? ⟨gb309, 0, none⟩ = some (.int .i64 t305) ∧ w'.cell? ⟨gb309, 1, none⟩ = some (.slice Ao18 t306.length co18) ∧ w'.cell? (ad342.add (x21_2).toNat) = some (.int .i64 (rd t313 x21_2)) ∧ w'.cell? (ad344.add (x21_2).toNat) = some (.int .i64 (rd t310 x21_2)) ∧ w'.cell? (ad345.add (x21_2).toNat) = some (.int .i64 (rd t327 x21_2)) ∧ w'.cell? (ad344.add (x21_2).toNat) = some (.int .i64 (rd t310 x21_2)) ∧ w'.cell? (ad347.add (x21_2).toNat) = some (.int .i64 (rd t331 x21_2))) (ds := []) #[false, false, false, false, false, false, false, false, false, false, false, false, false, false, false, false, false, false, false, false, false, false, false, false, false, false, false, false, false, false] (by kernel_rfl) rfl rfl ⟨(Zaj BK309.out 0).trans rfl, (Zaj BK309.out 1).trans rfl, hx342_0, hx344_0, hx345_0, hx346_0, hx347_0⟩ (fun hHeld => ?_); refine with_tabW laws_FnValues.tab17 laws_FnValues.bits17 (fun HT_ HW_ => ?_)
               generalize wr.drew = w102 at HO_6 HO_7 HO_15 HO_17 HO_310001 HO_327001 BK309 BK326 HB hx342_0 hx344_0 hx345_0 hx346_0 hx347_0 hHeld ⊢
               refine pure_ (i := 0) (N := some 132) (v := ?_) (a' := ?_) #[true, false, false, false, false, false, false, false, false, false, false, false, false, false, false, false, false, false, false, false, false, false, false, false, false, false, false, false, false, false] rfl rfl (Zaz HT_.out (by kernel_rfl)) (fun _ _ _ h => h) (Or.inl ⟨by rfl, ?_⟩) ?_ ?_
               rotate_left
               ·intro w'
                go_simp
                with_reducible rfl
               rotate_left
               ·simp only [Act.put, ZA, ZB, ZC, i64_w, i32_w]
                rfl
               refine pure_ (i := 1) (N := some 133) (v := ?_) (a' := ?_) #[true, true, false, false, false, false, false, false, false, false, false, false, false, false, false, false, false, false, false, false, false, false, false, false, false, false, false, false, false, false] rfl rfl (Zaz HT_.out (by kernel_rfl)) (fun _ _ _ h => h) (Or.inl ⟨by rfl, ?_⟩) ?_ ?_
               rotate_left
               ·intro w'
                go_simp
                with_reducible rfl
               rotate_left
               ·simp only [Act.put, ZA, ZB, ZC, i64_w, i32_w]
                rfl
               refine pure_ (i := 2) (N := some 134) (v := ?_) (a' := ?_) #[true, true, true, false, false, false, false, false, false, false, false, false, false, false, false, false, false, false, false, false, false, false, false, false, false, false, false, false, false, false] rfl rfl (Zaz HT_.out (by kernel_rfl)) (fun _ _ _ h => h) (Or.inl ⟨by rfl, ?_⟩) ?_ ?_
               rotate_left
               ·intro w'
                go_simp
                with_reducible rfl
               rotate_left
               ·simp only [Act.put, ZA, ZB, ZC, i64_w, i32_w]
                rfl
               refine pure_ (i := 5) (N := some 137) (v := ?_) (a' := ?_) #[true, true, true, false, false, true, false, false, false, false, false, false, false, false, false, false, false, false, false, false, false, false, false, false, false, false, false, false, false, false] rfl rfl (Zaz HT_.out (by kernel_rfl)) (fun _ _ _ h => h) (Or.inl ⟨by rfl, ?_⟩) ?_ ?_
               rotate_left
               ·intro w'
                go_simp
                with_reducible rfl
               rotate_left
               ·simp only [Act.put, ZA, ZB, ZC, i64_w, i32_w]
                rfl
               refine take_ (i := 3) (N := some 135) (v := ?_) (a' := ?_) #[true, true, true, true, false, true, false, false, false, false, false, false, false, false, false, false, false, false, false, false, false, false, false, false, false, false, false, false, false, false] rfl rfl (take_ofW HT_.out HW_.out (by kernel_rfl)) (fun _ _ _ h => h) (Or.inl ⟨by rfl, ?_⟩) hHeld ?_ ?_
               rotate_left
               ·rintro w' ⟨s0, s1, s2, s3, s4, s5, s6⟩
                go_simp
                with_reducible rfl
               rotate_left
               ·simp only [Act.put, ZA, ZB, ZC, i64_w, i32_w]
                rfl
               refine take_ (i := 6) (N := some 138) (v := ?_) (a' := ?_) #[true, true, true, true, false, true, true, false, false, false, false, false, false, false, false, false, false, false, false, false, false, false, false, false, false, false, false, false, false, false] rfl rfl (take_ofW HT_.out HW_.out (by kernel_rfl)) (fun _ _ _ h => h) (Or.inl ⟨by rfl, ?_⟩) hHeld ?_ ?_
               rotate_left
               ·rintro w' ⟨s0, s1, s2, s3, s4, s5, s6⟩
                go_simp
                with_reducible rfl
               rotate_left
               ·simp only [Act.put, ZA, ZB, ZC, i64_w, i32_w]
                rfl
               refine one_ (i := 4) (N := some 136) #[true, true, true, true, true, true, true, false, false, false, false, false, false, false, false, false, false, false, false, false, false, false, false, false, false, false, false, false, false, false] rfl rfl (one_of HT_.out (by kernel_rfl)) (by decide) (fun K hK => ?_)
               refine goes_ Tryz.func16 (by kernel_rfl) rfl #[.int .i64 (rd t313 x21_2)] (by rfl) rfl rfl (by (try simp only [List.map_toArray, List.map_cons, List.map_nil]); first | done | rfl | (simp only [List.length_drop, List.length_take]; rfl)) ?_
               with_reducible refine (laws_b10Abs.calls (rd t313 x21_2) t343 _ A89.out).mono ?_
               rintro e w' ⟨rfl, ⟨nd, rfl⟩⟩
               refine ⟨_, rfl, ?_⟩
               obtain ⟨Ao103, co103, eo103⟩ := Kd.R_slice HO_15.out
               (first | subst eo103 | (injection eo103 with f1_ f2_ f3_; have f4_ := f1_.symm; have f5_ := f3_.symm; clear f1_ f2_ f3_; subst f4_; subst f5_))
               obtain ⟨Ao104, co104, eo104⟩ := Kd.R_slice HO_17.out
               (first | subst eo104 | (injection eo104 with f1_ f2_ f3_; have f4_ := f1_.symm; have f5_ := f3_.symm; clear f1_ f2_ f3_; subst f4_; subst f5_))
               refine hK.out _ _ ⟨(Zaj BK309.out 0).trans rfl, (Zaj BK309.out 1).trans rfl, hHeld.2.2.1, hHeld.2.2.2.1, hHeld.2.2.2.2.1, hHeld.2.2.2.2.2.1, hHeld.2.2.2.2.2.2⟩ (fun hHeld => ?_)
               clear hK K
               refine norm_ (a' := ?_) ?_ ?_
               rotate_left
               ·show Act.put _ (some 136) _ = _
                simp only [Act.put, ZA, ZB, ZC, i64_w, i32_w]
                rfl
               refine pure_ (i := 7) (N := some 139) (v := ?_) (a' := ?_) #[true, true, true, true, true, true, true, true, false, false, false, false, false, false, false, false, false, false, false, false, false, false, false, false, false, false, false, false, false, false] rfl rfl (Zaz HT_.out (by kernel_rfl)) (fun _ _ _ h => h) (Or.inl ⟨by rfl, ?_⟩) ?_ ?_
               rotate_left
               ·intro w'
                go_simp
                with_reducible rfl
               rotate_left
               ·simp only [Act.put, ZA, ZB, ZC, i64_w, i32_w]
                rfl
               refine pure_ (i := 8) (N := some 140) (v := ?_) (a' := ?_) #[true, true, true, true, true, true, true, true, true, false, false, false, false, false, false, false, false, false, false, false, false, false, false, false, false, false, false, false, false, false] rfl rfl (Zaz HT_.out (by kernel_rfl)) (fun _ _ _ h => h) (Or.inl ⟨by rfl, ?_⟩) ?_ ?_
               rotate_left
               ·intro w'
                go_simp
                with_reducible rfl
               rotate_left
               ·simp only [Act.put, ZA, ZB, ZC, i64_w, i32_w]
                rfl
               refine pure_ (i := 9) (N := some 141) (v := ?_) (a' := ?_) #[true, true, true, true, true, true, true, true, true, true, false, false, false, false, false, false, false, false, false, false, false, false, false, false, false, false, false, false, false, false] rfl rfl (Zaz HT_.out (by kernel_rfl)) (fun _ _ _ h => h) (Or.inl ⟨by rfl, ?_⟩) ?_ ?_
               rotate_left
               ·intro w'
                go_simp
                with_reducible rfl
               rotate_left
               ·simp only [Act.put, ZA, ZB, ZC, i64_w, i32_w]
                rfl
               refine pure_ (i := 10) (N := some 142) (v := ?_) (a' := ?_) #[true, true, true, true, true, true, true, true, true, true, true, false, false, false, false, false, false, false, false, false, false, false, false, false, false, false, false, false, false, false] rfl rfl (Zaz HT_.out (by kernel_rfl)) (fun _ _ _ h => h) (Or.inl ⟨by rfl, ?_⟩) ?_ ?_
               rotate_left
               ·intro w'
                go_simp
                with_reducible rfl
               rotate_left
               ·simp only [Act.put, ZA, ZB, ZC, i64_w, i32_w]
                rfl
               refine pure_ (i := 11) (N := some 143) (v := ?_) (a' := ?_) #[true, true, true, true, true, true, true, true, true, true, true, true, false, false, false, false, false, false, false, false, false, false, false, false, false, false, false, false, false, false] rfl rfl (Zaz HT_.out (by kernel_rfl)) (fun _ _ _ h => h) (Or.inl ⟨by rfl, ?_⟩) ?_ ?_
               rotate_left
               ·intro w'
                go_simp
                with_reducible rfl
               rotate_left
               ·simp only [Act.put, ZA, ZB, ZC, i64_w, i32_w]
                rfl
               refine pure_ (i := 13) (N := some 145) (v := ?_) (a' := ?_) #[true, true, true, true, true, true, true, true, true, true, true, true, false, true, false, false, false, false, false, false, false, false, false, false, false, false, false, false, false, false] rfl rfl (Zaz HT_.out (by kernel_rfl)) (fun _ _ _ h => h) (Or.inl ⟨by rfl, ?_⟩) ?_ ?_
               rotate_left
               ·intro w'
                go_simp
                with_reducible rfl
               rotate_left
               ·simp only [Act.put, ZA, ZB, ZC, i64_w, i32_w]
                rfl
               refine pure_ (i := 14) (N := some 146) (v := ?_) (a' := ?_) #[true, true, true, true, true, true, true, true, true, true, true, true, false, true, true, false, false, false, false, false, false, false, false, false, false, false, false, false, false, false] rfl rfl (Zaz HT_.out (by kernel_rfl)) (fun _ _ _ h => h) (Or.inl ⟨by rfl, ?_⟩) ?_ ?_
               rotate_left
               ·intro w'
                go_simp
                with_reducible rfl
               rotate_left
               ·simp only [Act.put, ZA, ZB, ZC, i64_w, i32_w]
                rfl
               refine pure_ (i := 15) (N := some 147) (v := ?_) (a' := ?_) #[true, true, true, true, true, true, true, true, true, true, true, true, false, true, true, true, false, false, false, false, false, false, false, false, false, false, false, false, false, false] rfl rfl (Zaz HT_.out (by kernel_rfl)) (fun _ _ _ h => h) (Or.inl ⟨by rfl, ?_⟩) ?_ ?_
               rotate_left
               ·intro w'
                go_simp
                with_reducible rfl
               rotate_left
               ·simp only [Act.put, ZA, ZB, ZC, i64_w, i32_w]
                rfl
               refine take_ (i := 12) (N := some 144) (v := ?_) (a' := ?_) #[true, true, true, true, true, true, true, true, true, true, true, true, true, true, true, true, false, false, false, false, false, false, false, false, false, false, false, false, false, false] rfl rfl (take_ofW HT_.out HW_.out (by kernel_rfl)) (fun _ _ _ h => h) (Or.inl ⟨by rfl, ?_⟩) hHeld ?_ ?_
               rotate_left
               ·rintro w' ⟨s0, s1, s2, s3, s4, s5, s6⟩
                go_simp
                with_reducible rfl
               rotate_left
               ·simp only [Act.put, ZA, ZB, ZC, i64_w, i32_w]
                rfl
               refine take_ (i := 16) (N := some 148) (v := ?_) (a' := ?_) #[true, true, true, true, true, true, true, true, true, true, true, true, true, true, true, true, true, false, false, false, false, false, false, false, false, false, false, false, false, false] rfl rfl (take_ofW HT_.out HW_.out (by kernel_rfl)) (fun _ _ _ h => h) (Or.inl ⟨by rfl, ?_⟩) hHeld ?_ ?_
               rotate_left
               ·rintro w' ⟨s0, s1, s2, s3, s4, s5, s6⟩
                go_simp
                with_reducible rfl
               rotate_left
               ·simp only [Act.put, ZA, ZB, ZC, i64_w, i32_w]
                rfl
               refine pure_ (i := 17) (N := some 149) (v := ?_) (a' := ?_) #[true, true, true, true, true, true, true, true, true, true, true, true, true, true, true, true, true, true, false, false, false, false, false, false, false, false, false, false, false, false] rfl rfl (Zaz HT_.out (by kernel_rfl)) (fun _ _ _ h => h) (Or.inl ⟨by rfl, ?_⟩) ?_ ?_
               rotate_left
               ·intro w'
                go_simp
                with_reducible rfl
               rotate_left
               ·simp only [Act.put, ZA, ZB, ZC, i64_w, i32_w]
                rfl
               refine pure_ (i := 18) (N := some 150) (v := ?_) (a' := ?_) #[true, true, true, true, true, true, true, true, true, true, true, true, true, true, true, true, true, true, true, false, false, false, false, false, false, false, false, false, false, false] rfl rfl (Zaz HT_.out (by kernel_rfl)) (fun _ _ _ h => h) (Or.inl ⟨by rfl, ?_⟩) ?_ ?_
               rotate_left
               ·intro w'
                go_simp
                with_reducible rfl
               rotate_left
               ·simp only [Act.put, ZA, ZB, ZC, i64_w, i32_w]
                rfl
               refine pure_ (i := 19) (N := some 151) (v := ?_) (a' := ?_) #[true, true, true, true, true, true, true, true, true, true, true, true, true, true, true, true, true, true, true, true, false, false, false, false, false, false, false, false, false, false] rfl rfl (Zaz HT_.out (by kernel_rfl)) (fun _ _ _ h => h) (Or.inl ⟨by rfl, ?_⟩) ?_ ?_
               rotate_left
               ·intro w'
                go_simp
                with_reducible rfl
               rotate_left
               ·simp only [Act.put, ZA, ZB, ZC, i64_w, i32_w]
                rfl
               refine pure_ (i := 20) (N := some 152) (v := ?_) (a' := ?_) #[true, true, true, true, true, true, true, true, true, true, true, true, true, true, true, true, true, true, true, true, true, false, false, false, false, false, false, false, false, false] rfl rfl (Zaz HT_.out (by kernel_rfl)) (fun _ _ _ h => h) (Or.inl ⟨by rfl, ?_⟩) ?_ ?_
               rotate_left
               ·intro w'
                go_simp
                with_reducible rfl
               rotate_left
               ·simp only [Act.put, ZA, ZB, ZC, i64_w, i32_w]
                rfl
               refine pure_ (i := 21) (N := some 153) (v := ?_) (a' := ?_) #[true, true, true, true, true, true, true, true, true, true, true, true, true, true, true, true, true, true, true, true, true, true, false, false, false, false, false, false, false, false] rfl rfl (Zaz HT_.out (by kernel_rfl)) (fun _ _ _ h => h) (Or.inl ⟨by rfl, ?_⟩) ?_ ?_
               rotate_left
               ·intro w'
                go_simp
                with_reducible rfl
               rotate_left
               ·simp only [Act.put, ZA, ZB, ZC, i64_w, i32_w]
                rfl
               refine pure_ (i := 22) (N := some 154) (v := ?_) (a' := ?_) #[true, true, true, true, true, true, true, true, true, true, true, true, true, true, true, true, true, true, true, true, true, true, true, false, false, false, false, false, false, false] rfl rfl (Zaz HT_.out (by kernel_rfl)) (fun _ _ _ h => h) (Or.inl ⟨by rfl, ?_⟩) ?_ ?_
               rotate_left
               ·intro w'
                go_simp
                with_reducible rfl
               rotate_left
               ·simp only [Act.put, ZA, ZB, ZC, i64_w, i32_w]
                rfl
               refine pure_ (i := 24) (N := some 156) (v := ?_) (a' := ?_) #[true, true, true, true, true, true, true, true, true, true, true, true, true, true, true, true, true, true, true, true, true, true, true, false, true, false, false, false, false, false] rfl rfl (Zaz HT_.out (by kernel_rfl)) (fun _ _ _ h => h) (Or.inl ⟨by rfl, ?_⟩) ?_ ?_
               rotate_left
               ·intro w'
                go_simp
                with_reducible rfl
               rotate_left
               ·simp only [Act.put, ZA, ZB, ZC, i64_w, i32_w]
                rfl
               refine pure_ (i := 25) (N := some 157) (v := ?_) (a' := ?_) #[true, true, true, true, true, true, true, true, true, true, true, true, true, true, true, true, true, true, true, true, true, true, true, false, true, true, false, false, false, false] rfl rfl (Zaz HT_.out (by kernel_rfl)) (fun _ _ _ h => h) (Or.inl ⟨by rfl, ?_⟩) ?_ ?_
               rotate_left
               ·intro w'
                go_simp
                with_reducible rfl
               rotate_left
               ·simp only [Act.put, ZA, ZB, ZC, i64_w, i32_w]
                rfl
               refine pure_ (i := 26) (N := some 158) (v := ?_) (a' := ?_) #[true, true, true, true, true, true, true, true, true, true, true, true, true, true, true, true, true, true, true, true, true, true, true, false, true, true, true, false, false, false] rfl rfl (Zaz HT_.out (by kernel_rfl)) (fun _ _ _ h => h) (Or.inl ⟨by rfl, ?_⟩) ?_ ?_
               rotate_left
               ·intro w'
                go_simp
                with_reducible rfl
               rotate_left
               ·simp only [Act.put, ZA, ZB, ZC, i64_w, i32_w]
                rfl
               refine take_ (i := 23) (N := some 155) (v := ?_) (a' := ?_) #[true, true, true, true, true, true, true, true, true, true, true, true, true, true, true, true, true, true, true, true, true, true, true, true, true, true, true, false, false, false] rfl rfl (take_ofW HT_.out HW_.out (by kernel_rfl)) (fun _ _ _ h => h) (Or.inl ⟨by rfl, ?_⟩) hHeld ?_ ?_
               rotate_left
               ·rintro w' ⟨s0, s1, s2, s3, s4, s5, s6⟩
                go_simp
                with_reducible rfl
               rotate_left
               ·simp only [Act.put, ZA, ZB, ZC, i64_w, i32_w]
                rfl
               refine take_ (i := 27) (N := some 159) (v := ?_) (a' := ?_) #[true, true, true, true, true, true, true, true, true, true, true, true, true, true, true, true, true, true, true, true, true, true, true, true, true, true, true, true, false, false] rfl rfl (take_ofW HT_.out HW_.out (by kernel_rfl)) (fun _ _ _ h => h) (Or.inl ⟨by rfl, ?_⟩) hHeld ?_ ?_
               rotate_left
               ·rintro w' ⟨s0, s1, s2, s3, s4, s5, s6⟩
                go_simp
                with_reducible rfl
               rotate_left
               ·simp only [Act.put, ZA, ZB, ZC, i64_w, i32_w]
                rfl
               refine pure_ (i := 28) (N := some 160) (v := ?_) (a' := ?_) #[true, true, true, true, true, true, true, true, true, true, true, true, true, true, true, true, true, true, true, true, true, true, true, true, true, true, true, true, true, false] rfl rfl (Zaz HT_.out (by kernel_rfl)) (fun _ _ _ h => h) (Or.inl ⟨by rfl, ?_⟩) ?_ ?_
               rotate_left
               ·intro w'
                go_simp
                with_reducible rfl
               rotate_left
               ·simp only [Act.put, ZA, ZB, ZC, i64_w, i32_w]
                rfl
               refine pure_ (i := 29) (N := some 161) (v := ?_) (a' := ?_) #[true, true, true, true, true, true, true, true, true, true, true, true, true, true, true, true, true, true, true, true, true, true, true, true, true, true, true, true, true, true] rfl rfl (Zaz HT_.out (by kernel_rfl)) (fun _ _ _ h => h) (Or.inl ⟨by rfl, ?_⟩) ?_ ?_
               rotate_left
               ·intro w'
                go_simp
                with_reducible rfl
               rotate_left
               ·simp only [Act.put, ZA, ZB, ZC, i64_w, i32_w]
                rfl
               refine done_ (done_of HT_.out (by kernel_rfl)) ?_
               try go_wp2
               go_ret
               exact ⟨by first | rfl | (simp [Zao, Zan] <;> rfl) | (simp [*, Zao, Zan] <;> rfl), by repeat (first | (with_reducible first | exact HB.out | apply Zac | apply Zaa | apply Zab | refine Zae ?_ GE309.out | refine Zae ?_ GE326.out) | exact HB.out)⟩
              ·rw [if_neg c100] at H
               have c100b0 : decide ((rd t331 x21_2) < (rd t310 x21_2)) = false := decide_eq_false c100
               clear c100
               have H' := Zad.mk H
               clear H
               obtain ⟨Ao105, co105, eo105⟩ := Kd.R_slice HO_7.out
               subst eo105
               try go_wp2
               have n0_ := Zad.mk (Kd.R_drew HO_6.out)
               have n1_ := Zad.mk (Kd.R_drew HO_7.out)
               have n2_ := Zad.mk (Kd.R_drew HO_15.out)
               have n3_ := Zad.mk (Kd.R_drew HO_17.out)
               have n4_ := Zad.mk (Kd.R_drew HO_310001.out)
               have n5_ := Zad.mk (Kd.R_drew HO_327001.out)
               have n6_ := Zad.mk (Zah BK309.out)
               have n7_ := Zad.mk (Zah BK326.out)
               have n8_ := Zad.mk (Zab HB.out)
               clear HO_6
               clear HO_7
               clear HO_15
               clear HO_17
               clear HO_310001
               clear HO_327001
               clear BK309
               clear BK326
               clear HB
               have HO_6 := n0_
               have HO_7 := n1_
               have HO_15 := n2_
               have HO_17 := n3_
               have HO_310001 := n4_
               have HO_327001 := n5_
               have BK309 := n6_
               have BK326 := n7_
               have HB := n8_
               clear n0_ n1_ n2_ n3_ n4_ n5_ n6_ n7_ n8_
               have p342 : 0 ≤ (x21_2 : Int) := of_decide_eq_true (by first | (with_reducible assumption) | assumption)
               have q342 : x21_2 < (t313.length : Int) := of_decide_eq_true (by first | (with_reducible assumption) | assumption)
               (try (obtain ⟨Aqad342, cqad342, eqad342⟩ := Kd.R_slice HO_7.out; subst eqad342))
               obtain ⟨ad342, e342, hx342_0⟩ := Kd.at_int (Kd.R_reads' HO_7.out).2.2 x21_2 p342 q342
               cases e342
               replace p342 := eq_true p342
               replace q342 := eq_true q342
               have p344 : 0 ≤ (x21_2 : Int) := of_decide_eq_true (by first | (with_reducible assumption) | assumption)
               have q344 : x21_2 < (t310.length : Int) := of_decide_eq_true (by first | (with_reducible assumption) | assumption)
               (try (obtain ⟨Aqad344, cqad344, eqad344⟩ := Kd.R_slice HO_6.out; subst eqad344))
               obtain ⟨ad344, e344, hx344_0⟩ := Kd.at_int (Kd.R_reads' HO_6.out).2.2 x21_2 p344 q344
               cases e344
               replace p344 := eq_true p344
               replace q344 := eq_true q344
               have p345 : 0 ≤ (x21_2 : Int) := of_decide_eq_true (by first | (with_reducible assumption) | assumption)
               have q345 : x21_2 < (t327.length : Int) := of_decide_eq_true (by first | (with_reducible assumption) | assumption)
               (try (obtain ⟨Aqad345, cqad345, eqad345⟩ := Kd.R_slice HO_15.out; subst eqad345))
               obtain ⟨ad345, e345, hx345_0⟩ := Kd.at_int (Kd.R_reads' HO_15.out).2.2 x21_2 p345 q345
               cases e345
               replace p345 := eq_true p345
               replace q345 := eq_true q345
               have p346 : 0 ≤ (x21_2 : Int) := of_decide_eq_true (by first | (with_reducible assumption) | assumption)
               have q346 : x21_2 < (t310.length : Int) := of_decide_eq_true (by first | (with_reducible assumption) | assumption)
               (try (obtain ⟨Aqad346, cqad346, eqad346⟩ := Kd.R_slice HO_6.out; subst eqad346))
               obtain ⟨ad346, e346, hx346_0⟩ := Kd.at_int (Kd.R_reads' HO_6.out).2.2 x21_2 p346 q346
               obtain rfl : ad344 = ad346 := (by injection e346)
               replace p346 := eq_true p346
               replace q346 := eq_true q346
               have p347 : 0 ≤ (x21_2 : Int) := of_decide_eq_true (by first | (with_reducible assumption) | assumption)
               have q347 : x21_2 < (t331.length : Int) := of_decide_eq_true (by first | (with_reducible assumption) | assumption)
               (try (obtain ⟨Aqad347, cqad347, eqad347⟩ := Kd.R_slice HO_17.out; subst eqad347))
               obtain ⟨ad347, e347, hx347_0⟩ := Kd.at_int (Kd.R_reads' HO_17.out).2.2 x21_2 p347 q347
               cases e347
               replace p347 := eq_true p347
               replace q347 := eq_true q347
               refine start_ (n := 30) (S := fun w' => w'.cell? ⟨gb309, 0, none⟩ = some (.int .i64 t305) ∧ w'.cell? ⟨gb309, 1, none⟩ = some (.slice Ao18 t306.length co18) ∧ w'.cell? (ad342.add (x21_2).toNat) = some (.int .i64 (rd t313 x21_2)) ∧ w'.cell? (ad344.add (x21_2).toNat) = some (.int .i64 (rd t310 x21_2)) ∧ w'.cell? (ad345.add (x21_2).toNat) = some (.int .i64 (rd t327 x21_2)) ∧ w'.cell? (ad344.add (x21_2).toNat) = some (.int .i64 (rd t310 x21_2)) ∧ w'.cell? (ad347.add (x21_2).toNat) = some (.int .i64 (rd t331 x21_2))) (ds := []) #[false, false, false, false, false, false, false, false, false, false, false, false, false, false, false, false, false, false, false, false, false, false, false, false, false, false, false, false, false, false] (by kernel_rfl) rfl rfl ⟨(Zaj BK309.out 0).trans rfl, (Zaj BK309.out 1).trans rfl, hx342_0, hx344_0, hx345_0, hx346_0, hx347_0⟩ (fun hHeld => ?_); refine with_tabW laws_FnValues.tab17 laws_FnValues.bits17 (fun HT_ HW_ => ?_)
               generalize wr.drew = w106 at HO_6 HO_7 HO_15 HO_17 HO_310001 HO_327001 BK309 BK326 HB hx342_0 hx344_0 hx345_0 hx346_0 hx347_0 hHeld ⊢
               refine pure_ (i := 0) (N := some 132) (v := ?_) (a' := ?_) #[true, false, false, false, false, false, false, false, false, false, false, false, false, false, false, false, false, false, false, false, false, false, false, false, false, false, false, false, false, false] rfl rfl (Zaz HT_.out (by kernel_rfl)) (fun _ _ _ h => h) (Or.inl ⟨by rfl, ?_⟩) ?_ ?_
               rotate_left
               ·intro w'
                go_simp
                with_reducible rfl
               rotate_left
               ·simp only [Act.put, ZA, ZB, ZC, i64_w, i32_w]
                rfl
               refine pure_ (i := 1) (N := some 133) (v := ?_) (a' := ?_) #[true, true, false, false, false, false, false, false, false, false, false, false, false, false, false, false, false, false, false, false, false, false, false, false, false, false, false, false, false, false] rfl rfl (Zaz HT_.out (by kernel_rfl)) (fun _ _ _ h => h) (Or.inl ⟨by rfl, ?_⟩) ?_ ?_
               rotate_left
               ·intro w'
                go_simp
                with_reducible rfl
               rotate_left
               ·simp only [Act.put, ZA, ZB, ZC, i64_w, i32_w]
                rfl
               refine pure_ (i := 2) (N := some 134) (v := ?_) (a' := ?_) #[true, true, true, false, false, false, false, false, false, false, false, false, false, false, false, false, false, false, false, false, false, false, false, false, false, false, false, false, false, false] rfl rfl (Zaz HT_.out (by kernel_rfl)) (fun _ _ _ h => h) (Or.inl ⟨by rfl, ?_⟩) ?_ ?_
               rotate_left
               ·intro w'
                go_simp
                with_reducible rfl
               rotate_left
               ·simp only [Act.put, ZA, ZB, ZC, i64_w, i32_w]
                rfl
               refine pure_ (i := 5) (N := some 137) (v := ?_) (a' := ?_) #[true, true, true, false, false, true, false, false, false, false, false, false, false, false, false, false, false, false, false, false, false, false, false, false, false, false, false, false, false, false] rfl rfl (Zaz HT_.out (by kernel_rfl)) (fun _ _ _ h => h) (Or.inl ⟨by rfl, ?_⟩) ?_ ?_
               rotate_left
               ·intro w'
                go_simp
                with_reducible rfl
               rotate_left
               ·simp only [Act.put, ZA, ZB, ZC, i64_w, i32_w]
                rfl
               refine take_ (i := 3) (N := some 135) (v := ?_) (a' := ?_) #[true, true, true, true, false, true, false, false, false, false, false, false, false, false, false, false, false, false, false, false, false, false, false, false, false, false, false, false, false, false] rfl rfl (take_ofW HT_.out HW_.out (by kernel_rfl)) (fun _ _ _ h => h) (Or.inl ⟨by rfl, ?_⟩) hHeld ?_ ?_
               rotate_left
               ·rintro w' ⟨s0, s1, s2, s3, s4, s5, s6⟩
                go_simp
                with_reducible rfl
               rotate_left
               ·simp only [Act.put, ZA, ZB, ZC, i64_w, i32_w]
                rfl
               refine take_ (i := 6) (N := some 138) (v := ?_) (a' := ?_) #[true, true, true, true, false, true, true, false, false, false, false, false, false, false, false, false, false, false, false, false, false, false, false, false, false, false, false, false, false, false] rfl rfl (take_ofW HT_.out HW_.out (by kernel_rfl)) (fun _ _ _ h => h) (Or.inl ⟨by rfl, ?_⟩) hHeld ?_ ?_
               rotate_left
               ·rintro w' ⟨s0, s1, s2, s3, s4, s5, s6⟩
                go_simp
                with_reducible rfl
               rotate_left
               ·simp only [Act.put, ZA, ZB, ZC, i64_w, i32_w]
                rfl
               refine one_ (i := 4) (N := some 136) #[true, true, true, true, true, true, true, false, false, false, false, false, false, false, false, false, false, false, false, false, false, false, false, false, false, false, false, false, false, false] rfl rfl (one_of HT_.out (by kernel_rfl)) (by decide) (fun K hK => ?_)
               refine goes_ Tryz.func16 (by kernel_rfl) rfl #[.int .i64 (rd t313 x21_2)] (by rfl) rfl rfl (by (try simp only [List.map_toArray, List.map_cons, List.map_nil]); first | done | rfl | (simp only [List.length_drop, List.length_take]; rfl)) ?_
               with_reducible refine (laws_b10Abs.calls (rd t313 x21_2) t343 _ A89.out).mono ?_
               rintro e w' ⟨rfl, ⟨nd, rfl⟩⟩
               refine ⟨_, rfl, ?_⟩
               obtain ⟨Ao107, co107, eo107⟩ := Kd.R_slice HO_15.out
               (first | subst eo107 | (injection eo107 with f1_ f2_ f3_; have f4_ := f1_.symm; have f5_ := f3_.symm; clear f1_ f2_ f3_; subst f4_; subst f5_))
               obtain ⟨Ao108, co108, eo108⟩ := Kd.R_slice HO_17.out
               (first | subst eo108 | (injection eo108 with f1_ f2_ f3_; have f4_ := f1_.symm; have f5_ := f3_.symm; clear f1_ f2_ f3_; subst f4_; subst f5_))
               refine hK.out _ _ ⟨(Zaj BK309.out 0).trans rfl, (Zaj BK309.out 1).trans rfl, hHeld.2.2.1, hHeld.2.2.2.1, hHeld.2.2.2.2.1, hHeld.2.2.2.2.2.1, hHeld.2.2.2.2.2.2⟩ (fun hHeld => ?_)
               clear hK K
               refine norm_ (a' := ?_) ?_ ?_
               rotate_left
               ·show Act.put _ (some 136) _ = _
                simp only [Act.put, ZA, ZB, ZC, i64_w, i32_w]
                rfl
               refine pure_ (i := 7) (N := some 139) (v := ?_) (a' := ?_) #[true, true, true, true, true, true, true, true, false, false, false, false, false, false, false, false, false, false, false, false, false, false, false, false, false, false, false, false, false, false] rfl rfl (Zaz HT_.out (by kernel_rfl)) (fun _ _ _ h => h) (Or.inl ⟨by rfl, ?_⟩) ?_ ?_
               rotate_left
               ·intro w'
                go_simp
                with_reducible rfl
               rotate_left
               ·simp only [Act.put, ZA, ZB, ZC, i64_w, i32_w]
                rfl
               refine pure_ (i := 8) (N := some 140) (v := ?_) (a' := ?_) #[true, true, true, true, true, true, true, true, true, false, false, false, false, false, false, false, false, false, false, false, false, false, false, false, false, false, false, false, false, false] rfl rfl (Zaz HT_.out (by kernel_rfl)) (fun _ _ _ h => h) (Or.inl ⟨by rfl, ?_⟩) ?_ ?_
               rotate_left
               ·intro w'
                go_simp
                with_reducible rfl
               rotate_left
               ·simp only [Act.put, ZA, ZB, ZC, i64_w, i32_w]
                rfl
               refine pure_ (i := 9) (N := some 141) (v := ?_) (a' := ?_) #[true, true, true, true, true, true, true, true, true, true, false, false, false, false, false, false, false, false, false, false, false, false, false, false, false, false, false, false, false, false] rfl rfl (Zaz HT_.out (by kernel_rfl)) (fun _ _ _ h => h) (Or.inl ⟨by rfl, ?_⟩) ?_ ?_
               rotate_left
               ·intro w'
                go_simp
                with_reducible rfl
               rotate_left
               ·simp only [Act.put, ZA, ZB, ZC, i64_w, i32_w]
                rfl
               refine pure_ (i := 10) (N := some 142) (v := ?_) (a' := ?_) #[true, true, true, true, true, true, true, true, true, true, true, false, false, false, false, false, false, false, false, false, false, false, false, false, false, false, false, false, false, false] rfl rfl (Zaz HT_.out (by kernel_rfl)) (fun _ _ _ h => h) (Or.inl ⟨by rfl, ?_⟩) ?_ ?_
               rotate_left
               ·intro w'
                go_simp
                with_reducible rfl
               rotate_left
               ·simp only [Act.put, ZA, ZB, ZC, i64_w, i32_w]
                rfl
               refine pure_ (i := 11) (N := some 143) (v := ?_) (a' := ?_) #[true, true, true, true, true, true, true, true, true, true, true, true, false, false, false, false, false, false, false, false, false, false, false, false, false, false, false, false, false, false] rfl rfl (Zaz HT_.out (by kernel_rfl)) (fun _ _ _ h => h) (Or.inl ⟨by rfl, ?_⟩) ?_ ?_
               rotate_left
               ·intro w'
                go_simp
                with_reducible rfl
               rotate_left
               ·simp only [Act.put, ZA, ZB, ZC, i64_w, i32_w]
                rfl
               refine pure_ (i := 13) (N := some 145) (v := ?_) (a' := ?_) #[true, true, true, true, true, true, true, true, true, true, true, true, false, true, false, false, false, false, false, false, false, false, false, false, false, false, false, false, false, false] rfl rfl (Zaz HT_.out (by kernel_rfl)) (fun _ _ _ h => h) (Or.inl ⟨by rfl, ?_⟩) ?_ ?_
               rotate_left
               ·intro w'
                go_simp
                with_reducible rfl
               rotate_left
               ·simp only [Act.put, ZA, ZB, ZC, i64_w, i32_w]
                rfl
               refine pure_ (i := 14) (N := some 146) (v := ?_) (a' := ?_) #[true, true, true, true, true, true, true, true, true, true, true, true, false, true, true, false, false, false, false, false, false, false, false, false, false, false, false, false, false, false] rfl rfl (Zaz HT_.out (by kernel_rfl)) (fun _ _ _ h => h) (Or.inl ⟨by rfl, ?_⟩) ?_ ?_
               rotate_left
               ·intro w'
                go_simp
                with_reducible rfl
               rotate_left
               ·simp only [Act.put, ZA, ZB, ZC, i64_w, i32_w]
                rfl
               refine pure_ (i := 15) (N := some 147) (v := ?_) (a' := ?_) #[true, true, true, true, true, true, true, true, true, true, true, true, false, true, true, true, false, false, false, false, false, false, false, false, false, false, false, false, false, false] rfl rfl (Zaz HT_.out (by kernel_rfl)) (fun _ _ _ h => h) (Or.inl ⟨by rfl, ?_⟩) ?_ ?_
               rotate_left
               ·intro w'
                go_simp
                with_reducible rfl
               rotate_left
               ·simp only [Act.put, ZA, ZB, ZC, i64_w, i32_w]
                rfl
               refine take_ (i := 12) (N := some 144) (v := ?_) (a' := ?_) #[true, true, true, true, true, true, true, true, true, true, true, true, true, true, true, true, false, false, false, false, false, false, false, false, false, false, false, false, false, false] rfl rfl (take_ofW HT_.out HW_.out (by kernel_rfl)) (fun _ _ _ h => h) (Or.inl ⟨by rfl, ?_⟩) hHeld ?_ ?_
               rotate_left
               ·rintro w' ⟨s0, s1, s2, s3, s4, s5, s6⟩
                go_simp
                with_reducible rfl
               rotate_left
               ·simp only [Act.put, ZA, ZB, ZC, i64_w, i32_w]
                rfl
               refine take_ (i := 16) (N := some 148) (v := ?_) (a' := ?_) #[true, true, true, true, true, true, true, true, true, true, true, true, true, true, true, true, true, false, false, false, false, false, false, false, false, false, false, false, false, false] rfl rfl (take_ofW HT_.out HW_.out (by kernel_rfl)) (fun _ _ _ h => h) (Or.inl ⟨by rfl, ?_⟩) hHeld ?_ ?_
               rotate_left
               ·rintro w' ⟨s0, s1, s2, s3, s4, s5, s6⟩
                go_simp
                with_reducible rfl
               rotate_left
               ·simp only [Act.put, ZA, ZB, ZC, i64_w, i32_w]
                rfl
               refine pure_ (i := 17) (N := some 149) (v := ?_) (a' := ?_) #[true, true, true, true, true, true, true, true, true, true, true, true, true, true, true, true, true, true, false, false, false, false, false, false, false, false, false, false, false, false] rfl rfl (Zaz HT_.out (by kernel_rfl)) (fun _ _ _ h => h) (Or.inl ⟨by rfl, ?_⟩) ?_ ?_
               rotate_left
               ·intro w'
                go_simp
                with_reducible rfl
               rotate_left
               ·simp only [Act.put, ZA, ZB, ZC, i64_w, i32_w]
                rfl
               refine pure_ (i := 18) (N := some 150) (v := ?_) (a' := ?_) #[true, true, true, true, true, true, true, true, true, true, true, true, true, true, true, true, true, true, true, false, false, false, false, false, false, false, false, false, false, false] rfl rfl (Zaz HT_.out (by kernel_rfl)) (fun _ _ _ h => h) (Or.inl ⟨by rfl, ?_⟩) ?_ ?_
               rotate_left
               ·intro w'
                go_simp
                with_reducible rfl
               rotate_left
               ·simp only [Act.put, ZA, ZB, ZC, i64_w, i32_w]
                rfl
               refine pure_ (i := 19) (N := some 151) (v := ?_) (a' := ?_) #[true, true, true, true, true, true, true, true, true, true, true, true, true, true, true, true, true, true, true, true, false, false, false, false, false, false, false, false, false, false] rfl rfl (Zaz HT_.out (by kernel_rfl)) (fun _ _ _ h => h) (Or.inl ⟨by rfl, ?_⟩) ?_ ?_
               rotate_left
               ·intro w'
                go_simp
                with_reducible rfl
               rotate_left
               ·simp only [Act.put, ZA, ZB, ZC, i64_w, i32_w]
                rfl
               refine pure_ (i := 20) (N := some 152) (v := ?_) (a' := ?_) #[true, true, true, true, true, true, true, true, true, true, true, true, true, true, true, true, true, true, true, true, true, false, false, false, false, false, false, false, false, false] rfl rfl (Zaz HT_.out (by kernel_rfl)) (fun _ _ _ h => h) (Or.inl ⟨by rfl, ?_⟩) ?_ ?_
               rotate_left
               ·intro w'
                go_simp
                with_reducible rfl
               rotate_left
               ·simp only [Act.put, ZA, ZB, ZC, i64_w, i32_w]
                rfl
               refine pure_ (i := 21) (N := some 153) (v := ?_) (a' := ?_) #[true, true, true, true, true, true, true, true, true, true, true, true, true, true, true, true, true, true, true, true, true, true, false, false, false, false, false, false, false, false] rfl rfl (Zaz HT_.out (by kernel_rfl)) (fun _ _ _ h => h) (Or.inl ⟨by rfl, ?_⟩) ?_ ?_
               rotate_left
               ·intro w'
                go_simp
                with_reducible rfl
               rotate_left
               ·simp only [Act.put, ZA, ZB, ZC, i64_w, i32_w]
                rfl
               refine pure_ (i := 22) (N := some 154) (v := ?_) (a' := ?_) #[true, true, true, true, true, true, true, true, true, true, true, true, true, true, true, true, true, true, true, true, true, true, true, false, false, false, false, false, false, false] rfl rfl (Zaz HT_.out (by kernel_rfl)) (fun _ _ _ h => h) (Or.inl ⟨by rfl, ?_⟩) ?_ ?_
               rotate_left
               ·intro w'
                go_simp
                with_reducible rfl
               rotate_left
               ·simp only [Act.put, ZA, ZB, ZC, i64_w, i32_w]
                rfl
               refine pure_ (i := 24) (N := some 156) (v := ?_) (a' := ?_) #[true, true, true, true, true, true, true, true, true, true, true, true, true, true, true, true, true, true, true, true, true, true, true, false, true, false, false, false, false, false] rfl rfl (Zaz HT_.out (by kernel_rfl)) (fun _ _ _ h => h) (Or.inl ⟨by rfl, ?_⟩) ?_ ?_
               rotate_left
               ·intro w'
                go_simp
                with_reducible rfl
               rotate_left
               ·simp only [Act.put, ZA, ZB, ZC, i64_w, i32_w]
                rfl
               refine pure_ (i := 25) (N := some 157) (v := ?_) (a' := ?_) #[true, true, true, true, true, true, true, true, true, true, true, true, true, true, true, true, true, true, true, true, true, true, true, false, true, true, false, false, false, false] rfl rfl (Zaz HT_.out (by kernel_rfl)) (fun _ _ _ h => h) (Or.inl ⟨by rfl, ?_⟩) ?_ ?_
               rotate_left
               ·intro w'
                go_simp
                with_reducible rfl
               rotate_left
               ·simp only [Act.put, ZA, ZB, ZC, i64_w, i32_w]
                rfl
               refine pure_ (i := 26) (N := some 158) (v := ?_) (a' := ?_) #[true, true, true, true, true, true, true, true, true, true, true, true, true, true, true, true, true, true, true, true, true, true, true, false, true, true, true, false, false, false] rfl rfl (Zaz HT_.out (by kernel_rfl)) (fun _ _ _ h => h) (Or.inl ⟨by rfl, ?_⟩) ?_ ?_
               rotate_left
               ·intro w'
                go_simp
                with_reducible rfl
               rotate_left
               ·simp only [Act.put, ZA, ZB, ZC, i64_w, i32_w]
                rfl
               refine take_ (i := 23) (N := some 155) (v := ?_) (a' := ?_) #[true, true, true, true, true, true, true, true, true, true, true, true, true, true, true, true, true, true, true, true, true, true, true, true, true, true, true, false, false, false] rfl rfl (take_ofW HT_.out HW_.out (by kernel_rfl)) (fun _ _ _ h => h) (Or.inl ⟨by rfl, ?_⟩) hHeld ?_ ?_
               rotate_left
               ·rintro w' ⟨s0, s1, s2, s3, s4, s5, s6⟩
                go_simp
                with_reducible rfl
               rotate_left
               ·simp only [Act.put, ZA, ZB, ZC, i64_w, i32_w]
                rfl
               refine take_ (i := 27) (N := some 159) (v := ?_) (a' := ?_) #[true, true, true, true, true, true, true, true, true, true, true, true, true, true, true, true, true, true, true, true, true, true, true, true, true, true, true, true, false, false] rfl rfl (take_ofW HT_.out HW_.out (by kernel_rfl)) (fun _ _ _ h => h) (Or.inl ⟨by rfl, ?_⟩) hHeld ?_ ?_
               rotate_left
               ·rintro w' ⟨s0, s1, s2, s3, s4, s5, s6⟩
                go_simp
                with_reducible rfl
               rotate_left
               ·simp only [Act.put, ZA, ZB, ZC, i64_w, i32_w]
                rfl
               refine pure_ (i := 28) (N := some 160) (v := ?_) (a' := ?_) #[true, true, true, true, true, true, true, true, true, true, true, true, true, true, true, true, true, true, true, true, true, true, true, true, true, true, true, true, true, false] rfl rfl (Zaz HT_.out (by kernel_rfl)) (fun _ _ _ h => h) (Or.inl ⟨by rfl, ?_⟩) ?_ ?_
               rotate_left
               ·intro w'
                go_simp
                with_reducible rfl
               rotate_left
               ·simp only [Act.put, ZA, ZB, ZC, i64_w, i32_w]
                rfl
               refine pure_ (i := 29) (N := some 161) (v := ?_) (a' := ?_) #[true, true, true, true, true, true, true, true, true, true, true, true, true, true, true, true, true, true, true, true, true, true, true, true, true, true, true, true, true, true] rfl rfl (Zaz HT_.out (by kernel_rfl)) (fun _ _ _ h => h) (Or.inl ⟨by rfl, ?_⟩) ?_ ?_
               rotate_left
               ·intro w'
                go_simp
                with_reducible rfl
               rotate_left
               ·simp only [Act.put, ZA, ZB, ZC, i64_w, i32_w]
                rfl
               refine done_ (done_of HT_.out (by kernel_rfl)) ?_
               try go_wp2
               go_roundg k2
               case measure => have := HJ13.out; have := HK2.out; omega
               case rel => exact ⟨(wrap64 (x21_2 + 1)), (by first | rfl | (simp; done) | (simp [*]; done) | (simp [IntWalk.i64_left, *]; done)), H', ⟨by have := HJ13.out; have := HK2.out; omega⟩, ⟨by (with_reducible repeat (first | apply Kd.R_alloc | apply Kd.R_drewN | apply Kd.R_drew)); exact HO_6.out⟩, ⟨by (with_reducible repeat (first | apply Kd.R_alloc | apply Kd.R_drewN | apply Kd.R_drew)); exact HO_7.out⟩, ⟨by (with_reducible repeat (first | apply Kd.R_alloc | apply Kd.R_drewN | apply Kd.R_drew)); exact HO_15.out⟩, ⟨by (with_reducible repeat (first | apply Kd.R_alloc | apply Kd.R_drewN | apply Kd.R_drew)); exact HO_17.out⟩, ⟨by (with_reducible repeat (first | apply Kd.R_alloc | apply Kd.R_drewN | apply Kd.R_drew)); exact HO_310001.out⟩, ⟨by (with_reducible repeat (first | apply Kd.R_alloc | apply Kd.R_drewN | apply Kd.R_drew)); exact HO_327001.out⟩, ⟨by (with_reducible repeat (first | refine Zag ?_ _ | refine Zah ?_ | refine Zaf ?_ _)); exact BK309.out⟩, ⟨by (with_reducible repeat (first | refine Zag ?_ _ | refine Zah ?_ | refine Zaf ?_ _)); exact BK326.out⟩, ⟨by repeat (first | (with_reducible first | exact HB.out | apply Zac | apply Zaa | apply Zab | refine Zae ?_ GE309.out | refine Zae ?_ GE326.out) | exact HB.out)⟩⟩
             ·rw [if_neg c99] at H
              exact absurd H (by simp)
           ·rw [if_neg c94] at H
            exact absurd H (by simp)
          ·rw [if_neg c93] at H
           exact absurd H (by simp)
        ·rw [if_neg c88] at H
         exact absurd H (by simp)
       ·rw [if_neg c87] at H
        have c87b0 : decide (x21_2 < (t313.length : Int)) = false := decide_eq_false c87
        clear c87
        replace H := Option.bind_eq_some_iff.mp H
        obtain ⟨t348, A1090, H⟩ := H
        replace H : ((laws_b10Sum.f k2 t310).bind fun t349 => (if t348 = (wrap64 ((wrap64 (t305 * t349)) - t317)) then ((laws_b10Sum.f k2 t306).bind fun t350 => (some (t317 == t350))) else (some false))) = some r := H
        have A109 := Zad.mk A1090
        clear A1090
        replace H := Option.bind_eq_some_iff.mp H
        obtain ⟨t349, A1100, H⟩ := H
        replace H : (if t348 = (wrap64 ((wrap64 (t305 * t349)) - t317)) then ((laws_b10Sum.f k2 t306).bind fun t350 => (some (t317 == t350))) else (some false)) = some r := H
        have A110 := Zad.mk A1100
        clear A1100
        by_cases c111 : t348 = (wrap64 ((wrap64 (t305 * t349)) - t317))
        ·rw [if_pos c111] at H
         have c111b0 : (t348 == (wrap64 ((wrap64 (t305 * t349)) - t317))) = true := beq_iff_eq.mpr c111
         have c111b1 : (t348 != (wrap64 ((wrap64 (t305 * t349)) - t317))) = false := bne_eq_false_iff_eq.mpr c111
         clear c111
         replace H := Option.bind_eq_some_iff.mp H
         obtain ⟨t350, A1120, H⟩ := H
         replace H : (some (t317 == t350)) = some r := H
         have A112 := Zad.mk A1120
         clear A1120
         obtain rfl := Option.some.inj H
         obtain ⟨Ao113, co113, eo113⟩ := Kd.R_slice HO_7.out
         subst eo113
         try go_wp2
         have n0_ := Zad.mk (Kd.R_drew HO_6.out)
         have n1_ := Zad.mk (Kd.R_drew HO_7.out)
         have n2_ := Zad.mk (Kd.R_drew HO_15.out)
         have n3_ := Zad.mk (Kd.R_drew HO_17.out)
         have n4_ := Zad.mk (Kd.R_drew HO_310001.out)
         have n5_ := Zad.mk (Kd.R_drew HO_327001.out)
         have n6_ := Zad.mk (Zah BK309.out)
         have n7_ := Zad.mk (Zah BK326.out)
         have n8_ := Zad.mk (Zab HB.out)
         clear HO_6
         clear HO_7
         clear HO_15
         clear HO_17
         clear HO_310001
         clear HO_327001
         clear BK309
         clear BK326
         clear HB
         have HO_6 := n0_
         have HO_7 := n1_
         have HO_15 := n2_
         have HO_17 := n3_
         have HO_310001 := n4_
         have HO_327001 := n5_
         have BK309 := n6_
         have BK326 := n7_
         have HB := n8_
         clear n0_ n1_ n2_ n3_ n4_ n5_ n6_ n7_ n8_
         refine start_ (n := 18) (S := fun w' => w'.cell? ⟨gb309, 0, none⟩ = some (.int .i64 t305) ∧ w'.cell? ⟨gb309, 1, none⟩ = some (.slice Ao18 t306.length co18)) (ds := []) #[false, false, false, false, false, false, false, false, false, false, false, false, false, false, false, false, false, false] (by kernel_rfl) rfl rfl ⟨(Zaj BK309.out 0).trans rfl, (Zaj BK309.out 1).trans rfl⟩ (fun hHeld => ?_); refine with_tabW laws_FnValues.tab19 laws_FnValues.bits19 (fun HT_ HW_ => ?_)
         generalize wr.drew = w114 at HO_6 HO_7 HO_15 HO_17 HO_310001 HO_327001 BK309 BK326 HB hHeld ⊢
         refine pure_ (i := 0) (N := some 162) (v := ?_) (a' := ?_) #[true, false, false, false, false, false, false, false, false, false, false, false, false, false, false, false, false, false] rfl rfl (Zaz HT_.out (by kernel_rfl)) (fun _ _ _ h => h) (Or.inl ⟨by rfl, ?_⟩) ?_ ?_
         rotate_left
         ·intro w'
          go_simp
          with_reducible rfl
         rotate_left
         ·simp only [Act.put, ZA, ZB, ZC, i64_w, i32_w]
          rfl
         refine pure_ (i := 2) (N := some 164) (v := ?_) (a' := ?_) #[true, false, true, false, false, false, false, false, false, false, false, false, false, false, false, false, false, false] rfl rfl (Zaz HT_.out (by kernel_rfl)) (fun _ _ _ h => h) (Or.inl ⟨by rfl, ?_⟩) ?_ ?_
         rotate_left
         ·intro w'
          go_simp
          with_reducible rfl
         rotate_left
         ·simp only [Act.put, ZA, ZB, ZC, i64_w, i32_w]
          rfl
         refine pure_ (i := 4) (N := some 166) (v := ?_) (a' := ?_) #[true, false, true, false, true, false, false, false, false, false, false, false, false, false, false, false, false, false] rfl rfl (Zaz HT_.out (by kernel_rfl)) (fun _ _ _ h => h) (Or.inl ⟨by rfl, ?_⟩) ?_ ?_
         rotate_left
         ·intro w'
          go_simp
          with_reducible rfl
         rotate_left
         ·simp only [Act.put, ZA, ZB, ZC, i64_w, i32_w]
          rfl
         refine pure_ (i := 7) (N := some 169) (v := ?_) (a' := ?_) #[true, false, true, false, true, false, false, true, false, false, false, false, false, false, false, false, false, false] rfl rfl (Zaz HT_.out (by kernel_rfl)) (fun _ _ _ h => h) (Or.inl ⟨by rfl, ?_⟩) ?_ ?_
         rotate_left
         ·intro w'
          go_simp
          with_reducible rfl
         rotate_left
         ·simp only [Act.put, ZA, ZB, ZC, i64_w, i32_w]
          rfl
         refine take_ (i := 3) (N := some 165) (v := ?_) (a' := ?_) #[true, false, true, true, true, false, false, true, false, false, false, false, false, false, false, false, false, false] rfl rfl (take_ofW HT_.out HW_.out (by kernel_rfl)) (fun _ _ _ h => h) (Or.inl ⟨by rfl, ?_⟩) hHeld ?_ ?_
         rotate_left
         ·rintro w' ⟨s0, s1⟩
          go_simp
          with_reducible rfl
         rotate_left
         ·simp only [Act.put, ZA, ZB, ZC, i64_w, i32_w]
          rfl
         refine one_ (i := 1) (N := some 163) #[true, true, true, true, true, false, false, true, false, false, false, false, false, false, false, false, false, false] rfl rfl (one_of HT_.out (by kernel_rfl)) (by decide) (fun K hK => ?_)
         refine goes_ Tryz.func17 (by kernel_rfl) rfl #[.slice Ao113 t313.length co113] (by rfl) rfl rfl (by (try simp only [List.map_toArray, List.map_cons, List.map_nil]); first | done | rfl | (simp only [List.length_drop, List.length_take]; rfl)) ?_
         with_reducible refine (laws_b10Sum.calls k2 _ _ t313 t348 _ ?side1 ?side2 A109.out).mono ?_
         (case side1 => repeat (first | exact (Kd.R_reads' HO_7.out).2.2 | (with_reducible refine Kd.C_alloc ?_ _) | (with_reducible refine Kd.C_drewN ?_ _) | (with_reducible refine Kd.C_drew ?_)))
         (case side2 => exact (Kd.R_reads' HO_7.out).2.1)
         rintro e w' ⟨rfl, ⟨nd, rfl⟩⟩
         refine ⟨_, rfl, ?_⟩
         refine hK.out _ _ ⟨(Zaj BK309.out 0).trans rfl, (Zaj BK309.out 1).trans rfl⟩ (fun hHeld => ?_)
         clear hK K
         refine norm_ (a' := ?_) ?_ ?_
         rotate_left
         ·show Act.put _ (some 163) _ = _
          simp only [Act.put, ZA, ZB, ZC, i64_w, i32_w]
          rfl
         refine one_ (i := 5) (N := some 167) #[true, true, true, true, true, true, false, true, false, false, false, false, false, false, false, false, false, false] rfl rfl (one_of HT_.out (by kernel_rfl)) (by decide) (fun K hK => ?_)
         refine goes_ Tryz.func17 (by kernel_rfl) rfl #[.slice Ao21 t310.length co21] (by rfl) rfl rfl (by (try simp only [List.map_toArray, List.map_cons, List.map_nil]); first | done | rfl | (simp only [List.length_drop, List.length_take]; rfl)) ?_
         with_reducible refine (laws_b10Sum.calls k2 _ _ t310 t349 _ ?side1 ?side2 A110.out).mono ?_
         (case side1 => repeat (first | exact (Kd.R_reads' HO_6.out).2.2 | (with_reducible refine Kd.C_alloc ?_ _) | (with_reducible refine Kd.C_drewN ?_ _) | (with_reducible refine Kd.C_drew ?_)))
         (case side2 => exact (Kd.R_reads' HO_6.out).2.1)
         rintro e w' ⟨rfl, ⟨nd, rfl⟩⟩
         refine ⟨_, rfl, ?_⟩
         refine hK.out _ _ ⟨(Zaj BK309.out 0).trans rfl, (Zaj BK309.out 1).trans rfl⟩ (fun hHeld => ?_)
         clear hK K
         refine norm_ (a' := ?_) ?_ ?_
         rotate_left
         ·show Act.put _ (some 167) _ = _
          simp only [Act.put, ZA, ZB, ZC, i64_w, i32_w]
          rfl
         refine pure_ (i := 6) (N := some 168) (v := ?_) (a' := ?_) #[true, true, true, true, true, true, true, true, false, false, false, false, false, false, false, false, false, false] rfl rfl (Zaz HT_.out (by kernel_rfl)) (fun _ _ _ h => h) (Or.inl ⟨by rfl, ?_⟩) ?_ ?_
         rotate_left
         ·intro w'
          go_simp
          with_reducible rfl
         rotate_left
         ·simp only [Act.put, ZA, ZB, ZC, i64_w, i32_w]
          rfl
         refine pure_ (i := 8) (N := some 170) (v := ?_) (a' := ?_) #[true, true, true, true, true, true, true, true, true, false, false, false, false, false, false, false, false, false] rfl rfl (Zaz HT_.out (by kernel_rfl)) (fun _ _ _ h => h) (Or.inl ⟨by rfl, ?_⟩) ?_ ?_
         rotate_left
         ·intro w'
          go_simp
          with_reducible rfl
         rotate_left
         ·simp only [Act.put, ZA, ZB, ZC, i64_w, i32_w]
          rfl
         refine pure_ (i := 9) (N := some 171) (v := ?_) (a' := ?_) #[true, true, true, true, true, true, true, true, true, true, false, false, false, false, false, false, false, false] rfl rfl (Zaz HT_.out (by kernel_rfl)) (fun _ _ _ h => h) (Or.inl ⟨by rfl, ?_⟩) ?_ ?_
         rotate_left
         ·intro w'
          go_simp
          with_reducible rfl
         rotate_left
         ·simp only [Act.put, ZA, ZB, ZC, i64_w, i32_w]
          rfl
         refine pure_ (i := 10) (N := some 172) (v := ?_) (a' := ?_) #[true, true, true, true, true, true, true, true, true, true, true, false, false, false, false, false, false, false] rfl rfl (Zaz HT_.out (by kernel_rfl)) (fun _ _ _ h => h) (Or.inl ⟨by rfl, ?_⟩) ?_ ?_
         rotate_left
         ·intro w'
          go_simp
          with_reducible rfl
         rotate_left
         ·simp only [Act.put, ZA, ZB, ZC, i64_w, i32_w]
          rfl
         refine pure_ (i := 11) (N := some 173) (v := ?_) (a' := ?_) #[true, true, true, true, true, true, true, true, true, true, true, true, false, false, false, false, false, false] rfl rfl (Zaz HT_.out (by kernel_rfl)) (fun _ _ _ h => h) (Or.inl ⟨by rfl, ?_⟩) ?_ ?_
         rotate_left
         ·intro w'
          go_simp
          with_reducible rfl
         rotate_left
         ·simp only [Act.put, ZA, ZB, ZC, i64_w, i32_w]
          rfl
         refine pure_ (i := 12) (N := some 174) (v := ?_) (a' := ?_) #[true, true, true, true, true, true, true, true, true, true, true, true, true, false, false, false, false, false] rfl rfl (Zaz HT_.out (by kernel_rfl)) (fun _ _ _ h => h) (Or.inl ⟨by rfl, ?_⟩) ?_ ?_
         rotate_left
         ·intro w'
          go_simp
          with_reducible rfl
         rotate_left
         ·simp only [Act.put, ZA, ZB, ZC, i64_w, i32_w]
          rfl
         refine take_ (i := 13) (N := some 175) (v := ?_) (a' := ?_) #[true, true, true, true, true, true, true, true, true, true, true, true, true, true, false, false, false, false] rfl rfl (take_ofW HT_.out HW_.out (by kernel_rfl)) (fun _ _ _ h => h) (Or.inl ⟨by rfl, ?_⟩) hHeld ?_ ?_
         rotate_left
         ·rintro w' ⟨s0, s1⟩
          go_simp
          with_reducible rfl
         rotate_left
         ·simp only [Act.put, ZA, ZB, ZC, i64_w, i32_w]
          rfl
         refine one_ (i := 14) (N := some 176) #[true, true, true, true, true, true, true, true, true, true, true, true, true, true, true, false, false, false] rfl rfl (one_of HT_.out (by kernel_rfl)) (by decide) (fun K hK => ?_)
         refine goes_ Tryz.func17 (by kernel_rfl) rfl #[.slice Ao18 t306.length co18] (by rfl) rfl rfl (by (try simp only [List.map_toArray, List.map_cons, List.map_nil]); first | done | rfl | (simp only [List.length_drop, List.length_take]; rfl)) ?_
         with_reducible refine (laws_b10Sum.calls k2 _ _ t306 t350 _ ?side1 ?side2 A112.out).mono ?_
         (case side1 => repeat (first | exact (Kd.R_reads' HO_310001.out).2.2 | (with_reducible refine Kd.C_alloc ?_ _) | (with_reducible refine Kd.C_drewN ?_ _) | (with_reducible refine Kd.C_drew ?_)))
         (case side2 => exact (Kd.R_reads' HO_310001.out).2.1)
         rintro e w' ⟨rfl, ⟨nd, rfl⟩⟩
         refine ⟨_, rfl, ?_⟩
         refine hK.out _ _ ⟨(Zaj BK309.out 0).trans rfl, (Zaj BK309.out 1).trans rfl⟩ (fun hHeld => ?_)
         clear hK K
         refine norm_ (a' := ?_) ?_ ?_
         rotate_left
         ·show Act.put _ (some 176) _ = _
          simp only [Act.put, ZA, ZB, ZC, i64_w, i32_w]
          rfl
         refine pure_ (i := 15) (N := some 177) (v := ?_) (a' := ?_) #[true, true, true, true, true, true, true, true, true, true, true, true, true, true, true, true, false, false] rfl rfl (Zaz HT_.out (by kernel_rfl)) (fun _ _ _ h => h) (Or.inl ⟨by rfl, ?_⟩) ?_ ?_
         rotate_left
         ·intro w'
          go_simp
          with_reducible rfl
         rotate_left
         ·simp only [Act.put, ZA, ZB, ZC, i64_w, i32_w]
          rfl
         refine pure_ (i := 16) (N := some 178) (v := ?_) (a' := ?_) #[true, true, true, true, true, true, true, true, true, true, true, true, true, true, true, true, true, false] rfl rfl (Zaz HT_.out (by kernel_rfl)) (fun _ _ _ h => h) (Or.inl ⟨by rfl, ?_⟩) ?_ ?_
         rotate_left
         ·intro w'
          go_simp
          with_reducible rfl
         rotate_left
         ·simp only [Act.put, ZA, ZB, ZC, i64_w, i32_w]
          rfl
         refine pure_ (i := 17) (N := some 4) (v := ?_) (a' := ?_) #[true, true, true, true, true, true, true, true, true, true, true, true, true, true, true, true, true, true] rfl rfl (Zaz HT_.out (by kernel_rfl)) (fun _ _ _ h => h) (Or.inl ⟨by rfl, ?_⟩) ?_ ?_
         rotate_left
         ·intro w'
          go_simp
          with_reducible rfl
         rotate_left
         ·simp only [Act.put, ZA, ZB, ZC, i64_w, i32_w]
          rfl
         refine done_ (done_of HT_.out (by kernel_rfl)) ?_
         try go_wp2
         go_ret
         exact ⟨by first | rfl | (simp [Zao, Zan] <;> rfl) | (simp [*, Zao, Zan] <;> rfl), by repeat (first | (with_reducible first | exact HB.out | apply Zac | apply Zaa | apply Zab | refine Zae ?_ GE309.out | refine Zae ?_ GE326.out) | exact HB.out)⟩
        ·rw [if_neg c111] at H
         have c111b0 : (t348 == (wrap64 ((wrap64 (t305 * t349)) - t317))) = false := beq_eq_false_iff_ne.mpr c111
         have c111b1 : (t348 != (wrap64 ((wrap64 (t305 * t349)) - t317))) = true := bne_iff_ne.mpr c111
         obtain rfl := Option.some.inj H
         obtain ⟨Ao115, co115, eo115⟩ := Kd.R_slice HO_7.out
         subst eo115
         try go_wp2
         have n0_ := Zad.mk (Kd.R_drew HO_6.out)
         have n1_ := Zad.mk (Kd.R_drew HO_7.out)
         have n2_ := Zad.mk (Kd.R_drew HO_15.out)
         have n3_ := Zad.mk (Kd.R_drew HO_17.out)
         have n4_ := Zad.mk (Kd.R_drew HO_310001.out)
         have n5_ := Zad.mk (Kd.R_drew HO_327001.out)
         have n6_ := Zad.mk (Zah BK309.out)
         have n7_ := Zad.mk (Zah BK326.out)
         have n8_ := Zad.mk (Zab HB.out)
         clear HO_6
         clear HO_7
         clear HO_15
         clear HO_17
         clear HO_310001
         clear HO_327001
         clear BK309
         clear BK326
         clear HB
         have HO_6 := n0_
         have HO_7 := n1_
         have HO_15 := n2_
         have HO_17 := n3_
         have HO_310001 := n4_
         have HO_327001 := n5_
         have BK309 := n6_
         have BK326 := n7_
         have HB := n8_
         clear n0_ n1_ n2_ n3_ n4_ n5_ n6_ n7_ n8_
         refine start_ (n := 18) (S := fun w' => w'.cell? ⟨gb309, 0, none⟩ = some (.int .i64 t305) ∧ w'.cell? ⟨gb309, 1, none⟩ = some (.slice Ao18 t306.length co18)) (ds := []) #[false, false, false, false, false, false, false, false, false, false, false, false, false, false, false, false, false, false] (by kernel_rfl) rfl rfl ⟨(Zaj BK309.out 0).trans rfl, (Zaj BK309.out 1).trans rfl⟩ (fun hHeld => ?_); refine with_tabW laws_FnValues.tab19 laws_FnValues.bits19 (fun HT_ HW_ => ?_)
         generalize wr.drew = w116 at HO_6 HO_7 HO_15 HO_17 HO_310001 HO_327001 BK309 BK326 HB hHeld ⊢
         refine pure_ (i := 0) (N := some 162) (v := ?_) (a' := ?_) #[true, false, false, false, false, false, false, false, false, false, false, false, false, false, false, false, false, false] rfl rfl (Zaz HT_.out (by kernel_rfl)) (fun _ _ _ h => h) (Or.inl ⟨by rfl, ?_⟩) ?_ ?_
         rotate_left
         ·intro w'
          go_simp
          with_reducible rfl
         rotate_left
         ·simp only [Act.put, ZA, ZB, ZC, i64_w, i32_w]
          rfl
         refine pure_ (i := 2) (N := some 164) (v := ?_) (a' := ?_) #[true, false, true, false, false, false, false, false, false, false, false, false, false, false, false, false, false, false] rfl rfl (Zaz HT_.out (by kernel_rfl)) (fun _ _ _ h => h) (Or.inl ⟨by rfl, ?_⟩) ?_ ?_
         rotate_left
         ·intro w'
          go_simp
          with_reducible rfl
         rotate_left
         ·simp only [Act.put, ZA, ZB, ZC, i64_w, i32_w]
          rfl
         refine pure_ (i := 4) (N := some 166) (v := ?_) (a' := ?_) #[true, false, true, false, true, false, false, false, false, false, false, false, false, false, false, false, false, false] rfl rfl (Zaz HT_.out (by kernel_rfl)) (fun _ _ _ h => h) (Or.inl ⟨by rfl, ?_⟩) ?_ ?_
         rotate_left
         ·intro w'
          go_simp
          with_reducible rfl
         rotate_left
         ·simp only [Act.put, ZA, ZB, ZC, i64_w, i32_w]
          rfl
         refine pure_ (i := 7) (N := some 169) (v := ?_) (a' := ?_) #[true, false, true, false, true, false, false, true, false, false, false, false, false, false, false, false, false, false] rfl rfl (Zaz HT_.out (by kernel_rfl)) (fun _ _ _ h => h) (Or.inl ⟨by rfl, ?_⟩) ?_ ?_
         rotate_left
         ·intro w'
          go_simp
          with_reducible rfl
         rotate_left
         ·simp only [Act.put, ZA, ZB, ZC, i64_w, i32_w]
          rfl
         refine take_ (i := 3) (N := some 165) (v := ?_) (a' := ?_) #[true, false, true, true, true, false, false, true, false, false, false, false, false, false, false, false, false, false] rfl rfl (take_ofW HT_.out HW_.out (by kernel_rfl)) (fun _ _ _ h => h) (Or.inl ⟨by rfl, ?_⟩) hHeld ?_ ?_
         rotate_left
         ·rintro w' ⟨s0, s1⟩
          go_simp
          with_reducible rfl
         rotate_left
         ·simp only [Act.put, ZA, ZB, ZC, i64_w, i32_w]
          rfl
         refine one_ (i := 1) (N := some 163) #[true, true, true, true, true, false, false, true, false, false, false, false, false, false, false, false, false, false] rfl rfl (one_of HT_.out (by kernel_rfl)) (by decide) (fun K hK => ?_)
         refine goes_ Tryz.func17 (by kernel_rfl) rfl #[.slice Ao115 t313.length co115] (by rfl) rfl rfl (by (try simp only [List.map_toArray, List.map_cons, List.map_nil]); first | done | rfl | (simp only [List.length_drop, List.length_take]; rfl)) ?_
         with_reducible refine (laws_b10Sum.calls k2 _ _ t313 t348 _ ?side1 ?side2 A109.out).mono ?_
         (case side1 => repeat (first | exact (Kd.R_reads' HO_7.out).2.2 | (with_reducible refine Kd.C_alloc ?_ _) | (with_reducible refine Kd.C_drewN ?_ _) | (with_reducible refine Kd.C_drew ?_)))
         (case side2 => exact (Kd.R_reads' HO_7.out).2.1)
         rintro e w' ⟨rfl, ⟨nd, rfl⟩⟩
         refine ⟨_, rfl, ?_⟩
         refine hK.out _ _ ⟨(Zaj BK309.out 0).trans rfl, (Zaj BK309.out 1).trans rfl⟩ (fun hHeld => ?_)
         clear hK K
         refine norm_ (a' := ?_) ?_ ?_
         rotate_left
         ·show Act.put _ (some 163) _ = _
          simp only [Act.put, ZA, ZB, ZC, i64_w, i32_w]
          rfl
         refine one_ (i := 5) (N := some 167) #[true, true, true, true, true, true, false, true, false, false, false, false, false, false, false, false, false, false] rfl rfl (one_of HT_.out (by kernel_rfl)) (by decide) (fun K hK => ?_)
         refine goes_ Tryz.func17 (by kernel_rfl) rfl #[.slice Ao21 t310.length co21] (by rfl) rfl rfl (by (try simp only [List.map_toArray, List.map_cons, List.map_nil]); first | done | rfl | (simp only [List.length_drop, List.length_take]; rfl)) ?_
         with_reducible refine (laws_b10Sum.calls k2 _ _ t310 t349 _ ?side1 ?side2 A110.out).mono ?_
         (case side1 => repeat (first | exact (Kd.R_reads' HO_6.out).2.2 | (with_reducible refine Kd.C_alloc ?_ _) | (with_reducible refine Kd.C_drewN ?_ _) | (with_reducible refine Kd.C_drew ?_)))
         (case side2 => exact (Kd.R_reads' HO_6.out).2.1)
         rintro e w' ⟨rfl, ⟨nd, rfl⟩⟩
         refine ⟨_, rfl, ?_⟩
         refine hK.out _ _ ⟨(Zaj BK309.out 0).trans rfl, (Zaj BK309.out 1).trans rfl⟩ (fun hHeld => ?_)
         clear hK K
         refine norm_ (a' := ?_) ?_ ?_
         rotate_left
         ·show Act.put _ (some 167) _ = _
          simp only [Act.put, ZA, ZB, ZC, i64_w, i32_w]
          rfl
         refine pure_ (i := 6) (N := some 168) (v := ?_) (a' := ?_) #[true, true, true, true, true, true, true, true, false, false, false, false, false, false, false, false, false, false] rfl rfl (Zaz HT_.out (by kernel_rfl)) (fun _ _ _ h => h) (Or.inl ⟨by rfl, ?_⟩) ?_ ?_
         rotate_left
         ·intro w'
          go_simp
          with_reducible rfl
         rotate_left
         ·simp only [Act.put, ZA, ZB, ZC, i64_w, i32_w]
          rfl
         refine pure_ (i := 8) (N := some 170) (v := ?_) (a' := ?_) #[true, true, true, true, true, true, true, true, true, false, false, false, false, false, false, false, false, false] rfl rfl (Zaz HT_.out (by kernel_rfl)) (fun _ _ _ h => h) (Or.inl ⟨by rfl, ?_⟩) ?_ ?_
         rotate_left
         ·intro w'
          go_simp
          with_reducible rfl
         rotate_left
         ·simp only [Act.put, ZA, ZB, ZC, i64_w, i32_w]
          rfl
         refine pure_ (i := 9) (N := some 171) (v := ?_) (a' := ?_) #[true, true, true, true, true, true, true, true, true, true, false, false, false, false, false, false, false, false] rfl rfl (Zaz HT_.out (by kernel_rfl)) (fun _ _ _ h => h) (Or.inl ⟨by rfl, ?_⟩) ?_ ?_
         rotate_left
         ·intro w'
          go_simp
          with_reducible rfl
         rotate_left
         ·simp only [Act.put, ZA, ZB, ZC, i64_w, i32_w]
          rfl
         refine pure_ (i := 10) (N := some 172) (v := ?_) (a' := ?_) #[true, true, true, true, true, true, true, true, true, true, true, false, false, false, false, false, false, false] rfl rfl (Zaz HT_.out (by kernel_rfl)) (fun _ _ _ h => h) (Or.inl ⟨by rfl, ?_⟩) ?_ ?_
         rotate_left
         ·intro w'
          go_simp
          with_reducible rfl
         rotate_left
         ·simp only [Act.put, ZA, ZB, ZC, i64_w, i32_w]
          rfl
         refine pure_ (i := 11) (N := some 173) (v := undef) (a' := ?_) #[true, true, true, true, true, true, true, true, true, true, true, true, false, false, false, false, false, false] rfl rfl (Zaz HT_.out (by kernel_rfl)) (fun _ _ _ h => h) (Or.inr ⟨by rfl, rfl⟩) ?_ ?_
         rotate_left
         ·simp only [Act.put, ZA, ZB, ZC, i64_w, i32_w]
          rfl
         refine pure_ (i := 12) (N := some 174) (v := undef) (a' := ?_) #[true, true, true, true, true, true, true, true, true, true, true, true, true, false, false, false, false, false] rfl rfl (Zaz HT_.out (by kernel_rfl)) (fun _ _ _ h => h) (Or.inr ⟨by rfl, rfl⟩) ?_ ?_
         rotate_left
         ·simp only [Act.put, ZA, ZB, ZC, i64_w, i32_w]
          rfl
         refine pure_ (i := 13) (N := some 175) (v := undef) (a' := ?_) #[true, true, true, true, true, true, true, true, true, true, true, true, true, true, false, false, false, false] rfl rfl (Zaz HT_.out (by kernel_rfl)) (fun _ _ _ h => h) (Or.inr ⟨by rfl, rfl⟩) ?_ ?_
         rotate_left
         ·simp only [Act.put, ZA, ZB, ZC, i64_w, i32_w]
          rfl
         refine pure_ (i := 14) (N := some 176) (v := undef) (a' := ?_) #[true, true, true, true, true, true, true, true, true, true, true, true, true, true, true, false, false, false] rfl rfl (Zaz HT_.out (by kernel_rfl)) (fun _ _ _ h => h) (Or.inr ⟨by rfl, rfl⟩) ?_ ?_
         rotate_left
         ·simp only [Act.put, ZA, ZB, ZC, i64_w, i32_w]
          rfl
         refine pure_ (i := 15) (N := some 177) (v := undef) (a' := ?_) #[true, true, true, true, true, true, true, true, true, true, true, true, true, true, true, true, false, false] rfl rfl (Zaz HT_.out (by kernel_rfl)) (fun _ _ _ h => h) (Or.inr ⟨by rfl, rfl⟩) ?_ ?_
         rotate_left
         ·simp only [Act.put, ZA, ZB, ZC, i64_w, i32_w]
          rfl
         refine pure_ (i := 16) (N := some 178) (v := ?_) (a' := ?_) #[true, true, true, true, true, true, true, true, true, true, true, true, true, true, true, true, true, false] rfl rfl (Zaz HT_.out (by kernel_rfl)) (fun _ _ _ h => h) (Or.inl ⟨by rfl, ?_⟩) ?_ ?_
         rotate_left
         ·intro w'
          go_simp
          with_reducible rfl
         rotate_left
         ·simp only [Act.put, ZA, ZB, ZC, i64_w, i32_w]
          rfl
         refine pure_ (i := 17) (N := some 4) (v := ?_) (a' := ?_) #[true, true, true, true, true, true, true, true, true, true, true, true, true, true, true, true, true, true] rfl rfl (Zaz HT_.out (by kernel_rfl)) (fun _ _ _ h => h) (Or.inl ⟨by rfl, ?_⟩) ?_ ?_
         rotate_left
         ·intro w'
          go_simp
          with_reducible rfl
         rotate_left
         ·simp only [Act.put, ZA, ZB, ZC, i64_w, i32_w]
          rfl
         refine done_ (done_of HT_.out (by kernel_rfl)) ?_
         try go_wp2
         go_ret
         exact ⟨by first | rfl | (simp [Zao, Zan] <;> rfl) | (simp [*, Zao, Zan] <;> rfl), by repeat (first | (with_reducible first | exact HB.out | apply Zac | apply Zaa | apply Zab | refine Zae ?_ GE309.out | refine Zae ?_ GE326.out) | exact HB.out)⟩
def laws_FnValues.Pure : Prop := ∀ (l0 : List Int) (l1 : List Int), l0.length ≤ maxLen → l0.length * 1 ≤ 140737488351232 → (∀ x ∈ l0, (Lit.int .u8 x).wf = true) → l1.length ≤ maxLen → l1.length * 1 ≤ 140737488351232 → (∀ x ∈ l1, (Lit.int .u8 x).wf = true) → ∃ k, laws_FnValues.f k l0 l1 = some true
theorem laws_FnValues.walk (P : laws_FnValues.Pure) (A0 : Option Addr) (len0 cap0 : Nat) (z0 : List Int) (A1 : Option Addr) (len1 cap1 : Nat) (z1 : List Int) (w : World) (hT : Pow10 w) (w0 : (A0 = none ∧ len0 = 0 ∧ cap0 = 0 ∧ z0 = []) ∨ ∃ x, A0 = some x ∧ len0 ≤ cap0 ∧ cap0 ≤ maxLen ∧ z0.length = cap0 ∧ (∀ i, i < z0.length → w.cell? (x.add i) = some (.int .u8 (z0.getD i 0))) ∧ ∀ n ∈ z0, (Lit.int .u8 n).wf = true) (y0 : len0 * 1 ≤ 140737488351232) (w1 : (A1 = none ∧ len1 = 0 ∧ cap1 = 0 ∧ z1 = []) ∨ ∃ x, A1 = some x ∧ len1 ≤ cap1 ∧ cap1 ≤ maxLen ∧ z1.length = cap1 ∧ (∀ i, i < z1.length → w.cell? (x.add i) = some (.int .u8 (z1.getD i 0))) ∧ ∀ n ∈ z1, (Lit.int .u8 n).wf = true) (y1 : len1 * 1 ≤ 140737488351232) :
  Calls Tryz.prog 3 #[.slice A0 len0 cap0, .slice A1 len1 cap1] w fun e w' => e = .returned (.bool true) ∧ Below w.heap.size w w' := by
 obtain ⟨l0, rfl, hr0, hm0, hw0, hc0⟩ := ReadsInt.ofRowC w0
 obtain ⟨l1, rfl, hr1, hm1, hw1, hc1⟩ := ReadsInt.ofRowC w1
 obtain ⟨k, h⟩ := P l0 l1 hm0 y0 hw0 hm1 y1 hw1
 refine (laws_FnValues.calls k _ _ l0 _ _ l1 true w (Kd.C_of_reads (d := (0 : Int)) (h1 := fun _ => rfl) hr0) hc0 (Kd.C_of_reads (d := (0 : Int)) (h1 := fun _ => rfl) hr1) hc1 hT h).mono ?_
 rintro e w' ⟨rfl, hd⟩
 exact ⟨rfl, hd⟩
end Go.Proofs.YtijpgenadhhkcaaGreatDoor.P
