import Derived.Test.YtanflefkbbhimaaXP0FnRunning
import Derived.Test.YtanflefkbbhimaaXP1FnRunning
import Derived.Test.YtanflefkbbhimaaXP2FnRunning
import Derived.Test.YtanflefkbbhimaaXP3FnRunning
import Derived.Test.YtanflefkbbhimaaXP4FnRunning
import Derived.Test.YtanflefkbbhimaaXP5FnRunning
import Derived.Test.YtanflefkbbhimaaXP6FnRunning
import Derived.Test.YtanflefkbbhimaaXP7FnRunning
import Derived.Test.YtanflefkbbhimaaXP8FnRunning
import Derived.Test.YtanflefkbbhimaaXLBFnRunning
import Derived.Test.YtanflefkbbhimaaXLCFnRunning
namespace Go.Proofs.Ytanflefkbbhimaa.P
open Go.RowKit Go.Proofs.YtanflefkbbhimaaW.PrintWords Go.Proofs.YtanflefkbbhimaaW.PrintLast Go.Proofs.YtanflefkbbhimaaW.PrintMore
attribute [local go_sem] max2_int min2_int max_two min_two max_three min_three max_four min_four
set_option linter.unusedVariables false
set_option linter.unusedSimpArgs false
mutual
def laws_FnRunning.j0 : Nat → Int → List Int → Int → List Int → Bool → Int → List Int → Option (Bool)
 | 0, _, _, _, _, _, _, _ => none
 | k + 1, x10, x12, x13, x15, x97, x304000, x304001 => if x97 = true then (some false) else (laws_FnRunning.l0 k x10 x12 x13 x15 0 x304000 x304001)
def laws_FnRunning.l0 : Nat → Int → List Int → Int → List Int → Int → Int → List Int → Option (Bool)
 | 0, _, _, _, _, _, _, _ => none
 | k + 1, x10, x12, x13, x15, x17, x304000, x304001 => if x17 < (x15.length : Int) then (if 0 ≤ x17 then ((laws_b10Abs.f (rd x15 x17)).bind fun t326 => (if (wrap64 (2 * t326)) > x304000 then (some false) else (laws_FnRunning.l0 k x10 x12 x13 x15 (wrap64 (x17 + 1)) x304000 x304001))) else (none)) else (laws_FnRunning.l1 k x10 x12 x13 0 false 0 x304000 x304001)
def laws_FnRunning.l1 : Nat → Int → List Int → Int → Int → Bool → Int → Int → List Int → Option (Bool)
 | 0, _, _, _, _, _, _, _, _ => none
 | k + 1, x10, x12, x13, x18, x19, x20, x304000, x304001 => if 0 ≤ (IntKind.u64.wrap ((x304001.length : Int))) then (if x20 < (shl .i64 1 (IntKind.u64.wrap ((x304001.length : Int)))) then ((Za3.f k x304000 x304001 x20).bind fun t327 => ((Zap.f k x304000 x304001 t327).bind fun bt330 => ((Za5.f k bt330.1).bind fun bt334 => (if bt330.2 = true then (if bt334.2 = true then (laws_FnRunning.j3 k x10 x12 x13 x18 x19 x20 t327 bt334.1 (decide (bt334.1 < x13)) x304000 x304001) else (laws_FnRunning.j3 k x10 x12 x13 x18 x19 x20 t327 bt334.1 true x304000 x304001)) else (laws_FnRunning.j3 k x10 x12 x13 x18 x19 x20 t327 bt334.1 true x304000 x304001))))) else (if x18 = x10 then (some x19) else (some false))) else (none)
def laws_FnRunning.j3 : Nat → Int → List Int → Int → Int → Bool → Int → List Int → Int → Bool → Int → List Int → Option (Bool)
 | 0, _, _, _, _, _, _, _, _, _, _, _ => none
 | k + 1, x10, x12, x13, x18, x19, x20, x21, x24, x146, x304000, x304001 => if x146 = true then (some false) else (if x19 = true then (laws_FnRunning.j4 k x10 x12 x13 x18 true x20 x21 x304000 x304001) else (if x24 = x13 then ((laws_b10Nums.f k x21 x12).bind fun t336 => (laws_FnRunning.j4 k x10 x12 x13 x18 t336 x20 x21 x304000 x304001)) else (laws_FnRunning.j4 k x10 x12 x13 x18 false x20 x21 x304000 x304001)))
def laws_FnRunning.j4 : Nat → Int → List Int → Int → Int → Bool → Int → List Int → Int → List Int → Option (Bool)
 | 0, _, _, _, _, _, _, _, _, _ => none
 | k + 1, x10, x12, x13, x18, x19, x20, x21, x304000, x304001 => laws_FnRunning.l2 k x10 x12 x13 x18 x19 x20 x21 false 0 x304000 x304001
def laws_FnRunning.l2 : Nat → Int → List Int → Int → Int → Bool → Int → List Int → Bool → Int → Int → List Int → Option (Bool)
 | 0, _, _, _, _, _, _, _, _, _, _, _ => none
 | k + 1, x10, x12, x13, x18, x19, x20, x21, x26, x27, x304000, x304001 => if x27 < (x304001.length : Int) then (if x26 = true then (laws_FnRunning.l2 k x10 x12 x13 x18 x19 x20 x21 true (wrap64 (x27 + 1)) x304000 x304001) else (if 0 ≤ (IntKind.u64.wrap (x27)) then (if (Go.bits .and .i64 (shr .i64 x20 (IntKind.u64.wrap (x27))) 1) = 1 then (if 0 ≤ x27 then (if x304000 = 0 then (none) else (laws_FnRunning.l2 k x10 x12 x13 x18 x19 x20 x21 ((Int.tmod (rd x304001 x27) x304000) == 0) (wrap64 (x27 + 1)) x304000 x304001)) else (none)) else (laws_FnRunning.l2 k x10 x12 x13 x18 x19 x20 x21 false (wrap64 (x27 + 1)) x304000 x304001)) else (none))) else (if x26 = true then (laws_FnRunning.l1 k x10 x12 x13 x18 x19 (wrap64 (x20 + 1)) x304000 x304001) else ((Zau.f k x304000 x304001 x21).bind fun t338 => (if t338 = true then (laws_FnRunning.l1 k x10 x12 x13 (wrap64 (x18 + 1)) x19 (wrap64 (x20 + 1)) x304000 x304001) else (laws_FnRunning.l1 k x10 x12 x13 x18 x19 (wrap64 (x20 + 1)) x304000 x304001))))
end
def laws_FnRunning.f (k : Nat) (l0 : List Int) (l1 : List Int) : Option (Bool) := (laws_b10Long.f l0 l1).bind fun t298 => (if t298 = true then (some true) else ((spec_B10Few.f k l0).bind fun bt299 => ((impl_PrefixFloors.f k bt299.1 bt299.2).bind fun bt304 => ((impl_PrefixNearest.f k bt299.1 bt299.2).bind fun bt308 => ((impl_CountRunning.f k bt299.1 bt299.2).bind fun bt312 => ((impl_BestRunning.f k bt299.1 bt299.2).bind fun bt314 => ((Zav.f k bt299.1 bt299.2 bt308.1).bind fun bt319 => (if bt304.2 = true then (if bt308.2 = true then (if bt312.2 = true then (if bt314.2.2 = true then (if bt319.2 = true then ((Zau.f k bt299.1 bt299.2 bt304.1).bind fun t323 => (if t323 = true then ((Zan.f k bt299.1 bt299.2 bt314.1).bind fun t324 => (if t324 = true then (laws_FnRunning.j0 k bt312.1 bt314.1 bt314.2.1 bt319.1 ((bt319.1.length : Int) != (bt299.2.length : Int)) bt299.1 bt299.2) else (laws_FnRunning.j0 k bt312.1 bt314.1 bt314.2.1 bt319.1 true bt299.1 bt299.2))) else (laws_FnRunning.j0 k bt312.1 bt314.1 bt314.2.1 bt319.1 true bt299.1 bt299.2))) else (laws_FnRunning.j0 k bt312.1 bt314.1 bt314.2.1 bt319.1 true bt299.1 bt299.2)) else (laws_FnRunning.j0 k bt312.1 bt314.1 bt314.2.1 bt319.1 true bt299.1 bt299.2)) else (laws_FnRunning.j0 k bt312.1 bt314.1 bt314.2.1 bt319.1 true bt299.1 bt299.2)) else (laws_FnRunning.j0 k bt312.1 bt314.1 bt314.2.1 bt319.1 true bt299.1 bt299.2)) else (laws_FnRunning.j0 k bt312.1 bt314.1 bt314.2.1 bt319.1 true bt299.1 bt299.2)))))))))
set_option maxHeartbeats 8000000 in
set_option maxRecDepth 100000 in
theorem laws_FnRunning.calls (k : Nat) (A0 : Option Addr) (c0 : Nat) (l0 : List Int) (A1 : Option Addr) (c1 : Nat) (l1 : List Int) (r : Bool) (hT_ : r = true) (w : World) (hr0 : Kd.C (Kd.int .u8) w A0 l0.length l0) (hc0 : l0.length ≤ c0) (hr1 : Kd.C (Kd.int .u8) w A1 l1.length l1) (hc1 : l1.length ≤ c1) (h : laws_FnRunning.f k l0 l1 = some r) :
  Calls Try.prog 5 #[.slice A0 l0.length c0, .slice A1 l1.length c1] w fun e w' => e = .returned (.bool r) ∧ Below w.heap.size w w' := by
 have HT0_ := Zab.mk hT_
 clear hT_
 have hu28 := Try.underlying28
 have HR0 := Zab.mk hr0
 have HC0 := Zab.mk hc0
 clear hr0 hc0
 have HR1 := Zab.mk hr1
 have HC1 := Zab.mk hc1
 clear hr1 hc1
 have HB := Zab.mk (Below.refl w.heap.size w)
 have H : ((laws_b10Long.f l0 l1).bind fun t298 => (if t298 = true then (some true) else ((spec_B10Few.f k l0).bind fun bt299 => ((impl_PrefixFloors.f k bt299.1 bt299.2).bind fun bt304 => ((impl_PrefixNearest.f k bt299.1 bt299.2).bind fun bt308 => ((impl_CountRunning.f k bt299.1 bt299.2).bind fun bt312 => ((impl_BestRunning.f k bt299.1 bt299.2).bind fun bt314 => ((Zav.f k bt299.1 bt299.2 bt308.1).bind fun bt319 => (if bt304.2 = true then (if bt308.2 = true then (if bt312.2 = true then (if bt314.2.2 = true then (if bt319.2 = true then ((Zau.f k bt299.1 bt299.2 bt304.1).bind fun t323 => (if t323 = true then ((Zan.f k bt299.1 bt299.2 bt314.1).bind fun t324 => (if t324 = true then (laws_FnRunning.j0 k bt312.1 bt314.1 bt314.2.1 bt319.1 ((bt319.1.length : Int) != (bt299.2.length : Int)) bt299.1 bt299.2) else (laws_FnRunning.j0 k bt312.1 bt314.1 bt314.2.1 bt319.1 true bt299.1 bt299.2))) else (laws_FnRunning.j0 k bt312.1 bt314.1 bt314.2.1 bt319.1 true bt299.1 bt299.2))) else (laws_FnRunning.j0 k bt312.1 bt314.1 bt314.2.1 bt319.1 true bt299.1 bt299.2)) else (laws_FnRunning.j0 k bt312.1 bt314.1 bt314.2.1 bt319.1 true bt299.1 bt299.2)) else (laws_FnRunning.j0 k bt312.1 bt314.1 bt314.2.1 bt319.1 true bt299.1 bt299.2)) else (laws_FnRunning.j0 k bt312.1 bt314.1 bt314.2.1 bt319.1 true bt299.1 bt299.2)) else (laws_FnRunning.j0 k bt312.1 bt314.1 bt314.2.1 bt319.1 true bt299.1 bt299.2)))))))))) = some r := h
 clear h
 replace H := Option.bind_eq_some_iff.mp H
 obtain ⟨t298, A30, H⟩ := H
 replace H : (if t298 = true then (some true) else ((spec_B10Few.f k l0).bind fun bt299 => ((impl_PrefixFloors.f k bt299.1 bt299.2).bind fun bt304 => ((impl_PrefixNearest.f k bt299.1 bt299.2).bind fun bt308 => ((impl_CountRunning.f k bt299.1 bt299.2).bind fun bt312 => ((impl_BestRunning.f k bt299.1 bt299.2).bind fun bt314 => ((Zav.f k bt299.1 bt299.2 bt308.1).bind fun bt319 => (if bt304.2 = true then (if bt308.2 = true then (if bt312.2 = true then (if bt314.2.2 = true then (if bt319.2 = true then ((Zau.f k bt299.1 bt299.2 bt304.1).bind fun t323 => (if t323 = true then ((Zan.f k bt299.1 bt299.2 bt314.1).bind fun t324 => (if t324 = true then (laws_FnRunning.j0 k bt312.1 bt314.1 bt314.2.1 bt319.1 ((bt319.1.length : Int) != (bt299.2.length : Int)) bt299.1 bt299.2) else (laws_FnRunning.j0 k bt312.1 bt314.1 bt314.2.1 bt319.1 true bt299.1 bt299.2))) else (laws_FnRunning.j0 k bt312.1 bt314.1 bt314.2.1 bt319.1 true bt299.1 bt299.2))) else (laws_FnRunning.j0 k bt312.1 bt314.1 bt314.2.1 bt319.1 true bt299.1 bt299.2)) else (laws_FnRunning.j0 k bt312.1 bt314.1 bt314.2.1 bt319.1 true bt299.1 bt299.2)) else (laws_FnRunning.j0 k bt312.1 bt314.1 bt314.2.1 bt319.1 true bt299.1 bt299.2)) else (laws_FnRunning.j0 k bt312.1 bt314.1 bt314.2.1 bt319.1 true bt299.1 bt299.2)) else (laws_FnRunning.j0 k bt312.1 bt314.1 bt314.2.1 bt319.1 true bt299.1 bt299.2))))))))) = some r := H
 have A3 := Zab.mk A30
 clear A30
 by_cases c4 : t298 = true
 ·subst c4
  have H1 : (some true) = some r := by rw [if_pos rfl] at H; exact H
  clear H
  have H := H1
  clear H1
  obtain rfl := Option.some.inj H
  as_aux_lemma =>
   go_enter Try.func5, Try.ntmps5
   go_wp2_with (first | (go_at_call 17; (with_reducible refine (laws_b10Long.calls _ _ l0 _ _ l1 true _ ?side1 ?side2 ?side3 ?side4 A3.out).mono ?_); (case side1 => repeat (first | exact HR0.out | (with_reducible refine Kd.C_alloc ?_ _) | (with_reducible refine Kd.C_drewN ?_ _) | (with_reducible refine Kd.C_drew ?_))); (case side2 => exact HC0.out); (case side3 => repeat (first | exact HR1.out | (with_reducible refine Kd.C_alloc ?_ _) | (with_reducible refine Kd.C_drewN ?_ _) | (with_reducible refine Kd.C_drew ?_))); (case side4 => exact HC1.out); rintro e w' ⟨rfl, ⟨nd, rfl⟩⟩; (try first | exact ⟨rfl, _, World.drewN_drewN _ _ _⟩ | exact ⟨rfl, _, Eq.trans (World.drewN_drewN _ _ _) (congrArg (World.drewN _) (Nat.add_assoc _ _ _))⟩)))
   repeat (go_quiet (first | (go_at_call 17; (with_reducible refine (laws_b10Long.calls _ _ l0 _ _ l1 true _ ?side1 ?side2 ?side3 ?side4 A3.out).mono ?_); (case side1 => repeat (first | exact HR0.out | (with_reducible refine Kd.C_alloc ?_ _) | (with_reducible refine Kd.C_drewN ?_ _) | (with_reducible refine Kd.C_drew ?_))); (case side2 => exact HC0.out); (case side3 => repeat (first | exact HR1.out | (with_reducible refine Kd.C_alloc ?_ _) | (with_reducible refine Kd.C_drewN ?_ _) | (with_reducible refine Kd.C_drew ?_))); (case side4 => exact HC1.out); rintro e w' ⟨rfl, ⟨nd, rfl⟩⟩; (try first | exact ⟨rfl, _, World.drewN_drewN _ _ _⟩ | exact ⟨rfl, _, Eq.trans (World.drewN_drewN _ _ _) (congrArg (World.drewN _) (Nat.add_assoc _ _ _))⟩))); try go_wp2_with (first | (go_at_call 17; (with_reducible refine (laws_b10Long.calls _ _ l0 _ _ l1 true _ ?side1 ?side2 ?side3 ?side4 A3.out).mono ?_); (case side1 => repeat (first | exact HR0.out | (with_reducible refine Kd.C_alloc ?_ _) | (with_reducible refine Kd.C_drewN ?_ _) | (with_reducible refine Kd.C_drew ?_))); (case side2 => exact HC0.out); (case side3 => repeat (first | exact HR1.out | (with_reducible refine Kd.C_alloc ?_ _) | (with_reducible refine Kd.C_drewN ?_ _) | (with_reducible refine Kd.C_drew ?_))); (case side4 => exact HC1.out); rintro e w' ⟨rfl, ⟨nd, rfl⟩⟩; (try first | exact ⟨rfl, _, World.drewN_drewN _ _ _⟩ | exact ⟨rfl, _, Eq.trans (World.drewN_drewN _ _ _) (congrArg (World.drewN _) (Nat.add_assoc _ _ _))⟩))))
   go_ret
   exact ⟨by first | rfl | (simp [Zat, Zas] <;> rfl) | (simp [*, Zat, Zas] <;> rfl), by repeat (first | (with_reducible first | exact HB.out | apply Zac | apply Zaa | apply Zad) | exact HB.out)⟩
 ·replace c4 := Bool.eq_false_iff.mpr c4
  subst c4
  have H1 : ((spec_B10Few.f k l0).bind fun bt299 => ((impl_PrefixFloors.f k bt299.1 bt299.2).bind fun bt304 => ((impl_PrefixNearest.f k bt299.1 bt299.2).bind fun bt308 => ((impl_CountRunning.f k bt299.1 bt299.2).bind fun bt312 => ((impl_BestRunning.f k bt299.1 bt299.2).bind fun bt314 => ((Zav.f k bt299.1 bt299.2 bt308.1).bind fun bt319 => (if bt304.2 = true then (if bt308.2 = true then (if bt312.2 = true then (if bt314.2.2 = true then (if bt319.2 = true then ((Zau.f k bt299.1 bt299.2 bt304.1).bind fun t323 => (if t323 = true then ((Zan.f k bt299.1 bt299.2 bt314.1).bind fun t324 => (if t324 = true then (laws_FnRunning.j0 k bt312.1 bt314.1 bt314.2.1 bt319.1 ((bt319.1.length : Int) != (bt299.2.length : Int)) bt299.1 bt299.2) else (laws_FnRunning.j0 k bt312.1 bt314.1 bt314.2.1 bt319.1 true bt299.1 bt299.2))) else (laws_FnRunning.j0 k bt312.1 bt314.1 bt314.2.1 bt319.1 true bt299.1 bt299.2))) else (laws_FnRunning.j0 k bt312.1 bt314.1 bt314.2.1 bt319.1 true bt299.1 bt299.2)) else (laws_FnRunning.j0 k bt312.1 bt314.1 bt314.2.1 bt319.1 true bt299.1 bt299.2)) else (laws_FnRunning.j0 k bt312.1 bt314.1 bt314.2.1 bt319.1 true bt299.1 bt299.2)) else (laws_FnRunning.j0 k bt312.1 bt314.1 bt314.2.1 bt319.1 true bt299.1 bt299.2)) else (laws_FnRunning.j0 k bt312.1 bt314.1 bt314.2.1 bt319.1 true bt299.1 bt299.2)))))))) = some r := by rw [if_neg (show ¬ (false = true) by decide)] at H; exact H
  clear H
  have H := H1
  clear H1
  replace H := Option.bind_eq_some_iff.mp H
  obtain ⟨⟨t299, t300⟩, A50, H⟩ := H
  replace H : ((impl_PrefixFloors.f k t299 t300).bind fun bt304 => ((impl_PrefixNearest.f k t299 t300).bind fun bt308 => ((impl_CountRunning.f k t299 t300).bind fun bt312 => ((impl_BestRunning.f k t299 t300).bind fun bt314 => ((Zav.f k t299 t300 bt308.1).bind fun bt319 => (if bt304.2 = true then (if bt308.2 = true then (if bt312.2 = true then (if bt314.2.2 = true then (if bt319.2 = true then ((Zau.f k t299 t300 bt304.1).bind fun t323 => (if t323 = true then ((Zan.f k t299 t300 bt314.1).bind fun t324 => (if t324 = true then (laws_FnRunning.j0 k bt312.1 bt314.1 bt314.2.1 bt319.1 ((bt319.1.length : Int) != (t300.length : Int)) t299 t300) else (laws_FnRunning.j0 k bt312.1 bt314.1 bt314.2.1 bt319.1 true t299 t300))) else (laws_FnRunning.j0 k bt312.1 bt314.1 bt314.2.1 bt319.1 true t299 t300))) else (laws_FnRunning.j0 k bt312.1 bt314.1 bt314.2.1 bt319.1 true t299 t300)) else (laws_FnRunning.j0 k bt312.1 bt314.1 bt314.2.1 bt319.1 true t299 t300)) else (laws_FnRunning.j0 k bt312.1 bt314.1 bt314.2.1 bt319.1 true t299 t300)) else (laws_FnRunning.j0 k bt312.1 bt314.1 bt314.2.1 bt319.1 true t299 t300)) else (laws_FnRunning.j0 k bt312.1 bt314.1 bt314.2.1 bt319.1 true t299 t300))))))) = some r := H
  have A5 := Zab.mk A50
  clear A50
  replace H := Option.bind_eq_some_iff.mp H
  obtain ⟨⟨t304, t307⟩, A60, H⟩ := H
  replace H : ((impl_PrefixNearest.f k t299 t300).bind fun bt308 => ((impl_CountRunning.f k t299 t300).bind fun bt312 => ((impl_BestRunning.f k t299 t300).bind fun bt314 => ((Zav.f k t299 t300 bt308.1).bind fun bt319 => (if t307 = true then (if bt308.2 = true then (if bt312.2 = true then (if bt314.2.2 = true then (if bt319.2 = true then ((Zau.f k t299 t300 t304).bind fun t323 => (if t323 = true then ((Zan.f k t299 t300 bt314.1).bind fun t324 => (if t324 = true then (laws_FnRunning.j0 k bt312.1 bt314.1 bt314.2.1 bt319.1 ((bt319.1.length : Int) != (t300.length : Int)) t299 t300) else (laws_FnRunning.j0 k bt312.1 bt314.1 bt314.2.1 bt319.1 true t299 t300))) else (laws_FnRunning.j0 k bt312.1 bt314.1 bt314.2.1 bt319.1 true t299 t300))) else (laws_FnRunning.j0 k bt312.1 bt314.1 bt314.2.1 bt319.1 true t299 t300)) else (laws_FnRunning.j0 k bt312.1 bt314.1 bt314.2.1 bt319.1 true t299 t300)) else (laws_FnRunning.j0 k bt312.1 bt314.1 bt314.2.1 bt319.1 true t299 t300)) else (laws_FnRunning.j0 k bt312.1 bt314.1 bt314.2.1 bt319.1 true t299 t300)) else (laws_FnRunning.j0 k bt312.1 bt314.1 bt314.2.1 bt319.1 true t299 t300)))))) = some r := H
  have A6 := Zab.mk A60
  clear A60
  replace H := Option.bind_eq_some_iff.mp H
  obtain ⟨⟨t308, t311⟩, A70, H⟩ := H
  replace H : ((impl_CountRunning.f k t299 t300).bind fun bt312 => ((impl_BestRunning.f k t299 t300).bind fun bt314 => ((Zav.f k t299 t300 t308).bind fun bt319 => (if t307 = true then (if t311 = true then (if bt312.2 = true then (if bt314.2.2 = true then (if bt319.2 = true then ((Zau.f k t299 t300 t304).bind fun t323 => (if t323 = true then ((Zan.f k t299 t300 bt314.1).bind fun t324 => (if t324 = true then (laws_FnRunning.j0 k bt312.1 bt314.1 bt314.2.1 bt319.1 ((bt319.1.length : Int) != (t300.length : Int)) t299 t300) else (laws_FnRunning.j0 k bt312.1 bt314.1 bt314.2.1 bt319.1 true t299 t300))) else (laws_FnRunning.j0 k bt312.1 bt314.1 bt314.2.1 bt319.1 true t299 t300))) else (laws_FnRunning.j0 k bt312.1 bt314.1 bt314.2.1 bt319.1 true t299 t300)) else (laws_FnRunning.j0 k bt312.1 bt314.1 bt314.2.1 bt319.1 true t299 t300)) else (laws_FnRunning.j0 k bt312.1 bt314.1 bt314.2.1 bt319.1 true t299 t300)) else (laws_FnRunning.j0 k bt312.1 bt314.1 bt314.2.1 bt319.1 true t299 t300)) else (laws_FnRunning.j0 k bt312.1 bt314.1 bt314.2.1 bt319.1 true t299 t300))))) = some r := H
  have A7 := Zab.mk A70
  clear A70
  replace H := Option.bind_eq_some_iff.mp H
  obtain ⟨⟨t312, t313⟩, A80, H⟩ := H
  replace H : ((impl_BestRunning.f k t299 t300).bind fun bt314 => ((Zav.f k t299 t300 t308).bind fun bt319 => (if t307 = true then (if t311 = true then (if t313 = true then (if bt314.2.2 = true then (if bt319.2 = true then ((Zau.f k t299 t300 t304).bind fun t323 => (if t323 = true then ((Zan.f k t299 t300 bt314.1).bind fun t324 => (if t324 = true then (laws_FnRunning.j0 k t312 bt314.1 bt314.2.1 bt319.1 ((bt319.1.length : Int) != (t300.length : Int)) t299 t300) else (laws_FnRunning.j0 k t312 bt314.1 bt314.2.1 bt319.1 true t299 t300))) else (laws_FnRunning.j0 k t312 bt314.1 bt314.2.1 bt319.1 true t299 t300))) else (laws_FnRunning.j0 k t312 bt314.1 bt314.2.1 bt319.1 true t299 t300)) else (laws_FnRunning.j0 k t312 bt314.1 bt314.2.1 bt319.1 true t299 t300)) else (laws_FnRunning.j0 k t312 bt314.1 bt314.2.1 bt319.1 true t299 t300)) else (laws_FnRunning.j0 k t312 bt314.1 bt314.2.1 bt319.1 true t299 t300)) else (laws_FnRunning.j0 k t312 bt314.1 bt314.2.1 bt319.1 true t299 t300)))) = some r := H
  have A8 := Zab.mk A80
  clear A80
  replace H := Option.bind_eq_some_iff.mp H
  obtain ⟨⟨t314, t317, t318⟩, A90, H⟩ := H
  replace H : ((Zav.f k t299 t300 t308).bind fun bt319 => (if t307 = true then (if t311 = true then (if t313 = true then (if t318 = true then (if bt319.2 = true then ((Zau.f k t299 t300 t304).bind fun t323 => (if t323 = true then ((Zan.f k t299 t300 t314).bind fun t324 => (if t324 = true then (laws_FnRunning.j0 k t312 t314 t317 bt319.1 ((bt319.1.length : Int) != (t300.length : Int)) t299 t300) else (laws_FnRunning.j0 k t312 t314 t317 bt319.1 true t299 t300))) else (laws_FnRunning.j0 k t312 t314 t317 bt319.1 true t299 t300))) else (laws_FnRunning.j0 k t312 t314 t317 bt319.1 true t299 t300)) else (laws_FnRunning.j0 k t312 t314 t317 bt319.1 true t299 t300)) else (laws_FnRunning.j0 k t312 t314 t317 bt319.1 true t299 t300)) else (laws_FnRunning.j0 k t312 t314 t317 bt319.1 true t299 t300)) else (laws_FnRunning.j0 k t312 t314 t317 bt319.1 true t299 t300))) = some r := H
  have A9 := Zab.mk A90
  clear A90
  replace H := Option.bind_eq_some_iff.mp H
  obtain ⟨⟨t319, t322⟩, A100, H⟩ := H
  replace H : (if t307 = true then (if t311 = true then (if t313 = true then (if t318 = true then (if t322 = true then ((Zau.f k t299 t300 t304).bind fun t323 => (if t323 = true then ((Zan.f k t299 t300 t314).bind fun t324 => (if t324 = true then (laws_FnRunning.j0 k t312 t314 t317 t319 ((t319.length : Int) != (t300.length : Int)) t299 t300) else (laws_FnRunning.j0 k t312 t314 t317 t319 true t299 t300))) else (laws_FnRunning.j0 k t312 t314 t317 t319 true t299 t300))) else (laws_FnRunning.j0 k t312 t314 t317 t319 true t299 t300)) else (laws_FnRunning.j0 k t312 t314 t317 t319 true t299 t300)) else (laws_FnRunning.j0 k t312 t314 t317 t319 true t299 t300)) else (laws_FnRunning.j0 k t312 t314 t317 t319 true t299 t300)) else (laws_FnRunning.j0 k t312 t314 t317 t319 true t299 t300)) = some r := H
  have A10 := Zab.mk A100
  clear A100
  have HC11 := Zab.mk H
  clear H
  go_enter Try.func5, Try.ntmps5
  go_upto_region 9 with (first | (go_at_call 17; (with_reducible refine (laws_b10Long.calls _ _ l0 _ _ l1 false _ ?side1 ?side2 ?side3 ?side4 A3.out).mono ?_); (case side1 => repeat (first | exact HR0.out | (with_reducible refine Kd.C_alloc ?_ _) | (with_reducible refine Kd.C_drewN ?_ _) | (with_reducible refine Kd.C_drew ?_))); (case side2 => exact HC0.out); (case side3 => repeat (first | exact HR1.out | (with_reducible refine Kd.C_alloc ?_ _) | (with_reducible refine Kd.C_drewN ?_ _) | (with_reducible refine Kd.C_drew ?_))); (case side4 => exact HC1.out); rintro e w' ⟨rfl, ⟨nd, rfl⟩⟩; (try first | exact ⟨rfl, _, World.drewN_drewN _ _ _⟩ | exact ⟨rfl, _, Eq.trans (World.drewN_drewN _ _ _) (congrArg (World.drewN _) (Nat.add_assoc _ _ _))⟩)) | (go_at_call 18; (with_reducible refine (spec_B10Few.calls k _ _ l0 t299 t300 _ ?side1 ?side2 A5.out).mono ?_); (case side1 => repeat (first | exact HR0.out | (with_reducible refine Kd.C_alloc ?_ _) | (with_reducible refine Kd.C_drewN ?_ _) | (with_reducible refine Kd.C_drew ?_))); (case side2 => exact HC0.out); rintro e w12 ⟨v301, rfl, ho0, hb⟩; have n0_ := Zab.mk (Kd.R_lower ho0 (Zam (by repeat (first | (with_reducible first | exact HB.out | apply Zac | apply Zaa | apply Zad) | exact HB.out)))); have n1_ := Zab.mk (Zal (by repeat (first | (with_reducible first | exact HB.out | apply Zac | apply Zaa | apply Zad) | exact HB.out)) hb); clear HB; have HO302 := n0_; have HB := n1_; clear n0_ n1_; (try clear hb); (try clear hb2); (try clear hk); (try clear hi); (try clear ho0)) | ((with_reducible refine gate_dst (N := 5) rfl ?_); (try (refine gate_guard (by rfl) ?_; dsimp only)); refine box_event ?hg (N := 5) ?hd (cs := #[.int .i64 0, .slice none 0 0]) (t := 28) ?hr ?_; (case hd => rfl); (case hg => rfl); (case hr => first | (go_simp; done) | (go_simp; rfl)); intro gb303 hg w13 hbox hb; have n0_ := Zab.mk (Kd.R_below (by (with_reducible repeat (first | apply Kd.R_alloc | apply Kd.R_drewN | apply Kd.R_drew)); exact HO302.out) hb); have n1_ := Zab.mk (Zal (by repeat (first | (with_reducible first | exact HB.out | apply Zac | apply Zaa | apply Zad) | exact HB.out)) hb); have n2_ := Zab.mk (hbox); have n3_ := Zab.mk ((by rw [hg]; exact (Zam (by repeat (first | (with_reducible first | exact HB.out | apply Zac | apply Zaa | apply Zad) | exact HB.out))) : w.heap.size ≤ gb303)); have n4_ := Zab.mk ((by rw [hg]; exact (Zam (by repeat (first | (with_reducible first | exact HB.out | apply Zac | apply Zaa | apply Zad) | exact HB.out))) : w.heap.size ≤ gb303)); clear HO302; clear HB; have HO302 := n0_; have HB := n1_; have BK303 := n2_; have GW303 := n3_; have GE303 := n4_; clear n0_ n1_ n2_ n3_ n4_; clear hb hbox hg; have hcz14_0 : w13.cell? ⟨gb303, 0, none⟩ = some (.int .i64 0) := (Zaj BK303.out 0).trans rfl; have hcz14_1 : w13.cell? ⟨gb303, 1, none⟩ = some (.slice none 0 0) := (Zaj BK303.out 1).trans rfl; have hfz14_0 := Zah BK303.out 0; have hfz14_1 := Zah BK303.out 1; obtain ⟨Ao15, co15, eo15⟩ := Kd.R_slice HO302.out; subst eo15) | (go_at_call 19; (with_reducible refine (impl_PrefixFloors.calls k t299 _ _ t300 t304 t307 _ ?side1 ?side2 A6.out).mono ?_); (case side1 => refine (Kd.R_reads' (e := 2) (base := w.heap.size) (ok := fun k_ => True) (n := t300.length) (c := co15) ?_).2.2; exact (by (with_reducible repeat (first | apply Kd.R_alloc | apply Kd.R_drewN | apply Kd.R_drew)); exact (Kd.R_mono (Kd.R_far (p := ⟨gb303, 1, none⟩) (Kd.R_far (p := ⟨gb303, 0, none⟩) (Kd.R_types HO302.out BK303.out (by decide)) (fun _ hk => hk.2) (.int .i64 t299)) (fun _ hk => hk.2) (.slice Ao15 t300.length co15)) (fun _ h_ => h_.1)))); (case side2 => exact (Kd.R_reads' HO302.out).2.1); rintro e w16 ⟨v305, rfl, ho0, hb⟩; have n0_ := Zab.mk (Kd.R_elder' (by (with_reducible repeat (first | apply Kd.R_alloc | apply Kd.R_drewN | apply Kd.R_drew)); exact (Kd.R_mono (Kd.R_far (p := ⟨gb303, 1, none⟩) (Kd.R_far (p := ⟨gb303, 0, none⟩) (Kd.R_types HO302.out BK303.out (by decide)) (fun _ hk => hk.2) (.int .i64 t299)) (fun _ hk => hk.2) (.slice Ao15 t300.length co15)) (fun _ h_ => h_.1))) (Kd.R_base ho0) hb); have n1_ := Zab.mk (Kd.R_lower (Kd.R_new' ho0 (Kd.R_lt (by (with_reducible repeat (first | apply Kd.R_alloc | apply Kd.R_drewN | apply Kd.R_drew)); exact (Kd.R_mono (Kd.R_far (p := ⟨gb303, 1, none⟩) (Kd.R_far (p := ⟨gb303, 0, none⟩) (Kd.R_types HO302.out BK303.out (by decide)) (fun _ hk => hk.2) (.int .i64 t299)) (fun _ hk => hk.2) (.slice Ao15 t300.length co15)) (fun _ h_ => h_.1))))) (Zam (by repeat (first | (with_reducible first | exact HB.out | apply Zac | apply Zaa | apply Zad | refine Zae ?_ GE303.out) | exact HB.out)))); have n2_ := Zab.mk (Zao (g := gb303) (o := .cells #[.int .i64 t299, .slice Ao15 t300.length co15] 28 (0, 0)) (by (with_reducible repeat (first | refine Zag ?_ _ | refine Zak ?_ | refine Zaf ?_ _)); refine blk_put (cs := #[.int .i64 t299, .slice none 0 0]) ?_ 1 _ rfl; (with_reducible repeat (first | refine Zag ?_ _ | refine Zak ?_ | refine Zaf ?_ _)); refine blk_put (cs := #[.int .i64 0, .slice none 0 0]) ?_ 0 _ rfl; (with_reducible repeat (first | refine Zag ?_ _ | refine Zak ?_ | refine Zaf ?_ _)); exact BK303.out) hb); have n3_ := Zab.mk (Zal (by repeat (first | (with_reducible first | exact HB.out | apply Zac | apply Zaa | apply Zad | refine Zae ?_ GE303.out) | exact HB.out)) hb); clear HO302; clear BK303; clear HB; have HO302 := n0_; have HO306 := n1_; have BK303 := n2_; have HB := n3_; clear n0_ n1_ n2_ n3_; (try clear hb); (try clear hb2); (try clear hk); (try clear hi); (try clear ho0); have hcz17_0 : w16.cell? ⟨gb303, 0, none⟩ = some (.int .i64 t299) := (Zaj BK303.out 0).trans rfl; have hcz17_1 : w16.cell? ⟨gb303, 1, none⟩ = some (.slice Ao15 t300.length co15) := (Zaj BK303.out 1).trans rfl; have hfz17_0 := Zah BK303.out 0; have hfz17_1 := Zah BK303.out 1) | (go_at_call 20; (with_reducible refine (impl_PrefixNearest.calls k t299 _ _ t300 t308 t311 _ ?side1 ?side2 A7.out).mono ?_); (case side1 => repeat (first | exact (Kd.R_reads' HO302.out).2.2 | (with_reducible refine Kd.C_alloc ?_ _) | (with_reducible refine Kd.C_drewN ?_ _) | (with_reducible refine Kd.C_drew ?_))); (case side2 => exact (Kd.R_reads' HO302.out).2.1); rintro e w18 ⟨v309, rfl, ho0, hb⟩; have n0_ := Zab.mk (Kd.R_elder' (by (with_reducible repeat (first | apply Kd.R_alloc | apply Kd.R_drewN | apply Kd.R_drew)); exact HO302.out) (Kd.R_base ho0) hb); have n1_ := Zab.mk (Kd.R_elder' (by (with_reducible repeat (first | apply Kd.R_alloc | apply Kd.R_drewN | apply Kd.R_drew)); exact HO306.out) (Kd.R_base ho0) hb); have n2_ := Zab.mk (Kd.R_lower (Kd.R_new' (Kd.R_new' ho0 (Kd.R_lt (by (with_reducible repeat (first | apply Kd.R_alloc | apply Kd.R_drewN | apply Kd.R_drew)); exact HO302.out))) (Kd.R_lt (by (with_reducible repeat (first | apply Kd.R_alloc | apply Kd.R_drewN | apply Kd.R_drew)); exact HO306.out))) (Zam (by repeat (first | (with_reducible first | exact HB.out | apply Zac | apply Zaa | apply Zad | refine Zae ?_ GE303.out) | exact HB.out)))); have n3_ := Zab.mk (Zao (g := gb303) (o := .cells #[.int .i64 t299, .slice Ao15 t300.length co15] 28 (0, 0)) (by (with_reducible repeat (first | refine Zag ?_ _ | refine Zak ?_ | refine Zaf ?_ _)); exact BK303.out) hb); have n4_ := Zab.mk (Zal (by repeat (first | (with_reducible first | exact HB.out | apply Zac | apply Zaa | apply Zad | refine Zae ?_ GE303.out) | exact HB.out)) hb); clear HO302; clear HO306; clear BK303; clear HB; have HO302 := n0_; have HO306 := n1_; have HO310 := n2_; have BK303 := n3_; have HB := n4_; clear n0_ n1_ n2_ n3_ n4_; (try clear hb); (try clear hb2); (try clear hk); (try clear hi); (try clear ho0); have hcz19_0 : w18.cell? ⟨gb303, 0, none⟩ = some (.int .i64 t299) := (Zaj BK303.out 0).trans rfl; have hcz19_1 : w18.cell? ⟨gb303, 1, none⟩ = some (.slice Ao15 t300.length co15) := (Zaj BK303.out 1).trans rfl; have hfz19_0 := Zah BK303.out 0; have hfz19_1 := Zah BK303.out 1) | (go_at_call 9; (with_reducible refine (impl_CountRunning.calls k t299 _ _ t300 t312 t313 _ ?side1 ?side2 A8.out).mono ?_); (case side1 => repeat (first | exact (Kd.R_reads' HO302.out).2.2 | (with_reducible refine Kd.C_alloc ?_ _) | (with_reducible refine Kd.C_drewN ?_ _) | (with_reducible refine Kd.C_drew ?_))); (case side2 => exact (Kd.R_reads' HO302.out).2.1); rintro e w20 ⟨rfl, hb⟩; have n0_ := Zab.mk (Kd.R_below (by (with_reducible repeat (first | apply Kd.R_alloc | apply Kd.R_drewN | apply Kd.R_drew)); exact HO302.out) hb); have n1_ := Zab.mk (Kd.R_below (by (with_reducible repeat (first | apply Kd.R_alloc | apply Kd.R_drewN | apply Kd.R_drew)); exact HO306.out) hb); have n2_ := Zab.mk (Kd.R_below (by (with_reducible repeat (first | apply Kd.R_alloc | apply Kd.R_drewN | apply Kd.R_drew)); exact HO310.out) hb); have n3_ := Zab.mk (Zao (g := gb303) (o := .cells #[.int .i64 t299, .slice Ao15 t300.length co15] 28 (0, 0)) (by (with_reducible repeat (first | refine Zag ?_ _ | refine Zak ?_ | refine Zaf ?_ _)); exact BK303.out) hb); have n4_ := Zab.mk (Zal (by repeat (first | (with_reducible first | exact HB.out | apply Zac | apply Zaa | apply Zad | refine Zae ?_ GE303.out) | exact HB.out)) hb); clear HO302; clear HO306; clear HO310; clear BK303; clear HB; have HO302 := n0_; have HO306 := n1_; have HO310 := n2_; have BK303 := n3_; have HB := n4_; clear n0_ n1_ n2_ n3_ n4_; (try clear hb); (try clear hb2); (try clear hk); (try clear hi); have hcz21_0 : w20.cell? ⟨gb303, 0, none⟩ = some (.int .i64 t299) := (Zaj BK303.out 0).trans rfl; have hcz21_1 : w20.cell? ⟨gb303, 1, none⟩ = some (.slice Ao15 t300.length co15) := (Zaj BK303.out 1).trans rfl; have hfz21_0 := Zah BK303.out 0; have hfz21_1 := Zah BK303.out 1) | (go_at_call 12; (with_reducible refine (impl_BestRunning.calls k t299 _ _ t300 t314 t317 t318 _ ?side1 ?side2 A9.out).mono ?_); (case side1 => repeat (first | exact (Kd.R_reads' HO302.out).2.2 | (with_reducible refine Kd.C_alloc ?_ _) | (with_reducible refine Kd.C_drewN ?_ _) | (with_reducible refine Kd.C_drew ?_))); (case side2 => exact (Kd.R_reads' HO302.out).2.1); rintro e w22 ⟨v315, rfl, ho0, hb⟩; have n0_ := Zab.mk (Kd.R_elder' (by (with_reducible repeat (first | apply Kd.R_alloc | apply Kd.R_drewN | apply Kd.R_drew)); exact HO302.out) (Kd.R_base ho0) hb); have n1_ := Zab.mk (Kd.R_elder' (by (with_reducible repeat (first | apply Kd.R_alloc | apply Kd.R_drewN | apply Kd.R_drew)); exact HO306.out) (Kd.R_base ho0) hb); have n2_ := Zab.mk (Kd.R_elder' (by (with_reducible repeat (first | apply Kd.R_alloc | apply Kd.R_drewN | apply Kd.R_drew)); exact HO310.out) (Kd.R_base ho0) hb); have n3_ := Zab.mk (Kd.R_lower (Kd.R_new' (Kd.R_new' (Kd.R_new' ho0 (Kd.R_lt (by (with_reducible repeat (first | apply Kd.R_alloc | apply Kd.R_drewN | apply Kd.R_drew)); exact HO302.out))) (Kd.R_lt (by (with_reducible repeat (first | apply Kd.R_alloc | apply Kd.R_drewN | apply Kd.R_drew)); exact HO306.out))) (Kd.R_lt (by (with_reducible repeat (first | apply Kd.R_alloc | apply Kd.R_drewN | apply Kd.R_drew)); exact HO310.out))) (Zam (by repeat (first | (with_reducible first | exact HB.out | apply Zac | apply Zaa | apply Zad | refine Zae ?_ GE303.out) | exact HB.out)))); have n4_ := Zab.mk (Zao (g := gb303) (o := .cells #[.int .i64 t299, .slice Ao15 t300.length co15] 28 (0, 0)) (by (with_reducible repeat (first | refine Zag ?_ _ | refine Zak ?_ | refine Zaf ?_ _)); exact BK303.out) hb); have n5_ := Zab.mk (Zal (by repeat (first | (with_reducible first | exact HB.out | apply Zac | apply Zaa | apply Zad | refine Zae ?_ GE303.out) | exact HB.out)) hb); clear HO302; clear HO306; clear HO310; clear BK303; clear HB; have HO302 := n0_; have HO306 := n1_; have HO310 := n2_; have HO316 := n3_; have BK303 := n4_; have HB := n5_; clear n0_ n1_ n2_ n3_ n4_ n5_; (try clear hb); (try clear hb2); (try clear hk); (try clear hi); (try clear ho0); have hcz23_0 : w22.cell? ⟨gb303, 0, none⟩ = some (.int .i64 t299) := (Zaj BK303.out 0).trans rfl; have hcz23_1 : w22.cell? ⟨gb303, 1, none⟩ = some (.slice Ao15 t300.length co15) := (Zaj BK303.out 1).trans rfl; have hfz23_0 := Zah BK303.out 0; have hfz23_1 := Zah BK303.out 1; obtain ⟨Ao24, co24, eo24⟩ := Kd.R_slice HO310.out; subst eo24) | (go_at_call 21; (with_reducible refine (Zav.calls k t299 _ _ t300 _ _ t308 t319 t322 _ ?side1 ?side2 ?side3 ?side4 A10.out).mono ?_); (case side1 => repeat (first | exact (Kd.R_reads' HO302.out).2.2 | (with_reducible refine Kd.C_alloc ?_ _) | (with_reducible refine Kd.C_drewN ?_ _) | (with_reducible refine Kd.C_drew ?_))); (case side2 => exact (Kd.R_reads' HO302.out).2.1); (case side3 => repeat (first | exact (Kd.R_reads' HO310.out).2.2 | (with_reducible refine Kd.C_alloc ?_ _) | (with_reducible refine Kd.C_drewN ?_ _) | (with_reducible refine Kd.C_drew ?_))); (case side4 => exact (Kd.R_reads' HO310.out).2.1); rintro e w25 ⟨v320, rfl, ho0, hb⟩; have n0_ := Zab.mk (Kd.R_elder' (by (with_reducible repeat (first | apply Kd.R_alloc | apply Kd.R_drewN | apply Kd.R_drew)); exact HO302.out) (Kd.R_base ho0) hb); have n1_ := Zab.mk (Kd.R_elder' (by (with_reducible repeat (first | apply Kd.R_alloc | apply Kd.R_drewN | apply Kd.R_drew)); exact HO306.out) (Kd.R_base ho0) hb); have n2_ := Zab.mk (Kd.R_elder' (by (with_reducible repeat (first | apply Kd.R_alloc | apply Kd.R_drewN | apply Kd.R_drew)); exact HO310.out) (Kd.R_base ho0) hb); have n3_ := Zab.mk (Kd.R_elder' (by (with_reducible repeat (first | apply Kd.R_alloc | apply Kd.R_drewN | apply Kd.R_drew)); exact HO316.out) (Kd.R_base ho0) hb); have n4_ := Zab.mk (Kd.R_lower (Kd.R_new' (Kd.R_new' (Kd.R_new' (Kd.R_new' ho0 (Kd.R_lt (by (with_reducible repeat (first | apply Kd.R_alloc | apply Kd.R_drewN | apply Kd.R_drew)); exact HO302.out))) (Kd.R_lt (by (with_reducible repeat (first | apply Kd.R_alloc | apply Kd.R_drewN | apply Kd.R_drew)); exact HO306.out))) (Kd.R_lt (by (with_reducible repeat (first | apply Kd.R_alloc | apply Kd.R_drewN | apply Kd.R_drew)); exact HO310.out))) (Kd.R_lt (by (with_reducible repeat (first | apply Kd.R_alloc | apply Kd.R_drewN | apply Kd.R_drew)); exact HO316.out))) (Zam (by repeat (first | (with_reducible first | exact HB.out | apply Zac | apply Zaa | apply Zad | refine Zae ?_ GE303.out) | exact HB.out)))); have n5_ := Zab.mk (Zao (g := gb303) (o := .cells #[.int .i64 t299, .slice Ao15 t300.length co15] 28 (0, 0)) (by (with_reducible repeat (first | refine Zag ?_ _ | refine Zak ?_ | refine Zaf ?_ _)); exact BK303.out) hb); have n6_ := Zab.mk (Zal (by repeat (first | (with_reducible first | exact HB.out | apply Zac | apply Zaa | apply Zad | refine Zae ?_ GE303.out) | exact HB.out)) hb); clear HO302; clear HO306; clear HO310; clear HO316; clear BK303; clear HB; have HO302 := n0_; have HO306 := n1_; have HO310 := n2_; have HO316 := n3_; have HO321 := n4_; have BK303 := n5_; have HB := n6_; clear n0_ n1_ n2_ n3_ n4_ n5_ n6_; (try clear hb); (try clear hb2); (try clear hk); (try clear hi); (try clear ho0)))
  repeat (go_quiet (first | (go_at_call 17; (with_reducible refine (laws_b10Long.calls _ _ l0 _ _ l1 false _ ?side1 ?side2 ?side3 ?side4 A3.out).mono ?_); (case side1 => repeat (first | exact HR0.out | (with_reducible refine Kd.C_alloc ?_ _) | (with_reducible refine Kd.C_drewN ?_ _) | (with_reducible refine Kd.C_drew ?_))); (case side2 => exact HC0.out); (case side3 => repeat (first | exact HR1.out | (with_reducible refine Kd.C_alloc ?_ _) | (with_reducible refine Kd.C_drewN ?_ _) | (with_reducible refine Kd.C_drew ?_))); (case side4 => exact HC1.out); rintro e w' ⟨rfl, ⟨nd, rfl⟩⟩; (try first | exact ⟨rfl, _, World.drewN_drewN _ _ _⟩ | exact ⟨rfl, _, Eq.trans (World.drewN_drewN _ _ _) (congrArg (World.drewN _) (Nat.add_assoc _ _ _))⟩)) | (go_at_call 18; (with_reducible refine (spec_B10Few.calls k _ _ l0 t299 t300 _ ?side1 ?side2 A5.out).mono ?_); (case side1 => repeat (first | exact HR0.out | (with_reducible refine Kd.C_alloc ?_ _) | (with_reducible refine Kd.C_drewN ?_ _) | (with_reducible refine Kd.C_drew ?_))); (case side2 => exact HC0.out); rintro e w12 ⟨v301, rfl, ho0, hb⟩; have n0_ := Zab.mk (Kd.R_lower ho0 (Zam (by repeat (first | (with_reducible first | exact HB.out | apply Zac | apply Zaa | apply Zad) | exact HB.out)))); have n1_ := Zab.mk (Zal (by repeat (first | (with_reducible first | exact HB.out | apply Zac | apply Zaa | apply Zad) | exact HB.out)) hb); clear HB; have HO302 := n0_; have HB := n1_; clear n0_ n1_; (try clear hb); (try clear hb2); (try clear hk); (try clear hi); (try clear ho0)) | ((with_reducible refine gate_dst (N := 5) rfl ?_); (try (refine gate_guard (by rfl) ?_; dsimp only)); refine box_event ?hg (N := 5) ?hd (cs := #[.int .i64 0, .slice none 0 0]) (t := 28) ?hr ?_; (case hd => rfl); (case hg => rfl); (case hr => first | (go_simp; done) | (go_simp; rfl)); intro gb303 hg w13 hbox hb; have n0_ := Zab.mk (Kd.R_below (by (with_reducible repeat (first | apply Kd.R_alloc | apply Kd.R_drewN | apply Kd.R_drew)); exact HO302.out) hb); have n1_ := Zab.mk (Zal (by repeat (first | (with_reducible first | exact HB.out | apply Zac | apply Zaa | apply Zad) | exact HB.out)) hb); have n2_ := Zab.mk (hbox); have n3_ := Zab.mk ((by rw [hg]; exact (Zam (by repeat (first | (with_reducible first | exact HB.out | apply Zac | apply Zaa | apply Zad) | exact HB.out))) : w.heap.size ≤ gb303)); have n4_ := Zab.mk ((by rw [hg]; exact (Zam (by repeat (first | (with_reducible first | exact HB.out | apply Zac | apply Zaa | apply Zad) | exact HB.out))) : w.heap.size ≤ gb303)); clear HO302; clear HB; have HO302 := n0_; have HB := n1_; have BK303 := n2_; have GW303 := n3_; have GE303 := n4_; clear n0_ n1_ n2_ n3_ n4_; clear hb hbox hg; have hcz14_0 : w13.cell? ⟨gb303, 0, none⟩ = some (.int .i64 0) := (Zaj BK303.out 0).trans rfl; have hcz14_1 : w13.cell? ⟨gb303, 1, none⟩ = some (.slice none 0 0) := (Zaj BK303.out 1).trans rfl; have hfz14_0 := Zah BK303.out 0; have hfz14_1 := Zah BK303.out 1; obtain ⟨Ao15, co15, eo15⟩ := Kd.R_slice HO302.out; subst eo15) | (go_at_call 19; (with_reducible refine (impl_PrefixFloors.calls k t299 _ _ t300 t304 t307 _ ?side1 ?side2 A6.out).mono ?_); (case side1 => refine (Kd.R_reads' (e := 2) (base := w.heap.size) (ok := fun k_ => True) (n := t300.length) (c := co15) ?_).2.2; exact (by (with_reducible repeat (first | apply Kd.R_alloc | apply Kd.R_drewN | apply Kd.R_drew)); exact (Kd.R_mono (Kd.R_far (p := ⟨gb303, 1, none⟩) (Kd.R_far (p := ⟨gb303, 0, none⟩) (Kd.R_types HO302.out BK303.out (by decide)) (fun _ hk => hk.2) (.int .i64 t299)) (fun _ hk => hk.2) (.slice Ao15 t300.length co15)) (fun _ h_ => h_.1)))); (case side2 => exact (Kd.R_reads' HO302.out).2.1); rintro e w16 ⟨v305, rfl, ho0, hb⟩; have n0_ := Zab.mk (Kd.R_elder' (by (with_reducible repeat (first | apply Kd.R_alloc | apply Kd.R_drewN | apply Kd.R_drew)); exact (Kd.R_mono (Kd.R_far (p := ⟨gb303, 1, none⟩) (Kd.R_far (p := ⟨gb303, 0, none⟩) (Kd.R_types HO302.out BK303.out (by decide)) (fun _ hk => hk.2) (.int .i64 t299)) (fun _ hk => hk.2) (.slice Ao15 t300.length co15)) (fun _ h_ => h_.1))) (Kd.R_base ho0) hb); have n1_ := Zab.mk (Kd.R_lower (Kd.R_new' ho0 (Kd.R_lt (by (with_reducible repeat (first | apply Kd.R_alloc | apply Kd.R_drewN | apply Kd.R_drew)); exact (Kd.R_mono (Kd.R_far (p := ⟨gb303, 1, none⟩) (Kd.R_far (p := ⟨gb303, 0, none⟩) (Kd.R_types HO302.out BK303.out (by decide)) (fun _ hk => hk.2) (.int .i64 t299)) (fun _ hk => hk.2) (.slice Ao15 t300.length co15)) (fun _ h_ => h_.1))))) (Zam (by repeat (first | (with_reducible first | exact HB.out | apply Zac | apply Zaa | apply Zad | refine Zae ?_ GE303.out) | exact HB.out)))); have n2_ := Zab.mk (Zao (g := gb303) (o := .cells #[.int .i64 t299, .slice Ao15 t300.length co15] 28 (0, 0)) (by (with_reducible repeat (first | refine Zag ?_ _ | refine Zak ?_ | refine Zaf ?_ _)); refine blk_put (cs := #[.int .i64 t299, .slice none 0 0]) ?_ 1 _ rfl; (with_reducible repeat (first | refine Zag ?_ _ | refine Zak ?_ | refine Zaf ?_ _)); refine blk_put (cs := #[.int .i64 0, .slice none 0 0]) ?_ 0 _ rfl; (with_reducible repeat (first | refine Zag ?_ _ | refine Zak ?_ | refine Zaf ?_ _)); exact BK303.out) hb); have n3_ := Zab.mk (Zal (by repeat (first | (with_reducible first | exact HB.out | apply Zac | apply Zaa | apply Zad | refine Zae ?_ GE303.out) | exact HB.out)) hb); clear HO302; clear BK303; clear HB; have HO302 := n0_; have HO306 := n1_; have BK303 := n2_; have HB := n3_; clear n0_ n1_ n2_ n3_; (try clear hb); (try clear hb2); (try clear hk); (try clear hi); (try clear ho0); have hcz17_0 : w16.cell? ⟨gb303, 0, none⟩ = some (.int .i64 t299) := (Zaj BK303.out 0).trans rfl; have hcz17_1 : w16.cell? ⟨gb303, 1, none⟩ = some (.slice Ao15 t300.length co15) := (Zaj BK303.out 1).trans rfl; have hfz17_0 := Zah BK303.out 0; have hfz17_1 := Zah BK303.out 1) | (go_at_call 20; (with_reducible refine (impl_PrefixNearest.calls k t299 _ _ t300 t308 t311 _ ?side1 ?side2 A7.out).mono ?_); (case side1 => repeat (first | exact (Kd.R_reads' HO302.out).2.2 | (with_reducible refine Kd.C_alloc ?_ _) | (with_reducible refine Kd.C_drewN ?_ _) | (with_reducible refine Kd.C_drew ?_))); (case side2 => exact (Kd.R_reads' HO302.out).2.1); rintro e w18 ⟨v309, rfl, ho0, hb⟩; have n0_ := Zab.mk (Kd.R_elder' (by (with_reducible repeat (first | apply Kd.R_alloc | apply Kd.R_drewN | apply Kd.R_drew)); exact HO302.out) (Kd.R_base ho0) hb); have n1_ := Zab.mk (Kd.R_elder' (by (with_reducible repeat (first | apply Kd.R_alloc | apply Kd.R_drewN | apply Kd.R_drew)); exact HO306.out) (Kd.R_base ho0) hb); have n2_ := Zab.mk (Kd.R_lower (Kd.R_new' (Kd.R_new' ho0 (Kd.R_lt (by (with_reducible repeat (first | apply Kd.R_alloc | apply Kd.R_drewN | apply Kd.R_drew)); exact HO302.out))) (Kd.R_lt (by (with_reducible repeat (first | apply Kd.R_alloc | apply Kd.R_drewN | apply Kd.R_drew)); exact HO306.out))) (Zam (by repeat (first | (with_reducible first | exact HB.out | apply Zac | apply Zaa | apply Zad | refine Zae ?_ GE303.out) | exact HB.out)))); have n3_ := Zab.mk (Zao (g := gb303) (o := .cells #[.int .i64 t299, .slice Ao15 t300.length co15] 28 (0, 0)) (by (with_reducible repeat (first | refine Zag ?_ _ | refine Zak ?_ | refine Zaf ?_ _)); exact BK303.out) hb); have n4_ := Zab.mk (Zal (by repeat (first | (with_reducible first | exact HB.out | apply Zac | apply Zaa | apply Zad | refine Zae ?_ GE303.out) | exact HB.out)) hb); clear HO302; clear HO306; clear BK303; clear HB; have HO302 := n0_; have HO306 := n1_; have HO310 := n2_; have BK303 := n3_; have HB := n4_; clear n0_ n1_ n2_ n3_ n4_; (try clear hb); (try clear hb2); (try clear hk); (try clear hi); (try clear ho0); have hcz19_0 : w18.cell? ⟨gb303, 0, none⟩ = some (.int .i64 t299) := (Zaj BK303.out 0).trans rfl; have hcz19_1 : w18.cell? ⟨gb303, 1, none⟩ = some (.slice Ao15 t300.length co15) := (Zaj BK303.out 1).trans rfl; have hfz19_0 := Zah BK303.out 0; have hfz19_1 := Zah BK303.out 1) | (go_at_call 9; (with_reducible refine (impl_CountRunning.calls k t299 _ _ t300 t312 t313 _ ?side1 ?side2 A8.out).mono ?_); (case side1 => repeat (first | exact (Kd.R_reads' HO302.out).2.2 | (with_reducible refine Kd.C_alloc ?_ _) | (with_reducible refine Kd.C_drewN ?_ _) | (with_reducible refine Kd.C_drew ?_))); (case side2 => exact (Kd.R_reads' HO302.out).2.1); rintro e w20 ⟨rfl, hb⟩; have n0_ := Zab.mk (Kd.R_below (by (with_reducible repeat (first | apply Kd.R_alloc | apply Kd.R_drewN | apply Kd.R_drew)); exact HO302.out) hb); have n1_ := Zab.mk (Kd.R_below (by (with_reducible repeat (first | apply Kd.R_alloc | apply Kd.R_drewN | apply Kd.R_drew)); exact HO306.out) hb); have n2_ := Zab.mk (Kd.R_below (by (with_reducible repeat (first | apply Kd.R_alloc | apply Kd.R_drewN | apply Kd.R_drew)); exact HO310.out) hb); have n3_ := Zab.mk (Zao (g := gb303) (o := .cells #[.int .i64 t299, .slice Ao15 t300.length co15] 28 (0, 0)) (by (with_reducible repeat (first | refine Zag ?_ _ | refine Zak ?_ | refine Zaf ?_ _)); exact BK303.out) hb); have n4_ := Zab.mk (Zal (by repeat (first | (with_reducible first | exact HB.out | apply Zac | apply Zaa | apply Zad | refine Zae ?_ GE303.out) | exact HB.out)) hb); clear HO302; clear HO306; clear HO310; clear BK303; clear HB; have HO302 := n0_; have HO306 := n1_; have HO310 := n2_; have BK303 := n3_; have HB := n4_; clear n0_ n1_ n2_ n3_ n4_; (try clear hb); (try clear hb2); (try clear hk); (try clear hi); have hcz21_0 : w20.cell? ⟨gb303, 0, none⟩ = some (.int .i64 t299) := (Zaj BK303.out 0).trans rfl; have hcz21_1 : w20.cell? ⟨gb303, 1, none⟩ = some (.slice Ao15 t300.length co15) := (Zaj BK303.out 1).trans rfl; have hfz21_0 := Zah BK303.out 0; have hfz21_1 := Zah BK303.out 1) | (go_at_call 12; (with_reducible refine (impl_BestRunning.calls k t299 _ _ t300 t314 t317 t318 _ ?side1 ?side2 A9.out).mono ?_); (case side1 => repeat (first | exact (Kd.R_reads' HO302.out).2.2 | (with_reducible refine Kd.C_alloc ?_ _) | (with_reducible refine Kd.C_drewN ?_ _) | (with_reducible refine Kd.C_drew ?_))); (case side2 => exact (Kd.R_reads' HO302.out).2.1); rintro e w22 ⟨v315, rfl, ho0, hb⟩; have n0_ := Zab.mk (Kd.R_elder' (by (with_reducible repeat (first | apply Kd.R_alloc | apply Kd.R_drewN | apply Kd.R_drew)); exact HO302.out) (Kd.R_base ho0) hb); have n1_ := Zab.mk (Kd.R_elder' (by (with_reducible repeat (first | apply Kd.R_alloc | apply Kd.R_drewN | apply Kd.R_drew)); exact HO306.out) (Kd.R_base ho0) hb); have n2_ := Zab.mk (Kd.R_elder' (by (with_reducible repeat (first | apply Kd.R_alloc | apply Kd.R_drewN | apply Kd.R_drew)); exact HO310.out) (Kd.R_base ho0) hb); have n3_ := Zab.mk (Kd.R_lower (Kd.R_new' (Kd.R_new' (Kd.R_new' ho0 (Kd.R_lt (by (with_reducible repeat (first | apply Kd.R_alloc | apply Kd.R_drewN | apply Kd.R_drew)); exact HO302.out))) (Kd.R_lt (by (with_reducible repeat (first | apply Kd.R_alloc | apply Kd.R_drewN | apply Kd.R_drew)); exact HO306.out))) (Kd.R_lt (by (with_reducible repeat (first | apply Kd.R_alloc | apply Kd.R_drewN | apply Kd.R_drew)); exact HO310.out))) (Zam (by repeat (first | (with_reducible first | exact HB.out | apply Zac | apply Zaa | apply Zad | refine Zae ?_ GE303.out) | exact HB.out)))); have n4_ := Zab.mk (Zao (g := gb303) (o := .cells #[.int .i64 t299, .slice Ao15 t300.length co15] 28 (0, 0)) (by (with_reducible repeat (first | refine Zag ?_ _ | refine Zak ?_ | refine Zaf ?_ _)); exact BK303.out) hb); have n5_ := Zab.mk (Zal (by repeat (first | (with_reducible first | exact HB.out | apply Zac | apply Zaa | apply Zad | refine Zae ?_ GE303.out) | exact HB.out)) hb); clear HO302; clear HO306; clear HO310; clear BK303; clear HB; have HO302 := n0_; have HO306 := n1_; have HO310 := n2_; have HO316 := n3_; have BK303 := n4_; have HB := n5_; clear n0_ n1_ n2_ n3_ n4_ n5_; (try clear hb); (try clear hb2); (try clear hk); (try clear hi); (try clear ho0); have hcz23_0 : w22.cell? ⟨gb303, 0, none⟩ = some (.int .i64 t299) := (Zaj BK303.out 0).trans rfl; have hcz23_1 : w22.cell? ⟨gb303, 1, none⟩ = some (.slice Ao15 t300.length co15) := (Zaj BK303.out 1).trans rfl; have hfz23_0 := Zah BK303.out 0; have hfz23_1 := Zah BK303.out 1; obtain ⟨Ao24, co24, eo24⟩ := Kd.R_slice HO310.out; subst eo24) | (go_at_call 21; (with_reducible refine (Zav.calls k t299 _ _ t300 _ _ t308 t319 t322 _ ?side1 ?side2 ?side3 ?side4 A10.out).mono ?_); (case side1 => repeat (first | exact (Kd.R_reads' HO302.out).2.2 | (with_reducible refine Kd.C_alloc ?_ _) | (with_reducible refine Kd.C_drewN ?_ _) | (with_reducible refine Kd.C_drew ?_))); (case side2 => exact (Kd.R_reads' HO302.out).2.1); (case side3 => repeat (first | exact (Kd.R_reads' HO310.out).2.2 | (with_reducible refine Kd.C_alloc ?_ _) | (with_reducible refine Kd.C_drewN ?_ _) | (with_reducible refine Kd.C_drew ?_))); (case side4 => exact (Kd.R_reads' HO310.out).2.1); rintro e w25 ⟨v320, rfl, ho0, hb⟩; have n0_ := Zab.mk (Kd.R_elder' (by (with_reducible repeat (first | apply Kd.R_alloc | apply Kd.R_drewN | apply Kd.R_drew)); exact HO302.out) (Kd.R_base ho0) hb); have n1_ := Zab.mk (Kd.R_elder' (by (with_reducible repeat (first | apply Kd.R_alloc | apply Kd.R_drewN | apply Kd.R_drew)); exact HO306.out) (Kd.R_base ho0) hb); have n2_ := Zab.mk (Kd.R_elder' (by (with_reducible repeat (first | apply Kd.R_alloc | apply Kd.R_drewN | apply Kd.R_drew)); exact HO310.out) (Kd.R_base ho0) hb); have n3_ := Zab.mk (Kd.R_elder' (by (with_reducible repeat (first | apply Kd.R_alloc | apply Kd.R_drewN | apply Kd.R_drew)); exact HO316.out) (Kd.R_base ho0) hb); have n4_ := Zab.mk (Kd.R_lower (Kd.R_new' (Kd.R_new' (Kd.R_new' (Kd.R_new' ho0 (Kd.R_lt (by (with_reducible repeat (first | apply Kd.R_alloc | apply Kd.R_drewN | apply Kd.R_drew)); exact HO302.out))) (Kd.R_lt (by (with_reducible repeat (first | apply Kd.R_alloc | apply Kd.R_drewN | apply Kd.R_drew)); exact HO306.out))) (Kd.R_lt (by (with_reducible repeat (first | apply Kd.R_alloc | apply Kd.R_drewN | apply Kd.R_drew)); exact HO310.out))) (Kd.R_lt (by (with_reducible repeat (first | apply Kd.R_alloc | apply Kd.R_drewN | apply Kd.R_drew)); exact HO316.out))) (Zam (by repeat (first | (with_reducible first | exact HB.out | apply Zac | apply Zaa | apply Zad | refine Zae ?_ GE303.out) | exact HB.out)))); have n5_ := Zab.mk (Zao (g := gb303) (o := .cells #[.int .i64 t299, .slice Ao15 t300.length co15] 28 (0, 0)) (by (with_reducible repeat (first | refine Zag ?_ _ | refine Zak ?_ | refine Zaf ?_ _)); exact BK303.out) hb); have n6_ := Zab.mk (Zal (by repeat (first | (with_reducible first | exact HB.out | apply Zac | apply Zaa | apply Zad | refine Zae ?_ GE303.out) | exact HB.out)) hb); clear HO302; clear HO306; clear HO310; clear HO316; clear BK303; clear HB; have HO302 := n0_; have HO306 := n1_; have HO310 := n2_; have HO316 := n3_; have HO321 := n4_; have BK303 := n5_; have HB := n6_; clear n0_ n1_ n2_ n3_ n4_ n5_ n6_; (try clear hb); (try clear hb2); (try clear hk); (try clear hi); (try clear ho0))); go_upto_region 9 with (first | (go_at_call 17; (with_reducible refine (laws_b10Long.calls _ _ l0 _ _ l1 false _ ?side1 ?side2 ?side3 ?side4 A3.out).mono ?_); (case side1 => repeat (first | exact HR0.out | (with_reducible refine Kd.C_alloc ?_ _) | (with_reducible refine Kd.C_drewN ?_ _) | (with_reducible refine Kd.C_drew ?_))); (case side2 => exact HC0.out); (case side3 => repeat (first | exact HR1.out | (with_reducible refine Kd.C_alloc ?_ _) | (with_reducible refine Kd.C_drewN ?_ _) | (with_reducible refine Kd.C_drew ?_))); (case side4 => exact HC1.out); rintro e w' ⟨rfl, ⟨nd, rfl⟩⟩; (try first | exact ⟨rfl, _, World.drewN_drewN _ _ _⟩ | exact ⟨rfl, _, Eq.trans (World.drewN_drewN _ _ _) (congrArg (World.drewN _) (Nat.add_assoc _ _ _))⟩)) | (go_at_call 18; (with_reducible refine (spec_B10Few.calls k _ _ l0 t299 t300 _ ?side1 ?side2 A5.out).mono ?_); (case side1 => repeat (first | exact HR0.out | (with_reducible refine Kd.C_alloc ?_ _) | (with_reducible refine Kd.C_drewN ?_ _) | (with_reducible refine Kd.C_drew ?_))); (case side2 => exact HC0.out); rintro e w12 ⟨v301, rfl, ho0, hb⟩; have n0_ := Zab.mk (Kd.R_lower ho0 (Zam (by repeat (first | (with_reducible first | exact HB.out | apply Zac | apply Zaa | apply Zad) | exact HB.out)))); have n1_ := Zab.mk (Zal (by repeat (first | (with_reducible first | exact HB.out | apply Zac | apply Zaa | apply Zad) | exact HB.out)) hb); clear HB; have HO302 := n0_; have HB := n1_; clear n0_ n1_; (try clear hb); (try clear hb2); (try clear hk); (try clear hi); (try clear ho0)) | ((with_reducible refine gate_dst (N := 5) rfl ?_); (try (refine gate_guard (by rfl) ?_; dsimp only)); refine box_event ?hg (N := 5) ?hd (cs := #[.int .i64 0, .slice none 0 0]) (t := 28) ?hr ?_; (case hd => rfl); (case hg => rfl); (case hr => first | (go_simp; done) | (go_simp; rfl)); intro gb303 hg w13 hbox hb; have n0_ := Zab.mk (Kd.R_below (by (with_reducible repeat (first | apply Kd.R_alloc | apply Kd.R_drewN | apply Kd.R_drew)); exact HO302.out) hb); have n1_ := Zab.mk (Zal (by repeat (first | (with_reducible first | exact HB.out | apply Zac | apply Zaa | apply Zad) | exact HB.out)) hb); have n2_ := Zab.mk (hbox); have n3_ := Zab.mk ((by rw [hg]; exact (Zam (by repeat (first | (with_reducible first | exact HB.out | apply Zac | apply Zaa | apply Zad) | exact HB.out))) : w.heap.size ≤ gb303)); have n4_ := Zab.mk ((by rw [hg]; exact (Zam (by repeat (first | (with_reducible first | exact HB.out | apply Zac | apply Zaa | apply Zad) | exact HB.out))) : w.heap.size ≤ gb303)); clear HO302; clear HB; have HO302 := n0_; have HB := n1_; have BK303 := n2_; have GW303 := n3_; have GE303 := n4_; clear n0_ n1_ n2_ n3_ n4_; clear hb hbox hg; have hcz14_0 : w13.cell? ⟨gb303, 0, none⟩ = some (.int .i64 0) := (Zaj BK303.out 0).trans rfl; have hcz14_1 : w13.cell? ⟨gb303, 1, none⟩ = some (.slice none 0 0) := (Zaj BK303.out 1).trans rfl; have hfz14_0 := Zah BK303.out 0; have hfz14_1 := Zah BK303.out 1; obtain ⟨Ao15, co15, eo15⟩ := Kd.R_slice HO302.out; subst eo15) | (go_at_call 19; (with_reducible refine (impl_PrefixFloors.calls k t299 _ _ t300 t304 t307 _ ?side1 ?side2 A6.out).mono ?_); (case side1 => refine (Kd.R_reads' (e := 2) (base := w.heap.size) (ok := fun k_ => True) (n := t300.length) (c := co15) ?_).2.2; exact (by (with_reducible repeat (first | apply Kd.R_alloc | apply Kd.R_drewN | apply Kd.R_drew)); exact (Kd.R_mono (Kd.R_far (p := ⟨gb303, 1, none⟩) (Kd.R_far (p := ⟨gb303, 0, none⟩) (Kd.R_types HO302.out BK303.out (by decide)) (fun _ hk => hk.2) (.int .i64 t299)) (fun _ hk => hk.2) (.slice Ao15 t300.length co15)) (fun _ h_ => h_.1)))); (case side2 => exact (Kd.R_reads' HO302.out).2.1); rintro e w16 ⟨v305, rfl, ho0, hb⟩; have n0_ := Zab.mk (Kd.R_elder' (by (with_reducible repeat (first | apply Kd.R_alloc | apply Kd.R_drewN | apply Kd.R_drew)); exact (Kd.R_mono (Kd.R_far (p := ⟨gb303, 1, none⟩) (Kd.R_far (p := ⟨gb303, 0, none⟩) (Kd.R_types HO302.out BK303.out (by decide)) (fun _ hk => hk.2) (.int .i64 t299)) (fun _ hk => hk.2) (.slice Ao15 t300.length co15)) (fun _ h_ => h_.1))) (Kd.R_base ho0) hb); have n1_ := Zab.mk (Kd.R_lower (Kd.R_new' ho0 (Kd.R_lt (by (with_reducible repeat (first | apply Kd.R_alloc | apply Kd.R_drewN | apply Kd.R_drew)); exact (Kd.R_mono (Kd.R_far (p := ⟨gb303, 1, none⟩) (Kd.R_far (p := ⟨gb303, 0, none⟩) (Kd.R_types HO302.out BK303.out (by decide)) (fun _ hk => hk.2) (.int .i64 t299)) (fun _ hk => hk.2) (.slice Ao15 t300.length co15)) (fun _ h_ => h_.1))))) (Zam (by repeat (first | (with_reducible first | exact HB.out | apply Zac | apply Zaa | apply Zad | refine Zae ?_ GE303.out) | exact HB.out)))); have n2_ := Zab.mk (Zao (g := gb303) (o := .cells #[.int .i64 t299, .slice Ao15 t300.length co15] 28 (0, 0)) (by (with_reducible repeat (first | refine Zag ?_ _ | refine Zak ?_ | refine Zaf ?_ _)); refine blk_put (cs := #[.int .i64 t299, .slice none 0 0]) ?_ 1 _ rfl; (with_reducible repeat (first | refine Zag ?_ _ | refine Zak ?_ | refine Zaf ?_ _)); refine blk_put (cs := #[.int .i64 0, .slice none 0 0]) ?_ 0 _ rfl; (with_reducible repeat (first | refine Zag ?_ _ | refine Zak ?_ | refine Zaf ?_ _)); exact BK303.out) hb); have n3_ := Zab.mk (Zal (by repeat (first | (with_reducible first | exact HB.out | apply Zac | apply Zaa | apply Zad | refine Zae ?_ GE303.out) | exact HB.out)) hb); clear HO302; clear BK303; clear HB; have HO302 := n0_; have HO306 := n1_; have BK303 := n2_; have HB := n3_; clear n0_ n1_ n2_ n3_; (try clear hb); (try clear hb2); (try clear hk); (try clear hi); (try clear ho0); have hcz17_0 : w16.cell? ⟨gb303, 0, none⟩ = some (.int .i64 t299) := (Zaj BK303.out 0).trans rfl; have hcz17_1 : w16.cell? ⟨gb303, 1, none⟩ = some (.slice Ao15 t300.length co15) := (Zaj BK303.out 1).trans rfl; have hfz17_0 := Zah BK303.out 0; have hfz17_1 := Zah BK303.out 1) | (go_at_call 20; (with_reducible refine (impl_PrefixNearest.calls k t299 _ _ t300 t308 t311 _ ?side1 ?side2 A7.out).mono ?_); (case side1 => repeat (first | exact (Kd.R_reads' HO302.out).2.2 | (with_reducible refine Kd.C_alloc ?_ _) | (with_reducible refine Kd.C_drewN ?_ _) | (with_reducible refine Kd.C_drew ?_))); (case side2 => exact (Kd.R_reads' HO302.out).2.1); rintro e w18 ⟨v309, rfl, ho0, hb⟩; have n0_ := Zab.mk (Kd.R_elder' (by (with_reducible repeat (first | apply Kd.R_alloc | apply Kd.R_drewN | apply Kd.R_drew)); exact HO302.out) (Kd.R_base ho0) hb); have n1_ := Zab.mk (Kd.R_elder' (by (with_reducible repeat (first | apply Kd.R_alloc | apply Kd.R_drewN | apply Kd.R_drew)); exact HO306.out) (Kd.R_base ho0) hb); have n2_ := Zab.mk (Kd.R_lower (Kd.R_new' (Kd.R_new' ho0 (Kd.R_lt (by (with_reducible repeat (first | apply Kd.R_alloc | apply Kd.R_drewN | apply Kd.R_drew)); exact HO302.out))) (Kd.R_lt (by (with_reducible repeat (first | apply Kd.R_alloc | apply Kd.R_drewN | apply Kd.R_drew)); exact HO306.out))) (Zam (by repeat (first | (with_reducible first | exact HB.out | apply Zac | apply Zaa | apply Zad | refine Zae ?_ GE303.out) | exact HB.out)))); have n3_ := Zab.mk (Zao (g := gb303) (o := .cells #[.int .i64 t299, .slice Ao15 t300.length co15] 28 (0, 0)) (by (with_reducible repeat (first | refine Zag ?_ _ | refine Zak ?_ | refine Zaf ?_ _)); exact BK303.out) hb); have n4_ := Zab.mk (Zal (by repeat (first | (with_reducible first | exact HB.out | apply Zac | apply Zaa | apply Zad | refine Zae ?_ GE303.out) | exact HB.out)) hb); clear HO302; clear HO306; clear BK303; clear HB; have HO302 := n0_; have HO306 := n1_; have HO310 := n2_; have BK303 := n3_; have HB := n4_; clear n0_ n1_ n2_ n3_ n4_; (try clear hb); (try clear hb2); (try clear hk); (try clear hi); (try clear ho0); have hcz19_0 : w18.cell? ⟨gb303, 0, none⟩ = some (.int .i64 t299) := (Zaj BK303.out 0).trans rfl; have hcz19_1 : w18.cell? ⟨gb303, 1, none⟩ = some (.slice Ao15 t300.length co15) := (Zaj BK303.out 1).trans rfl; have hfz19_0 := Zah BK303.out 0; have hfz19_1 := Zah BK303.out 1) | (go_at_call 9; (with_reducible refine (impl_CountRunning.calls k t299 _ _ t300 t312 t313 _ ?side1 ?side2 A8.out).mono ?_); (case side1 => repeat (first | exact (Kd.R_reads' HO302.out).2.2 | (with_reducible refine Kd.C_alloc ?_ _) | (with_reducible refine Kd.C_drewN ?_ _) | (with_reducible refine Kd.C_drew ?_))); (case side2 => exact (Kd.R_reads' HO302.out).2.1); rintro e w20 ⟨rfl, hb⟩; have n0_ := Zab.mk (Kd.R_below (by (with_reducible repeat (first | apply Kd.R_alloc | apply Kd.R_drewN | apply Kd.R_drew)); exact HO302.out) hb); have n1_ := Zab.mk (Kd.R_below (by (with_reducible repeat (first | apply Kd.R_alloc | apply Kd.R_drewN | apply Kd.R_drew)); exact HO306.out) hb); have n2_ := Zab.mk (Kd.R_below (by (with_reducible repeat (first | apply Kd.R_alloc | apply Kd.R_drewN | apply Kd.R_drew)); exact HO310.out) hb); have n3_ := Zab.mk (Zao (g := gb303) (o := .cells #[.int .i64 t299, .slice Ao15 t300.length co15] 28 (0, 0)) (by (with_reducible repeat (first | refine Zag ?_ _ | refine Zak ?_ | refine Zaf ?_ _)); exact BK303.out) hb); have n4_ := Zab.mk (Zal (by repeat (first | (with_reducible first | exact HB.out | apply Zac | apply Zaa | apply Zad | refine Zae ?_ GE303.out) | exact HB.out)) hb); clear HO302; clear HO306; clear HO310; clear BK303; clear HB; have HO302 := n0_; have HO306 := n1_; have HO310 := n2_; have BK303 := n3_; have HB := n4_; clear n0_ n1_ n2_ n3_ n4_; (try clear hb); (try clear hb2); (try clear hk); (try clear hi); have hcz21_0 : w20.cell? ⟨gb303, 0, none⟩ = some (.int .i64 t299) := (Zaj BK303.out 0).trans rfl; have hcz21_1 : w20.cell? ⟨gb303, 1, none⟩ = some (.slice Ao15 t300.length co15) := (Zaj BK303.out 1).trans rfl; have hfz21_0 := Zah BK303.out 0; have hfz21_1 := Zah BK303.out 1) | (go_at_call 12; (with_reducible refine (impl_BestRunning.calls k t299 _ _ t300 t314 t317 t318 _ ?side1 ?side2 A9.out).mono ?_); (case side1 => repeat (first | exact (Kd.R_reads' HO302.out).2.2 | (with_reducible refine Kd.C_alloc ?_ _) | (with_reducible refine Kd.C_drewN ?_ _) | (with_reducible refine Kd.C_drew ?_))); (case side2 => exact (Kd.R_reads' HO302.out).2.1); rintro e w22 ⟨v315, rfl, ho0, hb⟩; have n0_ := Zab.mk (Kd.R_elder' (by (with_reducible repeat (first | apply Kd.R_alloc | apply Kd.R_drewN | apply Kd.R_drew)); exact HO302.out) (Kd.R_base ho0) hb); have n1_ := Zab.mk (Kd.R_elder' (by (with_reducible repeat (first | apply Kd.R_alloc | apply Kd.R_drewN | apply Kd.R_drew)); exact HO306.out) (Kd.R_base ho0) hb); have n2_ := Zab.mk (Kd.R_elder' (by (with_reducible repeat (first | apply Kd.R_alloc | apply Kd.R_drewN | apply Kd.R_drew)); exact HO310.out) (Kd.R_base ho0) hb); have n3_ := Zab.mk (Kd.R_lower (Kd.R_new' (Kd.R_new' (Kd.R_new' ho0 (Kd.R_lt (by (with_reducible repeat (first | apply Kd.R_alloc | apply Kd.R_drewN | apply Kd.R_drew)); exact HO302.out))) (Kd.R_lt (by (with_reducible repeat (first | apply Kd.R_alloc | apply Kd.R_drewN | apply Kd.R_drew)); exact HO306.out))) (Kd.R_lt (by (with_reducible repeat (first | apply Kd.R_alloc | apply Kd.R_drewN | apply Kd.R_drew)); exact HO310.out))) (Zam (by repeat (first | (with_reducible first | exact HB.out | apply Zac | apply Zaa | apply Zad | refine Zae ?_ GE303.out) | exact HB.out)))); have n4_ := Zab.mk (Zao (g := gb303) (o := .cells #[.int .i64 t299, .slice Ao15 t300.length co15] 28 (0, 0)) (by (with_reducible repeat (first | refine Zag ?_ _ | refine Zak ?_ | refine Zaf ?_ _)); exact BK303.out) hb); have n5_ := Zab.mk (Zal (by repeat (first | (with_reducible first | exact HB.out | apply Zac | apply Zaa | apply Zad | refine Zae ?_ GE303.out) | exact HB.out)) hb); clear HO302; clear HO306; clear HO310; clear BK303; clear HB; have HO302 := n0_; have HO306 := n1_; have HO310 := n2_; have HO316 := n3_; have BK303 := n4_; have HB := n5_; clear n0_ n1_ n2_ n3_ n4_ n5_; (try clear hb); (try clear hb2); (try clear hk); (try clear hi); (try clear ho0); have hcz23_0 : w22.cell? ⟨gb303, 0, none⟩ = some (.int .i64 t299) := (Zaj BK303.out 0).trans rfl; have hcz23_1 : w22.cell? ⟨gb303, 1, none⟩ = some (.slice Ao15 t300.length co15) := (Zaj BK303.out 1).trans rfl; have hfz23_0 := Zah BK303.out 0; have hfz23_1 := Zah BK303.out 1; obtain ⟨Ao24, co24, eo24⟩ := Kd.R_slice HO310.out; subst eo24) | (go_at_call 21; (with_reducible refine (Zav.calls k t299 _ _ t300 _ _ t308 t319 t322 _ ?side1 ?side2 ?side3 ?side4 A10.out).mono ?_); (case side1 => repeat (first | exact (Kd.R_reads' HO302.out).2.2 | (with_reducible refine Kd.C_alloc ?_ _) | (with_reducible refine Kd.C_drewN ?_ _) | (with_reducible refine Kd.C_drew ?_))); (case side2 => exact (Kd.R_reads' HO302.out).2.1); (case side3 => repeat (first | exact (Kd.R_reads' HO310.out).2.2 | (with_reducible refine Kd.C_alloc ?_ _) | (with_reducible refine Kd.C_drewN ?_ _) | (with_reducible refine Kd.C_drew ?_))); (case side4 => exact (Kd.R_reads' HO310.out).2.1); rintro e w25 ⟨v320, rfl, ho0, hb⟩; have n0_ := Zab.mk (Kd.R_elder' (by (with_reducible repeat (first | apply Kd.R_alloc | apply Kd.R_drewN | apply Kd.R_drew)); exact HO302.out) (Kd.R_base ho0) hb); have n1_ := Zab.mk (Kd.R_elder' (by (with_reducible repeat (first | apply Kd.R_alloc | apply Kd.R_drewN | apply Kd.R_drew)); exact HO306.out) (Kd.R_base ho0) hb); have n2_ := Zab.mk (Kd.R_elder' (by (with_reducible repeat (first | apply Kd.R_alloc | apply Kd.R_drewN | apply Kd.R_drew)); exact HO310.out) (Kd.R_base ho0) hb); have n3_ := Zab.mk (Kd.R_elder' (by (with_reducible repeat (first | apply Kd.R_alloc | apply Kd.R_drewN | apply Kd.R_drew)); exact HO316.out) (Kd.R_base ho0) hb); have n4_ := Zab.mk (Kd.R_lower (Kd.R_new' (Kd.R_new' (Kd.R_new' (Kd.R_new' ho0 (Kd.R_lt (by (with_reducible repeat (first | apply Kd.R_alloc | apply Kd.R_drewN | apply Kd.R_drew)); exact HO302.out))) (Kd.R_lt (by (with_reducible repeat (first | apply Kd.R_alloc | apply Kd.R_drewN | apply Kd.R_drew)); exact HO306.out))) (Kd.R_lt (by (with_reducible repeat (first | apply Kd.R_alloc | apply Kd.R_drewN | apply Kd.R_drew)); exact HO310.out))) (Kd.R_lt (by (with_reducible repeat (first | apply Kd.R_alloc | apply Kd.R_drewN | apply Kd.R_drew)); exact HO316.out))) (Zam (by repeat (first | (with_reducible first | exact HB.out | apply Zac | apply Zaa | apply Zad | refine Zae ?_ GE303.out) | exact HB.out)))); have n5_ := Zab.mk (Zao (g := gb303) (o := .cells #[.int .i64 t299, .slice Ao15 t300.length co15] 28 (0, 0)) (by (with_reducible repeat (first | refine Zag ?_ _ | refine Zak ?_ | refine Zaf ?_ _)); exact BK303.out) hb); have n6_ := Zab.mk (Zal (by repeat (first | (with_reducible first | exact HB.out | apply Zac | apply Zaa | apply Zad | refine Zae ?_ GE303.out) | exact HB.out)) hb); clear HO302; clear HO306; clear HO310; clear HO316; clear BK303; clear HB; have HO302 := n0_; have HO306 := n1_; have HO310 := n2_; have HO316 := n3_; have HO321 := n4_; have BK303 := n5_; have HB := n6_; clear n0_ n1_ n2_ n3_ n4_ n5_ n6_; (try clear hb); (try clear hb2); (try clear hk); (try clear hi); (try clear ho0))))
  (try simp only [Act.put, List.setIfInBounds_toArray, List.set_cons_zero, List.set_cons_succ])
  go_cut [97] (fun v97 wc => ∃ (kq : Nat) (x97_10 : Bool), v97 = .bool x97_10 ∧ Zab (laws_FnRunning.j0 kq t312 t314 t317 t319 x97_10 t299 t300 = some r) ∧ Zab (kq ≤ k) ∧ Zab (Kd.R (Kd.int .i64) 2 wc w.heap.size (fun k_ => some k_ ≠ (v320 : Value).ownBlock ∧ some k_ ≠ ((.slice Ao15 t300.length co15) : Value).ownBlock) v315 t314) ∧ Zab (Kd.R (Kd.int .i64) 2 wc w.heap.size (fun k_ => some k_ ≠ (v315 : Value).ownBlock ∧ some k_ ≠ ((.slice Ao15 t300.length co15) : Value).ownBlock) v320 t319) ∧ Zab (Kd.R (Kd.int .i64) 2 wc w.heap.size (fun k_ => some k_ ≠ (v315 : Value).ownBlock ∧ some k_ ≠ (v320 : Value).ownBlock) (.slice Ao15 t300.length co15) t300) ∧ Zab (wc.heap[gb303]? = some (.cells #[.int .i64 t299, (.slice Ao15 t300.length co15)] 28 (0, 0))) ∧ Zab (Below w.heap.size w wc))
  case first =>
   have H := HC11.out
   clear HC11
   by_cases c26 : t307 = true
   ·subst c26
    have H1 : (if t311 = true then (if t313 = true then (if t318 = true then (if t322 = true then ((Zau.f k t299 t300 t304).bind fun t323 => (if t323 = true then ((Zan.f k t299 t300 t314).bind fun t324 => (if t324 = true then (laws_FnRunning.j0 k t312 t314 t317 t319 ((t319.length : Int) != (t300.length : Int)) t299 t300) else (laws_FnRunning.j0 k t312 t314 t317 t319 true t299 t300))) else (laws_FnRunning.j0 k t312 t314 t317 t319 true t299 t300))) else (laws_FnRunning.j0 k t312 t314 t317 t319 true t299 t300)) else (laws_FnRunning.j0 k t312 t314 t317 t319 true t299 t300)) else (laws_FnRunning.j0 k t312 t314 t317 t319 true t299 t300)) else (laws_FnRunning.j0 k t312 t314 t317 t319 true t299 t300)) = some r := by rw [if_pos rfl] at H; exact H
    clear H
    have H := H1
    clear H1
    by_cases c27 : t311 = true
    ·subst c27
     have H1 : (if t313 = true then (if t318 = true then (if t322 = true then ((Zau.f k t299 t300 t304).bind fun t323 => (if t323 = true then ((Zan.f k t299 t300 t314).bind fun t324 => (if t324 = true then (laws_FnRunning.j0 k t312 t314 t317 t319 ((t319.length : Int) != (t300.length : Int)) t299 t300) else (laws_FnRunning.j0 k t312 t314 t317 t319 true t299 t300))) else (laws_FnRunning.j0 k t312 t314 t317 t319 true t299 t300))) else (laws_FnRunning.j0 k t312 t314 t317 t319 true t299 t300)) else (laws_FnRunning.j0 k t312 t314 t317 t319 true t299 t300)) else (laws_FnRunning.j0 k t312 t314 t317 t319 true t299 t300)) = some r := by rw [if_pos rfl] at H; exact H
     clear H
     have H := H1
     clear H1
     by_cases c28 : t313 = true
     ·subst c28
      have H1 : (if t318 = true then (if t322 = true then ((Zau.f k t299 t300 t304).bind fun t323 => (if t323 = true then ((Zan.f k t299 t300 t314).bind fun t324 => (if t324 = true then (laws_FnRunning.j0 k t312 t314 t317 t319 ((t319.length : Int) != (t300.length : Int)) t299 t300) else (laws_FnRunning.j0 k t312 t314 t317 t319 true t299 t300))) else (laws_FnRunning.j0 k t312 t314 t317 t319 true t299 t300))) else (laws_FnRunning.j0 k t312 t314 t317 t319 true t299 t300)) else (laws_FnRunning.j0 k t312 t314 t317 t319 true t299 t300)) = some r := by rw [if_pos rfl] at H; exact H
      clear H
      have H := H1
      clear H1
      by_cases c29 : t318 = true
      ·subst c29
       have H1 : (if t322 = true then ((Zau.f k t299 t300 t304).bind fun t323 => (if t323 = true then ((Zan.f k t299 t300 t314).bind fun t324 => (if t324 = true then (laws_FnRunning.j0 k t312 t314 t317 t319 ((t319.length : Int) != (t300.length : Int)) t299 t300) else (laws_FnRunning.j0 k t312 t314 t317 t319 true t299 t300))) else (laws_FnRunning.j0 k t312 t314 t317 t319 true t299 t300))) else (laws_FnRunning.j0 k t312 t314 t317 t319 true t299 t300)) = some r := by rw [if_pos rfl] at H; exact H
       clear H
       have H := H1
       clear H1
       by_cases c30 : t322 = true
       ·subst c30
        have H1 : ((Zau.f k t299 t300 t304).bind fun t323 => (if t323 = true then ((Zan.f k t299 t300 t314).bind fun t324 => (if t324 = true then (laws_FnRunning.j0 k t312 t314 t317 t319 ((t319.length : Int) != (t300.length : Int)) t299 t300) else (laws_FnRunning.j0 k t312 t314 t317 t319 true t299 t300))) else (laws_FnRunning.j0 k t312 t314 t317 t319 true t299 t300))) = some r := by rw [if_pos rfl] at H; exact H
        clear H
        have H := H1
        clear H1
        replace H := Option.bind_eq_some_iff.mp H
        obtain ⟨t323, A310, H⟩ := H
        replace H : (if t323 = true then ((Zan.f k t299 t300 t314).bind fun t324 => (if t324 = true then (laws_FnRunning.j0 k t312 t314 t317 t319 ((t319.length : Int) != (t300.length : Int)) t299 t300) else (laws_FnRunning.j0 k t312 t314 t317 t319 true t299 t300))) else (laws_FnRunning.j0 k t312 t314 t317 t319 true t299 t300)) = some r := H
        have A31 := Zab.mk A310
        clear A310
        by_cases c32 : t323 = true
        ·subst c32
         have H1 : ((Zan.f k t299 t300 t314).bind fun t324 => (if t324 = true then (laws_FnRunning.j0 k t312 t314 t317 t319 ((t319.length : Int) != (t300.length : Int)) t299 t300) else (laws_FnRunning.j0 k t312 t314 t317 t319 true t299 t300))) = some r := by rw [if_pos rfl] at H; exact H
         clear H
         have H := H1
         clear H1
         replace H := Option.bind_eq_some_iff.mp H
         obtain ⟨t324, A330, H⟩ := H
         replace H : (if t324 = true then (laws_FnRunning.j0 k t312 t314 t317 t319 ((t319.length : Int) != (t300.length : Int)) t299 t300) else (laws_FnRunning.j0 k t312 t314 t317 t319 true t299 t300)) = some r := H
         have A33 := Zab.mk A330
         clear A330
         by_cases c34 : t324 = true
         ·subst c34
          have H1 : (laws_FnRunning.j0 k t312 t314 t317 t319 ((t319.length : Int) != (t300.length : Int)) t299 t300) = some r := by rw [if_pos rfl] at H; exact H
          clear H
          have H := H1
          clear H1
          have H' := Zab.mk H
          clear H
          have hcz35_0 : w25.cell? ⟨gb303, 0, none⟩ = some (.int .i64 t299) := (Zaj BK303.out 0).trans rfl
          have hcz35_1 : w25.cell? ⟨gb303, 1, none⟩ = some (.slice Ao15 t300.length co15) := (Zaj BK303.out 1).trans rfl
          have hfz35_0 := Zah BK303.out 0
          have hfz35_1 := Zah BK303.out 1
          obtain ⟨Ao36, co36, eo36⟩ := Kd.R_slice HO306.out
          subst eo36
          as_aux_lemma =>
           go_wp2_with (first | (go_at_call 22; (with_reducible refine (Zau.calls k t299 _ _ t300 _ _ t304 true _ ?side1 ?side2 ?side3 ?side4 A31.out).mono ?_); (case side1 => repeat (first | exact (Kd.R_reads' HO302.out).2.2 | (with_reducible refine Kd.C_alloc ?_ _) | (with_reducible refine Kd.C_drewN ?_ _) | (with_reducible refine Kd.C_drew ?_))); (case side2 => exact (Kd.R_reads' HO302.out).2.1); (case side3 => repeat (first | exact (Kd.R_reads' HO306.out).2.2 | (with_reducible refine Kd.C_alloc ?_ _) | (with_reducible refine Kd.C_drewN ?_ _) | (with_reducible refine Kd.C_drew ?_))); (case side4 => exact (Kd.R_reads' HO306.out).2.1); rintro e w37 ⟨rfl, hb⟩; have n0_ := Zab.mk (Kd.R_below (by (with_reducible repeat (first | apply Kd.R_alloc | apply Kd.R_drewN | apply Kd.R_drew)); exact HO302.out) hb); have n1_ := Zab.mk (Kd.R_below (by (with_reducible repeat (first | apply Kd.R_alloc | apply Kd.R_drewN | apply Kd.R_drew)); exact HO306.out) hb); have n2_ := Zab.mk (Kd.R_below (by (with_reducible repeat (first | apply Kd.R_alloc | apply Kd.R_drewN | apply Kd.R_drew)); exact HO310.out) hb); have n3_ := Zab.mk (Kd.R_below (by (with_reducible repeat (first | apply Kd.R_alloc | apply Kd.R_drewN | apply Kd.R_drew)); exact HO316.out) hb); have n4_ := Zab.mk (Kd.R_below (by (with_reducible repeat (first | apply Kd.R_alloc | apply Kd.R_drewN | apply Kd.R_drew)); exact HO321.out) hb); have n5_ := Zab.mk (Zao (g := gb303) (o := .cells #[.int .i64 t299, .slice Ao15 t300.length co15] 28 (0, 0)) (by (with_reducible repeat (first | refine Zag ?_ _ | refine Zak ?_ | refine Zaf ?_ _)); exact BK303.out) hb); have n6_ := Zab.mk (Zal (by repeat (first | (with_reducible first | exact HB.out | apply Zac | apply Zaa | apply Zad | refine Zae ?_ GE303.out) | exact HB.out)) hb); clear HO302; clear HO306; clear HO310; clear HO316; clear HO321; clear BK303; clear HB; have HO302 := n0_; have HO306 := n1_; have HO310 := n2_; have HO316 := n3_; have HO321 := n4_; have BK303 := n5_; have HB := n6_; clear n0_ n1_ n2_ n3_ n4_ n5_ n6_; (try clear hb); (try clear hb2); (try clear hk); (try clear hi); have hcz38_0 : w37.cell? ⟨gb303, 0, none⟩ = some (.int .i64 t299) := (Zaj BK303.out 0).trans rfl; have hcz38_1 : w37.cell? ⟨gb303, 1, none⟩ = some (.slice Ao15 t300.length co15) := (Zaj BK303.out 1).trans rfl; have hfz38_0 := Zah BK303.out 0; have hfz38_1 := Zah BK303.out 1; obtain ⟨Ao39, co39, eo39⟩ := Kd.R_slice HO316.out; subst eo39) | (go_at_call 23; (with_reducible refine (Zan.calls k t299 _ _ t300 _ _ t314 true _ ?side1 ?side2 ?side3 ?side4 A33.out).mono ?_); (case side1 => repeat (first | exact (Kd.R_reads' HO302.out).2.2 | (with_reducible refine Kd.C_alloc ?_ _) | (with_reducible refine Kd.C_drewN ?_ _) | (with_reducible refine Kd.C_drew ?_))); (case side2 => exact (Kd.R_reads' HO302.out).2.1); (case side3 => repeat (first | exact (Kd.R_reads' HO316.out).2.2 | (with_reducible refine Kd.C_alloc ?_ _) | (with_reducible refine Kd.C_drewN ?_ _) | (with_reducible refine Kd.C_drew ?_))); (case side4 => exact (Kd.R_reads' HO316.out).2.1); rintro e w40 ⟨rfl, hb⟩; have n0_ := Zab.mk (Kd.R_below (by (with_reducible repeat (first | apply Kd.R_alloc | apply Kd.R_drewN | apply Kd.R_drew)); exact HO302.out) hb); have n1_ := Zab.mk (Kd.R_below (by (with_reducible repeat (first | apply Kd.R_alloc | apply Kd.R_drewN | apply Kd.R_drew)); exact HO306.out) hb); have n2_ := Zab.mk (Kd.R_below (by (with_reducible repeat (first | apply Kd.R_alloc | apply Kd.R_drewN | apply Kd.R_drew)); exact HO310.out) hb); have n3_ := Zab.mk (Kd.R_below (by (with_reducible repeat (first | apply Kd.R_alloc | apply Kd.R_drewN | apply Kd.R_drew)); exact HO316.out) hb); have n4_ := Zab.mk (Kd.R_below (by (with_reducible repeat (first | apply Kd.R_alloc | apply Kd.R_drewN | apply Kd.R_drew)); exact HO321.out) hb); have n5_ := Zab.mk (Zao (g := gb303) (o := .cells #[.int .i64 t299, .slice Ao15 t300.length co15] 28 (0, 0)) (by (with_reducible repeat (first | refine Zag ?_ _ | refine Zak ?_ | refine Zaf ?_ _)); exact BK303.out) hb); have n6_ := Zab.mk (Zal (by repeat (first | (with_reducible first | exact HB.out | apply Zac | apply Zaa | apply Zad | refine Zae ?_ GE303.out) | exact HB.out)) hb); clear HO302; clear HO306; clear HO310; clear HO316; clear HO321; clear BK303; clear HB; have HO302 := n0_; have HO306 := n1_; have HO310 := n2_; have HO316 := n3_; have HO321 := n4_; have BK303 := n5_; have HB := n6_; clear n0_ n1_ n2_ n3_ n4_ n5_ n6_; (try clear hb); (try clear hb2); (try clear hk); (try clear hi); obtain ⟨Ao41, co41, eo41⟩ := Kd.R_slice HO321.out; subst eo41; have hcz42_0 : w40.cell? ⟨gb303, 0, none⟩ = some (.int .i64 t299) := (Zaj BK303.out 0).trans rfl; have hcz42_1 : w40.cell? ⟨gb303, 1, none⟩ = some (.slice Ao15 t300.length co15) := (Zaj BK303.out 1).trans rfl; have hfz42_0 := Zah BK303.out 0; have hfz42_1 := Zah BK303.out 1))
           repeat (go_quiet (first | (go_at_call 22; (with_reducible refine (Zau.calls k t299 _ _ t300 _ _ t304 true _ ?side1 ?side2 ?side3 ?side4 A31.out).mono ?_); (case side1 => repeat (first | exact (Kd.R_reads' HO302.out).2.2 | (with_reducible refine Kd.C_alloc ?_ _) | (with_reducible refine Kd.C_drewN ?_ _) | (with_reducible refine Kd.C_drew ?_))); (case side2 => exact (Kd.R_reads' HO302.out).2.1); (case side3 => repeat (first | exact (Kd.R_reads' HO306.out).2.2 | (with_reducible refine Kd.C_alloc ?_ _) | (with_reducible refine Kd.C_drewN ?_ _) | (with_reducible refine Kd.C_drew ?_))); (case side4 => exact (Kd.R_reads' HO306.out).2.1); rintro e w37 ⟨rfl, hb⟩; have n0_ := Zab.mk (Kd.R_below (by (with_reducible repeat (first | apply Kd.R_alloc | apply Kd.R_drewN | apply Kd.R_drew)); exact HO302.out) hb); have n1_ := Zab.mk (Kd.R_below (by (with_reducible repeat (first | apply Kd.R_alloc | apply Kd.R_drewN | apply Kd.R_drew)); exact HO306.out) hb); have n2_ := Zab.mk (Kd.R_below (by (with_reducible repeat (first | apply Kd.R_alloc | apply Kd.R_drewN | apply Kd.R_drew)); exact HO310.out) hb); have n3_ := Zab.mk (Kd.R_below (by (with_reducible repeat (first | apply Kd.R_alloc | apply Kd.R_drewN | apply Kd.R_drew)); exact HO316.out) hb); have n4_ := Zab.mk (Kd.R_below (by (with_reducible repeat (first | apply Kd.R_alloc | apply Kd.R_drewN | apply Kd.R_drew)); exact HO321.out) hb); have n5_ := Zab.mk (Zao (g := gb303) (o := .cells #[.int .i64 t299, .slice Ao15 t300.length co15] 28 (0, 0)) (by (with_reducible repeat (first | refine Zag ?_ _ | refine Zak ?_ | refine Zaf ?_ _)); exact BK303.out) hb); have n6_ := Zab.mk (Zal (by repeat (first | (with_reducible first | exact HB.out | apply Zac | apply Zaa | apply Zad | refine Zae ?_ GE303.out) | exact HB.out)) hb); clear HO302; clear HO306; clear HO310; clear HO316; clear HO321; clear BK303; clear HB; have HO302 := n0_; have HO306 := n1_; have HO310 := n2_; have HO316 := n3_; have HO321 := n4_; have BK303 := n5_; have HB := n6_; clear n0_ n1_ n2_ n3_ n4_ n5_ n6_; (try clear hb); (try clear hb2); (try clear hk); (try clear hi); have hcz38_0 : w37.cell? ⟨gb303, 0, none⟩ = some (.int .i64 t299) := (Zaj BK303.out 0).trans rfl; have hcz38_1 : w37.cell? ⟨gb303, 1, none⟩ = some (.slice Ao15 t300.length co15) := (Zaj BK303.out 1).trans rfl; have hfz38_0 := Zah BK303.out 0; have hfz38_1 := Zah BK303.out 1; obtain ⟨Ao39, co39, eo39⟩ := Kd.R_slice HO316.out; subst eo39) | (go_at_call 23; (with_reducible refine (Zan.calls k t299 _ _ t300 _ _ t314 true _ ?side1 ?side2 ?side3 ?side4 A33.out).mono ?_); (case side1 => repeat (first | exact (Kd.R_reads' HO302.out).2.2 | (with_reducible refine Kd.C_alloc ?_ _) | (with_reducible refine Kd.C_drewN ?_ _) | (with_reducible refine Kd.C_drew ?_))); (case side2 => exact (Kd.R_reads' HO302.out).2.1); (case side3 => repeat (first | exact (Kd.R_reads' HO316.out).2.2 | (with_reducible refine Kd.C_alloc ?_ _) | (with_reducible refine Kd.C_drewN ?_ _) | (with_reducible refine Kd.C_drew ?_))); (case side4 => exact (Kd.R_reads' HO316.out).2.1); rintro e w40 ⟨rfl, hb⟩; have n0_ := Zab.mk (Kd.R_below (by (with_reducible repeat (first | apply Kd.R_alloc | apply Kd.R_drewN | apply Kd.R_drew)); exact HO302.out) hb); have n1_ := Zab.mk (Kd.R_below (by (with_reducible repeat (first | apply Kd.R_alloc | apply Kd.R_drewN | apply Kd.R_drew)); exact HO306.out) hb); have n2_ := Zab.mk (Kd.R_below (by (with_reducible repeat (first | apply Kd.R_alloc | apply Kd.R_drewN | apply Kd.R_drew)); exact HO310.out) hb); have n3_ := Zab.mk (Kd.R_below (by (with_reducible repeat (first | apply Kd.R_alloc | apply Kd.R_drewN | apply Kd.R_drew)); exact HO316.out) hb); have n4_ := Zab.mk (Kd.R_below (by (with_reducible repeat (first | apply Kd.R_alloc | apply Kd.R_drewN | apply Kd.R_drew)); exact HO321.out) hb); have n5_ := Zab.mk (Zao (g := gb303) (o := .cells #[.int .i64 t299, .slice Ao15 t300.length co15] 28 (0, 0)) (by (with_reducible repeat (first | refine Zag ?_ _ | refine Zak ?_ | refine Zaf ?_ _)); exact BK303.out) hb); have n6_ := Zab.mk (Zal (by repeat (first | (with_reducible first | exact HB.out | apply Zac | apply Zaa | apply Zad | refine Zae ?_ GE303.out) | exact HB.out)) hb); clear HO302; clear HO306; clear HO310; clear HO316; clear HO321; clear BK303; clear HB; have HO302 := n0_; have HO306 := n1_; have HO310 := n2_; have HO316 := n3_; have HO321 := n4_; have BK303 := n5_; have HB := n6_; clear n0_ n1_ n2_ n3_ n4_ n5_ n6_; (try clear hb); (try clear hb2); (try clear hk); (try clear hi); obtain ⟨Ao41, co41, eo41⟩ := Kd.R_slice HO321.out; subst eo41; have hcz42_0 : w40.cell? ⟨gb303, 0, none⟩ = some (.int .i64 t299) := (Zaj BK303.out 0).trans rfl; have hcz42_1 : w40.cell? ⟨gb303, 1, none⟩ = some (.slice Ao15 t300.length co15) := (Zaj BK303.out 1).trans rfl; have hfz42_0 := Zah BK303.out 0; have hfz42_1 := Zah BK303.out 1)); try go_wp2_with (first | (go_at_call 22; (with_reducible refine (Zau.calls k t299 _ _ t300 _ _ t304 true _ ?side1 ?side2 ?side3 ?side4 A31.out).mono ?_); (case side1 => repeat (first | exact (Kd.R_reads' HO302.out).2.2 | (with_reducible refine Kd.C_alloc ?_ _) | (with_reducible refine Kd.C_drewN ?_ _) | (with_reducible refine Kd.C_drew ?_))); (case side2 => exact (Kd.R_reads' HO302.out).2.1); (case side3 => repeat (first | exact (Kd.R_reads' HO306.out).2.2 | (with_reducible refine Kd.C_alloc ?_ _) | (with_reducible refine Kd.C_drewN ?_ _) | (with_reducible refine Kd.C_drew ?_))); (case side4 => exact (Kd.R_reads' HO306.out).2.1); rintro e w37 ⟨rfl, hb⟩; have n0_ := Zab.mk (Kd.R_below (by (with_reducible repeat (first | apply Kd.R_alloc | apply Kd.R_drewN | apply Kd.R_drew)); exact HO302.out) hb); have n1_ := Zab.mk (Kd.R_below (by (with_reducible repeat (first | apply Kd.R_alloc | apply Kd.R_drewN | apply Kd.R_drew)); exact HO306.out) hb); have n2_ := Zab.mk (Kd.R_below (by (with_reducible repeat (first | apply Kd.R_alloc | apply Kd.R_drewN | apply Kd.R_drew)); exact HO310.out) hb); have n3_ := Zab.mk (Kd.R_below (by (with_reducible repeat (first | apply Kd.R_alloc | apply Kd.R_drewN | apply Kd.R_drew)); exact HO316.out) hb); have n4_ := Zab.mk (Kd.R_below (by (with_reducible repeat (first | apply Kd.R_alloc | apply Kd.R_drewN | apply Kd.R_drew)); exact HO321.out) hb); have n5_ := Zab.mk (Zao (g := gb303) (o := .cells #[.int .i64 t299, .slice Ao15 t300.length co15] 28 (0, 0)) (by (with_reducible repeat (first | refine Zag ?_ _ | refine Zak ?_ | refine Zaf ?_ _)); exact BK303.out) hb); have n6_ := Zab.mk (Zal (by repeat (first | (with_reducible first | exact HB.out | apply Zac | apply Zaa | apply Zad | refine Zae ?_ GE303.out) | exact HB.out)) hb); clear HO302; clear HO306; clear HO310; clear HO316; clear HO321; clear BK303; clear HB; have HO302 := n0_; have HO306 := n1_; have HO310 := n2_; have HO316 := n3_; have HO321 := n4_; have BK303 := n5_; have HB := n6_; clear n0_ n1_ n2_ n3_ n4_ n5_ n6_; (try clear hb); (try clear hb2); (try clear hk); (try clear hi); have hcz38_0 : w37.cell? ⟨gb303, 0, none⟩ = some (.int .i64 t299) := (Zaj BK303.out 0).trans rfl; have hcz38_1 : w37.cell? ⟨gb303, 1, none⟩ = some (.slice Ao15 t300.length co15) := (Zaj BK303.out 1).trans rfl; have hfz38_0 := Zah BK303.out 0; have hfz38_1 := Zah BK303.out 1; obtain ⟨Ao39, co39, eo39⟩ := Kd.R_slice HO316.out; subst eo39) | (go_at_call 23; (with_reducible refine (Zan.calls k t299 _ _ t300 _ _ t314 true _ ?side1 ?side2 ?side3 ?side4 A33.out).mono ?_); (case side1 => repeat (first | exact (Kd.R_reads' HO302.out).2.2 | (with_reducible refine Kd.C_alloc ?_ _) | (with_reducible refine Kd.C_drewN ?_ _) | (with_reducible refine Kd.C_drew ?_))); (case side2 => exact (Kd.R_reads' HO302.out).2.1); (case side3 => repeat (first | exact (Kd.R_reads' HO316.out).2.2 | (with_reducible refine Kd.C_alloc ?_ _) | (with_reducible refine Kd.C_drewN ?_ _) | (with_reducible refine Kd.C_drew ?_))); (case side4 => exact (Kd.R_reads' HO316.out).2.1); rintro e w40 ⟨rfl, hb⟩; have n0_ := Zab.mk (Kd.R_below (by (with_reducible repeat (first | apply Kd.R_alloc | apply Kd.R_drewN | apply Kd.R_drew)); exact HO302.out) hb); have n1_ := Zab.mk (Kd.R_below (by (with_reducible repeat (first | apply Kd.R_alloc | apply Kd.R_drewN | apply Kd.R_drew)); exact HO306.out) hb); have n2_ := Zab.mk (Kd.R_below (by (with_reducible repeat (first | apply Kd.R_alloc | apply Kd.R_drewN | apply Kd.R_drew)); exact HO310.out) hb); have n3_ := Zab.mk (Kd.R_below (by (with_reducible repeat (first | apply Kd.R_alloc | apply Kd.R_drewN | apply Kd.R_drew)); exact HO316.out) hb); have n4_ := Zab.mk (Kd.R_below (by (with_reducible repeat (first | apply Kd.R_alloc | apply Kd.R_drewN | apply Kd.R_drew)); exact HO321.out) hb); have n5_ := Zab.mk (Zao (g := gb303) (o := .cells #[.int .i64 t299, .slice Ao15 t300.length co15] 28 (0, 0)) (by (with_reducible repeat (first | refine Zag ?_ _ | refine Zak ?_ | refine Zaf ?_ _)); exact BK303.out) hb); have n6_ := Zab.mk (Zal (by repeat (first | (with_reducible first | exact HB.out | apply Zac | apply Zaa | apply Zad | refine Zae ?_ GE303.out) | exact HB.out)) hb); clear HO302; clear HO306; clear HO310; clear HO316; clear HO321; clear BK303; clear HB; have HO302 := n0_; have HO306 := n1_; have HO310 := n2_; have HO316 := n3_; have HO321 := n4_; have BK303 := n5_; have HB := n6_; clear n0_ n1_ n2_ n3_ n4_ n5_ n6_; (try clear hb); (try clear hb2); (try clear hk); (try clear hi); obtain ⟨Ao41, co41, eo41⟩ := Kd.R_slice HO321.out; subst eo41; have hcz42_0 : w40.cell? ⟨gb303, 0, none⟩ = some (.int .i64 t299) := (Zaj BK303.out 0).trans rfl; have hcz42_1 : w40.cell? ⟨gb303, 1, none⟩ = some (.slice Ao15 t300.length co15) := (Zaj BK303.out 1).trans rfl; have hfz42_0 := Zah BK303.out 0; have hfz42_1 := Zah BK303.out 1)))
           go_meet
           case rel => exact ⟨_, (((t319.length : Int) != (t300.length : Int))), (by first | rfl | (simp; done) | (simp [*]; done) | (simp [IntWalk.i64_left, *]; done)), H', ⟨by first | omega | exact Nat.le_refl _⟩, ⟨by (with_reducible repeat (first | apply Kd.R_alloc | apply Kd.R_drewN | apply Kd.R_drew)); exact Kd.R_mono HO316.out (fun _ hk => ⟨hk.2, hk.1.1.1.2⟩)⟩, ⟨by (with_reducible repeat (first | apply Kd.R_alloc | apply Kd.R_drewN | apply Kd.R_drew)); exact Kd.R_mono HO321.out (fun _ hk => ⟨hk.2, hk.1.1.1.2⟩)⟩, ⟨by (with_reducible repeat (first | apply Kd.R_alloc | apply Kd.R_drewN | apply Kd.R_drew)); exact Kd.R_mono HO302.out (fun _ hk => ⟨hk.1.2, hk.2⟩)⟩, ⟨by (with_reducible repeat (first | refine Zag ?_ _ | refine Zak ?_ | refine Zaf ?_ _)); exact BK303.out⟩, ⟨by repeat (first | (with_reducible first | exact HB.out | apply Zac | apply Zaa | apply Zad | refine Zae ?_ GE303.out) | exact HB.out)⟩⟩
         ·replace c34 := Bool.eq_false_iff.mpr c34
          subst c34
          have H1 : (laws_FnRunning.j0 k t312 t314 t317 t319 true t299 t300) = some r := by rw [if_neg (show ¬ (false = true) by decide)] at H; exact H
          clear H
          have H := H1
          clear H1
          have H' := Zab.mk H
          clear H
          have hcz43_0 : w25.cell? ⟨gb303, 0, none⟩ = some (.int .i64 t299) := (Zaj BK303.out 0).trans rfl
          have hcz43_1 : w25.cell? ⟨gb303, 1, none⟩ = some (.slice Ao15 t300.length co15) := (Zaj BK303.out 1).trans rfl
          have hfz43_0 := Zah BK303.out 0
          have hfz43_1 := Zah BK303.out 1
          obtain ⟨Ao44, co44, eo44⟩ := Kd.R_slice HO306.out
          subst eo44
          as_aux_lemma =>
           go_wp2_with (first | (go_at_call 22; (with_reducible refine (Zau.calls k t299 _ _ t300 _ _ t304 true _ ?side1 ?side2 ?side3 ?side4 A31.out).mono ?_); (case side1 => repeat (first | exact (Kd.R_reads' HO302.out).2.2 | (with_reducible refine Kd.C_alloc ?_ _) | (with_reducible refine Kd.C_drewN ?_ _) | (with_reducible refine Kd.C_drew ?_))); (case side2 => exact (Kd.R_reads' HO302.out).2.1); (case side3 => repeat (first | exact (Kd.R_reads' HO306.out).2.2 | (with_reducible refine Kd.C_alloc ?_ _) | (with_reducible refine Kd.C_drewN ?_ _) | (with_reducible refine Kd.C_drew ?_))); (case side4 => exact (Kd.R_reads' HO306.out).2.1); rintro e w45 ⟨rfl, hb⟩; have n0_ := Zab.mk (Kd.R_below (by (with_reducible repeat (first | apply Kd.R_alloc | apply Kd.R_drewN | apply Kd.R_drew)); exact HO302.out) hb); have n1_ := Zab.mk (Kd.R_below (by (with_reducible repeat (first | apply Kd.R_alloc | apply Kd.R_drewN | apply Kd.R_drew)); exact HO306.out) hb); have n2_ := Zab.mk (Kd.R_below (by (with_reducible repeat (first | apply Kd.R_alloc | apply Kd.R_drewN | apply Kd.R_drew)); exact HO310.out) hb); have n3_ := Zab.mk (Kd.R_below (by (with_reducible repeat (first | apply Kd.R_alloc | apply Kd.R_drewN | apply Kd.R_drew)); exact HO316.out) hb); have n4_ := Zab.mk (Kd.R_below (by (with_reducible repeat (first | apply Kd.R_alloc | apply Kd.R_drewN | apply Kd.R_drew)); exact HO321.out) hb); have n5_ := Zab.mk (Zao (g := gb303) (o := .cells #[.int .i64 t299, .slice Ao15 t300.length co15] 28 (0, 0)) (by (with_reducible repeat (first | refine Zag ?_ _ | refine Zak ?_ | refine Zaf ?_ _)); exact BK303.out) hb); have n6_ := Zab.mk (Zal (by repeat (first | (with_reducible first | exact HB.out | apply Zac | apply Zaa | apply Zad | refine Zae ?_ GE303.out) | exact HB.out)) hb); clear HO302; clear HO306; clear HO310; clear HO316; clear HO321; clear BK303; clear HB; have HO302 := n0_; have HO306 := n1_; have HO310 := n2_; have HO316 := n3_; have HO321 := n4_; have BK303 := n5_; have HB := n6_; clear n0_ n1_ n2_ n3_ n4_ n5_ n6_; (try clear hb); (try clear hb2); (try clear hk); (try clear hi); have hcz46_0 : w45.cell? ⟨gb303, 0, none⟩ = some (.int .i64 t299) := (Zaj BK303.out 0).trans rfl; have hcz46_1 : w45.cell? ⟨gb303, 1, none⟩ = some (.slice Ao15 t300.length co15) := (Zaj BK303.out 1).trans rfl; have hfz46_0 := Zah BK303.out 0; have hfz46_1 := Zah BK303.out 1; obtain ⟨Ao47, co47, eo47⟩ := Kd.R_slice HO316.out; subst eo47) | (go_at_call 23; (with_reducible refine (Zan.calls k t299 _ _ t300 _ _ t314 false _ ?side1 ?side2 ?side3 ?side4 A33.out).mono ?_); (case side1 => repeat (first | exact (Kd.R_reads' HO302.out).2.2 | (with_reducible refine Kd.C_alloc ?_ _) | (with_reducible refine Kd.C_drewN ?_ _) | (with_reducible refine Kd.C_drew ?_))); (case side2 => exact (Kd.R_reads' HO302.out).2.1); (case side3 => repeat (first | exact (Kd.R_reads' HO316.out).2.2 | (with_reducible refine Kd.C_alloc ?_ _) | (with_reducible refine Kd.C_drewN ?_ _) | (with_reducible refine Kd.C_drew ?_))); (case side4 => exact (Kd.R_reads' HO316.out).2.1); rintro e w48 ⟨rfl, hb⟩; have n0_ := Zab.mk (Kd.R_below (by (with_reducible repeat (first | apply Kd.R_alloc | apply Kd.R_drewN | apply Kd.R_drew)); exact HO302.out) hb); have n1_ := Zab.mk (Kd.R_below (by (with_reducible repeat (first | apply Kd.R_alloc | apply Kd.R_drewN | apply Kd.R_drew)); exact HO306.out) hb); have n2_ := Zab.mk (Kd.R_below (by (with_reducible repeat (first | apply Kd.R_alloc | apply Kd.R_drewN | apply Kd.R_drew)); exact HO310.out) hb); have n3_ := Zab.mk (Kd.R_below (by (with_reducible repeat (first | apply Kd.R_alloc | apply Kd.R_drewN | apply Kd.R_drew)); exact HO316.out) hb); have n4_ := Zab.mk (Kd.R_below (by (with_reducible repeat (first | apply Kd.R_alloc | apply Kd.R_drewN | apply Kd.R_drew)); exact HO321.out) hb); have n5_ := Zab.mk (Zao (g := gb303) (o := .cells #[.int .i64 t299, .slice Ao15 t300.length co15] 28 (0, 0)) (by (with_reducible repeat (first | refine Zag ?_ _ | refine Zak ?_ | refine Zaf ?_ _)); exact BK303.out) hb); have n6_ := Zab.mk (Zal (by repeat (first | (with_reducible first | exact HB.out | apply Zac | apply Zaa | apply Zad | refine Zae ?_ GE303.out) | exact HB.out)) hb); clear HO302; clear HO306; clear HO310; clear HO316; clear HO321; clear BK303; clear HB; have HO302 := n0_; have HO306 := n1_; have HO310 := n2_; have HO316 := n3_; have HO321 := n4_; have BK303 := n5_; have HB := n6_; clear n0_ n1_ n2_ n3_ n4_ n5_ n6_; (try clear hb); (try clear hb2); (try clear hk); (try clear hi)))
           repeat (go_quiet (first | (go_at_call 22; (with_reducible refine (Zau.calls k t299 _ _ t300 _ _ t304 true _ ?side1 ?side2 ?side3 ?side4 A31.out).mono ?_); (case side1 => repeat (first | exact (Kd.R_reads' HO302.out).2.2 | (with_reducible refine Kd.C_alloc ?_ _) | (with_reducible refine Kd.C_drewN ?_ _) | (with_reducible refine Kd.C_drew ?_))); (case side2 => exact (Kd.R_reads' HO302.out).2.1); (case side3 => repeat (first | exact (Kd.R_reads' HO306.out).2.2 | (with_reducible refine Kd.C_alloc ?_ _) | (with_reducible refine Kd.C_drewN ?_ _) | (with_reducible refine Kd.C_drew ?_))); (case side4 => exact (Kd.R_reads' HO306.out).2.1); rintro e w45 ⟨rfl, hb⟩; have n0_ := Zab.mk (Kd.R_below (by (with_reducible repeat (first | apply Kd.R_alloc | apply Kd.R_drewN | apply Kd.R_drew)); exact HO302.out) hb); have n1_ := Zab.mk (Kd.R_below (by (with_reducible repeat (first | apply Kd.R_alloc | apply Kd.R_drewN | apply Kd.R_drew)); exact HO306.out) hb); have n2_ := Zab.mk (Kd.R_below (by (with_reducible repeat (first | apply Kd.R_alloc | apply Kd.R_drewN | apply Kd.R_drew)); exact HO310.out) hb); have n3_ := Zab.mk (Kd.R_below (by (with_reducible repeat (first | apply Kd.R_alloc | apply Kd.R_drewN | apply Kd.R_drew)); exact HO316.out) hb); have n4_ := Zab.mk (Kd.R_below (by (with_reducible repeat (first | apply Kd.R_alloc | apply Kd.R_drewN | apply Kd.R_drew)); exact HO321.out) hb); have n5_ := Zab.mk (Zao (g := gb303) (o := .cells #[.int .i64 t299, .slice Ao15 t300.length co15] 28 (0, 0)) (by (with_reducible repeat (first | refine Zag ?_ _ | refine Zak ?_ | refine Zaf ?_ _)); exact BK303.out) hb); have n6_ := Zab.mk (Zal (by repeat (first | (with_reducible first | exact HB.out | apply Zac | apply Zaa | apply Zad | refine Zae ?_ GE303.out) | exact HB.out)) hb); clear HO302; clear HO306; clear HO310; clear HO316; clear HO321; clear BK303; clear HB; have HO302 := n0_; have HO306 := n1_; have HO310 := n2_; have HO316 := n3_; have HO321 := n4_; have BK303 := n5_; have HB := n6_; clear n0_ n1_ n2_ n3_ n4_ n5_ n6_; (try clear hb); (try clear hb2); (try clear hk); (try clear hi); have hcz46_0 : w45.cell? ⟨gb303, 0, none⟩ = some (.int .i64 t299) := (Zaj BK303.out 0).trans rfl; have hcz46_1 : w45.cell? ⟨gb303, 1, none⟩ = some (.slice Ao15 t300.length co15) := (Zaj BK303.out 1).trans rfl; have hfz46_0 := Zah BK303.out 0; have hfz46_1 := Zah BK303.out 1; obtain ⟨Ao47, co47, eo47⟩ := Kd.R_slice HO316.out; subst eo47) | (go_at_call 23; (with_reducible refine (Zan.calls k t299 _ _ t300 _ _ t314 false _ ?side1 ?side2 ?side3 ?side4 A33.out).mono ?_); (case side1 => repeat (first | exact (Kd.R_reads' HO302.out).2.2 | (with_reducible refine Kd.C_alloc ?_ _) | (with_reducible refine Kd.C_drewN ?_ _) | (with_reducible refine Kd.C_drew ?_))); (case side2 => exact (Kd.R_reads' HO302.out).2.1); (case side3 => repeat (first | exact (Kd.R_reads' HO316.out).2.2 | (with_reducible refine Kd.C_alloc ?_ _) | (with_reducible refine Kd.C_drewN ?_ _) | (with_reducible refine Kd.C_drew ?_))); (case side4 => exact (Kd.R_reads' HO316.out).2.1); rintro e w48 ⟨rfl, hb⟩; have n0_ := Zab.mk (Kd.R_below (by (with_reducible repeat (first | apply Kd.R_alloc | apply Kd.R_drewN | apply Kd.R_drew)); exact HO302.out) hb); have n1_ := Zab.mk (Kd.R_below (by (with_reducible repeat (first | apply Kd.R_alloc | apply Kd.R_drewN | apply Kd.R_drew)); exact HO306.out) hb); have n2_ := Zab.mk (Kd.R_below (by (with_reducible repeat (first | apply Kd.R_alloc | apply Kd.R_drewN | apply Kd.R_drew)); exact HO310.out) hb); have n3_ := Zab.mk (Kd.R_below (by (with_reducible repeat (first | apply Kd.R_alloc | apply Kd.R_drewN | apply Kd.R_drew)); exact HO316.out) hb); have n4_ := Zab.mk (Kd.R_below (by (with_reducible repeat (first | apply Kd.R_alloc | apply Kd.R_drewN | apply Kd.R_drew)); exact HO321.out) hb); have n5_ := Zab.mk (Zao (g := gb303) (o := .cells #[.int .i64 t299, .slice Ao15 t300.length co15] 28 (0, 0)) (by (with_reducible repeat (first | refine Zag ?_ _ | refine Zak ?_ | refine Zaf ?_ _)); exact BK303.out) hb); have n6_ := Zab.mk (Zal (by repeat (first | (with_reducible first | exact HB.out | apply Zac | apply Zaa | apply Zad | refine Zae ?_ GE303.out) | exact HB.out)) hb); clear HO302; clear HO306; clear HO310; clear HO316; clear HO321; clear BK303; clear HB; have HO302 := n0_; have HO306 := n1_; have HO310 := n2_; have HO316 := n3_; have HO321 := n4_; have BK303 := n5_; have HB := n6_; clear n0_ n1_ n2_ n3_ n4_ n5_ n6_; (try clear hb); (try clear hb2); (try clear hk); (try clear hi))); try go_wp2_with (first | (go_at_call 22; (with_reducible refine (Zau.calls k t299 _ _ t300 _ _ t304 true _ ?side1 ?side2 ?side3 ?side4 A31.out).mono ?_); (case side1 => repeat (first | exact (Kd.R_reads' HO302.out).2.2 | (with_reducible refine Kd.C_alloc ?_ _) | (with_reducible refine Kd.C_drewN ?_ _) | (with_reducible refine Kd.C_drew ?_))); (case side2 => exact (Kd.R_reads' HO302.out).2.1); (case side3 => repeat (first | exact (Kd.R_reads' HO306.out).2.2 | (with_reducible refine Kd.C_alloc ?_ _) | (with_reducible refine Kd.C_drewN ?_ _) | (with_reducible refine Kd.C_drew ?_))); (case side4 => exact (Kd.R_reads' HO306.out).2.1); rintro e w45 ⟨rfl, hb⟩; have n0_ := Zab.mk (Kd.R_below (by (with_reducible repeat (first | apply Kd.R_alloc | apply Kd.R_drewN | apply Kd.R_drew)); exact HO302.out) hb); have n1_ := Zab.mk (Kd.R_below (by (with_reducible repeat (first | apply Kd.R_alloc | apply Kd.R_drewN | apply Kd.R_drew)); exact HO306.out) hb); have n2_ := Zab.mk (Kd.R_below (by (with_reducible repeat (first | apply Kd.R_alloc | apply Kd.R_drewN | apply Kd.R_drew)); exact HO310.out) hb); have n3_ := Zab.mk (Kd.R_below (by (with_reducible repeat (first | apply Kd.R_alloc | apply Kd.R_drewN | apply Kd.R_drew)); exact HO316.out) hb); have n4_ := Zab.mk (Kd.R_below (by (with_reducible repeat (first | apply Kd.R_alloc | apply Kd.R_drewN | apply Kd.R_drew)); exact HO321.out) hb); have n5_ := Zab.mk (Zao (g := gb303) (o := .cells #[.int .i64 t299, .slice Ao15 t300.length co15] 28 (0, 0)) (by (with_reducible repeat (first | refine Zag ?_ _ | refine Zak ?_ | refine Zaf ?_ _)); exact BK303.out) hb); have n6_ := Zab.mk (Zal (by repeat (first | (with_reducible first | exact HB.out | apply Zac | apply Zaa | apply Zad | refine Zae ?_ GE303.out) | exact HB.out)) hb); clear HO302; clear HO306; clear HO310; clear HO316; clear HO321; clear BK303; clear HB; have HO302 := n0_; have HO306 := n1_; have HO310 := n2_; have HO316 := n3_; have HO321 := n4_; have BK303 := n5_; have HB := n6_; clear n0_ n1_ n2_ n3_ n4_ n5_ n6_; (try clear hb); (try clear hb2); (try clear hk); (try clear hi); have hcz46_0 : w45.cell? ⟨gb303, 0, none⟩ = some (.int .i64 t299) := (Zaj BK303.out 0).trans rfl; have hcz46_1 : w45.cell? ⟨gb303, 1, none⟩ = some (.slice Ao15 t300.length co15) := (Zaj BK303.out 1).trans rfl; have hfz46_0 := Zah BK303.out 0; have hfz46_1 := Zah BK303.out 1; obtain ⟨Ao47, co47, eo47⟩ := Kd.R_slice HO316.out; subst eo47) | (go_at_call 23; (with_reducible refine (Zan.calls k t299 _ _ t300 _ _ t314 false _ ?side1 ?side2 ?side3 ?side4 A33.out).mono ?_); (case side1 => repeat (first | exact (Kd.R_reads' HO302.out).2.2 | (with_reducible refine Kd.C_alloc ?_ _) | (with_reducible refine Kd.C_drewN ?_ _) | (with_reducible refine Kd.C_drew ?_))); (case side2 => exact (Kd.R_reads' HO302.out).2.1); (case side3 => repeat (first | exact (Kd.R_reads' HO316.out).2.2 | (with_reducible refine Kd.C_alloc ?_ _) | (with_reducible refine Kd.C_drewN ?_ _) | (with_reducible refine Kd.C_drew ?_))); (case side4 => exact (Kd.R_reads' HO316.out).2.1); rintro e w48 ⟨rfl, hb⟩; have n0_ := Zab.mk (Kd.R_below (by (with_reducible repeat (first | apply Kd.R_alloc | apply Kd.R_drewN | apply Kd.R_drew)); exact HO302.out) hb); have n1_ := Zab.mk (Kd.R_below (by (with_reducible repeat (first | apply Kd.R_alloc | apply Kd.R_drewN | apply Kd.R_drew)); exact HO306.out) hb); have n2_ := Zab.mk (Kd.R_below (by (with_reducible repeat (first | apply Kd.R_alloc | apply Kd.R_drewN | apply Kd.R_drew)); exact HO310.out) hb); have n3_ := Zab.mk (Kd.R_below (by (with_reducible repeat (first | apply Kd.R_alloc | apply Kd.R_drewN | apply Kd.R_drew)); exact HO316.out) hb); have n4_ := Zab.mk (Kd.R_below (by (with_reducible repeat (first | apply Kd.R_alloc | apply Kd.R_drewN | apply Kd.R_drew)); exact HO321.out) hb); have n5_ := Zab.mk (Zao (g := gb303) (o := .cells #[.int .i64 t299, .slice Ao15 t300.length co15] 28 (0, 0)) (by (with_reducible repeat (first | refine Zag ?_ _ | refine Zak ?_ | refine Zaf ?_ _)); exact BK303.out) hb); have n6_ := Zab.mk (Zal (by repeat (first | (with_reducible first | exact HB.out | apply Zac | apply Zaa | apply Zad | refine Zae ?_ GE303.out) | exact HB.out)) hb); clear HO302; clear HO306; clear HO310; clear HO316; clear HO321; clear BK303; clear HB; have HO302 := n0_; have HO306 := n1_; have HO310 := n2_; have HO316 := n3_; have HO321 := n4_; have BK303 := n5_; have HB := n6_; clear n0_ n1_ n2_ n3_ n4_ n5_ n6_; (try clear hb); (try clear hb2); (try clear hk); (try clear hi))))
           go_meet
           case rel => exact ⟨_, (true), (by first | rfl | (simp; done) | (simp [*]; done) | (simp [IntWalk.i64_left, *]; done)), H', ⟨by first | omega | exact Nat.le_refl _⟩, ⟨by (with_reducible repeat (first | apply Kd.R_alloc | apply Kd.R_drewN | apply Kd.R_drew)); exact Kd.R_mono HO316.out (fun _ hk => ⟨hk.2, hk.1.1.1.2⟩)⟩, ⟨by (with_reducible repeat (first | apply Kd.R_alloc | apply Kd.R_drewN | apply Kd.R_drew)); exact Kd.R_mono HO321.out (fun _ hk => ⟨hk.2, hk.1.1.1.2⟩)⟩, ⟨by (with_reducible repeat (first | apply Kd.R_alloc | apply Kd.R_drewN | apply Kd.R_drew)); exact Kd.R_mono HO302.out (fun _ hk => ⟨hk.1.2, hk.2⟩)⟩, ⟨by (with_reducible repeat (first | refine Zag ?_ _ | refine Zak ?_ | refine Zaf ?_ _)); exact BK303.out⟩, ⟨by repeat (first | (with_reducible first | exact HB.out | apply Zac | apply Zaa | apply Zad | refine Zae ?_ GE303.out) | exact HB.out)⟩⟩
        ·replace c32 := Bool.eq_false_iff.mpr c32
         subst c32
         have H1 : (laws_FnRunning.j0 k t312 t314 t317 t319 true t299 t300) = some r := by rw [if_neg (show ¬ (false = true) by decide)] at H; exact H
         clear H
         have H := H1
         clear H1
         have H' := Zab.mk H
         clear H
         have hcz49_0 : w25.cell? ⟨gb303, 0, none⟩ = some (.int .i64 t299) := (Zaj BK303.out 0).trans rfl
         have hcz49_1 : w25.cell? ⟨gb303, 1, none⟩ = some (.slice Ao15 t300.length co15) := (Zaj BK303.out 1).trans rfl
         have hfz49_0 := Zah BK303.out 0
         have hfz49_1 := Zah BK303.out 1
         obtain ⟨Ao50, co50, eo50⟩ := Kd.R_slice HO306.out
         subst eo50
         as_aux_lemma =>
          go_wp2_with (first | (go_at_call 22; (with_reducible refine (Zau.calls k t299 _ _ t300 _ _ t304 false _ ?side1 ?side2 ?side3 ?side4 A31.out).mono ?_); (case side1 => repeat (first | exact (Kd.R_reads' HO302.out).2.2 | (with_reducible refine Kd.C_alloc ?_ _) | (with_reducible refine Kd.C_drewN ?_ _) | (with_reducible refine Kd.C_drew ?_))); (case side2 => exact (Kd.R_reads' HO302.out).2.1); (case side3 => repeat (first | exact (Kd.R_reads' HO306.out).2.2 | (with_reducible refine Kd.C_alloc ?_ _) | (with_reducible refine Kd.C_drewN ?_ _) | (with_reducible refine Kd.C_drew ?_))); (case side4 => exact (Kd.R_reads' HO306.out).2.1); rintro e w51 ⟨rfl, hb⟩; have n0_ := Zab.mk (Kd.R_below (by (with_reducible repeat (first | apply Kd.R_alloc | apply Kd.R_drewN | apply Kd.R_drew)); exact HO302.out) hb); have n1_ := Zab.mk (Kd.R_below (by (with_reducible repeat (first | apply Kd.R_alloc | apply Kd.R_drewN | apply Kd.R_drew)); exact HO306.out) hb); have n2_ := Zab.mk (Kd.R_below (by (with_reducible repeat (first | apply Kd.R_alloc | apply Kd.R_drewN | apply Kd.R_drew)); exact HO310.out) hb); have n3_ := Zab.mk (Kd.R_below (by (with_reducible repeat (first | apply Kd.R_alloc | apply Kd.R_drewN | apply Kd.R_drew)); exact HO316.out) hb); have n4_ := Zab.mk (Kd.R_below (by (with_reducible repeat (first | apply Kd.R_alloc | apply Kd.R_drewN | apply Kd.R_drew)); exact HO321.out) hb); have n5_ := Zab.mk (Zao (g := gb303) (o := .cells #[.int .i64 t299, .slice Ao15 t300.length co15] 28 (0, 0)) (by (with_reducible repeat (first | refine Zag ?_ _ | refine Zak ?_ | refine Zaf ?_ _)); exact BK303.out) hb); have n6_ := Zab.mk (Zal (by repeat (first | (with_reducible first | exact HB.out | apply Zac | apply Zaa | apply Zad | refine Zae ?_ GE303.out) | exact HB.out)) hb); clear HO302; clear HO306; clear HO310; clear HO316; clear HO321; clear BK303; clear HB; have HO302 := n0_; have HO306 := n1_; have HO310 := n2_; have HO316 := n3_; have HO321 := n4_; have BK303 := n5_; have HB := n6_; clear n0_ n1_ n2_ n3_ n4_ n5_ n6_; (try clear hb); (try clear hb2); (try clear hk); (try clear hi)))
          repeat (go_quiet (first | (go_at_call 22; (with_reducible refine (Zau.calls k t299 _ _ t300 _ _ t304 false _ ?side1 ?side2 ?side3 ?side4 A31.out).mono ?_); (case side1 => repeat (first | exact (Kd.R_reads' HO302.out).2.2 | (with_reducible refine Kd.C_alloc ?_ _) | (with_reducible refine Kd.C_drewN ?_ _) | (with_reducible refine Kd.C_drew ?_))); (case side2 => exact (Kd.R_reads' HO302.out).2.1); (case side3 => repeat (first | exact (Kd.R_reads' HO306.out).2.2 | (with_reducible refine Kd.C_alloc ?_ _) | (with_reducible refine Kd.C_drewN ?_ _) | (with_reducible refine Kd.C_drew ?_))); (case side4 => exact (Kd.R_reads' HO306.out).2.1); rintro e w51 ⟨rfl, hb⟩; have n0_ := Zab.mk (Kd.R_below (by (with_reducible repeat (first | apply Kd.R_alloc | apply Kd.R_drewN | apply Kd.R_drew)); exact HO302.out) hb); have n1_ := Zab.mk (Kd.R_below (by (with_reducible repeat (first | apply Kd.R_alloc | apply Kd.R_drewN | apply Kd.R_drew)); exact HO306.out) hb); have n2_ := Zab.mk (Kd.R_below (by (with_reducible repeat (first | apply Kd.R_alloc | apply Kd.R_drewN | apply Kd.R_drew)); exact HO310.out) hb); have n3_ := Zab.mk (Kd.R_below (by (with_reducible repeat (first | apply Kd.R_alloc | apply Kd.R_drewN | apply Kd.R_drew)); exact HO316.out) hb); have n4_ := Zab.mk (Kd.R_below (by (with_reducible repeat (first | apply Kd.R_alloc | apply Kd.R_drewN | apply Kd.R_drew)); exact HO321.out) hb); have n5_ := Zab.mk (Zao (g := gb303) (o := .cells #[.int .i64 t299, .slice Ao15 t300.length co15] 28 (0, 0)) (by (with_reducible repeat (first | refine Zag ?_ _ | refine Zak ?_ | refine Zaf ?_ _)); exact BK303.out) hb); have n6_ := Zab.mk (Zal (by repeat (first | (with_reducible first | exact HB.out | apply Zac | apply Zaa | apply Zad | refine Zae ?_ GE303.out) | exact HB.out)) hb); clear HO302; clear HO306; clear HO310; clear HO316; clear HO321; clear BK303; clear HB; have HO302 := n0_; have HO306 := n1_; have HO310 := n2_; have HO316 := n3_; have HO321 := n4_; have BK303 := n5_; have HB := n6_; clear n0_ n1_ n2_ n3_ n4_ n5_ n6_; (try clear hb); (try clear hb2); (try clear hk); (try clear hi))); try go_wp2_with (first | (go_at_call 22; (with_reducible refine (Zau.calls k t299 _ _ t300 _ _ t304 false _ ?side1 ?side2 ?side3 ?side4 A31.out).mono ?_); (case side1 => repeat (first | exact (Kd.R_reads' HO302.out).2.2 | (with_reducible refine Kd.C_alloc ?_ _) | (with_reducible refine Kd.C_drewN ?_ _) | (with_reducible refine Kd.C_drew ?_))); (case side2 => exact (Kd.R_reads' HO302.out).2.1); (case side3 => repeat (first | exact (Kd.R_reads' HO306.out).2.2 | (with_reducible refine Kd.C_alloc ?_ _) | (with_reducible refine Kd.C_drewN ?_ _) | (with_reducible refine Kd.C_drew ?_))); (case side4 => exact (Kd.R_reads' HO306.out).2.1); rintro e w51 ⟨rfl, hb⟩; have n0_ := Zab.mk (Kd.R_below (by (with_reducible repeat (first | apply Kd.R_alloc | apply Kd.R_drewN | apply Kd.R_drew)); exact HO302.out) hb); have n1_ := Zab.mk (Kd.R_below (by (with_reducible repeat (first | apply Kd.R_alloc | apply Kd.R_drewN | apply Kd.R_drew)); exact HO306.out) hb); have n2_ := Zab.mk (Kd.R_below (by (with_reducible repeat (first | apply Kd.R_alloc | apply Kd.R_drewN | apply Kd.R_drew)); exact HO310.out) hb); have n3_ := Zab.mk (Kd.R_below (by (with_reducible repeat (first | apply Kd.R_alloc | apply Kd.R_drewN | apply Kd.R_drew)); exact HO316.out) hb); have n4_ := Zab.mk (Kd.R_below (by (with_reducible repeat (first | apply Kd.R_alloc | apply Kd.R_drewN | apply Kd.R_drew)); exact HO321.out) hb); have n5_ := Zab.mk (Zao (g := gb303) (o := .cells #[.int .i64 t299, .slice Ao15 t300.length co15] 28 (0, 0)) (by (with_reducible repeat (first | refine Zag ?_ _ | refine Zak ?_ | refine Zaf ?_ _)); exact BK303.out) hb); have n6_ := Zab.mk (Zal (by repeat (first | (with_reducible first | exact HB.out | apply Zac | apply Zaa | apply Zad | refine Zae ?_ GE303.out) | exact HB.out)) hb); clear HO302; clear HO306; clear HO310; clear HO316; clear HO321; clear BK303; clear HB; have HO302 := n0_; have HO306 := n1_; have HO310 := n2_; have HO316 := n3_; have HO321 := n4_; have BK303 := n5_; have HB := n6_; clear n0_ n1_ n2_ n3_ n4_ n5_ n6_; (try clear hb); (try clear hb2); (try clear hk); (try clear hi))))
          go_meet
          case rel => exact ⟨_, (true), (by first | rfl | (simp; done) | (simp [*]; done) | (simp [IntWalk.i64_left, *]; done)), H', ⟨by first | omega | exact Nat.le_refl _⟩, ⟨by (with_reducible repeat (first | apply Kd.R_alloc | apply Kd.R_drewN | apply Kd.R_drew)); exact Kd.R_mono HO316.out (fun _ hk => ⟨hk.2, hk.1.1.1.2⟩)⟩, ⟨by (with_reducible repeat (first | apply Kd.R_alloc | apply Kd.R_drewN | apply Kd.R_drew)); exact Kd.R_mono HO321.out (fun _ hk => ⟨hk.2, hk.1.1.1.2⟩)⟩, ⟨by (with_reducible repeat (first | apply Kd.R_alloc | apply Kd.R_drewN | apply Kd.R_drew)); exact Kd.R_mono HO302.out (fun _ hk => ⟨hk.1.2, hk.2⟩)⟩, ⟨by (with_reducible repeat (first | refine Zag ?_ _ | refine Zak ?_ | refine Zaf ?_ _)); exact BK303.out⟩, ⟨by repeat (first | (with_reducible first | exact HB.out | apply Zac | apply Zaa | apply Zad | refine Zae ?_ GE303.out) | exact HB.out)⟩⟩
       ·replace c30 := Bool.eq_false_iff.mpr c30
        subst c30
        have H1 : (laws_FnRunning.j0 k t312 t314 t317 t319 true t299 t300) = some r := by rw [if_neg (show ¬ (false = true) by decide)] at H; exact H
        clear H
        have H := H1
        clear H1
        have H' := Zab.mk H
        clear H
        as_aux_lemma =>
         go_wp2
         repeat (go_quiet (fail); try go_wp2)
         go_meet
         case rel => exact ⟨_, (true), (by first | rfl | (simp; done) | (simp [*]; done) | (simp [IntWalk.i64_left, *]; done)), H', ⟨by first | omega | exact Nat.le_refl _⟩, ⟨by (with_reducible repeat (first | apply Kd.R_alloc | apply Kd.R_drewN | apply Kd.R_drew)); exact Kd.R_mono HO316.out (fun _ hk => ⟨hk.2, hk.1.1.1.2⟩)⟩, ⟨by (with_reducible repeat (first | apply Kd.R_alloc | apply Kd.R_drewN | apply Kd.R_drew)); exact Kd.R_mono HO321.out (fun _ hk => ⟨hk.2, hk.1.1.1.2⟩)⟩, ⟨by (with_reducible repeat (first | apply Kd.R_alloc | apply Kd.R_drewN | apply Kd.R_drew)); exact Kd.R_mono HO302.out (fun _ hk => ⟨hk.1.2, hk.2⟩)⟩, ⟨by (with_reducible repeat (first | refine Zag ?_ _ | refine Zak ?_ | refine Zaf ?_ _)); exact BK303.out⟩, ⟨by repeat (first | (with_reducible first | exact HB.out | apply Zac | apply Zaa | apply Zad | refine Zae ?_ GE303.out) | exact HB.out)⟩⟩
      ·replace c29 := Bool.eq_false_iff.mpr c29
       subst c29
       have H1 : (laws_FnRunning.j0 k t312 t314 t317 t319 true t299 t300) = some r := by rw [if_neg (show ¬ (false = true) by decide)] at H; exact H
       clear H
       have H := H1
       clear H1
       have H' := Zab.mk H
       clear H
       as_aux_lemma =>
        go_wp2
        repeat (go_quiet (fail); try go_wp2)
        go_meet
        case rel => exact ⟨_, (true), (by first | rfl | (simp; done) | (simp [*]; done) | (simp [IntWalk.i64_left, *]; done)), H', ⟨by first | omega | exact Nat.le_refl _⟩, ⟨by (with_reducible repeat (first | apply Kd.R_alloc | apply Kd.R_drewN | apply Kd.R_drew)); exact Kd.R_mono HO316.out (fun _ hk => ⟨hk.2, hk.1.1.1.2⟩)⟩, ⟨by (with_reducible repeat (first | apply Kd.R_alloc | apply Kd.R_drewN | apply Kd.R_drew)); exact Kd.R_mono HO321.out (fun _ hk => ⟨hk.2, hk.1.1.1.2⟩)⟩, ⟨by (with_reducible repeat (first | apply Kd.R_alloc | apply Kd.R_drewN | apply Kd.R_drew)); exact Kd.R_mono HO302.out (fun _ hk => ⟨hk.1.2, hk.2⟩)⟩, ⟨by (with_reducible repeat (first | refine Zag ?_ _ | refine Zak ?_ | refine Zaf ?_ _)); exact BK303.out⟩, ⟨by repeat (first | (with_reducible first | exact HB.out | apply Zac | apply Zaa | apply Zad | refine Zae ?_ GE303.out) | exact HB.out)⟩⟩
     ·replace c28 := Bool.eq_false_iff.mpr c28
      subst c28
      have H1 : (laws_FnRunning.j0 k t312 t314 t317 t319 true t299 t300) = some r := by rw [if_neg (show ¬ (false = true) by decide)] at H; exact H
      clear H
      have H := H1
      clear H1
      have H' := Zab.mk H
      clear H
      as_aux_lemma =>
       go_wp2
       repeat (go_quiet (fail); try go_wp2)
       go_meet
       case rel => exact ⟨_, (true), (by first | rfl | (simp; done) | (simp [*]; done) | (simp [IntWalk.i64_left, *]; done)), H', ⟨by first | omega | exact Nat.le_refl _⟩, ⟨by (with_reducible repeat (first | apply Kd.R_alloc | apply Kd.R_drewN | apply Kd.R_drew)); exact Kd.R_mono HO316.out (fun _ hk => ⟨hk.2, hk.1.1.1.2⟩)⟩, ⟨by (with_reducible repeat (first | apply Kd.R_alloc | apply Kd.R_drewN | apply Kd.R_drew)); exact Kd.R_mono HO321.out (fun _ hk => ⟨hk.2, hk.1.1.1.2⟩)⟩, ⟨by (with_reducible repeat (first | apply Kd.R_alloc | apply Kd.R_drewN | apply Kd.R_drew)); exact Kd.R_mono HO302.out (fun _ hk => ⟨hk.1.2, hk.2⟩)⟩, ⟨by (with_reducible repeat (first | refine Zag ?_ _ | refine Zak ?_ | refine Zaf ?_ _)); exact BK303.out⟩, ⟨by repeat (first | (with_reducible first | exact HB.out | apply Zac | apply Zaa | apply Zad | refine Zae ?_ GE303.out) | exact HB.out)⟩⟩
    ·replace c27 := Bool.eq_false_iff.mpr c27
     subst c27
     have H1 : (laws_FnRunning.j0 k t312 t314 t317 t319 true t299 t300) = some r := by rw [if_neg (show ¬ (false = true) by decide)] at H; exact H
     clear H
     have H := H1
     clear H1
     have H' := Zab.mk H
     clear H
     as_aux_lemma =>
      go_wp2
      repeat (go_quiet (fail); try go_wp2)
      go_meet
      case rel => exact ⟨_, (true), (by first | rfl | (simp; done) | (simp [*]; done) | (simp [IntWalk.i64_left, *]; done)), H', ⟨by first | omega | exact Nat.le_refl _⟩, ⟨by (with_reducible repeat (first | apply Kd.R_alloc | apply Kd.R_drewN | apply Kd.R_drew)); exact Kd.R_mono HO316.out (fun _ hk => ⟨hk.2, hk.1.1.1.2⟩)⟩, ⟨by (with_reducible repeat (first | apply Kd.R_alloc | apply Kd.R_drewN | apply Kd.R_drew)); exact Kd.R_mono HO321.out (fun _ hk => ⟨hk.2, hk.1.1.1.2⟩)⟩, ⟨by (with_reducible repeat (first | apply Kd.R_alloc | apply Kd.R_drewN | apply Kd.R_drew)); exact Kd.R_mono HO302.out (fun _ hk => ⟨hk.1.2, hk.2⟩)⟩, ⟨by (with_reducible repeat (first | refine Zag ?_ _ | refine Zak ?_ | refine Zaf ?_ _)); exact BK303.out⟩, ⟨by repeat (first | (with_reducible first | exact HB.out | apply Zac | apply Zaa | apply Zad | refine Zae ?_ GE303.out) | exact HB.out)⟩⟩
   ·replace c26 := Bool.eq_false_iff.mpr c26
    subst c26
    have H1 : (laws_FnRunning.j0 k t312 t314 t317 t319 true t299 t300) = some r := by rw [if_neg (show ¬ (false = true) by decide)] at H; exact H
    clear H
    have H := H1
    clear H1
    have H' := Zab.mk H
    clear H
    as_aux_lemma =>
     go_wp2
     repeat (go_quiet (fail); try go_wp2)
     go_meet
     case rel => exact ⟨_, (true), (by first | rfl | (simp; done) | (simp [*]; done) | (simp [IntWalk.i64_left, *]; done)), H', ⟨by first | omega | exact Nat.le_refl _⟩, ⟨by (with_reducible repeat (first | apply Kd.R_alloc | apply Kd.R_drewN | apply Kd.R_drew)); exact Kd.R_mono HO316.out (fun _ hk => ⟨hk.2, hk.1.1.1.2⟩)⟩, ⟨by (with_reducible repeat (first | apply Kd.R_alloc | apply Kd.R_drewN | apply Kd.R_drew)); exact Kd.R_mono HO321.out (fun _ hk => ⟨hk.2, hk.1.1.1.2⟩)⟩, ⟨by (with_reducible repeat (first | apply Kd.R_alloc | apply Kd.R_drewN | apply Kd.R_drew)); exact Kd.R_mono HO302.out (fun _ hk => ⟨hk.1.2, hk.2⟩)⟩, ⟨by (with_reducible repeat (first | refine Zag ?_ _ | refine Zak ?_ | refine Zaf ?_ _)); exact BK303.out⟩, ⟨by repeat (first | (with_reducible first | exact HB.out | apply Zac | apply Zaa | apply Zad | refine Zae ?_ GE303.out) | exact HB.out)⟩⟩
  case rest =>
   clear HC11
   try clear c1
   try clear c2
   try clear p2
   try clear c3
   try clear c4
   try clear c5
   try clear c26
   try clear c27
   try clear c28
   try clear c29
   try clear c30
   try clear c32
   try clear c34
   try clear hcz14_0
   try clear hcz14_1
   try clear hcz17_0
   try clear hcz17_1
   try clear hcz19_0
   try clear hcz19_1
   try clear hcz21_0
   try clear hcz21_1
   try clear hcz23_0
   try clear hcz23_1
   try clear hcz35_0
   try clear hcz35_1
   try clear hcz38_0
   try clear hcz38_1
   try clear hcz42_0
   try clear hcz42_1
   try clear hcz43_0
   try clear hcz43_1
   try clear hcz46_0
   try clear hcz46_1
   try clear hcz49_0
   try clear hcz49_1
   try clear hfz14_0
   try clear hfz14_1
   try clear hfz17_0
   try clear hfz17_1
   try clear hfz19_0
   try clear hfz19_1
   try clear hfz21_0
   try clear hfz21_1
   try clear hfz23_0
   try clear hfz23_1
   try clear hfz35_0
   try clear hfz35_1
   try clear hfz38_0
   try clear hfz38_1
   try clear hfz42_0
   try clear hfz42_1
   try clear hfz43_0
   try clear hfz43_1
   try clear hfz46_0
   try clear hfz46_1
   try clear hfz49_0
   try clear hfz49_1
   obtain ⟨kq, x97_10, rfl, HA, HJ10, HO_12, HO_15, HO_304001, BK303, HB⟩ := hcut
   cases kq with
   | zero => exact absurd HA.out (by simp [laws_FnRunning.j0])
   | succ kj10 =>
    have H := HA.out
    clear HA
    simp only [laws_FnRunning.j0] at H
    by_cases c52 : x97_10 = true
    ·subst c52
     have H1 : (some false) = some r := by rw [if_pos rfl] at H; exact H
     clear H
     have H := H1
     clear H1
     exact absurd ((Option.some.inj H).trans HT0_.out) (by decide)
    ·replace c52 := Bool.eq_false_iff.mpr c52
     subst c52
     have H1 : (laws_FnRunning.l0 kj10 t312 t314 t317 t319 0 t299 t300) = some r := by rw [if_neg (show ¬ (false = true) by decide)] at H; exact H
     clear H
     have H := H1
     clear H1
     have H' := Zab.mk H
     clear H
     go_wp2
     repeat (go_quiet (fail); try go_wp2)
     go_loopg [17] kj10 (fun kq v17 w' => ∃ (x17_2 : Int), v17 = .int .i64 x17_2 ∧ Zab (laws_FnRunning.l0 kq t312 t314 t317 t319 x17_2 t299 t300 = some r) ∧ Zab (kq ≤ kj10) ∧ Zab (Kd.R (Kd.int .i64) 2 w' w.heap.size (fun k_ => some k_ ≠ (v320 : Value).ownBlock ∧ some k_ ≠ ((.slice Ao15 t300.length co15) : Value).ownBlock) v315 t314) ∧ Zab (Kd.R (Kd.int .i64) 2 w' w.heap.size (fun k_ => some k_ ≠ (v315 : Value).ownBlock ∧ some k_ ≠ ((.slice Ao15 t300.length co15) : Value).ownBlock) v320 t319) ∧ Zab (Kd.R (Kd.int .i64) 2 w' w.heap.size (fun k_ => some k_ ≠ (v315 : Value).ownBlock ∧ some k_ ≠ (v320 : Value).ownBlock) (.slice Ao15 t300.length co15) t300) ∧ Zab (w'.heap[gb303]? = some (.cells #[.int .i64 t299, (.slice Ao15 t300.length co15)] 28 (0, 0))) ∧ Zab (Below w.heap.size w w'))
     case atStart => exact ⟨(0), (by first | rfl | (simp; done) | (simp [*]; done) | (simp [IntWalk.i64_left, *]; done)), H', ⟨Nat.le_refl _⟩, ⟨by (with_reducible repeat (first | apply Kd.R_alloc | apply Kd.R_drewN | apply Kd.R_drew)); exact HO_12.out⟩, ⟨by (with_reducible repeat (first | apply Kd.R_alloc | apply Kd.R_drewN | apply Kd.R_drew)); exact HO_15.out⟩, ⟨by (with_reducible repeat (first | apply Kd.R_alloc | apply Kd.R_drewN | apply Kd.R_drew)); exact HO_304001.out⟩, ⟨by (with_reducible repeat (first | refine Zag ?_ _ | refine Zak ?_ | refine Zaf ?_ _)); exact BK303.out⟩, ⟨by repeat (first | (with_reducible first | exact HB.out | apply Zac | apply Zaa | apply Zad | refine Zae ?_ GE303.out) | exact HB.out)⟩⟩
     case round =>
      clear H'
      try clear c1
      try clear c2
      try clear p2
      try clear c3
      try clear c4
      try clear c5
      try clear c26
      try clear c27
      try clear c28
      try clear c29
      try clear c30
      try clear c32
      try clear c34
      try clear c52
      try clear hcz14_0
      try clear hcz14_1
      try clear hcz17_0
      try clear hcz17_1
      try clear hcz19_0
      try clear hcz19_1
      try clear hcz21_0
      try clear hcz21_1
      try clear hcz23_0
      try clear hcz23_1
      try clear hcz35_0
      try clear hcz35_1
      try clear hcz38_0
      try clear hcz38_1
      try clear hcz42_0
      try clear hcz42_1
      try clear hcz43_0
      try clear hcz43_1
      try clear hcz46_0
      try clear hcz46_1
      try clear hcz49_0
      try clear hcz49_1
      try clear hfz14_0
      try clear hfz14_1
      try clear hfz17_0
      try clear hfz17_1
      try clear hfz19_0
      try clear hfz19_1
      try clear hfz21_0
      try clear hfz21_1
      try clear hfz23_0
      try clear hfz23_1
      try clear hfz35_0
      try clear hfz35_1
      try clear hfz38_0
      try clear hfz38_1
      try clear hfz42_0
      try clear hfz42_1
      try clear hfz43_0
      try clear hfz43_1
      try clear hfz46_0
      try clear hfz46_1
      try clear hfz49_0
      try clear hfz49_1
      try clear p2
      obtain ⟨x17_2, rfl, HA, HK2, HO_12, HO_15, HO_304001, BK303, HB⟩ := hrel
      cases gk with
      | zero => exact absurd HA.out (by simp [laws_FnRunning.l0])
      | succ k2 =>
       have H := HA.out
       clear HA
       simp only [laws_FnRunning.l0] at H
       by_cases c53 : x17_2 < (t319.length : Int)
       ·rw [if_pos c53] at H
        have c53b0 : decide (x17_2 < (t319.length : Int)) = true := decide_eq_true c53
        clear c53
        by_cases c54 : 0 ≤ x17_2
        ·rw [if_pos c54] at H
         have c54b0 : decide (0 ≤ x17_2) = true := decide_eq_true c54
         clear c54
         replace H := Option.bind_eq_some_iff.mp H
         obtain ⟨t326, A550, H⟩ := H
         replace H : (if (wrap64 (2 * t326)) > t299 then (some false) else (laws_FnRunning.l0 k2 t312 t314 t317 t319 (wrap64 (x17_2 + 1)) t299 t300)) = some r := H
         have A55 := Zab.mk A550
         clear A550
         by_cases c56 : (wrap64 (2 * t326)) > t299
         ·rw [if_pos c56] at H
          have c56b0 : decide (t299 < (wrap64 (2 * t326))) = true := decide_eq_true c56
          (try have c56b9 : decide (t299 < (IntKind.i64.wrap (2 * t326))) = true := by rw [i64_w]; exact c56b0)
          clear c56
          exact absurd ((Option.some.inj H).trans HT0_.out) (by decide)
         ·rw [if_neg c56] at H
          have c56b0 : decide (t299 < (wrap64 (2 * t326))) = false := decide_eq_false c56
          (try have c56b9 : decide (t299 < (IntKind.i64.wrap (2 * t326))) = false := by rw [i64_w]; exact c56b0)
          clear c56
          have H' := Zab.mk H
          clear H
          obtain ⟨Ao59, co59, eo59⟩ := Kd.R_slice HO_15.out
          subst eo59
          have p325 : 0 ≤ (x17_2 : Int) := of_decide_eq_true (by first | (with_reducible assumption) | assumption)
          have q325 : x17_2 < (t319.length : Int) := of_decide_eq_true (by first | (with_reducible assumption) | assumption)
          (try (obtain ⟨Aqad325, cqad325, eqad325⟩ := Kd.R_slice HO_15.out; subst eqad325))
          (try (obtain ⟨Aqad325, cqad325, eqad325⟩ := Kd.R_slice HO_15.out; subst eqad325))
          obtain ⟨ad325, e325, hx325_0⟩ := Kd.at_int (Kd.R_reads' HO_15.out).2.2 x17_2 p325 q325
          cases e325
          replace p325 := eq_true p325
          replace q325 := eq_true q325
          as_aux_lemma =>
           go_wp2_with (first | (go_at_call 24; (with_reducible refine (laws_b10Abs.calls (rd t319 x17_2) t326 _ A55.out).mono ?_); rintro e w' ⟨rfl, ⟨nd, rfl⟩⟩; (try first | exact ⟨rfl, _, World.drewN_drewN _ _ _⟩ | exact ⟨rfl, _, Eq.trans (World.drewN_drewN _ _ _) (congrArg (World.drewN _) (Nat.add_assoc _ _ _))⟩); have hcz60_0 : wr.cell? ⟨gb303, 0, none⟩ = some (.int .i64 t299) := (Zaj BK303.out 0).trans rfl; have hcz60_1 : wr.cell? ⟨gb303, 1, none⟩ = some (.slice Ao15 t300.length co15) := (Zaj BK303.out 1).trans rfl; have hfz60_0 := Zah BK303.out 0; have hfz60_1 := Zah BK303.out 1))
           repeat (go_quiet (first | (go_at_call 24; (with_reducible refine (laws_b10Abs.calls (rd t319 x17_2) t326 _ A55.out).mono ?_); rintro e w' ⟨rfl, ⟨nd, rfl⟩⟩; (try first | exact ⟨rfl, _, World.drewN_drewN _ _ _⟩ | exact ⟨rfl, _, Eq.trans (World.drewN_drewN _ _ _) (congrArg (World.drewN _) (Nat.add_assoc _ _ _))⟩); have hcz60_0 : wr.cell? ⟨gb303, 0, none⟩ = some (.int .i64 t299) := (Zaj BK303.out 0).trans rfl; have hcz60_1 : wr.cell? ⟨gb303, 1, none⟩ = some (.slice Ao15 t300.length co15) := (Zaj BK303.out 1).trans rfl; have hfz60_0 := Zah BK303.out 0; have hfz60_1 := Zah BK303.out 1)); try go_wp2_with (first | (go_at_call 24; (with_reducible refine (laws_b10Abs.calls (rd t319 x17_2) t326 _ A55.out).mono ?_); rintro e w' ⟨rfl, ⟨nd, rfl⟩⟩; (try first | exact ⟨rfl, _, World.drewN_drewN _ _ _⟩ | exact ⟨rfl, _, Eq.trans (World.drewN_drewN _ _ _) (congrArg (World.drewN _) (Nat.add_assoc _ _ _))⟩); have hcz60_0 : wr.cell? ⟨gb303, 0, none⟩ = some (.int .i64 t299) := (Zaj BK303.out 0).trans rfl; have hcz60_1 : wr.cell? ⟨gb303, 1, none⟩ = some (.slice Ao15 t300.length co15) := (Zaj BK303.out 1).trans rfl; have hfz60_0 := Zah BK303.out 0; have hfz60_1 := Zah BK303.out 1)))
           go_roundg k2
           case measure => have := HJ10.out; have := HK2.out; omega
           case rel => exact ⟨(wrap64 (x17_2 + 1)), (by first | rfl | (simp; done) | (simp [*]; done) | (simp [IntWalk.i64_left, *]; done)), H', ⟨by have := HJ10.out; have := HK2.out; omega⟩, ⟨by (with_reducible repeat (first | apply Kd.R_alloc | apply Kd.R_drewN | apply Kd.R_drew)); exact HO_12.out⟩, ⟨by (with_reducible repeat (first | apply Kd.R_alloc | apply Kd.R_drewN | apply Kd.R_drew)); exact HO_15.out⟩, ⟨by (with_reducible repeat (first | apply Kd.R_alloc | apply Kd.R_drewN | apply Kd.R_drew)); exact HO_304001.out⟩, ⟨by (with_reducible repeat (first | refine Zag ?_ _ | refine Zak ?_ | refine Zaf ?_ _)); exact BK303.out⟩, ⟨by repeat (first | (with_reducible first | exact HB.out | apply Zac | apply Zaa | apply Zad | refine Zae ?_ GE303.out) | exact HB.out)⟩⟩
        ·rw [if_neg c54] at H
         exact absurd H (by simp)
       ·rw [if_neg c53] at H
        have c53b0 : decide (x17_2 < (t319.length : Int)) = false := decide_eq_false c53
        clear c53
        have H' := Zab.mk H
        clear H
        obtain ⟨Ao61, co61, eo61⟩ := Kd.R_slice HO_15.out
        subst eo61
        go_wp2
        repeat (go_quiet (fail); try go_wp2)
        go_loopg [18, 19, 20] k2 (fun kq v18 v19 v20 w' => ∃ (x18_3 : Int) (x19_3 : Bool) (x20_3 : Int), v18 = .int .i64 x18_3 ∧ v19 = .bool x19_3 ∧ v20 = .int .i64 x20_3 ∧ Zab (laws_FnRunning.l1 kq t312 t314 t317 x18_3 x19_3 x20_3 t299 t300 = some r) ∧ Zab (kq ≤ k2) ∧ Zab (Kd.R (Kd.int .i64) 2 w' w.heap.size (fun k_ => some k_ ≠ ((.slice Ao15 t300.length co15) : Value).ownBlock) v315 t314) ∧ Zab (Kd.R (Kd.int .i64) 2 w' w.heap.size (fun k_ => some k_ ≠ (v315 : Value).ownBlock) (.slice Ao15 t300.length co15) t300) ∧ Zab (w'.heap[gb303]? = some (.cells #[.int .i64 t299, (.slice Ao15 t300.length co15)] 28 (0, 0))) ∧ Zab (Below w.heap.size w w'))
        case atStart => exact ⟨(0), (false), (0), (by first | rfl | (simp; done) | (simp [*]; done) | (simp [IntWalk.i64_left, *]; done)), (by first | rfl | (simp; done) | (simp [*]; done) | (simp [IntWalk.i64_left, *]; done)), (by first | rfl | (simp; done) | (simp [*]; done) | (simp [IntWalk.i64_left, *]; done)), H', ⟨Nat.le_refl _⟩, ⟨by (with_reducible repeat (first | apply Kd.R_alloc | apply Kd.R_drewN | apply Kd.R_drew)); exact Kd.R_mono HO_12.out (fun _ hk => hk.2)⟩, ⟨by (with_reducible repeat (first | apply Kd.R_alloc | apply Kd.R_drewN | apply Kd.R_drew)); exact Kd.R_mono HO_304001.out (fun _ hk => hk.1)⟩, ⟨by (with_reducible repeat (first | refine Zag ?_ _ | refine Zak ?_ | refine Zaf ?_ _)); exact BK303.out⟩, ⟨by repeat (first | (with_reducible first | exact HB.out | apply Zac | apply Zaa | apply Zad | refine Zae ?_ GE303.out) | exact HB.out)⟩⟩
        case round =>
         clear H'
         try clear c1
         try clear c2
         try clear p2
         try clear c3
         try clear p3
         try clear q3
         try clear hx3
         try clear c4
         try clear c5
         try clear p6
         try clear c26
         try clear c27
         try clear c28
         try clear c29
         try clear c30
         try clear c32
         try clear p32
         try clear q32
         try clear hx32
         try clear c34
         try clear c52
         try clear c53
         try clear c53b0
         try clear c54
         try clear c54b0
         try clear c56
         try clear c56b0
         try clear hcz14_0
         try clear hcz14_1
         try clear hcz17_0
         try clear hcz17_1
         try clear hcz19_0
         try clear hcz19_1
         try clear hcz21_0
         try clear hcz21_1
         try clear hcz23_0
         try clear hcz23_1
         try clear hcz35_0
         try clear hcz35_1
         try clear hcz38_0
         try clear hcz38_1
         try clear hcz42_0
         try clear hcz42_1
         try clear hcz43_0
         try clear hcz43_1
         try clear hcz46_0
         try clear hcz46_1
         try clear hcz49_0
         try clear hcz49_1
         try clear hcz58_0
         try clear hcz58_1
         try clear hcz60_0
         try clear hcz60_1
         try clear hfz14_0
         try clear hfz14_1
         try clear hfz17_0
         try clear hfz17_1
         try clear hfz19_0
         try clear hfz19_1
         try clear hfz21_0
         try clear hfz21_1
         try clear hfz23_0
         try clear hfz23_1
         try clear hfz35_0
         try clear hfz35_1
         try clear hfz38_0
         try clear hfz38_1
         try clear hfz42_0
         try clear hfz42_1
         try clear hfz43_0
         try clear hfz43_1
         try clear hfz46_0
         try clear hfz46_1
         try clear hfz49_0
         try clear hfz49_1
         try clear hfz58_0
         try clear hfz58_1
         try clear hfz60_0
         try clear hfz60_1
         try clear hx325_0
         try clear p2
         try clear p325
         try clear q325
         obtain ⟨x18_3, x19_3, x20_3, rfl, rfl, rfl, HA, HK3, HO_12, HO_304001, BK303, HB⟩ := hrel
         cases gk with
         | zero => exact absurd HA.out (by simp [laws_FnRunning.l1])
         | succ k3 =>
          have H := HA.out
          clear HA
          simp only [laws_FnRunning.l1] at H
          obtain ⟨ji62, hji62⟩ : ∃ j_ : Int, (IntKind.u64.wrap ((t300.length : Int))) = j_ := ⟨_, rfl⟩
          replace H : (if 0 ≤ (ji62) then (if x20_3 < (shl .i64 1 (ji62)) then ((Za3.f k3 t299 t300 x20_3).bind fun t327 => ((Zap.f k3 t299 t300 t327).bind fun bt330 => ((Za5.f k3 bt330.1).bind fun bt334 => (if bt330.2 = true then (if bt334.2 = true then (laws_FnRunning.j3 k3 t312 t314 t317 x18_3 x19_3 x20_3 t327 bt334.1 (decide (bt334.1 < t317)) t299 t300) else (laws_FnRunning.j3 k3 t312 t314 t317 x18_3 x19_3 x20_3 t327 bt334.1 true t299 t300)) else (laws_FnRunning.j3 k3 t312 t314 t317 x18_3 x19_3 x20_3 t327 bt334.1 true t299 t300))))) else (if x18_3 = t312 then (some x19_3) else (some false))) else (none)) = some r := by first | (rw [hji62] at H; exact H) | (simp only [hji62] at H ⊢; exact H)
          by_cases c63 : 0 ≤ (ji62)
          ·rw [if_pos c63] at H
           have c63b0 := eq_true c63
           have c63b1 : decide (0 ≤ (ji62)) = true := decide_eq_true c63
           clear c63
           obtain ⟨ji64, hji64⟩ : ∃ j_ : Int, (shl .i64 1 (ji62)) = j_ := ⟨_, rfl⟩
           replace H : (if x20_3 < (ji64) then ((Za3.f k3 t299 t300 x20_3).bind fun t327 => ((Zap.f k3 t299 t300 t327).bind fun bt330 => ((Za5.f k3 bt330.1).bind fun bt334 => (if bt330.2 = true then (if bt334.2 = true then (laws_FnRunning.j3 k3 t312 t314 t317 x18_3 x19_3 x20_3 t327 bt334.1 (decide (bt334.1 < t317)) t299 t300) else (laws_FnRunning.j3 k3 t312 t314 t317 x18_3 x19_3 x20_3 t327 bt334.1 true t299 t300)) else (laws_FnRunning.j3 k3 t312 t314 t317 x18_3 x19_3 x20_3 t327 bt334.1 true t299 t300))))) else (if x18_3 = t312 then (some x19_3) else (some false))) = some r := by first | (rw [hji64] at H; exact H) | (simp only [hji64] at H ⊢; exact H)
           have hji64_ : (IntKind.i64.wrap (1 * 2 ^ min (ji62).toNat 64)) = ji64 := hji64
           have hji64z : (ji62) ≤ 64 → (IntKind.i64.wrap (1 * 2 ^ (ji62).toNat)) = ji64 := shl_small hji64
           have hji64u : (IntKind.i64.wrap (2 ^ min (ji62).toNat 64)) = ji64 := by have h_ := hji64_; rw [Int.one_mul] at h_; exact h_
           have hji64v : (ji62) ≤ 64 → (IntKind.i64.wrap (2 ^ (ji62).toNat)) = ji64 := fun hle_ => by have h_ := hji64z hle_; rw [Int.one_mul] at h_; exact h_
           have hji64y : (wrap64 (1 * 2 ^ min (ji62).toNat 64)) = ji64 := (i64_w _).symm.trans hji64_
           have hji64x : (ji62) ≤ 64 → (wrap64 (1 * 2 ^ (ji62).toNat)) = ji64 := fun h_ => (i64_w _).symm.trans (hji64z h_)
           by_cases c65 : x20_3 < (ji64)
           ·rw [if_pos c65] at H
            have c65b0 : decide (x20_3 < (ji64)) = true := decide_eq_true c65
            clear c65
            replace H := Option.bind_eq_some_iff.mp H
            obtain ⟨t327, A660, H⟩ := H
            replace H : ((Zap.f k3 t299 t300 t327).bind fun bt330 => ((Za5.f k3 bt330.1).bind fun bt334 => (if bt330.2 = true then (if bt334.2 = true then (laws_FnRunning.j3 k3 t312 t314 t317 x18_3 x19_3 x20_3 t327 bt334.1 (decide (bt334.1 < t317)) t299 t300) else (laws_FnRunning.j3 k3 t312 t314 t317 x18_3 x19_3 x20_3 t327 bt334.1 true t299 t300)) else (laws_FnRunning.j3 k3 t312 t314 t317 x18_3 x19_3 x20_3 t327 bt334.1 true t299 t300)))) = some r := H
            have A66 := Zab.mk A660
            clear A660
            replace H := Option.bind_eq_some_iff.mp H
            obtain ⟨⟨t330, t333⟩, A670, H⟩ := H
            replace H : ((Za5.f k3 t330).bind fun bt334 => (if t333 = true then (if bt334.2 = true then (laws_FnRunning.j3 k3 t312 t314 t317 x18_3 x19_3 x20_3 t327 bt334.1 (decide (bt334.1 < t317)) t299 t300) else (laws_FnRunning.j3 k3 t312 t314 t317 x18_3 x19_3 x20_3 t327 bt334.1 true t299 t300)) else (laws_FnRunning.j3 k3 t312 t314 t317 x18_3 x19_3 x20_3 t327 bt334.1 true t299 t300))) = some r := H
            have A67 := Zab.mk A670
            clear A670
            replace H := Option.bind_eq_some_iff.mp H
            obtain ⟨⟨t334, t335⟩, A680, H⟩ := H
            replace H : (if t333 = true then (if t335 = true then (laws_FnRunning.j3 k3 t312 t314 t317 x18_3 x19_3 x20_3 t327 t334 (decide (t334 < t317)) t299 t300) else (laws_FnRunning.j3 k3 t312 t314 t317 x18_3 x19_3 x20_3 t327 t334 true t299 t300)) else (laws_FnRunning.j3 k3 t312 t314 t317 x18_3 x19_3 x20_3 t327 t334 true t299 t300)) = some r := H
            have A68 := Zab.mk A680
            clear A680
            have HC69 := Zab.mk H
            clear H
            have hcz70_0 : wr.cell? ⟨gb303, 0, none⟩ = some (.int .i64 t299) := (Zaj BK303.out 0).trans rfl
            have hcz70_1 : wr.cell? ⟨gb303, 1, none⟩ = some (.slice Ao15 t300.length co15) := (Zaj BK303.out 1).trans rfl
            have hfz70_0 := Zah BK303.out 0
            have hfz70_1 := Zah BK303.out 1
            go_upto_region 24 with (first | (go_at_call 25; (with_reducible refine (Za3.calls k3 t299 _ _ t300 x20_3 t327 _ ?side1 ?side2 A66.out).mono ?_); (case side1 => repeat (first | exact (Kd.R_reads' HO_304001.out).2.2 | (with_reducible refine Kd.C_alloc ?_ _) | (with_reducible refine Kd.C_drewN ?_ _) | (with_reducible refine Kd.C_drew ?_))); (case side2 => exact (Kd.R_reads' HO_304001.out).2.1); rintro e w71 ⟨v328, rfl, ho0, hb⟩; have n0_ := Zab.mk (Kd.R_elder' (by (with_reducible repeat (first | apply Kd.R_alloc | apply Kd.R_drewN | apply Kd.R_drew)); exact HO_12.out) (Kd.R_base ho0) hb); have n1_ := Zab.mk (Kd.R_elder' (by (with_reducible repeat (first | apply Kd.R_alloc | apply Kd.R_drewN | apply Kd.R_drew)); exact HO_304001.out) (Kd.R_base ho0) hb); have n2_ := Zab.mk (Kd.R_lower (Kd.R_new' (Kd.R_new' ho0 (Kd.R_lt (by (with_reducible repeat (first | apply Kd.R_alloc | apply Kd.R_drewN | apply Kd.R_drew)); exact HO_12.out))) (Kd.R_lt (by (with_reducible repeat (first | apply Kd.R_alloc | apply Kd.R_drewN | apply Kd.R_drew)); exact HO_304001.out))) (Zam (by repeat (first | (with_reducible first | exact HB.out | apply Zac | apply Zaa | apply Zad | refine Zae ?_ GE303.out) | exact HB.out)))); have n3_ := Zab.mk (Zao (g := gb303) (o := .cells #[.int .i64 t299, .slice Ao15 t300.length co15] 28 (0, 0)) (by (with_reducible repeat (first | refine Zag ?_ _ | refine Zak ?_ | refine Zaf ?_ _)); exact BK303.out) hb); have n4_ := Zab.mk (Zal (by repeat (first | (with_reducible first | exact HB.out | apply Zac | apply Zaa | apply Zad | refine Zae ?_ GE303.out) | exact HB.out)) hb); clear HO_12; clear HO_304001; clear BK303; clear HB; have HO_12 := n0_; have HO_304001 := n1_; have HO329 := n2_; have BK303 := n3_; have HB := n4_; clear n0_ n1_ n2_ n3_ n4_; (try clear hb); (try clear hb2); (try clear hk); (try clear hi); (try clear ho0); have hcz72_0 : w71.cell? ⟨gb303, 0, none⟩ = some (.int .i64 t299) := (Zaj BK303.out 0).trans rfl; have hcz72_1 : w71.cell? ⟨gb303, 1, none⟩ = some (.slice Ao15 t300.length co15) := (Zaj BK303.out 1).trans rfl; have hfz72_0 := Zah BK303.out 0; have hfz72_1 := Zah BK303.out 1; obtain ⟨Ao73, co73, eo73⟩ := Kd.R_slice HO329.out; subst eo73) | (go_at_call 26; (with_reducible refine (Zap.calls k3 t299 _ _ t300 _ _ t327 t330 t333 _ ?side1 ?side2 ?side3 ?side4 A67.out).mono ?_); (case side1 => repeat (first | exact (Kd.R_reads' HO_304001.out).2.2 | (with_reducible refine Kd.C_alloc ?_ _) | (with_reducible refine Kd.C_drewN ?_ _) | (with_reducible refine Kd.C_drew ?_))); (case side2 => exact (Kd.R_reads' HO_304001.out).2.1); (case side3 => repeat (first | exact (Kd.R_reads' HO329.out).2.2 | (with_reducible refine Kd.C_alloc ?_ _) | (with_reducible refine Kd.C_drewN ?_ _) | (with_reducible refine Kd.C_drew ?_))); (case side4 => exact (Kd.R_reads' HO329.out).2.1); rintro e w74 ⟨v331, rfl, ho0, hb⟩; have n0_ := Zab.mk (Kd.R_elder' (by (with_reducible repeat (first | apply Kd.R_alloc | apply Kd.R_drewN | apply Kd.R_drew)); exact HO_12.out) (Kd.R_base ho0) hb); have n1_ := Zab.mk (Kd.R_elder' (by (with_reducible repeat (first | apply Kd.R_alloc | apply Kd.R_drewN | apply Kd.R_drew)); exact HO_304001.out) (Kd.R_base ho0) hb); have n2_ := Zab.mk (Kd.R_elder' (by (with_reducible repeat (first | apply Kd.R_alloc | apply Kd.R_drewN | apply Kd.R_drew)); exact HO329.out) (Kd.R_base ho0) hb); have n3_ := Zab.mk (Kd.R_lower (Kd.R_new' (Kd.R_new' (Kd.R_new' ho0 (Kd.R_lt (by (with_reducible repeat (first | apply Kd.R_alloc | apply Kd.R_drewN | apply Kd.R_drew)); exact HO_12.out))) (Kd.R_lt (by (with_reducible repeat (first | apply Kd.R_alloc | apply Kd.R_drewN | apply Kd.R_drew)); exact HO_304001.out))) (Kd.R_lt (by (with_reducible repeat (first | apply Kd.R_alloc | apply Kd.R_drewN | apply Kd.R_drew)); exact HO329.out))) (Zam (by repeat (first | (with_reducible first | exact HB.out | apply Zac | apply Zaa | apply Zad | refine Zae ?_ GE303.out) | exact HB.out)))); have n4_ := Zab.mk (Zao (g := gb303) (o := .cells #[.int .i64 t299, .slice Ao15 t300.length co15] 28 (0, 0)) (by (with_reducible repeat (first | refine Zag ?_ _ | refine Zak ?_ | refine Zaf ?_ _)); exact BK303.out) hb); have n5_ := Zab.mk (Zal (by repeat (first | (with_reducible first | exact HB.out | apply Zac | apply Zaa | apply Zad | refine Zae ?_ GE303.out) | exact HB.out)) hb); clear HO_12; clear HO_304001; clear HO329; clear BK303; clear HB; have HO_12 := n0_; have HO_304001 := n1_; have HO329 := n2_; have HO332 := n3_; have BK303 := n4_; have HB := n5_; clear n0_ n1_ n2_ n3_ n4_ n5_; (try clear hb); (try clear hb2); (try clear hk); (try clear hi); (try clear ho0); obtain ⟨Ao75, co75, eo75⟩ := Kd.R_slice HO332.out; subst eo75) | (go_at_call 27; (with_reducible refine (Za5.calls k3 _ _ t330 t334 t335 _ ?side1 ?side2 A68.out).mono ?_); (case side1 => repeat (first | exact (Kd.R_reads' HO332.out).2.2 | (with_reducible refine Kd.C_alloc ?_ _) | (with_reducible refine Kd.C_drewN ?_ _) | (with_reducible refine Kd.C_drew ?_))); (case side2 => exact (Kd.R_reads' HO332.out).2.1); rintro e w' ⟨rfl, ⟨nd, rfl⟩⟩; (try first | exact ⟨rfl, _, World.drewN_drewN _ _ _⟩ | exact ⟨rfl, _, Eq.trans (World.drewN_drewN _ _ _) (congrArg (World.drewN _) (Nat.add_assoc _ _ _))⟩)))
            repeat (go_quiet (first | (go_at_call 25; (with_reducible refine (Za3.calls k3 t299 _ _ t300 x20_3 t327 _ ?side1 ?side2 A66.out).mono ?_); (case side1 => repeat (first | exact (Kd.R_reads' HO_304001.out).2.2 | (with_reducible refine Kd.C_alloc ?_ _) | (with_reducible refine Kd.C_drewN ?_ _) | (with_reducible refine Kd.C_drew ?_))); (case side2 => exact (Kd.R_reads' HO_304001.out).2.1); rintro e w71 ⟨v328, rfl, ho0, hb⟩; have n0_ := Zab.mk (Kd.R_elder' (by (with_reducible repeat (first | apply Kd.R_alloc | apply Kd.R_drewN | apply Kd.R_drew)); exact HO_12.out) (Kd.R_base ho0) hb); have n1_ := Zab.mk (Kd.R_elder' (by (with_reducible repeat (first | apply Kd.R_alloc | apply Kd.R_drewN | apply Kd.R_drew)); exact HO_304001.out) (Kd.R_base ho0) hb); have n2_ := Zab.mk (Kd.R_lower (Kd.R_new' (Kd.R_new' ho0 (Kd.R_lt (by (with_reducible repeat (first | apply Kd.R_alloc | apply Kd.R_drewN | apply Kd.R_drew)); exact HO_12.out))) (Kd.R_lt (by (with_reducible repeat (first | apply Kd.R_alloc | apply Kd.R_drewN | apply Kd.R_drew)); exact HO_304001.out))) (Zam (by repeat (first | (with_reducible first | exact HB.out | apply Zac | apply Zaa | apply Zad | refine Zae ?_ GE303.out) | exact HB.out)))); have n3_ := Zab.mk (Zao (g := gb303) (o := .cells #[.int .i64 t299, .slice Ao15 t300.length co15] 28 (0, 0)) (by (with_reducible repeat (first | refine Zag ?_ _ | refine Zak ?_ | refine Zaf ?_ _)); exact BK303.out) hb); have n4_ := Zab.mk (Zal (by repeat (first | (with_reducible first | exact HB.out | apply Zac | apply Zaa | apply Zad | refine Zae ?_ GE303.out) | exact HB.out)) hb); clear HO_12; clear HO_304001; clear BK303; clear HB; have HO_12 := n0_; have HO_304001 := n1_; have HO329 := n2_; have BK303 := n3_; have HB := n4_; clear n0_ n1_ n2_ n3_ n4_; (try clear hb); (try clear hb2); (try clear hk); (try clear hi); (try clear ho0); have hcz72_0 : w71.cell? ⟨gb303, 0, none⟩ = some (.int .i64 t299) := (Zaj BK303.out 0).trans rfl; have hcz72_1 : w71.cell? ⟨gb303, 1, none⟩ = some (.slice Ao15 t300.length co15) := (Zaj BK303.out 1).trans rfl; have hfz72_0 := Zah BK303.out 0; have hfz72_1 := Zah BK303.out 1; obtain ⟨Ao73, co73, eo73⟩ := Kd.R_slice HO329.out; subst eo73) | (go_at_call 26; (with_reducible refine (Zap.calls k3 t299 _ _ t300 _ _ t327 t330 t333 _ ?side1 ?side2 ?side3 ?side4 A67.out).mono ?_); (case side1 => repeat (first | exact (Kd.R_reads' HO_304001.out).2.2 | (with_reducible refine Kd.C_alloc ?_ _) | (with_reducible refine Kd.C_drewN ?_ _) | (with_reducible refine Kd.C_drew ?_))); (case side2 => exact (Kd.R_reads' HO_304001.out).2.1); (case side3 => repeat (first | exact (Kd.R_reads' HO329.out).2.2 | (with_reducible refine Kd.C_alloc ?_ _) | (with_reducible refine Kd.C_drewN ?_ _) | (with_reducible refine Kd.C_drew ?_))); (case side4 => exact (Kd.R_reads' HO329.out).2.1); rintro e w74 ⟨v331, rfl, ho0, hb⟩; have n0_ := Zab.mk (Kd.R_elder' (by (with_reducible repeat (first | apply Kd.R_alloc | apply Kd.R_drewN | apply Kd.R_drew)); exact HO_12.out) (Kd.R_base ho0) hb); have n1_ := Zab.mk (Kd.R_elder' (by (with_reducible repeat (first | apply Kd.R_alloc | apply Kd.R_drewN | apply Kd.R_drew)); exact HO_304001.out) (Kd.R_base ho0) hb); have n2_ := Zab.mk (Kd.R_elder' (by (with_reducible repeat (first | apply Kd.R_alloc | apply Kd.R_drewN | apply Kd.R_drew)); exact HO329.out) (Kd.R_base ho0) hb); have n3_ := Zab.mk (Kd.R_lower (Kd.R_new' (Kd.R_new' (Kd.R_new' ho0 (Kd.R_lt (by (with_reducible repeat (first | apply Kd.R_alloc | apply Kd.R_drewN | apply Kd.R_drew)); exact HO_12.out))) (Kd.R_lt (by (with_reducible repeat (first | apply Kd.R_alloc | apply Kd.R_drewN | apply Kd.R_drew)); exact HO_304001.out))) (Kd.R_lt (by (with_reducible repeat (first | apply Kd.R_alloc | apply Kd.R_drewN | apply Kd.R_drew)); exact HO329.out))) (Zam (by repeat (first | (with_reducible first | exact HB.out | apply Zac | apply Zaa | apply Zad | refine Zae ?_ GE303.out) | exact HB.out)))); have n4_ := Zab.mk (Zao (g := gb303) (o := .cells #[.int .i64 t299, .slice Ao15 t300.length co15] 28 (0, 0)) (by (with_reducible repeat (first | refine Zag ?_ _ | refine Zak ?_ | refine Zaf ?_ _)); exact BK303.out) hb); have n5_ := Zab.mk (Zal (by repeat (first | (with_reducible first | exact HB.out | apply Zac | apply Zaa | apply Zad | refine Zae ?_ GE303.out) | exact HB.out)) hb); clear HO_12; clear HO_304001; clear HO329; clear BK303; clear HB; have HO_12 := n0_; have HO_304001 := n1_; have HO329 := n2_; have HO332 := n3_; have BK303 := n4_; have HB := n5_; clear n0_ n1_ n2_ n3_ n4_ n5_; (try clear hb); (try clear hb2); (try clear hk); (try clear hi); (try clear ho0); obtain ⟨Ao75, co75, eo75⟩ := Kd.R_slice HO332.out; subst eo75) | (go_at_call 27; (with_reducible refine (Za5.calls k3 _ _ t330 t334 t335 _ ?side1 ?side2 A68.out).mono ?_); (case side1 => repeat (first | exact (Kd.R_reads' HO332.out).2.2 | (with_reducible refine Kd.C_alloc ?_ _) | (with_reducible refine Kd.C_drewN ?_ _) | (with_reducible refine Kd.C_drew ?_))); (case side2 => exact (Kd.R_reads' HO332.out).2.1); rintro e w' ⟨rfl, ⟨nd, rfl⟩⟩; (try first | exact ⟨rfl, _, World.drewN_drewN _ _ _⟩ | exact ⟨rfl, _, Eq.trans (World.drewN_drewN _ _ _) (congrArg (World.drewN _) (Nat.add_assoc _ _ _))⟩))); go_upto_region 24 with (first | (go_at_call 25; (with_reducible refine (Za3.calls k3 t299 _ _ t300 x20_3 t327 _ ?side1 ?side2 A66.out).mono ?_); (case side1 => repeat (first | exact (Kd.R_reads' HO_304001.out).2.2 | (with_reducible refine Kd.C_alloc ?_ _) | (with_reducible refine Kd.C_drewN ?_ _) | (with_reducible refine Kd.C_drew ?_))); (case side2 => exact (Kd.R_reads' HO_304001.out).2.1); rintro e w71 ⟨v328, rfl, ho0, hb⟩; have n0_ := Zab.mk (Kd.R_elder' (by (with_reducible repeat (first | apply Kd.R_alloc | apply Kd.R_drewN | apply Kd.R_drew)); exact HO_12.out) (Kd.R_base ho0) hb); have n1_ := Zab.mk (Kd.R_elder' (by (with_reducible repeat (first | apply Kd.R_alloc | apply Kd.R_drewN | apply Kd.R_drew)); exact HO_304001.out) (Kd.R_base ho0) hb); have n2_ := Zab.mk (Kd.R_lower (Kd.R_new' (Kd.R_new' ho0 (Kd.R_lt (by (with_reducible repeat (first | apply Kd.R_alloc | apply Kd.R_drewN | apply Kd.R_drew)); exact HO_12.out))) (Kd.R_lt (by (with_reducible repeat (first | apply Kd.R_alloc | apply Kd.R_drewN | apply Kd.R_drew)); exact HO_304001.out))) (Zam (by repeat (first | (with_reducible first | exact HB.out | apply Zac | apply Zaa | apply Zad | refine Zae ?_ GE303.out) | exact HB.out)))); have n3_ := Zab.mk (Zao (g := gb303) (o := .cells #[.int .i64 t299, .slice Ao15 t300.length co15] 28 (0, 0)) (by (with_reducible repeat (first | refine Zag ?_ _ | refine Zak ?_ | refine Zaf ?_ _)); exact BK303.out) hb); have n4_ := Zab.mk (Zal (by repeat (first | (with_reducible first | exact HB.out | apply Zac | apply Zaa | apply Zad | refine Zae ?_ GE303.out) | exact HB.out)) hb); clear HO_12; clear HO_304001; clear BK303; clear HB; have HO_12 := n0_; have HO_304001 := n1_; have HO329 := n2_; have BK303 := n3_; have HB := n4_; clear n0_ n1_ n2_ n3_ n4_; (try clear hb); (try clear hb2); (try clear hk); (try clear hi); (try clear ho0); have hcz72_0 : w71.cell? ⟨gb303, 0, none⟩ = some (.int .i64 t299) := (Zaj BK303.out 0).trans rfl; have hcz72_1 : w71.cell? ⟨gb303, 1, none⟩ = some (.slice Ao15 t300.length co15) := (Zaj BK303.out 1).trans rfl; have hfz72_0 := Zah BK303.out 0; have hfz72_1 := Zah BK303.out 1; obtain ⟨Ao73, co73, eo73⟩ := Kd.R_slice HO329.out; subst eo73) | (go_at_call 26; (with_reducible refine (Zap.calls k3 t299 _ _ t300 _ _ t327 t330 t333 _ ?side1 ?side2 ?side3 ?side4 A67.out).mono ?_); (case side1 => repeat (first | exact (Kd.R_reads' HO_304001.out).2.2 | (with_reducible refine Kd.C_alloc ?_ _) | (with_reducible refine Kd.C_drewN ?_ _) | (with_reducible refine Kd.C_drew ?_))); (case side2 => exact (Kd.R_reads' HO_304001.out).2.1); (case side3 => repeat (first | exact (Kd.R_reads' HO329.out).2.2 | (with_reducible refine Kd.C_alloc ?_ _) | (with_reducible refine Kd.C_drewN ?_ _) | (with_reducible refine Kd.C_drew ?_))); (case side4 => exact (Kd.R_reads' HO329.out).2.1); rintro e w74 ⟨v331, rfl, ho0, hb⟩; have n0_ := Zab.mk (Kd.R_elder' (by (with_reducible repeat (first | apply Kd.R_alloc | apply Kd.R_drewN | apply Kd.R_drew)); exact HO_12.out) (Kd.R_base ho0) hb); have n1_ := Zab.mk (Kd.R_elder' (by (with_reducible repeat (first | apply Kd.R_alloc | apply Kd.R_drewN | apply Kd.R_drew)); exact HO_304001.out) (Kd.R_base ho0) hb); have n2_ := Zab.mk (Kd.R_elder' (by (with_reducible repeat (first | apply Kd.R_alloc | apply Kd.R_drewN | apply Kd.R_drew)); exact HO329.out) (Kd.R_base ho0) hb); have n3_ := Zab.mk (Kd.R_lower (Kd.R_new' (Kd.R_new' (Kd.R_new' ho0 (Kd.R_lt (by (with_reducible repeat (first | apply Kd.R_alloc | apply Kd.R_drewN | apply Kd.R_drew)); exact HO_12.out))) (Kd.R_lt (by (with_reducible repeat (first | apply Kd.R_alloc | apply Kd.R_drewN | apply Kd.R_drew)); exact HO_304001.out))) (Kd.R_lt (by (with_reducible repeat (first | apply Kd.R_alloc | apply Kd.R_drewN | apply Kd.R_drew)); exact HO329.out))) (Zam (by repeat (first | (with_reducible first | exact HB.out | apply Zac | apply Zaa | apply Zad | refine Zae ?_ GE303.out) | exact HB.out)))); have n4_ := Zab.mk (Zao (g := gb303) (o := .cells #[.int .i64 t299, .slice Ao15 t300.length co15] 28 (0, 0)) (by (with_reducible repeat (first | refine Zag ?_ _ | refine Zak ?_ | refine Zaf ?_ _)); exact BK303.out) hb); have n5_ := Zab.mk (Zal (by repeat (first | (with_reducible first | exact HB.out | apply Zac | apply Zaa | apply Zad | refine Zae ?_ GE303.out) | exact HB.out)) hb); clear HO_12; clear HO_304001; clear HO329; clear BK303; clear HB; have HO_12 := n0_; have HO_304001 := n1_; have HO329 := n2_; have HO332 := n3_; have BK303 := n4_; have HB := n5_; clear n0_ n1_ n2_ n3_ n4_ n5_; (try clear hb); (try clear hb2); (try clear hk); (try clear hi); (try clear ho0); obtain ⟨Ao75, co75, eo75⟩ := Kd.R_slice HO332.out; subst eo75) | (go_at_call 27; (with_reducible refine (Za5.calls k3 _ _ t330 t334 t335 _ ?side1 ?side2 A68.out).mono ?_); (case side1 => repeat (first | exact (Kd.R_reads' HO332.out).2.2 | (with_reducible refine Kd.C_alloc ?_ _) | (with_reducible refine Kd.C_drewN ?_ _) | (with_reducible refine Kd.C_drew ?_))); (case side2 => exact (Kd.R_reads' HO332.out).2.1); rintro e w' ⟨rfl, ⟨nd, rfl⟩⟩; (try first | exact ⟨rfl, _, World.drewN_drewN _ _ _⟩ | exact ⟨rfl, _, Eq.trans (World.drewN_drewN _ _ _) (congrArg (World.drewN _) (Nat.add_assoc _ _ _))⟩))))
            (try simp only [Act.put, List.setIfInBounds_toArray, List.set_cons_zero, List.set_cons_succ])
            go_cut [146] (fun v146 wc => ∃ (kq : Nat) (x146_68 : Bool), v146 = .bool x146_68 ∧ Zab (laws_FnRunning.j3 kq t312 t314 t317 x18_3 x19_3 x20_3 t327 t334 x146_68 t299 t300 = some r) ∧ Zab (kq ≤ k3) ∧ Zab (Kd.R (Kd.int .i64) 2 wc w.heap.size (fun k_ => some k_ ≠ ((.slice Ao73 t327.length co73) : Value).ownBlock ∧ some k_ ≠ ((.slice Ao15 t300.length co15) : Value).ownBlock) v315 t314) ∧ Zab (Kd.R (Kd.int .i64) 2 wc w.heap.size (fun k_ => some k_ ≠ (v315 : Value).ownBlock ∧ some k_ ≠ ((.slice Ao15 t300.length co15) : Value).ownBlock) (.slice Ao73 t327.length co73) t327) ∧ Zab (Kd.R (Kd.int .i64) 2 wc w.heap.size (fun k_ => some k_ ≠ (v315 : Value).ownBlock ∧ some k_ ≠ ((.slice Ao73 t327.length co73) : Value).ownBlock) (.slice Ao15 t300.length co15) t300) ∧ Zab (wc.heap[gb303]? = some (.cells #[.int .i64 t299, (.slice Ao15 t300.length co15)] 28 (0, 0))) ∧ Zab (Below w.heap.size w wc))
            case first =>
             have H := HC69.out
             clear HC69
             by_cases c76 : t333 = true
             ·subst c76
              have H1 : (if t335 = true then (laws_FnRunning.j3 k3 t312 t314 t317 x18_3 x19_3 x20_3 t327 t334 (decide (t334 < t317)) t299 t300) else (laws_FnRunning.j3 k3 t312 t314 t317 x18_3 x19_3 x20_3 t327 t334 true t299 t300)) = some r := by rw [if_pos rfl] at H; exact H
              clear H
              have H := H1
              clear H1
              by_cases c77 : t335 = true
              ·subst c77
               have H1 : (laws_FnRunning.j3 k3 t312 t314 t317 x18_3 x19_3 x20_3 t327 t334 (decide (t334 < t317)) t299 t300) = some r := by rw [if_pos rfl] at H; exact H
               clear H
               have H := H1
               clear H1
               have H' := Zab.mk H
               clear H
               as_aux_lemma =>
                go_wp2
                repeat (go_quiet (fail); try go_wp2)
                go_meet
                case rel => exact ⟨_, (decide (t334 < t317)), (by first | rfl | (simp; done) | (simp [*]; done) | (simp [IntWalk.i64_left, *]; done)), H', ⟨by have := HJ10.out; have := HK2.out; have := HK3.out; first | omega | exact Nat.le_refl _⟩, ⟨by (with_reducible repeat (first | apply Kd.R_alloc | apply Kd.R_drewN | apply Kd.R_drew)); exact Kd.R_mono HO_12.out (fun _ hk => ⟨hk.1.2, hk.1.1⟩)⟩, ⟨by (with_reducible repeat (first | apply Kd.R_alloc | apply Kd.R_drewN | apply Kd.R_drew)); exact Kd.R_mono HO329.out (fun _ hk => ⟨hk.1.1.2, hk.1.2⟩)⟩, ⟨by (with_reducible repeat (first | apply Kd.R_alloc | apply Kd.R_drewN | apply Kd.R_drew)); exact Kd.R_mono HO_304001.out (fun _ hk => ⟨hk.1.1, hk.1.2⟩)⟩, ⟨by (with_reducible repeat (first | refine Zag ?_ _ | refine Zak ?_ | refine Zaf ?_ _)); exact BK303.out⟩, ⟨by repeat (first | (with_reducible first | exact HB.out | apply Zac | apply Zaa | apply Zad | refine Zae ?_ GE303.out) | exact HB.out)⟩⟩
              ·replace c77 := Bool.eq_false_iff.mpr c77
               subst c77
               have H1 : (laws_FnRunning.j3 k3 t312 t314 t317 x18_3 x19_3 x20_3 t327 t334 true t299 t300) = some r := by rw [if_neg (show ¬ (false = true) by decide)] at H; exact H
               clear H
               have H := H1
               clear H1
               have H' := Zab.mk H
               clear H
               as_aux_lemma =>
                go_wp2
                repeat (go_quiet (fail); try go_wp2)
                go_meet
                case rel => exact ⟨_, (true), (by first | rfl | (simp; done) | (simp [*]; done) | (simp [IntWalk.i64_left, *]; done)), H', ⟨by have := HJ10.out; have := HK2.out; have := HK3.out; first | omega | exact Nat.le_refl _⟩, ⟨by (with_reducible repeat (first | apply Kd.R_alloc | apply Kd.R_drewN | apply Kd.R_drew)); exact Kd.R_mono HO_12.out (fun _ hk => ⟨hk.1.2, hk.1.1⟩)⟩, ⟨by (with_reducible repeat (first | apply Kd.R_alloc | apply Kd.R_drewN | apply Kd.R_drew)); exact Kd.R_mono HO329.out (fun _ hk => ⟨hk.1.1.2, hk.1.2⟩)⟩, ⟨by (with_reducible repeat (first | apply Kd.R_alloc | apply Kd.R_drewN | apply Kd.R_drew)); exact Kd.R_mono HO_304001.out (fun _ hk => ⟨hk.1.1, hk.1.2⟩)⟩, ⟨by (with_reducible repeat (first | refine Zag ?_ _ | refine Zak ?_ | refine Zaf ?_ _)); exact BK303.out⟩, ⟨by repeat (first | (with_reducible first | exact HB.out | apply Zac | apply Zaa | apply Zad | refine Zae ?_ GE303.out) | exact HB.out)⟩⟩
             ·replace c76 := Bool.eq_false_iff.mpr c76
              subst c76
              have H1 : (laws_FnRunning.j3 k3 t312 t314 t317 x18_3 x19_3 x20_3 t327 t334 true t299 t300) = some r := by rw [if_neg (show ¬ (false = true) by decide)] at H; exact H
              clear H
              have H := H1
              clear H1
              have H' := Zab.mk H
              clear H
              as_aux_lemma =>
               go_wp2
               repeat (go_quiet (fail); try go_wp2)
               go_meet
               case rel => exact ⟨_, (true), (by first | rfl | (simp; done) | (simp [*]; done) | (simp [IntWalk.i64_left, *]; done)), H', ⟨by have := HJ10.out; have := HK2.out; have := HK3.out; first | omega | exact Nat.le_refl _⟩, ⟨by (with_reducible repeat (first | apply Kd.R_alloc | apply Kd.R_drewN | apply Kd.R_drew)); exact Kd.R_mono HO_12.out (fun _ hk => ⟨hk.1.2, hk.1.1⟩)⟩, ⟨by (with_reducible repeat (first | apply Kd.R_alloc | apply Kd.R_drewN | apply Kd.R_drew)); exact Kd.R_mono HO329.out (fun _ hk => ⟨hk.1.1.2, hk.1.2⟩)⟩, ⟨by (with_reducible repeat (first | apply Kd.R_alloc | apply Kd.R_drewN | apply Kd.R_drew)); exact Kd.R_mono HO_304001.out (fun _ hk => ⟨hk.1.1, hk.1.2⟩)⟩, ⟨by (with_reducible repeat (first | refine Zag ?_ _ | refine Zak ?_ | refine Zaf ?_ _)); exact BK303.out⟩, ⟨by repeat (first | (with_reducible first | exact HB.out | apply Zac | apply Zaa | apply Zad | refine Zae ?_ GE303.out) | exact HB.out)⟩⟩
            case rest =>
             clear HC69
             try clear c1
             try clear c2
             try clear p2
             try clear c3
             try clear p3
             try clear q3
             try clear hx3
             try clear c4
             try clear c5
             try clear c6
             try clear p6
             try clear c7
             try clear c26
             try clear c27
             try clear c28
             try clear c29
             try clear c30
             try clear c32
             try clear p32
             try clear q32
             try clear hx32
             try clear c34
             try clear c52
             try clear c53
             try clear c53b0
             try clear c54
             try clear c54b0
             try clear c56
             try clear c56b0
             try clear c63
             try clear c63b0
             try clear c63b1
             try clear p64
             try clear c65
             try clear c65b0
             try clear c76
             try clear c77
             try clear hcz14_0
             try clear hcz14_1
             try clear hcz17_0
             try clear hcz17_1
             try clear hcz19_0
             try clear hcz19_1
             try clear hcz21_0
             try clear hcz21_1
             try clear hcz23_0
             try clear hcz23_1
             try clear hcz35_0
             try clear hcz35_1
             try clear hcz38_0
             try clear hcz38_1
             try clear hcz42_0
             try clear hcz42_1
             try clear hcz43_0
             try clear hcz43_1
             try clear hcz46_0
             try clear hcz46_1
             try clear hcz49_0
             try clear hcz49_1
             try clear hcz58_0
             try clear hcz58_1
             try clear hcz60_0
             try clear hcz60_1
             try clear hcz70_0
             try clear hcz70_1
             try clear hcz72_0
             try clear hcz72_1
             try clear hfz14_0
             try clear hfz14_1
             try clear hfz17_0
             try clear hfz17_1
             try clear hfz19_0
             try clear hfz19_1
             try clear hfz21_0
             try clear hfz21_1
             try clear hfz23_0
             try clear hfz23_1
             try clear hfz35_0
             try clear hfz35_1
             try clear hfz38_0
             try clear hfz38_1
             try clear hfz42_0
             try clear hfz42_1
             try clear hfz43_0
             try clear hfz43_1
             try clear hfz46_0
             try clear hfz46_1
             try clear hfz49_0
             try clear hfz49_1
             try clear hfz58_0
             try clear hfz58_1
             try clear hfz60_0
             try clear hfz60_1
             try clear hfz70_0
             try clear hfz70_1
             try clear hfz72_0
             try clear hfz72_1
             try clear hx325_0
             try clear p2
             try clear p3
             try clear p32
             try clear p325
             try clear p6
             try clear q3
             try clear q32
             try clear q325
             obtain ⟨kq, x146_68, rfl, HA, HJ68, HO_12, HO_21, HO_304001, BK303, HB⟩ := hcut
             cases kq with
             | zero => exact absurd HA.out (by simp [laws_FnRunning.j3])
             | succ kj68 =>
              have H := HA.out
              clear HA
              simp only [laws_FnRunning.j3] at H
              by_cases c78 : x146_68 = true
              ·subst c78
               have H1 : (some false) = some r := by rw [if_pos rfl] at H; exact H
               clear H
               have H := H1
               clear H1
               exact absurd ((Option.some.inj H).trans HT0_.out) (by decide)
              ·replace c78 := Bool.eq_false_iff.mpr c78
               subst c78
               have H1 : (if x19_3 = true then (laws_FnRunning.j4 kj68 t312 t314 t317 x18_3 true x20_3 t327 t299 t300) else (if t334 = t317 then ((laws_b10Nums.f kj68 t327 t314).bind fun t336 => (laws_FnRunning.j4 kj68 t312 t314 t317 x18_3 t336 x20_3 t327 t299 t300)) else (laws_FnRunning.j4 kj68 t312 t314 t317 x18_3 false x20_3 t327 t299 t300))) = some r := by rw [if_neg (show ¬ (false = true) by decide)] at H; exact H
               clear H
               have H := H1
               clear H1
               have HC79 := Zab.mk H
               clear H
               go_upto_region 26 with (fail)
               repeat (go_quiet (fail); go_upto_region 26 with (fail))
               go_cut [19] (fun v19 wc => ∃ (kq : Nat) (x19_78 : Bool), v19 = .bool x19_78 ∧ Zab (laws_FnRunning.j4 kq t312 t314 t317 x18_3 x19_78 x20_3 t327 t299 t300 = some r) ∧ Zab (kq ≤ kj68) ∧ Zab (Kd.R (Kd.int .i64) 2 wc w.heap.size (fun k_ => some k_ ≠ ((.slice Ao73 t327.length co73) : Value).ownBlock ∧ some k_ ≠ ((.slice Ao15 t300.length co15) : Value).ownBlock) v315 t314) ∧ Zab (Kd.R (Kd.int .i64) 2 wc w.heap.size (fun k_ => some k_ ≠ (v315 : Value).ownBlock ∧ some k_ ≠ ((.slice Ao15 t300.length co15) : Value).ownBlock) (.slice Ao73 t327.length co73) t327) ∧ Zab (Kd.R (Kd.int .i64) 2 wc w.heap.size (fun k_ => some k_ ≠ (v315 : Value).ownBlock ∧ some k_ ≠ ((.slice Ao73 t327.length co73) : Value).ownBlock) (.slice Ao15 t300.length co15) t300) ∧ Zab (wc.heap[gb303]? = some (.cells #[.int .i64 t299, (.slice Ao15 t300.length co15)] 28 (0, 0))) ∧ Zab (Below w.heap.size w wc))
               case first =>
                have H := HC79.out
                clear HC79
                by_cases c80 : x19_3 = true
                ·subst c80
                 have H1 : (laws_FnRunning.j4 kj68 t312 t314 t317 x18_3 true x20_3 t327 t299 t300) = some r := by rw [if_pos rfl] at H; exact H
                 clear H
                 have H := H1
                 clear H1
                 have H' := Zab.mk H
                 clear H
                 as_aux_lemma =>
                  go_wp2
                  repeat (go_quiet (fail); try go_wp2)
                  go_meet
                  case rel => exact ⟨_, (true), (by first | rfl | (simp; done) | (simp [*]; done) | (simp [IntWalk.i64_left, *]; done)), H', ⟨by have := HJ10.out; have := HK2.out; have := HK3.out; have := HJ68.out; first | omega | exact Nat.le_refl _⟩, ⟨by (with_reducible repeat (first | apply Kd.R_alloc | apply Kd.R_drewN | apply Kd.R_drew)); exact HO_12.out⟩, ⟨by (with_reducible repeat (first | apply Kd.R_alloc | apply Kd.R_drewN | apply Kd.R_drew)); exact HO_21.out⟩, ⟨by (with_reducible repeat (first | apply Kd.R_alloc | apply Kd.R_drewN | apply Kd.R_drew)); exact HO_304001.out⟩, ⟨by (with_reducible repeat (first | refine Zag ?_ _ | refine Zak ?_ | refine Zaf ?_ _)); exact BK303.out⟩, ⟨by repeat (first | (with_reducible first | exact HB.out | apply Zac | apply Zaa | apply Zad | refine Zae ?_ GE303.out) | exact HB.out)⟩⟩
                ·replace c80 := Bool.eq_false_iff.mpr c80
                 subst c80
                 have H1 : (if t334 = t317 then ((laws_b10Nums.f kj68 t327 t314).bind fun t336 => (laws_FnRunning.j4 kj68 t312 t314 t317 x18_3 t336 x20_3 t327 t299 t300)) else (laws_FnRunning.j4 kj68 t312 t314 t317 x18_3 false x20_3 t327 t299 t300)) = some r := by rw [if_neg (show ¬ (false = true) by decide)] at H; exact H
                 clear H
                 have H := H1
                 clear H1
                 by_cases c81 : t334 = t317
                 ·rw [if_pos c81] at H
                  have c81b0 : (t334 == t317) = true := beq_iff_eq.mpr c81
                  have c81b1 : (t334 != t317) = false := bne_eq_false_iff_eq.mpr c81
                  clear c81
                  (first | rw [c81b0] | (simp only [i64_w, i32_w]; rw [c81b0]) | skip)
                  replace H := Option.bind_eq_some_iff.mp H
                  obtain ⟨t336, A820, H⟩ := H
                  replace H : (laws_FnRunning.j4 kj68 t312 t314 t317 x18_3 t336 x20_3 t327 t299 t300) = some r := H
                  have A82 := Zab.mk A820
                  clear A820
                  have H' := Zab.mk H
                  clear H
                  obtain ⟨Ao83, co83, eo83⟩ := Kd.R_slice HO_12.out
                  subst eo83
                  as_aux_lemma =>
                   go_wp2_with (first | (go_at_call 28; (with_reducible refine (laws_b10Nums.calls kj68 _ _ t327 _ _ t314 t336 _ ?side1 ?side2 ?side3 ?side4 A82.out).mono ?_); (case side1 => repeat (first | exact (Kd.R_reads' HO_21.out).2.2 | (with_reducible refine Kd.C_alloc ?_ _) | (with_reducible refine Kd.C_drewN ?_ _) | (with_reducible refine Kd.C_drew ?_))); (case side2 => exact (Kd.R_reads' HO_21.out).2.1); (case side3 => repeat (first | exact (Kd.R_reads' HO_12.out).2.2 | (with_reducible refine Kd.C_alloc ?_ _) | (with_reducible refine Kd.C_drewN ?_ _) | (with_reducible refine Kd.C_drew ?_))); (case side4 => exact (Kd.R_reads' HO_12.out).2.1); rintro e w' ⟨rfl, ⟨nd, rfl⟩⟩; (try first | exact ⟨rfl, _, World.drewN_drewN _ _ _⟩ | exact ⟨rfl, _, Eq.trans (World.drewN_drewN _ _ _) (congrArg (World.drewN _) (Nat.add_assoc _ _ _))⟩)))
                   repeat (go_quiet (first | (go_at_call 28; (with_reducible refine (laws_b10Nums.calls kj68 _ _ t327 _ _ t314 t336 _ ?side1 ?side2 ?side3 ?side4 A82.out).mono ?_); (case side1 => repeat (first | exact (Kd.R_reads' HO_21.out).2.2 | (with_reducible refine Kd.C_alloc ?_ _) | (with_reducible refine Kd.C_drewN ?_ _) | (with_reducible refine Kd.C_drew ?_))); (case side2 => exact (Kd.R_reads' HO_21.out).2.1); (case side3 => repeat (first | exact (Kd.R_reads' HO_12.out).2.2 | (with_reducible refine Kd.C_alloc ?_ _) | (with_reducible refine Kd.C_drewN ?_ _) | (with_reducible refine Kd.C_drew ?_))); (case side4 => exact (Kd.R_reads' HO_12.out).2.1); rintro e w' ⟨rfl, ⟨nd, rfl⟩⟩; (try first | exact ⟨rfl, _, World.drewN_drewN _ _ _⟩ | exact ⟨rfl, _, Eq.trans (World.drewN_drewN _ _ _) (congrArg (World.drewN _) (Nat.add_assoc _ _ _))⟩))); try go_wp2_with (first | (go_at_call 28; (with_reducible refine (laws_b10Nums.calls kj68 _ _ t327 _ _ t314 t336 _ ?side1 ?side2 ?side3 ?side4 A82.out).mono ?_); (case side1 => repeat (first | exact (Kd.R_reads' HO_21.out).2.2 | (with_reducible refine Kd.C_alloc ?_ _) | (with_reducible refine Kd.C_drewN ?_ _) | (with_reducible refine Kd.C_drew ?_))); (case side2 => exact (Kd.R_reads' HO_21.out).2.1); (case side3 => repeat (first | exact (Kd.R_reads' HO_12.out).2.2 | (with_reducible refine Kd.C_alloc ?_ _) | (with_reducible refine Kd.C_drewN ?_ _) | (with_reducible refine Kd.C_drew ?_))); (case side4 => exact (Kd.R_reads' HO_12.out).2.1); rintro e w' ⟨rfl, ⟨nd, rfl⟩⟩; (try first | exact ⟨rfl, _, World.drewN_drewN _ _ _⟩ | exact ⟨rfl, _, Eq.trans (World.drewN_drewN _ _ _) (congrArg (World.drewN _) (Nat.add_assoc _ _ _))⟩))))
                   go_meet
                   case rel => exact ⟨_, (t336), (by first | rfl | (simp; done) | (simp [*]; done) | (simp [IntWalk.i64_left, *]; done)), H', ⟨by have := HJ10.out; have := HK2.out; have := HK3.out; have := HJ68.out; first | omega | exact Nat.le_refl _⟩, ⟨by (with_reducible repeat (first | apply Kd.R_alloc | apply Kd.R_drewN | apply Kd.R_drew)); exact HO_12.out⟩, ⟨by (with_reducible repeat (first | apply Kd.R_alloc | apply Kd.R_drewN | apply Kd.R_drew)); exact HO_21.out⟩, ⟨by (with_reducible repeat (first | apply Kd.R_alloc | apply Kd.R_drewN | apply Kd.R_drew)); exact HO_304001.out⟩, ⟨by (with_reducible repeat (first | refine Zag ?_ _ | refine Zak ?_ | refine Zaf ?_ _)); exact BK303.out⟩, ⟨by repeat (first | (with_reducible first | exact HB.out | apply Zac | apply Zaa | apply Zad | refine Zae ?_ GE303.out) | exact HB.out)⟩⟩
                 ·rw [if_neg c81] at H
                  have c81b0 : (t334 == t317) = false := beq_eq_false_iff_ne.mpr c81
                  have c81b1 : (t334 != t317) = true := bne_iff_ne.mpr c81
                  (first | rw [c81b0] | (simp only [i64_w, i32_w]; rw [c81b0]) | skip)
                  have H' := Zab.mk H
                  clear H
                  as_aux_lemma =>
                   go_wp2
                   repeat (go_quiet (fail); try go_wp2)
                   go_meet
                   case rel => exact ⟨_, (false), (by first | rfl | (simp; done) | (simp [*]; done) | (simp [IntWalk.i64_left, *]; done)), H', ⟨by have := HJ10.out; have := HK2.out; have := HK3.out; have := HJ68.out; first | omega | exact Nat.le_refl _⟩, ⟨by (with_reducible repeat (first | apply Kd.R_alloc | apply Kd.R_drewN | apply Kd.R_drew)); exact HO_12.out⟩, ⟨by (with_reducible repeat (first | apply Kd.R_alloc | apply Kd.R_drewN | apply Kd.R_drew)); exact HO_21.out⟩, ⟨by (with_reducible repeat (first | apply Kd.R_alloc | apply Kd.R_drewN | apply Kd.R_drew)); exact HO_304001.out⟩, ⟨by (with_reducible repeat (first | refine Zag ?_ _ | refine Zak ?_ | refine Zaf ?_ _)); exact BK303.out⟩, ⟨by repeat (first | (with_reducible first | exact HB.out | apply Zac | apply Zaa | apply Zad | refine Zae ?_ GE303.out) | exact HB.out)⟩⟩
               case rest =>
                clear HC79
                try clear c1
                try clear c2
                try clear p2
                try clear c3
                try clear p3
                try clear q3
                try clear hx3
                try clear c4
                try clear c5
                try clear c6
                try clear p6
                try clear c7
                try clear c8
                try clear c26
                try clear c27
                try clear c28
                try clear c29
                try clear c30
                try clear c32
                try clear p32
                try clear q32
                try clear hx32
                try clear c34
                try clear c52
                try clear c53
                try clear c53b0
                try clear c54
                try clear c54b0
                try clear c56
                try clear c56b0
                try clear c63
                try clear c63b0
                try clear c63b1
                try clear p64
                try clear c65
                try clear c65b0
                try clear c76
                try clear c77
                try clear c78
                try clear c80
                try clear c81
                try clear c81b0
                try clear c81b1
                try clear hcz14_0
                try clear hcz14_1
                try clear hcz17_0
                try clear hcz17_1
                try clear hcz19_0
                try clear hcz19_1
                try clear hcz21_0
                try clear hcz21_1
                try clear hcz23_0
                try clear hcz23_1
                try clear hcz35_0
                try clear hcz35_1
                try clear hcz38_0
                try clear hcz38_1
                try clear hcz42_0
                try clear hcz42_1
                try clear hcz43_0
                try clear hcz43_1
                try clear hcz46_0
                try clear hcz46_1
                try clear hcz49_0
                try clear hcz49_1
                try clear hcz58_0
                try clear hcz58_1
                try clear hcz60_0
                try clear hcz60_1
                try clear hcz70_0
                try clear hcz70_1
                try clear hcz72_0
                try clear hcz72_1
                try clear hfz14_0
                try clear hfz14_1
                try clear hfz17_0
                try clear hfz17_1
                try clear hfz19_0
                try clear hfz19_1
                try clear hfz21_0
                try clear hfz21_1
                try clear hfz23_0
                try clear hfz23_1
                try clear hfz35_0
                try clear hfz35_1
                try clear hfz38_0
                try clear hfz38_1
                try clear hfz42_0
                try clear hfz42_1
                try clear hfz43_0
                try clear hfz43_1
                try clear hfz46_0
                try clear hfz46_1
                try clear hfz49_0
                try clear hfz49_1
                try clear hfz58_0
                try clear hfz58_1
                try clear hfz60_0
                try clear hfz60_1
                try clear hfz70_0
                try clear hfz70_1
                try clear hfz72_0
                try clear hfz72_1
                try clear hx325_0
                try clear p2
                try clear p3
                try clear p32
                try clear p325
                try clear p6
                try clear p64
                try clear q3
                try clear q32
                try clear q325
                obtain ⟨kq, x19_78, rfl, HA, HJ78, HO_12, HO_21, HO_304001, BK303, HB⟩ := hcut
                cases kq with
                | zero => exact absurd HA.out (by simp [laws_FnRunning.j4])
                | succ kj78 =>
                 have H := HA.out
                 clear HA
                 simp only [laws_FnRunning.j4] at H
                 have H' := Zab.mk H
                 clear H
                 go_wp2
                 repeat (go_quiet (fail); try go_wp2)
                 go_loopg [26, 27] kj78 (fun kq v26 v27 w' => ∃ (x26_6 : Bool) (x27_6 : Int), v26 = .bool x26_6 ∧ v27 = .int .i64 x27_6 ∧ Zab (laws_FnRunning.l2 kq t312 t314 t317 x18_3 x19_78 x20_3 t327 x26_6 x27_6 t299 t300 = some r) ∧ Zab (kq ≤ kj78) ∧ Zab (Kd.R (Kd.int .i64) 2 w' w.heap.size (fun k_ => some k_ ≠ ((.slice Ao73 t327.length co73) : Value).ownBlock ∧ some k_ ≠ ((.slice Ao15 t300.length co15) : Value).ownBlock) v315 t314) ∧ Zab (Kd.R (Kd.int .i64) 2 w' w.heap.size (fun k_ => some k_ ≠ (v315 : Value).ownBlock ∧ some k_ ≠ ((.slice Ao15 t300.length co15) : Value).ownBlock) (.slice Ao73 t327.length co73) t327) ∧ Zab (Kd.R (Kd.int .i64) 2 w' w.heap.size (fun k_ => some k_ ≠ (v315 : Value).ownBlock ∧ some k_ ≠ ((.slice Ao73 t327.length co73) : Value).ownBlock) (.slice Ao15 t300.length co15) t300) ∧ Zab (w'.heap[gb303]? = some (.cells #[.int .i64 t299, (.slice Ao15 t300.length co15)] 28 (0, 0))) ∧ Zab (Below w.heap.size w w'))
                 case atStart => exact ⟨(false), (0), (by first | rfl | (simp; done) | (simp [*]; done) | (simp [IntWalk.i64_left, *]; done)), (by first | rfl | (simp; done) | (simp [*]; done) | (simp [IntWalk.i64_left, *]; done)), H', ⟨Nat.le_refl _⟩, ⟨by (with_reducible repeat (first | apply Kd.R_alloc | apply Kd.R_drewN | apply Kd.R_drew)); exact HO_12.out⟩, ⟨by (with_reducible repeat (first | apply Kd.R_alloc | apply Kd.R_drewN | apply Kd.R_drew)); exact HO_21.out⟩, ⟨by (with_reducible repeat (first | apply Kd.R_alloc | apply Kd.R_drewN | apply Kd.R_drew)); exact HO_304001.out⟩, ⟨by (with_reducible repeat (first | refine Zag ?_ _ | refine Zak ?_ | refine Zaf ?_ _)); exact BK303.out⟩, ⟨by repeat (first | (with_reducible first | exact HB.out | apply Zac | apply Zaa | apply Zad | refine Zae ?_ GE303.out) | exact HB.out)⟩⟩
                 case round =>
                  clear H'
                  try clear c1
                  try clear c2
                  try clear p2
                  try clear c3
                  try clear p3
                  try clear q3
                  try clear hx3
                  try clear c4
                  try clear c5
                  try clear c6
                  try clear p6
                  try clear c7
                  try clear c8
                  try clear c26
                  try clear c27
                  try clear c28
                  try clear c29
                  try clear c30
                  try clear c32
                  try clear p32
                  try clear q32
                  try clear hx32
                  try clear c34
                  try clear c52
                  try clear c53
                  try clear c53b0
                  try clear c54
                  try clear c54b0
                  try clear c56
                  try clear c56b0
                  try clear c63
                  try clear c63b0
                  try clear c63b1
                  try clear p64
                  try clear c65
                  try clear c65b0
                  try clear c76
                  try clear c77
                  try clear c78
                  try clear c80
                  try clear c81
                  try clear c81b0
                  try clear c81b1
                  try clear hcz14_0
                  try clear hcz14_1
                  try clear hcz17_0
                  try clear hcz17_1
                  try clear hcz19_0
                  try clear hcz19_1
                  try clear hcz21_0
                  try clear hcz21_1
                  try clear hcz23_0
                  try clear hcz23_1
                  try clear hcz35_0
                  try clear hcz35_1
                  try clear hcz38_0
                  try clear hcz38_1
                  try clear hcz42_0
                  try clear hcz42_1
                  try clear hcz43_0
                  try clear hcz43_1
                  try clear hcz46_0
                  try clear hcz46_1
                  try clear hcz49_0
                  try clear hcz49_1
                  try clear hcz58_0
                  try clear hcz58_1
                  try clear hcz60_0
                  try clear hcz60_1
                  try clear hcz70_0
                  try clear hcz70_1
                  try clear hcz72_0
                  try clear hcz72_1
                  try clear hfz14_0
                  try clear hfz14_1
                  try clear hfz17_0
                  try clear hfz17_1
                  try clear hfz19_0
                  try clear hfz19_1
                  try clear hfz21_0
                  try clear hfz21_1
                  try clear hfz23_0
                  try clear hfz23_1
                  try clear hfz35_0
                  try clear hfz35_1
                  try clear hfz38_0
                  try clear hfz38_1
                  try clear hfz42_0
                  try clear hfz42_1
                  try clear hfz43_0
                  try clear hfz43_1
                  try clear hfz46_0
                  try clear hfz46_1
                  try clear hfz49_0
                  try clear hfz49_1
                  try clear hfz58_0
                  try clear hfz58_1
                  try clear hfz60_0
                  try clear hfz60_1
                  try clear hfz70_0
                  try clear hfz70_1
                  try clear hfz72_0
                  try clear hfz72_1
                  try clear hx325_0
                  try clear p2
                  try clear p3
                  try clear p32
                  try clear p325
                  try clear p6
                  try clear p64
                  try clear q3
                  try clear q32
                  try clear q325
                  obtain ⟨x26_6, x27_6, rfl, rfl, HA, HK6, HO_12, HO_21, HO_304001, BK303, HB⟩ := hrel
                  cases gk with
                  | zero => exact absurd HA.out (by simp [laws_FnRunning.l2])
                  | succ k6 =>
                   have H := HA.out
                   clear HA
                   simp only [laws_FnRunning.l2] at H
                   by_cases c84 : x27_6 < (t300.length : Int)
                   ·rw [if_pos c84] at H
                    have c84b0 : decide (x27_6 < (t300.length : Int)) = true := decide_eq_true c84
                    clear c84
                    by_cases c85 : x26_6 = true
                    ·subst c85
                     have H1 : (laws_FnRunning.l2 k6 t312 t314 t317 x18_3 x19_78 x20_3 t327 true (wrap64 (x27_6 + 1)) t299 t300) = some r := by rw [if_pos rfl] at H; exact H
                     clear H
                     have H := H1
                     clear H1
                     have H' := Zab.mk H
                     clear H
                     have hcz86_0 : wr.cell? ⟨gb303, 0, none⟩ = some (.int .i64 t299) := (Zaj BK303.out 0).trans rfl
                     have hcz86_1 : wr.cell? ⟨gb303, 1, none⟩ = some (.slice Ao15 t300.length co15) := (Zaj BK303.out 1).trans rfl
                     have hfz86_0 := Zah BK303.out 0
                     have hfz86_1 := Zah BK303.out 1
                     as_aux_lemma =>
                      go_wp2
                      repeat (go_quiet (fail); try go_wp2)
                      go_roundg k6
                      case measure => have := HJ10.out; have := HK2.out; have := HK3.out; have := HJ68.out; have := HJ78.out; have := HK6.out; omega
                      case rel => exact ⟨(true), (wrap64 (x27_6 + 1)), (by first | rfl | (simp; done) | (simp [*]; done) | (simp [IntWalk.i64_left, *]; done)), (by first | rfl | (simp; done) | (simp [*]; done) | (simp [IntWalk.i64_left, *]; done)), H', ⟨by have := HJ10.out; have := HK2.out; have := HK3.out; have := HJ68.out; have := HJ78.out; have := HK6.out; omega⟩, ⟨by (with_reducible repeat (first | apply Kd.R_alloc | apply Kd.R_drewN | apply Kd.R_drew)); exact HO_12.out⟩, ⟨by (with_reducible repeat (first | apply Kd.R_alloc | apply Kd.R_drewN | apply Kd.R_drew)); exact HO_21.out⟩, ⟨by (with_reducible repeat (first | apply Kd.R_alloc | apply Kd.R_drewN | apply Kd.R_drew)); exact HO_304001.out⟩, ⟨by (with_reducible repeat (first | refine Zag ?_ _ | refine Zak ?_ | refine Zaf ?_ _)); exact BK303.out⟩, ⟨by repeat (first | (with_reducible first | exact HB.out | apply Zac | apply Zaa | apply Zad | refine Zae ?_ GE303.out) | exact HB.out)⟩⟩
                    ·replace c85 := Bool.eq_false_iff.mpr c85
                     subst c85
                     have H1 : (if 0 ≤ (IntKind.u64.wrap (x27_6)) then (if (Go.bits .and .i64 (shr .i64 x20_3 (IntKind.u64.wrap (x27_6))) 1) = 1 then (if 0 ≤ x27_6 then (if t299 = 0 then (none) else (laws_FnRunning.l2 k6 t312 t314 t317 x18_3 x19_78 x20_3 t327 ((Int.tmod (rd t300 x27_6) t299) == 0) (wrap64 (x27_6 + 1)) t299 t300)) else (none)) else (laws_FnRunning.l2 k6 t312 t314 t317 x18_3 x19_78 x20_3 t327 false (wrap64 (x27_6 + 1)) t299 t300)) else (none)) = some r := by rw [if_neg (show ¬ (false = true) by decide)] at H; exact H
                     clear H
                     have H := H1
                     clear H1
                     obtain ⟨ji87, hji87⟩ : ∃ j_ : Int, (IntKind.u64.wrap (x27_6)) = j_ := ⟨_, rfl⟩
                     replace H : (if 0 ≤ (ji87) then (if (Go.bits .and .i64 (shr .i64 x20_3 (ji87)) 1) = 1 then (if 0 ≤ x27_6 then (if t299 = 0 then (none) else (laws_FnRunning.l2 k6 t312 t314 t317 x18_3 x19_78 x20_3 t327 ((Int.tmod (rd t300 x27_6) t299) == 0) (wrap64 (x27_6 + 1)) t299 t300)) else (none)) else (laws_FnRunning.l2 k6 t312 t314 t317 x18_3 x19_78 x20_3 t327 false (wrap64 (x27_6 + 1)) t299 t300)) else (none)) = some r := by first | (rw [hji87] at H; exact H) | (simp only [hji87] at H ⊢; exact H)
                     by_cases c88 : 0 ≤ (ji87)
                     ·rw [if_pos c88] at H
                      have c88b0 := eq_true c88
                      have c88b1 : decide (0 ≤ (ji87)) = true := decide_eq_true c88
                      clear c88
                      obtain ⟨ji89, hji89⟩ : ∃ j_ : Int, (shr .i64 x20_3 (ji87)) = j_ := ⟨_, rfl⟩
                      replace H : (if (Go.bits .and .i64 (ji89) 1) = 1 then (if 0 ≤ x27_6 then (if t299 = 0 then (none) else (laws_FnRunning.l2 k6 t312 t314 t317 x18_3 x19_78 x20_3 t327 ((Int.tmod (rd t300 x27_6) t299) == 0) (wrap64 (x27_6 + 1)) t299 t300)) else (none)) else (laws_FnRunning.l2 k6 t312 t314 t317 x18_3 x19_78 x20_3 t327 false (wrap64 (x27_6 + 1)) t299 t300)) = some r := by first | (rw [hji89] at H; exact H) | (simp only [hji89] at H ⊢; exact H)
                      have hji89_ : (x20_3 / 2 ^ min (ji87).toNat 64) = ji89 := hji89
                      have hji89z : (ji87) ≤ 64 → (x20_3 / 2 ^ (ji87).toNat) = ji89 := shr_small hji89
                      by_cases c90 : (Go.bits .and .i64 (ji89) 1) = 1
                      ·rw [if_pos c90] at H
                       have c90b0 : ((Go.bits .and .i64 (ji89) 1) == 1) = true := beq_iff_eq.mpr c90
                       have c90b1 : ((Go.bits .and .i64 (ji89) 1) != 1) = false := bne_eq_false_iff_eq.mpr c90
                       clear c90
                       by_cases c91 : 0 ≤ x27_6
                       ·rw [if_pos c91] at H
                        have c91b0 : decide (0 ≤ x27_6) = true := decide_eq_true c91
                        clear c91
                        by_cases c92 : t299 = 0
                        ·rw [if_pos c92] at H
                         exact absurd H (by simp)
                        ·rw [if_neg c92] at H
                         have c92b0 : (t299 == 0) = false := beq_eq_false_iff_ne.mpr c92
                         have c92b1 : (t299 != 0) = true := bne_iff_ne.mpr c92
                         have H' := Zab.mk H
                         clear H
                         have hcz93_0 : wr.cell? ⟨gb303, 0, none⟩ = some (.int .i64 t299) := (Zaj BK303.out 0).trans rfl
                         have hcz93_1 : wr.cell? ⟨gb303, 1, none⟩ = some (.slice Ao15 t300.length co15) := (Zaj BK303.out 1).trans rfl
                         have hfz93_0 := Zah BK303.out 0
                         have hfz93_1 := Zah BK303.out 1
                         have p337 : 0 ≤ (x27_6 : Int) := of_decide_eq_true (by first | (with_reducible assumption) | assumption)
                         have q337 : x27_6 < (t300.length : Int) := of_decide_eq_true (by first | (with_reducible assumption) | assumption)
                         (try (obtain ⟨Aqad337, cqad337, eqad337⟩ := Kd.R_slice HO_304001.out; subst eqad337))
                         (try (obtain ⟨Aqad337, cqad337, eqad337⟩ := Kd.R_slice HO_304001.out; subst eqad337))
                         obtain ⟨ad337, e337, hx337_0⟩ := Kd.at_int (Kd.R_reads' HO_304001.out).2.2 x27_6 p337 q337
                         cases e337
                         replace p337 := eq_true p337
                         replace q337 := eq_true q337
                         as_aux_lemma =>
                          go_wp2
                          repeat (go_quiet (fail); try go_wp2)
                          go_roundg k6
                          case measure => have := HJ10.out; have := HK2.out; have := HK3.out; have := HJ68.out; have := HJ78.out; have := HK6.out; omega
                          case rel => exact ⟨(((Int.tmod (rd t300 x27_6) t299) == 0)), (wrap64 (x27_6 + 1)), (by first | rfl | (simp; done) | (simp [*]; done) | (simp [IntWalk.i64_left, *]; done)), (by first | rfl | (simp; done) | (simp [*]; done) | (simp [IntWalk.i64_left, *]; done)), H', ⟨by have := HJ10.out; have := HK2.out; have := HK3.out; have := HJ68.out; have := HJ78.out; have := HK6.out; omega⟩, ⟨by (with_reducible repeat (first | apply Kd.R_alloc | apply Kd.R_drewN | apply Kd.R_drew)); exact HO_12.out⟩, ⟨by (with_reducible repeat (first | apply Kd.R_alloc | apply Kd.R_drewN | apply Kd.R_drew)); exact HO_21.out⟩, ⟨by (with_reducible repeat (first | apply Kd.R_alloc | apply Kd.R_drewN | apply Kd.R_drew)); exact HO_304001.out⟩, ⟨by (with_reducible repeat (first | refine Zag ?_ _ | refine Zak ?_ | refine Zaf ?_ _)); exact BK303.out⟩, ⟨by repeat (first | (with_reducible first | exact HB.out | apply Zac | apply Zaa | apply Zad | refine Zae ?_ GE303.out) | exact HB.out)⟩⟩
                       ·rw [if_neg c91] at H
                        exact absurd H (by simp)
                      ·rw [if_neg c90] at H
                       have c90b0 : ((Go.bits .and .i64 (ji89) 1) == 1) = false := beq_eq_false_iff_ne.mpr c90
                       have c90b1 : ((Go.bits .and .i64 (ji89) 1) != 1) = true := bne_iff_ne.mpr c90
                       have H' := Zab.mk H
                       clear H
                       have hcz94_0 : wr.cell? ⟨gb303, 0, none⟩ = some (.int .i64 t299) := (Zaj BK303.out 0).trans rfl
                       have hcz94_1 : wr.cell? ⟨gb303, 1, none⟩ = some (.slice Ao15 t300.length co15) := (Zaj BK303.out 1).trans rfl
                       have hfz94_0 := Zah BK303.out 0
                       have hfz94_1 := Zah BK303.out 1
                       as_aux_lemma =>
                        go_wp2
                        repeat (go_quiet (fail); try go_wp2)
                        go_roundg k6
                        case measure => have := HJ10.out; have := HK2.out; have := HK3.out; have := HJ68.out; have := HJ78.out; have := HK6.out; omega
                        case rel => exact ⟨(false), (wrap64 (x27_6 + 1)), (by first | rfl | (simp; done) | (simp [*]; done) | (simp [IntWalk.i64_left, *]; done)), (by first | rfl | (simp; done) | (simp [*]; done) | (simp [IntWalk.i64_left, *]; done)), H', ⟨by have := HJ10.out; have := HK2.out; have := HK3.out; have := HJ68.out; have := HJ78.out; have := HK6.out; omega⟩, ⟨by (with_reducible repeat (first | apply Kd.R_alloc | apply Kd.R_drewN | apply Kd.R_drew)); exact HO_12.out⟩, ⟨by (with_reducible repeat (first | apply Kd.R_alloc | apply Kd.R_drewN | apply Kd.R_drew)); exact HO_21.out⟩, ⟨by (with_reducible repeat (first | apply Kd.R_alloc | apply Kd.R_drewN | apply Kd.R_drew)); exact HO_304001.out⟩, ⟨by (with_reducible repeat (first | refine Zag ?_ _ | refine Zak ?_ | refine Zaf ?_ _)); exact BK303.out⟩, ⟨by repeat (first | (with_reducible first | exact HB.out | apply Zac | apply Zaa | apply Zad | refine Zae ?_ GE303.out) | exact HB.out)⟩⟩
                     ·rw [if_neg c88] at H
                      exact absurd H (by simp)
                   ·rw [if_neg c84] at H
                    have c84b0 : decide (x27_6 < (t300.length : Int)) = false := decide_eq_false c84
                    clear c84
                    by_cases c95 : x26_6 = true
                    ·subst c95
                     have H1 : (laws_FnRunning.l1 k6 t312 t314 t317 x18_3 x19_78 (wrap64 (x20_3 + 1)) t299 t300) = some r := by rw [if_pos rfl] at H; exact H
                     clear H
                     have H := H1
                     clear H1
                     have H' := Zab.mk H
                     clear H
                     have hcz96_0 : wr.cell? ⟨gb303, 0, none⟩ = some (.int .i64 t299) := (Zaj BK303.out 0).trans rfl
                     have hcz96_1 : wr.cell? ⟨gb303, 1, none⟩ = some (.slice Ao15 t300.length co15) := (Zaj BK303.out 1).trans rfl
                     have hfz96_0 := Zah BK303.out 0
                     have hfz96_1 := Zah BK303.out 1
                     as_aux_lemma =>
                      go_wp2
                      repeat (go_quiet (fail); try go_wp2)
                      go_roundg k6
                      case measure => have := HJ10.out; have := HK2.out; have := HK3.out; have := HJ68.out; have := HJ78.out; have := HK6.out; omega
                      case rel => exact ⟨(x18_3), (x19_78), (wrap64 (x20_3 + 1)), (by first | rfl | (simp; done) | (simp [*]; done) | (simp [IntWalk.i64_left, *]; done)), (by first | rfl | (simp; done) | (simp [*]; done) | (simp [IntWalk.i64_left, *]; done)), (by first | rfl | (simp; done) | (simp [*]; done) | (simp [IntWalk.i64_left, *]; done)), H', ⟨by have := HJ10.out; have := HK2.out; have := HK3.out; have := HJ68.out; have := HJ78.out; have := HK6.out; omega⟩, ⟨by (with_reducible repeat (first | apply Kd.R_alloc | apply Kd.R_drewN | apply Kd.R_drew)); exact Kd.R_mono HO_12.out (fun _ hk => hk.2)⟩, ⟨by (with_reducible repeat (first | apply Kd.R_alloc | apply Kd.R_drewN | apply Kd.R_drew)); exact Kd.R_mono HO_304001.out (fun _ hk => hk.1)⟩, ⟨by (with_reducible repeat (first | refine Zag ?_ _ | refine Zak ?_ | refine Zaf ?_ _)); exact BK303.out⟩, ⟨by repeat (first | (with_reducible first | exact HB.out | apply Zac | apply Zaa | apply Zad | refine Zae ?_ GE303.out) | exact HB.out)⟩⟩
                    ·replace c95 := Bool.eq_false_iff.mpr c95
                     subst c95
                     have H1 : ((Zau.f k6 t299 t300 t327).bind fun t338 => (if t338 = true then (laws_FnRunning.l1 k6 t312 t314 t317 (wrap64 (x18_3 + 1)) x19_78 (wrap64 (x20_3 + 1)) t299 t300) else (laws_FnRunning.l1 k6 t312 t314 t317 x18_3 x19_78 (wrap64 (x20_3 + 1)) t299 t300))) = some r := by rw [if_neg (show ¬ (false = true) by decide)] at H; exact H
                     clear H
                     have H := H1
                     clear H1
                     replace H := Option.bind_eq_some_iff.mp H
                     obtain ⟨t338, A970, H⟩ := H
                     replace H : (if t338 = true then (laws_FnRunning.l1 k6 t312 t314 t317 (wrap64 (x18_3 + 1)) x19_78 (wrap64 (x20_3 + 1)) t299 t300) else (laws_FnRunning.l1 k6 t312 t314 t317 x18_3 x19_78 (wrap64 (x20_3 + 1)) t299 t300)) = some r := H
                     have A97 := Zab.mk A970
                     clear A970
                     by_cases c98 : t338 = true
                     ·subst c98
                      have H1 : (laws_FnRunning.l1 k6 t312 t314 t317 (wrap64 (x18_3 + 1)) x19_78 (wrap64 (x20_3 + 1)) t299 t300) = some r := by rw [if_pos rfl] at H; exact H
                      clear H
                      have H := H1
                      clear H1
                      have H' := Zab.mk H
                      clear H
                      have hcz99_0 : wr.cell? ⟨gb303, 0, none⟩ = some (.int .i64 t299) := (Zaj BK303.out 0).trans rfl
                      have hcz99_1 : wr.cell? ⟨gb303, 1, none⟩ = some (.slice Ao15 t300.length co15) := (Zaj BK303.out 1).trans rfl
                      have hfz99_0 := Zah BK303.out 0
                      have hfz99_1 := Zah BK303.out 1
                      as_aux_lemma =>
                       go_wp2_with (first | (go_at_call 22; (with_reducible refine (Zau.calls k6 t299 _ _ t300 _ _ t327 true _ ?side1 ?side2 ?side3 ?side4 A97.out).mono ?_); (case side1 => repeat (first | exact (Kd.R_reads' HO_304001.out).2.2 | (with_reducible refine Kd.C_alloc ?_ _) | (with_reducible refine Kd.C_drewN ?_ _) | (with_reducible refine Kd.C_drew ?_))); (case side2 => exact (Kd.R_reads' HO_304001.out).2.1); (case side3 => repeat (first | exact (Kd.R_reads' HO_21.out).2.2 | (with_reducible refine Kd.C_alloc ?_ _) | (with_reducible refine Kd.C_drewN ?_ _) | (with_reducible refine Kd.C_drew ?_))); (case side4 => exact (Kd.R_reads' HO_21.out).2.1); rintro e w100 ⟨rfl, hb⟩; have n0_ := Zab.mk (Kd.R_below (by (with_reducible repeat (first | apply Kd.R_alloc | apply Kd.R_drewN | apply Kd.R_drew)); exact HO_12.out) hb); have n1_ := Zab.mk (Kd.R_below (by (with_reducible repeat (first | apply Kd.R_alloc | apply Kd.R_drewN | apply Kd.R_drew)); exact HO_21.out) hb); have n2_ := Zab.mk (Kd.R_below (by (with_reducible repeat (first | apply Kd.R_alloc | apply Kd.R_drewN | apply Kd.R_drew)); exact HO_304001.out) hb); have n3_ := Zab.mk (Zao (g := gb303) (o := .cells #[.int .i64 t299, .slice Ao15 t300.length co15] 28 (0, 0)) (by (with_reducible repeat (first | refine Zag ?_ _ | refine Zak ?_ | refine Zaf ?_ _)); exact BK303.out) hb); have n4_ := Zab.mk (Zal (by repeat (first | (with_reducible first | exact HB.out | apply Zac | apply Zaa | apply Zad | refine Zae ?_ GE303.out) | exact HB.out)) hb); clear HO_12; clear HO_21; clear HO_304001; clear BK303; clear HB; have HO_12 := n0_; have HO_21 := n1_; have HO_304001 := n2_; have BK303 := n3_; have HB := n4_; clear n0_ n1_ n2_ n3_ n4_; (try clear hb); (try clear hb2); (try clear hk); (try clear hi)))
                       repeat (go_quiet (first | (go_at_call 22; (with_reducible refine (Zau.calls k6 t299 _ _ t300 _ _ t327 true _ ?side1 ?side2 ?side3 ?side4 A97.out).mono ?_); (case side1 => repeat (first | exact (Kd.R_reads' HO_304001.out).2.2 | (with_reducible refine Kd.C_alloc ?_ _) | (with_reducible refine Kd.C_drewN ?_ _) | (with_reducible refine Kd.C_drew ?_))); (case side2 => exact (Kd.R_reads' HO_304001.out).2.1); (case side3 => repeat (first | exact (Kd.R_reads' HO_21.out).2.2 | (with_reducible refine Kd.C_alloc ?_ _) | (with_reducible refine Kd.C_drewN ?_ _) | (with_reducible refine Kd.C_drew ?_))); (case side4 => exact (Kd.R_reads' HO_21.out).2.1); rintro e w100 ⟨rfl, hb⟩; have n0_ := Zab.mk (Kd.R_below (by (with_reducible repeat (first | apply Kd.R_alloc | apply Kd.R_drewN | apply Kd.R_drew)); exact HO_12.out) hb); have n1_ := Zab.mk (Kd.R_below (by (with_reducible repeat (first | apply Kd.R_alloc | apply Kd.R_drewN | apply Kd.R_drew)); exact HO_21.out) hb); have n2_ := Zab.mk (Kd.R_below (by (with_reducible repeat (first | apply Kd.R_alloc | apply Kd.R_drewN | apply Kd.R_drew)); exact HO_304001.out) hb); have n3_ := Zab.mk (Zao (g := gb303) (o := .cells #[.int .i64 t299, .slice Ao15 t300.length co15] 28 (0, 0)) (by (with_reducible repeat (first | refine Zag ?_ _ | refine Zak ?_ | refine Zaf ?_ _)); exact BK303.out) hb); have n4_ := Zab.mk (Zal (by repeat (first | (with_reducible first | exact HB.out | apply Zac | apply Zaa | apply Zad | refine Zae ?_ GE303.out) | exact HB.out)) hb); clear HO_12; clear HO_21; clear HO_304001; clear BK303; clear HB; have HO_12 := n0_; have HO_21 := n1_; have HO_304001 := n2_; have BK303 := n3_; have HB := n4_; clear n0_ n1_ n2_ n3_ n4_; (try clear hb); (try clear hb2); (try clear hk); (try clear hi))); try go_wp2_with (first | (go_at_call 22; (with_reducible refine (Zau.calls k6 t299 _ _ t300 _ _ t327 true _ ?side1 ?side2 ?side3 ?side4 A97.out).mono ?_); (case side1 => repeat (first | exact (Kd.R_reads' HO_304001.out).2.2 | (with_reducible refine Kd.C_alloc ?_ _) | (with_reducible refine Kd.C_drewN ?_ _) | (with_reducible refine Kd.C_drew ?_))); (case side2 => exact (Kd.R_reads' HO_304001.out).2.1); (case side3 => repeat (first | exact (Kd.R_reads' HO_21.out).2.2 | (with_reducible refine Kd.C_alloc ?_ _) | (with_reducible refine Kd.C_drewN ?_ _) | (with_reducible refine Kd.C_drew ?_))); (case side4 => exact (Kd.R_reads' HO_21.out).2.1); rintro e w100 ⟨rfl, hb⟩; have n0_ := Zab.mk (Kd.R_below (by (with_reducible repeat (first | apply Kd.R_alloc | apply Kd.R_drewN | apply Kd.R_drew)); exact HO_12.out) hb); have n1_ := Zab.mk (Kd.R_below (by (with_reducible repeat (first | apply Kd.R_alloc | apply Kd.R_drewN | apply Kd.R_drew)); exact HO_21.out) hb); have n2_ := Zab.mk (Kd.R_below (by (with_reducible repeat (first | apply Kd.R_alloc | apply Kd.R_drewN | apply Kd.R_drew)); exact HO_304001.out) hb); have n3_ := Zab.mk (Zao (g := gb303) (o := .cells #[.int .i64 t299, .slice Ao15 t300.length co15] 28 (0, 0)) (by (with_reducible repeat (first | refine Zag ?_ _ | refine Zak ?_ | refine Zaf ?_ _)); exact BK303.out) hb); have n4_ := Zab.mk (Zal (by repeat (first | (with_reducible first | exact HB.out | apply Zac | apply Zaa | apply Zad | refine Zae ?_ GE303.out) | exact HB.out)) hb); clear HO_12; clear HO_21; clear HO_304001; clear BK303; clear HB; have HO_12 := n0_; have HO_21 := n1_; have HO_304001 := n2_; have BK303 := n3_; have HB := n4_; clear n0_ n1_ n2_ n3_ n4_; (try clear hb); (try clear hb2); (try clear hk); (try clear hi))))
                       go_roundg k6
                       case measure => have := HJ10.out; have := HK2.out; have := HK3.out; have := HJ68.out; have := HJ78.out; have := HK6.out; omega
                       case rel => exact ⟨(wrap64 (x18_3 + 1)), (x19_78), (wrap64 (x20_3 + 1)), (by first | rfl | (simp; done) | (simp [*]; done) | (simp [IntWalk.i64_left, *]; done)), (by first | rfl | (simp; done) | (simp [*]; done) | (simp [IntWalk.i64_left, *]; done)), (by first | rfl | (simp; done) | (simp [*]; done) | (simp [IntWalk.i64_left, *]; done)), H', ⟨by have := HJ10.out; have := HK2.out; have := HK3.out; have := HJ68.out; have := HJ78.out; have := HK6.out; omega⟩, ⟨by (with_reducible repeat (first | apply Kd.R_alloc | apply Kd.R_drewN | apply Kd.R_drew)); exact Kd.R_mono HO_12.out (fun _ hk => hk.2)⟩, ⟨by (with_reducible repeat (first | apply Kd.R_alloc | apply Kd.R_drewN | apply Kd.R_drew)); exact Kd.R_mono HO_304001.out (fun _ hk => hk.1)⟩, ⟨by (with_reducible repeat (first | refine Zag ?_ _ | refine Zak ?_ | refine Zaf ?_ _)); exact BK303.out⟩, ⟨by repeat (first | (with_reducible first | exact HB.out | apply Zac | apply Zaa | apply Zad | refine Zae ?_ GE303.out) | exact HB.out)⟩⟩
                     ·replace c98 := Bool.eq_false_iff.mpr c98
                      subst c98
                      have H1 : (laws_FnRunning.l1 k6 t312 t314 t317 x18_3 x19_78 (wrap64 (x20_3 + 1)) t299 t300) = some r := by rw [if_neg (show ¬ (false = true) by decide)] at H; exact H
                      clear H
                      have H := H1
                      clear H1
                      have H' := Zab.mk H
                      clear H
                      have hcz101_0 : wr.cell? ⟨gb303, 0, none⟩ = some (.int .i64 t299) := (Zaj BK303.out 0).trans rfl
                      have hcz101_1 : wr.cell? ⟨gb303, 1, none⟩ = some (.slice Ao15 t300.length co15) := (Zaj BK303.out 1).trans rfl
                      have hfz101_0 := Zah BK303.out 0
                      have hfz101_1 := Zah BK303.out 1
                      as_aux_lemma =>
                       go_wp2_with (first | (go_at_call 22; (with_reducible refine (Zau.calls k6 t299 _ _ t300 _ _ t327 false _ ?side1 ?side2 ?side3 ?side4 A97.out).mono ?_); (case side1 => repeat (first | exact (Kd.R_reads' HO_304001.out).2.2 | (with_reducible refine Kd.C_alloc ?_ _) | (with_reducible refine Kd.C_drewN ?_ _) | (with_reducible refine Kd.C_drew ?_))); (case side2 => exact (Kd.R_reads' HO_304001.out).2.1); (case side3 => repeat (first | exact (Kd.R_reads' HO_21.out).2.2 | (with_reducible refine Kd.C_alloc ?_ _) | (with_reducible refine Kd.C_drewN ?_ _) | (with_reducible refine Kd.C_drew ?_))); (case side4 => exact (Kd.R_reads' HO_21.out).2.1); rintro e w102 ⟨rfl, hb⟩; have n0_ := Zab.mk (Kd.R_below (by (with_reducible repeat (first | apply Kd.R_alloc | apply Kd.R_drewN | apply Kd.R_drew)); exact HO_12.out) hb); have n1_ := Zab.mk (Kd.R_below (by (with_reducible repeat (first | apply Kd.R_alloc | apply Kd.R_drewN | apply Kd.R_drew)); exact HO_21.out) hb); have n2_ := Zab.mk (Kd.R_below (by (with_reducible repeat (first | apply Kd.R_alloc | apply Kd.R_drewN | apply Kd.R_drew)); exact HO_304001.out) hb); have n3_ := Zab.mk (Zao (g := gb303) (o := .cells #[.int .i64 t299, .slice Ao15 t300.length co15] 28 (0, 0)) (by (with_reducible repeat (first | refine Zag ?_ _ | refine Zak ?_ | refine Zaf ?_ _)); exact BK303.out) hb); have n4_ := Zab.mk (Zal (by repeat (first | (with_reducible first | exact HB.out | apply Zac | apply Zaa | apply Zad | refine Zae ?_ GE303.out) | exact HB.out)) hb); clear HO_12; clear HO_21; clear HO_304001; clear BK303; clear HB; have HO_12 := n0_; have HO_21 := n1_; have HO_304001 := n2_; have BK303 := n3_; have HB := n4_; clear n0_ n1_ n2_ n3_ n4_; (try clear hb); (try clear hb2); (try clear hk); (try clear hi)))
                       repeat (go_quiet (first | (go_at_call 22; (with_reducible refine (Zau.calls k6 t299 _ _ t300 _ _ t327 false _ ?side1 ?side2 ?side3 ?side4 A97.out).mono ?_); (case side1 => repeat (first | exact (Kd.R_reads' HO_304001.out).2.2 | (with_reducible refine Kd.C_alloc ?_ _) | (with_reducible refine Kd.C_drewN ?_ _) | (with_reducible refine Kd.C_drew ?_))); (case side2 => exact (Kd.R_reads' HO_304001.out).2.1); (case side3 => repeat (first | exact (Kd.R_reads' HO_21.out).2.2 | (with_reducible refine Kd.C_alloc ?_ _) | (with_reducible refine Kd.C_drewN ?_ _) | (with_reducible refine Kd.C_drew ?_))); (case side4 => exact (Kd.R_reads' HO_21.out).2.1); rintro e w102 ⟨rfl, hb⟩; have n0_ := Zab.mk (Kd.R_below (by (with_reducible repeat (first | apply Kd.R_alloc | apply Kd.R_drewN | apply Kd.R_drew)); exact HO_12.out) hb); have n1_ := Zab.mk (Kd.R_below (by (with_reducible repeat (first | apply Kd.R_alloc | apply Kd.R_drewN | apply Kd.R_drew)); exact HO_21.out) hb); have n2_ := Zab.mk (Kd.R_below (by (with_reducible repeat (first | apply Kd.R_alloc | apply Kd.R_drewN | apply Kd.R_drew)); exact HO_304001.out) hb); have n3_ := Zab.mk (Zao (g := gb303) (o := .cells #[.int .i64 t299, .slice Ao15 t300.length co15] 28 (0, 0)) (by (with_reducible repeat (first | refine Zag ?_ _ | refine Zak ?_ | refine Zaf ?_ _)); exact BK303.out) hb); have n4_ := Zab.mk (Zal (by repeat (first | (with_reducible first | exact HB.out | apply Zac | apply Zaa | apply Zad | refine Zae ?_ GE303.out) | exact HB.out)) hb); clear HO_12; clear HO_21; clear HO_304001; clear BK303; clear HB; have HO_12 := n0_; have HO_21 := n1_; have HO_304001 := n2_; have BK303 := n3_; have HB := n4_; clear n0_ n1_ n2_ n3_ n4_; (try clear hb); (try clear hb2); (try clear hk); (try clear hi))); try go_wp2_with (first | (go_at_call 22; (with_reducible refine (Zau.calls k6 t299 _ _ t300 _ _ t327 false _ ?side1 ?side2 ?side3 ?side4 A97.out).mono ?_); (case side1 => repeat (first | exact (Kd.R_reads' HO_304001.out).2.2 | (with_reducible refine Kd.C_alloc ?_ _) | (with_reducible refine Kd.C_drewN ?_ _) | (with_reducible refine Kd.C_drew ?_))); (case side2 => exact (Kd.R_reads' HO_304001.out).2.1); (case side3 => repeat (first | exact (Kd.R_reads' HO_21.out).2.2 | (with_reducible refine Kd.C_alloc ?_ _) | (with_reducible refine Kd.C_drewN ?_ _) | (with_reducible refine Kd.C_drew ?_))); (case side4 => exact (Kd.R_reads' HO_21.out).2.1); rintro e w102 ⟨rfl, hb⟩; have n0_ := Zab.mk (Kd.R_below (by (with_reducible repeat (first | apply Kd.R_alloc | apply Kd.R_drewN | apply Kd.R_drew)); exact HO_12.out) hb); have n1_ := Zab.mk (Kd.R_below (by (with_reducible repeat (first | apply Kd.R_alloc | apply Kd.R_drewN | apply Kd.R_drew)); exact HO_21.out) hb); have n2_ := Zab.mk (Kd.R_below (by (with_reducible repeat (first | apply Kd.R_alloc | apply Kd.R_drewN | apply Kd.R_drew)); exact HO_304001.out) hb); have n3_ := Zab.mk (Zao (g := gb303) (o := .cells #[.int .i64 t299, .slice Ao15 t300.length co15] 28 (0, 0)) (by (with_reducible repeat (first | refine Zag ?_ _ | refine Zak ?_ | refine Zaf ?_ _)); exact BK303.out) hb); have n4_ := Zab.mk (Zal (by repeat (first | (with_reducible first | exact HB.out | apply Zac | apply Zaa | apply Zad | refine Zae ?_ GE303.out) | exact HB.out)) hb); clear HO_12; clear HO_21; clear HO_304001; clear BK303; clear HB; have HO_12 := n0_; have HO_21 := n1_; have HO_304001 := n2_; have BK303 := n3_; have HB := n4_; clear n0_ n1_ n2_ n3_ n4_; (try clear hb); (try clear hb2); (try clear hk); (try clear hi))))
                       go_roundg k6
                       case measure => have := HJ10.out; have := HK2.out; have := HK3.out; have := HJ68.out; have := HJ78.out; have := HK6.out; omega
                       case rel => exact ⟨(x18_3), (x19_78), (wrap64 (x20_3 + 1)), (by first | rfl | (simp; done) | (simp [*]; done) | (simp [IntWalk.i64_left, *]; done)), (by first | rfl | (simp; done) | (simp [*]; done) | (simp [IntWalk.i64_left, *]; done)), (by first | rfl | (simp; done) | (simp [*]; done) | (simp [IntWalk.i64_left, *]; done)), H', ⟨by have := HJ10.out; have := HK2.out; have := HK3.out; have := HJ68.out; have := HJ78.out; have := HK6.out; omega⟩, ⟨by (with_reducible repeat (first | apply Kd.R_alloc | apply Kd.R_drewN | apply Kd.R_drew)); exact Kd.R_mono HO_12.out (fun _ hk => hk.2)⟩, ⟨by (with_reducible repeat (first | apply Kd.R_alloc | apply Kd.R_drewN | apply Kd.R_drew)); exact Kd.R_mono HO_304001.out (fun _ hk => hk.1)⟩, ⟨by (with_reducible repeat (first | refine Zag ?_ _ | refine Zak ?_ | refine Zaf ?_ _)); exact BK303.out⟩, ⟨by repeat (first | (with_reducible first | exact HB.out | apply Zac | apply Zaa | apply Zad | refine Zae ?_ GE303.out) | exact HB.out)⟩⟩
           ·rw [if_neg c65] at H
            have c65b0 : decide (x20_3 < (ji64)) = false := decide_eq_false c65
            clear c65
            by_cases c103 : x18_3 = t312
            ·rw [if_pos c103] at H
             have c103b0 : (x18_3 == t312) = true := beq_iff_eq.mpr c103
             have c103b1 : (x18_3 != t312) = false := bne_eq_false_iff_eq.mpr c103
             clear c103
             obtain rfl := Option.some.inj H
             have hcz104_0 : wr.cell? ⟨gb303, 0, none⟩ = some (.int .i64 t299) := (Zaj BK303.out 0).trans rfl
             have hcz104_1 : wr.cell? ⟨gb303, 1, none⟩ = some (.slice Ao15 t300.length co15) := (Zaj BK303.out 1).trans rfl
             have hfz104_0 := Zah BK303.out 0
             have hfz104_1 := Zah BK303.out 1
             as_aux_lemma =>
              go_wp2
              repeat (go_quiet (fail); try go_wp2)
              go_ret
              exact ⟨by first | rfl | (simp [Zat, Zas] <;> rfl) | (simp only [← hji62, ← hji64]; first | rfl | (simp [Zat, Zas] <;> rfl)) | (simp [*, Zat, Zas] <;> rfl), by repeat (first | (with_reducible first | exact HB.out | apply Zac | apply Zaa | apply Zad | refine Zae ?_ GE303.out) | exact HB.out)⟩
            ·rw [if_neg c103] at H
             have c103b0 : (x18_3 == t312) = false := beq_eq_false_iff_ne.mpr c103
             have c103b1 : (x18_3 != t312) = true := bne_iff_ne.mpr c103
             exact absurd ((Option.some.inj H).trans HT0_.out) (by decide)
          ·rw [if_neg c63] at H
           exact absurd H (by simp)
def laws_FnRunning.Pure : Prop := ∀ (l0 : List Int) (l1 : List Int), l0.length ≤ maxLen → l0.length * 1 ≤ 140737488351232 → (∀ x ∈ l0, (Lit.int .u8 x).wf = true) → l1.length ≤ maxLen → l1.length * 1 ≤ 140737488351232 → (∀ x ∈ l1, (Lit.int .u8 x).wf = true) → ∃ k, laws_FnRunning.f k l0 l1 = some true
theorem laws_FnRunning.walk (P : laws_FnRunning.Pure) (A0 : Option Addr) (len0 cap0 : Nat) (z0 : List Int) (A1 : Option Addr) (len1 cap1 : Nat) (z1 : List Int) (w : World) (w0 : (A0 = none ∧ len0 = 0 ∧ cap0 = 0 ∧ z0 = []) ∨ ∃ x, A0 = some x ∧ len0 ≤ cap0 ∧ cap0 ≤ maxLen ∧ z0.length = cap0 ∧ (∀ i, i < z0.length → w.cell? (x.add i) = some (.int .u8 (z0.getD i 0))) ∧ ∀ n ∈ z0, (Lit.int .u8 n).wf = true) (y0 : len0 * 1 ≤ 140737488351232) (w1 : (A1 = none ∧ len1 = 0 ∧ cap1 = 0 ∧ z1 = []) ∨ ∃ x, A1 = some x ∧ len1 ≤ cap1 ∧ cap1 ≤ maxLen ∧ z1.length = cap1 ∧ (∀ i, i < z1.length → w.cell? (x.add i) = some (.int .u8 (z1.getD i 0))) ∧ ∀ n ∈ z1, (Lit.int .u8 n).wf = true) (y1 : len1 * 1 ≤ 140737488351232) :
  Calls Try.prog 5 #[.slice A0 len0 cap0, .slice A1 len1 cap1] w fun e w' => e = .returned (.bool true) ∧ Below w.heap.size w w' := by
 obtain ⟨l0, rfl, hr0, hm0, hw0, hc0⟩ := ReadsInt.ofRowC w0
 obtain ⟨l1, rfl, hr1, hm1, hw1, hc1⟩ := ReadsInt.ofRowC w1
 obtain ⟨k, h⟩ := P l0 l1 hm0 y0 hw0 hm1 y1 hw1
 refine (laws_FnRunning.calls k _ _ l0 _ _ l1 true rfl w (Kd.C_of_reads (d := (0 : Int)) (h1 := fun _ => rfl) hr0) hc0 (Kd.C_of_reads (d := (0 : Int)) (h1 := fun _ => rfl) hr1) hc1 h).mono ?_
 rintro e w' ⟨rfl, hd⟩
 exact ⟨rfl, hd⟩
end Go.Proofs.Ytanflefkbbhimaa.P
