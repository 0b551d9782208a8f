import Derived.Test.YtgmmfdilfpkbmaaXP0FnCountedBest
import Derived.Test.YtgmmfdilfpkbmaaXP7FnCountedBest
import Derived.Test.YtgmmfdilfpkbmaaXP10FnCountedBest
import Derived.Test.YtgmmfdilfpkbmaaXP19FnCountedBest
import Derived.Test.YtgmmfdilfpkbmaaXP22FnCountedBest
import Derived.Test.YtgmmfdilfpkbmaaXP23FnCountedBest
import Derived.Test.YtgmmfdilfpkbmaaXP24FnCountedBest
import Derived.Test.YtgmmfdilfpkbmaaXP25FnCountedBest
import Derived.Test.YtgmmfdilfpkbmaaXP26FnCountedBest
namespace Go.Proofs.Ytgmmfdilfpkbmaa.P
open Go.RowKit Go.Proofs.YtgmmfdilfpkbmaaW.PrintWords Go.Proofs.YtgmmfdilfpkbmaaW.PrintLast Go.Proofs.YtgmmfdilfpkbmaaW.PrintMore
attribute [local go_sem] max2_int min2_int max_two min_two max_three min_three max_four min_four
set_option linter.unusedVariables false
set_option linter.unusedSimpArgs false
mutual
def laws_FnCountedBest.j0 : Nat → Int → Int → Int → List Int → Int → Int → List Int → Bool → Int → List Int → Option (Bool)
 | 0, _, _, _, _, _, _, _, _, _, _ => none
 | k + 1, x6, x7, x8, x9, x11, x13, x15, x92, x780000, x780001 => if x92 = true then (some false) else (laws_FnCountedBest.l0 k x6 x7 x8 x9 x11 x13 x15 0 0 x780000 x780001)
def laws_FnCountedBest.l0 : Nat → Int → Int → Int → List Int → Int → Int → List Int → Int → Int → Int → List Int → Option (Bool)
 | 0, _, _, _, _, _, _, _, _, _, _, _ => none
 | k + 1, x6, x7, x8, x9, x11, x13, x15, x17, x18, x780000, x780001 => if 0 ≤ (IntKind.u64.wrap (x6)) then (if x18 < (shl .i64 1 (IntKind.u64.wrap (x6))) then ((some (([] : List Int) : List Int)).bind fun y797 => (if y797.length + x15.length < 17592186044416 then (laws_FnCountedBest.l1 k x6 x7 x8 x9 x11 x13 x15 x17 x18 (y797 ++ x15) 0 x780000 x780001) else (none))) else (some (x17 == x11))) else (none)
def laws_FnCountedBest.l1 : Nat → Int → Int → Int → List Int → Int → Int → List Int → Int → Int → List Int → Int → Int → List Int → Option (Bool)
 | 0, _, _, _, _, _, _, _, _, _, _, _, _, _ => none
 | k + 1, x6, x7, x8, x9, x11, x13, x15, x17, x18, x19, x20, x780000, x780001 => if x20 < x6 then (if 0 ≤ x20 then (if x20 < (x19.length : Int) then (if 0 ≤ (IntKind.u64.wrap (wrap64 ((wrap64 (x6 - 1)) - x20))) then (laws_FnCountedBest.l1 k x6 x7 x8 x9 x11 x13 x15 x17 x18 (x19.set (x20 : Int).toNat (wrap64 ((rd x19 x20) + (Go.bits .and .i64 (shr .i64 x18 (IntKind.u64.wrap (wrap64 ((wrap64 (x6 - 1)) - x20)))) 1)))) (wrap64 (x20 + 1)) x780000 x780001) else (none)) else (none)) else (none)) else ((Za0.f k x780000 x780001 x19).bind fun t805 => (if t805 = true then ((laws_r8Sum.f k x19).bind fun t806 => (laws_FnCountedBest.j3 k x6 x7 x8 x9 x11 x13 x15 x17 x18 x19 (t806 != x8) x780000 x780001)) else (laws_FnCountedBest.j3 k x6 x7 x8 x9 x11 x13 x15 x17 x18 x19 true x780000 x780001)))
def laws_FnCountedBest.j3 : Nat → Int → Int → Int → List Int → Int → Int → List Int → Int → Int → List Int → Bool → Int → List Int → Option (Bool)
 | 0, _, _, _, _, _, _, _, _, _, _, _, _, _ => none
 | k + 1, x6, x7, x8, x9, x11, x13, x15, x17, x18, x19, x131, x780000, x780001 => if x131 = true then (laws_FnCountedBest.l0 k x6 x7 x8 x9 x11 x13 x15 x17 (wrap64 (x18 + 1)) x780000 x780001) else ((Za9.f k x780000 x780001 x19 x7).bind fun bt807 => (if bt807.2 = true then (laws_FnCountedBest.j4 k x6 x7 x8 x9 x11 x13 x15 x17 x18 x19 bt807.1 (decide (bt807.1 < x13)) x780000 x780001) else (laws_FnCountedBest.j4 k x6 x7 x8 x9 x11 x13 x15 x17 x18 x19 bt807.1 true x780000 x780001)))
def laws_FnCountedBest.j4 : Nat → Int → Int → Int → List Int → Int → Int → List Int → Int → Int → List Int → Int → Bool → Int → List Int → Option (Bool)
 | 0, _, _, _, _, _, _, _, _, _, _, _, _, _, _ => none
 | k + 1, x6, x7, x8, x9, x11, x13, x15, x17, x18, x19, x21, x145, x780000, x780001 => if x145 = true then (some false) else (if x21 = x13 then (if (wrap64 (x17 + 1)) = 1 then ((laws_r8Same.f k x19 x9).bind fun t809 => (if t809 = true then (laws_FnCountedBest.l0 k x6 x7 x8 x9 x11 x13 x15 (wrap64 (x17 + 1)) (wrap64 (x18 + 1)) x780000 x780001) else (some false))) else (laws_FnCountedBest.l0 k x6 x7 x8 x9 x11 x13 x15 (wrap64 (x17 + 1)) (wrap64 (x18 + 1)) x780000 x780001)) else (laws_FnCountedBest.l0 k x6 x7 x8 x9 x11 x13 x15 x17 (wrap64 (x18 + 1)) x780000 x780001))
end
def laws_FnCountedBest.f (k : Nat) (l0 : List Int) (l1 : List Int) : Option (Bool) := (laws_r8Long.f l0 l1).bind fun t774 => (if t774 = true then (some true) else ((Za6.f k l0).bind fun bt775 => ((laws_r8At.f l1 40 3).bind fun t780 => ((Za5.f k l1 bt775.1 bt775.2).bind fun t781 => ((laws_r8Sum.f k t781).bind fun t784 => ((Za7.f k bt775.1 bt775.2 t784 t780).bind fun bt785 => ((Za2.f k bt775.1 bt775.2 t784 t780).bind fun bt789 => ((Za9.f k bt775.1 bt775.2 bt785.1 t780).bind fun bt791 => ((impl_FloorsOf.f k bt775.1 bt775.2).bind fun bt793 => (if bt785.2 = true then (if bt789.2 = true then (if bt791.2 = true then (if bt793.2 = true then (if (bt785.1.length : Int) = (bt775.2.length : Int) then (if (bt793.1.length : Int) = (bt775.2.length : Int) then (laws_FnCountedBest.j0 k (bt775.2.length : Int) t780 t784 bt785.1 bt789.1 bt791.1 bt793.1 (decide ((bt775.2.length : Int) > 7)) bt775.1 bt775.2) else (laws_FnCountedBest.j0 k (bt775.2.length : Int) t780 t784 bt785.1 bt789.1 bt791.1 bt793.1 true bt775.1 bt775.2)) else (laws_FnCountedBest.j0 k (bt775.2.length : Int) t780 t784 bt785.1 bt789.1 bt791.1 bt793.1 true bt775.1 bt775.2)) else (laws_FnCountedBest.j0 k (bt775.2.length : Int) t780 t784 bt785.1 bt789.1 bt791.1 bt793.1 true bt775.1 bt775.2)) else (laws_FnCountedBest.j0 k (bt775.2.length : Int) t780 t784 bt785.1 bt789.1 bt791.1 bt793.1 true bt775.1 bt775.2)) else (laws_FnCountedBest.j0 k (bt775.2.length : Int) t780 t784 bt785.1 bt789.1 bt791.1 bt793.1 true bt775.1 bt775.2)) else (laws_FnCountedBest.j0 k (bt775.2.length : Int) t780 t784 bt785.1 bt789.1 bt791.1 bt793.1 true bt775.1 bt775.2)))))))))))
set_option maxHeartbeats 8000000 in
set_option maxRecDepth 100000 in
theorem laws_FnCountedBest.calls (k : Nat) (A0 : Option Addr) (c0 : Nat) (l0 : List Int) (A1 : Option Addr) (c1 : Nat) (l1 : List Int) (r : Bool) (w : World) (hr0 : Kd.C (Kd.int .u8) w A0 l0.length l0) (hc0 : l0.length ≤ c0) (hr1 : Kd.C (Kd.int .u8) w A1 l1.length l1) (hc1 : l1.length ≤ c1) (h : laws_FnCountedBest.f k l0 l1 = some r) :
  Calls Try.prog 8 #[.slice A0 l0.length c0, .slice A1 l1.length c1] w fun e w' => e = .returned (.bool r) ∧ Below w.heap.size w w' := by
 have hu28 := Try.underlying28
 have HR0 := Zab.mk hr0
 have HC0 := Zab.mk hc0
 clear hr0 hc0
 have HR1 := Zab.mk hr1
 have HC1 := Zab.mk hc1
 clear hr1 hc1
 have HB := Zab.mk (Below.refl w.heap.size w)
 have H : ((laws_r8Long.f l0 l1).bind fun t774 => (if t774 = true then (some true) else ((Za6.f k l0).bind fun bt775 => ((laws_r8At.f l1 40 3).bind fun t780 => ((Za5.f k l1 bt775.1 bt775.2).bind fun t781 => ((laws_r8Sum.f k t781).bind fun t784 => ((Za7.f k bt775.1 bt775.2 t784 t780).bind fun bt785 => ((Za2.f k bt775.1 bt775.2 t784 t780).bind fun bt789 => ((Za9.f k bt775.1 bt775.2 bt785.1 t780).bind fun bt791 => ((impl_FloorsOf.f k bt775.1 bt775.2).bind fun bt793 => (if bt785.2 = true then (if bt789.2 = true then (if bt791.2 = true then (if bt793.2 = true then (if (bt785.1.length : Int) = (bt775.2.length : Int) then (if (bt793.1.length : Int) = (bt775.2.length : Int) then (laws_FnCountedBest.j0 k (bt775.2.length : Int) t780 t784 bt785.1 bt789.1 bt791.1 bt793.1 (decide ((bt775.2.length : Int) > 7)) bt775.1 bt775.2) else (laws_FnCountedBest.j0 k (bt775.2.length : Int) t780 t784 bt785.1 bt789.1 bt791.1 bt793.1 true bt775.1 bt775.2)) else (laws_FnCountedBest.j0 k (bt775.2.length : Int) t780 t784 bt785.1 bt789.1 bt791.1 bt793.1 true bt775.1 bt775.2)) else (laws_FnCountedBest.j0 k (bt775.2.length : Int) t780 t784 bt785.1 bt789.1 bt791.1 bt793.1 true bt775.1 bt775.2)) else (laws_FnCountedBest.j0 k (bt775.2.length : Int) t780 t784 bt785.1 bt789.1 bt791.1 bt793.1 true bt775.1 bt775.2)) else (laws_FnCountedBest.j0 k (bt775.2.length : Int) t780 t784 bt785.1 bt789.1 bt791.1 bt793.1 true bt775.1 bt775.2)) else (laws_FnCountedBest.j0 k (bt775.2.length : Int) t780 t784 bt785.1 bt789.1 bt791.1 bt793.1 true bt775.1 bt775.2)))))))))))) = some r := h
 clear h
 replace H := Option.bind_eq_some_iff.mp H
 obtain ⟨t774, A30, H⟩ := H
 replace H : (if t774 = true then (some true) else ((Za6.f k l0).bind fun bt775 => ((laws_r8At.f l1 40 3).bind fun t780 => ((Za5.f k l1 bt775.1 bt775.2).bind fun t781 => ((laws_r8Sum.f k t781).bind fun t784 => ((Za7.f k bt775.1 bt775.2 t784 t780).bind fun bt785 => ((Za2.f k bt775.1 bt775.2 t784 t780).bind fun bt789 => ((Za9.f k bt775.1 bt775.2 bt785.1 t780).bind fun bt791 => ((impl_FloorsOf.f k bt775.1 bt775.2).bind fun bt793 => (if bt785.2 = true then (if bt789.2 = true then (if bt791.2 = true then (if bt793.2 = true then (if (bt785.1.length : Int) = (bt775.2.length : Int) then (if (bt793.1.length : Int) = (bt775.2.length : Int) then (laws_FnCountedBest.j0 k (bt775.2.length : Int) t780 t784 bt785.1 bt789.1 bt791.1 bt793.1 (decide ((bt775.2.length : Int) > 7)) bt775.1 bt775.2) else (laws_FnCountedBest.j0 k (bt775.2.length : Int) t780 t784 bt785.1 bt789.1 bt791.1 bt793.1 true bt775.1 bt775.2)) else (laws_FnCountedBest.j0 k (bt775.2.length : Int) t780 t784 bt785.1 bt789.1 bt791.1 bt793.1 true bt775.1 bt775.2)) else (laws_FnCountedBest.j0 k (bt775.2.length : Int) t780 t784 bt785.1 bt789.1 bt791.1 bt793.1 true bt775.1 bt775.2)) else (laws_FnCountedBest.j0 k (bt775.2.length : Int) t780 t784 bt785.1 bt789.1 bt791.1 bt793.1 true bt775.1 bt775.2)) else (laws_FnCountedBest.j0 k (bt775.2.length : Int) t780 t784 bt785.1 bt789.1 bt791.1 bt793.1 true bt775.1 bt775.2)) else (laws_FnCountedBest.j0 k (bt775.2.length : Int) t780 t784 bt785.1 bt789.1 bt791.1 bt793.1 true bt775.1 bt775.2))))))))))) = some r := H
 have A3 := Zab.mk A30
 clear A30
 by_cases c4 : t774 = true
 ·subst c4
  have H1 : (some true) = some r := by rw [if_pos rfl] at H; exact H
  clear H
  have H := H1
  clear H1
  obtain rfl := Option.some.inj H
  as_aux_lemma =>
   go_enter Try.func8, Try.ntmps8
   go_wp2_with (first | ((with_reducible refine Zay (f := 33) rfl ?_); refine goesL_ (some 25) rfl rfl Try.func33 (by kernel_rfl) rfl #[.slice A0 l0.length c0, .slice A1 l1.length c1] rfl (by (try simp only [List.map_toArray, List.map_cons, List.map_nil]); first | done | rfl | (simp only [List.length_drop, List.length_take]; rfl)) ?_; (with_reducible refine (laws_r8Long.calls _ _ l0 _ _ l1 true _ ?side1 ?side2 ?side3 ?side4 A3.out).mono ?_); (case side1 => repeat (first | exact HR0.out | (with_reducible refine Kd.C_alloc ?_ _) | (with_reducible refine Kd.C_drewN ?_ _) | (with_reducible refine Kd.C_drew ?_))); (case side2 => exact HC0.out); (case side3 => repeat (first | exact HR1.out | (with_reducible refine Kd.C_alloc ?_ _) | (with_reducible refine Kd.C_drewN ?_ _) | (with_reducible refine Kd.C_drew ?_))); (case side4 => exact HC1.out); rintro e w' ⟨rfl, ⟨nd, rfl⟩⟩; refine ⟨_, rfl, ?_⟩))
   go_ret
   exact ⟨by first | rfl | (simp [Zas, Zar] <;> rfl) | (simp [*, Zas, Zar] <;> rfl), by repeat (first | (with_reducible first | exact HB.out | apply Zad | apply Zaa | apply Zac) | exact HB.out)⟩
 ·replace c4 := Bool.eq_false_iff.mpr c4
  subst c4
  have H1 : ((Za6.f k l0).bind fun bt775 => ((laws_r8At.f l1 40 3).bind fun t780 => ((Za5.f k l1 bt775.1 bt775.2).bind fun t781 => ((laws_r8Sum.f k t781).bind fun t784 => ((Za7.f k bt775.1 bt775.2 t784 t780).bind fun bt785 => ((Za2.f k bt775.1 bt775.2 t784 t780).bind fun bt789 => ((Za9.f k bt775.1 bt775.2 bt785.1 t780).bind fun bt791 => ((impl_FloorsOf.f k bt775.1 bt775.2).bind fun bt793 => (if bt785.2 = true then (if bt789.2 = true then (if bt791.2 = true then (if bt793.2 = true then (if (bt785.1.length : Int) = (bt775.2.length : Int) then (if (bt793.1.length : Int) = (bt775.2.length : Int) then (laws_FnCountedBest.j0 k (bt775.2.length : Int) t780 t784 bt785.1 bt789.1 bt791.1 bt793.1 (decide ((bt775.2.length : Int) > 7)) bt775.1 bt775.2) else (laws_FnCountedBest.j0 k (bt775.2.length : Int) t780 t784 bt785.1 bt789.1 bt791.1 bt793.1 true bt775.1 bt775.2)) else (laws_FnCountedBest.j0 k (bt775.2.length : Int) t780 t784 bt785.1 bt789.1 bt791.1 bt793.1 true bt775.1 bt775.2)) else (laws_FnCountedBest.j0 k (bt775.2.length : Int) t780 t784 bt785.1 bt789.1 bt791.1 bt793.1 true bt775.1 bt775.2)) else (laws_FnCountedBest.j0 k (bt775.2.length : Int) t780 t784 bt785.1 bt789.1 bt791.1 bt793.1 true bt775.1 bt775.2)) else (laws_FnCountedBest.j0 k (bt775.2.length : Int) t780 t784 bt785.1 bt789.1 bt791.1 bt793.1 true bt775.1 bt775.2)) else (laws_FnCountedBest.j0 k (bt775.2.length : Int) t780 t784 bt785.1 bt789.1 bt791.1 bt793.1 true bt775.1 bt775.2)))))))))) = some r := by rw [if_neg (show ¬ (false = true) by decide)] at H; exact H
  clear H
  have H := H1
  clear H1
  replace H := Option.bind_eq_some_iff.mp H
  obtain ⟨⟨t775, t776⟩, A50, H⟩ := H
  replace H : ((laws_r8At.f l1 40 3).bind fun t780 => ((Za5.f k l1 t775 t776).bind fun t781 => ((laws_r8Sum.f k t781).bind fun t784 => ((Za7.f k t775 t776 t784 t780).bind fun bt785 => ((Za2.f k t775 t776 t784 t780).bind fun bt789 => ((Za9.f k t775 t776 bt785.1 t780).bind fun bt791 => ((impl_FloorsOf.f k t775 t776).bind fun bt793 => (if bt785.2 = true then (if bt789.2 = true then (if bt791.2 = true then (if bt793.2 = true then (if (bt785.1.length : Int) = (t776.length : Int) then (if (bt793.1.length : Int) = (t776.length : Int) then (laws_FnCountedBest.j0 k (t776.length : Int) t780 t784 bt785.1 bt789.1 bt791.1 bt793.1 (decide ((t776.length : Int) > 7)) t775 t776) else (laws_FnCountedBest.j0 k (t776.length : Int) t780 t784 bt785.1 bt789.1 bt791.1 bt793.1 true t775 t776)) else (laws_FnCountedBest.j0 k (t776.length : Int) t780 t784 bt785.1 bt789.1 bt791.1 bt793.1 true t775 t776)) else (laws_FnCountedBest.j0 k (t776.length : Int) t780 t784 bt785.1 bt789.1 bt791.1 bt793.1 true t775 t776)) else (laws_FnCountedBest.j0 k (t776.length : Int) t780 t784 bt785.1 bt789.1 bt791.1 bt793.1 true t775 t776)) else (laws_FnCountedBest.j0 k (t776.length : Int) t780 t784 bt785.1 bt789.1 bt791.1 bt793.1 true t775 t776)) else (laws_FnCountedBest.j0 k (t776.length : Int) t780 t784 bt785.1 bt789.1 bt791.1 bt793.1 true t775 t776))))))))) = some r := H
  have A5 := Zab.mk A50
  clear A50
  replace H := Option.bind_eq_some_iff.mp H
  obtain ⟨t780, A60, H⟩ := H
  replace H : ((Za5.f k l1 t775 t776).bind fun t781 => ((laws_r8Sum.f k t781).bind fun t784 => ((Za7.f k t775 t776 t784 t780).bind fun bt785 => ((Za2.f k t775 t776 t784 t780).bind fun bt789 => ((Za9.f k t775 t776 bt785.1 t780).bind fun bt791 => ((impl_FloorsOf.f k t775 t776).bind fun bt793 => (if bt785.2 = true then (if bt789.2 = true then (if bt791.2 = true then (if bt793.2 = true then (if (bt785.1.length : Int) = (t776.length : Int) then (if (bt793.1.length : Int) = (t776.length : Int) then (laws_FnCountedBest.j0 k (t776.length : Int) t780 t784 bt785.1 bt789.1 bt791.1 bt793.1 (decide ((t776.length : Int) > 7)) t775 t776) else (laws_FnCountedBest.j0 k (t776.length : Int) t780 t784 bt785.1 bt789.1 bt791.1 bt793.1 true t775 t776)) else (laws_FnCountedBest.j0 k (t776.length : Int) t780 t784 bt785.1 bt789.1 bt791.1 bt793.1 true t775 t776)) else (laws_FnCountedBest.j0 k (t776.length : Int) t780 t784 bt785.1 bt789.1 bt791.1 bt793.1 true t775 t776)) else (laws_FnCountedBest.j0 k (t776.length : Int) t780 t784 bt785.1 bt789.1 bt791.1 bt793.1 true t775 t776)) else (laws_FnCountedBest.j0 k (t776.length : Int) t780 t784 bt785.1 bt789.1 bt791.1 bt793.1 true t775 t776)) else (laws_FnCountedBest.j0 k (t776.length : Int) t780 t784 bt785.1 bt789.1 bt791.1 bt793.1 true t775 t776)))))))) = some r := H
  have A6 := Zab.mk A60
  clear A60
  replace H := Option.bind_eq_some_iff.mp H
  obtain ⟨t781, A70, H⟩ := H
  replace H : ((laws_r8Sum.f k t781).bind fun t784 => ((Za7.f k t775 t776 t784 t780).bind fun bt785 => ((Za2.f k t775 t776 t784 t780).bind fun bt789 => ((Za9.f k t775 t776 bt785.1 t780).bind fun bt791 => ((impl_FloorsOf.f k t775 t776).bind fun bt793 => (if bt785.2 = true then (if bt789.2 = true then (if bt791.2 = true then (if bt793.2 = true then (if (bt785.1.length : Int) = (t776.length : Int) then (if (bt793.1.length : Int) = (t776.length : Int) then (laws_FnCountedBest.j0 k (t776.length : Int) t780 t784 bt785.1 bt789.1 bt791.1 bt793.1 (decide ((t776.length : Int) > 7)) t775 t776) else (laws_FnCountedBest.j0 k (t776.length : Int) t780 t784 bt785.1 bt789.1 bt791.1 bt793.1 true t775 t776)) else (laws_FnCountedBest.j0 k (t776.length : Int) t780 t784 bt785.1 bt789.1 bt791.1 bt793.1 true t775 t776)) else (laws_FnCountedBest.j0 k (t776.length : Int) t780 t784 bt785.1 bt789.1 bt791.1 bt793.1 true t775 t776)) else (laws_FnCountedBest.j0 k (t776.length : Int) t780 t784 bt785.1 bt789.1 bt791.1 bt793.1 true t775 t776)) else (laws_FnCountedBest.j0 k (t776.length : Int) t780 t784 bt785.1 bt789.1 bt791.1 bt793.1 true t775 t776)) else (laws_FnCountedBest.j0 k (t776.length : Int) t780 t784 bt785.1 bt789.1 bt791.1 bt793.1 true t775 t776))))))) = some r := H
  have A7 := Zab.mk A70
  clear A70
  replace H := Option.bind_eq_some_iff.mp H
  obtain ⟨t784, A80, H⟩ := H
  replace H : ((Za7.f k t775 t776 t784 t780).bind fun bt785 => ((Za2.f k t775 t776 t784 t780).bind fun bt789 => ((Za9.f k t775 t776 bt785.1 t780).bind fun bt791 => ((impl_FloorsOf.f k t775 t776).bind fun bt793 => (if bt785.2 = true then (if bt789.2 = true then (if bt791.2 = true then (if bt793.2 = true then (if (bt785.1.length : Int) = (t776.length : Int) then (if (bt793.1.length : Int) = (t776.length : Int) then (laws_FnCountedBest.j0 k (t776.length : Int) t780 t784 bt785.1 bt789.1 bt791.1 bt793.1 (decide ((t776.length : Int) > 7)) t775 t776) else (laws_FnCountedBest.j0 k (t776.length : Int) t780 t784 bt785.1 bt789.1 bt791.1 bt793.1 true t775 t776)) else (laws_FnCountedBest.j0 k (t776.length : Int) t780 t784 bt785.1 bt789.1 bt791.1 bt793.1 true t775 t776)) else (laws_FnCountedBest.j0 k (t776.length : Int) t780 t784 bt785.1 bt789.1 bt791.1 bt793.1 true t775 t776)) else (laws_FnCountedBest.j0 k (t776.length : Int) t780 t784 bt785.1 bt789.1 bt791.1 bt793.1 true t775 t776)) else (laws_FnCountedBest.j0 k (t776.length : Int) t780 t784 bt785.1 bt789.1 bt791.1 bt793.1 true t775 t776)) else (laws_FnCountedBest.j0 k (t776.length : Int) t780 t784 bt785.1 bt789.1 bt791.1 bt793.1 true t775 t776)))))) = some r := H
  have A8 := Zab.mk A80
  clear A80
  replace H := Option.bind_eq_some_iff.mp H
  obtain ⟨⟨t785, t788⟩, A90, H⟩ := H
  replace H : ((Za2.f k t775 t776 t784 t780).bind fun bt789 => ((Za9.f k t775 t776 t785 t780).bind fun bt791 => ((impl_FloorsOf.f k t775 t776).bind fun bt793 => (if t788 = true then (if bt789.2 = true then (if bt791.2 = true then (if bt793.2 = true then (if (t785.length : Int) = (t776.length : Int) then (if (bt793.1.length : Int) = (t776.length : Int) then (laws_FnCountedBest.j0 k (t776.length : Int) t780 t784 t785 bt789.1 bt791.1 bt793.1 (decide ((t776.length : Int) > 7)) t775 t776) else (laws_FnCountedBest.j0 k (t776.length : Int) t780 t784 t785 bt789.1 bt791.1 bt793.1 true t775 t776)) else (laws_FnCountedBest.j0 k (t776.length : Int) t780 t784 t785 bt789.1 bt791.1 bt793.1 true t775 t776)) else (laws_FnCountedBest.j0 k (t776.length : Int) t780 t784 t785 bt789.1 bt791.1 bt793.1 true t775 t776)) else (laws_FnCountedBest.j0 k (t776.length : Int) t780 t784 t785 bt789.1 bt791.1 bt793.1 true t775 t776)) else (laws_FnCountedBest.j0 k (t776.length : Int) t780 t784 t785 bt789.1 bt791.1 bt793.1 true t775 t776)) else (laws_FnCountedBest.j0 k (t776.length : Int) t780 t784 t785 bt789.1 bt791.1 bt793.1 true t775 t776))))) = some r := H
  have A9 := Zab.mk A90
  clear A90
  replace H := Option.bind_eq_some_iff.mp H
  obtain ⟨⟨t789, t790⟩, A100, H⟩ := H
  replace H : ((Za9.f k t775 t776 t785 t780).bind fun bt791 => ((impl_FloorsOf.f k t775 t776).bind fun bt793 => (if t788 = true then (if t790 = true then (if bt791.2 = true then (if bt793.2 = true then (if (t785.length : Int) = (t776.length : Int) then (if (bt793.1.length : Int) = (t776.length : Int) then (laws_FnCountedBest.j0 k (t776.length : Int) t780 t784 t785 t789 bt791.1 bt793.1 (decide ((t776.length : Int) > 7)) t775 t776) else (laws_FnCountedBest.j0 k (t776.length : Int) t780 t784 t785 t789 bt791.1 bt793.1 true t775 t776)) else (laws_FnCountedBest.j0 k (t776.length : Int) t780 t784 t785 t789 bt791.1 bt793.1 true t775 t776)) else (laws_FnCountedBest.j0 k (t776.length : Int) t780 t784 t785 t789 bt791.1 bt793.1 true t775 t776)) else (laws_FnCountedBest.j0 k (t776.length : Int) t780 t784 t785 t789 bt791.1 bt793.1 true t775 t776)) else (laws_FnCountedBest.j0 k (t776.length : Int) t780 t784 t785 t789 bt791.1 bt793.1 true t775 t776)) else (laws_FnCountedBest.j0 k (t776.length : Int) t780 t784 t785 t789 bt791.1 bt793.1 true t775 t776)))) = some r := H
  have A10 := Zab.mk A100
  clear A100
  replace H := Option.bind_eq_some_iff.mp H
  obtain ⟨⟨t791, t792⟩, A110, H⟩ := H
  replace H : ((impl_FloorsOf.f k t775 t776).bind fun bt793 => (if t788 = true then (if t790 = true then (if t792 = true then (if bt793.2 = true then (if (t785.length : Int) = (t776.length : Int) then (if (bt793.1.length : Int) = (t776.length : Int) then (laws_FnCountedBest.j0 k (t776.length : Int) t780 t784 t785 t789 t791 bt793.1 (decide ((t776.length : Int) > 7)) t775 t776) else (laws_FnCountedBest.j0 k (t776.length : Int) t780 t784 t785 t789 t791 bt793.1 true t775 t776)) else (laws_FnCountedBest.j0 k (t776.length : Int) t780 t784 t785 t789 t791 bt793.1 true t775 t776)) else (laws_FnCountedBest.j0 k (t776.length : Int) t780 t784 t785 t789 t791 bt793.1 true t775 t776)) else (laws_FnCountedBest.j0 k (t776.length : Int) t780 t784 t785 t789 t791 bt793.1 true t775 t776)) else (laws_FnCountedBest.j0 k (t776.length : Int) t780 t784 t785 t789 t791 bt793.1 true t775 t776)) else (laws_FnCountedBest.j0 k (t776.length : Int) t780 t784 t785 t789 t791 bt793.1 true t775 t776))) = some r := H
  have A11 := Zab.mk A110
  clear A110
  replace H := Option.bind_eq_some_iff.mp H
  obtain ⟨⟨t793, t796⟩, A120, H⟩ := H
  replace H : (if t788 = true then (if t790 = true then (if t792 = true then (if t796 = true then (if (t785.length : Int) = (t776.length : Int) then (if (t793.length : Int) = (t776.length : Int) then (laws_FnCountedBest.j0 k (t776.length : Int) t780 t784 t785 t789 t791 t793 (decide ((t776.length : Int) > 7)) t775 t776) else (laws_FnCountedBest.j0 k (t776.length : Int) t780 t784 t785 t789 t791 t793 true t775 t776)) else (laws_FnCountedBest.j0 k (t776.length : Int) t780 t784 t785 t789 t791 t793 true t775 t776)) else (laws_FnCountedBest.j0 k (t776.length : Int) t780 t784 t785 t789 t791 t793 true t775 t776)) else (laws_FnCountedBest.j0 k (t776.length : Int) t780 t784 t785 t789 t791 t793 true t775 t776)) else (laws_FnCountedBest.j0 k (t776.length : Int) t780 t784 t785 t789 t791 t793 true t775 t776)) else (laws_FnCountedBest.j0 k (t776.length : Int) t780 t784 t785 t789 t791 t793 true t775 t776)) = some r := H
  have A12 := Zab.mk A120
  clear A120
  have HC13 := Zab.mk H
  clear H
  go_enter Try.func8, Try.ntmps8
  go_upto_region 11 with (first | ((with_reducible refine Zay (f := 33) rfl ?_); refine goesL_ (some 25) rfl rfl Try.func33 (by kernel_rfl) rfl #[.slice A0 l0.length c0, .slice A1 l1.length c1] rfl (by (try simp only [List.map_toArray, List.map_cons, List.map_nil]); first | done | rfl | (simp only [List.length_drop, List.length_take]; rfl)) ?_; (with_reducible refine (laws_r8Long.calls _ _ l0 _ _ l1 false _ ?side1 ?side2 ?side3 ?side4 A3.out).mono ?_); (case side1 => repeat (first | exact HR0.out | (with_reducible refine Kd.C_alloc ?_ _) | (with_reducible refine Kd.C_drewN ?_ _) | (with_reducible refine Kd.C_drew ?_))); (case side2 => exact HC0.out); (case side3 => repeat (first | exact HR1.out | (with_reducible refine Kd.C_alloc ?_ _) | (with_reducible refine Kd.C_drewN ?_ _) | (with_reducible refine Kd.C_drew ?_))); (case side4 => exact HC1.out); rintro e w' ⟨rfl, ⟨nd, rfl⟩⟩; refine ⟨_, rfl, ?_⟩) | ((with_reducible refine Zay (f := 41) rfl ?_); refine goesL_ (some 27) rfl rfl Try.func41 (by kernel_rfl) rfl #[.slice A0 l0.length c0] rfl (by (try simp only [List.map_toArray, List.map_cons, List.map_nil]); first | done | rfl | (simp only [List.length_drop, List.length_take]; rfl)) ?_; (with_reducible refine (Za6.calls k _ _ l0 t775 t776 _ ?side1 ?side2 A5.out).mono ?_); (case side1 => repeat (first | exact HR0.out | (with_reducible refine Kd.C_alloc ?_ _) | (with_reducible refine Kd.C_drewN ?_ _) | (with_reducible refine Kd.C_drew ?_))); (case side2 => exact HC0.out); rintro e w14 ⟨v777, rfl, ho0, hb⟩; refine ⟨_, rfl, ?_⟩; have n0_ := Zab.mk (Kd.R_lower ho0 (Zan (by repeat (first | (with_reducible first | exact HB.out | apply Zad | apply Zaa | apply Zac) | exact HB.out)))); have n1_ := Zab.mk (Zap (by repeat (first | (with_reducible first | exact HB.out | apply Zad | apply Zaa | apply Zac) | exact HB.out)) hb); clear HB; have HO778 := n0_; have HB := n1_; clear n0_ n1_; (try clear hb); (try clear hb2); (try clear hk); (try clear hi); (try clear ho0)) | ((with_reducible refine gate_dst (N := 5) rfl ?_); (try (refine gate_guard (by rfl) ?_; dsimp only)); refine box_event ?hg (N := 5) ?hd (cs := #[.int .i64 0, .slice none 0 0]) (t := 28) ?hr ?_; (case hd => rfl); (case hg => rfl); (case hr => first | (go_simp; done) | (go_simp; rfl)); intro gb779 hg w15 hbox hb; have n0_ := Zab.mk (Kd.R_below (by (with_reducible repeat (first | apply Kd.R_alloc | apply Kd.R_drewN | apply Kd.R_drew)); exact HO778.out) hb); have n1_ := Zab.mk (Zap (by repeat (first | (with_reducible first | exact HB.out | apply Zad | apply Zaa | apply Zac) | exact HB.out)) hb); have n2_ := Zab.mk (hbox); have n3_ := Zab.mk ((by rw [hg]; exact (Zan (by repeat (first | (with_reducible first | exact HB.out | apply Zad | apply Zaa | apply Zac) | exact HB.out))) : w.heap.size ≤ gb779)); have n4_ := Zab.mk ((by rw [hg]; exact (Zan (by repeat (first | (with_reducible first | exact HB.out | apply Zad | apply Zaa | apply Zac) | exact HB.out))) : w.heap.size ≤ gb779)); clear HO778; clear HB; have HO778 := n0_; have HB := n1_; have BK779 := n2_; have GW779 := n3_; have GE779 := n4_; clear n0_ n1_ n2_ n3_ n4_; clear hb hbox hg; have hcz16_0 : w15.cell? ⟨gb779, 0, none⟩ = some (.int .i64 0) := (Zaj BK779.out 0).trans rfl; have hcz16_1 : w15.cell? ⟨gb779, 1, none⟩ = some (.slice none 0 0) := (Zaj BK779.out 1).trans rfl; have hfz16_0 := Zak BK779.out 0; have hfz16_1 := Zak BK779.out 1; obtain ⟨Ao17, co17, eo17⟩ := Kd.R_slice HO778.out; subst eo17) | ((with_reducible refine Zay (f := 35) rfl ?_); refine goesL_ (some 32) rfl rfl Try.func35 (by kernel_rfl) rfl #[.slice A1 l1.length c1, .int .i64 40, .int .i64 3] rfl (by (try simp only [List.map_toArray, List.map_cons, List.map_nil]); first | done | rfl | (simp only [List.length_drop, List.length_take]; rfl)) ?_; (with_reducible refine (laws_r8At.calls _ _ l1 40 3 t780 _ ?side1 ?side2 A6.out).mono ?_); (case side1 => exact Kd.C_below HR1.out (by repeat (first | (with_reducible first | exact HB.out | apply Zad | apply Zaa | apply Zac | refine Zae ?_ GE779.out) | exact HB.out))); (case side2 => exact HC1.out); rintro e w' ⟨rfl, ⟨nd, rfl⟩⟩; refine ⟨_, rfl, ?_⟩) | ((with_reducible refine Zay (f := 42) rfl ?_); refine goesL_ (some 35) rfl rfl Try.func42 (by kernel_rfl) rfl #[.slice A1 l1.length c1, .agg #[.int .i64 t775, .slice Ao17 t776.length co17]] rfl (by (try simp only [List.map_toArray, List.map_cons, List.map_nil]); first | done | rfl | (simp only [List.length_drop, List.length_take]; rfl)) ?_; (with_reducible refine (Za5.calls k _ _ l1 t775 _ _ t776 t781 _ ?side1 ?side2 ?side3 ?side4 A7.out).mono ?_); (case side1 => exact Kd.C_below HR1.out (by repeat (first | (with_reducible first | exact HB.out | apply Zad | apply Zaa | apply Zac | refine Zae ?_ GE779.out) | exact HB.out))); (case side2 => exact HC1.out); (case side3 => refine (Kd.R_reads' (e := 2) (base := w.heap.size) (ok := fun k_ => True) (n := t776.length) (c := co17) ?_).2.2; exact (by (with_reducible repeat (first | apply Kd.R_alloc | apply Kd.R_drewN | apply Kd.R_drew)); exact (Kd.R_mono (Kd.R_far (p := ⟨gb779, 1, none⟩) (Kd.R_far (p := ⟨gb779, 0, none⟩) (Kd.R_types HO778.out BK779.out (by decide)) (fun _ hk => hk.2) (.int .i64 t775)) (fun _ hk => hk.2) (.slice Ao17 t776.length co17)) (fun _ h_ => h_.1)))); (case side4 => exact (Kd.R_reads' HO778.out).2.1); rintro e w18 ⟨v782, rfl, ho0, hb⟩; refine ⟨_, rfl, ?_⟩; have n0_ := Zab.mk (Kd.R_elder' (by (with_reducible repeat (first | apply Kd.R_alloc | apply Kd.R_drewN | apply Kd.R_drew)); exact (Kd.R_mono (Kd.R_far (p := ⟨gb779, 1, none⟩) (Kd.R_far (p := ⟨gb779, 0, none⟩) (Kd.R_types HO778.out BK779.out (by decide)) (fun _ hk => hk.2) (.int .i64 t775)) (fun _ hk => hk.2) (.slice Ao17 t776.length co17)) (fun _ h_ => h_.1))) (Kd.R_base ho0) hb); have n1_ := Zab.mk (Kd.R_lower (Kd.R_new' ho0 (Kd.R_lt (by (with_reducible repeat (first | apply Kd.R_alloc | apply Kd.R_drewN | apply Kd.R_drew)); exact (Kd.R_mono (Kd.R_far (p := ⟨gb779, 1, none⟩) (Kd.R_far (p := ⟨gb779, 0, none⟩) (Kd.R_types HO778.out BK779.out (by decide)) (fun _ hk => hk.2) (.int .i64 t775)) (fun _ hk => hk.2) (.slice Ao17 t776.length co17)) (fun _ h_ => h_.1))))) (Zan (by repeat (first | (with_reducible first | exact HB.out | apply Zad | apply Zaa | apply Zac | refine Zae ?_ GE779.out) | exact HB.out)))); have n2_ := Zab.mk (Zaq (g := gb779) (o := .cells #[.int .i64 t775, .slice Ao17 t776.length co17] 28 (0, 0)) (by (with_reducible repeat (first | refine Zag ?_ _ | refine Zah ?_ | refine Zaf ?_ _)); refine blk_put (cs := #[.int .i64 t775, .slice none 0 0]) ?_ 1 _ rfl; (with_reducible repeat (first | refine Zag ?_ _ | refine Zah ?_ | refine Zaf ?_ _)); refine blk_put (cs := #[.int .i64 0, .slice none 0 0]) ?_ 0 _ rfl; (with_reducible repeat (first | refine Zag ?_ _ | refine Zah ?_ | refine Zaf ?_ _)); exact BK779.out) hb); have n3_ := Zab.mk (Zap (by repeat (first | (with_reducible first | exact HB.out | apply Zad | apply Zaa | apply Zac | refine Zae ?_ GE779.out) | exact HB.out)) hb); clear HO778; clear BK779; clear HB; have HO778 := n0_; have HO783 := n1_; have BK779 := n2_; have HB := n3_; clear n0_ n1_ n2_ n3_; (try clear hb); (try clear hb2); (try clear hk); (try clear hi); (try clear ho0); obtain ⟨Ao19, co19, eo19⟩ := Kd.R_slice HO783.out; subst eo19) | ((with_reducible refine Zay (f := 37) rfl ?_); refine goesL_ (some 36) rfl rfl Try.func37 (by kernel_rfl) rfl #[.slice Ao19 t781.length co19] rfl (by (try simp only [List.map_toArray, List.map_cons, List.map_nil]); first | done | rfl | (simp only [List.length_drop, List.length_take]; rfl)) ?_; (with_reducible refine (laws_r8Sum.calls k _ _ t781 t784 _ ?side1 ?side2 A8.out).mono ?_); (case side1 => repeat (first | exact (Kd.R_reads' HO783.out).2.2 | (with_reducible refine Kd.C_alloc ?_ _) | (with_reducible refine Kd.C_drewN ?_ _) | (with_reducible refine Kd.C_drew ?_))); (case side2 => exact (Kd.R_reads' HO783.out).2.1); rintro e w' ⟨rfl, ⟨nd, rfl⟩⟩; refine ⟨_, rfl, ?_⟩; have hcz20_0 : w18.cell? ⟨gb779, 0, none⟩ = some (.int .i64 t775) := (Zaj BK779.out 0).trans rfl; have hcz20_1 : w18.cell? ⟨gb779, 1, none⟩ = some (.slice Ao17 t776.length co17) := (Zaj BK779.out 1).trans rfl; have hfz20_0 := Zak BK779.out 0; have hfz20_1 := Zak BK779.out 1) | ((with_reducible refine Zay (f := 44) rfl ?_); refine goesL_ (some 41) rfl rfl Try.func44 (by kernel_rfl) rfl #[.agg #[.int .i64 t775, .slice Ao17 t776.length co17], .int .i64 t784, .int .i64 t780] rfl (by (try simp only [List.map_toArray, List.map_cons, List.map_nil]); first | done | rfl | (simp only [List.length_drop, List.length_take]; rfl)) ?_; (with_reducible refine (Za7.calls k t775 _ _ t776 t784 t780 t785 t788 _ ?side1 ?side2 A9.out).mono ?_); (case side1 => repeat (first | exact (Kd.R_reads' HO778.out).2.2 | (with_reducible refine Kd.C_alloc ?_ _) | (with_reducible refine Kd.C_drewN ?_ _) | (with_reducible refine Kd.C_drew ?_))); (case side2 => exact (Kd.R_reads' HO778.out).2.1); rintro e w21 ⟨v786, rfl, ho0, hb⟩; refine ⟨_, rfl, ?_⟩; have n0_ := Zab.mk (Kd.R_elder' (by (with_reducible repeat (first | apply Kd.R_alloc | apply Kd.R_drewN | apply Kd.R_drew)); exact HO778.out) (Kd.R_base ho0) hb); have n1_ := Zab.mk (Kd.R_elder' (by (with_reducible repeat (first | apply Kd.R_alloc | apply Kd.R_drewN | apply Kd.R_drew)); exact HO783.out) (Kd.R_base ho0) hb); have n2_ := Zab.mk (Kd.R_lower (Kd.R_new' (Kd.R_new' ho0 (Kd.R_lt (by (with_reducible repeat (first | apply Kd.R_alloc | apply Kd.R_drewN | apply Kd.R_drew)); exact HO778.out))) (Kd.R_lt (by (with_reducible repeat (first | apply Kd.R_alloc | apply Kd.R_drewN | apply Kd.R_drew)); exact HO783.out))) (Zan (by repeat (first | (with_reducible first | exact HB.out | apply Zad | apply Zaa | apply Zac | refine Zae ?_ GE779.out) | exact HB.out)))); have n3_ := Zab.mk (Zaq (g := gb779) (o := .cells #[.int .i64 t775, .slice Ao17 t776.length co17] 28 (0, 0)) (by (with_reducible repeat (first | refine Zag ?_ _ | refine Zah ?_ | refine Zaf ?_ _)); exact BK779.out) hb); have n4_ := Zab.mk (Zap (by repeat (first | (with_reducible first | exact HB.out | apply Zad | apply Zaa | apply Zac | refine Zae ?_ GE779.out) | exact HB.out)) hb); clear HO778; clear HO783; clear BK779; clear HB; have HO778 := n0_; have HO783 := n1_; have HO787 := n2_; have BK779 := n3_; have HB := n4_; clear n0_ n1_ n2_ n3_ n4_; (try clear hb); (try clear hb2); (try clear hk); (try clear hi); (try clear ho0); have hcz22_0 : w21.cell? ⟨gb779, 0, none⟩ = some (.int .i64 t775) := (Zaj BK779.out 0).trans rfl; have hcz22_1 : w21.cell? ⟨gb779, 1, none⟩ = some (.slice Ao17 t776.length co17) := (Zaj BK779.out 1).trans rfl; have hfz22_0 := Zak BK779.out 0; have hfz22_1 := Zak BK779.out 1) | ((with_reducible refine Zay (f := 46) rfl ?_); refine goesL_ (some 48) rfl rfl Try.func46 (by kernel_rfl) rfl #[.agg #[.int .i64 t775, .slice Ao17 t776.length co17], .int .i64 t784, .int .i64 t780] rfl (by (try simp only [List.map_toArray, List.map_cons, List.map_nil]); first | done | rfl | (simp only [List.length_drop, List.length_take]; rfl)) ?_; (with_reducible refine (Za2.calls k t775 _ _ t776 t784 t780 t789 t790 _ ?side1 ?side2 A10.out).mono ?_); (case side1 => repeat (first | exact (Kd.R_reads' HO778.out).2.2 | (with_reducible refine Kd.C_alloc ?_ _) | (with_reducible refine Kd.C_drewN ?_ _) | (with_reducible refine Kd.C_drew ?_))); (case side2 => exact (Kd.R_reads' HO778.out).2.1); rintro e w23 ⟨rfl, hb⟩; refine ⟨_, rfl, ?_⟩; have n0_ := Zab.mk (Kd.R_below (by (with_reducible repeat (first | apply Kd.R_alloc | apply Kd.R_drewN | apply Kd.R_drew)); exact HO778.out) hb); have n1_ := Zab.mk (Kd.R_below (by (with_reducible repeat (first | apply Kd.R_alloc | apply Kd.R_drewN | apply Kd.R_drew)); exact HO783.out) hb); have n2_ := Zab.mk (Kd.R_below (by (with_reducible repeat (first | apply Kd.R_alloc | apply Kd.R_drewN | apply Kd.R_drew)); exact HO787.out) hb); have n3_ := Zab.mk (Zaq (g := gb779) (o := .cells #[.int .i64 t775, .slice Ao17 t776.length co17] 28 (0, 0)) (by (with_reducible repeat (first | refine Zag ?_ _ | refine Zah ?_ | refine Zaf ?_ _)); exact BK779.out) hb); have n4_ := Zab.mk (Zap (by repeat (first | (with_reducible first | exact HB.out | apply Zad | apply Zaa | apply Zac | refine Zae ?_ GE779.out) | exact HB.out)) hb); clear HO778; clear HO783; clear HO787; clear BK779; clear HB; have HO778 := n0_; have HO783 := n1_; have HO787 := n2_; have BK779 := n3_; have HB := n4_; clear n0_ n1_ n2_ n3_ n4_; (try clear hb); (try clear hb2); (try clear hk); (try clear hi); have hcz24_0 : w23.cell? ⟨gb779, 0, none⟩ = some (.int .i64 t775) := (Zaj BK779.out 0).trans rfl; have hcz24_1 : w23.cell? ⟨gb779, 1, none⟩ = some (.slice Ao17 t776.length co17) := (Zaj BK779.out 1).trans rfl; have hfz24_0 := Zak BK779.out 0; have hfz24_1 := Zak BK779.out 1; obtain ⟨Ao25, co25, eo25⟩ := Kd.R_slice HO787.out; subst eo25) | ((with_reducible refine Zay (f := 45) rfl ?_); refine goesL_ (some 55) rfl rfl Try.func45 (by kernel_rfl) rfl #[.agg #[.int .i64 t775, .slice Ao17 t776.length co17], .slice Ao25 t785.length co25, .int .i64 t780] rfl (by (try simp only [List.map_toArray, List.map_cons, List.map_nil]); first | done | rfl | (simp only [List.length_drop, List.length_take]; rfl)) ?_; (with_reducible refine (Za9.calls k t775 _ _ t776 _ _ t785 t780 t791 t792 _ ?side1 ?side2 ?side3 ?side4 A11.out).mono ?_); (case side1 => repeat (first | exact (Kd.R_reads' HO778.out).2.2 | (with_reducible refine Kd.C_alloc ?_ _) | (with_reducible refine Kd.C_drewN ?_ _) | (with_reducible refine Kd.C_drew ?_))); (case side2 => exact (Kd.R_reads' HO778.out).2.1); (case side3 => repeat (first | exact (Kd.R_reads' HO787.out).2.2 | (with_reducible refine Kd.C_alloc ?_ _) | (with_reducible refine Kd.C_drewN ?_ _) | (with_reducible refine Kd.C_drew ?_))); (case side4 => exact (Kd.R_reads' HO787.out).2.1); rintro e w26 ⟨rfl, hb⟩; refine ⟨_, rfl, ?_⟩; have n0_ := Zab.mk (Kd.R_below (by (with_reducible repeat (first | apply Kd.R_alloc | apply Kd.R_drewN | apply Kd.R_drew)); exact HO778.out) hb); have n1_ := Zab.mk (Kd.R_below (by (with_reducible repeat (first | apply Kd.R_alloc | apply Kd.R_drewN | apply Kd.R_drew)); exact HO783.out) hb); have n2_ := Zab.mk (Kd.R_below (by (with_reducible repeat (first | apply Kd.R_alloc | apply Kd.R_drewN | apply Kd.R_drew)); exact HO787.out) hb); have n3_ := Zab.mk (Zaq (g := gb779) (o := .cells #[.int .i64 t775, .slice Ao17 t776.length co17] 28 (0, 0)) (by (with_reducible repeat (first | refine Zag ?_ _ | refine Zah ?_ | refine Zaf ?_ _)); exact BK779.out) hb); have n4_ := Zab.mk (Zap (by repeat (first | (with_reducible first | exact HB.out | apply Zad | apply Zaa | apply Zac | refine Zae ?_ GE779.out) | exact HB.out)) hb); clear HO778; clear HO783; clear HO787; clear BK779; clear HB; have HO778 := n0_; have HO783 := n1_; have HO787 := n2_; have BK779 := n3_; have HB := n4_; clear n0_ n1_ n2_ n3_ n4_; (try clear hb); (try clear hb2); (try clear hk); (try clear hi); have hcz27_0 : w26.cell? ⟨gb779, 0, none⟩ = some (.int .i64 t775) := (Zaj BK779.out 0).trans rfl; have hcz27_1 : w26.cell? ⟨gb779, 1, none⟩ = some (.slice Ao17 t776.length co17) := (Zaj BK779.out 1).trans rfl; have hfz27_0 := Zak BK779.out 0; have hfz27_1 := Zak BK779.out 1) | ((with_reducible refine Zay (f := 47) rfl ?_); refine goesL_ (some 60) rfl rfl Try.func47 (by kernel_rfl) rfl #[.agg #[.int .i64 t775, .slice Ao17 t776.length co17]] rfl (by (try simp only [List.map_toArray, List.map_cons, List.map_nil]); first | done | rfl | (simp only [List.length_drop, List.length_take]; rfl)) ?_; (with_reducible refine (impl_FloorsOf.calls k t775 _ _ t776 t793 t796 _ ?side1 ?side2 A12.out).mono ?_); (case side1 => repeat (first | exact (Kd.R_reads' HO778.out).2.2 | (with_reducible refine Kd.C_alloc ?_ _) | (with_reducible refine Kd.C_drewN ?_ _) | (with_reducible refine Kd.C_drew ?_))); (case side2 => exact (Kd.R_reads' HO778.out).2.1); rintro e w28 ⟨v794, rfl, ho0, hb⟩; refine ⟨_, rfl, ?_⟩; have n0_ := Zab.mk (Kd.R_elder' (by (with_reducible repeat (first | apply Kd.R_alloc | apply Kd.R_drewN | apply Kd.R_drew)); exact HO778.out) (Kd.R_base ho0) hb); have n1_ := Zab.mk (Kd.R_elder' (by (with_reducible repeat (first | apply Kd.R_alloc | apply Kd.R_drewN | apply Kd.R_drew)); exact HO783.out) (Kd.R_base ho0) hb); have n2_ := Zab.mk (Kd.R_elder' (by (with_reducible repeat (first | apply Kd.R_alloc | apply Kd.R_drewN | apply Kd.R_drew)); exact HO787.out) (Kd.R_base ho0) hb); have n3_ := Zab.mk (Kd.R_lower (Kd.R_new' (Kd.R_new' (Kd.R_new' ho0 (Kd.R_lt (by (with_reducible repeat (first | apply Kd.R_alloc | apply Kd.R_drewN | apply Kd.R_drew)); exact HO778.out))) (Kd.R_lt (by (with_reducible repeat (first | apply Kd.R_alloc | apply Kd.R_drewN | apply Kd.R_drew)); exact HO783.out))) (Kd.R_lt (by (with_reducible repeat (first | apply Kd.R_alloc | apply Kd.R_drewN | apply Kd.R_drew)); exact HO787.out))) (Zan (by repeat (first | (with_reducible first | exact HB.out | apply Zad | apply Zaa | apply Zac | refine Zae ?_ GE779.out) | exact HB.out)))); have n4_ := Zab.mk (Zaq (g := gb779) (o := .cells #[.int .i64 t775, .slice Ao17 t776.length co17] 28 (0, 0)) (by (with_reducible repeat (first | refine Zag ?_ _ | refine Zah ?_ | refine Zaf ?_ _)); exact BK779.out) hb); have n5_ := Zab.mk (Zap (by repeat (first | (with_reducible first | exact HB.out | apply Zad | apply Zaa | apply Zac | refine Zae ?_ GE779.out) | exact HB.out)) hb); clear HO778; clear HO783; clear HO787; clear BK779; clear HB; have HO778 := n0_; have HO783 := n1_; have HO787 := n2_; have HO795 := n3_; have BK779 := n4_; have HB := n5_; clear n0_ n1_ n2_ n3_ n4_ n5_; (try clear hb); (try clear hb2); (try clear hk); (try clear hi); (try clear ho0)))
  (try simp only [Act.put, List.setIfInBounds_toArray, List.set_cons_zero, List.set_cons_succ])
  go_cut [92] (fun v92 wc => ∃ (kq : Nat) (x92_12 : Bool), v92 = .bool x92_12 ∧ Zab (laws_FnCountedBest.j0 kq (t776.length : Int) t780 t784 t785 t789 t791 t793 x92_12 t775 t776 = some r) ∧ Zab (kq ≤ k) ∧ Zab (Kd.R (Kd.int .i64) 2 wc w.heap.size (fun k_ => some k_ ≠ (v794 : Value).ownBlock ∧ some k_ ≠ ((.slice Ao17 t776.length co17) : Value).ownBlock) (.slice Ao25 t785.length co25) t785) ∧ Zab (Kd.R (Kd.int .i64) 2 wc w.heap.size (fun k_ => some k_ ≠ ((.slice Ao25 t785.length co25) : Value).ownBlock ∧ some k_ ≠ ((.slice Ao17 t776.length co17) : Value).ownBlock) v794 t793) ∧ Zab (Kd.R (Kd.int .i64) 2 wc w.heap.size (fun k_ => some k_ ≠ ((.slice Ao25 t785.length co25) : Value).ownBlock ∧ some k_ ≠ (v794 : Value).ownBlock) (.slice Ao17 t776.length co17) t776) ∧ Zab (wc.heap[gb779]? = some (.cells #[.int .i64 t775, (.slice Ao17 t776.length co17)] 28 (0, 0))) ∧ Zab (Below w.heap.size w wc))
  case first =>
   have H := HC13.out
   clear HC13
   by_cases c29 : t788 = true
   ·subst c29
    have H1 : (if t790 = true then (if t792 = true then (if t796 = true then (if (t785.length : Int) = (t776.length : Int) then (if (t793.length : Int) = (t776.length : Int) then (laws_FnCountedBest.j0 k (t776.length : Int) t780 t784 t785 t789 t791 t793 (decide ((t776.length : Int) > 7)) t775 t776) else (laws_FnCountedBest.j0 k (t776.length : Int) t780 t784 t785 t789 t791 t793 true t775 t776)) else (laws_FnCountedBest.j0 k (t776.length : Int) t780 t784 t785 t789 t791 t793 true t775 t776)) else (laws_FnCountedBest.j0 k (t776.length : Int) t780 t784 t785 t789 t791 t793 true t775 t776)) else (laws_FnCountedBest.j0 k (t776.length : Int) t780 t784 t785 t789 t791 t793 true t775 t776)) else (laws_FnCountedBest.j0 k (t776.length : Int) t780 t784 t785 t789 t791 t793 true t775 t776)) = some r := by rw [if_pos rfl] at H; exact H
    clear H
    have H := H1
    clear H1
    by_cases c30 : t790 = true
    ·subst c30
     have H1 : (if t792 = true then (if t796 = true then (if (t785.length : Int) = (t776.length : Int) then (if (t793.length : Int) = (t776.length : Int) then (laws_FnCountedBest.j0 k (t776.length : Int) t780 t784 t785 t789 t791 t793 (decide ((t776.length : Int) > 7)) t775 t776) else (laws_FnCountedBest.j0 k (t776.length : Int) t780 t784 t785 t789 t791 t793 true t775 t776)) else (laws_FnCountedBest.j0 k (t776.length : Int) t780 t784 t785 t789 t791 t793 true t775 t776)) else (laws_FnCountedBest.j0 k (t776.length : Int) t780 t784 t785 t789 t791 t793 true t775 t776)) else (laws_FnCountedBest.j0 k (t776.length : Int) t780 t784 t785 t789 t791 t793 true t775 t776)) = some r := by rw [if_pos rfl] at H; exact H
     clear H
     have H := H1
     clear H1
     by_cases c31 : t792 = true
     ·subst c31
      have H1 : (if t796 = true then (if (t785.length : Int) = (t776.length : Int) then (if (t793.length : Int) = (t776.length : Int) then (laws_FnCountedBest.j0 k (t776.length : Int) t780 t784 t785 t789 t791 t793 (decide ((t776.length : Int) > 7)) t775 t776) else (laws_FnCountedBest.j0 k (t776.length : Int) t780 t784 t785 t789 t791 t793 true t775 t776)) else (laws_FnCountedBest.j0 k (t776.length : Int) t780 t784 t785 t789 t791 t793 true t775 t776)) else (laws_FnCountedBest.j0 k (t776.length : Int) t780 t784 t785 t789 t791 t793 true t775 t776)) = some r := by rw [if_pos rfl] at H; exact H
      clear H
      have H := H1
      clear H1
      by_cases c32 : t796 = true
      ·subst c32
       have H1 : (if (t785.length : Int) = (t776.length : Int) then (if (t793.length : Int) = (t776.length : Int) then (laws_FnCountedBest.j0 k (t776.length : Int) t780 t784 t785 t789 t791 t793 (decide ((t776.length : Int) > 7)) t775 t776) else (laws_FnCountedBest.j0 k (t776.length : Int) t780 t784 t785 t789 t791 t793 true t775 t776)) else (laws_FnCountedBest.j0 k (t776.length : Int) t780 t784 t785 t789 t791 t793 true t775 t776)) = some r := by rw [if_pos rfl] at H; exact H
       clear H
       have H := H1
       clear H1
       by_cases c33 : (t785.length : Int) = (t776.length : Int)
       ·rw [if_pos c33] at H
        have c33b0 : ((t785.length : Int) == (t776.length : Int)) = true := beq_iff_eq.mpr c33
        have c33b1 : ((t785.length : Int) != (t776.length : Int)) = false := bne_eq_false_iff_eq.mpr c33
        have c33b2 : (t785.length == t776.length) = true := by first | simpa using c33 | (simp at c33 ⊢; omega)
        clear c33
        (first | rw [c33b0] | (simp only [i64_w, i32_w]; rw [c33b0]) | skip)
        by_cases c34 : (t793.length : Int) = (t776.length : Int)
        ·rw [if_pos c34] at H
         have c34b0 : ((t793.length : Int) == (t776.length : Int)) = true := beq_iff_eq.mpr c34
         have c34b1 : ((t793.length : Int) != (t776.length : Int)) = false := bne_eq_false_iff_eq.mpr c34
         have c34b2 : (t793.length == t776.length) = true := by first | simpa using c34 | (simp at c34 ⊢; omega)
         clear c34
         have H' := Zab.mk H
         clear H
         obtain ⟨Ao35, co35, eo35⟩ := Kd.R_slice HO795.out
         subst eo35
         as_aux_lemma =>
          go_wp2
          go_meet
          case rel => exact ⟨_, (decide ((t776.length : Int) > 7)), (by first | rfl | (simp; done) | (simp [*]; done)), H', ⟨by first | omega | exact Nat.le_refl _⟩, ⟨by (with_reducible repeat (first | apply Kd.R_alloc | apply Kd.R_drewN | apply Kd.R_drew)); exact Kd.R_mono HO787.out (fun _ hk => ⟨hk.2, hk.1.1.2⟩)⟩, ⟨by (with_reducible repeat (first | apply Kd.R_alloc | apply Kd.R_drewN | apply Kd.R_drew)); exact Kd.R_mono HO795.out (fun _ hk => ⟨hk.2, hk.1.1.2⟩)⟩, ⟨by (with_reducible repeat (first | apply Kd.R_alloc | apply Kd.R_drewN | apply Kd.R_drew)); exact Kd.R_mono HO778.out (fun _ hk => ⟨hk.1.2, hk.2⟩)⟩, ⟨by (with_reducible repeat (first | refine Zag ?_ _ | refine Zah ?_ | refine Zaf ?_ _)); exact BK779.out⟩, ⟨by repeat (first | (with_reducible first | exact HB.out | apply Zad | apply Zaa | apply Zac | refine Zae ?_ GE779.out) | exact HB.out)⟩⟩
        ·rw [if_neg c34] at H
         have c34b0 : ((t793.length : Int) == (t776.length : Int)) = false := beq_eq_false_iff_ne.mpr c34
         have c34b1 : ((t793.length : Int) != (t776.length : Int)) = true := bne_iff_ne.mpr c34
         have c34b2 : (t793.length == t776.length) = false := by first | simpa using c34 | (simp at c34 ⊢; omega)
         have H' := Zab.mk H
         clear H
         obtain ⟨Ao36, co36, eo36⟩ := Kd.R_slice HO795.out
         subst eo36
         as_aux_lemma =>
          go_wp2
          go_meet
          case rel => exact ⟨_, (true), (by first | rfl | (simp; done) | (simp [*]; done)), H', ⟨by first | omega | exact Nat.le_refl _⟩, ⟨by (with_reducible repeat (first | apply Kd.R_alloc | apply Kd.R_drewN | apply Kd.R_drew)); exact Kd.R_mono HO787.out (fun _ hk => ⟨hk.2, hk.1.1.2⟩)⟩, ⟨by (with_reducible repeat (first | apply Kd.R_alloc | apply Kd.R_drewN | apply Kd.R_drew)); exact Kd.R_mono HO795.out (fun _ hk => ⟨hk.2, hk.1.1.2⟩)⟩, ⟨by (with_reducible repeat (first | apply Kd.R_alloc | apply Kd.R_drewN | apply Kd.R_drew)); exact Kd.R_mono HO778.out (fun _ hk => ⟨hk.1.2, hk.2⟩)⟩, ⟨by (with_reducible repeat (first | refine Zag ?_ _ | refine Zah ?_ | refine Zaf ?_ _)); exact BK779.out⟩, ⟨by repeat (first | (with_reducible first | exact HB.out | apply Zad | apply Zaa | apply Zac | refine Zae ?_ GE779.out) | exact HB.out)⟩⟩
       ·rw [if_neg c33] at H
        have c33b0 : ((t785.length : Int) == (t776.length : Int)) = false := beq_eq_false_iff_ne.mpr c33
        have c33b1 : ((t785.length : Int) != (t776.length : Int)) = true := bne_iff_ne.mpr c33
        have c33b2 : (t785.length == t776.length) = false := by first | simpa using c33 | (simp at c33 ⊢; omega)
        (first | rw [c33b0] | (simp only [i64_w, i32_w]; rw [c33b0]) | skip)
        have H' := Zab.mk H
        clear H
        as_aux_lemma =>
         go_wp2
         go_meet
         case rel => exact ⟨_, (true), (by first | rfl | (simp; done) | (simp [*]; done)), H', ⟨by first | omega | exact Nat.le_refl _⟩, ⟨by (with_reducible repeat (first | apply Kd.R_alloc | apply Kd.R_drewN | apply Kd.R_drew)); exact Kd.R_mono HO787.out (fun _ hk => ⟨hk.2, hk.1.1.2⟩)⟩, ⟨by (with_reducible repeat (first | apply Kd.R_alloc | apply Kd.R_drewN | apply Kd.R_drew)); exact Kd.R_mono HO795.out (fun _ hk => ⟨hk.2, hk.1.1.2⟩)⟩, ⟨by (with_reducible repeat (first | apply Kd.R_alloc | apply Kd.R_drewN | apply Kd.R_drew)); exact Kd.R_mono HO778.out (fun _ hk => ⟨hk.1.2, hk.2⟩)⟩, ⟨by (with_reducible repeat (first | refine Zag ?_ _ | refine Zah ?_ | refine Zaf ?_ _)); exact BK779.out⟩, ⟨by repeat (first | (with_reducible first | exact HB.out | apply Zad | apply Zaa | apply Zac | refine Zae ?_ GE779.out) | exact HB.out)⟩⟩
      ·replace c32 := Bool.eq_false_iff.mpr c32
       subst c32
       have H1 : (laws_FnCountedBest.j0 k (t776.length : Int) t780 t784 t785 t789 t791 t793 true t775 t776) = some r := by rw [if_neg (show ¬ (false = true) by decide)] at H; exact H
       clear H
       have H := H1
       clear H1
       have H' := Zab.mk H
       clear H
       as_aux_lemma =>
        go_wp2
        go_meet
        case rel => exact ⟨_, (true), (by first | rfl | (simp; done) | (simp [*]; done)), H', ⟨by first | omega | exact Nat.le_refl _⟩, ⟨by (with_reducible repeat (first | apply Kd.R_alloc | apply Kd.R_drewN | apply Kd.R_drew)); exact Kd.R_mono HO787.out (fun _ hk => ⟨hk.2, hk.1.1.2⟩)⟩, ⟨by (with_reducible repeat (first | apply Kd.R_alloc | apply Kd.R_drewN | apply Kd.R_drew)); exact Kd.R_mono HO795.out (fun _ hk => ⟨hk.2, hk.1.1.2⟩)⟩, ⟨by (with_reducible repeat (first | apply Kd.R_alloc | apply Kd.R_drewN | apply Kd.R_drew)); exact Kd.R_mono HO778.out (fun _ hk => ⟨hk.1.2, hk.2⟩)⟩, ⟨by (with_reducible repeat (first | refine Zag ?_ _ | refine Zah ?_ | refine Zaf ?_ _)); exact BK779.out⟩, ⟨by repeat (first | (with_reducible first | exact HB.out | apply Zad | apply Zaa | apply Zac | refine Zae ?_ GE779.out) | exact HB.out)⟩⟩
     ·replace c31 := Bool.eq_false_iff.mpr c31
      subst c31
      have H1 : (laws_FnCountedBest.j0 k (t776.length : Int) t780 t784 t785 t789 t791 t793 true t775 t776) = some r := by rw [if_neg (show ¬ (false = true) by decide)] at H; exact H
      clear H
      have H := H1
      clear H1
      have H' := Zab.mk H
      clear H
      as_aux_lemma =>
       go_wp2
       go_meet
       case rel => exact ⟨_, (true), (by first | rfl | (simp; done) | (simp [*]; done)), H', ⟨by first | omega | exact Nat.le_refl _⟩, ⟨by (with_reducible repeat (first | apply Kd.R_alloc | apply Kd.R_drewN | apply Kd.R_drew)); exact Kd.R_mono HO787.out (fun _ hk => ⟨hk.2, hk.1.1.2⟩)⟩, ⟨by (with_reducible repeat (first | apply Kd.R_alloc | apply Kd.R_drewN | apply Kd.R_drew)); exact Kd.R_mono HO795.out (fun _ hk => ⟨hk.2, hk.1.1.2⟩)⟩, ⟨by (with_reducible repeat (first | apply Kd.R_alloc | apply Kd.R_drewN | apply Kd.R_drew)); exact Kd.R_mono HO778.out (fun _ hk => ⟨hk.1.2, hk.2⟩)⟩, ⟨by (with_reducible repeat (first | refine Zag ?_ _ | refine Zah ?_ | refine Zaf ?_ _)); exact BK779.out⟩, ⟨by repeat (first | (with_reducible first | exact HB.out | apply Zad | apply Zaa | apply Zac | refine Zae ?_ GE779.out) | exact HB.out)⟩⟩
    ·replace c30 := Bool.eq_false_iff.mpr c30
     subst c30
     have H1 : (laws_FnCountedBest.j0 k (t776.length : Int) t780 t784 t785 t789 t791 t793 true t775 t776) = some r := by rw [if_neg (show ¬ (false = true) by decide)] at H; exact H
     clear H
     have H := H1
     clear H1
     have H' := Zab.mk H
     clear H
     as_aux_lemma =>
      go_wp2
      go_meet
      case rel => exact ⟨_, (true), (by first | rfl | (simp; done) | (simp [*]; done)), H', ⟨by first | omega | exact Nat.le_refl _⟩, ⟨by (with_reducible repeat (first | apply Kd.R_alloc | apply Kd.R_drewN | apply Kd.R_drew)); exact Kd.R_mono HO787.out (fun _ hk => ⟨hk.2, hk.1.1.2⟩)⟩, ⟨by (with_reducible repeat (first | apply Kd.R_alloc | apply Kd.R_drewN | apply Kd.R_drew)); exact Kd.R_mono HO795.out (fun _ hk => ⟨hk.2, hk.1.1.2⟩)⟩, ⟨by (with_reducible repeat (first | apply Kd.R_alloc | apply Kd.R_drewN | apply Kd.R_drew)); exact Kd.R_mono HO778.out (fun _ hk => ⟨hk.1.2, hk.2⟩)⟩, ⟨by (with_reducible repeat (first | refine Zag ?_ _ | refine Zah ?_ | refine Zaf ?_ _)); exact BK779.out⟩, ⟨by repeat (first | (with_reducible first | exact HB.out | apply Zad | apply Zaa | apply Zac | refine Zae ?_ GE779.out) | exact HB.out)⟩⟩
   ·replace c29 := Bool.eq_false_iff.mpr c29
    subst c29
    have H1 : (laws_FnCountedBest.j0 k (t776.length : Int) t780 t784 t785 t789 t791 t793 true t775 t776) = some r := by rw [if_neg (show ¬ (false = true) by decide)] at H; exact H
    clear H
    have H := H1
    clear H1
    have H' := Zab.mk H
    clear H
    as_aux_lemma =>
     go_wp2
     go_meet
     case rel => exact ⟨_, (true), (by first | rfl | (simp; done) | (simp [*]; done)), H', ⟨by first | omega | exact Nat.le_refl _⟩, ⟨by (with_reducible repeat (first | apply Kd.R_alloc | apply Kd.R_drewN | apply Kd.R_drew)); exact Kd.R_mono HO787.out (fun _ hk => ⟨hk.2, hk.1.1.2⟩)⟩, ⟨by (with_reducible repeat (first | apply Kd.R_alloc | apply Kd.R_drewN | apply Kd.R_drew)); exact Kd.R_mono HO795.out (fun _ hk => ⟨hk.2, hk.1.1.2⟩)⟩, ⟨by (with_reducible repeat (first | apply Kd.R_alloc | apply Kd.R_drewN | apply Kd.R_drew)); exact Kd.R_mono HO778.out (fun _ hk => ⟨hk.1.2, hk.2⟩)⟩, ⟨by (with_reducible repeat (first | refine Zag ?_ _ | refine Zah ?_ | refine Zaf ?_ _)); exact BK779.out⟩, ⟨by repeat (first | (with_reducible first | exact HB.out | apply Zad | apply Zaa | apply Zac | refine Zae ?_ GE779.out) | exact HB.out)⟩⟩
  case rest =>
   clear HC13
   try clear c1
   try clear c2
   try clear p2
   try clear c3
   try clear c4
   try clear c8
   try clear c29
   try clear c30
   try clear c31
   try clear c32
   try clear c33
   try clear c33b0
   try clear c33b1
   try clear c33b2
   try clear c34
   try clear c34b0
   try clear c34b1
   try clear c34b2
   try clear c35
   try clear hcz16_0
   try clear hcz16_1
   try clear hcz20_0
   try clear hcz20_1
   try clear hcz22_0
   try clear hcz22_1
   try clear hcz24_0
   try clear hcz24_1
   try clear hcz27_0
   try clear hcz27_1
   try clear hfz16_0
   try clear hfz16_1
   try clear hfz20_0
   try clear hfz20_1
   try clear hfz22_0
   try clear hfz22_1
   try clear hfz24_0
   try clear hfz24_1
   try clear hfz27_0
   try clear hfz27_1
   obtain ⟨kq, x92_12, rfl, HA, HJ12, HO_9, HO_15, HO_780001, BK779, HB⟩ := hcut
   cases kq with
   | zero => exact absurd HA.out (by simp [laws_FnCountedBest.j0])
   | succ kj12 =>
    have H := HA.out
    clear HA
    simp only [laws_FnCountedBest.j0] at H
    by_cases c37 : x92_12 = true
    ·subst c37
     have H1 : (some false) = some r := by rw [if_pos rfl] at H; exact H
     clear H
     have H := H1
     clear H1
     obtain rfl := Option.some.inj H
     as_aux_lemma =>
      go_wp2
      go_ret
      exact ⟨by first | rfl | (simp [Zas, Zar] <;> rfl) | (simp [*, Zas, Zar] <;> rfl), by repeat (first | (with_reducible first | exact HB.out | apply Zad | apply Zaa | apply Zac | refine Zae ?_ GE779.out) | exact HB.out)⟩
    ·replace c37 := Bool.eq_false_iff.mpr c37
     subst c37
     have H1 : (laws_FnCountedBest.l0 kj12 (t776.length : Int) t780 t784 t785 t789 t791 t793 0 0 t775 t776) = some r := by rw [if_neg (show ¬ (false = true) by decide)] at H; exact H
     clear H
     have H := H1
     clear H1
     have H' := Zab.mk H
     clear H
     go_wp2
     go_loopg [17, 18] kj12 (fun kq v17 v18 w' => ∃ (x9_2 : List Int) (x15_2 : List Int) (x17_2 : Int) (x18_2 : Int) (x780001_2 : List Int) (u780001 : Value), v17 = .int .i64 x17_2 ∧ v18 = .int .i64 x18_2 ∧ Zab (laws_FnCountedBest.l0 kq (t776.length : Int) t780 t784 x9_2 t789 t791 x15_2 x17_2 x18_2 t775 x780001_2 = some r) ∧ Zab (kq ≤ kj12) ∧ Zab (Kd.R (Kd.int .i64) 2 w' w.heap.size (fun k_ => some k_ ≠ (v794 : Value).ownBlock ∧ some k_ ≠ (u780001 : Value).ownBlock) (.slice Ao25 t785.length co25) x9_2) ∧ Zab (Kd.R (Kd.int .i64) 2 w' w.heap.size (fun k_ => some k_ ≠ ((.slice Ao25 t785.length co25) : Value).ownBlock ∧ some k_ ≠ (u780001 : Value).ownBlock) v794 x15_2) ∧ Zab (Kd.R (Kd.int .i64) 2 w' w.heap.size (fun k_ => some k_ ≠ ((.slice Ao25 t785.length co25) : Value).ownBlock ∧ some k_ ≠ (v794 : Value).ownBlock) u780001 x780001_2) ∧ Zab (w'.heap[gb779]? = some (.cells #[.int .i64 t775, u780001] 28 (0, 0))) ∧ Zab (Below w.heap.size w w'))
     case atStart => exact ⟨(t785), (t793), (0), (0), (t776), (.slice Ao17 t776.length co17), (by first | rfl | (simp; done) | (simp [*]; done)), (by first | rfl | (simp; done) | (simp [*]; done)), H', ⟨Nat.le_refl _⟩, ⟨by (with_reducible repeat (first | apply Kd.R_alloc | apply Kd.R_drewN | apply Kd.R_drew)); exact HO_9.out⟩, ⟨by (with_reducible repeat (first | apply Kd.R_alloc | apply Kd.R_drewN | apply Kd.R_drew)); exact HO_15.out⟩, ⟨by (with_reducible repeat (first | apply Kd.R_alloc | apply Kd.R_drewN | apply Kd.R_drew)); exact HO_780001.out⟩, ⟨by (with_reducible repeat (first | refine Zag ?_ _ | refine Zah ?_ | refine Zaf ?_ _)); exact BK779.out⟩, ⟨by repeat (first | (with_reducible first | exact HB.out | apply Zad | apply Zaa | apply Zac | refine Zae ?_ GE779.out) | exact HB.out)⟩⟩
     case round =>
      clear H'
      try clear c1
      try clear c2
      try clear p2
      try clear c3
      try clear c4
      try clear c8
      try clear c29
      try clear c30
      try clear c31
      try clear c32
      try clear c33
      try clear c33b0
      try clear c33b1
      try clear c33b2
      try clear c34
      try clear c34b0
      try clear c34b1
      try clear c34b2
      try clear c35
      try clear c37
      try clear hcz16_0
      try clear hcz16_1
      try clear hcz20_0
      try clear hcz20_1
      try clear hcz22_0
      try clear hcz22_1
      try clear hcz24_0
      try clear hcz24_1
      try clear hcz27_0
      try clear hcz27_1
      try clear hfz16_0
      try clear hfz16_1
      try clear hfz20_0
      try clear hfz20_1
      try clear hfz22_0
      try clear hfz22_1
      try clear hfz24_0
      try clear hfz24_1
      try clear hfz27_0
      try clear hfz27_1
      try clear p2
      obtain ⟨x9_2, x15_2, x17_2, x18_2, x780001_2, u780001, rfl, rfl, HA, HK2, HO_9, HO_15, HO_780001, BK779, HB⟩ := hrel
      have hl9_2 := (Kd.R_reads' HO_9.out).1
      rw [hl9_2] at HO_9
      (try simp only [hl9_2])
      (try simp only [hl9_2] at BK779)
      (try simp only [hl9_2] at HO_15)
      (try simp only [hl9_2] at HO_780001)
      cases gk with
      | zero => exact absurd HA.out (by simp [laws_FnCountedBest.l0])
      | succ k2 =>
       have H := HA.out
       clear HA
       simp only [laws_FnCountedBest.l0] at H
       obtain ⟨ji38, hji38⟩ : ∃ j_ : Int, (IntKind.u64.wrap ((t776.length : Int))) = j_ := ⟨_, rfl⟩
       replace H : (if 0 ≤ (ji38) then (if x18_2 < (shl .i64 1 (ji38)) then ((some (([] : List Int) : List Int)).bind fun y797 => (if y797.length + x15_2.length < 17592186044416 then (laws_FnCountedBest.l1 k2 (t776.length : Int) t780 t784 x9_2 t789 t791 x15_2 x17_2 x18_2 (y797 ++ x15_2) 0 t775 x780001_2) else (none))) else (some (x17_2 == t789))) else (none)) = some r := by first | (rw [hji38] at H; exact H) | (simp only [hji38] at H ⊢; exact H)
       by_cases c39 : 0 ≤ (ji38)
       ·rw [if_pos c39] at H
        have c39b0 := eq_true c39
        have c39b1 : decide (0 ≤ (ji38)) = true := decide_eq_true c39
        clear c39
        obtain ⟨ji40, hji40⟩ : ∃ j_ : Int, (shl .i64 1 (ji38)) = j_ := ⟨_, rfl⟩
        replace H : (if x18_2 < (ji40) then ((some (([] : List Int) : List Int)).bind fun y797 => (if y797.length + x15_2.length < 17592186044416 then (laws_FnCountedBest.l1 k2 (t776.length : Int) t780 t784 x9_2 t789 t791 x15_2 x17_2 x18_2 (y797 ++ x15_2) 0 t775 x780001_2) else (none))) else (some (x17_2 == t789))) = some r := by first | (rw [hji40] at H; exact H) | (simp only [hji40] at H ⊢; exact H)
        have hji40_ : (IntKind.i64.wrap (1 * 2 ^ min (ji38).toNat 64)) = ji40 := hji40
        have hji40z : (ji38) ≤ 64 → (IntKind.i64.wrap (1 * 2 ^ (ji38).toNat)) = ji40 := shl_small hji40
        have hji40u : (IntKind.i64.wrap (2 ^ min (ji38).toNat 64)) = ji40 := by have h_ := hji40_; rw [Int.one_mul] at h_; exact h_
        have hji40v : (ji38) ≤ 64 → (IntKind.i64.wrap (2 ^ (ji38).toNat)) = ji40 := fun hle_ => by have h_ := hji40z hle_; rw [Int.one_mul] at h_; exact h_
        have hji40y : (wrap64 (1 * 2 ^ min (ji38).toNat 64)) = ji40 := (i64_w _).symm.trans hji40_
        have hji40x : (ji38) ≤ 64 → (wrap64 (1 * 2 ^ (ji38).toNat)) = ji40 := fun h_ => (i64_w _).symm.trans (hji40z h_)
        by_cases c41 : x18_2 < (ji40)
        ·rw [if_pos c41] at H
         have c41b0 : decide (x18_2 < (ji40)) = true := decide_eq_true c41
         clear c41
         obtain ⟨y797, hy797⟩ : ∃ y_ : List Int, y_ = (([] : List Int)) := ⟨_, rfl⟩
         replace H : (if y797.length + x15_2.length < 17592186044416 then (laws_FnCountedBest.l1 k2 (t776.length : Int) t780 t784 x9_2 t789 t791 x15_2 x17_2 x18_2 (y797 ++ x15_2) 0 t775 x780001_2) else (none)) = some r := by first | (rw [hy797]; with_reducible exact H) | (have H2_ := (Option.bind_some _ _).symm.trans H; rw [hy797]; with_reducible exact H2_) | (have H2_ := (Option.bind_some _ _).symm.trans H; with_reducible exact H2_) | with_reducible exact H | (rw [hy797]; exact H) | exact H
         have Ny797 := Zab.mk hy797
         clear hy797
         by_cases c42 : y797.length + x15_2.length < 17592186044416
         ·rw [if_pos c42] at H
          have LMc42 := Zab.mk c42
          clear c42
          obtain ⟨y800, hy800⟩ : ∃ y_ : List Int, y_ = (y797 ++ x15_2) := ⟨_, rfl⟩
          replace H : (laws_FnCountedBest.l1 k2 (t776.length : Int) t780 t784 x9_2 t789 t791 x15_2 x17_2 x18_2 y800 0 t775 x780001_2) = some r := by first | (rw [hy800]; with_reducible exact H) | (have H2_ := (Option.bind_some _ _).symm.trans H; rw [hy800]; with_reducible exact H2_) | (have H2_ := (Option.bind_some _ _).symm.trans H; with_reducible exact H2_) | with_reducible exact H | (rw [hy800]; exact H) | exact H
          have Ny800 := Zab.mk hy800
          clear hy800
          have H' := Zab.mk H
          clear H
          go_wp2_with (first | ((with_reducible refine gate_dst (N := 100) rfl ?_); (try (refine gate_guard (by rfl) ?_; dsimp only)); refine Kd.R_lit (Kd.int .i64) _ 2 ?hg (N := 100) ?hd (xs := ([] : List Int)) (inner := []) (ok := fun _ => True) (okp := fun _ => True) ?hr ?hp (fun _ hk => hk) trivial (Below.refl _ _) (Nat.le_refl _) (by simp) ?_; (case hd => rfl); (case hg => rfl); (case hr => first | (go_simp; done) | (go_simp; rfl)); (case hp => exact (Reps.none _ _)); intro v798 w43 ho44 hb hg_ hnew_; clear hg_ hnew_; (first | rw [← Ny797.out] at ho44 | (simp only [Int.reduceToNat] at ho44; rw [← Ny797.out] at ho44)); have n0_ := Zab.mk (Kd.R_elder' (by (with_reducible repeat (first | apply Kd.R_alloc | apply Kd.R_drewN | apply Kd.R_drew)); exact HO_9.out) (Kd.R_base ho44) hb); have n1_ := Zab.mk (Kd.R_elder' (by (with_reducible repeat (first | apply Kd.R_alloc | apply Kd.R_drewN | apply Kd.R_drew)); exact HO_15.out) (Kd.R_base ho44) hb); have n2_ := Zab.mk (Kd.R_elder' (by (with_reducible repeat (first | apply Kd.R_alloc | apply Kd.R_drewN | apply Kd.R_drew)); exact HO_780001.out) (Kd.R_base ho44) hb); have n3_ := Zab.mk (Kd.R_lower (Kd.R_new' (Kd.R_new' (Kd.R_new' ho44 (Kd.R_lt (by (with_reducible repeat (first | apply Kd.R_alloc | apply Kd.R_drewN | apply Kd.R_drew)); exact HO_9.out))) (Kd.R_lt (by (with_reducible repeat (first | apply Kd.R_alloc | apply Kd.R_drewN | apply Kd.R_drew)); exact HO_15.out))) (Kd.R_lt (by (with_reducible repeat (first | apply Kd.R_alloc | apply Kd.R_drewN | apply Kd.R_drew)); exact HO_780001.out))) (Zan (by repeat (first | (with_reducible first | exact HB.out | apply Zad | apply Zaa | apply Zac | refine Zae ?_ GE779.out) | exact HB.out)))); have n4_ := Zab.mk (Zaq (g := gb779) (o := .cells #[.int .i64 t775, u780001] 28 (0, 0)) (by (with_reducible repeat (first | refine Zag ?_ _ | refine Zah ?_ | refine Zaf ?_ _)); exact BK779.out) hb); have n5_ := Zab.mk (Zap (by repeat (first | (with_reducible first | exact HB.out | apply Zad | apply Zaa | apply Zac | refine Zae ?_ GE779.out) | exact HB.out)) hb); clear HO_9; clear HO_15; clear HO_780001; clear BK779; clear HB; have HO_9 := n0_; have HO_15 := n1_; have HO_780001 := n2_; have HO799 := n3_; have BK779 := n4_; have HB := n5_; clear n0_ n1_ n2_ n3_ n4_ n5_; clear hb ho44; obtain ⟨Ao46, co46, eo46⟩ := Kd.R_slice HO_15.out; subst eo46) | ((with_reducible refine gate_builtin (b := .append) (xs := #[.tmp 100, .tmp 101]) rfl ?_); (try (refine gate_guard (by rfl) ?_; dsimp only)); at_builtin; refine Kd.R_append_rows (Kd.int .i64) (w0 := w) w.heap.size rfl (.tmp 100) (.tmp 101) 22 2 (.int .i64 0) 8 rfl Try.underlying22 info2 rfl (by decide) (by omega) v798 y797 x15_2 _ _ _ (fun k_ => some k_ ≠ (.slice Ao25 x9_2.length co25 : Value).ownBlock ∧ some k_ ≠ (.slice Ao46 x15_2.length co46 : Value).ownBlock ∧ some k_ ≠ (u780001 : Value).ownBlock) (fun _ => False) rfl rfl ?aO ?aR (fun _ _ h => h) (fun _ h => h.elim) ?aF ?aB ?aS ?aL ?_; (case aR => repeat (first | exact (Kd.R_reads' HO_15.out).2.2 | (with_reducible refine Kd.C_alloc ?_ _) | (with_reducible refine Kd.C_drewN ?_ _) | (with_reducible refine Kd.C_drew ?_))); (case aB => exact (by repeat (first | (with_reducible first | exact HB.out | apply Zad | apply Zaa | apply Zac | refine Zae ?_ GE779.out) | exact HB.out))); (case aF => exact (fun k_ hk => ⟨Kd.fresh' (Kd.R_lt (by (with_reducible repeat (first | apply Kd.R_alloc | apply Kd.R_drewN | apply Kd.R_drew)); exact HO_9.out)) k_ hk, Kd.fresh' (Kd.R_lt (by (with_reducible repeat (first | apply Kd.R_alloc | apply Kd.R_drewN | apply Kd.R_drew)); exact HO_15.out)) k_ hk, Kd.fresh' (Kd.R_lt (by (with_reducible repeat (first | apply Kd.R_alloc | apply Kd.R_drewN | apply Kd.R_drew)); exact HO_780001.out)) k_ hk⟩)); (case aO => exact (by (with_reducible repeat (first | apply Kd.R_alloc | apply Kd.R_drewN | apply Kd.R_drew)); exact Kd.R_mono HO799.out (fun _ hk => ⟨hk.1.1.2, ⟨hk.1.2, hk.2⟩⟩))); (case aS => exact (Zan (by repeat (first | (with_reducible first | exact HB.out | apply Zad | apply Zaa | apply Zac | refine Zae ?_ GE779.out) | exact HB.out)))); (case aL => have := LMc42.out; omega); intro v801 w45 ho hb hg hat; rw [← Ny800.out] at ho; have n0_ := Zab.mk (Kd.R_after (ok := (fun k_ => some k_ ≠ (.slice Ao46 x15_2.length co46 : Value).ownBlock ∧ some k_ ≠ (u780001 : Value).ownBlock)) (by (with_reducible repeat (first | apply Kd.R_alloc | apply Kd.R_drewN | apply Kd.R_drew)); exact HO_9.out) hg hat); have n1_ := Zab.mk (Kd.R_after (ok := (fun k_ => some k_ ≠ (.slice Ao25 x9_2.length co25 : Value).ownBlock ∧ some k_ ≠ (u780001 : Value).ownBlock)) (by (with_reducible repeat (first | apply Kd.R_alloc | apply Kd.R_drewN | apply Kd.R_drew)); exact HO_15.out) hg hat); have n2_ := Zab.mk (Kd.R_after (ok := (fun k_ => some k_ ≠ (.slice Ao25 x9_2.length co25 : Value).ownBlock ∧ some k_ ≠ (.slice Ao46 x15_2.length co46 : Value).ownBlock)) (by (with_reducible repeat (first | apply Kd.R_alloc | apply Kd.R_drewN | apply Kd.R_drew)); exact HO_780001.out) hg hat); have n3_ := Zab.mk (blk_grown (g := gb779) (o := .cells #[.int .i64 t775, u780001] 28 (0, 0)) (by (with_reducible repeat (first | refine Zag ?_ _ | refine Zah ?_ | refine Zaf ?_ _)); exact BK779.out) hg (Kd.R_ne HO799.out BK779.out (by decide))); have n4_ := Zab.mk (hb); have n5_ := Zab.mk (ho); clear HO_9; clear HO_15; clear HO_780001; clear BK779; clear HB; clear HO799; have HO_9 := n0_; have HO_15 := n1_; have HO_780001 := n2_; have BK779 := n3_; have HB := n4_; have HO802 := n5_; clear n0_ n1_ n2_ n3_ n4_ n5_; clear ho hb hg hat))
          go_loopg [20] k2 (fun kq v20 w' => ∃ (x19_3 : List Int) (x20_3 : Int), v20 = .int .i64 x20_3 ∧ Zab (laws_FnCountedBest.l1 kq (t776.length : Int) t780 t784 x9_2 t789 t791 x15_2 x17_2 x18_2 x19_3 x20_3 t775 x780001_2 = some r) ∧ Zab (kq ≤ k2) ∧ Zab (Kd.R (Kd.int .i64) 2 w' w.heap.size (fun k_ => some k_ ≠ ((.slice Ao46 x15_2.length co46) : Value).ownBlock ∧ some k_ ≠ (v801 : Value).ownBlock ∧ some k_ ≠ (u780001 : Value).ownBlock) (.slice Ao25 x9_2.length co25) x9_2) ∧ Zab (Kd.R (Kd.int .i64) 2 w' w.heap.size (fun k_ => some k_ ≠ ((.slice Ao25 x9_2.length co25) : Value).ownBlock ∧ some k_ ≠ (v801 : Value).ownBlock ∧ some k_ ≠ (u780001 : Value).ownBlock) (.slice Ao46 x15_2.length co46) x15_2) ∧ Zab (Kd.R (Kd.int .i64) 2 w' w.heap.size (fun k_ => some k_ ≠ ((.slice Ao25 x9_2.length co25) : Value).ownBlock ∧ some k_ ≠ ((.slice Ao46 x15_2.length co46) : Value).ownBlock ∧ some k_ ≠ (u780001 : Value).ownBlock) v801 x19_3) ∧ Zab (Kd.R (Kd.int .i64) 2 w' w.heap.size (fun k_ => some k_ ≠ ((.slice Ao25 x9_2.length co25) : Value).ownBlock ∧ some k_ ≠ ((.slice Ao46 x15_2.length co46) : Value).ownBlock ∧ some k_ ≠ (v801 : Value).ownBlock) u780001 x780001_2) ∧ Zab (w'.heap[gb779]? = some (.cells #[.int .i64 t775, u780001] 28 (0, 0))) ∧ Zab (Below w.heap.size w w'))
          case atStart => exact ⟨(y800), (0), (by first | rfl | (simp; done) | (simp [*]; done)), H', ⟨Nat.le_refl _⟩, ⟨by (try simp only [hl9_2]); (with_reducible repeat (first | apply Kd.R_alloc | apply Kd.R_drewN | apply Kd.R_drew)); exact Kd.R_mono HO_9.out (fun _ hk => ⟨hk.1.1, ⟨hk.2, hk.1.2⟩⟩)⟩, ⟨by (try simp only [hl9_2]); (with_reducible repeat (first | apply Kd.R_alloc | apply Kd.R_drewN | apply Kd.R_drew)); exact Kd.R_mono HO_15.out (fun _ hk => ⟨hk.1.1, ⟨hk.2, hk.1.2⟩⟩)⟩, ⟨by (try simp only [hl9_2]); (with_reducible repeat (first | apply Kd.R_alloc | apply Kd.R_drewN | apply Kd.R_drew)); exact HO802.out⟩, ⟨by (try simp only [hl9_2]); (with_reducible repeat (first | apply Kd.R_alloc | apply Kd.R_drewN | apply Kd.R_drew)); exact Kd.R_mono HO_780001.out (fun _ hk => ⟨hk.1.1, ⟨hk.1.2, hk.2⟩⟩)⟩, ⟨by (try simp only [hl9_2]); (with_reducible repeat (first | refine Zag ?_ _ | refine Zah ?_ | refine Zaf ?_ _)); exact BK779.out⟩, ⟨by repeat (first | (with_reducible first | exact HB.out | apply Zad | apply Zaa | apply Zac | refine Zae ?_ GE779.out) | exact HB.out)⟩⟩
          case round =>
           clear H'
           try clear c1
           try clear c2
           try clear p2
           try clear c3
           try clear c4
           try clear p6
           try clear c8
           try clear c29
           try clear c30
           try clear c31
           try clear c32
           try clear c33
           try clear c33b0
           try clear c33b1
           try clear c33b2
           try clear c34
           try clear c34b0
           try clear c34b1
           try clear c34b2
           try clear c35
           try clear c37
           try clear c39
           try clear c39b0
           try clear c39b1
           try clear c41
           try clear c41b0
           try clear c42
           try clear c44
           try clear c45
           try clear c46
           try clear hcz16_0
           try clear hcz16_1
           try clear hcz20_0
           try clear hcz20_1
           try clear hcz22_0
           try clear hcz22_1
           try clear hcz24_0
           try clear hcz24_1
           try clear hcz27_0
           try clear hcz27_1
           try clear hfz16_0
           try clear hfz16_1
           try clear hfz20_0
           try clear hfz20_1
           try clear hfz22_0
           try clear hfz22_1
           try clear hfz24_0
           try clear hfz24_1
           try clear hfz27_0
           try clear hfz27_1
           try clear p2
           obtain ⟨x19_3, x20_3, rfl, HA, HK3, HO_9, HO_15, HO_19, HO_780001, BK779, HB⟩ := hrel
           cases gk with
           | zero => exact absurd HA.out (by simp [laws_FnCountedBest.l1])
           | succ k3 =>
            have H := HA.out
            clear HA
            simp only [laws_FnCountedBest.l1] at H
            by_cases c47 : x20_3 < (t776.length : Int)
            ·rw [if_pos c47] at H
             have c47b0 : decide (x20_3 < (t776.length : Int)) = true := decide_eq_true c47
             clear c47
             by_cases c48 : 0 ≤ x20_3
             ·rw [if_pos c48] at H
              have c48b0 : decide (0 ≤ x20_3) = true := decide_eq_true c48
              clear c48
              by_cases c49 : x20_3 < (x19_3.length : Int)
              ·rw [if_pos c49] at H
               have c49b0 : decide (x20_3 < (x19_3.length : Int)) = true := decide_eq_true c49
               clear c49
               obtain ⟨ji50, hji50⟩ : ∃ j_ : Int, (IntKind.u64.wrap (wrap64 ((wrap64 ((t776.length : Int) - 1)) - x20_3))) = j_ := ⟨_, rfl⟩
               replace H : (if 0 ≤ (ji50) then (laws_FnCountedBest.l1 k3 (t776.length : Int) t780 t784 x9_2 t789 t791 x15_2 x17_2 x18_2 (x19_3.set (x20_3 : Int).toNat (wrap64 ((rd x19_3 x20_3) + (Go.bits .and .i64 (shr .i64 x18_2 (ji50)) 1)))) (wrap64 (x20_3 + 1)) t775 x780001_2) else (none)) = some r := by first | (rw [hji50] at H; exact H) | (simp only [hji50] at H ⊢; exact H)
               by_cases c51 : 0 ≤ (ji50)
               ·rw [if_pos c51] at H
                have c51b0 := eq_true c51
                have c51b1 : decide (0 ≤ (ji50)) = true := decide_eq_true c51
                clear c51
                obtain ⟨ji52, hji52⟩ : ∃ j_ : Int, (shr .i64 x18_2 (ji50)) = j_ := ⟨_, rfl⟩
                replace H : (laws_FnCountedBest.l1 k3 (t776.length : Int) t780 t784 x9_2 t789 t791 x15_2 x17_2 x18_2 (x19_3.set (x20_3 : Int).toNat (wrap64 ((rd x19_3 x20_3) + (Go.bits .and .i64 (ji52) 1)))) (wrap64 (x20_3 + 1)) t775 x780001_2) = some r := by first | (rw [hji52] at H; exact H) | (simp only [hji52] at H ⊢; exact H)
                have hji52_ : (x18_2 / 2 ^ min (ji50).toNat 64) = ji52 := hji52
                have hji52z : (ji50) ≤ 64 → (x18_2 / 2 ^ (ji50).toNat) = ji52 := shr_small hji52
                obtain ⟨y804, hy804⟩ : ∃ y_ : List Int, y_ = (x19_3.set (x20_3 : Int).toNat (wrap64 ((rd x19_3 x20_3) + (Go.bits .and .i64 (ji52) 1)))) := ⟨_, rfl⟩
                replace H : (laws_FnCountedBest.l1 k3 (t776.length : Int) t780 t784 x9_2 t789 t791 x15_2 x17_2 x18_2 y804 (wrap64 (x20_3 + 1)) t775 x780001_2) = some r := by first | (rw [hy804]; with_reducible exact H) | (have H2_ := (Option.bind_some _ _).symm.trans H; rw [hy804]; with_reducible exact H2_) | (have H2_ := (Option.bind_some _ _).symm.trans H; with_reducible exact H2_) | with_reducible exact H | (rw [hy804]; exact H) | exact H
                have Ny804 := Zab.mk hy804
                clear hy804
                have H' := Zab.mk H
                clear H
                obtain ⟨Ao54, co54, eo54⟩ := Kd.R_slice HO_19.out
                subst eo54
                have p803 : 0 ≤ (x20_3 : Int) := of_decide_eq_true (by first | (with_reducible assumption) | assumption)
                have q803 : x20_3 < (x19_3.length : Int) := of_decide_eq_true (by first | (with_reducible assumption) | assumption)
                obtain ⟨ad803, e803, hx803_0⟩ := Kd.at_int (Kd.R_reads' HO_19.out).2.2 x20_3 p803 q803
                cases e803
                replace p803 := eq_true p803
                replace q803 := eq_true q803
                have p53 : 0 ≤ (x20_3 : Int) := of_decide_eq_true (by first | (with_reducible assumption) | assumption)
                have q53 : (x20_3 : Int) < ((x19_3.length : Int) : Int) := of_decide_eq_true (by first | (with_reducible assumption) | assumption)
                obtain ⟨go53, co53, eo53, gb53, gl53, cl53, HG53⟩ := Kd.R_form HO_19.out (by omega)
                (first | cases eo53 | (injection eo53 with ea_ en_ ec_; (first | subst ea_ | (injection ea_ with ea_; subst ea_)); subst ec_; clear en_))
                have GB53 := Zab.mk gb53
                have GG53 := Zab.mk HG53
                clear gb53 gl53 HG53
                (first | simp only [add_plain] at hx803_0 | skip)
                obtain ⟨hx53_0, hf53_0⟩ := Kd.R_celln 0 HO_19.out (x20_3 : Int) p53 q53
                replace p53 := eq_true p53
                replace q53 := eq_true q53
                have HP55 := Kd.R_putg HO_19.out (x20_3 : Int) (wrap64 ((rd x19_3 x20_3) + (Go.bits .and .i64 (ji52) 1)))
                as_aux_lemma =>
                 go_wp2_with (first | ((with_reducible refine gate_store (t := 2) (p := 121) rfl ?_); refine store_event (t := 2) (p := 121) (v := ?vo_w56) (w1 := (wr.setCell ⟨go53, (x20_3 : Int).toNat, none⟩ (.int .i64 (wrap64 ((rd x19_3 x20_3) + (Go.bits .and .i64 (ji52) 1)))))) ?hg ?ho ?hn ?hr ?_; (case ho => rfl); (case hg => rfl); (case hn => rfl); (case hr => first | (go_simp; done) | (go_simp; rfl)); intro w56 hw; have hg : wr.grownBy w56 (some go53) := (by rw [hw]; exact HP55.2); have hp_ : Kd.R (Kd.int .i64) 2 w56 w.heap.size (fun k_ => some k_ ≠ (.slice Ao25 x9_2.length co25 : Value).ownBlock ∧ some k_ ≠ (.slice Ao46 x15_2.length co46 : Value).ownBlock ∧ some k_ ≠ (u780001 : Value).ownBlock) (.slice (some ⟨go53, 0, none⟩) x19_3.length co54) y804 := (by rw [hw, Ny804.out]; exact HP55.1); clear HP55; have n0_ := Zab.mk (Kd.R_after (v := (.slice (some ⟨go53, 0, none⟩) x19_3.length co54)) (v1 := (.slice (some ⟨go53, 0, none⟩) x19_3.length co54)) (ok := (fun k_ => some k_ ≠ (.slice Ao46 x15_2.length co46 : Value).ownBlock ∧ some k_ ≠ (u780001 : Value).ownBlock)) (by (with_reducible repeat (first | apply Kd.R_alloc | apply Kd.R_drewN | apply Kd.R_drew)); exact Kd.R_mono HO_9.out (fun _ hk => ⟨⟨hk.1, hk.2.2⟩, hk.2.1⟩)) hg (.inl rfl)); have n1_ := Zab.mk (Kd.R_after (v := (.slice (some ⟨go53, 0, none⟩) x19_3.length co54)) (v1 := (.slice (some ⟨go53, 0, none⟩) x19_3.length co54)) (ok := (fun k_ => some k_ ≠ (.slice Ao25 x9_2.length co25 : Value).ownBlock ∧ some k_ ≠ (u780001 : Value).ownBlock)) (by (with_reducible repeat (first | apply Kd.R_alloc | apply Kd.R_drewN | apply Kd.R_drew)); exact Kd.R_mono HO_15.out (fun _ hk => ⟨⟨hk.1, hk.2.2⟩, hk.2.1⟩)) hg (.inl rfl)); have n2_ := Zab.mk (hp_); have n3_ := Zab.mk (Kd.R_after (v := (.slice (some ⟨go53, 0, none⟩) x19_3.length co54)) (v1 := (.slice (some ⟨go53, 0, none⟩) x19_3.length co54)) (ok := (fun k_ => some k_ ≠ (.slice Ao25 x9_2.length co25 : Value).ownBlock ∧ some k_ ≠ (.slice Ao46 x15_2.length co46 : Value).ownBlock)) (by (with_reducible repeat (first | apply Kd.R_alloc | apply Kd.R_drewN | apply Kd.R_drew)); exact Kd.R_mono HO_780001.out (fun _ hk => ⟨⟨hk.1, hk.2.1⟩, hk.2.2⟩)) hg (.inl rfl)); have n4_ := Zab.mk (blk_grown (g := gb779) (o := .cells #[.int .i64 t775, u780001] 28 (0, 0)) (by (with_reducible repeat (first | refine Zag ?_ _ | refine Zah ?_ | refine Zaf ?_ _)); exact BK779.out) hg (Kd.R_ne HO_19.out BK779.out (by decide))); have n5_ := Zab.mk ((by rw [hw]; exact Zae (HB.out) GB53.out : Below w.heap.size w w56)); clear HO_9; clear HO_15; clear HO_19; clear HO_780001; clear BK779; clear HB; have HO_9 := n0_; have HO_15 := n1_; have HO_19 := n2_; have HO_780001 := n3_; have BK779 := n4_; have HB := n5_; clear n0_ n1_ n2_ n3_ n4_ n5_; clear hg hw hp_))
                 go_roundg k3
                 case measure => have := HJ12.out; have := HK2.out; have := HK3.out; omega
                 case rel => exact ⟨(y804), (wrap64 (x20_3 + 1)), (by first | rfl | (simp; done) | (simp [*]; done)), H', ⟨by have := HJ12.out; have := HK2.out; have := HK3.out; omega⟩, ⟨by (try simp only [hl9_2]); (with_reducible repeat (first | apply Kd.R_alloc | apply Kd.R_drewN | apply Kd.R_drew)); exact Kd.R_mono HO_9.out (fun _ hk => ⟨hk.1.1, ⟨hk.2, hk.1.2⟩⟩)⟩, ⟨by (try simp only [hl9_2]); (with_reducible repeat (first | apply Kd.R_alloc | apply Kd.R_drewN | apply Kd.R_drew)); exact Kd.R_mono HO_15.out (fun _ hk => ⟨hk.1.1, ⟨hk.2, hk.1.2⟩⟩)⟩, ⟨by (try simp only [hl9_2]); (with_reducible repeat (first | apply Kd.R_alloc | apply Kd.R_drewN | apply Kd.R_drew)); exact HO_19.out⟩, ⟨by (try simp only [hl9_2]); (with_reducible repeat (first | apply Kd.R_alloc | apply Kd.R_drewN | apply Kd.R_drew)); exact Kd.R_mono HO_780001.out (fun _ hk => ⟨hk.1.1, ⟨hk.1.2, hk.2⟩⟩)⟩, ⟨by (try simp only [hl9_2]); (with_reducible repeat (first | refine Zag ?_ _ | refine Zah ?_ | refine Zaf ?_ _)); exact BK779.out⟩, ⟨by repeat (first | (with_reducible first | exact HB.out | apply Zad | apply Zaa | apply Zac | refine Zae ?_ GE779.out) | exact HB.out)⟩⟩
               ·rw [if_neg c51] at H
                exact absurd H (by simp)
              ·rw [if_neg c49] at H
               exact absurd H (by simp)
             ·rw [if_neg c48] at H
              exact absurd H (by simp)
            ·rw [if_neg c47] at H
             have c47b0 : decide (x20_3 < (t776.length : Int)) = false := decide_eq_false c47
             clear c47
             have HC57 := Zab.mk H
             clear H
             go_upto_region 22 with (fail)
             go_cut [131] (fun v131 wc => ∃ (kq : Nat) (x131_56 : Bool), v131 = .bool x131_56 ∧ Zab (laws_FnCountedBest.j3 kq (t776.length : Int) t780 t784 x9_2 t789 t791 x15_2 x17_2 x18_2 x19_3 x131_56 t775 x780001_2 = some r) ∧ Zab (kq ≤ k3) ∧ Zab (Kd.R (Kd.int .i64) 2 wc w.heap.size (fun k_ => some k_ ≠ ((.slice Ao46 x15_2.length co46) : Value).ownBlock ∧ some k_ ≠ (v801 : Value).ownBlock ∧ some k_ ≠ (u780001 : Value).ownBlock) (.slice Ao25 x9_2.length co25) x9_2) ∧ Zab (Kd.R (Kd.int .i64) 2 wc w.heap.size (fun k_ => some k_ ≠ ((.slice Ao25 x9_2.length co25) : Value).ownBlock ∧ some k_ ≠ (v801 : Value).ownBlock ∧ some k_ ≠ (u780001 : Value).ownBlock) (.slice Ao46 x15_2.length co46) x15_2) ∧ Zab (Kd.R (Kd.int .i64) 2 wc w.heap.size (fun k_ => some k_ ≠ ((.slice Ao25 x9_2.length co25) : Value).ownBlock ∧ some k_ ≠ ((.slice Ao46 x15_2.length co46) : Value).ownBlock ∧ some k_ ≠ (u780001 : Value).ownBlock) v801 x19_3) ∧ Zab (Kd.R (Kd.int .i64) 2 wc w.heap.size (fun k_ => some k_ ≠ ((.slice Ao25 x9_2.length co25) : Value).ownBlock ∧ some k_ ≠ ((.slice Ao46 x15_2.length co46) : Value).ownBlock ∧ some k_ ≠ (v801 : Value).ownBlock) u780001 x780001_2) ∧ Zab (wc.heap[gb779]? = some (.cells #[.int .i64 t775, u780001] 28 (0, 0))) ∧ Zab (Below w.heap.size w wc))
             case first =>
              have H := HC57.out
              clear HC57
              replace H := Option.bind_eq_some_iff.mp H
              obtain ⟨t805, A580, H⟩ := H
              replace H : (if t805 = true then ((laws_r8Sum.f k3 x19_3).bind fun t806 => (laws_FnCountedBest.j3 k3 (t776.length : Int) t780 t784 x9_2 t789 t791 x15_2 x17_2 x18_2 x19_3 (t806 != t784) t775 x780001_2)) else (laws_FnCountedBest.j3 k3 (t776.length : Int) t780 t784 x9_2 t789 t791 x15_2 x17_2 x18_2 x19_3 true t775 x780001_2)) = some r := H
              have A58 := Zab.mk A580
              clear A580
              by_cases c59 : t805 = true
              ·subst c59
               have H1 : ((laws_r8Sum.f k3 x19_3).bind fun t806 => (laws_FnCountedBest.j3 k3 (t776.length : Int) t780 t784 x9_2 t789 t791 x15_2 x17_2 x18_2 x19_3 (t806 != t784) t775 x780001_2)) = some r := by rw [if_pos rfl] at H; exact H
               clear H
               have H := H1
               clear H1
               replace H := Option.bind_eq_some_iff.mp H
               obtain ⟨t806, A600, H⟩ := H
               replace H : (laws_FnCountedBest.j3 k3 (t776.length : Int) t780 t784 x9_2 t789 t791 x15_2 x17_2 x18_2 x19_3 (t806 != t784) t775 x780001_2) = some r := H
               have A60 := Zab.mk A600
               clear A600
               have H' := Zab.mk H
               clear H
               have hcz61_0 : wr.cell? ⟨gb779, 0, none⟩ = some (.int .i64 t775) := (Zaj BK779.out 0).trans rfl
               have hcz61_1 : wr.cell? ⟨gb779, 1, none⟩ = some (u780001) := (Zaj BK779.out 1).trans rfl
               have hfz61_0 := Zak BK779.out 0
               have hfz61_1 := Zak BK779.out 1
               obtain ⟨Ao62, co62, eo62⟩ := Kd.R_slice HO_780001.out
               subst eo62
               obtain ⟨Ao63, co63, eo63⟩ := Kd.R_slice HO_19.out
               subst eo63
               as_aux_lemma =>
                go_wp2_with (first | ((with_reducible refine Zay (f := 27) rfl ?_); refine goesL_ (some 124) rfl rfl Try.func27 (by kernel_rfl) rfl #[.agg #[.int .i64 t775, .slice Ao62 x780001_2.length co62], .slice Ao63 x19_3.length co63] rfl (by (try simp only [List.map_toArray, List.map_cons, List.map_nil]); first | done | rfl | (simp only [List.length_drop, List.length_take]; rfl)) ?_; (with_reducible refine (Za0.calls k3 t775 _ _ x780001_2 _ _ x19_3 true _ ?side1 ?side2 ?side3 ?side4 A58.out).mono ?_); (case side1 => repeat (first | exact (Kd.R_reads' HO_780001.out).2.2 | (with_reducible refine Kd.C_alloc ?_ _) | (with_reducible refine Kd.C_drewN ?_ _) | (with_reducible refine Kd.C_drew ?_))); (case side2 => exact (Kd.R_reads' HO_780001.out).2.1); (case side3 => repeat (first | exact (Kd.R_reads' HO_19.out).2.2 | (with_reducible refine Kd.C_alloc ?_ _) | (with_reducible refine Kd.C_drewN ?_ _) | (with_reducible refine Kd.C_drew ?_))); (case side4 => exact (Kd.R_reads' HO_19.out).2.1); rintro e w64 ⟨rfl, hb⟩; refine ⟨_, rfl, ?_⟩; have n0_ := Zab.mk (Kd.R_below (by (with_reducible repeat (first | apply Kd.R_alloc | apply Kd.R_drewN | apply Kd.R_drew)); exact HO_9.out) hb); have n1_ := Zab.mk (Kd.R_below (by (with_reducible repeat (first | apply Kd.R_alloc | apply Kd.R_drewN | apply Kd.R_drew)); exact HO_15.out) hb); have n2_ := Zab.mk (Kd.R_below (by (with_reducible repeat (first | apply Kd.R_alloc | apply Kd.R_drewN | apply Kd.R_drew)); exact HO_19.out) hb); have n3_ := Zab.mk (Kd.R_below (by (with_reducible repeat (first | apply Kd.R_alloc | apply Kd.R_drewN | apply Kd.R_drew)); exact HO_780001.out) hb); have n4_ := Zab.mk (Zaq (g := gb779) (o := .cells #[.int .i64 t775, .slice Ao62 x780001_2.length co62] 28 (0, 0)) (by (with_reducible repeat (first | refine Zag ?_ _ | refine Zah ?_ | refine Zaf ?_ _)); exact BK779.out) hb); have n5_ := Zab.mk (Zap (by repeat (first | (with_reducible first | exact HB.out | apply Zad | apply Zaa | apply Zac | refine Zae ?_ GE779.out) | exact HB.out)) hb); clear HO_9; clear HO_15; clear HO_19; clear HO_780001; clear BK779; clear HB; have HO_9 := n0_; have HO_15 := n1_; have HO_19 := n2_; have HO_780001 := n3_; have BK779 := n4_; have HB := n5_; clear n0_ n1_ n2_ n3_ n4_ n5_; (try clear hb); (try clear hb2); (try clear hk); (try clear hi)) | (go_at_call 37; (with_reducible refine (laws_r8Sum.calls k3 _ _ x19_3 t806 _ ?side1 ?side2 A60.out).mono ?_); (case side1 => repeat (first | exact (Kd.R_reads' HO_19.out).2.2 | (with_reducible refine Kd.C_alloc ?_ _) | (with_reducible refine Kd.C_drewN ?_ _) | (with_reducible refine Kd.C_drew ?_))); (case side2 => exact (Kd.R_reads' HO_19.out).2.1); rintro e w' ⟨rfl, ⟨nd, rfl⟩⟩))
                go_meet
                case rel => exact ⟨_, ((t806 != t784)), (by first | rfl | (simp; done) | (simp [*]; done)), H', ⟨by have := HJ12.out; have := HK2.out; have := HK3.out; first | omega | exact Nat.le_refl _⟩, ⟨by (try simp only [hl9_2]); (with_reducible repeat (first | apply Kd.R_alloc | apply Kd.R_drewN | apply Kd.R_drew)); exact HO_9.out⟩, ⟨by (try simp only [hl9_2]); (with_reducible repeat (first | apply Kd.R_alloc | apply Kd.R_drewN | apply Kd.R_drew)); exact HO_15.out⟩, ⟨by (try simp only [hl9_2]); (with_reducible repeat (first | apply Kd.R_alloc | apply Kd.R_drewN | apply Kd.R_drew)); exact HO_19.out⟩, ⟨by (try simp only [hl9_2]); (with_reducible repeat (first | apply Kd.R_alloc | apply Kd.R_drewN | apply Kd.R_drew)); exact HO_780001.out⟩, ⟨by (try simp only [hl9_2]); (with_reducible repeat (first | refine Zag ?_ _ | refine Zah ?_ | refine Zaf ?_ _)); exact BK779.out⟩, ⟨by repeat (first | (with_reducible first | exact HB.out | apply Zad | apply Zaa | apply Zac | refine Zae ?_ GE779.out) | exact HB.out)⟩⟩
              ·replace c59 := Bool.eq_false_iff.mpr c59
               subst c59
               have H1 : (laws_FnCountedBest.j3 k3 (t776.length : Int) t780 t784 x9_2 t789 t791 x15_2 x17_2 x18_2 x19_3 true t775 x780001_2) = some r := by rw [if_neg (show ¬ (false = true) by decide)] at H; exact H
               clear H
               have H := H1
               clear H1
               have H' := Zab.mk H
               clear H
               have hcz65_0 : wr.cell? ⟨gb779, 0, none⟩ = some (.int .i64 t775) := (Zaj BK779.out 0).trans rfl
               have hcz65_1 : wr.cell? ⟨gb779, 1, none⟩ = some (u780001) := (Zaj BK779.out 1).trans rfl
               have hfz65_0 := Zak BK779.out 0
               have hfz65_1 := Zak BK779.out 1
               obtain ⟨Ao66, co66, eo66⟩ := Kd.R_slice HO_780001.out
               subst eo66
               obtain ⟨Ao67, co67, eo67⟩ := Kd.R_slice HO_19.out
               subst eo67
               as_aux_lemma =>
                go_wp2_with (first | ((with_reducible refine Zay (f := 27) rfl ?_); refine goesL_ (some 124) rfl rfl Try.func27 (by kernel_rfl) rfl #[.agg #[.int .i64 t775, .slice Ao66 x780001_2.length co66], .slice Ao67 x19_3.length co67] rfl (by (try simp only [List.map_toArray, List.map_cons, List.map_nil]); first | done | rfl | (simp only [List.length_drop, List.length_take]; rfl)) ?_; (with_reducible refine (Za0.calls k3 t775 _ _ x780001_2 _ _ x19_3 false _ ?side1 ?side2 ?side3 ?side4 A58.out).mono ?_); (case side1 => repeat (first | exact (Kd.R_reads' HO_780001.out).2.2 | (with_reducible refine Kd.C_alloc ?_ _) | (with_reducible refine Kd.C_drewN ?_ _) | (with_reducible refine Kd.C_drew ?_))); (case side2 => exact (Kd.R_reads' HO_780001.out).2.1); (case side3 => repeat (first | exact (Kd.R_reads' HO_19.out).2.2 | (with_reducible refine Kd.C_alloc ?_ _) | (with_reducible refine Kd.C_drewN ?_ _) | (with_reducible refine Kd.C_drew ?_))); (case side4 => exact (Kd.R_reads' HO_19.out).2.1); rintro e w68 ⟨rfl, hb⟩; refine ⟨_, rfl, ?_⟩; have n0_ := Zab.mk (Kd.R_below (by (with_reducible repeat (first | apply Kd.R_alloc | apply Kd.R_drewN | apply Kd.R_drew)); exact HO_9.out) hb); have n1_ := Zab.mk (Kd.R_below (by (with_reducible repeat (first | apply Kd.R_alloc | apply Kd.R_drewN | apply Kd.R_drew)); exact HO_15.out) hb); have n2_ := Zab.mk (Kd.R_below (by (with_reducible repeat (first | apply Kd.R_alloc | apply Kd.R_drewN | apply Kd.R_drew)); exact HO_19.out) hb); have n3_ := Zab.mk (Kd.R_below (by (with_reducible repeat (first | apply Kd.R_alloc | apply Kd.R_drewN | apply Kd.R_drew)); exact HO_780001.out) hb); have n4_ := Zab.mk (Zaq (g := gb779) (o := .cells #[.int .i64 t775, .slice Ao66 x780001_2.length co66] 28 (0, 0)) (by (with_reducible repeat (first | refine Zag ?_ _ | refine Zah ?_ | refine Zaf ?_ _)); exact BK779.out) hb); have n5_ := Zab.mk (Zap (by repeat (first | (with_reducible first | exact HB.out | apply Zad | apply Zaa | apply Zac | refine Zae ?_ GE779.out) | exact HB.out)) hb); clear HO_9; clear HO_15; clear HO_19; clear HO_780001; clear BK779; clear HB; have HO_9 := n0_; have HO_15 := n1_; have HO_19 := n2_; have HO_780001 := n3_; have BK779 := n4_; have HB := n5_; clear n0_ n1_ n2_ n3_ n4_ n5_; (try clear hb); (try clear hb2); (try clear hk); (try clear hi)))
                go_meet
                case rel => exact ⟨_, (true), (by first | rfl | (simp; done) | (simp [*]; done)), H', ⟨by have := HJ12.out; have := HK2.out; have := HK3.out; first | omega | exact Nat.le_refl _⟩, ⟨by (try simp only [hl9_2]); (with_reducible repeat (first | apply Kd.R_alloc | apply Kd.R_drewN | apply Kd.R_drew)); exact HO_9.out⟩, ⟨by (try simp only [hl9_2]); (with_reducible repeat (first | apply Kd.R_alloc | apply Kd.R_drewN | apply Kd.R_drew)); exact HO_15.out⟩, ⟨by (try simp only [hl9_2]); (with_reducible repeat (first | apply Kd.R_alloc | apply Kd.R_drewN | apply Kd.R_drew)); exact HO_19.out⟩, ⟨by (try simp only [hl9_2]); (with_reducible repeat (first | apply Kd.R_alloc | apply Kd.R_drewN | apply Kd.R_drew)); exact HO_780001.out⟩, ⟨by (try simp only [hl9_2]); (with_reducible repeat (first | refine Zag ?_ _ | refine Zah ?_ | refine Zaf ?_ _)); exact BK779.out⟩, ⟨by repeat (first | (with_reducible first | exact HB.out | apply Zad | apply Zaa | apply Zac | refine Zae ?_ GE779.out) | exact HB.out)⟩⟩
             case rest =>
              clear HC57
              try clear c1
              try clear c2
              try clear p2
              try clear c3
              try clear c4
              try clear c5
              try clear p5
              try clear q5
              try clear hx5
              try clear hf5
              try clear p6
              try clear c8
              try clear p8
              try clear q8
              try clear hx8
              try clear c27
              try clear c29
              try clear c30
              try clear c31
              try clear c32
              try clear c33
              try clear c33b0
              try clear c33b1
              try clear c33b2
              try clear c34
              try clear c34b0
              try clear c34b1
              try clear c34b2
              try clear c35
              try clear c37
              try clear c39
              try clear c39b0
              try clear c39b1
              try clear c41
              try clear c41b0
              try clear c42
              try clear c44
              try clear c45
              try clear c46
              try clear c47
              try clear c47b0
              try clear c48
              try clear c48b0
              try clear c49
              try clear c49b0
              try clear c51
              try clear c51b0
              try clear c51b1
              try clear p53
              try clear q53
              try clear hx53
              try clear hf53
              try clear c59
              try clear p64
              try clear hcz16_0
              try clear hcz16_1
              try clear hcz20_0
              try clear hcz20_1
              try clear hcz22_0
              try clear hcz22_1
              try clear hcz24_0
              try clear hcz24_1
              try clear hcz27_0
              try clear hcz27_1
              try clear hcz61_0
              try clear hcz61_1
              try clear hcz65_0
              try clear hcz65_1
              try clear hfz16_0
              try clear hfz16_1
              try clear hfz20_0
              try clear hfz20_1
              try clear hfz22_0
              try clear hfz22_1
              try clear hfz24_0
              try clear hfz24_1
              try clear hfz27_0
              try clear hfz27_1
              try clear hfz61_0
              try clear hfz61_1
              try clear hfz65_0
              try clear hfz65_1
              try clear hx53_0
              try clear hx803_0
              try clear p2
              try clear p53
              try clear p6
              try clear p803
              try clear q53
              try clear q803
              obtain ⟨kq, x131_56, rfl, HA, HJ56, HO_9, HO_15, HO_19, HO_780001, BK779, HB⟩ := hcut
              cases kq with
              | zero => exact absurd HA.out (by simp [laws_FnCountedBest.j3])
              | succ kj56 =>
               have H := HA.out
               clear HA
               simp only [laws_FnCountedBest.j3] at H
               by_cases c69 : x131_56 = true
               ·subst c69
                have H1 : (laws_FnCountedBest.l0 kj56 (t776.length : Int) t780 t784 x9_2 t789 t791 x15_2 x17_2 (wrap64 (x18_2 + 1)) t775 x780001_2) = some r := by rw [if_pos rfl] at H; exact H
                clear H
                have H := H1
                clear H1
                have H' := Zab.mk H
                clear H
                as_aux_lemma =>
                 go_wp2
                 (try simp only [← hl9_2])
                 go_roundg kj56
                 case measure => have := HJ12.out; have := HK2.out; have := HK3.out; have := HJ56.out; omega
                 case rel => exact ⟨(x9_2), (x15_2), (x17_2), (wrap64 (x18_2 + 1)), (x780001_2), (u780001), (by first | rfl | (simp; done) | (simp [*]; done)), (by first | rfl | (simp; done) | (simp [*]; done)), H', ⟨by have := HJ12.out; have := HK2.out; have := HK3.out; have := HJ56.out; omega⟩, ⟨by (try simp only [hl9_2]); (with_reducible repeat (first | apply Kd.R_alloc | apply Kd.R_drewN | apply Kd.R_drew)); exact Kd.R_mono HO_9.out (fun _ hk => ⟨hk.1, hk.2.2⟩)⟩, ⟨by (try simp only [hl9_2]); (with_reducible repeat (first | apply Kd.R_alloc | apply Kd.R_drewN | apply Kd.R_drew)); exact Kd.R_mono HO_15.out (fun _ hk => ⟨hk.1, hk.2.2⟩)⟩, ⟨by (try simp only [hl9_2]); (with_reducible repeat (first | apply Kd.R_alloc | apply Kd.R_drewN | apply Kd.R_drew)); exact Kd.R_mono HO_780001.out (fun _ hk => ⟨hk.1, hk.2.1⟩)⟩, ⟨by (try simp only [hl9_2]); (with_reducible repeat (first | refine Zag ?_ _ | refine Zah ?_ | refine Zaf ?_ _)); exact BK779.out⟩, ⟨by repeat (first | (with_reducible first | exact HB.out | apply Zad | apply Zaa | apply Zac | refine Zae ?_ GE779.out) | exact HB.out)⟩⟩
               ·replace c69 := Bool.eq_false_iff.mpr c69
                subst c69
                have H1 : ((Za9.f kj56 t775 x780001_2 x19_3 t780).bind fun bt807 => (if bt807.2 = true then (laws_FnCountedBest.j4 kj56 (t776.length : Int) t780 t784 x9_2 t789 t791 x15_2 x17_2 x18_2 x19_3 bt807.1 (decide (bt807.1 < t791)) t775 x780001_2) else (laws_FnCountedBest.j4 kj56 (t776.length : Int) t780 t784 x9_2 t789 t791 x15_2 x17_2 x18_2 x19_3 bt807.1 true t775 x780001_2))) = some r := by rw [if_neg (show ¬ (false = true) by decide)] at H; exact H
                clear H
                have H := H1
                clear H1
                replace H := Option.bind_eq_some_iff.mp H
                obtain ⟨⟨t807, t808⟩, A700, H⟩ := H
                replace H : (if t808 = true then (laws_FnCountedBest.j4 kj56 (t776.length : Int) t780 t784 x9_2 t789 t791 x15_2 x17_2 x18_2 x19_3 t807 (decide (t807 < t791)) t775 x780001_2) else (laws_FnCountedBest.j4 kj56 (t776.length : Int) t780 t784 x9_2 t789 t791 x15_2 x17_2 x18_2 x19_3 t807 true t775 x780001_2)) = some r := H
                have A70 := Zab.mk A700
                clear A700
                have HC71 := Zab.mk H
                clear H
                have hcz72_0 : wc.cell? ⟨gb779, 0, none⟩ = some (.int .i64 t775) := (Zaj BK779.out 0).trans rfl
                have hcz72_1 : wc.cell? ⟨gb779, 1, none⟩ = some (u780001) := (Zaj BK779.out 1).trans rfl
                have hfz72_0 := Zak BK779.out 0
                have hfz72_1 := Zak BK779.out 1
                obtain ⟨Ao73, co73, eo73⟩ := Kd.R_slice HO_780001.out
                subst eo73
                obtain ⟨Ao74, co74, eo74⟩ := Kd.R_slice HO_19.out
                subst eo74
                go_upto_region 24 with (first | ((with_reducible refine Zay (f := 45) rfl ?_); refine goesL_ (some 136) rfl rfl Try.func45 (by kernel_rfl) rfl #[.agg #[.int .i64 t775, .slice Ao73 x780001_2.length co73], .slice Ao74 x19_3.length co74, .int .i64 t780] rfl (by (try simp only [List.map_toArray, List.map_cons, List.map_nil]); first | done | rfl | (simp only [List.length_drop, List.length_take]; rfl)) ?_; (with_reducible refine (Za9.calls kj56 t775 _ _ x780001_2 _ _ x19_3 t780 t807 t808 _ ?side1 ?side2 ?side3 ?side4 A70.out).mono ?_); (case side1 => repeat (first | exact (Kd.R_reads' HO_780001.out).2.2 | (with_reducible refine Kd.C_alloc ?_ _) | (with_reducible refine Kd.C_drewN ?_ _) | (with_reducible refine Kd.C_drew ?_))); (case side2 => exact (Kd.R_reads' HO_780001.out).2.1); (case side3 => repeat (first | exact (Kd.R_reads' HO_19.out).2.2 | (with_reducible refine Kd.C_alloc ?_ _) | (with_reducible refine Kd.C_drewN ?_ _) | (with_reducible refine Kd.C_drew ?_))); (case side4 => exact (Kd.R_reads' HO_19.out).2.1); rintro e w75 ⟨rfl, hb⟩; refine ⟨_, rfl, ?_⟩; have n0_ := Zab.mk (Kd.R_below (by (with_reducible repeat (first | apply Kd.R_alloc | apply Kd.R_drewN | apply Kd.R_drew)); exact HO_9.out) hb); have n1_ := Zab.mk (Kd.R_below (by (with_reducible repeat (first | apply Kd.R_alloc | apply Kd.R_drewN | apply Kd.R_drew)); exact HO_15.out) hb); have n2_ := Zab.mk (Kd.R_below (by (with_reducible repeat (first | apply Kd.R_alloc | apply Kd.R_drewN | apply Kd.R_drew)); exact HO_19.out) hb); have n3_ := Zab.mk (Kd.R_below (by (with_reducible repeat (first | apply Kd.R_alloc | apply Kd.R_drewN | apply Kd.R_drew)); exact HO_780001.out) hb); have n4_ := Zab.mk (Zaq (g := gb779) (o := .cells #[.int .i64 t775, .slice Ao73 x780001_2.length co73] 28 (0, 0)) (by (with_reducible repeat (first | refine Zag ?_ _ | refine Zah ?_ | refine Zaf ?_ _)); exact BK779.out) hb); have n5_ := Zab.mk (Zap (by repeat (first | (with_reducible first | exact HB.out | apply Zad | apply Zaa | apply Zac | refine Zae ?_ GE779.out) | exact HB.out)) hb); clear HO_9; clear HO_15; clear HO_19; clear HO_780001; clear BK779; clear HB; have HO_9 := n0_; have HO_15 := n1_; have HO_19 := n2_; have HO_780001 := n3_; have BK779 := n4_; have HB := n5_; clear n0_ n1_ n2_ n3_ n4_ n5_; (try clear hb); (try clear hb2); (try clear hk); (try clear hi)))
                (try simp only [Act.put, List.setIfInBounds_toArray, List.set_cons_zero, List.set_cons_succ])
                go_cut [145] (fun v145 wc => ∃ (kq : Nat) (x145_70 : Bool), v145 = .bool x145_70 ∧ Zab (laws_FnCountedBest.j4 kq (t776.length : Int) t780 t784 x9_2 t789 t791 x15_2 x17_2 x18_2 x19_3 t807 x145_70 t775 x780001_2 = some r) ∧ Zab (kq ≤ kj56) ∧ Zab (Kd.R (Kd.int .i64) 2 wc w.heap.size (fun k_ => some k_ ≠ ((.slice Ao46 x15_2.length co46) : Value).ownBlock ∧ some k_ ≠ ((.slice Ao74 x19_3.length co74) : Value).ownBlock ∧ some k_ ≠ ((.slice Ao73 x780001_2.length co73) : Value).ownBlock) (.slice Ao25 x9_2.length co25) x9_2) ∧ Zab (Kd.R (Kd.int .i64) 2 wc w.heap.size (fun k_ => some k_ ≠ ((.slice Ao25 x9_2.length co25) : Value).ownBlock ∧ some k_ ≠ ((.slice Ao74 x19_3.length co74) : Value).ownBlock ∧ some k_ ≠ ((.slice Ao73 x780001_2.length co73) : Value).ownBlock) (.slice Ao46 x15_2.length co46) x15_2) ∧ Zab (Kd.R (Kd.int .i64) 2 wc w.heap.size (fun k_ => some k_ ≠ ((.slice Ao25 x9_2.length co25) : Value).ownBlock ∧ some k_ ≠ ((.slice Ao46 x15_2.length co46) : Value).ownBlock ∧ some k_ ≠ ((.slice Ao73 x780001_2.length co73) : Value).ownBlock) (.slice Ao74 x19_3.length co74) x19_3) ∧ Zab (Kd.R (Kd.int .i64) 2 wc w.heap.size (fun k_ => some k_ ≠ ((.slice Ao25 x9_2.length co25) : Value).ownBlock ∧ some k_ ≠ ((.slice Ao46 x15_2.length co46) : Value).ownBlock ∧ some k_ ≠ ((.slice Ao74 x19_3.length co74) : Value).ownBlock) (.slice Ao73 x780001_2.length co73) x780001_2) ∧ Zab (wc.heap[gb779]? = some (.cells #[.int .i64 t775, (.slice Ao73 x780001_2.length co73)] 28 (0, 0))) ∧ Zab (Below w.heap.size w wc))
                case first =>
                 have H := HC71.out
                 clear HC71
                 by_cases c76 : t808 = true
                 ·subst c76
                  have H1 : (laws_FnCountedBest.j4 kj56 (t776.length : Int) t780 t784 x9_2 t789 t791 x15_2 x17_2 x18_2 x19_3 t807 (decide (t807 < t791)) t775 x780001_2) = some r := by rw [if_pos rfl] at H; exact H
                  clear H
                  have H := H1
                  clear H1
                  have H' := Zab.mk H
                  clear H
                  as_aux_lemma =>
                   go_wp2
                   go_meet
                   case rel => exact ⟨_, (decide (t807 < t791)), (by first | rfl | (simp; done) | (simp [*]; done)), H', ⟨by have := HJ12.out; have := HK2.out; have := HK3.out; have := HJ56.out; first | omega | exact Nat.le_refl _⟩, ⟨by (try simp only [hl9_2]); (with_reducible repeat (first | apply Kd.R_alloc | apply Kd.R_drewN | apply Kd.R_drew)); exact HO_9.out⟩, ⟨by (try simp only [hl9_2]); (with_reducible repeat (first | apply Kd.R_alloc | apply Kd.R_drewN | apply Kd.R_drew)); exact HO_15.out⟩, ⟨by (try simp only [hl9_2]); (with_reducible repeat (first | apply Kd.R_alloc | apply Kd.R_drewN | apply Kd.R_drew)); exact HO_19.out⟩, ⟨by (try simp only [hl9_2]); (with_reducible repeat (first | apply Kd.R_alloc | apply Kd.R_drewN | apply Kd.R_drew)); exact HO_780001.out⟩, ⟨by (try simp only [hl9_2]); (with_reducible repeat (first | refine Zag ?_ _ | refine Zah ?_ | refine Zaf ?_ _)); exact BK779.out⟩, ⟨by repeat (first | (with_reducible first | exact HB.out | apply Zad | apply Zaa | apply Zac | refine Zae ?_ GE779.out) | exact HB.out)⟩⟩
                 ·replace c76 := Bool.eq_false_iff.mpr c76
                  subst c76
                  have H1 : (laws_FnCountedBest.j4 kj56 (t776.length : Int) t780 t784 x9_2 t789 t791 x15_2 x17_2 x18_2 x19_3 t807 true t775 x780001_2) = some r := by rw [if_neg (show ¬ (false = true) by decide)] at H; exact H
                  clear H
                  have H := H1
                  clear H1
                  have H' := Zab.mk H
                  clear H
                  as_aux_lemma =>
                   go_wp2
                   go_meet
                   case rel => exact ⟨_, (true), (by first | rfl | (simp; done) | (simp [*]; done)), H', ⟨by have := HJ12.out; have := HK2.out; have := HK3.out; have := HJ56.out; first | omega | exact Nat.le_refl _⟩, ⟨by (try simp only [hl9_2]); (with_reducible repeat (first | apply Kd.R_alloc | apply Kd.R_drewN | apply Kd.R_drew)); exact HO_9.out⟩, ⟨by (try simp only [hl9_2]); (with_reducible repeat (first | apply Kd.R_alloc | apply Kd.R_drewN | apply Kd.R_drew)); exact HO_15.out⟩, ⟨by (try simp only [hl9_2]); (with_reducible repeat (first | apply Kd.R_alloc | apply Kd.R_drewN | apply Kd.R_drew)); exact HO_19.out⟩, ⟨by (try simp only [hl9_2]); (with_reducible repeat (first | apply Kd.R_alloc | apply Kd.R_drewN | apply Kd.R_drew)); exact HO_780001.out⟩, ⟨by (try simp only [hl9_2]); (with_reducible repeat (first | refine Zag ?_ _ | refine Zah ?_ | refine Zaf ?_ _)); exact BK779.out⟩, ⟨by repeat (first | (with_reducible first | exact HB.out | apply Zad | apply Zaa | apply Zac | refine Zae ?_ GE779.out) | exact HB.out)⟩⟩
                case rest =>
                 clear HC71
                 try clear c1
                 try clear c2
                 try clear p2
                 try clear c3
                 try clear c4
                 try clear c5
                 try clear p5
                 try clear q5
                 try clear hx5
                 try clear hf5
                 try clear c6
                 try clear p6
                 try clear c7
                 try clear c8
                 try clear p8
                 try clear q8
                 try clear hx8
                 try clear c27
                 try clear c29
                 try clear c30
                 try clear c31
                 try clear c32
                 try clear c33
                 try clear c33b0
                 try clear c33b1
                 try clear c33b2
                 try clear c34
                 try clear c34b0
                 try clear c34b1
                 try clear c34b2
                 try clear c35
                 try clear c37
                 try clear c39
                 try clear c39b0
                 try clear c39b1
                 try clear c41
                 try clear c41b0
                 try clear c42
                 try clear c44
                 try clear c45
                 try clear c46
                 try clear c47
                 try clear c47b0
                 try clear c48
                 try clear c48b0
                 try clear c49
                 try clear c49b0
                 try clear c51
                 try clear c51b0
                 try clear c51b1
                 try clear p53
                 try clear q53
                 try clear hx53
                 try clear hf53
                 try clear c59
                 try clear p64
                 try clear c69
                 try clear c76
                 try clear hcz16_0
                 try clear hcz16_1
                 try clear hcz20_0
                 try clear hcz20_1
                 try clear hcz22_0
                 try clear hcz22_1
                 try clear hcz24_0
                 try clear hcz24_1
                 try clear hcz27_0
                 try clear hcz27_1
                 try clear hcz61_0
                 try clear hcz61_1
                 try clear hcz65_0
                 try clear hcz65_1
                 try clear hcz72_0
                 try clear hcz72_1
                 try clear hfz16_0
                 try clear hfz16_1
                 try clear hfz20_0
                 try clear hfz20_1
                 try clear hfz22_0
                 try clear hfz22_1
                 try clear hfz24_0
                 try clear hfz24_1
                 try clear hfz27_0
                 try clear hfz27_1
                 try clear hfz61_0
                 try clear hfz61_1
                 try clear hfz65_0
                 try clear hfz65_1
                 try clear hfz72_0
                 try clear hfz72_1
                 try clear hx53_0
                 try clear hx803_0
                 try clear p2
                 try clear p5
                 try clear p53
                 try clear p6
                 try clear p64
                 try clear p8
                 try clear p803
                 try clear q5
                 try clear q53
                 try clear q8
                 try clear q803
                 obtain ⟨kq, x145_70, rfl, HA, HJ70, HO_9, HO_15, HO_19, HO_780001, BK779, HB⟩ := hcut
                 cases kq with
                 | zero => exact absurd HA.out (by simp [laws_FnCountedBest.j4])
                 | succ kj70 =>
                  have H := HA.out
                  clear HA
                  simp only [laws_FnCountedBest.j4] at H
                  by_cases c77 : x145_70 = true
                  ·subst c77
                   have H1 : (some false) = some r := by rw [if_pos rfl] at H; exact H
                   clear H
                   have H := H1
                   clear H1
                   obtain rfl := Option.some.inj H
                   as_aux_lemma =>
                    go_wp2
                    go_ret
                    exact ⟨by first | rfl | (simp [Zas, Zar] <;> rfl) | (simp only [← hji38, ← hji40]; first | rfl | (simp [Zas, Zar] <;> rfl)) | (simp [*, Zas, Zar] <;> rfl), by repeat (first | (with_reducible first | exact HB.out | apply Zad | apply Zaa | apply Zac | refine Zae ?_ GE779.out) | exact HB.out)⟩
                  ·replace c77 := Bool.eq_false_iff.mpr c77
                   subst c77
                   have H1 : (if t807 = t791 then (if (wrap64 (x17_2 + 1)) = 1 then ((laws_r8Same.f kj70 x19_3 x9_2).bind fun t809 => (if t809 = true then (laws_FnCountedBest.l0 kj70 (t776.length : Int) t780 t784 x9_2 t789 t791 x15_2 (wrap64 (x17_2 + 1)) (wrap64 (x18_2 + 1)) t775 x780001_2) else (some false))) else (laws_FnCountedBest.l0 kj70 (t776.length : Int) t780 t784 x9_2 t789 t791 x15_2 (wrap64 (x17_2 + 1)) (wrap64 (x18_2 + 1)) t775 x780001_2)) else (laws_FnCountedBest.l0 kj70 (t776.length : Int) t780 t784 x9_2 t789 t791 x15_2 x17_2 (wrap64 (x18_2 + 1)) t775 x780001_2)) = some r := by rw [if_neg (show ¬ (false = true) by decide)] at H; exact H
                   clear H
                   have H := H1
                   clear H1
                   by_cases c78 : t807 = t791
                   ·rw [if_pos c78] at H
                    have c78b0 : (t807 == t791) = true := beq_iff_eq.mpr c78
                    have c78b1 : (t807 != t791) = false := bne_eq_false_iff_eq.mpr c78
                    clear c78
                    by_cases c79 : (wrap64 (x17_2 + 1)) = 1
                    ·rw [if_pos c79] at H
                     have c79b0 : ((wrap64 (x17_2 + 1)) == 1) = true := beq_iff_eq.mpr c79
                     have c79b1 : ((wrap64 (x17_2 + 1)) != 1) = false := bne_eq_false_iff_eq.mpr c79
                     clear c79
                     replace H := Option.bind_eq_some_iff.mp H
                     obtain ⟨t809, A800, H⟩ := H
                     replace H : (if t809 = true then (laws_FnCountedBest.l0 kj70 (t776.length : Int) t780 t784 x9_2 t789 t791 x15_2 (wrap64 (x17_2 + 1)) (wrap64 (x18_2 + 1)) t775 x780001_2) else (some false)) = some r := H
                     have A80 := Zab.mk A800
                     clear A800
                     by_cases c81 : t809 = true
                     ·subst c81
                      have H1 : (laws_FnCountedBest.l0 kj70 (t776.length : Int) t780 t784 x9_2 t789 t791 x15_2 (wrap64 (x17_2 + 1)) (wrap64 (x18_2 + 1)) t775 x780001_2) = some r := by rw [if_pos rfl] at H; exact H
                      clear H
                      have H := H1
                      clear H1
                      have H' := Zab.mk H
                      clear H
                      as_aux_lemma =>
                       go_wp2_with (first | (go_at_call 48; (with_reducible refine (laws_r8Same.calls kj70 _ _ x19_3 _ _ x9_2 true _ ?side1 ?side2 ?side3 ?side4 A80.out).mono ?_); (case side1 => repeat (first | exact (Kd.R_reads' HO_19.out).2.2 | (with_reducible refine Kd.C_alloc ?_ _) | (with_reducible refine Kd.C_drewN ?_ _) | (with_reducible refine Kd.C_drew ?_))); (case side2 => exact (Kd.R_reads' HO_19.out).2.1); (case side3 => repeat (first | exact (Kd.R_reads' HO_9.out).2.2 | (with_reducible refine Kd.C_alloc ?_ _) | (with_reducible refine Kd.C_drewN ?_ _) | (with_reducible refine Kd.C_drew ?_))); (case side4 => exact (Kd.R_reads' HO_9.out).2.1); rintro e w' ⟨rfl, ⟨nd, rfl⟩⟩))
                       (try simp only [← hl9_2])
                       go_roundg kj70
                       case measure => have := HJ12.out; have := HK2.out; have := HK3.out; have := HJ56.out; have := HJ70.out; omega
                       case rel => exact ⟨(x9_2), (x15_2), (wrap64 (x17_2 + 1)), (wrap64 (x18_2 + 1)), (x780001_2), (.slice Ao73 x780001_2.length co73), (by first | rfl | (simp; done) | (simp [*]; done)), (by first | rfl | (simp; done) | (simp [*]; done)), H', ⟨by have := HJ12.out; have := HK2.out; have := HK3.out; have := HJ56.out; have := HJ70.out; omega⟩, ⟨by (try simp only [hl9_2]); (with_reducible repeat (first | apply Kd.R_alloc | apply Kd.R_drewN | apply Kd.R_drew)); exact Kd.R_mono HO_9.out (fun _ hk => ⟨hk.1, hk.2.2⟩)⟩, ⟨by (try simp only [hl9_2]); (with_reducible repeat (first | apply Kd.R_alloc | apply Kd.R_drewN | apply Kd.R_drew)); exact Kd.R_mono HO_15.out (fun _ hk => ⟨hk.1, hk.2.2⟩)⟩, ⟨by (try simp only [hl9_2]); (with_reducible repeat (first | apply Kd.R_alloc | apply Kd.R_drewN | apply Kd.R_drew)); exact Kd.R_mono HO_780001.out (fun _ hk => ⟨hk.1, hk.2.1⟩)⟩, ⟨by (try simp only [hl9_2]); (with_reducible repeat (first | refine Zag ?_ _ | refine Zah ?_ | refine Zaf ?_ _)); exact BK779.out⟩, ⟨by repeat (first | (with_reducible first | exact HB.out | apply Zad | apply Zaa | apply Zac | refine Zae ?_ GE779.out) | exact HB.out)⟩⟩
                     ·replace c81 := Bool.eq_false_iff.mpr c81
                      subst c81
                      have H1 : (some false) = some r := by rw [if_neg (show ¬ (false = true) by decide)] at H; exact H
                      clear H
                      have H := H1
                      clear H1
                      obtain rfl := Option.some.inj H
                      as_aux_lemma =>
                       go_wp2_with (first | (go_at_call 48; (with_reducible refine (laws_r8Same.calls kj70 _ _ x19_3 _ _ x9_2 false _ ?side1 ?side2 ?side3 ?side4 A80.out).mono ?_); (case side1 => repeat (first | exact (Kd.R_reads' HO_19.out).2.2 | (with_reducible refine Kd.C_alloc ?_ _) | (with_reducible refine Kd.C_drewN ?_ _) | (with_reducible refine Kd.C_drew ?_))); (case side2 => exact (Kd.R_reads' HO_19.out).2.1); (case side3 => repeat (first | exact (Kd.R_reads' HO_9.out).2.2 | (with_reducible refine Kd.C_alloc ?_ _) | (with_reducible refine Kd.C_drewN ?_ _) | (with_reducible refine Kd.C_drew ?_))); (case side4 => exact (Kd.R_reads' HO_9.out).2.1); rintro e w' ⟨rfl, ⟨nd, rfl⟩⟩))
                       go_ret
                       exact ⟨by first | rfl | (simp [Zas, Zar] <;> rfl) | (simp only [← hji38, ← hji40]; first | rfl | (simp [Zas, Zar] <;> rfl)) | (simp [*, Zas, Zar] <;> rfl), by repeat (first | (with_reducible first | exact HB.out | apply Zad | apply Zaa | apply Zac | refine Zae ?_ GE779.out) | exact HB.out)⟩
                    ·rw [if_neg c79] at H
                     have c79b0 : ((wrap64 (x17_2 + 1)) == 1) = false := beq_eq_false_iff_ne.mpr c79
                     have c79b1 : ((wrap64 (x17_2 + 1)) != 1) = true := bne_iff_ne.mpr c79
                     have H' := Zab.mk H
                     clear H
                     as_aux_lemma =>
                      go_wp2
                      (try simp only [← hl9_2])
                      go_roundg kj70
                      case measure => have := HJ12.out; have := HK2.out; have := HK3.out; have := HJ56.out; have := HJ70.out; omega
                      case rel => exact ⟨(x9_2), (x15_2), (wrap64 (x17_2 + 1)), (wrap64 (x18_2 + 1)), (x780001_2), (.slice Ao73 x780001_2.length co73), (by first | rfl | (simp; done) | (simp [*]; done)), (by first | rfl | (simp; done) | (simp [*]; done)), H', ⟨by have := HJ12.out; have := HK2.out; have := HK3.out; have := HJ56.out; have := HJ70.out; omega⟩, ⟨by (try simp only [hl9_2]); (with_reducible repeat (first | apply Kd.R_alloc | apply Kd.R_drewN | apply Kd.R_drew)); exact Kd.R_mono HO_9.out (fun _ hk => ⟨hk.1, hk.2.2⟩)⟩, ⟨by (try simp only [hl9_2]); (with_reducible repeat (first | apply Kd.R_alloc | apply Kd.R_drewN | apply Kd.R_drew)); exact Kd.R_mono HO_15.out (fun _ hk => ⟨hk.1, hk.2.2⟩)⟩, ⟨by (try simp only [hl9_2]); (with_reducible repeat (first | apply Kd.R_alloc | apply Kd.R_drewN | apply Kd.R_drew)); exact Kd.R_mono HO_780001.out (fun _ hk => ⟨hk.1, hk.2.1⟩)⟩, ⟨by (try simp only [hl9_2]); (with_reducible repeat (first | refine Zag ?_ _ | refine Zah ?_ | refine Zaf ?_ _)); exact BK779.out⟩, ⟨by repeat (first | (with_reducible first | exact HB.out | apply Zad | apply Zaa | apply Zac | refine Zae ?_ GE779.out) | exact HB.out)⟩⟩
                   ·rw [if_neg c78] at H
                    have c78b0 : (t807 == t791) = false := beq_eq_false_iff_ne.mpr c78
                    have c78b1 : (t807 != t791) = true := bne_iff_ne.mpr c78
                    have H' := Zab.mk H
                    clear H
                    as_aux_lemma =>
                     go_wp2
                     (try simp only [← hl9_2])
                     go_roundg kj70
                     case measure => have := HJ12.out; have := HK2.out; have := HK3.out; have := HJ56.out; have := HJ70.out; omega
                     case rel => exact ⟨(x9_2), (x15_2), (x17_2), (wrap64 (x18_2 + 1)), (x780001_2), (.slice Ao73 x780001_2.length co73), (by first | rfl | (simp; done) | (simp [*]; done)), (by first | rfl | (simp; done) | (simp [*]; done)), H', ⟨by have := HJ12.out; have := HK2.out; have := HK3.out; have := HJ56.out; have := HJ70.out; omega⟩, ⟨by (try simp only [hl9_2]); (with_reducible repeat (first | apply Kd.R_alloc | apply Kd.R_drewN | apply Kd.R_drew)); exact Kd.R_mono HO_9.out (fun _ hk => ⟨hk.1, hk.2.2⟩)⟩, ⟨by (try simp only [hl9_2]); (with_reducible repeat (first | apply Kd.R_alloc | apply Kd.R_drewN | apply Kd.R_drew)); exact Kd.R_mono HO_15.out (fun _ hk => ⟨hk.1, hk.2.2⟩)⟩, ⟨by (try simp only [hl9_2]); (with_reducible repeat (first | apply Kd.R_alloc | apply Kd.R_drewN | apply Kd.R_drew)); exact Kd.R_mono HO_780001.out (fun _ hk => ⟨hk.1, hk.2.1⟩)⟩, ⟨by (try simp only [hl9_2]); (with_reducible repeat (first | refine Zag ?_ _ | refine Zah ?_ | refine Zaf ?_ _)); exact BK779.out⟩, ⟨by repeat (first | (with_reducible first | exact HB.out | apply Zad | apply Zaa | apply Zac | refine Zae ?_ GE779.out) | exact HB.out)⟩⟩
         ·rw [if_neg c42] at H
          exact absurd H (by simp)
        ·rw [if_neg c41] at H
         have c41b0 : decide (x18_2 < (ji40)) = false := decide_eq_false c41
         clear c41
         obtain rfl := Option.some.inj H
         as_aux_lemma =>
          go_wp2
          go_ret
          exact ⟨by first | rfl | (simp [Zas, Zar] <;> rfl) | (simp only [← hji38, ← hji40]; first | rfl | (simp [Zas, Zar] <;> rfl)) | (simp [*, Zas, Zar] <;> rfl), by repeat (first | (with_reducible first | exact HB.out | apply Zad | apply Zaa | apply Zac | refine Zae ?_ GE779.out) | exact HB.out)⟩
       ·rw [if_neg c39] at H
        exact absurd H (by simp)
def laws_FnCountedBest.Pure : Prop := ∀ (l0 : List Int) (l1 : List Int), l0.length ≤ maxLen → l0.length * 1 ≤ 140737488351232 → (∀ x ∈ l0, (Lit.int .u8 x).wf = true) → l1.length ≤ maxLen → l1.length * 1 ≤ 140737488351232 → (∀ x ∈ l1, (Lit.int .u8 x).wf = true) → ∃ k, laws_FnCountedBest.f k l0 l1 = some true
theorem laws_FnCountedBest.walk (P : laws_FnCountedBest.Pure) (A0 : Option Addr) (len0 cap0 : Nat) (z0 : List Int) (A1 : Option Addr) (len1 cap1 : Nat) (z1 : List Int) (w : World) (w0 : (A0 = none ∧ len0 = 0 ∧ cap0 = 0 ∧ z0 = []) ∨ ∃ x, A0 = some x ∧ len0 ≤ cap0 ∧ cap0 ≤ maxLen ∧ z0.length = cap0 ∧ (∀ i, i < z0.length → w.cell? (x.add i) = some (.int .u8 (z0.getD i 0))) ∧ ∀ n ∈ z0, (Lit.int .u8 n).wf = true) (y0 : len0 * 1 ≤ 140737488351232) (w1 : (A1 = none ∧ len1 = 0 ∧ cap1 = 0 ∧ z1 = []) ∨ ∃ x, A1 = some x ∧ len1 ≤ cap1 ∧ cap1 ≤ maxLen ∧ z1.length = cap1 ∧ (∀ i, i < z1.length → w.cell? (x.add i) = some (.int .u8 (z1.getD i 0))) ∧ ∀ n ∈ z1, (Lit.int .u8 n).wf = true) (y1 : len1 * 1 ≤ 140737488351232) :
  Calls Try.prog 8 #[.slice A0 len0 cap0, .slice A1 len1 cap1] w fun e w' => e = .returned (.bool true) ∧ Below w.heap.size w w' := by
 obtain ⟨l0, rfl, hr0, hm0, hw0, hc0⟩ := ReadsInt.ofRowC w0
 obtain ⟨l1, rfl, hr1, hm1, hw1, hc1⟩ := ReadsInt.ofRowC w1
 obtain ⟨k, h⟩ := P l0 l1 hm0 y0 hw0 hm1 y1 hw1
 refine (laws_FnCountedBest.calls k _ _ l0 _ _ l1 true w (Kd.C_of_reads (d := (0 : Int)) (h1 := fun _ => rfl) hr0) hc0 (Kd.C_of_reads (d := (0 : Int)) (h1 := fun _ => rfl) hr1) hc1 h).mono ?_
 rintro e w' ⟨rfl, hd⟩
 exact ⟨rfl, hd⟩
end Go.Proofs.Ytgmmfdilfpkbmaa.P
