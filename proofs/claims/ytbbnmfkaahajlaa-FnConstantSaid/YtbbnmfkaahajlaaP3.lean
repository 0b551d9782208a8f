-- Written by gen.py (wip/gen of this repo) over the kit's print: not trusted, Lean checks it.
import Derived.Test.YtbbnmfkaahajlaaP0
import Derived.Test.YtbbnmfkaahajlaaP1
import Derived.Test.YtbbnmfkaahajlaaP2
import Derived.Test.YtbbnmfkaahajlaaLB
namespace Go.Proofs.Ytbbnmfkaahajlaa.P
open Go.RowKit Go.Proofs.YtbbnmfkaahajlaaW.PrintWords Go.Proofs.YtbbnmfkaahajlaaW.PrintLast Go.Proofs.YtbbnmfkaahajlaaW.PrintMore
attribute [local go_sem] max2_int min2_int max_two min_two max_three min_three max_four min_four   -- for this text's walks alone
set_option linter.unusedVariables false
set_option linter.unusedSimpArgs false

/-! ### laws_FnConstant: function 4 -/
mutual
def laws_FnConstant.l0 : Nat → Int → Int → Int → Int → Int → ByteArray → Bool → Int → Int → List Int → Option (Bool)
  | 0, _, _, _, _, _, _, _, _, _, _ => none
  | k + 1, x5, x6, x7, x8, x9, x10, x11, x13, x161000, x161001 => if x13 < x9 then (if x161001.length < 17592186044416 then (laws_FnConstant.l0 k x5 x6 x7 x8 x9 x10 x11 (wrap64 (x13 + 1)) x161000 (x161001 ++ [x6])) else (none)) else ((impl_PrefixFloors.f k x161000 x161001).bind fun bt164 => ((impl_BlockSums.f k bt164.1 x7).bind fun bt168 => (if x11 = true then (if bt164.2 = true then (if bt168.2 = true then (if (x10.size : Int) = (wrap64 (x9 + x5)) then (if (bt164.1.length : Int) = x9 then (laws_FnConstant.j1 k x5 x6 x7 x8 x9 x10 bt164.1 bt168.1 ((bt168.1.length : Int) != x8)) else (laws_FnConstant.j1 k x5 x6 x7 x8 x9 x10 bt164.1 bt168.1 true)) else (laws_FnConstant.j1 k x5 x6 x7 x8 x9 x10 bt164.1 bt168.1 true)) else (laws_FnConstant.j1 k x5 x6 x7 x8 x9 x10 bt164.1 bt168.1 true)) else (laws_FnConstant.j1 k x5 x6 x7 x8 x9 x10 bt164.1 bt168.1 true)) else (laws_FnConstant.j1 k x5 x6 x7 x8 x9 x10 bt164.1 bt168.1 true))))
def laws_FnConstant.j1 : Nat → Int → Int → Int → Int → Int → ByteArray → List Int → List Int → Bool → Option (Bool)
  | 0, _, _, _, _, _, _, _, _, _ => none
  | k + 1, x5, x6, x7, x8, x9, x10, x14, x16, x101 => if x101 = true then (some false) else (laws_FnConstant.l1 k x5 x6 x7 x8 x9 x10 x14 x16 0)
def laws_FnConstant.l1 : Nat → Int → Int → Int → Int → Int → ByteArray → List Int → List Int → Int → Option (Bool)
  | 0, _, _, _, _, _, _, _, _, _ => none
  | k + 1, x5, x6, x7, x8, x9, x10, x14, x16, x18 => if x18 < x9 then (if 0 ≤ x18 then (if x18 < (x10.size : Int) then (if x18 < (x14.length : Int) then (if (((bt x10 x18) == 49) != ((rd x14 x18) == 1)) = true then (some false) else (if 0 ≤ (wrap64 (x18 + x5)) then (if (wrap64 (x18 + x5)) < (x10.size : Int) then (if (bt x10 x18) = (bt x10 (wrap64 (x18 + x5))) then (laws_FnConstant.l1 k x5 x6 x7 x8 x9 x10 x14 x16 (wrap64 (x18 + 1))) else (some false)) else (none)) else (none))) else (none)) else (none)) else (none)) else (laws_FnConstant.l2 k x5 x6 x7 x8 x16 0)
def laws_FnConstant.l2 : Nat → Int → Int → Int → Int → List Int → Int → Option (Bool)
  | 0, _, _, _, _, _, _ => none
  | k + 1, x5, x6, x7, x8, x16, x19 => if x19 < x8 then (if 0 ≤ x19 then (if x19 < (x16.length : Int) then ((laws_b10Abs.f (wrap64 ((wrap64 (x5 * (rd x16 x19))) - (wrap64 (x7 * x6))))).bind fun t174 => (if t174 ≥ x5 then (some false) else (laws_FnConstant.l2 k x5 x6 x7 x8 x16 (wrap64 (x19 + 1))))) else (none)) else (none)) else (some true)
end
def laws_FnConstant.f (k : Nat) (l0 : List Int) (l1 : List Int) : Option (Bool) := (laws_b10Long.f l0 l1).bind fun t153 => (if t153 = true then (some true) else ((laws_b10At.f l0 0 12).bind fun t154 => ((laws_b10At.f l0 1 (wrap64 ((wrap64 (1 + t154)) + 1))).bind fun t155 => ((laws_b10At.f l1 0 6).bind fun t156 => ((laws_b10At.f l1 1 6).bind fun t157 => ((impl_ConstantWord.f k t155 (wrap64 (1 + t154)) (wrap64 ((wrap64 ((wrap64 (1 + t156)) * (wrap64 (1 + t157)))) + (wrap64 (1 + t154))))).bind fun bt158 => (laws_FnConstant.l0 k (wrap64 (1 + t154)) t155 (wrap64 (1 + t156)) (wrap64 (1 + t157)) (wrap64 ((wrap64 (1 + t156)) * (wrap64 (1 + t157)))) bt158.1 bt158.2 0 (wrap64 (1 + t154)) ([] : List Int))))))))
theorem laws_FnConstant.mono_l : ∀ k, (∀ y0 y1 y2 y3 y4 y5 y6 y7 y8 y9, LeO (laws_FnConstant.l0 k y0 y1 y2 y3 y4 y5 y6 y7 y8 y9) (laws_FnConstant.l0 (k + 1) y0 y1 y2 y3 y4 y5 y6 y7 y8 y9)) ∧ (∀ y0 y1 y2 y3 y4 y5 y6 y7 y8, LeO (laws_FnConstant.j1 k y0 y1 y2 y3 y4 y5 y6 y7 y8) (laws_FnConstant.j1 (k + 1) y0 y1 y2 y3 y4 y5 y6 y7 y8)) ∧ (∀ y0 y1 y2 y3 y4 y5 y6 y7 y8, LeO (laws_FnConstant.l1 k y0 y1 y2 y3 y4 y5 y6 y7 y8) (laws_FnConstant.l1 (k + 1) y0 y1 y2 y3 y4 y5 y6 y7 y8)) ∧ (∀ y0 y1 y2 y3 y4 y5, LeO (laws_FnConstant.l2 k y0 y1 y2 y3 y4 y5) (laws_FnConstant.l2 (k + 1) y0 y1 y2 y3 y4 y5))
  | 0 => ⟨fun _ _ _ _ _ _ _ _ _ _ r h => by simp [laws_FnConstant.l0] at h, fun _ _ _ _ _ _ _ _ _ r h => by simp [laws_FnConstant.j1] at h, fun _ _ _ _ _ _ _ _ _ r h => by simp [laws_FnConstant.l1] at h, fun _ _ _ _ _ _ r h => by simp [laws_FnConstant.l2] at h⟩
  | k + 1 => by
    obtain ⟨ih0, ih1, ih2, ih3⟩ := laws_FnConstant.mono_l k
    refine ⟨?_, ?_, ?_, ?_⟩
    · intro y0 y1 y2 y3 y4 y5 y6 y7 y8 y9
      unfold laws_FnConstant.l0
      repeat' first
      | (with_reducible exact ih0 _ _ _ _ _ _ _ _ _ _)
      | (with_reducible exact ih1 _ _ _ _ _ _ _ _ _)
      | (with_reducible exact ih2 _ _ _ _ _ _ _ _ _)
      | (with_reducible exact ih3 _ _ _ _ _ _)
      | (with_reducible exact impl_BlockSums.mono _ _ _)
      | (with_reducible exact impl_ConstantWord.mono _ _ _ _)
      | (with_reducible exact impl_PrefixFloors.mono _ _ _)
      | (with_reducible exact LeO.refl _)
      | (with_reducible exact LeO.none _)
      | (with_reducible refine LeO.ite ?_ ?_)
      | (with_reducible refine LeO.bind ?_ (fun _ => ?_))
      | exact ih0 _ _ _ _ _ _ _ _ _ _
      | exact ih1 _ _ _ _ _ _ _ _ _
      | exact ih2 _ _ _ _ _ _ _ _ _
      | exact ih3 _ _ _ _ _ _
      | exact impl_BlockSums.mono _ _ _
      | exact impl_ConstantWord.mono _ _ _ _
      | exact impl_PrefixFloors.mono _ _ _
      | exact LeO.none _
      | refine LeO.ite ?_ ?_
      | refine LeO.bind ?_ (fun _ => ?_)
    · intro y0 y1 y2 y3 y4 y5 y6 y7 y8
      unfold laws_FnConstant.j1
      repeat' first
      | (with_reducible exact ih0 _ _ _ _ _ _ _ _ _ _)
      | (with_reducible exact ih1 _ _ _ _ _ _ _ _ _)
      | (with_reducible exact ih2 _ _ _ _ _ _ _ _ _)
      | (with_reducible exact ih3 _ _ _ _ _ _)
      | (with_reducible exact impl_BlockSums.mono _ _ _)
      | (with_reducible exact impl_ConstantWord.mono _ _ _ _)
      | (with_reducible exact impl_PrefixFloors.mono _ _ _)
      | (with_reducible exact LeO.refl _)
      | (with_reducible exact LeO.none _)
      | (with_reducible refine LeO.ite ?_ ?_)
      | (with_reducible refine LeO.bind ?_ (fun _ => ?_))
      | exact ih0 _ _ _ _ _ _ _ _ _ _
      | exact ih1 _ _ _ _ _ _ _ _ _
      | exact ih2 _ _ _ _ _ _ _ _ _
      | exact ih3 _ _ _ _ _ _
      | exact impl_BlockSums.mono _ _ _
      | exact impl_ConstantWord.mono _ _ _ _
      | exact impl_PrefixFloors.mono _ _ _
      | exact LeO.none _
      | refine LeO.ite ?_ ?_
      | refine LeO.bind ?_ (fun _ => ?_)
    · intro y0 y1 y2 y3 y4 y5 y6 y7 y8
      unfold laws_FnConstant.l1
      repeat' first
      | (with_reducible exact ih0 _ _ _ _ _ _ _ _ _ _)
      | (with_reducible exact ih1 _ _ _ _ _ _ _ _ _)
      | (with_reducible exact ih2 _ _ _ _ _ _ _ _ _)
      | (with_reducible exact ih3 _ _ _ _ _ _)
      | (with_reducible exact impl_BlockSums.mono _ _ _)
      | (with_reducible exact impl_ConstantWord.mono _ _ _ _)
      | (with_reducible exact impl_PrefixFloors.mono _ _ _)
      | (with_reducible exact LeO.refl _)
      | (with_reducible exact LeO.none _)
      | (with_reducible refine LeO.ite ?_ ?_)
      | (with_reducible refine LeO.bind ?_ (fun _ => ?_))
      | exact ih0 _ _ _ _ _ _ _ _ _ _
      | exact ih1 _ _ _ _ _ _ _ _ _
      | exact ih2 _ _ _ _ _ _ _ _ _
      | exact ih3 _ _ _ _ _ _
      | exact impl_BlockSums.mono _ _ _
      | exact impl_ConstantWord.mono _ _ _ _
      | exact impl_PrefixFloors.mono _ _ _
      | exact LeO.none _
      | refine LeO.ite ?_ ?_
      | refine LeO.bind ?_ (fun _ => ?_)
    · intro y0 y1 y2 y3 y4 y5
      unfold laws_FnConstant.l2
      repeat' first
      | (with_reducible exact ih0 _ _ _ _ _ _ _ _ _ _)
      | (with_reducible exact ih1 _ _ _ _ _ _ _ _ _)
      | (with_reducible exact ih2 _ _ _ _ _ _ _ _ _)
      | (with_reducible exact ih3 _ _ _ _ _ _)
      | (with_reducible exact impl_BlockSums.mono _ _ _)
      | (with_reducible exact impl_ConstantWord.mono _ _ _ _)
      | (with_reducible exact impl_PrefixFloors.mono _ _ _)
      | (with_reducible exact LeO.refl _)
      | (with_reducible exact LeO.none _)
      | (with_reducible refine LeO.ite ?_ ?_)
      | (with_reducible refine LeO.bind ?_ (fun _ => ?_))
      | exact ih0 _ _ _ _ _ _ _ _ _ _
      | exact ih1 _ _ _ _ _ _ _ _ _
      | exact ih2 _ _ _ _ _ _ _ _ _
      | exact ih3 _ _ _ _ _ _
      | exact impl_BlockSums.mono _ _ _
      | exact impl_ConstantWord.mono _ _ _ _
      | exact impl_PrefixFloors.mono _ _ _
      | exact LeO.none _
      | refine LeO.ite ?_ ?_
      | refine LeO.bind ?_ (fun _ => ?_)
theorem laws_FnConstant.mono : ∀ a0 a1 k, LeO (laws_FnConstant.f k a0 a1) (laws_FnConstant.f (k + 1) a0 a1) := by
  intro a0 a1 k
  obtain ⟨ih0, ih1, ih2, ih3⟩ := laws_FnConstant.mono_l k
  unfold laws_FnConstant.f
  repeat' first
      | (with_reducible exact ih0 _ _ _ _ _ _ _ _ _ _)
      | (with_reducible exact ih1 _ _ _ _ _ _ _ _ _)
      | (with_reducible exact ih2 _ _ _ _ _ _ _ _ _)
      | (with_reducible exact ih3 _ _ _ _ _ _)
      | (with_reducible exact impl_BlockSums.mono _ _ _)
      | (with_reducible exact impl_ConstantWord.mono _ _ _ _)
      | (with_reducible exact impl_PrefixFloors.mono _ _ _)
      | (with_reducible exact LeO.refl _)
      | (with_reducible exact LeO.none _)
      | (with_reducible refine LeO.ite ?_ ?_)
      | (with_reducible refine LeO.bind ?_ (fun _ => ?_))
      | exact ih0 _ _ _ _ _ _ _ _ _ _
      | exact ih1 _ _ _ _ _ _ _ _ _
      | exact ih2 _ _ _ _ _ _ _ _ _
      | exact ih3 _ _ _ _ _ _
      | exact impl_BlockSums.mono _ _ _
      | exact impl_ConstantWord.mono _ _ _ _
      | exact impl_PrefixFloors.mono _ _ _
      | exact LeO.none _
      | refine LeO.ite ?_ ?_
      | refine LeO.bind ?_ (fun _ => ?_)
set_option maxHeartbeats 8000000 in
set_option maxRecDepth 100000 in
theorem laws_FnConstant.calls (k : Nat) (A0 : Option Addr) (c0 : Nat) (l0 : List Int) (A1 : Option Addr) (c1 : Nat) (l1 : List Int) (r : Bool) (w : World) (hr0 : Kd.C (Kd.int .u8) w A0 l0.length l0) (hc0 : l0.length ≤ c0) (hr1 : Kd.C (Kd.int .u8) w A1 l1.length l1) (hc1 : l1.length ≤ c1) (h : laws_FnConstant.f k l0 l1 = some r) :
    Calls Try.prog 4 #[.slice A0 l0.length c0, .slice A1 l1.length c1] w fun e w' => e = .returned (.bool r) ∧ Below w.heap.size w w' := by
  have hu35 := Try.underlying35
  have HR0 := Aside0.mk hr0
  have HC0 := Aside0.mk hc0
  clear hr0 hc0
  have HR1 := Aside0.mk hr1
  have HC1 := Aside0.mk hc1
  clear hr1 hc1
  have HB := Aside0.mk (Below.refl w.heap.size w)
  have H : ((laws_b10Long.f l0 l1).bind fun t153 => (if t153 = true then (some true) else ((laws_b10At.f l0 0 12).bind fun t154 => ((laws_b10At.f l0 1 (wrap64 ((wrap64 (1 + t154)) + 1))).bind fun t155 => ((laws_b10At.f l1 0 6).bind fun t156 => ((laws_b10At.f l1 1 6).bind fun t157 => ((impl_ConstantWord.f k t155 (wrap64 (1 + t154)) (wrap64 ((wrap64 ((wrap64 (1 + t156)) * (wrap64 (1 + t157)))) + (wrap64 (1 + t154))))).bind fun bt158 => (laws_FnConstant.l0 k (wrap64 (1 + t154)) t155 (wrap64 (1 + t156)) (wrap64 (1 + t157)) (wrap64 ((wrap64 (1 + t156)) * (wrap64 (1 + t157)))) bt158.1 bt158.2 0 (wrap64 (1 + t154)) ([] : List Int))))))))) = some r := h
  clear h
  replace H := Option.bind_eq_some_iff.mp H
  obtain ⟨t153, A30, H⟩ := H
  replace H : (if t153 = true then (some true) else ((laws_b10At.f l0 0 12).bind fun t154 => ((laws_b10At.f l0 1 (wrap64 ((wrap64 (1 + t154)) + 1))).bind fun t155 => ((laws_b10At.f l1 0 6).bind fun t156 => ((laws_b10At.f l1 1 6).bind fun t157 => ((impl_ConstantWord.f k t155 (wrap64 (1 + t154)) (wrap64 ((wrap64 ((wrap64 (1 + t156)) * (wrap64 (1 + t157)))) + (wrap64 (1 + t154))))).bind fun bt158 => (laws_FnConstant.l0 k (wrap64 (1 + t154)) t155 (wrap64 (1 + t156)) (wrap64 (1 + t157)) (wrap64 ((wrap64 (1 + t156)) * (wrap64 (1 + t157)))) bt158.1 bt158.2 0 (wrap64 (1 + t154)) ([] : List Int)))))))) = some r := H
  have A3 := Aside0.mk A30
  clear A30
  by_cases c4 : t153 = true
  · subst c4
    have H1 : (some true) = some r := by rw [if_pos rfl] at H; exact H
    clear H
    have H := H1
    clear H1
    obtain rfl := Option.some.inj H
    as_aux_lemma =>
      go_enter Try.func4, Try.ntmps4
      go_wp2_with (first | (go_at_call 13; (with_reducible refine (laws_b10Long.calls _ _ l0 _ _ l1 true _ ?side1 ?side2 ?side3 ?side4 A3.out).mono ?_); (case side1 => repeat (first | exact HR0.out | (with_reducible refine Kd.C_alloc ?_ _) | (with_reducible refine Kd.C_drewN ?_ _) | (with_reducible refine Kd.C_drew ?_))); (case side2 => exact HC0.out); (case side3 => repeat (first | exact HR1.out | (with_reducible refine Kd.C_alloc ?_ _) | (with_reducible refine Kd.C_drewN ?_ _) | (with_reducible refine Kd.C_drew ?_))); (case side4 => exact HC1.out); rintro e w' ⟨rfl, ⟨nd, rfl⟩⟩; (try first | exact ⟨rfl, _, World.drewN_drewN _ _ _⟩ | exact ⟨rfl, _, Eq.trans (World.drewN_drewN _ _ _) (congrArg (World.drewN _) (Nat.add_assoc _ _ _))⟩)))
      repeat (go_quiet (first | (go_at_call 13; (with_reducible refine (laws_b10Long.calls _ _ l0 _ _ l1 true _ ?side1 ?side2 ?side3 ?side4 A3.out).mono ?_); (case side1 => repeat (first | exact HR0.out | (with_reducible refine Kd.C_alloc ?_ _) | (with_reducible refine Kd.C_drewN ?_ _) | (with_reducible refine Kd.C_drew ?_))); (case side2 => exact HC0.out); (case side3 => repeat (first | exact HR1.out | (with_reducible refine Kd.C_alloc ?_ _) | (with_reducible refine Kd.C_drewN ?_ _) | (with_reducible refine Kd.C_drew ?_))); (case side4 => exact HC1.out); rintro e w' ⟨rfl, ⟨nd, rfl⟩⟩; (try first | exact ⟨rfl, _, World.drewN_drewN _ _ _⟩ | exact ⟨rfl, _, Eq.trans (World.drewN_drewN _ _ _) (congrArg (World.drewN _) (Nat.add_assoc _ _ _))⟩))); try go_wp2_with (first | (go_at_call 13; (with_reducible refine (laws_b10Long.calls _ _ l0 _ _ l1 true _ ?side1 ?side2 ?side3 ?side4 A3.out).mono ?_); (case side1 => repeat (first | exact HR0.out | (with_reducible refine Kd.C_alloc ?_ _) | (with_reducible refine Kd.C_drewN ?_ _) | (with_reducible refine Kd.C_drew ?_))); (case side2 => exact HC0.out); (case side3 => repeat (first | exact HR1.out | (with_reducible refine Kd.C_alloc ?_ _) | (with_reducible refine Kd.C_drewN ?_ _) | (with_reducible refine Kd.C_drew ?_))); (case side4 => exact HC1.out); rintro e w' ⟨rfl, ⟨nd, rfl⟩⟩; (try first | exact ⟨rfl, _, World.drewN_drewN _ _ _⟩ | exact ⟨rfl, _, Eq.trans (World.drewN_drewN _ _ _) (congrArg (World.drewN _) (Nat.add_assoc _ _ _))⟩))))
      go_ret
      exact ⟨by first | rfl | (simp [errW_none, errW_some] <;> rfl) | (simp [*, errW_none, errW_some] <;> rfl), by repeat (first | (with_reducible first | exact HB.out | apply below_alloc | apply pw_below_drewN | apply below_drew1) | exact HB.out)⟩
  · replace c4 := Bool.eq_false_iff.mpr c4
    subst c4
    have H1 : ((laws_b10At.f l0 0 12).bind fun t154 => ((laws_b10At.f l0 1 (wrap64 ((wrap64 (1 + t154)) + 1))).bind fun t155 => ((laws_b10At.f l1 0 6).bind fun t156 => ((laws_b10At.f l1 1 6).bind fun t157 => ((impl_ConstantWord.f k t155 (wrap64 (1 + t154)) (wrap64 ((wrap64 ((wrap64 (1 + t156)) * (wrap64 (1 + t157)))) + (wrap64 (1 + t154))))).bind fun bt158 => (laws_FnConstant.l0 k (wrap64 (1 + t154)) t155 (wrap64 (1 + t156)) (wrap64 (1 + t157)) (wrap64 ((wrap64 (1 + t156)) * (wrap64 (1 + t157)))) bt158.1 bt158.2 0 (wrap64 (1 + t154)) ([] : List Int))))))) = some r := by rw [if_neg (show ¬ (false = true) by decide)] at H; exact H
    clear H
    have H := H1
    clear H1
    replace H := Option.bind_eq_some_iff.mp H
    obtain ⟨t154, A50, H⟩ := H
    replace H : ((laws_b10At.f l0 1 (wrap64 ((wrap64 (1 + t154)) + 1))).bind fun t155 => ((laws_b10At.f l1 0 6).bind fun t156 => ((laws_b10At.f l1 1 6).bind fun t157 => ((impl_ConstantWord.f k t155 (wrap64 (1 + t154)) (wrap64 ((wrap64 ((wrap64 (1 + t156)) * (wrap64 (1 + t157)))) + (wrap64 (1 + t154))))).bind fun bt158 => (laws_FnConstant.l0 k (wrap64 (1 + t154)) t155 (wrap64 (1 + t156)) (wrap64 (1 + t157)) (wrap64 ((wrap64 (1 + t156)) * (wrap64 (1 + t157)))) bt158.1 bt158.2 0 (wrap64 (1 + t154)) ([] : List Int)))))) = some r := H
    have A5 := Aside0.mk A50
    clear A50
    replace H := Option.bind_eq_some_iff.mp H
    obtain ⟨t155, A60, H⟩ := H
    replace H : ((laws_b10At.f l1 0 6).bind fun t156 => ((laws_b10At.f l1 1 6).bind fun t157 => ((impl_ConstantWord.f k t155 (wrap64 (1 + t154)) (wrap64 ((wrap64 ((wrap64 (1 + t156)) * (wrap64 (1 + t157)))) + (wrap64 (1 + t154))))).bind fun bt158 => (laws_FnConstant.l0 k (wrap64 (1 + t154)) t155 (wrap64 (1 + t156)) (wrap64 (1 + t157)) (wrap64 ((wrap64 (1 + t156)) * (wrap64 (1 + t157)))) bt158.1 bt158.2 0 (wrap64 (1 + t154)) ([] : List Int))))) = some r := H
    have A6 := Aside0.mk A60
    clear A60
    replace H := Option.bind_eq_some_iff.mp H
    obtain ⟨t156, A70, H⟩ := H
    replace H : ((laws_b10At.f l1 1 6).bind fun t157 => ((impl_ConstantWord.f k t155 (wrap64 (1 + t154)) (wrap64 ((wrap64 ((wrap64 (1 + t156)) * (wrap64 (1 + t157)))) + (wrap64 (1 + t154))))).bind fun bt158 => (laws_FnConstant.l0 k (wrap64 (1 + t154)) t155 (wrap64 (1 + t156)) (wrap64 (1 + t157)) (wrap64 ((wrap64 (1 + t156)) * (wrap64 (1 + t157)))) bt158.1 bt158.2 0 (wrap64 (1 + t154)) ([] : List Int)))) = some r := H
    have A7 := Aside0.mk A70
    clear A70
    replace H := Option.bind_eq_some_iff.mp H
    obtain ⟨t157, A80, H⟩ := H
    replace H : ((impl_ConstantWord.f k t155 (wrap64 (1 + t154)) (wrap64 ((wrap64 ((wrap64 (1 + t156)) * (wrap64 (1 + t157)))) + (wrap64 (1 + t154))))).bind fun bt158 => (laws_FnConstant.l0 k (wrap64 (1 + t154)) t155 (wrap64 (1 + t156)) (wrap64 (1 + t157)) (wrap64 ((wrap64 (1 + t156)) * (wrap64 (1 + t157)))) bt158.1 bt158.2 0 (wrap64 (1 + t154)) ([] : List Int))) = some r := H
    have A8 := Aside0.mk A80
    clear A80
    replace H := Option.bind_eq_some_iff.mp H
    obtain ⟨⟨t158, t159⟩, A90, H⟩ := H
    replace H : (laws_FnConstant.l0 k (wrap64 (1 + t154)) t155 (wrap64 (1 + t156)) (wrap64 (1 + t157)) (wrap64 ((wrap64 (1 + t156)) * (wrap64 (1 + t157)))) t158 t159 0 (wrap64 (1 + t154)) ([] : List Int)) = some r := H
    have A9 := Aside0.mk A90
    clear A90
    have H' := Aside0.mk H
    clear H
    go_enter Try.func4, Try.ntmps4
    go_wp2_with (first | (go_at_call 13; (with_reducible refine (laws_b10Long.calls _ _ l0 _ _ l1 false _ ?side1 ?side2 ?side3 ?side4 A3.out).mono ?_); (case side1 => repeat (first | exact HR0.out | (with_reducible refine Kd.C_alloc ?_ _) | (with_reducible refine Kd.C_drewN ?_ _) | (with_reducible refine Kd.C_drew ?_))); (case side2 => exact HC0.out); (case side3 => repeat (first | exact HR1.out | (with_reducible refine Kd.C_alloc ?_ _) | (with_reducible refine Kd.C_drewN ?_ _) | (with_reducible refine Kd.C_drew ?_))); (case side4 => exact HC1.out); rintro e w' ⟨rfl, ⟨nd, rfl⟩⟩; (try first | exact ⟨rfl, _, World.drewN_drewN _ _ _⟩ | exact ⟨rfl, _, Eq.trans (World.drewN_drewN _ _ _) (congrArg (World.drewN _) (Nat.add_assoc _ _ _))⟩)) | (go_at_call 14; (with_reducible refine (laws_b10At.calls _ _ l0 0 12 t154 _ ?side1 ?side2 A5.out).mono ?_); (case side1 => repeat (first | exact HR0.out | (with_reducible refine Kd.C_alloc ?_ _) | (with_reducible refine Kd.C_drewN ?_ _) | (with_reducible refine Kd.C_drew ?_))); (case side2 => exact HC0.out); rintro e w' ⟨rfl, ⟨nd, rfl⟩⟩; (try first | exact ⟨rfl, _, World.drewN_drewN _ _ _⟩ | exact ⟨rfl, _, Eq.trans (World.drewN_drewN _ _ _) (congrArg (World.drewN _) (Nat.add_assoc _ _ _))⟩)) | (go_at_call 14; (with_reducible refine (laws_b10At.calls _ _ l0 1 (wrap64 ((wrap64 (1 + t154)) + 1)) t155 _ ?side1 ?side2 A6.out).mono ?_); (case side1 => repeat (first | exact HR0.out | (with_reducible refine Kd.C_alloc ?_ _) | (with_reducible refine Kd.C_drewN ?_ _) | (with_reducible refine Kd.C_drew ?_))); (case side2 => exact HC0.out); rintro e w' ⟨rfl, ⟨nd, rfl⟩⟩; (try first | exact ⟨rfl, _, World.drewN_drewN _ _ _⟩ | exact ⟨rfl, _, Eq.trans (World.drewN_drewN _ _ _) (congrArg (World.drewN _) (Nat.add_assoc _ _ _))⟩)) | (go_at_call 14; (with_reducible refine (laws_b10At.calls _ _ l1 0 6 t156 _ ?side1 ?side2 A7.out).mono ?_); (case side1 => repeat (first | exact HR1.out | (with_reducible refine Kd.C_alloc ?_ _) | (with_reducible refine Kd.C_drewN ?_ _) | (with_reducible refine Kd.C_drew ?_))); (case side2 => exact HC1.out); rintro e w' ⟨rfl, ⟨nd, rfl⟩⟩; (try first | exact ⟨rfl, _, World.drewN_drewN _ _ _⟩ | exact ⟨rfl, _, Eq.trans (World.drewN_drewN _ _ _) (congrArg (World.drewN _) (Nat.add_assoc _ _ _))⟩)) | (go_at_call 14; (with_reducible refine (laws_b10At.calls _ _ l1 1 6 t157 _ ?side1 ?side2 A8.out).mono ?_); (case side1 => repeat (first | exact HR1.out | (with_reducible refine Kd.C_alloc ?_ _) | (with_reducible refine Kd.C_drewN ?_ _) | (with_reducible refine Kd.C_drew ?_))); (case side2 => exact HC1.out); rintro e w' ⟨rfl, ⟨nd, rfl⟩⟩; (try first | exact ⟨rfl, _, World.drewN_drewN _ _ _⟩ | exact ⟨rfl, _, Eq.trans (World.drewN_drewN _ _ _) (congrArg (World.drewN _) (Nat.add_assoc _ _ _))⟩)) | (go_at_call 15; (with_reducible refine (impl_ConstantWord.calls k t155 (wrap64 (1 + t154)) (wrap64 ((wrap64 ((wrap64 (1 + t156)) * (wrap64 (1 + t157)))) + (wrap64 (1 + t154)))) t158 t159 _ A9.out).mono ?_); rintro e w10 ⟨rfl, hb⟩; have n0_ := Aside0.mk (below_step (by repeat (first | (with_reducible first | exact HB.out | apply below_alloc | apply pw_below_drewN | apply below_drew1) | exact HB.out)) hb); clear HB; have HB := n0_; clear n0_; (try clear hb); (try clear hb2); (try clear hk); (try clear hi)) | ((with_reducible refine gate_dst (N := 12) rfl ?_); (try (refine gate_guard (by rfl) ?_; dsimp only)); refine box_event ?hg (N := 12) ?hd (cs := #[.int .i64 0, .slice none 0 0]) (t := 35) ?hr ?_; (case hd => rfl); (case hg => rfl); (case hr => first | (go_simp; done) | (go_simp; rfl)); intro gb160 hg w11 hbox hb; have n0_ := Aside0.mk (below_step (by repeat (first | (with_reducible first | exact HB.out | apply below_alloc | apply pw_below_drewN | apply below_drew1) | exact HB.out)) hb); have n1_ := Aside0.mk (hbox); have n2_ := Aside0.mk ((by rw [hg]; exact (below_size (by repeat (first | (with_reducible first | exact HB.out | apply below_alloc | apply pw_below_drewN | apply below_drew1) | exact HB.out))) : w.heap.size ≤ gb160)); have n3_ := Aside0.mk ((by rw [hg]; exact (below_size (by repeat (first | (with_reducible first | exact HB.out | apply below_alloc | apply pw_below_drewN | apply below_drew1) | exact HB.out))) : w.heap.size ≤ gb160)); clear HB; have HB := n0_; have BK160 := n1_; have GW160 := n2_; have GE160 := n3_; clear n0_ n1_ n2_ n3_; clear hb hbox hg; have hcz12_0 : w11.cell? ⟨gb160, 0, none⟩ = some (.int .i64 0) := (blk_cell BK160.out 0).trans rfl; have hcz12_1 : w11.cell? ⟨gb160, 1, none⟩ = some (.slice none 0 0) := (blk_cell BK160.out 1).trans rfl; have hfz12_0 := blk_frozen BK160.out 0; have hfz12_1 := blk_frozen BK160.out 1))
    repeat (go_quiet (first | (go_at_call 13; (with_reducible refine (laws_b10Long.calls _ _ l0 _ _ l1 false _ ?side1 ?side2 ?side3 ?side4 A3.out).mono ?_); (case side1 => repeat (first | exact HR0.out | (with_reducible refine Kd.C_alloc ?_ _) | (with_reducible refine Kd.C_drewN ?_ _) | (with_reducible refine Kd.C_drew ?_))); (case side2 => exact HC0.out); (case side3 => repeat (first | exact HR1.out | (with_reducible refine Kd.C_alloc ?_ _) | (with_reducible refine Kd.C_drewN ?_ _) | (with_reducible refine Kd.C_drew ?_))); (case side4 => exact HC1.out); rintro e w' ⟨rfl, ⟨nd, rfl⟩⟩; (try first | exact ⟨rfl, _, World.drewN_drewN _ _ _⟩ | exact ⟨rfl, _, Eq.trans (World.drewN_drewN _ _ _) (congrArg (World.drewN _) (Nat.add_assoc _ _ _))⟩)) | (go_at_call 14; (with_reducible refine (laws_b10At.calls _ _ l0 0 12 t154 _ ?side1 ?side2 A5.out).mono ?_); (case side1 => repeat (first | exact HR0.out | (with_reducible refine Kd.C_alloc ?_ _) | (with_reducible refine Kd.C_drewN ?_ _) | (with_reducible refine Kd.C_drew ?_))); (case side2 => exact HC0.out); rintro e w' ⟨rfl, ⟨nd, rfl⟩⟩; (try first | exact ⟨rfl, _, World.drewN_drewN _ _ _⟩ | exact ⟨rfl, _, Eq.trans (World.drewN_drewN _ _ _) (congrArg (World.drewN _) (Nat.add_assoc _ _ _))⟩)) | (go_at_call 14; (with_reducible refine (laws_b10At.calls _ _ l0 1 (wrap64 ((wrap64 (1 + t154)) + 1)) t155 _ ?side1 ?side2 A6.out).mono ?_); (case side1 => repeat (first | exact HR0.out | (with_reducible refine Kd.C_alloc ?_ _) | (with_reducible refine Kd.C_drewN ?_ _) | (with_reducible refine Kd.C_drew ?_))); (case side2 => exact HC0.out); rintro e w' ⟨rfl, ⟨nd, rfl⟩⟩; (try first | exact ⟨rfl, _, World.drewN_drewN _ _ _⟩ | exact ⟨rfl, _, Eq.trans (World.drewN_drewN _ _ _) (congrArg (World.drewN _) (Nat.add_assoc _ _ _))⟩)) | (go_at_call 14; (with_reducible refine (laws_b10At.calls _ _ l1 0 6 t156 _ ?side1 ?side2 A7.out).mono ?_); (case side1 => repeat (first | exact HR1.out | (with_reducible refine Kd.C_alloc ?_ _) | (with_reducible refine Kd.C_drewN ?_ _) | (with_reducible refine Kd.C_drew ?_))); (case side2 => exact HC1.out); rintro e w' ⟨rfl, ⟨nd, rfl⟩⟩; (try first | exact ⟨rfl, _, World.drewN_drewN _ _ _⟩ | exact ⟨rfl, _, Eq.trans (World.drewN_drewN _ _ _) (congrArg (World.drewN _) (Nat.add_assoc _ _ _))⟩)) | (go_at_call 14; (with_reducible refine (laws_b10At.calls _ _ l1 1 6 t157 _ ?side1 ?side2 A8.out).mono ?_); (case side1 => repeat (first | exact HR1.out | (with_reducible refine Kd.C_alloc ?_ _) | (with_reducible refine Kd.C_drewN ?_ _) | (with_reducible refine Kd.C_drew ?_))); (case side2 => exact HC1.out); rintro e w' ⟨rfl, ⟨nd, rfl⟩⟩; (try first | exact ⟨rfl, _, World.drewN_drewN _ _ _⟩ | exact ⟨rfl, _, Eq.trans (World.drewN_drewN _ _ _) (congrArg (World.drewN _) (Nat.add_assoc _ _ _))⟩)) | (go_at_call 15; (with_reducible refine (impl_ConstantWord.calls k t155 (wrap64 (1 + t154)) (wrap64 ((wrap64 ((wrap64 (1 + t156)) * (wrap64 (1 + t157)))) + (wrap64 (1 + t154)))) t158 t159 _ A9.out).mono ?_); rintro e w10 ⟨rfl, hb⟩; have n0_ := Aside0.mk (below_step (by repeat (first | (with_reducible first | exact HB.out | apply below_alloc | apply pw_below_drewN | apply below_drew1) | exact HB.out)) hb); clear HB; have HB := n0_; clear n0_; (try clear hb); (try clear hb2); (try clear hk); (try clear hi)) | ((with_reducible refine gate_dst (N := 12) rfl ?_); (try (refine gate_guard (by rfl) ?_; dsimp only)); refine box_event ?hg (N := 12) ?hd (cs := #[.int .i64 0, .slice none 0 0]) (t := 35) ?hr ?_; (case hd => rfl); (case hg => rfl); (case hr => first | (go_simp; done) | (go_simp; rfl)); intro gb160 hg w11 hbox hb; have n0_ := Aside0.mk (below_step (by repeat (first | (with_reducible first | exact HB.out | apply below_alloc | apply pw_below_drewN | apply below_drew1) | exact HB.out)) hb); have n1_ := Aside0.mk (hbox); have n2_ := Aside0.mk ((by rw [hg]; exact (below_size (by repeat (first | (with_reducible first | exact HB.out | apply below_alloc | apply pw_below_drewN | apply below_drew1) | exact HB.out))) : w.heap.size ≤ gb160)); have n3_ := Aside0.mk ((by rw [hg]; exact (below_size (by repeat (first | (with_reducible first | exact HB.out | apply below_alloc | apply pw_below_drewN | apply below_drew1) | exact HB.out))) : w.heap.size ≤ gb160)); clear HB; have HB := n0_; have BK160 := n1_; have GW160 := n2_; have GE160 := n3_; clear n0_ n1_ n2_ n3_; clear hb hbox hg; have hcz12_0 : w11.cell? ⟨gb160, 0, none⟩ = some (.int .i64 0) := (blk_cell BK160.out 0).trans rfl; have hcz12_1 : w11.cell? ⟨gb160, 1, none⟩ = some (.slice none 0 0) := (blk_cell BK160.out 1).trans rfl; have hfz12_0 := blk_frozen BK160.out 0; have hfz12_1 := blk_frozen BK160.out 1)); try go_wp2_with (first | (go_at_call 13; (with_reducible refine (laws_b10Long.calls _ _ l0 _ _ l1 false _ ?side1 ?side2 ?side3 ?side4 A3.out).mono ?_); (case side1 => repeat (first | exact HR0.out | (with_reducible refine Kd.C_alloc ?_ _) | (with_reducible refine Kd.C_drewN ?_ _) | (with_reducible refine Kd.C_drew ?_))); (case side2 => exact HC0.out); (case side3 => repeat (first | exact HR1.out | (with_reducible refine Kd.C_alloc ?_ _) | (with_reducible refine Kd.C_drewN ?_ _) | (with_reducible refine Kd.C_drew ?_))); (case side4 => exact HC1.out); rintro e w' ⟨rfl, ⟨nd, rfl⟩⟩; (try first | exact ⟨rfl, _, World.drewN_drewN _ _ _⟩ | exact ⟨rfl, _, Eq.trans (World.drewN_drewN _ _ _) (congrArg (World.drewN _) (Nat.add_assoc _ _ _))⟩)) | (go_at_call 14; (with_reducible refine (laws_b10At.calls _ _ l0 0 12 t154 _ ?side1 ?side2 A5.out).mono ?_); (case side1 => repeat (first | exact HR0.out | (with_reducible refine Kd.C_alloc ?_ _) | (with_reducible refine Kd.C_drewN ?_ _) | (with_reducible refine Kd.C_drew ?_))); (case side2 => exact HC0.out); rintro e w' ⟨rfl, ⟨nd, rfl⟩⟩; (try first | exact ⟨rfl, _, World.drewN_drewN _ _ _⟩ | exact ⟨rfl, _, Eq.trans (World.drewN_drewN _ _ _) (congrArg (World.drewN _) (Nat.add_assoc _ _ _))⟩)) | (go_at_call 14; (with_reducible refine (laws_b10At.calls _ _ l0 1 (wrap64 ((wrap64 (1 + t154)) + 1)) t155 _ ?side1 ?side2 A6.out).mono ?_); (case side1 => repeat (first | exact HR0.out | (with_reducible refine Kd.C_alloc ?_ _) | (with_reducible refine Kd.C_drewN ?_ _) | (with_reducible refine Kd.C_drew ?_))); (case side2 => exact HC0.out); rintro e w' ⟨rfl, ⟨nd, rfl⟩⟩; (try first | exact ⟨rfl, _, World.drewN_drewN _ _ _⟩ | exact ⟨rfl, _, Eq.trans (World.drewN_drewN _ _ _) (congrArg (World.drewN _) (Nat.add_assoc _ _ _))⟩)) | (go_at_call 14; (with_reducible refine (laws_b10At.calls _ _ l1 0 6 t156 _ ?side1 ?side2 A7.out).mono ?_); (case side1 => repeat (first | exact HR1.out | (with_reducible refine Kd.C_alloc ?_ _) | (with_reducible refine Kd.C_drewN ?_ _) | (with_reducible refine Kd.C_drew ?_))); (case side2 => exact HC1.out); rintro e w' ⟨rfl, ⟨nd, rfl⟩⟩; (try first | exact ⟨rfl, _, World.drewN_drewN _ _ _⟩ | exact ⟨rfl, _, Eq.trans (World.drewN_drewN _ _ _) (congrArg (World.drewN _) (Nat.add_assoc _ _ _))⟩)) | (go_at_call 14; (with_reducible refine (laws_b10At.calls _ _ l1 1 6 t157 _ ?side1 ?side2 A8.out).mono ?_); (case side1 => repeat (first | exact HR1.out | (with_reducible refine Kd.C_alloc ?_ _) | (with_reducible refine Kd.C_drewN ?_ _) | (with_reducible refine Kd.C_drew ?_))); (case side2 => exact HC1.out); rintro e w' ⟨rfl, ⟨nd, rfl⟩⟩; (try first | exact ⟨rfl, _, World.drewN_drewN _ _ _⟩ | exact ⟨rfl, _, Eq.trans (World.drewN_drewN _ _ _) (congrArg (World.drewN _) (Nat.add_assoc _ _ _))⟩)) | (go_at_call 15; (with_reducible refine (impl_ConstantWord.calls k t155 (wrap64 (1 + t154)) (wrap64 ((wrap64 ((wrap64 (1 + t156)) * (wrap64 (1 + t157)))) + (wrap64 (1 + t154)))) t158 t159 _ A9.out).mono ?_); rintro e w10 ⟨rfl, hb⟩; have n0_ := Aside0.mk (below_step (by repeat (first | (with_reducible first | exact HB.out | apply below_alloc | apply pw_below_drewN | apply below_drew1) | exact HB.out)) hb); clear HB; have HB := n0_; clear n0_; (try clear hb); (try clear hb2); (try clear hk); (try clear hi)) | ((with_reducible refine gate_dst (N := 12) rfl ?_); (try (refine gate_guard (by rfl) ?_; dsimp only)); refine box_event ?hg (N := 12) ?hd (cs := #[.int .i64 0, .slice none 0 0]) (t := 35) ?hr ?_; (case hd => rfl); (case hg => rfl); (case hr => first | (go_simp; done) | (go_simp; rfl)); intro gb160 hg w11 hbox hb; have n0_ := Aside0.mk (below_step (by repeat (first | (with_reducible first | exact HB.out | apply below_alloc | apply pw_below_drewN | apply below_drew1) | exact HB.out)) hb); have n1_ := Aside0.mk (hbox); have n2_ := Aside0.mk ((by rw [hg]; exact (below_size (by repeat (first | (with_reducible first | exact HB.out | apply below_alloc | apply pw_below_drewN | apply below_drew1) | exact HB.out))) : w.heap.size ≤ gb160)); have n3_ := Aside0.mk ((by rw [hg]; exact (below_size (by repeat (first | (with_reducible first | exact HB.out | apply below_alloc | apply pw_below_drewN | apply below_drew1) | exact HB.out))) : w.heap.size ≤ gb160)); clear HB; have HB := n0_; have BK160 := n1_; have GW160 := n2_; have GE160 := n3_; clear n0_ n1_ n2_ n3_; clear hb hbox hg; have hcz12_0 : w11.cell? ⟨gb160, 0, none⟩ = some (.int .i64 0) := (blk_cell BK160.out 0).trans rfl; have hcz12_1 : w11.cell? ⟨gb160, 1, none⟩ = some (.slice none 0 0) := (blk_cell BK160.out 1).trans rfl; have hfz12_0 := blk_frozen BK160.out 0; have hfz12_1 := blk_frozen BK160.out 1)))
    go_loopg [13] k (fun kq v13 w' => ∃ (x13_1 : Int) (x161001_1 : List Int) (u161001 : Value), v13 = .int .i64 x13_1 ∧ Aside0 (laws_FnConstant.l0 kq (wrap64 (1 + t154)) t155 (wrap64 (1 + t156)) (wrap64 (1 + t157)) (wrap64 ((wrap64 (1 + t156)) * (wrap64 (1 + t157)))) t158 t159 x13_1 (wrap64 (1 + t154)) x161001_1 = some r) ∧ Aside0 (kq ≤ k) ∧ Aside0 (Kd.R (Kd.int .i64) 2 w' w.heap.size (fun _ => True) u161001 x161001_1) ∧ Aside0 (w'.heap[gb160]? = some (.cells #[.int .i64 (wrap64 (1 + t154)), u161001] 35 (0, 0))) ∧ Aside0 (Below w.heap.size w w'))
    case atStart => exact ⟨(0), (([] : List Int)), (.slice none 0 0), (by first | rfl | (simp; done) | (simp [*]; done) | (simp [IntWalk.i64_left, *]; done)), H', ⟨Nat.le_refl _⟩, ⟨by first | exact Kd.R_nil _ _ _ _ _ | exact Kd.N_nil _ _ _ _ _ | exact Kd.V_nil _ _ _ _ _ | exact Kd.Q_nil _ _ _ _ _ | exact Kd.S_nil _ _ _ _ _⟩, ⟨by (with_reducible repeat (first | refine blk_drewN ?_ _ | refine blk_drew ?_ | refine blk_alloc ?_ _)); refine blk_put (cs := #[.int .i64 (wrap64 (1 + t154)), .slice none 0 0]) ?_ 1 _ rfl; (with_reducible repeat (first | refine blk_drewN ?_ _ | refine blk_drew ?_ | refine blk_alloc ?_ _)); refine blk_put (cs := #[.int .i64 0, .slice none 0 0]) ?_ 0 _ rfl; (with_reducible repeat (first | refine blk_drewN ?_ _ | refine blk_drew ?_ | refine blk_alloc ?_ _)); exact BK160.out⟩, ⟨by repeat (first | (with_reducible first | exact HB.out | apply below_alloc | apply pw_below_drewN | apply below_drew1 | refine below_set ?_ GE160.out) | exact HB.out)⟩⟩
    case round =>
      clear H'
      try clear c1
      try clear p2
      try clear c4
      try clear p6
      try clear hcz12_0
      try clear hcz12_1
      try clear hfz12_0
      try clear hfz12_1
      obtain ⟨x13_1, x161001_1, u161001, rfl, HA, HK1, HO_161001, BK160, HB⟩ := hrel
      cases gk with
      | zero => exact absurd HA.out (by simp [laws_FnConstant.l0])
      | succ k1 =>
        have H := HA.out
        clear HA
        simp only [laws_FnConstant.l0] at H
        by_cases c13 : x13_1 < (wrap64 ((wrap64 (1 + t156)) * (wrap64 (1 + t157))))
        · rw [if_pos c13] at H
          have c13b0 : decide (x13_1 < (wrap64 ((wrap64 (1 + t156)) * (wrap64 (1 + t157))))) = true := decide_eq_true c13
          clear c13
          by_cases c14 : x161001_1.length < 17592186044416
          · rw [if_pos c14] at H
            have LMc14 := Aside0.mk c14
            clear c14
            obtain ⟨y161, hy161⟩ : ∃ y_ : List Int, y_ = (x161001_1 ++ [t155]) := ⟨_, rfl⟩
            replace H : (laws_FnConstant.l0 k1 (wrap64 (1 + t154)) t155 (wrap64 (1 + t156)) (wrap64 (1 + t157)) (wrap64 ((wrap64 (1 + t156)) * (wrap64 (1 + t157)))) t158 t159 (wrap64 (x13_1 + 1)) (wrap64 (1 + t154)) y161) = some r := by first | (rw [hy161]; with_reducible exact H) | (have H2_ := (Option.bind_some _ _).symm.trans H; rw [hy161]; with_reducible exact H2_) | (have H2_ := (Option.bind_some _ _).symm.trans H; with_reducible exact H2_) | with_reducible exact H | (rw [hy161]; exact H) | exact H
            have Ny161 := Aside0.mk hy161
            clear hy161
            have H' := Aside0.mk H
            clear H
            have hcz15_0 : wr.cell? ⟨gb160, 0, none⟩ = some (.int .i64 (wrap64 (1 + t154))) := (blk_cell BK160.out 0).trans rfl
            have hcz15_1 : wr.cell? ⟨gb160, 1, none⟩ = some (u161001) := (blk_cell BK160.out 1).trans rfl
            have hfz15_0 := blk_frozen BK160.out 0
            have hfz15_1 := blk_frozen BK160.out 1
            as_aux_lemma =>
              go_wp2_with (first | ((with_reducible refine gate_builtin (b := .append) (xs := #[.tmp 56, .tmp 58]) rfl ?_); (try (refine gate_guard (by rfl) ?_; dsimp only)); at_builtin; refine Kd.R_append (Kd.int .i64) (w0 := w) w.heap.size rfl (.tmp 56) (.tmp 58) 22 2 (.int .i64 0) 8 rfl Try.underlying22 info2 rfl (by decide) (by omega) u161001 x161001_1 t155 [.int .i64 t155] (fun _ => True) (fun _ => False) rfl rfl ?aP (fun _ hk => hk.elim) ?aF ?aO ?aB ?aS ?aL ?_; (case aP => exact rfl); (case aB => exact (by repeat (first | (with_reducible first | exact HB.out | apply below_alloc | apply pw_below_drewN | apply below_drew1 | refine below_set ?_ GE160.out) | exact HB.out))); (case aF => exact (fun _ _ => trivial)); (case aO => exact (by (with_reducible repeat (first | apply Kd.R_alloc | apply Kd.R_drewN | apply Kd.R_drew)); exact HO_161001.out)); (case aS => exact (below_size (by repeat (first | (with_reducible first | exact HB.out | apply below_alloc | apply pw_below_drewN | apply below_drew1 | refine below_set ?_ GE160.out) | exact HB.out)))); (case aL => have := LMc14.out; omega); intro v162 w16 ho hb hg hat; rw [← Ny161.out] at ho; have n0_ := Aside0.mk (blk_grown (g := gb160) (o := .cells #[.int .i64 (wrap64 (1 + t154)), u161001] 35 (0, 0)) (by (with_reducible repeat (first | refine blk_drewN ?_ _ | refine blk_drew ?_ | refine blk_alloc ?_ _)); exact BK160.out) hg (Kd.R_ne HO_161001.out BK160.out (by decide))); have n1_ := Aside0.mk (hb); have n2_ := Aside0.mk (ho); clear BK160; clear HB; clear HO_161001; have BK160 := n0_; have HB := n1_; have HO163 := n2_; clear n0_ n1_ n2_; clear ho hb hg hat; obtain ⟨Ao17, co17, eo17⟩ := Kd.R_slice HO163.out; subst eo17; have hcz18_0 : w16.cell? ⟨gb160, 0, none⟩ = some (.int .i64 (wrap64 (1 + t154))) := (blk_cell BK160.out 0).trans rfl; have hcz18_1 : w16.cell? ⟨gb160, 1, none⟩ = some (u161001) := (blk_cell BK160.out 1).trans rfl; have hfz18_0 := blk_frozen BK160.out 0; have hfz18_1 := blk_frozen BK160.out 1))
              repeat (go_quiet (first | ((with_reducible refine gate_builtin (b := .append) (xs := #[.tmp 56, .tmp 58]) rfl ?_); (try (refine gate_guard (by rfl) ?_; dsimp only)); at_builtin; refine Kd.R_append (Kd.int .i64) (w0 := w) w.heap.size rfl (.tmp 56) (.tmp 58) 22 2 (.int .i64 0) 8 rfl Try.underlying22 info2 rfl (by decide) (by omega) u161001 x161001_1 t155 [.int .i64 t155] (fun _ => True) (fun _ => False) rfl rfl ?aP (fun _ hk => hk.elim) ?aF ?aO ?aB ?aS ?aL ?_; (case aP => exact rfl); (case aB => exact (by repeat (first | (with_reducible first | exact HB.out | apply below_alloc | apply pw_below_drewN | apply below_drew1 | refine below_set ?_ GE160.out) | exact HB.out))); (case aF => exact (fun _ _ => trivial)); (case aO => exact (by (with_reducible repeat (first | apply Kd.R_alloc | apply Kd.R_drewN | apply Kd.R_drew)); exact HO_161001.out)); (case aS => exact (below_size (by repeat (first | (with_reducible first | exact HB.out | apply below_alloc | apply pw_below_drewN | apply below_drew1 | refine below_set ?_ GE160.out) | exact HB.out)))); (case aL => have := LMc14.out; omega); intro v162 w16 ho hb hg hat; rw [← Ny161.out] at ho; have n0_ := Aside0.mk (blk_grown (g := gb160) (o := .cells #[.int .i64 (wrap64 (1 + t154)), u161001] 35 (0, 0)) (by (with_reducible repeat (first | refine blk_drewN ?_ _ | refine blk_drew ?_ | refine blk_alloc ?_ _)); exact BK160.out) hg (Kd.R_ne HO_161001.out BK160.out (by decide))); have n1_ := Aside0.mk (hb); have n2_ := Aside0.mk (ho); clear BK160; clear HB; clear HO_161001; have BK160 := n0_; have HB := n1_; have HO163 := n2_; clear n0_ n1_ n2_; clear ho hb hg hat; obtain ⟨Ao17, co17, eo17⟩ := Kd.R_slice HO163.out; subst eo17; have hcz18_0 : w16.cell? ⟨gb160, 0, none⟩ = some (.int .i64 (wrap64 (1 + t154))) := (blk_cell BK160.out 0).trans rfl; have hcz18_1 : w16.cell? ⟨gb160, 1, none⟩ = some (u161001) := (blk_cell BK160.out 1).trans rfl; have hfz18_0 := blk_frozen BK160.out 0; have hfz18_1 := blk_frozen BK160.out 1)); try go_wp2_with (first | ((with_reducible refine gate_builtin (b := .append) (xs := #[.tmp 56, .tmp 58]) rfl ?_); (try (refine gate_guard (by rfl) ?_; dsimp only)); at_builtin; refine Kd.R_append (Kd.int .i64) (w0 := w) w.heap.size rfl (.tmp 56) (.tmp 58) 22 2 (.int .i64 0) 8 rfl Try.underlying22 info2 rfl (by decide) (by omega) u161001 x161001_1 t155 [.int .i64 t155] (fun _ => True) (fun _ => False) rfl rfl ?aP (fun _ hk => hk.elim) ?aF ?aO ?aB ?aS ?aL ?_; (case aP => exact rfl); (case aB => exact (by repeat (first | (with_reducible first | exact HB.out | apply below_alloc | apply pw_below_drewN | apply below_drew1 | refine below_set ?_ GE160.out) | exact HB.out))); (case aF => exact (fun _ _ => trivial)); (case aO => exact (by (with_reducible repeat (first | apply Kd.R_alloc | apply Kd.R_drewN | apply Kd.R_drew)); exact HO_161001.out)); (case aS => exact (below_size (by repeat (first | (with_reducible first | exact HB.out | apply below_alloc | apply pw_below_drewN | apply below_drew1 | refine below_set ?_ GE160.out) | exact HB.out)))); (case aL => have := LMc14.out; omega); intro v162 w16 ho hb hg hat; rw [← Ny161.out] at ho; have n0_ := Aside0.mk (blk_grown (g := gb160) (o := .cells #[.int .i64 (wrap64 (1 + t154)), u161001] 35 (0, 0)) (by (with_reducible repeat (first | refine blk_drewN ?_ _ | refine blk_drew ?_ | refine blk_alloc ?_ _)); exact BK160.out) hg (Kd.R_ne HO_161001.out BK160.out (by decide))); have n1_ := Aside0.mk (hb); have n2_ := Aside0.mk (ho); clear BK160; clear HB; clear HO_161001; have BK160 := n0_; have HB := n1_; have HO163 := n2_; clear n0_ n1_ n2_; clear ho hb hg hat; obtain ⟨Ao17, co17, eo17⟩ := Kd.R_slice HO163.out; subst eo17; have hcz18_0 : w16.cell? ⟨gb160, 0, none⟩ = some (.int .i64 (wrap64 (1 + t154))) := (blk_cell BK160.out 0).trans rfl; have hcz18_1 : w16.cell? ⟨gb160, 1, none⟩ = some (u161001) := (blk_cell BK160.out 1).trans rfl; have hfz18_0 := blk_frozen BK160.out 0; have hfz18_1 := blk_frozen BK160.out 1)))
              go_roundg k1
              case measure => have := HK1.out; omega
              case rel => exact ⟨(wrap64 (x13_1 + 1)), (y161), (.slice Ao17 y161.length co17), (by first | rfl | (simp; done) | (simp [*]; done) | (simp [IntWalk.i64_left, *]; done)), H', ⟨by have := HK1.out; omega⟩, ⟨by (with_reducible repeat (first | apply Kd.R_alloc | apply Kd.R_drewN | apply Kd.R_drew)); exact Kd.R_mono (Kd.R_far (p := ⟨gb160, 1, none⟩) (Kd.R_types HO163.out BK160.out (by decide)) (fun _ hk => hk.2) (.slice Ao17 y161.length co17)) (fun _ hk => trivial)⟩, ⟨by (with_reducible repeat (first | refine blk_drewN ?_ _ | refine blk_drew ?_ | refine blk_alloc ?_ _)); refine blk_put (cs := #[.int .i64 (wrap64 (1 + t154)), u161001]) ?_ 1 _ rfl; (with_reducible repeat (first | refine blk_drewN ?_ _ | refine blk_drew ?_ | refine blk_alloc ?_ _)); exact BK160.out⟩, ⟨by repeat (first | (with_reducible first | exact HB.out | apply below_alloc | apply pw_below_drewN | apply below_drew1 | refine below_set ?_ GE160.out) | exact HB.out)⟩⟩
          · rw [if_neg c14] at H
            exact absurd H (by simp)
        · rw [if_neg c13] at H
          have c13b0 : decide (x13_1 < (wrap64 ((wrap64 (1 + t156)) * (wrap64 (1 + t157))))) = false := decide_eq_false c13
          clear c13
          replace H := Option.bind_eq_some_iff.mp H
          obtain ⟨⟨t164, t167⟩, A190, H⟩ := H
          replace H : ((impl_BlockSums.f k1 t164 (wrap64 (1 + t156))).bind fun bt168 => (if t159 = true then (if t167 = true then (if bt168.2 = true then (if (t158.size : Int) = (wrap64 ((wrap64 ((wrap64 (1 + t156)) * (wrap64 (1 + t157)))) + (wrap64 (1 + t154)))) then (if (t164.length : Int) = (wrap64 ((wrap64 (1 + t156)) * (wrap64 (1 + t157)))) then (laws_FnConstant.j1 k1 (wrap64 (1 + t154)) t155 (wrap64 (1 + t156)) (wrap64 (1 + t157)) (wrap64 ((wrap64 (1 + t156)) * (wrap64 (1 + t157)))) t158 t164 bt168.1 ((bt168.1.length : Int) != (wrap64 (1 + t157)))) else (laws_FnConstant.j1 k1 (wrap64 (1 + t154)) t155 (wrap64 (1 + t156)) (wrap64 (1 + t157)) (wrap64 ((wrap64 (1 + t156)) * (wrap64 (1 + t157)))) t158 t164 bt168.1 true)) else (laws_FnConstant.j1 k1 (wrap64 (1 + t154)) t155 (wrap64 (1 + t156)) (wrap64 (1 + t157)) (wrap64 ((wrap64 (1 + t156)) * (wrap64 (1 + t157)))) t158 t164 bt168.1 true)) else (laws_FnConstant.j1 k1 (wrap64 (1 + t154)) t155 (wrap64 (1 + t156)) (wrap64 (1 + t157)) (wrap64 ((wrap64 (1 + t156)) * (wrap64 (1 + t157)))) t158 t164 bt168.1 true)) else (laws_FnConstant.j1 k1 (wrap64 (1 + t154)) t155 (wrap64 (1 + t156)) (wrap64 (1 + t157)) (wrap64 ((wrap64 (1 + t156)) * (wrap64 (1 + t157)))) t158 t164 bt168.1 true)) else (laws_FnConstant.j1 k1 (wrap64 (1 + t154)) t155 (wrap64 (1 + t156)) (wrap64 (1 + t157)) (wrap64 ((wrap64 (1 + t156)) * (wrap64 (1 + t157)))) t158 t164 bt168.1 true))) = some r := H
          have A19 := Aside0.mk A190
          clear A190
          replace H := Option.bind_eq_some_iff.mp H
          obtain ⟨⟨t168, t169⟩, A200, H⟩ := H
          replace H : (if t159 = true then (if t167 = true then (if t169 = true then (if (t158.size : Int) = (wrap64 ((wrap64 ((wrap64 (1 + t156)) * (wrap64 (1 + t157)))) + (wrap64 (1 + t154)))) then (if (t164.length : Int) = (wrap64 ((wrap64 (1 + t156)) * (wrap64 (1 + t157)))) then (laws_FnConstant.j1 k1 (wrap64 (1 + t154)) t155 (wrap64 (1 + t156)) (wrap64 (1 + t157)) (wrap64 ((wrap64 (1 + t156)) * (wrap64 (1 + t157)))) t158 t164 t168 ((t168.length : Int) != (wrap64 (1 + t157)))) else (laws_FnConstant.j1 k1 (wrap64 (1 + t154)) t155 (wrap64 (1 + t156)) (wrap64 (1 + t157)) (wrap64 ((wrap64 (1 + t156)) * (wrap64 (1 + t157)))) t158 t164 t168 true)) else (laws_FnConstant.j1 k1 (wrap64 (1 + t154)) t155 (wrap64 (1 + t156)) (wrap64 (1 + t157)) (wrap64 ((wrap64 (1 + t156)) * (wrap64 (1 + t157)))) t158 t164 t168 true)) else (laws_FnConstant.j1 k1 (wrap64 (1 + t154)) t155 (wrap64 (1 + t156)) (wrap64 (1 + t157)) (wrap64 ((wrap64 (1 + t156)) * (wrap64 (1 + t157)))) t158 t164 t168 true)) else (laws_FnConstant.j1 k1 (wrap64 (1 + t154)) t155 (wrap64 (1 + t156)) (wrap64 (1 + t157)) (wrap64 ((wrap64 (1 + t156)) * (wrap64 (1 + t157)))) t158 t164 t168 true)) else (laws_FnConstant.j1 k1 (wrap64 (1 + t154)) t155 (wrap64 (1 + t156)) (wrap64 (1 + t157)) (wrap64 ((wrap64 (1 + t156)) * (wrap64 (1 + t157)))) t158 t164 t168 true)) = some r := H
          have A20 := Aside0.mk A200
          clear A200
          have HC21 := Aside0.mk H
          clear H
          have hcz22_0 : wr.cell? ⟨gb160, 0, none⟩ = some (.int .i64 (wrap64 (1 + t154))) := (blk_cell BK160.out 0).trans rfl
          have hcz22_1 : wr.cell? ⟨gb160, 1, none⟩ = some (u161001) := (blk_cell BK160.out 1).trans rfl
          have hfz22_0 := blk_frozen BK160.out 0
          have hfz22_1 := blk_frozen BK160.out 1
          obtain ⟨Ao23, co23, eo23⟩ := Kd.R_slice HO_161001.out
          subst eo23
          go_upto_region 16 with (first | (go_at_call 16; (with_reducible refine (impl_PrefixFloors.calls k1 (wrap64 (1 + t154)) _ _ x161001_1 t164 t167 _ ?side1 ?side2 A19.out).mono ?_); (case side1 => repeat (first | exact (Kd.R_reads' HO_161001.out).2.2 | (with_reducible refine Kd.C_alloc ?_ _) | (with_reducible refine Kd.C_drewN ?_ _) | (with_reducible refine Kd.C_drew ?_))); (case side2 => exact (Kd.R_reads' HO_161001.out).2.1); rintro e w24 ⟨v165, rfl, ho0, hb⟩; have n0_ := Aside0.mk (Kd.R_elder' (by (with_reducible repeat (first | apply Kd.R_alloc | apply Kd.R_drewN | apply Kd.R_drew)); exact HO_161001.out) (Kd.R_base ho0) hb); have n1_ := Aside0.mk (Kd.R_lower (Kd.R_new' ho0 (Kd.R_lt (by (with_reducible repeat (first | apply Kd.R_alloc | apply Kd.R_drewN | apply Kd.R_drew)); exact HO_161001.out))) (below_size (by repeat (first | (with_reducible first | exact HB.out | apply below_alloc | apply pw_below_drewN | apply below_drew1 | refine below_set ?_ GE160.out) | exact HB.out)))); have n2_ := Aside0.mk (blk_below (g := gb160) (o := .cells #[.int .i64 (wrap64 (1 + t154)), .slice Ao23 x161001_1.length co23] 35 (0, 0)) (by (with_reducible repeat (first | refine blk_drewN ?_ _ | refine blk_drew ?_ | refine blk_alloc ?_ _)); exact BK160.out) hb); have n3_ := Aside0.mk (below_step (by repeat (first | (with_reducible first | exact HB.out | apply below_alloc | apply pw_below_drewN | apply below_drew1 | refine below_set ?_ GE160.out) | exact HB.out)) hb); clear HO_161001; clear BK160; clear HB; have HO_161001 := n0_; have HO166 := n1_; have BK160 := n2_; have HB := n3_; clear n0_ n1_ n2_ n3_; (try clear hb); (try clear hb2); (try clear hk); (try clear hi); (try clear ho0); obtain ⟨Ao25, co25, eo25⟩ := Kd.R_slice HO166.out; subst eo25) | (go_at_call 9; (with_reducible refine (impl_BlockSums.calls k1 _ _ t164 (wrap64 (1 + t156)) t168 t169 _ ?side1 ?side2 A20.out).mono ?_); (case side1 => repeat (first | exact (Kd.R_reads' HO166.out).2.2 | (with_reducible refine Kd.C_alloc ?_ _) | (with_reducible refine Kd.C_drewN ?_ _) | (with_reducible refine Kd.C_drew ?_))); (case side2 => exact (Kd.R_reads' HO166.out).2.1); rintro e w26 ⟨v170, rfl, ho0, hb⟩; have n0_ := Aside0.mk (Kd.R_elder' (by (with_reducible repeat (first | apply Kd.R_alloc | apply Kd.R_drewN | apply Kd.R_drew)); exact HO_161001.out) (Kd.R_base ho0) hb); have n1_ := Aside0.mk (Kd.R_elder' (by (with_reducible repeat (first | apply Kd.R_alloc | apply Kd.R_drewN | apply Kd.R_drew)); exact HO166.out) (Kd.R_base ho0) hb); have n2_ := Aside0.mk (Kd.R_lower (Kd.R_new' (Kd.R_new' ho0 (Kd.R_lt (by (with_reducible repeat (first | apply Kd.R_alloc | apply Kd.R_drewN | apply Kd.R_drew)); exact HO_161001.out))) (Kd.R_lt (by (with_reducible repeat (first | apply Kd.R_alloc | apply Kd.R_drewN | apply Kd.R_drew)); exact HO166.out))) (below_size (by repeat (first | (with_reducible first | exact HB.out | apply below_alloc | apply pw_below_drewN | apply below_drew1 | refine below_set ?_ GE160.out) | exact HB.out)))); have n3_ := Aside0.mk (blk_below (g := gb160) (o := .cells #[.int .i64 (wrap64 (1 + t154)), .slice Ao23 x161001_1.length co23] 35 (0, 0)) (by (with_reducible repeat (first | refine blk_drewN ?_ _ | refine blk_drew ?_ | refine blk_alloc ?_ _)); exact BK160.out) hb); have n4_ := Aside0.mk (below_step (by repeat (first | (with_reducible first | exact HB.out | apply below_alloc | apply pw_below_drewN | apply below_drew1 | refine below_set ?_ GE160.out) | exact HB.out)) hb); clear HO_161001; clear HO166; clear BK160; clear HB; have HO_161001 := n0_; have HO166 := n1_; have HO171 := n2_; have BK160 := n3_; have HB := n4_; clear n0_ n1_ n2_ n3_ n4_; (try clear hb); (try clear hb2); (try clear hk); (try clear hi); (try clear ho0)))
          repeat (go_quiet (first | (go_at_call 16; (with_reducible refine (impl_PrefixFloors.calls k1 (wrap64 (1 + t154)) _ _ x161001_1 t164 t167 _ ?side1 ?side2 A19.out).mono ?_); (case side1 => repeat (first | exact (Kd.R_reads' HO_161001.out).2.2 | (with_reducible refine Kd.C_alloc ?_ _) | (with_reducible refine Kd.C_drewN ?_ _) | (with_reducible refine Kd.C_drew ?_))); (case side2 => exact (Kd.R_reads' HO_161001.out).2.1); rintro e w24 ⟨v165, rfl, ho0, hb⟩; have n0_ := Aside0.mk (Kd.R_elder' (by (with_reducible repeat (first | apply Kd.R_alloc | apply Kd.R_drewN | apply Kd.R_drew)); exact HO_161001.out) (Kd.R_base ho0) hb); have n1_ := Aside0.mk (Kd.R_lower (Kd.R_new' ho0 (Kd.R_lt (by (with_reducible repeat (first | apply Kd.R_alloc | apply Kd.R_drewN | apply Kd.R_drew)); exact HO_161001.out))) (below_size (by repeat (first | (with_reducible first | exact HB.out | apply below_alloc | apply pw_below_drewN | apply below_drew1 | refine below_set ?_ GE160.out) | exact HB.out)))); have n2_ := Aside0.mk (blk_below (g := gb160) (o := .cells #[.int .i64 (wrap64 (1 + t154)), .slice Ao23 x161001_1.length co23] 35 (0, 0)) (by (with_reducible repeat (first | refine blk_drewN ?_ _ | refine blk_drew ?_ | refine blk_alloc ?_ _)); exact BK160.out) hb); have n3_ := Aside0.mk (below_step (by repeat (first | (with_reducible first | exact HB.out | apply below_alloc | apply pw_below_drewN | apply below_drew1 | refine below_set ?_ GE160.out) | exact HB.out)) hb); clear HO_161001; clear BK160; clear HB; have HO_161001 := n0_; have HO166 := n1_; have BK160 := n2_; have HB := n3_; clear n0_ n1_ n2_ n3_; (try clear hb); (try clear hb2); (try clear hk); (try clear hi); (try clear ho0); obtain ⟨Ao25, co25, eo25⟩ := Kd.R_slice HO166.out; subst eo25) | (go_at_call 9; (with_reducible refine (impl_BlockSums.calls k1 _ _ t164 (wrap64 (1 + t156)) t168 t169 _ ?side1 ?side2 A20.out).mono ?_); (case side1 => repeat (first | exact (Kd.R_reads' HO166.out).2.2 | (with_reducible refine Kd.C_alloc ?_ _) | (with_reducible refine Kd.C_drewN ?_ _) | (with_reducible refine Kd.C_drew ?_))); (case side2 => exact (Kd.R_reads' HO166.out).2.1); rintro e w26 ⟨v170, rfl, ho0, hb⟩; have n0_ := Aside0.mk (Kd.R_elder' (by (with_reducible repeat (first | apply Kd.R_alloc | apply Kd.R_drewN | apply Kd.R_drew)); exact HO_161001.out) (Kd.R_base ho0) hb); have n1_ := Aside0.mk (Kd.R_elder' (by (with_reducible repeat (first | apply Kd.R_alloc | apply Kd.R_drewN | apply Kd.R_drew)); exact HO166.out) (Kd.R_base ho0) hb); have n2_ := Aside0.mk (Kd.R_lower (Kd.R_new' (Kd.R_new' ho0 (Kd.R_lt (by (with_reducible repeat (first | apply Kd.R_alloc | apply Kd.R_drewN | apply Kd.R_drew)); exact HO_161001.out))) (Kd.R_lt (by (with_reducible repeat (first | apply Kd.R_alloc | apply Kd.R_drewN | apply Kd.R_drew)); exact HO166.out))) (below_size (by repeat (first | (with_reducible first | exact HB.out | apply below_alloc | apply pw_below_drewN | apply below_drew1 | refine below_set ?_ GE160.out) | exact HB.out)))); have n3_ := Aside0.mk (blk_below (g := gb160) (o := .cells #[.int .i64 (wrap64 (1 + t154)), .slice Ao23 x161001_1.length co23] 35 (0, 0)) (by (with_reducible repeat (first | refine blk_drewN ?_ _ | refine blk_drew ?_ | refine blk_alloc ?_ _)); exact BK160.out) hb); have n4_ := Aside0.mk (below_step (by repeat (first | (with_reducible first | exact HB.out | apply below_alloc | apply pw_below_drewN | apply below_drew1 | refine below_set ?_ GE160.out) | exact HB.out)) hb); clear HO_161001; clear HO166; clear BK160; clear HB; have HO_161001 := n0_; have HO166 := n1_; have HO171 := n2_; have BK160 := n3_; have HB := n4_; clear n0_ n1_ n2_ n3_ n4_; (try clear hb); (try clear hb2); (try clear hk); (try clear hi); (try clear ho0))); go_upto_region 16 with (first | (go_at_call 16; (with_reducible refine (impl_PrefixFloors.calls k1 (wrap64 (1 + t154)) _ _ x161001_1 t164 t167 _ ?side1 ?side2 A19.out).mono ?_); (case side1 => repeat (first | exact (Kd.R_reads' HO_161001.out).2.2 | (with_reducible refine Kd.C_alloc ?_ _) | (with_reducible refine Kd.C_drewN ?_ _) | (with_reducible refine Kd.C_drew ?_))); (case side2 => exact (Kd.R_reads' HO_161001.out).2.1); rintro e w24 ⟨v165, rfl, ho0, hb⟩; have n0_ := Aside0.mk (Kd.R_elder' (by (with_reducible repeat (first | apply Kd.R_alloc | apply Kd.R_drewN | apply Kd.R_drew)); exact HO_161001.out) (Kd.R_base ho0) hb); have n1_ := Aside0.mk (Kd.R_lower (Kd.R_new' ho0 (Kd.R_lt (by (with_reducible repeat (first | apply Kd.R_alloc | apply Kd.R_drewN | apply Kd.R_drew)); exact HO_161001.out))) (below_size (by repeat (first | (with_reducible first | exact HB.out | apply below_alloc | apply pw_below_drewN | apply below_drew1 | refine below_set ?_ GE160.out) | exact HB.out)))); have n2_ := Aside0.mk (blk_below (g := gb160) (o := .cells #[.int .i64 (wrap64 (1 + t154)), .slice Ao23 x161001_1.length co23] 35 (0, 0)) (by (with_reducible repeat (first | refine blk_drewN ?_ _ | refine blk_drew ?_ | refine blk_alloc ?_ _)); exact BK160.out) hb); have n3_ := Aside0.mk (below_step (by repeat (first | (with_reducible first | exact HB.out | apply below_alloc | apply pw_below_drewN | apply below_drew1 | refine below_set ?_ GE160.out) | exact HB.out)) hb); clear HO_161001; clear BK160; clear HB; have HO_161001 := n0_; have HO166 := n1_; have BK160 := n2_; have HB := n3_; clear n0_ n1_ n2_ n3_; (try clear hb); (try clear hb2); (try clear hk); (try clear hi); (try clear ho0); obtain ⟨Ao25, co25, eo25⟩ := Kd.R_slice HO166.out; subst eo25) | (go_at_call 9; (with_reducible refine (impl_BlockSums.calls k1 _ _ t164 (wrap64 (1 + t156)) t168 t169 _ ?side1 ?side2 A20.out).mono ?_); (case side1 => repeat (first | exact (Kd.R_reads' HO166.out).2.2 | (with_reducible refine Kd.C_alloc ?_ _) | (with_reducible refine Kd.C_drewN ?_ _) | (with_reducible refine Kd.C_drew ?_))); (case side2 => exact (Kd.R_reads' HO166.out).2.1); rintro e w26 ⟨v170, rfl, ho0, hb⟩; have n0_ := Aside0.mk (Kd.R_elder' (by (with_reducible repeat (first | apply Kd.R_alloc | apply Kd.R_drewN | apply Kd.R_drew)); exact HO_161001.out) (Kd.R_base ho0) hb); have n1_ := Aside0.mk (Kd.R_elder' (by (with_reducible repeat (first | apply Kd.R_alloc | apply Kd.R_drewN | apply Kd.R_drew)); exact HO166.out) (Kd.R_base ho0) hb); have n2_ := Aside0.mk (Kd.R_lower (Kd.R_new' (Kd.R_new' ho0 (Kd.R_lt (by (with_reducible repeat (first | apply Kd.R_alloc | apply Kd.R_drewN | apply Kd.R_drew)); exact HO_161001.out))) (Kd.R_lt (by (with_reducible repeat (first | apply Kd.R_alloc | apply Kd.R_drewN | apply Kd.R_drew)); exact HO166.out))) (below_size (by repeat (first | (with_reducible first | exact HB.out | apply below_alloc | apply pw_below_drewN | apply below_drew1 | refine below_set ?_ GE160.out) | exact HB.out)))); have n3_ := Aside0.mk (blk_below (g := gb160) (o := .cells #[.int .i64 (wrap64 (1 + t154)), .slice Ao23 x161001_1.length co23] 35 (0, 0)) (by (with_reducible repeat (first | refine blk_drewN ?_ _ | refine blk_drew ?_ | refine blk_alloc ?_ _)); exact BK160.out) hb); have n4_ := Aside0.mk (below_step (by repeat (first | (with_reducible first | exact HB.out | apply below_alloc | apply pw_below_drewN | apply below_drew1 | refine below_set ?_ GE160.out) | exact HB.out)) hb); clear HO_161001; clear HO166; clear BK160; clear HB; have HO_161001 := n0_; have HO166 := n1_; have HO171 := n2_; have BK160 := n3_; have HB := n4_; clear n0_ n1_ n2_ n3_ n4_; (try clear hb); (try clear hb2); (try clear hk); (try clear hi); (try clear ho0))))
          (try simp only [Act.put, List.setIfInBounds_toArray, List.set_cons_zero, List.set_cons_succ])
          go_cut [101] (fun v101 wc => ∃ (kq : Nat) (x101_20 : Bool), v101 = .bool x101_20 ∧ Aside0 (laws_FnConstant.j1 kq (wrap64 (1 + t154)) t155 (wrap64 (1 + t156)) (wrap64 (1 + t157)) (wrap64 ((wrap64 (1 + t156)) * (wrap64 (1 + t157)))) t158 t164 t168 x101_20 = some r) ∧ Aside0 (kq ≤ k1) ∧ Aside0 (Kd.R (Kd.int .i64) 2 wc w.heap.size (fun k_ => some k_ ≠ (v170 : Value).ownBlock ∧ some k_ ≠ ((.slice Ao23 x161001_1.length co23) : Value).ownBlock) (.slice Ao25 t164.length co25) t164) ∧ Aside0 (Kd.R (Kd.int .i64) 2 wc w.heap.size (fun k_ => some k_ ≠ ((.slice Ao25 t164.length co25) : Value).ownBlock ∧ some k_ ≠ ((.slice Ao23 x161001_1.length co23) : Value).ownBlock) v170 t168) ∧ Aside0 (Kd.R (Kd.int .i64) 2 wc w.heap.size (fun k_ => some k_ ≠ ((.slice Ao25 t164.length co25) : Value).ownBlock ∧ some k_ ≠ (v170 : Value).ownBlock) (.slice Ao23 x161001_1.length co23) x161001_1) ∧ Aside0 (wc.heap[gb160]? = some (.cells #[.int .i64 (wrap64 (1 + t154)), (.slice Ao23 x161001_1.length co23)] 35 (0, 0))) ∧ Aside0 (Below w.heap.size w wc))
          case first =>
            have H := HC21.out
            clear HC21
            by_cases c27 : t159 = true
            · subst c27
              have H1 : (if t167 = true then (if t169 = true then (if (t158.size : Int) = (wrap64 ((wrap64 ((wrap64 (1 + t156)) * (wrap64 (1 + t157)))) + (wrap64 (1 + t154)))) then (if (t164.length : Int) = (wrap64 ((wrap64 (1 + t156)) * (wrap64 (1 + t157)))) then (laws_FnConstant.j1 k1 (wrap64 (1 + t154)) t155 (wrap64 (1 + t156)) (wrap64 (1 + t157)) (wrap64 ((wrap64 (1 + t156)) * (wrap64 (1 + t157)))) t158 t164 t168 ((t168.length : Int) != (wrap64 (1 + t157)))) else (laws_FnConstant.j1 k1 (wrap64 (1 + t154)) t155 (wrap64 (1 + t156)) (wrap64 (1 + t157)) (wrap64 ((wrap64 (1 + t156)) * (wrap64 (1 + t157)))) t158 t164 t168 true)) else (laws_FnConstant.j1 k1 (wrap64 (1 + t154)) t155 (wrap64 (1 + t156)) (wrap64 (1 + t157)) (wrap64 ((wrap64 (1 + t156)) * (wrap64 (1 + t157)))) t158 t164 t168 true)) else (laws_FnConstant.j1 k1 (wrap64 (1 + t154)) t155 (wrap64 (1 + t156)) (wrap64 (1 + t157)) (wrap64 ((wrap64 (1 + t156)) * (wrap64 (1 + t157)))) t158 t164 t168 true)) else (laws_FnConstant.j1 k1 (wrap64 (1 + t154)) t155 (wrap64 (1 + t156)) (wrap64 (1 + t157)) (wrap64 ((wrap64 (1 + t156)) * (wrap64 (1 + t157)))) t158 t164 t168 true)) = some r := by rw [if_pos rfl] at H; exact H
              clear H
              have H := H1
              clear H1
              by_cases c28 : t167 = true
              · subst c28
                have H1 : (if t169 = true then (if (t158.size : Int) = (wrap64 ((wrap64 ((wrap64 (1 + t156)) * (wrap64 (1 + t157)))) + (wrap64 (1 + t154)))) then (if (t164.length : Int) = (wrap64 ((wrap64 (1 + t156)) * (wrap64 (1 + t157)))) then (laws_FnConstant.j1 k1 (wrap64 (1 + t154)) t155 (wrap64 (1 + t156)) (wrap64 (1 + t157)) (wrap64 ((wrap64 (1 + t156)) * (wrap64 (1 + t157)))) t158 t164 t168 ((t168.length : Int) != (wrap64 (1 + t157)))) else (laws_FnConstant.j1 k1 (wrap64 (1 + t154)) t155 (wrap64 (1 + t156)) (wrap64 (1 + t157)) (wrap64 ((wrap64 (1 + t156)) * (wrap64 (1 + t157)))) t158 t164 t168 true)) else (laws_FnConstant.j1 k1 (wrap64 (1 + t154)) t155 (wrap64 (1 + t156)) (wrap64 (1 + t157)) (wrap64 ((wrap64 (1 + t156)) * (wrap64 (1 + t157)))) t158 t164 t168 true)) else (laws_FnConstant.j1 k1 (wrap64 (1 + t154)) t155 (wrap64 (1 + t156)) (wrap64 (1 + t157)) (wrap64 ((wrap64 (1 + t156)) * (wrap64 (1 + t157)))) t158 t164 t168 true)) = some r := by rw [if_pos rfl] at H; exact H
                clear H
                have H := H1
                clear H1
                by_cases c29 : t169 = true
                · subst c29
                  have H1 : (if (t158.size : Int) = (wrap64 ((wrap64 ((wrap64 (1 + t156)) * (wrap64 (1 + t157)))) + (wrap64 (1 + t154)))) then (if (t164.length : Int) = (wrap64 ((wrap64 (1 + t156)) * (wrap64 (1 + t157)))) then (laws_FnConstant.j1 k1 (wrap64 (1 + t154)) t155 (wrap64 (1 + t156)) (wrap64 (1 + t157)) (wrap64 ((wrap64 (1 + t156)) * (wrap64 (1 + t157)))) t158 t164 t168 ((t168.length : Int) != (wrap64 (1 + t157)))) else (laws_FnConstant.j1 k1 (wrap64 (1 + t154)) t155 (wrap64 (1 + t156)) (wrap64 (1 + t157)) (wrap64 ((wrap64 (1 + t156)) * (wrap64 (1 + t157)))) t158 t164 t168 true)) else (laws_FnConstant.j1 k1 (wrap64 (1 + t154)) t155 (wrap64 (1 + t156)) (wrap64 (1 + t157)) (wrap64 ((wrap64 (1 + t156)) * (wrap64 (1 + t157)))) t158 t164 t168 true)) = some r := by rw [if_pos rfl] at H; exact H
                  clear H
                  have H := H1
                  clear H1
                  by_cases c30 : (t158.size : Int) = (wrap64 ((wrap64 ((wrap64 (1 + t156)) * (wrap64 (1 + t157)))) + (wrap64 (1 + t154))))
                  · rw [if_pos c30] at H
                    have c30b0 : ((t158.size : Int) == (wrap64 ((wrap64 ((wrap64 (1 + t156)) * (wrap64 (1 + t157)))) + (wrap64 (1 + t154))))) = true := beq_iff_eq.mpr c30
                    have c30b1 : ((t158.size : Int) != (wrap64 ((wrap64 ((wrap64 (1 + t156)) * (wrap64 (1 + t157)))) + (wrap64 (1 + t154))))) = false := bne_eq_false_iff_eq.mpr c30
                    clear c30
                    (first | rw [c30b0] | (simp only [i64_w, i32_w]; rw [c30b0]) | skip)
                    by_cases c31 : (t164.length : Int) = (wrap64 ((wrap64 (1 + t156)) * (wrap64 (1 + t157))))
                    · rw [if_pos c31] at H
                      have c31b0 : ((t164.length : Int) == (wrap64 ((wrap64 (1 + t156)) * (wrap64 (1 + t157))))) = true := beq_iff_eq.mpr c31
                      have c31b1 : ((t164.length : Int) != (wrap64 ((wrap64 (1 + t156)) * (wrap64 (1 + t157))))) = false := bne_eq_false_iff_eq.mpr c31
                      clear c31
                      have H' := Aside0.mk H
                      clear H
                      obtain ⟨Ao32, co32, eo32⟩ := Kd.R_slice HO171.out
                      subst eo32
                      as_aux_lemma =>
                        go_wp2
                        repeat (go_quiet (fail); try go_wp2)
                        go_meet
                        case rel => exact ⟨_, (((t168.length : Int) != (wrap64 (1 + t157)))), (by first | rfl | (simp; done) | (simp [*]; done) | (simp [IntWalk.i64_left, *]; done)), H', ⟨by have := HK1.out; first | omega | exact Nat.le_refl _⟩, ⟨by (with_reducible repeat (first | apply Kd.R_alloc | apply Kd.R_drewN | apply Kd.R_drew)); exact Kd.R_mono HO166.out (fun _ hk => ⟨hk.2, hk.1.2⟩)⟩, ⟨by (with_reducible repeat (first | apply Kd.R_alloc | apply Kd.R_drewN | apply Kd.R_drew)); exact Kd.R_mono HO171.out (fun _ hk => ⟨hk.2, hk.1.2⟩)⟩, ⟨by (with_reducible repeat (first | apply Kd.R_alloc | apply Kd.R_drewN | apply Kd.R_drew)); exact Kd.R_mono HO_161001.out (fun _ hk => ⟨hk.1.2, hk.2⟩)⟩, ⟨by (with_reducible repeat (first | refine blk_drewN ?_ _ | refine blk_drew ?_ | refine blk_alloc ?_ _)); exact BK160.out⟩, ⟨by repeat (first | (with_reducible first | exact HB.out | apply below_alloc | apply pw_below_drewN | apply below_drew1 | refine below_set ?_ GE160.out) | exact HB.out)⟩⟩
                    · rw [if_neg c31] at H
                      have c31b0 : ((t164.length : Int) == (wrap64 ((wrap64 (1 + t156)) * (wrap64 (1 + t157))))) = false := beq_eq_false_iff_ne.mpr c31
                      have c31b1 : ((t164.length : Int) != (wrap64 ((wrap64 (1 + t156)) * (wrap64 (1 + t157))))) = true := bne_iff_ne.mpr c31
                      have H' := Aside0.mk H
                      clear H
                      as_aux_lemma =>
                        go_wp2
                        repeat (go_quiet (fail); try go_wp2)
                        go_meet
                        case rel => exact ⟨_, (true), (by first | rfl | (simp; done) | (simp [*]; done) | (simp [IntWalk.i64_left, *]; done)), H', ⟨by have := HK1.out; first | omega | exact Nat.le_refl _⟩, ⟨by (with_reducible repeat (first | apply Kd.R_alloc | apply Kd.R_drewN | apply Kd.R_drew)); exact Kd.R_mono HO166.out (fun _ hk => ⟨hk.2, hk.1.2⟩)⟩, ⟨by (with_reducible repeat (first | apply Kd.R_alloc | apply Kd.R_drewN | apply Kd.R_drew)); exact Kd.R_mono HO171.out (fun _ hk => ⟨hk.2, hk.1.2⟩)⟩, ⟨by (with_reducible repeat (first | apply Kd.R_alloc | apply Kd.R_drewN | apply Kd.R_drew)); exact Kd.R_mono HO_161001.out (fun _ hk => ⟨hk.1.2, hk.2⟩)⟩, ⟨by (with_reducible repeat (first | refine blk_drewN ?_ _ | refine blk_drew ?_ | refine blk_alloc ?_ _)); exact BK160.out⟩, ⟨by repeat (first | (with_reducible first | exact HB.out | apply below_alloc | apply pw_below_drewN | apply below_drew1 | refine below_set ?_ GE160.out) | exact HB.out)⟩⟩
                  · rw [if_neg c30] at H
                    have c30b0 : ((t158.size : Int) == (wrap64 ((wrap64 ((wrap64 (1 + t156)) * (wrap64 (1 + t157)))) + (wrap64 (1 + t154))))) = false := beq_eq_false_iff_ne.mpr c30
                    have c30b1 : ((t158.size : Int) != (wrap64 ((wrap64 ((wrap64 (1 + t156)) * (wrap64 (1 + t157)))) + (wrap64 (1 + t154))))) = true := bne_iff_ne.mpr c30
                    (first | rw [c30b0] | (simp only [i64_w, i32_w]; rw [c30b0]) | skip)
                    have H' := Aside0.mk H
                    clear H
                    as_aux_lemma =>
                      go_wp2
                      repeat (go_quiet (fail); try go_wp2)
                      go_meet
                      case rel => exact ⟨_, (true), (by first | rfl | (simp; done) | (simp [*]; done) | (simp [IntWalk.i64_left, *]; done)), H', ⟨by have := HK1.out; first | omega | exact Nat.le_refl _⟩, ⟨by (with_reducible repeat (first | apply Kd.R_alloc | apply Kd.R_drewN | apply Kd.R_drew)); exact Kd.R_mono HO166.out (fun _ hk => ⟨hk.2, hk.1.2⟩)⟩, ⟨by (with_reducible repeat (first | apply Kd.R_alloc | apply Kd.R_drewN | apply Kd.R_drew)); exact Kd.R_mono HO171.out (fun _ hk => ⟨hk.2, hk.1.2⟩)⟩, ⟨by (with_reducible repeat (first | apply Kd.R_alloc | apply Kd.R_drewN | apply Kd.R_drew)); exact Kd.R_mono HO_161001.out (fun _ hk => ⟨hk.1.2, hk.2⟩)⟩, ⟨by (with_reducible repeat (first | refine blk_drewN ?_ _ | refine blk_drew ?_ | refine blk_alloc ?_ _)); exact BK160.out⟩, ⟨by repeat (first | (with_reducible first | exact HB.out | apply below_alloc | apply pw_below_drewN | apply below_drew1 | refine below_set ?_ GE160.out) | exact HB.out)⟩⟩
                · replace c29 := Bool.eq_false_iff.mpr c29
                  subst c29
                  have H1 : (laws_FnConstant.j1 k1 (wrap64 (1 + t154)) t155 (wrap64 (1 + t156)) (wrap64 (1 + t157)) (wrap64 ((wrap64 (1 + t156)) * (wrap64 (1 + t157)))) t158 t164 t168 true) = some r := by rw [if_neg (show ¬ (false = true) by decide)] at H; exact H
                  clear H
                  have H := H1
                  clear H1
                  have H' := Aside0.mk H
                  clear H
                  as_aux_lemma =>
                    go_wp2
                    repeat (go_quiet (fail); try go_wp2)
                    go_meet
                    case rel => exact ⟨_, (true), (by first | rfl | (simp; done) | (simp [*]; done) | (simp [IntWalk.i64_left, *]; done)), H', ⟨by have := HK1.out; first | omega | exact Nat.le_refl _⟩, ⟨by (with_reducible repeat (first | apply Kd.R_alloc | apply Kd.R_drewN | apply Kd.R_drew)); exact Kd.R_mono HO166.out (fun _ hk => ⟨hk.2, hk.1.2⟩)⟩, ⟨by (with_reducible repeat (first | apply Kd.R_alloc | apply Kd.R_drewN | apply Kd.R_drew)); exact Kd.R_mono HO171.out (fun _ hk => ⟨hk.2, hk.1.2⟩)⟩, ⟨by (with_reducible repeat (first | apply Kd.R_alloc | apply Kd.R_drewN | apply Kd.R_drew)); exact Kd.R_mono HO_161001.out (fun _ hk => ⟨hk.1.2, hk.2⟩)⟩, ⟨by (with_reducible repeat (first | refine blk_drewN ?_ _ | refine blk_drew ?_ | refine blk_alloc ?_ _)); exact BK160.out⟩, ⟨by repeat (first | (with_reducible first | exact HB.out | apply below_alloc | apply pw_below_drewN | apply below_drew1 | refine below_set ?_ GE160.out) | exact HB.out)⟩⟩
              · replace c28 := Bool.eq_false_iff.mpr c28
                subst c28
                have H1 : (laws_FnConstant.j1 k1 (wrap64 (1 + t154)) t155 (wrap64 (1 + t156)) (wrap64 (1 + t157)) (wrap64 ((wrap64 (1 + t156)) * (wrap64 (1 + t157)))) t158 t164 t168 true) = some r := by rw [if_neg (show ¬ (false = true) by decide)] at H; exact H
                clear H
                have H := H1
                clear H1
                have H' := Aside0.mk H
                clear H
                as_aux_lemma =>
                  go_wp2
                  repeat (go_quiet (fail); try go_wp2)
                  go_meet
                  case rel => exact ⟨_, (true), (by first | rfl | (simp; done) | (simp [*]; done) | (simp [IntWalk.i64_left, *]; done)), H', ⟨by have := HK1.out; first | omega | exact Nat.le_refl _⟩, ⟨by (with_reducible repeat (first | apply Kd.R_alloc | apply Kd.R_drewN | apply Kd.R_drew)); exact Kd.R_mono HO166.out (fun _ hk => ⟨hk.2, hk.1.2⟩)⟩, ⟨by (with_reducible repeat (first | apply Kd.R_alloc | apply Kd.R_drewN | apply Kd.R_drew)); exact Kd.R_mono HO171.out (fun _ hk => ⟨hk.2, hk.1.2⟩)⟩, ⟨by (with_reducible repeat (first | apply Kd.R_alloc | apply Kd.R_drewN | apply Kd.R_drew)); exact Kd.R_mono HO_161001.out (fun _ hk => ⟨hk.1.2, hk.2⟩)⟩, ⟨by (with_reducible repeat (first | refine blk_drewN ?_ _ | refine blk_drew ?_ | refine blk_alloc ?_ _)); exact BK160.out⟩, ⟨by repeat (first | (with_reducible first | exact HB.out | apply below_alloc | apply pw_below_drewN | apply below_drew1 | refine below_set ?_ GE160.out) | exact HB.out)⟩⟩
            · replace c27 := Bool.eq_false_iff.mpr c27
              subst c27
              have H1 : (laws_FnConstant.j1 k1 (wrap64 (1 + t154)) t155 (wrap64 (1 + t156)) (wrap64 (1 + t157)) (wrap64 ((wrap64 (1 + t156)) * (wrap64 (1 + t157)))) t158 t164 t168 true) = some r := by rw [if_neg (show ¬ (false = true) by decide)] at H; exact H
              clear H
              have H := H1
              clear H1
              have H' := Aside0.mk H
              clear H
              as_aux_lemma =>
                go_wp2
                repeat (go_quiet (fail); try go_wp2)
                go_meet
                case rel => exact ⟨_, (true), (by first | rfl | (simp; done) | (simp [*]; done) | (simp [IntWalk.i64_left, *]; done)), H', ⟨by have := HK1.out; first | omega | exact Nat.le_refl _⟩, ⟨by (with_reducible repeat (first | apply Kd.R_alloc | apply Kd.R_drewN | apply Kd.R_drew)); exact Kd.R_mono HO166.out (fun _ hk => ⟨hk.2, hk.1.2⟩)⟩, ⟨by (with_reducible repeat (first | apply Kd.R_alloc | apply Kd.R_drewN | apply Kd.R_drew)); exact Kd.R_mono HO171.out (fun _ hk => ⟨hk.2, hk.1.2⟩)⟩, ⟨by (with_reducible repeat (first | apply Kd.R_alloc | apply Kd.R_drewN | apply Kd.R_drew)); exact Kd.R_mono HO_161001.out (fun _ hk => ⟨hk.1.2, hk.2⟩)⟩, ⟨by (with_reducible repeat (first | refine blk_drewN ?_ _ | refine blk_drew ?_ | refine blk_alloc ?_ _)); exact BK160.out⟩, ⟨by repeat (first | (with_reducible first | exact HB.out | apply below_alloc | apply pw_below_drewN | apply below_drew1 | refine below_set ?_ GE160.out) | exact HB.out)⟩⟩
          case rest =>
            clear HC21
            try clear c1
            try clear c2
            try clear p2
            try clear c3
            try clear c4
            try clear p6
            try clear c13
            try clear c13b0
            try clear c14
            try clear c27
            try clear c28
            try clear c29
            try clear c30
            try clear c30b0
            try clear c30b1
            try clear c31
            try clear c31b0
            try clear c31b1
            try clear hcz12_0
            try clear hcz12_1
            try clear hcz15_0
            try clear hcz15_1
            try clear hcz18_0
            try clear hcz18_1
            try clear hcz22_0
            try clear hcz22_1
            try clear hfz12_0
            try clear hfz12_1
            try clear hfz15_0
            try clear hfz15_1
            try clear hfz18_0
            try clear hfz18_1
            try clear hfz22_0
            try clear hfz22_1
            try clear p2
            try clear p6
            obtain ⟨kq, x101_20, rfl, HA, HJ20, HO_14, HO_16, HO_161001, BK160, HB⟩ := hcut
            cases kq with
            | zero => exact absurd HA.out (by simp [laws_FnConstant.j1])
            | succ kj20 =>
              have H := HA.out
              clear HA
              simp only [laws_FnConstant.j1] at H
              by_cases c33 : x101_20 = true
              · subst c33
                have H1 : (some false) = some r := by rw [if_pos rfl] at H; exact H
                clear H
                have H := H1
                clear H1
                obtain rfl := Option.some.inj H
                as_aux_lemma =>
                  go_wp2
                  repeat (go_quiet (fail); try go_wp2)
                  go_ret
                  exact ⟨by first | rfl | (simp [errW_none, errW_some] <;> rfl) | (simp [*, errW_none, errW_some] <;> rfl), by repeat (first | (with_reducible first | exact HB.out | apply below_alloc | apply pw_below_drewN | apply below_drew1 | refine below_set ?_ GE160.out) | exact HB.out)⟩
              · replace c33 := Bool.eq_false_iff.mpr c33
                subst c33
                have H1 : (laws_FnConstant.l1 kj20 (wrap64 (1 + t154)) t155 (wrap64 (1 + t156)) (wrap64 (1 + t157)) (wrap64 ((wrap64 (1 + t156)) * (wrap64 (1 + t157)))) t158 t164 t168 0) = some r := by rw [if_neg (show ¬ (false = true) by decide)] at H; exact H
                clear H
                have H := H1
                clear H1
                have H' := Aside0.mk H
                clear H
                go_wp2
                repeat (go_quiet (fail); try go_wp2)
                go_loopg [18] kj20 (fun kq v18 w' => ∃ (x18_3 : Int), v18 = .int .i64 x18_3 ∧ Aside0 (laws_FnConstant.l1 kq (wrap64 (1 + t154)) t155 (wrap64 (1 + t156)) (wrap64 (1 + t157)) (wrap64 ((wrap64 (1 + t156)) * (wrap64 (1 + t157)))) t158 t164 t168 x18_3 = some r) ∧ Aside0 (kq ≤ kj20) ∧ Aside0 (Kd.R (Kd.int .i64) 2 w' w.heap.size (fun k_ => some k_ ≠ (v170 : Value).ownBlock ∧ some k_ ≠ ((.slice Ao23 x161001_1.length co23) : Value).ownBlock) (.slice Ao25 t164.length co25) t164) ∧ Aside0 (Kd.R (Kd.int .i64) 2 w' w.heap.size (fun k_ => some k_ ≠ ((.slice Ao25 t164.length co25) : Value).ownBlock ∧ some k_ ≠ ((.slice Ao23 x161001_1.length co23) : Value).ownBlock) v170 t168) ∧ Aside0 (Kd.R (Kd.int .i64) 2 w' w.heap.size (fun k_ => some k_ ≠ ((.slice Ao25 t164.length co25) : Value).ownBlock ∧ some k_ ≠ (v170 : Value).ownBlock) (.slice Ao23 x161001_1.length co23) x161001_1) ∧ Aside0 (w'.heap[gb160]? = some (.cells #[.int .i64 (wrap64 (1 + t154)), (.slice Ao23 x161001_1.length co23)] 35 (0, 0))) ∧ Aside0 (Below w.heap.size w w'))
                case atStart => exact ⟨(0), (by first | rfl | (simp; done) | (simp [*]; done) | (simp [IntWalk.i64_left, *]; done)), H', ⟨Nat.le_refl _⟩, ⟨by (with_reducible repeat (first | apply Kd.R_alloc | apply Kd.R_drewN | apply Kd.R_drew)); exact HO_14.out⟩, ⟨by (with_reducible repeat (first | apply Kd.R_alloc | apply Kd.R_drewN | apply Kd.R_drew)); exact HO_16.out⟩, ⟨by (with_reducible repeat (first | apply Kd.R_alloc | apply Kd.R_drewN | apply Kd.R_drew)); exact HO_161001.out⟩, ⟨by (with_reducible repeat (first | refine blk_drewN ?_ _ | refine blk_drew ?_ | refine blk_alloc ?_ _)); exact BK160.out⟩, ⟨by repeat (first | (with_reducible first | exact HB.out | apply below_alloc | apply pw_below_drewN | apply below_drew1 | refine below_set ?_ GE160.out) | exact HB.out)⟩⟩
                case round =>
                  clear H'
                  try clear c1
                  try clear c2
                  try clear p2
                  try clear c3
                  try clear c4
                  try clear p6
                  try clear c13
                  try clear c13b0
                  try clear c14
                  try clear c27
                  try clear c28
                  try clear c29
                  try clear c30
                  try clear c30b0
                  try clear c30b1
                  try clear c31
                  try clear c31b0
                  try clear c31b1
                  try clear c33
                  try clear hcz12_0
                  try clear hcz12_1
                  try clear hcz15_0
                  try clear hcz15_1
                  try clear hcz18_0
                  try clear hcz18_1
                  try clear hcz22_0
                  try clear hcz22_1
                  try clear hfz12_0
                  try clear hfz12_1
                  try clear hfz15_0
                  try clear hfz15_1
                  try clear hfz18_0
                  try clear hfz18_1
                  try clear hfz22_0
                  try clear hfz22_1
                  try clear p2
                  try clear p6
                  obtain ⟨x18_3, rfl, HA, HK3, HO_14, HO_16, HO_161001, BK160, HB⟩ := hrel
                  cases gk with
                  | zero => exact absurd HA.out (by simp [laws_FnConstant.l1])
                  | succ k3 =>
                    have H := HA.out
                    clear HA
                    simp only [laws_FnConstant.l1] at H
                    by_cases c34 : x18_3 < (wrap64 ((wrap64 (1 + t156)) * (wrap64 (1 + t157))))
                    · rw [if_pos c34] at H
                      have c34b0 : decide (x18_3 < (wrap64 ((wrap64 (1 + t156)) * (wrap64 (1 + t157))))) = true := decide_eq_true c34
                      clear c34
                      by_cases c35 : 0 ≤ x18_3
                      · rw [if_pos c35] at H
                        have c35b0 : decide (0 ≤ x18_3) = true := decide_eq_true c35
                        clear c35
                        by_cases c36 : x18_3 < (t158.size : Int)
                        · rw [if_pos c36] at H
                          have c36b0 : decide (x18_3 < (t158.size : Int)) = true := decide_eq_true c36
                          clear c36
                          by_cases c38 : x18_3 < (t164.length : Int)
                          · rw [if_pos c38] at H
                            have c38b0 : decide (x18_3 < (t164.length : Int)) = true := decide_eq_true c38
                            clear c38
                            by_cases c39 : (((bt t158 x18_3) == 49) != ((rd t164 x18_3) == 1)) = true
                            · rw [if_pos c39] at H
                              have c39b0 : (((bt t158 x18_3) == 49) != ((rd t164 x18_3) == 1)) = true := c39
                              (try (have c39b1 : decide (((bt t158 x18_3) == 49) = ((rd t164 x18_3) == 1)) = false := by simpa using c39))
                              (try (have c39b2 : (((bt t158 x18_3) == 49) == ((rd t164 x18_3) == 1)) = false := by simpa using c39))
                              (try (have c39b3 : ¬ (((bt t158 x18_3) == 49) = ((rd t164 x18_3) == 1)) := by simpa using c39))
                              clear c39
                              obtain rfl := Option.some.inj H
                              have p37 : 0 ≤ (x18_3 : Int) := of_decide_eq_true (by first | (with_reducible assumption) | assumption)
                              have q37 : x18_3 < (t158.size : Int) := of_decide_eq_true (by first | (with_reducible assumption) | assumption)
                              have hx37 := bt_at t158 x18_3
                              replace p37 := eq_true p37
                              replace q37 := eq_true q37
                              have p172 : 0 ≤ (x18_3 : Int) := of_decide_eq_true (by first | (with_reducible assumption) | assumption)
                              have q172 : x18_3 < (t164.length : Int) := of_decide_eq_true (by first | (with_reducible assumption) | assumption)
                              (try (obtain ⟨Aqad172, cqad172, eqad172⟩ := Kd.R_slice HO_14.out; subst eqad172))
                              obtain ⟨ad172, e172, hx172_0⟩ := Kd.at_int (Kd.R_reads' HO_14.out).2.2 x18_3 p172 q172
                              cases e172
                              replace p172 := eq_true p172
                              replace q172 := eq_true q172
                              as_aux_lemma =>
                                go_wp2
                                repeat (go_quiet (fail); try go_wp2)
                                go_ret
                                exact ⟨by first | rfl | (simp [errW_none, errW_some] <;> rfl) | (simp [*, errW_none, errW_some] <;> rfl), by repeat (first | (with_reducible first | exact HB.out | apply below_alloc | apply pw_below_drewN | apply below_drew1 | refine below_set ?_ GE160.out) | exact HB.out)⟩
                            · rw [if_neg c39] at H
                              have c39b0 : (((bt t158 x18_3) == 49) != ((rd t164 x18_3) == 1)) = false := by simpa using c39
                              (try (have c39b1 : decide (((bt t158 x18_3) == 49) = ((rd t164 x18_3) == 1)) = true := by simpa using c39))
                              (try (have c39b2 : (((bt t158 x18_3) == 49) == ((rd t164 x18_3) == 1)) = true := by simpa using c39))
                              clear c39
                              obtain ⟨ji41, hji41⟩ : ∃ j_ : Int, (wrap64 (x18_3 + (wrap64 (1 + t154)))) = j_ := ⟨_, rfl⟩
                              replace H : (if 0 ≤ (ji41) then (if (ji41) < (t158.size : Int) then (if (bt t158 x18_3) = (bt t158 (ji41)) then (laws_FnConstant.l1 k3 (wrap64 (1 + t154)) t155 (wrap64 (1 + t156)) (wrap64 (1 + t157)) (wrap64 ((wrap64 (1 + t156)) * (wrap64 (1 + t157)))) t158 t164 t168 (wrap64 (x18_3 + 1))) else (some false)) else (none)) else (none)) = some r := by first | (rw [hji41] at H; exact H) | (simp only [hji41] at H ⊢; exact H)
                              have hji41w : (IntKind.i64.wrap (x18_3 + (wrap64 (1 + t154)))) = ji41 := (i64_w _).trans hji41
                              by_cases c42 : 0 ≤ (ji41)
                              · rw [if_pos c42] at H
                                have c42b0 : decide (0 ≤ (ji41)) = true := decide_eq_true c42
                                clear c42
                                by_cases c43 : (ji41) < (t158.size : Int)
                                · rw [if_pos c43] at H
                                  have c43b0 : decide ((ji41) < (t158.size : Int)) = true := decide_eq_true c43
                                  clear c43
                                  by_cases c45 : (bt t158 x18_3) = (bt t158 (ji41))
                                  · rw [if_pos c45] at H
                                    have c45b0 : ((bt t158 x18_3) == (bt t158 (ji41))) = true := beq_iff_eq.mpr c45
                                    have c45b1 : ((bt t158 x18_3) != (bt t158 (ji41))) = false := bne_eq_false_iff_eq.mpr c45
                                    clear c45
                                    have H' := Aside0.mk H
                                    clear H
                                    have p37 : 0 ≤ (x18_3 : Int) := of_decide_eq_true (by first | (with_reducible assumption) | assumption)
                                    have q37 : x18_3 < (t158.size : Int) := of_decide_eq_true (by first | (with_reducible assumption) | assumption)
                                    have hx37 := bt_at t158 x18_3
                                    replace p37 := eq_true p37
                                    replace q37 := eq_true q37
                                    have p172 : 0 ≤ (x18_3 : Int) := of_decide_eq_true (by first | (with_reducible assumption) | assumption)
                                    have q172 : x18_3 < (t164.length : Int) := of_decide_eq_true (by first | (with_reducible assumption) | assumption)
                                    (try (obtain ⟨Aqad172, cqad172, eqad172⟩ := Kd.R_slice HO_14.out; subst eqad172))
                                    obtain ⟨ad172, e172, hx172_0⟩ := Kd.at_int (Kd.R_reads' HO_14.out).2.2 x18_3 p172 q172
                                    cases e172
                                    replace p172 := eq_true p172
                                    replace q172 := eq_true q172
                                    have p40 : 0 ≤ (x18_3 : Int) := of_decide_eq_true (by first | (with_reducible assumption) | assumption)
                                    have q40 : x18_3 < (t158.size : Int) := of_decide_eq_true (by first | (with_reducible assumption) | assumption)
                                    have hx40 := bt_at t158 x18_3
                                    replace p40 := eq_true p40
                                    replace q40 := eq_true q40
                                    have p44 : 0 ≤ ((ji41) : Int) := of_decide_eq_true (by first | (with_reducible assumption) | assumption)
                                    have q44 : (ji41) < (t158.size : Int) := of_decide_eq_true (by first | (with_reducible assumption) | assumption)
                                    have hx44 := bt_at t158 (ji41)
                                    replace p44 := eq_true p44
                                    replace q44 := eq_true q44
                                    as_aux_lemma =>
                                      go_wp2
                                      repeat (go_quiet (fail); try go_wp2)
                                      go_roundg k3
                                      case measure => have := HK1.out; have := HJ20.out; have := HK3.out; omega
                                      case rel => exact ⟨(wrap64 (x18_3 + 1)), (by first | rfl | (simp; done) | (simp [*]; done) | (simp [IntWalk.i64_left, *]; done)), H', ⟨by have := HK1.out; have := HJ20.out; have := HK3.out; omega⟩, ⟨by (with_reducible repeat (first | apply Kd.R_alloc | apply Kd.R_drewN | apply Kd.R_drew)); exact HO_14.out⟩, ⟨by (with_reducible repeat (first | apply Kd.R_alloc | apply Kd.R_drewN | apply Kd.R_drew)); exact HO_16.out⟩, ⟨by (with_reducible repeat (first | apply Kd.R_alloc | apply Kd.R_drewN | apply Kd.R_drew)); exact HO_161001.out⟩, ⟨by (with_reducible repeat (first | refine blk_drewN ?_ _ | refine blk_drew ?_ | refine blk_alloc ?_ _)); exact BK160.out⟩, ⟨by repeat (first | (with_reducible first | exact HB.out | apply below_alloc | apply pw_below_drewN | apply below_drew1 | refine below_set ?_ GE160.out) | exact HB.out)⟩⟩
                                  · rw [if_neg c45] at H
                                    have c45b0 : ((bt t158 x18_3) == (bt t158 (ji41))) = false := beq_eq_false_iff_ne.mpr c45
                                    have c45b1 : ((bt t158 x18_3) != (bt t158 (ji41))) = true := bne_iff_ne.mpr c45
                                    obtain rfl := Option.some.inj H
                                    have p37 : 0 ≤ (x18_3 : Int) := of_decide_eq_true (by first | (with_reducible assumption) | assumption)
                                    have q37 : x18_3 < (t158.size : Int) := of_decide_eq_true (by first | (with_reducible assumption) | assumption)
                                    have hx37 := bt_at t158 x18_3
                                    replace p37 := eq_true p37
                                    replace q37 := eq_true q37
                                    have p172 : 0 ≤ (x18_3 : Int) := of_decide_eq_true (by first | (with_reducible assumption) | assumption)
                                    have q172 : x18_3 < (t164.length : Int) := of_decide_eq_true (by first | (with_reducible assumption) | assumption)
                                    (try (obtain ⟨Aqad172, cqad172, eqad172⟩ := Kd.R_slice HO_14.out; subst eqad172))
                                    obtain ⟨ad172, e172, hx172_0⟩ := Kd.at_int (Kd.R_reads' HO_14.out).2.2 x18_3 p172 q172
                                    cases e172
                                    replace p172 := eq_true p172
                                    replace q172 := eq_true q172
                                    have p40 : 0 ≤ (x18_3 : Int) := of_decide_eq_true (by first | (with_reducible assumption) | assumption)
                                    have q40 : x18_3 < (t158.size : Int) := of_decide_eq_true (by first | (with_reducible assumption) | assumption)
                                    have hx40 := bt_at t158 x18_3
                                    replace p40 := eq_true p40
                                    replace q40 := eq_true q40
                                    have p44 : 0 ≤ ((ji41) : Int) := of_decide_eq_true (by first | (with_reducible assumption) | assumption)
                                    have q44 : (ji41) < (t158.size : Int) := of_decide_eq_true (by first | (with_reducible assumption) | assumption)
                                    have hx44 := bt_at t158 (ji41)
                                    replace p44 := eq_true p44
                                    replace q44 := eq_true q44
                                    as_aux_lemma =>
                                      go_wp2
                                      repeat (go_quiet (fail); try go_wp2)
                                      go_ret
                                      exact ⟨by first | rfl | (simp [errW_none, errW_some] <;> rfl) | (simp only [← hji41]; first | rfl | (simp [errW_none, errW_some] <;> rfl)) | (simp [*, errW_none, errW_some] <;> rfl), by repeat (first | (with_reducible first | exact HB.out | apply below_alloc | apply pw_below_drewN | apply below_drew1 | refine below_set ?_ GE160.out) | exact HB.out)⟩
                                · rw [if_neg c43] at H
                                  exact absurd H (by simp)
                              · rw [if_neg c42] at H
                                exact absurd H (by simp)
                          · rw [if_neg c38] at H
                            exact absurd H (by simp)
                        · rw [if_neg c36] at H
                          exact absurd H (by simp)
                      · rw [if_neg c35] at H
                        exact absurd H (by simp)
                    · rw [if_neg c34] at H
                      have c34b0 : decide (x18_3 < (wrap64 ((wrap64 (1 + t156)) * (wrap64 (1 + t157))))) = false := decide_eq_false c34
                      clear c34
                      have H' := Aside0.mk H
                      clear H
                      go_wp2
                      repeat (go_quiet (fail); try go_wp2)
                      go_loopg [19] k3 (fun kq v19 w' => ∃ (x19_4 : Int), v19 = .int .i64 x19_4 ∧ Aside0 (laws_FnConstant.l2 kq (wrap64 (1 + t154)) t155 (wrap64 (1 + t156)) (wrap64 (1 + t157)) t168 x19_4 = some r) ∧ Aside0 (kq ≤ k3) ∧ Aside0 (Kd.R (Kd.int .i64) 2 w' w.heap.size (fun k_ => some k_ ≠ ((.slice Ao23 x161001_1.length co23) : Value).ownBlock) v170 t168) ∧ Aside0 (Kd.R (Kd.int .i64) 2 w' w.heap.size (fun k_ => some k_ ≠ (v170 : Value).ownBlock) (.slice Ao23 x161001_1.length co23) x161001_1) ∧ Aside0 (w'.heap[gb160]? = some (.cells #[.int .i64 (wrap64 (1 + t154)), (.slice Ao23 x161001_1.length co23)] 35 (0, 0))) ∧ Aside0 (Below w.heap.size w w'))
                      case atStart => exact ⟨(0), (by first | rfl | (simp; done) | (simp [*]; done) | (simp [IntWalk.i64_left, *]; done)), H', ⟨Nat.le_refl _⟩, ⟨by (with_reducible repeat (first | apply Kd.R_alloc | apply Kd.R_drewN | apply Kd.R_drew)); exact Kd.R_mono HO_16.out (fun _ hk => hk.2)⟩, ⟨by (with_reducible repeat (first | apply Kd.R_alloc | apply Kd.R_drewN | apply Kd.R_drew)); exact Kd.R_mono HO_161001.out (fun _ hk => hk.2)⟩, ⟨by (with_reducible repeat (first | refine blk_drewN ?_ _ | refine blk_drew ?_ | refine blk_alloc ?_ _)); exact BK160.out⟩, ⟨by repeat (first | (with_reducible first | exact HB.out | apply below_alloc | apply pw_below_drewN | apply below_drew1 | refine below_set ?_ GE160.out) | exact HB.out)⟩⟩
                      case round =>
                        clear H'
                        try clear c1
                        try clear p1
                        try clear q1
                        try clear hx1
                        try clear c2
                        try clear p2
                        try clear c3
                        try clear p3
                        try clear q3
                        try clear hx3
                        try clear c4
                        try clear p4
                        try clear q4
                        try clear hx4
                        try clear p6
                        try clear c13
                        try clear c13b0
                        try clear c14
                        try clear p17
                        try clear q17
                        try clear hx17
                        try clear c27
                        try clear c28
                        try clear c29
                        try clear c30
                        try clear c30b0
                        try clear c30b1
                        try clear c31
                        try clear c31b0
                        try clear c31b1
                        try clear c33
                        try clear c34
                        try clear c34b0
                        try clear c35
                        try clear c35b0
                        try clear c36
                        try clear c36b0
                        try clear p37
                        try clear q37
                        try clear hx37
                        try clear c38
                        try clear c38b0
                        try clear c39
                        try clear c39b0
                        try clear c39b1
                        try clear c39b2
                        try clear p40
                        try clear q40
                        try clear hx40
                        try clear c42
                        try clear c42b0
                        try clear c43
                        try clear c43b0
                        try clear p44
                        try clear q44
                        try clear hx44
                        try clear c45
                        try clear c45b0
                        try clear c45b1
                        try clear hcz12_0
                        try clear hcz12_1
                        try clear hcz15_0
                        try clear hcz15_1
                        try clear hcz18_0
                        try clear hcz18_1
                        try clear hcz22_0
                        try clear hcz22_1
                        try clear hfz12_0
                        try clear hfz12_1
                        try clear hfz15_0
                        try clear hfz15_1
                        try clear hfz18_0
                        try clear hfz18_1
                        try clear hfz22_0
                        try clear hfz22_1
                        try clear hx172_0
                        try clear p172
                        try clear p2
                        try clear p37
                        try clear p40
                        try clear p44
                        try clear p6
                        try clear q172
                        try clear q37
                        try clear q40
                        try clear q44
                        obtain ⟨x19_4, rfl, HA, HK4, HO_16, HO_161001, BK160, HB⟩ := hrel
                        cases gk with
                        | zero => exact absurd HA.out (by simp [laws_FnConstant.l2])
                        | succ k4 =>
                          have H := HA.out
                          clear HA
                          simp only [laws_FnConstant.l2] at H
                          by_cases c46 : x19_4 < (wrap64 (1 + t157))
                          · rw [if_pos c46] at H
                            have c46b0 : decide (x19_4 < (wrap64 (1 + t157))) = true := decide_eq_true c46
                            clear c46
                            by_cases c47 : 0 ≤ x19_4
                            · rw [if_pos c47] at H
                              have c47b0 : decide (0 ≤ x19_4) = true := decide_eq_true c47
                              clear c47
                              by_cases c48 : x19_4 < (t168.length : Int)
                              · rw [if_pos c48] at H
                                have c48b0 : decide (x19_4 < (t168.length : Int)) = true := decide_eq_true c48
                                clear c48
                                replace H := Option.bind_eq_some_iff.mp H
                                obtain ⟨t174, A490, H⟩ := H
                                replace H : (if t174 ≥ (wrap64 (1 + t154)) then (some false) else (laws_FnConstant.l2 k4 (wrap64 (1 + t154)) t155 (wrap64 (1 + t156)) (wrap64 (1 + t157)) t168 (wrap64 (x19_4 + 1)))) = some r := H
                                have A49 := Aside0.mk A490
                                clear A490
                                by_cases c50 : t174 ≥ (wrap64 (1 + t154))
                                · rw [if_pos c50] at H
                                  have c50b0 : decide ((wrap64 (1 + t154)) ≤ t174) = true := decide_eq_true c50
                                  clear c50
                                  obtain rfl := Option.some.inj H
                                  obtain ⟨Ao51, co51, eo51⟩ := Kd.R_slice HO_16.out
                                  subst eo51
                                  have p173 : 0 ≤ (x19_4 : Int) := of_decide_eq_true (by first | (with_reducible assumption) | assumption)
                                  have q173 : x19_4 < (t168.length : Int) := of_decide_eq_true (by first | (with_reducible assumption) | assumption)
                                  (try (obtain ⟨Aqad173, cqad173, eqad173⟩ := Kd.R_slice HO_16.out; subst eqad173))
                                  obtain ⟨ad173, e173, hx173_0⟩ := Kd.at_int (Kd.R_reads' HO_16.out).2.2 x19_4 p173 q173
                                  cases e173
                                  replace p173 := eq_true p173
                                  replace q173 := eq_true q173
                                  as_aux_lemma =>
                                    go_wp2_with (first | (go_at_call 17; (with_reducible refine (laws_b10Abs.calls (wrap64 ((wrap64 ((wrap64 (1 + t154)) * (rd t168 x19_4))) - (wrap64 ((wrap64 (1 + t156)) * t155)))) t174 _ A49.out).mono ?_); rintro e w' ⟨rfl, ⟨nd, rfl⟩⟩; (try first | exact ⟨rfl, _, World.drewN_drewN _ _ _⟩ | exact ⟨rfl, _, Eq.trans (World.drewN_drewN _ _ _) (congrArg (World.drewN _) (Nat.add_assoc _ _ _))⟩)))
                                    repeat (go_quiet (first | (go_at_call 17; (with_reducible refine (laws_b10Abs.calls (wrap64 ((wrap64 ((wrap64 (1 + t154)) * (rd t168 x19_4))) - (wrap64 ((wrap64 (1 + t156)) * t155)))) t174 _ A49.out).mono ?_); rintro e w' ⟨rfl, ⟨nd, rfl⟩⟩; (try first | exact ⟨rfl, _, World.drewN_drewN _ _ _⟩ | exact ⟨rfl, _, Eq.trans (World.drewN_drewN _ _ _) (congrArg (World.drewN _) (Nat.add_assoc _ _ _))⟩))); try go_wp2_with (first | (go_at_call 17; (with_reducible refine (laws_b10Abs.calls (wrap64 ((wrap64 ((wrap64 (1 + t154)) * (rd t168 x19_4))) - (wrap64 ((wrap64 (1 + t156)) * t155)))) t174 _ A49.out).mono ?_); rintro e w' ⟨rfl, ⟨nd, rfl⟩⟩; (try first | exact ⟨rfl, _, World.drewN_drewN _ _ _⟩ | exact ⟨rfl, _, Eq.trans (World.drewN_drewN _ _ _) (congrArg (World.drewN _) (Nat.add_assoc _ _ _))⟩))))
                                    go_ret
                                    exact ⟨by first | rfl | (simp [errW_none, errW_some] <;> rfl) | (simp [*, errW_none, errW_some] <;> rfl), by repeat (first | (with_reducible first | exact HB.out | apply below_alloc | apply pw_below_drewN | apply below_drew1 | refine below_set ?_ GE160.out) | exact HB.out)⟩
                                · rw [if_neg c50] at H
                                  have c50b0 : decide ((wrap64 (1 + t154)) ≤ t174) = false := decide_eq_false c50
                                  clear c50
                                  have H' := Aside0.mk H
                                  clear H
                                  obtain ⟨Ao52, co52, eo52⟩ := Kd.R_slice HO_16.out
                                  subst eo52
                                  have p173 : 0 ≤ (x19_4 : Int) := of_decide_eq_true (by first | (with_reducible assumption) | assumption)
                                  have q173 : x19_4 < (t168.length : Int) := of_decide_eq_true (by first | (with_reducible assumption) | assumption)
                                  (try (obtain ⟨Aqad173, cqad173, eqad173⟩ := Kd.R_slice HO_16.out; subst eqad173))
                                  obtain ⟨ad173, e173, hx173_0⟩ := Kd.at_int (Kd.R_reads' HO_16.out).2.2 x19_4 p173 q173
                                  cases e173
                                  replace p173 := eq_true p173
                                  replace q173 := eq_true q173
                                  as_aux_lemma =>
                                    go_wp2_with (first | (go_at_call 17; (with_reducible refine (laws_b10Abs.calls (wrap64 ((wrap64 ((wrap64 (1 + t154)) * (rd t168 x19_4))) - (wrap64 ((wrap64 (1 + t156)) * t155)))) t174 _ A49.out).mono ?_); rintro e w' ⟨rfl, ⟨nd, rfl⟩⟩; (try first | exact ⟨rfl, _, World.drewN_drewN _ _ _⟩ | exact ⟨rfl, _, Eq.trans (World.drewN_drewN _ _ _) (congrArg (World.drewN _) (Nat.add_assoc _ _ _))⟩)))
                                    repeat (go_quiet (first | (go_at_call 17; (with_reducible refine (laws_b10Abs.calls (wrap64 ((wrap64 ((wrap64 (1 + t154)) * (rd t168 x19_4))) - (wrap64 ((wrap64 (1 + t156)) * t155)))) t174 _ A49.out).mono ?_); rintro e w' ⟨rfl, ⟨nd, rfl⟩⟩; (try first | exact ⟨rfl, _, World.drewN_drewN _ _ _⟩ | exact ⟨rfl, _, Eq.trans (World.drewN_drewN _ _ _) (congrArg (World.drewN _) (Nat.add_assoc _ _ _))⟩))); try go_wp2_with (first | (go_at_call 17; (with_reducible refine (laws_b10Abs.calls (wrap64 ((wrap64 ((wrap64 (1 + t154)) * (rd t168 x19_4))) - (wrap64 ((wrap64 (1 + t156)) * t155)))) t174 _ A49.out).mono ?_); rintro e w' ⟨rfl, ⟨nd, rfl⟩⟩; (try first | exact ⟨rfl, _, World.drewN_drewN _ _ _⟩ | exact ⟨rfl, _, Eq.trans (World.drewN_drewN _ _ _) (congrArg (World.drewN _) (Nat.add_assoc _ _ _))⟩))))
                                    go_roundg k4
                                    case measure => have := HK1.out; have := HJ20.out; have := HK3.out; have := HK4.out; omega
                                    case rel => exact ⟨(wrap64 (x19_4 + 1)), (by first | rfl | (simp; done) | (simp [*]; done) | (simp [IntWalk.i64_left, *]; done)), H', ⟨by have := HK1.out; have := HJ20.out; have := HK3.out; have := HK4.out; omega⟩, ⟨by (with_reducible repeat (first | apply Kd.R_alloc | apply Kd.R_drewN | apply Kd.R_drew)); exact HO_16.out⟩, ⟨by (with_reducible repeat (first | apply Kd.R_alloc | apply Kd.R_drewN | apply Kd.R_drew)); exact HO_161001.out⟩, ⟨by (with_reducible repeat (first | refine blk_drewN ?_ _ | refine blk_drew ?_ | refine blk_alloc ?_ _)); exact BK160.out⟩, ⟨by repeat (first | (with_reducible first | exact HB.out | apply below_alloc | apply pw_below_drewN | apply below_drew1 | refine below_set ?_ GE160.out) | exact HB.out)⟩⟩
                              · rw [if_neg c48] at H
                                exact absurd H (by simp)
                            · rw [if_neg c47] at H
                              exact absurd H (by simp)
                          · rw [if_neg c46] at H
                            have c46b0 : decide (x19_4 < (wrap64 (1 + t157))) = false := decide_eq_false c46
                            clear c46
                            obtain rfl := Option.some.inj H
                            as_aux_lemma =>
                              go_wp2
                              repeat (go_quiet (fail); try go_wp2)
                              go_ret
                              exact ⟨by first | rfl | (simp [errW_none, errW_some] <;> rfl) | (simp [*, errW_none, errW_some] <;> rfl), by repeat (first | (with_reducible first | exact HB.out | apply below_alloc | apply pw_below_drewN | apply below_drew1 | refine below_set ?_ GE160.out) | exact HB.out)⟩
  
/-- THE ONE PURE STATEMENT of laws_FnConstant: ours. -/
def laws_FnConstant.Pure : Prop := ∀ (l0 : List Int) (l1 : List Int), l0.length ≤ maxLen → l0.length * 1 ≤ 140737488351232 → (∀ x ∈ l0, (Lit.int .u8 x).wf = true) → l1.length ≤ maxLen → l1.length * 1 ≤ 140737488351232 → (∀ x ∈ l1, (Lit.int .u8 x).wf = true) → ∃ k, laws_FnConstant.f k l0 l1 = some true
theorem laws_FnConstant.walk (P : laws_FnConstant.Pure) (A0 : Option Addr) (len0 cap0 : Nat) (z0 : List Int) (A1 : Option Addr) (len1 cap1 : Nat) (z1 : List Int) (w : World) (w0 : (A0 = none ∧ len0 = 0 ∧ cap0 = 0 ∧ z0 = []) ∨ ∃ x, A0 = some x ∧ len0 ≤ cap0 ∧ cap0 ≤ maxLen ∧ z0.length = cap0 ∧ (∀ i, i < z0.length → w.cell? (x.add i) = some (.int .u8 (z0.getD i 0))) ∧ ∀ n ∈ z0, (Lit.int .u8 n).wf = true) (y0 : len0 * 1 ≤ 140737488351232) (w1 : (A1 = none ∧ len1 = 0 ∧ cap1 = 0 ∧ z1 = []) ∨ ∃ x, A1 = some x ∧ len1 ≤ cap1 ∧ cap1 ≤ maxLen ∧ z1.length = cap1 ∧ (∀ i, i < z1.length → w.cell? (x.add i) = some (.int .u8 (z1.getD i 0))) ∧ ∀ n ∈ z1, (Lit.int .u8 n).wf = true) (y1 : len1 * 1 ≤ 140737488351232) :
    Calls Try.prog 4 #[.slice A0 len0 cap0, .slice A1 len1 cap1] w fun e w' => e = .returned (.bool true) ∧ Below w.heap.size w w' := by
  obtain ⟨l0, rfl, hr0, hm0, hw0, hc0⟩ := ReadsInt.ofRowC w0
  obtain ⟨l1, rfl, hr1, hm1, hw1, hc1⟩ := ReadsInt.ofRowC w1
  obtain ⟨k, h⟩ := P l0 l1 hm0 y0 hw0 hm1 y1 hw1
  refine (laws_FnConstant.calls k _ _ l0 _ _ l1 true w (Kd.C_of_reads (d := (0 : Int)) (h1 := fun _ => rfl) hr0) hc0 (Kd.C_of_reads (d := (0 : Int)) (h1 := fun _ => rfl) hr1) hc1 h).mono ?_
  rintro e w' ⟨rfl, hd⟩
  exact ⟨rfl, hd⟩

end Go.Proofs.Ytbbnmfkaahajlaa.P
