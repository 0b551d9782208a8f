-- Written by gen.py (wip/gen of this repo) over the kit's print: not trusted, Lean checks it.
import Derived.Test.YtecgobloagpicaaP0
import Derived.Test.YtecgobloagpicaaP1
import Derived.Test.YtecgobloagpicaaP2
import Derived.Test.YtecgobloagpicaaP4
import Derived.Test.YtecgobloagpicaaP5
import Derived.Test.YtecgobloagpicaaP6
import Derived.Test.YtecgobloagpicaaWShort
namespace Go.Proofs.Ytecgobloagpicaa.P
open Go.RowKit Go.Proofs.YtecgobloagpicaaW.PrintWords Go.Proofs.YtecgobloagpicaaW.PrintLast Go.Proofs.YtecgobloagpicaaW.PrintMore
attribute [local go_sem] max2_int min2_int max_two min_two max_three min_three max_four min_four   -- for this text's walks alone
set_option linter.unusedVariables false
set_option linter.unusedSimpArgs false

/-! ### laws_FnFeedback: function 3 -/
mutual
def laws_FnFeedback.j0 : Nat → Int → Int → List Int → List Int → List Int → List Int → Bool → Bool → Int → List Int → Option (Bool)
  | 0, _, _, _, _, _, _, _, _, _, _ => none
  | k + 1, x6, x7, x8, x9, x11, x12, x13, x81, x256000, x256001 => if x81 = true then (some false) else (laws_FnFeedback.l0 k x6 x7 x8 x9 x11 x12 x13 0 true 0 x256000 x256001)
def laws_FnFeedback.l0 : Nat → Int → Int → List Int → List Int → List Int → List Int → Bool → Int → Bool → Int → Int → List Int → Option (Bool)
  | 0, _, _, _, _, _, _, _, _, _, _, _, _ => none
  | k + 1, x6, x7, x8, x9, x11, x12, x13, x17, x18, x19, x256000, x256001 => if x19 < (x8.length : Int) then (if 0 ≤ x19 then (if x19 < (x256001.length : Int) then (if x18 = true then (if (rd x256001 x19) ≥ (wrap64 (x256000 * x6)) then (if (rd x8 x19) < x6 then (some false) else (if (rd x8 x19) > x7 then (some false) else (if x19 < (x9.length : Int) then (if (wrap64 (x17 + (wrap64 ((rd x256001 x19) - (wrap64 (x256000 * (rd x8 x19))))))) = (rd x9 x19) then (if (rd x256001 x19) ≤ (wrap64 (x256000 * x7)) then ((laws_b10Abs.f (rd x9 x19)).bind fun t287 => (if (wrap64 (2 * t287)) > x256000 then (some false) else (laws_FnFeedback.l0 k x6 x7 x8 x9 x11 x12 x13 (wrap64 (x17 + (wrap64 ((rd x256001 x19) - (wrap64 (x256000 * (rd x8 x19))))))) (decide ((rd x256001 x19) ≤ (wrap64 (x256000 * x7)))) (wrap64 (x19 + 1)) x256000 x256001))) else (laws_FnFeedback.l0 k x6 x7 x8 x9 x11 x12 x13 (wrap64 (x17 + (wrap64 ((rd x256001 x19) - (wrap64 (x256000 * (rd x8 x19))))))) (decide ((rd x256001 x19) ≤ (wrap64 (x256000 * x7)))) (wrap64 (x19 + 1)) x256000 x256001)) else (some false)) else (none)))) else (if (rd x8 x19) < x6 then (some false) else (if (rd x8 x19) > x7 then (some false) else (if x19 < (x9.length : Int) then (if (wrap64 (x17 + (wrap64 ((rd x256001 x19) - (wrap64 (x256000 * (rd x8 x19))))))) = (rd x9 x19) then (laws_FnFeedback.l0 k x6 x7 x8 x9 x11 x12 x13 (wrap64 (x17 + (wrap64 ((rd x256001 x19) - (wrap64 (x256000 * (rd x8 x19))))))) false (wrap64 (x19 + 1)) x256000 x256001) else (some false)) else (none))))) else (if (rd x8 x19) < x6 then (some false) else (if (rd x8 x19) > x7 then (some false) else (if x19 < (x9.length : Int) then (if (wrap64 (x17 + (wrap64 ((rd x256001 x19) - (wrap64 (x256000 * (rd x8 x19))))))) = (rd x9 x19) then (laws_FnFeedback.l0 k x6 x7 x8 x9 x11 x12 x13 (wrap64 (x17 + (wrap64 ((rd x256001 x19) - (wrap64 (x256000 * (rd x8 x19))))))) false (wrap64 (x19 + 1)) x256000 x256001) else (some false)) else (none))))) else (none)) else (none)) else (if x13 = true then (if (x11.length : Int) = (x256001.length : Int) then (laws_FnFeedback.j2 k x6 x7 x11 x12 ((x12.length : Int) != (x256001.length : Int)) x256000 x256001) else (laws_FnFeedback.j2 k x6 x7 x11 x12 true x256000 x256001)) else (some true))
def laws_FnFeedback.j2 : Nat → Int → Int → List Int → List Int → Bool → Int → List Int → Option (Bool)
  | 0, _, _, _, _, _, _, _ => none
  | k + 1, x6, x7, x11, x12, x179, x256000, x256001 => if x179 = true then (some false) else (laws_FnFeedback.l1 k x6 x7 x11 x12 0 0 0 x256000 x256001)
def laws_FnFeedback.l1 : Nat → Int → Int → List Int → List Int → Int → Int → Int → Int → List Int → Option (Bool)
  | 0, _, _, _, _, _, _, _, _, _ => none
  | k + 1, x6, x7, x11, x12, x20, x21, x22, x256000, x256001 => if x22 < (x11.length : Int) then (if 0 ≤ x22 then (if x22 < (x12.length : Int) then (if x22 < (x256001.length : Int) then (if (rd x12 x22) = (wrap64 ((wrap64 ((wrap64 ((rd x256001 x22) + (wrap64 (2 * x20)))) - x21)) - (wrap64 (x256000 * (rd x11 x22))))) then (if (rd x11 x22) < x6 then (some false) else (if (rd x11 x22) > x7 then (some false) else (laws_FnFeedback.l1 k x6 x7 x11 x12 (rd x12 x22) x20 (wrap64 (x22 + 1)) x256000 x256001))) else (some false)) else (none)) else (none)) else (none)) else (some true)
end
def laws_FnFeedback.f (k : Nat) (l0 : List Int) (l1 : List Int) : Option (Bool) := (laws_b10Long.f l0 l1).bind fun t250 => (if t250 = true then (some true) else ((spec_B10Values.f k l0).bind fun bt251 => ((laws_b10At.f l1 0 5).bind fun t256 => ((laws_b10At.f l1 1 8).bind fun t257 => ((impl_FeedbackOf.f k bt251.1 bt251.2 (wrap64 (t256 - 3)) (wrap64 ((wrap64 (t256 - 3)) + t257))).bind fun bt258 => ((impl_SecondOf.f k bt251.1 bt251.2 (wrap64 (t256 - 3)) (wrap64 ((wrap64 (t256 - 3)) + t257))).bind fun bt265 => ((spec_SecondOf.f k bt251.1 bt251.2 (wrap64 (t256 - 3)) (wrap64 ((wrap64 (t256 - 3)) + t257))).bind fun bt272 => (if bt258.2.2 = true then (if (bt265.2.2 != bt272.2.2) = true then (laws_FnFeedback.j0 k (wrap64 (t256 - 3)) (wrap64 ((wrap64 (t256 - 3)) + t257)) bt258.1 bt258.2.1 bt265.1 bt265.2.1 bt265.2.2 true bt251.1 bt251.2) else (if (bt258.1.length : Int) = (bt251.2.length : Int) then (laws_FnFeedback.j0 k (wrap64 (t256 - 3)) (wrap64 ((wrap64 (t256 - 3)) + t257)) bt258.1 bt258.2.1 bt265.1 bt265.2.1 bt265.2.2 ((bt258.2.1.length : Int) != (bt251.2.length : Int)) bt251.1 bt251.2) else (laws_FnFeedback.j0 k (wrap64 (t256 - 3)) (wrap64 ((wrap64 (t256 - 3)) + t257)) bt258.1 bt258.2.1 bt265.1 bt265.2.1 bt265.2.2 true bt251.1 bt251.2))) else (laws_FnFeedback.j0 k (wrap64 (t256 - 3)) (wrap64 ((wrap64 (t256 - 3)) + t257)) bt258.1 bt258.2.1 bt265.1 bt265.2.1 bt265.2.2 true bt251.1 bt251.2)))))))))
theorem laws_FnFeedback.mono_l : ∀ k, (∀ y0 y1 y2 y3 y4 y5 y6 y7 y8 y9, LeO (laws_FnFeedback.j0 k y0 y1 y2 y3 y4 y5 y6 y7 y8 y9) (laws_FnFeedback.j0 (k + 1) y0 y1 y2 y3 y4 y5 y6 y7 y8 y9)) ∧ (∀ y0 y1 y2 y3 y4 y5 y6 y7 y8 y9 y10 y11, LeO (laws_FnFeedback.l0 k y0 y1 y2 y3 y4 y5 y6 y7 y8 y9 y10 y11) (laws_FnFeedback.l0 (k + 1) y0 y1 y2 y3 y4 y5 y6 y7 y8 y9 y10 y11)) ∧ (∀ y0 y1 y2 y3 y4 y5 y6, LeO (laws_FnFeedback.j2 k y0 y1 y2 y3 y4 y5 y6) (laws_FnFeedback.j2 (k + 1) y0 y1 y2 y3 y4 y5 y6)) ∧ (∀ y0 y1 y2 y3 y4 y5 y6 y7 y8, LeO (laws_FnFeedback.l1 k y0 y1 y2 y3 y4 y5 y6 y7 y8) (laws_FnFeedback.l1 (k + 1) y0 y1 y2 y3 y4 y5 y6 y7 y8))
  | 0 => ⟨fun _ _ _ _ _ _ _ _ _ _ r h => by simp [laws_FnFeedback.j0] at h, fun _ _ _ _ _ _ _ _ _ _ _ _ r h => by simp [laws_FnFeedback.l0] at h, fun _ _ _ _ _ _ _ r h => by simp [laws_FnFeedback.j2] at h, fun _ _ _ _ _ _ _ _ _ r h => by simp [laws_FnFeedback.l1] at h⟩
  | k + 1 => by
    obtain ⟨ih0, ih1, ih2, ih3⟩ := laws_FnFeedback.mono_l k
    refine ⟨?_, ?_, ?_, ?_⟩
    · intro y0 y1 y2 y3 y4 y5 y6 y7 y8 y9
      unfold laws_FnFeedback.j0
      repeat' first
      | (with_reducible exact ih0 _ _ _ _ _ _ _ _ _ _)
      | (with_reducible exact ih1 _ _ _ _ _ _ _ _ _ _ _ _)
      | (with_reducible exact ih2 _ _ _ _ _ _ _)
      | (with_reducible exact ih3 _ _ _ _ _ _ _ _ _)
      | (with_reducible exact impl_FeedbackOf.mono _ _ _ _ _)
      | (with_reducible exact impl_SecondOf.mono _ _ _ _ _)
      | (with_reducible exact spec_B10Values.mono _ _)
      | (with_reducible exact spec_SecondOf.mono _ _ _ _ _)
      | (with_reducible exact LeO.refl _)
      | (with_reducible exact LeO.none _)
      | (with_reducible refine LeO.ite ?_ ?_)
      | (with_reducible refine LeO.bind ?_ (fun _ => ?_))
      | exact ih0 _ _ _ _ _ _ _ _ _ _
      | exact ih1 _ _ _ _ _ _ _ _ _ _ _ _
      | exact ih2 _ _ _ _ _ _ _
      | exact ih3 _ _ _ _ _ _ _ _ _
      | exact impl_FeedbackOf.mono _ _ _ _ _
      | exact impl_SecondOf.mono _ _ _ _ _
      | exact spec_B10Values.mono _ _
      | exact spec_SecondOf.mono _ _ _ _ _
      | exact LeO.none _
      | refine LeO.ite ?_ ?_
      | refine LeO.bind ?_ (fun _ => ?_)
    · intro y0 y1 y2 y3 y4 y5 y6 y7 y8 y9 y10 y11
      unfold laws_FnFeedback.l0
      repeat' first
      | (with_reducible exact ih0 _ _ _ _ _ _ _ _ _ _)
      | (with_reducible exact ih1 _ _ _ _ _ _ _ _ _ _ _ _)
      | (with_reducible exact ih2 _ _ _ _ _ _ _)
      | (with_reducible exact ih3 _ _ _ _ _ _ _ _ _)
      | (with_reducible exact impl_FeedbackOf.mono _ _ _ _ _)
      | (with_reducible exact impl_SecondOf.mono _ _ _ _ _)
      | (with_reducible exact spec_B10Values.mono _ _)
      | (with_reducible exact spec_SecondOf.mono _ _ _ _ _)
      | (with_reducible exact LeO.refl _)
      | (with_reducible exact LeO.none _)
      | (with_reducible refine LeO.ite ?_ ?_)
      | (with_reducible refine LeO.bind ?_ (fun _ => ?_))
      | exact ih0 _ _ _ _ _ _ _ _ _ _
      | exact ih1 _ _ _ _ _ _ _ _ _ _ _ _
      | exact ih2 _ _ _ _ _ _ _
      | exact ih3 _ _ _ _ _ _ _ _ _
      | exact impl_FeedbackOf.mono _ _ _ _ _
      | exact impl_SecondOf.mono _ _ _ _ _
      | exact spec_B10Values.mono _ _
      | exact spec_SecondOf.mono _ _ _ _ _
      | exact LeO.none _
      | refine LeO.ite ?_ ?_
      | refine LeO.bind ?_ (fun _ => ?_)
    · intro y0 y1 y2 y3 y4 y5 y6
      unfold laws_FnFeedback.j2
      repeat' first
      | (with_reducible exact ih0 _ _ _ _ _ _ _ _ _ _)
      | (with_reducible exact ih1 _ _ _ _ _ _ _ _ _ _ _ _)
      | (with_reducible exact ih2 _ _ _ _ _ _ _)
      | (with_reducible exact ih3 _ _ _ _ _ _ _ _ _)
      | (with_reducible exact impl_FeedbackOf.mono _ _ _ _ _)
      | (with_reducible exact impl_SecondOf.mono _ _ _ _ _)
      | (with_reducible exact spec_B10Values.mono _ _)
      | (with_reducible exact spec_SecondOf.mono _ _ _ _ _)
      | (with_reducible exact LeO.refl _)
      | (with_reducible exact LeO.none _)
      | (with_reducible refine LeO.ite ?_ ?_)
      | (with_reducible refine LeO.bind ?_ (fun _ => ?_))
      | exact ih0 _ _ _ _ _ _ _ _ _ _
      | exact ih1 _ _ _ _ _ _ _ _ _ _ _ _
      | exact ih2 _ _ _ _ _ _ _
      | exact ih3 _ _ _ _ _ _ _ _ _
      | exact impl_FeedbackOf.mono _ _ _ _ _
      | exact impl_SecondOf.mono _ _ _ _ _
      | exact spec_B10Values.mono _ _
      | exact spec_SecondOf.mono _ _ _ _ _
      | exact LeO.none _
      | refine LeO.ite ?_ ?_
      | refine LeO.bind ?_ (fun _ => ?_)
    · intro y0 y1 y2 y3 y4 y5 y6 y7 y8
      unfold laws_FnFeedback.l1
      repeat' first
      | (with_reducible exact ih0 _ _ _ _ _ _ _ _ _ _)
      | (with_reducible exact ih1 _ _ _ _ _ _ _ _ _ _ _ _)
      | (with_reducible exact ih2 _ _ _ _ _ _ _)
      | (with_reducible exact ih3 _ _ _ _ _ _ _ _ _)
      | (with_reducible exact impl_FeedbackOf.mono _ _ _ _ _)
      | (with_reducible exact impl_SecondOf.mono _ _ _ _ _)
      | (with_reducible exact spec_B10Values.mono _ _)
      | (with_reducible exact spec_SecondOf.mono _ _ _ _ _)
      | (with_reducible exact LeO.refl _)
      | (with_reducible exact LeO.none _)
      | (with_reducible refine LeO.ite ?_ ?_)
      | (with_reducible refine LeO.bind ?_ (fun _ => ?_))
      | exact ih0 _ _ _ _ _ _ _ _ _ _
      | exact ih1 _ _ _ _ _ _ _ _ _ _ _ _
      | exact ih2 _ _ _ _ _ _ _
      | exact ih3 _ _ _ _ _ _ _ _ _
      | exact impl_FeedbackOf.mono _ _ _ _ _
      | exact impl_SecondOf.mono _ _ _ _ _
      | exact spec_B10Values.mono _ _
      | exact spec_SecondOf.mono _ _ _ _ _
      | exact LeO.none _
      | refine LeO.ite ?_ ?_
      | refine LeO.bind ?_ (fun _ => ?_)
theorem laws_FnFeedback.mono : ∀ a0 a1 k, LeO (laws_FnFeedback.f k a0 a1) (laws_FnFeedback.f (k + 1) a0 a1) := by
  intro a0 a1 k
  obtain ⟨ih0, ih1, ih2, ih3⟩ := laws_FnFeedback.mono_l k
  unfold laws_FnFeedback.f
  repeat' first
      | (with_reducible exact ih0 _ _ _ _ _ _ _ _ _ _)
      | (with_reducible exact ih1 _ _ _ _ _ _ _ _ _ _ _ _)
      | (with_reducible exact ih2 _ _ _ _ _ _ _)
      | (with_reducible exact ih3 _ _ _ _ _ _ _ _ _)
      | (with_reducible exact impl_FeedbackOf.mono _ _ _ _ _)
      | (with_reducible exact impl_SecondOf.mono _ _ _ _ _)
      | (with_reducible exact spec_B10Values.mono _ _)
      | (with_reducible exact spec_SecondOf.mono _ _ _ _ _)
      | (with_reducible exact LeO.refl _)
      | (with_reducible exact LeO.none _)
      | (with_reducible refine LeO.ite ?_ ?_)
      | (with_reducible refine LeO.bind ?_ (fun _ => ?_))
      | exact ih0 _ _ _ _ _ _ _ _ _ _
      | exact ih1 _ _ _ _ _ _ _ _ _ _ _ _
      | exact ih2 _ _ _ _ _ _ _
      | exact ih3 _ _ _ _ _ _ _ _ _
      | exact impl_FeedbackOf.mono _ _ _ _ _
      | exact impl_SecondOf.mono _ _ _ _ _
      | exact spec_B10Values.mono _ _
      | exact spec_SecondOf.mono _ _ _ _ _
      | exact LeO.none _
      | refine LeO.ite ?_ ?_
      | refine LeO.bind ?_ (fun _ => ?_)
def laws_FnFeedback.T16 : Bool × List (List Nat × List Nat) := (true, [([], []), ([], []), ([1], [1]), ([], []), ([2, 3], [2, 3]), ([4], [4]), ([], []), ([6], [6]), ([], []), ([], []), ([8, 9], [8, 9]), ([10], [10]), ([7, 11], [7, 11]), ([5, 12], [5, 12]), ([0, 13], [0, 13]), ([14, 0, 1, 2, 3, 4, 5, 6, 7, 8, 9, 10, 11, 12, 13, 14], [0, 14])])
def laws_FnFeedback.B16 : List Nat := [0, 0, 2, 0, 14, 30, 0, 64, 0, 0, 768, 1792, 4032, 8190, 16383, 32767]
theorem laws_FnFeedback.tab16 : rtab .any (opsOf Try.f3 16) = laws_FnFeedback.T16 := by kernel_rfl
theorem laws_FnFeedback.bits16 : waitsOk laws_FnFeedback.T16.2 laws_FnFeedback.B16 = true := by kernel_rfl
def laws_FnFeedback.T17 : Bool × List (List Nat × List Nat) := (true, [([], []), ([0], [0]), ([1], [1]), ([2, 1], [1, 2]), ([1], [1]), ([3, 4, 1], [1, 3, 4]), ([5, 1], [1, 5]), ([1], [1]), ([7, 1], [1, 7]), ([1], [1]), ([8, 9, 1], [1, 8, 9]), ([6, 10, 1], [1, 6, 10]), ([1, 11], [1, 11]), ([12, 1], [12]), ([13], [13]), ([14, 13], [13, 14]), ([13], [13]), ([15, 16, 13], [13, 15, 16]), ([17, 13], [13, 17]), ([13], [13]), ([19, 13], [13, 19]), ([13], [13]), ([20, 21, 13], [13, 20, 21]), ([18, 22, 13], [13, 18, 22]), ([13, 23], [13, 23]), ([24, 13, 0, 1, 2, 3, 4, 5, 6, 7, 8, 9, 10, 11, 12, 13, 14, 15, 16, 17, 18, 19, 20, 21, 22, 23, 24], [0, 24])])
def laws_FnFeedback.B17 : List Nat := [0, 1, 3, 7, 3, 31, 63, 3, 131, 3, 899, 2047, 4095, 8191, 16383, 32767, 16383, 131071, 262143, 16383, 540671, 16383, 3686399, 8388607, 16777215, 33554431]
theorem laws_FnFeedback.tab17 : rtab .any (opsOf Try.f3 17) = laws_FnFeedback.T17 := by kernel_rfl
theorem laws_FnFeedback.bits17 : waitsOk laws_FnFeedback.T17.2 laws_FnFeedback.B17 = true := by kernel_rfl
def laws_FnFeedback.T18 : Bool × List (List Nat × List Nat) := (true, [([], []), ([], []), ([0, 1], [0, 1]), ([2], [2]), ([], []), ([3, 4], [3, 4]), ([5], [5]), ([6], [6]), ([6], [6]), ([7, 8, 6], [6, 7, 8]), ([9, 6], [6, 9]), ([6], [6]), ([10, 11, 6], [6, 10, 11]), ([6, 12], [6, 12]), ([13, 6], [13]), ([14], [14]), ([14], [14]), ([14], [14]), ([16, 17, 14], [14, 16, 17]), ([18, 14], [14, 18]), ([15, 19, 14], [14, 15, 19]), ([14, 20], [14, 20]), ([21, 14], [21]), ([22], [22]), ([23, 22, 22], [22, 23]), ([24], [24]), ([24], [24]), ([25, 26, 24], [24, 25, 26]), ([27, 24], [24, 27]), ([28, 24, 24], [24, 28]), ([29, 24], [24, 29]), ([24], [24]), ([31, 24], [24, 31]), ([30, 32, 24], [24, 30, 32]), ([24, 33, 22], [22, 24, 33]), ([22, 34], [22, 34])])
def laws_FnFeedback.B18 : List Nat := [0, 0, 3, 7, 0, 31, 63, 127, 127, 511, 1023, 127, 4095, 8191, 16383, 32767, 32767, 32767, 229375, 491519, 1048575, 2097151, 4194303, 8388607, 16777215, 33554431, 33554431, 134217727, 268435455, 536870911, 1073741823, 33554431, 2181038079, 8589934591, 17179869183, 34359738367]
theorem laws_FnFeedback.tab18 : rtab .any (opsOf Try.f3 18) = laws_FnFeedback.T18 := by kernel_rfl
theorem laws_FnFeedback.bits18 : waitsOk laws_FnFeedback.T18.2 laws_FnFeedback.B18 = true := by kernel_rfl
def laws_FnFeedback.T29 : Bool × List (List Nat × List Nat) := (true, [([], []), ([], []), ([0, 1], [0, 1]), ([2], [2]), ([], []), ([4], [4]), ([], []), ([5, 6], [5, 6]), ([7], [7]), ([], []), ([9], [9]), ([8, 10], [8, 10]), ([], []), ([11, 12], [11, 12]), ([], []), ([14], [14]), ([], []), ([], []), ([16, 17], [16, 17]), ([18], [18]), ([15, 19], [15, 19]), ([13, 20], [13, 20]), ([3, 21], [3, 21]), ([22], [22]), ([23], [23]), ([23], [23]), ([24, 25, 23], [23, 24, 25]), ([26, 23], [23, 26]), ([23], [23]), ([27, 28, 23], [23, 27, 28]), ([23, 29], [23, 29]), ([30, 23], [30]), ([31], [31]), ([31], [31]), ([32, 33, 31], [31, 32, 33]), ([34, 31], [31, 34]), ([31], [31]), ([35, 36, 31], [31, 35, 36]), ([31, 37], [31, 37])])
def laws_FnFeedback.B29 : List Nat := [0, 0, 3, 7, 0, 16, 0, 112, 240, 0, 512, 2032, 0, 8176, 0, 16384, 0, 0, 196608, 458752, 1032192, 2097136, 4194303, 8388607, 16777215, 16777215, 67108863, 134217727, 16777215, 536870911, 1073741823, 2147483647, 4294967295, 4294967295, 17179869183, 34359738367, 4294967295, 137438953471, 274877906943]
theorem laws_FnFeedback.tab29 : rtab .any (opsOf Try.f3 29) = laws_FnFeedback.T29 := by kernel_rfl
theorem laws_FnFeedback.bits29 : waitsOk laws_FnFeedback.T29.2 laws_FnFeedback.B29 = true := by kernel_rfl
set_option maxHeartbeats 8000000 in
set_option maxRecDepth 100000 in
theorem laws_FnFeedback.calls (k : Nat) (A0 : Option Addr) (c0 : Nat) (l0 : List Int) (A1 : Option Addr) (c1 : Nat) (l1 : List Int) (r : Bool) (hT_ : r = true) (w : World) (hr0 : Kd.C (Kd.int .u8) w A0 l0.length l0) (hc0 : l0.length ≤ c0) (hr1 : Kd.C (Kd.int .u8) w A1 l1.length l1) (hc1 : l1.length ≤ c1) (h : laws_FnFeedback.f k l0 l1 = some r) :
    Calls Try.prog 3 #[.slice A0 l0.length c0, .slice A1 l1.length c1] w fun e w' => e = .returned (.bool r) ∧ Below w.heap.size w w' := by
  have HT0_ := Aside0.mk hT_
  clear hT_
  have hu26 := Try.underlying26
  have HR0 := Aside0.mk hr0
  have HC0 := Aside0.mk hc0
  clear hr0 hc0
  have HR1 := Aside0.mk hr1
  have HC1 := Aside0.mk hc1
  clear hr1 hc1
  have HB := Aside0.mk (Below.refl w.heap.size w)
  have H : ((laws_b10Long.f l0 l1).bind fun t250 => (if t250 = true then (some true) else ((spec_B10Values.f k l0).bind fun bt251 => ((laws_b10At.f l1 0 5).bind fun t256 => ((laws_b10At.f l1 1 8).bind fun t257 => ((impl_FeedbackOf.f k bt251.1 bt251.2 (wrap64 (t256 - 3)) (wrap64 ((wrap64 (t256 - 3)) + t257))).bind fun bt258 => ((impl_SecondOf.f k bt251.1 bt251.2 (wrap64 (t256 - 3)) (wrap64 ((wrap64 (t256 - 3)) + t257))).bind fun bt265 => ((spec_SecondOf.f k bt251.1 bt251.2 (wrap64 (t256 - 3)) (wrap64 ((wrap64 (t256 - 3)) + t257))).bind fun bt272 => (if bt258.2.2 = true then (if (bt265.2.2 != bt272.2.2) = true then (laws_FnFeedback.j0 k (wrap64 (t256 - 3)) (wrap64 ((wrap64 (t256 - 3)) + t257)) bt258.1 bt258.2.1 bt265.1 bt265.2.1 bt265.2.2 true bt251.1 bt251.2) else (if (bt258.1.length : Int) = (bt251.2.length : Int) then (laws_FnFeedback.j0 k (wrap64 (t256 - 3)) (wrap64 ((wrap64 (t256 - 3)) + t257)) bt258.1 bt258.2.1 bt265.1 bt265.2.1 bt265.2.2 ((bt258.2.1.length : Int) != (bt251.2.length : Int)) bt251.1 bt251.2) else (laws_FnFeedback.j0 k (wrap64 (t256 - 3)) (wrap64 ((wrap64 (t256 - 3)) + t257)) bt258.1 bt258.2.1 bt265.1 bt265.2.1 bt265.2.2 true bt251.1 bt251.2))) else (laws_FnFeedback.j0 k (wrap64 (t256 - 3)) (wrap64 ((wrap64 (t256 - 3)) + t257)) bt258.1 bt258.2.1 bt265.1 bt265.2.1 bt265.2.2 true bt251.1 bt251.2)))))))))) = some r := h
  clear h
  replace H := Option.bind_eq_some_iff.mp H
  obtain ⟨t250, A30, H⟩ := H
  replace H : (if t250 = true then (some true) else ((spec_B10Values.f k l0).bind fun bt251 => ((laws_b10At.f l1 0 5).bind fun t256 => ((laws_b10At.f l1 1 8).bind fun t257 => ((impl_FeedbackOf.f k bt251.1 bt251.2 (wrap64 (t256 - 3)) (wrap64 ((wrap64 (t256 - 3)) + t257))).bind fun bt258 => ((impl_SecondOf.f k bt251.1 bt251.2 (wrap64 (t256 - 3)) (wrap64 ((wrap64 (t256 - 3)) + t257))).bind fun bt265 => ((spec_SecondOf.f k bt251.1 bt251.2 (wrap64 (t256 - 3)) (wrap64 ((wrap64 (t256 - 3)) + t257))).bind fun bt272 => (if bt258.2.2 = true then (if (bt265.2.2 != bt272.2.2) = true then (laws_FnFeedback.j0 k (wrap64 (t256 - 3)) (wrap64 ((wrap64 (t256 - 3)) + t257)) bt258.1 bt258.2.1 bt265.1 bt265.2.1 bt265.2.2 true bt251.1 bt251.2) else (if (bt258.1.length : Int) = (bt251.2.length : Int) then (laws_FnFeedback.j0 k (wrap64 (t256 - 3)) (wrap64 ((wrap64 (t256 - 3)) + t257)) bt258.1 bt258.2.1 bt265.1 bt265.2.1 bt265.2.2 ((bt258.2.1.length : Int) != (bt251.2.length : Int)) bt251.1 bt251.2) else (laws_FnFeedback.j0 k (wrap64 (t256 - 3)) (wrap64 ((wrap64 (t256 - 3)) + t257)) bt258.1 bt258.2.1 bt265.1 bt265.2.1 bt265.2.2 true bt251.1 bt251.2))) else (laws_FnFeedback.j0 k (wrap64 (t256 - 3)) (wrap64 ((wrap64 (t256 - 3)) + t257)) bt258.1 bt258.2.1 bt265.1 bt265.2.1 bt265.2.2 true bt251.1 bt251.2))))))))) = some r := H
  have A3 := Aside0.mk A30
  clear A30
  by_cases c4 : t250 = true
  · subst c4
    have H1 : (some true) = some r := by rw [if_pos rfl] at H; exact H
    clear H
    have H := H1
    clear H1
    obtain rfl := Option.some.inj H
    as_aux_lemma =>
      go_enter Try.func3, Try.ntmps3
      go_wp2_with (first | ((with_reducible refine gate_callee (f := 4) rfl ?_); refine goesL_ (some 25) rfl rfl Try.func4 (by kernel_rfl) rfl #[.slice A0 l0.length c0, .slice A1 l1.length c1] rfl (by (try simp only [List.map_toArray, List.map_cons, List.map_nil]); first | done | rfl | (simp only [List.length_drop, List.length_take]; rfl)) ?_; (with_reducible refine (laws_b10Long.calls _ _ l0 _ _ l1 true _ ?side1 ?side2 ?side3 ?side4 A3.out).mono ?_); (case side1 => repeat (first | exact HR0.out | (with_reducible refine Kd.C_alloc ?_ _) | (with_reducible refine Kd.C_drewN ?_ _) | (with_reducible refine Kd.C_drew ?_))); (case side2 => exact HC0.out); (case side3 => repeat (first | exact HR1.out | (with_reducible refine Kd.C_alloc ?_ _) | (with_reducible refine Kd.C_drewN ?_ _) | (with_reducible refine Kd.C_drew ?_))); (case side4 => exact HC1.out); rintro e w' ⟨rfl, ⟨nd, rfl⟩⟩; refine ⟨_, rfl, ?_⟩))
      go_ret
      exact ⟨by first | rfl | (simp [errW_none, errW_some] <;> rfl) | (simp [*, errW_none, errW_some] <;> rfl), by repeat (first | (with_reducible first | exact HB.out | apply below_alloc | apply pw_below_drewN | apply below_drew1) | exact HB.out)⟩
  · replace c4 := Bool.eq_false_iff.mpr c4
    subst c4
    have H1 : ((spec_B10Values.f k l0).bind fun bt251 => ((laws_b10At.f l1 0 5).bind fun t256 => ((laws_b10At.f l1 1 8).bind fun t257 => ((impl_FeedbackOf.f k bt251.1 bt251.2 (wrap64 (t256 - 3)) (wrap64 ((wrap64 (t256 - 3)) + t257))).bind fun bt258 => ((impl_SecondOf.f k bt251.1 bt251.2 (wrap64 (t256 - 3)) (wrap64 ((wrap64 (t256 - 3)) + t257))).bind fun bt265 => ((spec_SecondOf.f k bt251.1 bt251.2 (wrap64 (t256 - 3)) (wrap64 ((wrap64 (t256 - 3)) + t257))).bind fun bt272 => (if bt258.2.2 = true then (if (bt265.2.2 != bt272.2.2) = true then (laws_FnFeedback.j0 k (wrap64 (t256 - 3)) (wrap64 ((wrap64 (t256 - 3)) + t257)) bt258.1 bt258.2.1 bt265.1 bt265.2.1 bt265.2.2 true bt251.1 bt251.2) else (if (bt258.1.length : Int) = (bt251.2.length : Int) then (laws_FnFeedback.j0 k (wrap64 (t256 - 3)) (wrap64 ((wrap64 (t256 - 3)) + t257)) bt258.1 bt258.2.1 bt265.1 bt265.2.1 bt265.2.2 ((bt258.2.1.length : Int) != (bt251.2.length : Int)) bt251.1 bt251.2) else (laws_FnFeedback.j0 k (wrap64 (t256 - 3)) (wrap64 ((wrap64 (t256 - 3)) + t257)) bt258.1 bt258.2.1 bt265.1 bt265.2.1 bt265.2.2 true bt251.1 bt251.2))) else (laws_FnFeedback.j0 k (wrap64 (t256 - 3)) (wrap64 ((wrap64 (t256 - 3)) + t257)) bt258.1 bt258.2.1 bt265.1 bt265.2.1 bt265.2.2 true bt251.1 bt251.2)))))))) = some r := by rw [if_neg (show ¬ (false = true) by decide)] at H; exact H
    clear H
    have H := H1
    clear H1
    replace H := Option.bind_eq_some_iff.mp H
    obtain ⟨⟨t251, t252⟩, A50, H⟩ := H
    replace H : ((laws_b10At.f l1 0 5).bind fun t256 => ((laws_b10At.f l1 1 8).bind fun t257 => ((impl_FeedbackOf.f k t251 t252 (wrap64 (t256 - 3)) (wrap64 ((wrap64 (t256 - 3)) + t257))).bind fun bt258 => ((impl_SecondOf.f k t251 t252 (wrap64 (t256 - 3)) (wrap64 ((wrap64 (t256 - 3)) + t257))).bind fun bt265 => ((spec_SecondOf.f k t251 t252 (wrap64 (t256 - 3)) (wrap64 ((wrap64 (t256 - 3)) + t257))).bind fun bt272 => (if bt258.2.2 = true then (if (bt265.2.2 != bt272.2.2) = true then (laws_FnFeedback.j0 k (wrap64 (t256 - 3)) (wrap64 ((wrap64 (t256 - 3)) + t257)) bt258.1 bt258.2.1 bt265.1 bt265.2.1 bt265.2.2 true t251 t252) else (if (bt258.1.length : Int) = (t252.length : Int) then (laws_FnFeedback.j0 k (wrap64 (t256 - 3)) (wrap64 ((wrap64 (t256 - 3)) + t257)) bt258.1 bt258.2.1 bt265.1 bt265.2.1 bt265.2.2 ((bt258.2.1.length : Int) != (t252.length : Int)) t251 t252) else (laws_FnFeedback.j0 k (wrap64 (t256 - 3)) (wrap64 ((wrap64 (t256 - 3)) + t257)) bt258.1 bt258.2.1 bt265.1 bt265.2.1 bt265.2.2 true t251 t252))) else (laws_FnFeedback.j0 k (wrap64 (t256 - 3)) (wrap64 ((wrap64 (t256 - 3)) + t257)) bt258.1 bt258.2.1 bt265.1 bt265.2.1 bt265.2.2 true t251 t252))))))) = some r := H
    have A5 := Aside0.mk A50
    clear A50
    replace H := Option.bind_eq_some_iff.mp H
    obtain ⟨t256, A60, H⟩ := H
    replace H : ((laws_b10At.f l1 1 8).bind fun t257 => ((impl_FeedbackOf.f k t251 t252 (wrap64 (t256 - 3)) (wrap64 ((wrap64 (t256 - 3)) + t257))).bind fun bt258 => ((impl_SecondOf.f k t251 t252 (wrap64 (t256 - 3)) (wrap64 ((wrap64 (t256 - 3)) + t257))).bind fun bt265 => ((spec_SecondOf.f k t251 t252 (wrap64 (t256 - 3)) (wrap64 ((wrap64 (t256 - 3)) + t257))).bind fun bt272 => (if bt258.2.2 = true then (if (bt265.2.2 != bt272.2.2) = true then (laws_FnFeedback.j0 k (wrap64 (t256 - 3)) (wrap64 ((wrap64 (t256 - 3)) + t257)) bt258.1 bt258.2.1 bt265.1 bt265.2.1 bt265.2.2 true t251 t252) else (if (bt258.1.length : Int) = (t252.length : Int) then (laws_FnFeedback.j0 k (wrap64 (t256 - 3)) (wrap64 ((wrap64 (t256 - 3)) + t257)) bt258.1 bt258.2.1 bt265.1 bt265.2.1 bt265.2.2 ((bt258.2.1.length : Int) != (t252.length : Int)) t251 t252) else (laws_FnFeedback.j0 k (wrap64 (t256 - 3)) (wrap64 ((wrap64 (t256 - 3)) + t257)) bt258.1 bt258.2.1 bt265.1 bt265.2.1 bt265.2.2 true t251 t252))) else (laws_FnFeedback.j0 k (wrap64 (t256 - 3)) (wrap64 ((wrap64 (t256 - 3)) + t257)) bt258.1 bt258.2.1 bt265.1 bt265.2.1 bt265.2.2 true t251 t252)))))) = some r := H
    have A6 := Aside0.mk A60
    clear A60
    replace H := Option.bind_eq_some_iff.mp H
    obtain ⟨t257, A70, H⟩ := H
    replace H : ((impl_FeedbackOf.f k t251 t252 (wrap64 (t256 - 3)) (wrap64 ((wrap64 (t256 - 3)) + t257))).bind fun bt258 => ((impl_SecondOf.f k t251 t252 (wrap64 (t256 - 3)) (wrap64 ((wrap64 (t256 - 3)) + t257))).bind fun bt265 => ((spec_SecondOf.f k t251 t252 (wrap64 (t256 - 3)) (wrap64 ((wrap64 (t256 - 3)) + t257))).bind fun bt272 => (if bt258.2.2 = true then (if (bt265.2.2 != bt272.2.2) = true then (laws_FnFeedback.j0 k (wrap64 (t256 - 3)) (wrap64 ((wrap64 (t256 - 3)) + t257)) bt258.1 bt258.2.1 bt265.1 bt265.2.1 bt265.2.2 true t251 t252) else (if (bt258.1.length : Int) = (t252.length : Int) then (laws_FnFeedback.j0 k (wrap64 (t256 - 3)) (wrap64 ((wrap64 (t256 - 3)) + t257)) bt258.1 bt258.2.1 bt265.1 bt265.2.1 bt265.2.2 ((bt258.2.1.length : Int) != (t252.length : Int)) t251 t252) else (laws_FnFeedback.j0 k (wrap64 (t256 - 3)) (wrap64 ((wrap64 (t256 - 3)) + t257)) bt258.1 bt258.2.1 bt265.1 bt265.2.1 bt265.2.2 true t251 t252))) else (laws_FnFeedback.j0 k (wrap64 (t256 - 3)) (wrap64 ((wrap64 (t256 - 3)) + t257)) bt258.1 bt258.2.1 bt265.1 bt265.2.1 bt265.2.2 true t251 t252))))) = some r := H
    have A7 := Aside0.mk A70
    clear A70
    replace H := Option.bind_eq_some_iff.mp H
    obtain ⟨⟨t258, t261, t264⟩, A80, H⟩ := H
    replace H : ((impl_SecondOf.f k t251 t252 (wrap64 (t256 - 3)) (wrap64 ((wrap64 (t256 - 3)) + t257))).bind fun bt265 => ((spec_SecondOf.f k t251 t252 (wrap64 (t256 - 3)) (wrap64 ((wrap64 (t256 - 3)) + t257))).bind fun bt272 => (if t264 = true then (if (bt265.2.2 != bt272.2.2) = true then (laws_FnFeedback.j0 k (wrap64 (t256 - 3)) (wrap64 ((wrap64 (t256 - 3)) + t257)) t258 t261 bt265.1 bt265.2.1 bt265.2.2 true t251 t252) else (if (t258.length : Int) = (t252.length : Int) then (laws_FnFeedback.j0 k (wrap64 (t256 - 3)) (wrap64 ((wrap64 (t256 - 3)) + t257)) t258 t261 bt265.1 bt265.2.1 bt265.2.2 ((t261.length : Int) != (t252.length : Int)) t251 t252) else (laws_FnFeedback.j0 k (wrap64 (t256 - 3)) (wrap64 ((wrap64 (t256 - 3)) + t257)) t258 t261 bt265.1 bt265.2.1 bt265.2.2 true t251 t252))) else (laws_FnFeedback.j0 k (wrap64 (t256 - 3)) (wrap64 ((wrap64 (t256 - 3)) + t257)) t258 t261 bt265.1 bt265.2.1 bt265.2.2 true t251 t252)))) = some r := H
    have A8 := Aside0.mk A80
    clear A80
    replace H := Option.bind_eq_some_iff.mp H
    obtain ⟨⟨t265, t268, t271⟩, A90, H⟩ := H
    replace H : ((spec_SecondOf.f k t251 t252 (wrap64 (t256 - 3)) (wrap64 ((wrap64 (t256 - 3)) + t257))).bind fun bt272 => (if t264 = true then (if (t271 != bt272.2.2) = true then (laws_FnFeedback.j0 k (wrap64 (t256 - 3)) (wrap64 ((wrap64 (t256 - 3)) + t257)) t258 t261 t265 t268 t271 true t251 t252) else (if (t258.length : Int) = (t252.length : Int) then (laws_FnFeedback.j0 k (wrap64 (t256 - 3)) (wrap64 ((wrap64 (t256 - 3)) + t257)) t258 t261 t265 t268 t271 ((t261.length : Int) != (t252.length : Int)) t251 t252) else (laws_FnFeedback.j0 k (wrap64 (t256 - 3)) (wrap64 ((wrap64 (t256 - 3)) + t257)) t258 t261 t265 t268 t271 true t251 t252))) else (laws_FnFeedback.j0 k (wrap64 (t256 - 3)) (wrap64 ((wrap64 (t256 - 3)) + t257)) t258 t261 t265 t268 t271 true t251 t252))) = some r := H
    have A9 := Aside0.mk A90
    clear A90
    replace H := Option.bind_eq_some_iff.mp H
    obtain ⟨⟨t272, t275, t278⟩, A100, H⟩ := H
    replace H : (if t264 = true then (if (t271 != t278) = true then (laws_FnFeedback.j0 k (wrap64 (t256 - 3)) (wrap64 ((wrap64 (t256 - 3)) + t257)) t258 t261 t265 t268 t271 true t251 t252) else (if (t258.length : Int) = (t252.length : Int) then (laws_FnFeedback.j0 k (wrap64 (t256 - 3)) (wrap64 ((wrap64 (t256 - 3)) + t257)) t258 t261 t265 t268 t271 ((t261.length : Int) != (t252.length : Int)) t251 t252) else (laws_FnFeedback.j0 k (wrap64 (t256 - 3)) (wrap64 ((wrap64 (t256 - 3)) + t257)) t258 t261 t265 t268 t271 true t251 t252))) else (laws_FnFeedback.j0 k (wrap64 (t256 - 3)) (wrap64 ((wrap64 (t256 - 3)) + t257)) t258 t261 t265 t268 t271 true t251 t252)) = some r := H
    have A10 := Aside0.mk A100
    clear A100
    have HC11 := Aside0.mk H
    clear H
    go_enter Try.func3, Try.ntmps3
    go_upto_region 9 with (first | ((with_reducible refine gate_callee (f := 4) rfl ?_); refine goesL_ (some 25) rfl rfl Try.func4 (by kernel_rfl) rfl #[.slice A0 l0.length c0, .slice A1 l1.length c1] rfl (by (try simp only [List.map_toArray, List.map_cons, List.map_nil]); first | done | rfl | (simp only [List.length_drop, List.length_take]; rfl)) ?_; (with_reducible refine (laws_b10Long.calls _ _ l0 _ _ l1 false _ ?side1 ?side2 ?side3 ?side4 A3.out).mono ?_); (case side1 => repeat (first | exact HR0.out | (with_reducible refine Kd.C_alloc ?_ _) | (with_reducible refine Kd.C_drewN ?_ _) | (with_reducible refine Kd.C_drew ?_))); (case side2 => exact HC0.out); (case side3 => repeat (first | exact HR1.out | (with_reducible refine Kd.C_alloc ?_ _) | (with_reducible refine Kd.C_drewN ?_ _) | (with_reducible refine Kd.C_drew ?_))); (case side4 => exact HC1.out); rintro e w' ⟨rfl, ⟨nd, rfl⟩⟩; refine ⟨_, rfl, ?_⟩) | ((with_reducible refine gate_callee (f := 5) rfl ?_); refine goesL_ (some 27) rfl rfl Try.func5 (by kernel_rfl) rfl #[.slice A0 l0.length c0] rfl (by (try simp only [List.map_toArray, List.map_cons, List.map_nil]); first | done | rfl | (simp only [List.length_drop, List.length_take]; rfl)) ?_; (with_reducible refine (spec_B10Values.calls k _ _ l0 t251 t252 _ ?side1 ?side2 A5.out).mono ?_); (case side1 => repeat (first | exact HR0.out | (with_reducible refine Kd.C_alloc ?_ _) | (with_reducible refine Kd.C_drewN ?_ _) | (with_reducible refine Kd.C_drew ?_))); (case side2 => exact HC0.out); rintro e w12 ⟨v253, rfl, ho0, hb⟩; refine ⟨_, rfl, ?_⟩; have n0_ := Aside0.mk (Kd.R_lower ho0 (below_size (by repeat (first | (with_reducible first | exact HB.out | apply below_alloc | apply pw_below_drewN | apply below_drew1) | exact HB.out)))); have n1_ := Aside0.mk (below_step (by repeat (first | (with_reducible first | exact HB.out | apply below_alloc | apply pw_below_drewN | apply below_drew1) | exact HB.out)) hb); clear HB; have HO254 := n0_; have HB := n1_; clear n0_ n1_; (try clear hb); (try clear hb2); (try clear hk); (try clear hi); (try clear ho0)) | ((with_reducible refine gate_dst (N := 5) rfl ?_); (try (refine gate_guard (by rfl) ?_; dsimp only)); refine box_event ?hg (N := 5) ?hd (cs := #[.int .i64 0, .slice none 0 0]) (t := 26) ?hr ?_; (case hd => rfl); (case hg => rfl); (case hr => first | (go_simp; done) | (go_simp; rfl)); intro gb255 hg w13 hbox hb; have n0_ := Aside0.mk (Kd.R_below (by (with_reducible repeat (first | apply Kd.R_alloc | apply Kd.R_drewN | apply Kd.R_drew)); exact HO254.out) hb); have n1_ := Aside0.mk (below_step (by repeat (first | (with_reducible first | exact HB.out | apply below_alloc | apply pw_below_drewN | apply below_drew1) | exact HB.out)) hb); have n2_ := Aside0.mk (hbox); have n3_ := Aside0.mk ((by rw [hg]; exact (below_size (by repeat (first | (with_reducible first | exact HB.out | apply below_alloc | apply pw_below_drewN | apply below_drew1) | exact HB.out))) : w.heap.size ≤ gb255)); have n4_ := Aside0.mk ((by rw [hg]; exact (below_size (by repeat (first | (with_reducible first | exact HB.out | apply below_alloc | apply pw_below_drewN | apply below_drew1) | exact HB.out))) : w.heap.size ≤ gb255)); clear HO254; clear HB; have HO254 := n0_; have HB := n1_; have BK255 := n2_; have GW255 := n3_; have GE255 := n4_; clear n0_ n1_ n2_ n3_ n4_; clear hb hbox hg; have hcz14_0 : w13.cell? ⟨gb255, 0, none⟩ = some (.int .i64 0) := (blk_cell BK255.out 0).trans rfl; have hcz14_1 : w13.cell? ⟨gb255, 1, none⟩ = some (.slice none 0 0) := (blk_cell BK255.out 1).trans rfl; have hfz14_0 := blk_frozen BK255.out 0; have hfz14_1 := blk_frozen BK255.out 1; obtain ⟨Ao15, co15, eo15⟩ := Kd.R_slice HO254.out; subst eo15) | ((with_reducible refine gate_callee (f := 6) rfl ?_); refine goesL_ (some 29) rfl rfl Try.func6 (by kernel_rfl) rfl #[.slice A1 l1.length c1, .int .i64 0, .int .i64 5] rfl (by (try simp only [List.map_toArray, List.map_cons, List.map_nil]); first | done | rfl | (simp only [List.length_drop, List.length_take]; rfl)) ?_; (with_reducible refine (laws_b10At.calls _ _ l1 0 5 t256 _ ?side1 ?side2 A6.out).mono ?_); (case side1 => exact Kd.C_below HR1.out (by repeat (first | (with_reducible first | exact HB.out | apply below_alloc | apply pw_below_drewN | apply below_drew1 | refine below_set ?_ GE255.out) | exact HB.out))); (case side2 => exact HC1.out); rintro e w' ⟨rfl, ⟨nd, rfl⟩⟩; refine ⟨_, rfl, ?_⟩) | ((with_reducible refine gate_callee (f := 6) rfl ?_); refine goesL_ (some 33) rfl rfl Try.func6 (by kernel_rfl) rfl #[.slice A1 l1.length c1, .int .i64 1, .int .i64 8] rfl (by (try simp only [List.map_toArray, List.map_cons, List.map_nil]); first | done | rfl | (simp only [List.length_drop, List.length_take]; rfl)) ?_; (with_reducible refine (laws_b10At.calls _ _ l1 1 8 t257 _ ?side1 ?side2 A7.out).mono ?_); (case side1 => exact Kd.C_below HR1.out (by repeat (first | (with_reducible first | exact HB.out | apply below_alloc | apply pw_below_drewN | apply below_drew1 | refine below_set ?_ GE255.out) | exact HB.out))); (case side2 => exact HC1.out); rintro e w' ⟨rfl, ⟨nd, rfl⟩⟩; refine ⟨_, rfl, ?_⟩) | ((with_reducible refine gate_callee (f := 7) rfl ?_); refine goesL_ (some 39) rfl rfl Try.func7 (by kernel_rfl) rfl #[.agg #[.int .i64 t251, .slice Ao15 t252.length co15], .int .i64 (wrap64 (t256 - 3)), .int .i64 (wrap64 ((wrap64 (t256 - 3)) + t257))] rfl (by (try simp only [List.map_toArray, List.map_cons, List.map_nil]); first | done | rfl | (simp only [List.length_drop, List.length_take]; rfl)) ?_; (with_reducible refine (impl_FeedbackOf.calls k t251 _ _ t252 (wrap64 (t256 - 3)) (wrap64 ((wrap64 (t256 - 3)) + t257)) t258 t261 t264 _ ?side1 ?side2 A8.out).mono ?_); (case side1 => refine (Kd.R_reads' (e := 2) (base := w.heap.size) (ok := fun k_ => True) (n := t252.length) (c := co15) ?_).2.2; exact (by (with_reducible repeat (first | apply Kd.R_alloc | apply Kd.R_drewN | apply Kd.R_drew)); exact (Kd.R_mono (Kd.R_far (p := ⟨gb255, 1, none⟩) (Kd.R_far (p := ⟨gb255, 0, none⟩) (Kd.R_types HO254.out BK255.out (by decide)) (fun _ hk => hk.2) (.int .i64 t251)) (fun _ hk => hk.2) (.slice Ao15 t252.length co15)) (fun _ h_ => h_.1)))); (case side2 => exact (Kd.R_reads' HO254.out).2.1); rintro e w16 ⟨v259, v262, rfl, ho0, ho1, hb⟩; refine ⟨_, rfl, ?_⟩; have n0_ := Aside0.mk (Kd.R_mono (Kd.R_told (Kd.R_told (Kd.R_old (by (with_reducible repeat (first | apply Kd.R_alloc | apply Kd.R_drewN | apply Kd.R_drew)); exact (Kd.R_mono (Kd.R_far (p := ⟨gb255, 1, none⟩) (Kd.R_far (p := ⟨gb255, 0, none⟩) (Kd.R_types HO254.out BK255.out (by decide)) (fun _ hk => hk.2) (.int .i64 t251)) (fun _ hk => hk.2) (.slice Ao15 t252.length co15)) (fun _ h_ => h_.1))) hb) (Kd.R_base ho0)) (Kd.R_base ho1)) (fun _ h_ => h_.1)); have n1_ := Aside0.mk (Kd.R_lower (Kd.R_new' ho0 (Kd.R_lt (by (with_reducible repeat (first | apply Kd.R_alloc | apply Kd.R_drewN | apply Kd.R_drew)); exact (Kd.R_mono (Kd.R_far (p := ⟨gb255, 1, none⟩) (Kd.R_far (p := ⟨gb255, 0, none⟩) (Kd.R_types HO254.out BK255.out (by decide)) (fun _ hk => hk.2) (.int .i64 t251)) (fun _ hk => hk.2) (.slice Ao15 t252.length co15)) (fun _ h_ => h_.1))))) (below_size (by repeat (first | (with_reducible first | exact HB.out | apply below_alloc | apply pw_below_drewN | apply below_drew1 | refine below_set ?_ GE255.out) | exact HB.out)))); have n2_ := Aside0.mk (Kd.R_lower (Kd.R_new' ho1 (Kd.R_lt (by (with_reducible repeat (first | apply Kd.R_alloc | apply Kd.R_drewN | apply Kd.R_drew)); exact (Kd.R_mono (Kd.R_far (p := ⟨gb255, 1, none⟩) (Kd.R_far (p := ⟨gb255, 0, none⟩) (Kd.R_types HO254.out BK255.out (by decide)) (fun _ hk => hk.2) (.int .i64 t251)) (fun _ hk => hk.2) (.slice Ao15 t252.length co15)) (fun _ h_ => h_.1))))) (below_size (by repeat (first | (with_reducible first | exact HB.out | apply below_alloc | apply pw_below_drewN | apply below_drew1 | refine below_set ?_ GE255.out) | exact HB.out)))); have n3_ := Aside0.mk (blk_below (g := gb255) (o := .cells #[.int .i64 t251, .slice Ao15 t252.length co15] 26 (0, 0)) (by (with_reducible repeat (first | refine blk_drewN ?_ _ | refine blk_drew ?_ | refine blk_alloc ?_ _)); refine blk_put (cs := #[.int .i64 t251, .slice none 0 0]) ?_ 1 _ rfl; (with_reducible repeat (first | refine blk_drewN ?_ _ | refine blk_drew ?_ | refine blk_alloc ?_ _)); refine blk_put (cs := #[.int .i64 0, .slice none 0 0]) ?_ 0 _ rfl; (with_reducible repeat (first | refine blk_drewN ?_ _ | refine blk_drew ?_ | refine blk_alloc ?_ _)); exact BK255.out) hb); have n4_ := Aside0.mk (below_step (by repeat (first | (with_reducible first | exact HB.out | apply below_alloc | apply pw_below_drewN | apply below_drew1 | refine below_set ?_ GE255.out) | exact HB.out)) hb); clear HO254; clear BK255; clear HB; have HO254 := n0_; have HO260 := n1_; have HO263 := n2_; have BK255 := n3_; have HB := n4_; clear n0_ n1_ n2_ n3_ n4_; (try clear hb); (try clear hb2); (try clear hk); (try clear hi); (try clear ho0); (try clear ho1); have hcz17_0 : w16.cell? ⟨gb255, 0, none⟩ = some (.int .i64 t251) := (blk_cell BK255.out 0).trans rfl; have hcz17_1 : w16.cell? ⟨gb255, 1, none⟩ = some (.slice Ao15 t252.length co15) := (blk_cell BK255.out 1).trans rfl; have hfz17_0 := blk_frozen BK255.out 0; have hfz17_1 := blk_frozen BK255.out 1) | ((with_reducible refine gate_callee (f := 8) rfl ?_); refine goesL_ (some 47) rfl rfl Try.func8 (by kernel_rfl) rfl #[.agg #[.int .i64 t251, .slice Ao15 t252.length co15], .int .i64 (wrap64 (t256 - 3)), .int .i64 (wrap64 ((wrap64 (t256 - 3)) + t257))] rfl (by (try simp only [List.map_toArray, List.map_cons, List.map_nil]); first | done | rfl | (simp only [List.length_drop, List.length_take]; rfl)) ?_; (with_reducible refine (impl_SecondOf.calls k t251 _ _ t252 (wrap64 (t256 - 3)) (wrap64 ((wrap64 (t256 - 3)) + t257)) t265 t268 t271 _ ?side1 ?side2 A9.out).mono ?_); (case side1 => repeat (first | exact (Kd.R_reads' HO254.out).2.2 | (with_reducible refine Kd.C_alloc ?_ _) | (with_reducible refine Kd.C_drewN ?_ _) | (with_reducible refine Kd.C_drew ?_))); (case side2 => exact (Kd.R_reads' HO254.out).2.1); rintro e w18 ⟨v266, v269, rfl, ho0, ho1, hb⟩; refine ⟨_, rfl, ?_⟩; have n0_ := Aside0.mk (Kd.R_mono (Kd.R_told (Kd.R_told (Kd.R_old (by (with_reducible repeat (first | apply Kd.R_alloc | apply Kd.R_drewN | apply Kd.R_drew)); exact HO254.out) hb) (Kd.R_base ho0)) (Kd.R_base ho1)) (fun _ h_ => h_.1)); have n1_ := Aside0.mk (Kd.R_mono (Kd.R_told (Kd.R_told (Kd.R_old (by (with_reducible repeat (first | apply Kd.R_alloc | apply Kd.R_drewN | apply Kd.R_drew)); exact HO260.out) hb) (Kd.R_base ho0)) (Kd.R_base ho1)) (fun _ h_ => h_.1)); have n2_ := Aside0.mk (Kd.R_mono (Kd.R_told (Kd.R_told (Kd.R_old (by (with_reducible repeat (first | apply Kd.R_alloc | apply Kd.R_drewN | apply Kd.R_drew)); exact HO263.out) hb) (Kd.R_base ho0)) (Kd.R_base ho1)) (fun _ h_ => h_.1)); have n3_ := Aside0.mk (Kd.R_lower (Kd.R_new' (Kd.R_new' (Kd.R_new' ho0 (Kd.R_lt (by (with_reducible repeat (first | apply Kd.R_alloc | apply Kd.R_drewN | apply Kd.R_drew)); exact HO254.out))) (Kd.R_lt (by (with_reducible repeat (first | apply Kd.R_alloc | apply Kd.R_drewN | apply Kd.R_drew)); exact HO260.out))) (Kd.R_lt (by (with_reducible repeat (first | apply Kd.R_alloc | apply Kd.R_drewN | apply Kd.R_drew)); exact HO263.out))) (below_size (by repeat (first | (with_reducible first | exact HB.out | apply below_alloc | apply pw_below_drewN | apply below_drew1 | refine below_set ?_ GE255.out) | exact HB.out)))); have n4_ := Aside0.mk (Kd.R_lower (Kd.R_new' (Kd.R_new' (Kd.R_new' ho1 (Kd.R_lt (by (with_reducible repeat (first | apply Kd.R_alloc | apply Kd.R_drewN | apply Kd.R_drew)); exact HO254.out))) (Kd.R_lt (by (with_reducible repeat (first | apply Kd.R_alloc | apply Kd.R_drewN | apply Kd.R_drew)); exact HO260.out))) (Kd.R_lt (by (with_reducible repeat (first | apply Kd.R_alloc | apply Kd.R_drewN | apply Kd.R_drew)); exact HO263.out))) (below_size (by repeat (first | (with_reducible first | exact HB.out | apply below_alloc | apply pw_below_drewN | apply below_drew1 | refine below_set ?_ GE255.out) | exact HB.out)))); have n5_ := Aside0.mk (blk_below (g := gb255) (o := .cells #[.int .i64 t251, .slice Ao15 t252.length co15] 26 (0, 0)) (by (with_reducible repeat (first | refine blk_drewN ?_ _ | refine blk_drew ?_ | refine blk_alloc ?_ _)); exact BK255.out) hb); have n6_ := Aside0.mk (below_step (by repeat (first | (with_reducible first | exact HB.out | apply below_alloc | apply pw_below_drewN | apply below_drew1 | refine below_set ?_ GE255.out) | exact HB.out)) hb); clear HO254; clear HO260; clear HO263; clear BK255; clear HB; have HO254 := n0_; have HO260 := n1_; have HO263 := n2_; have HO267 := n3_; have HO270 := n4_; have BK255 := n5_; have HB := n6_; clear n0_ n1_ n2_ n3_ n4_ n5_ n6_; (try clear hb); (try clear hb2); (try clear hk); (try clear hi); (try clear ho0); (try clear ho1); have hcz19_0 : w18.cell? ⟨gb255, 0, none⟩ = some (.int .i64 t251) := (blk_cell BK255.out 0).trans rfl; have hcz19_1 : w18.cell? ⟨gb255, 1, none⟩ = some (.slice Ao15 t252.length co15) := (blk_cell BK255.out 1).trans rfl; have hfz19_0 := blk_frozen BK255.out 0; have hfz19_1 := blk_frozen BK255.out 1) | ((with_reducible refine gate_callee (f := 9) rfl ?_); refine goesL_ (some 55) rfl rfl Try.func9 (by kernel_rfl) rfl #[.agg #[.int .i64 t251, .slice Ao15 t252.length co15], .int .i64 (wrap64 (t256 - 3)), .int .i64 (wrap64 ((wrap64 (t256 - 3)) + t257))] rfl (by (try simp only [List.map_toArray, List.map_cons, List.map_nil]); first | done | rfl | (simp only [List.length_drop, List.length_take]; rfl)) ?_; (with_reducible refine (spec_SecondOf.calls k t251 _ _ t252 (wrap64 (t256 - 3)) (wrap64 ((wrap64 (t256 - 3)) + t257)) t272 t275 t278 _ ?side1 ?side2 A10.out).mono ?_); (case side1 => repeat (first | exact (Kd.R_reads' HO254.out).2.2 | (with_reducible refine Kd.C_alloc ?_ _) | (with_reducible refine Kd.C_drewN ?_ _) | (with_reducible refine Kd.C_drew ?_))); (case side2 => exact (Kd.R_reads' HO254.out).2.1); rintro e w20 ⟨v273, v276, rfl, ho0, ho1, hb⟩; refine ⟨_, rfl, ?_⟩; have n0_ := Aside0.mk (Kd.R_mono (Kd.R_told (Kd.R_told (Kd.R_old (by (with_reducible repeat (first | apply Kd.R_alloc | apply Kd.R_drewN | apply Kd.R_drew)); exact HO254.out) hb) (Kd.R_base ho0)) (Kd.R_base ho1)) (fun _ h_ => h_.1)); have n1_ := Aside0.mk (Kd.R_mono (Kd.R_told (Kd.R_told (Kd.R_old (by (with_reducible repeat (first | apply Kd.R_alloc | apply Kd.R_drewN | apply Kd.R_drew)); exact HO260.out) hb) (Kd.R_base ho0)) (Kd.R_base ho1)) (fun _ h_ => h_.1)); have n2_ := Aside0.mk (Kd.R_mono (Kd.R_told (Kd.R_told (Kd.R_old (by (with_reducible repeat (first | apply Kd.R_alloc | apply Kd.R_drewN | apply Kd.R_drew)); exact HO263.out) hb) (Kd.R_base ho0)) (Kd.R_base ho1)) (fun _ h_ => h_.1)); have n3_ := Aside0.mk (Kd.R_mono (Kd.R_told (Kd.R_told (Kd.R_old (by (with_reducible repeat (first | apply Kd.R_alloc | apply Kd.R_drewN | apply Kd.R_drew)); exact HO267.out) hb) (Kd.R_base ho0)) (Kd.R_base ho1)) (fun _ h_ => h_.1)); have n4_ := Aside0.mk (Kd.R_mono (Kd.R_told (Kd.R_told (Kd.R_old (by (with_reducible repeat (first | apply Kd.R_alloc | apply Kd.R_drewN | apply Kd.R_drew)); exact HO270.out) hb) (Kd.R_base ho0)) (Kd.R_base ho1)) (fun _ h_ => h_.1)); have n5_ := Aside0.mk (Kd.R_lower (Kd.R_new' (Kd.R_new' (Kd.R_new' (Kd.R_new' (Kd.R_new' ho0 (Kd.R_lt (by (with_reducible repeat (first | apply Kd.R_alloc | apply Kd.R_drewN | apply Kd.R_drew)); exact HO254.out))) (Kd.R_lt (by (with_reducible repeat (first | apply Kd.R_alloc | apply Kd.R_drewN | apply Kd.R_drew)); exact HO260.out))) (Kd.R_lt (by (with_reducible repeat (first | apply Kd.R_alloc | apply Kd.R_drewN | apply Kd.R_drew)); exact HO263.out))) (Kd.R_lt (by (with_reducible repeat (first | apply Kd.R_alloc | apply Kd.R_drewN | apply Kd.R_drew)); exact HO267.out))) (Kd.R_lt (by (with_reducible repeat (first | apply Kd.R_alloc | apply Kd.R_drewN | apply Kd.R_drew)); exact HO270.out))) (below_size (by repeat (first | (with_reducible first | exact HB.out | apply below_alloc | apply pw_below_drewN | apply below_drew1 | refine below_set ?_ GE255.out) | exact HB.out)))); have n6_ := Aside0.mk (Kd.R_lower (Kd.R_new' (Kd.R_new' (Kd.R_new' (Kd.R_new' (Kd.R_new' ho1 (Kd.R_lt (by (with_reducible repeat (first | apply Kd.R_alloc | apply Kd.R_drewN | apply Kd.R_drew)); exact HO254.out))) (Kd.R_lt (by (with_reducible repeat (first | apply Kd.R_alloc | apply Kd.R_drewN | apply Kd.R_drew)); exact HO260.out))) (Kd.R_lt (by (with_reducible repeat (first | apply Kd.R_alloc | apply Kd.R_drewN | apply Kd.R_drew)); exact HO263.out))) (Kd.R_lt (by (with_reducible repeat (first | apply Kd.R_alloc | apply Kd.R_drewN | apply Kd.R_drew)); exact HO267.out))) (Kd.R_lt (by (with_reducible repeat (first | apply Kd.R_alloc | apply Kd.R_drewN | apply Kd.R_drew)); exact HO270.out))) (below_size (by repeat (first | (with_reducible first | exact HB.out | apply below_alloc | apply pw_below_drewN | apply below_drew1 | refine below_set ?_ GE255.out) | exact HB.out)))); have n7_ := Aside0.mk (blk_below (g := gb255) (o := .cells #[.int .i64 t251, .slice Ao15 t252.length co15] 26 (0, 0)) (by (with_reducible repeat (first | refine blk_drewN ?_ _ | refine blk_drew ?_ | refine blk_alloc ?_ _)); exact BK255.out) hb); have n8_ := Aside0.mk (below_step (by repeat (first | (with_reducible first | exact HB.out | apply below_alloc | apply pw_below_drewN | apply below_drew1 | refine below_set ?_ GE255.out) | exact HB.out)) hb); clear HO254; clear HO260; clear HO263; clear HO267; clear HO270; clear BK255; clear HB; have HO254 := n0_; have HO260 := n1_; have HO263 := n2_; have HO267 := n3_; have HO270 := n4_; have HO274 := n5_; have HO277 := n6_; have BK255 := n7_; have HB := n8_; clear n0_ n1_ n2_ n3_ n4_ n5_ n6_ n7_ n8_; (try clear hb); (try clear hb2); (try clear hk); (try clear hi); (try clear ho0); (try clear ho1)))
    (try simp only [Act.put, List.setIfInBounds_toArray, List.set_cons_zero, List.set_cons_succ])
    go_cut [81] (fun v81 wc => ∃ (kq : Nat) (x81_10 : Bool), v81 = .bool x81_10 ∧ Aside0 (laws_FnFeedback.j0 kq (wrap64 (t256 - 3)) (wrap64 ((wrap64 (t256 - 3)) + t257)) t258 t261 t265 t268 t271 x81_10 t251 t252 = some r) ∧ Aside0 (kq ≤ k) ∧ Aside0 (Kd.R (Kd.int .i64) 2 wc w.heap.size (fun k_ => some k_ ≠ (v262 : Value).ownBlock ∧ some k_ ≠ (v266 : Value).ownBlock ∧ some k_ ≠ (v269 : Value).ownBlock ∧ some k_ ≠ ((.slice Ao15 t252.length co15) : Value).ownBlock) v259 t258) ∧ Aside0 (Kd.R (Kd.int .i64) 2 wc w.heap.size (fun k_ => some k_ ≠ (v259 : Value).ownBlock ∧ some k_ ≠ (v266 : Value).ownBlock ∧ some k_ ≠ (v269 : Value).ownBlock ∧ some k_ ≠ ((.slice Ao15 t252.length co15) : Value).ownBlock) v262 t261) ∧ Aside0 (Kd.R (Kd.int .i64) 2 wc w.heap.size (fun k_ => some k_ ≠ (v259 : Value).ownBlock ∧ some k_ ≠ (v262 : Value).ownBlock ∧ some k_ ≠ (v269 : Value).ownBlock ∧ some k_ ≠ ((.slice Ao15 t252.length co15) : Value).ownBlock) v266 t265) ∧ Aside0 (Kd.R (Kd.int .i64) 2 wc w.heap.size (fun k_ => some k_ ≠ (v259 : Value).ownBlock ∧ some k_ ≠ (v262 : Value).ownBlock ∧ some k_ ≠ (v266 : Value).ownBlock ∧ some k_ ≠ ((.slice Ao15 t252.length co15) : Value).ownBlock) v269 t268) ∧ Aside0 (Kd.R (Kd.int .i64) 2 wc w.heap.size (fun k_ => some k_ ≠ (v259 : Value).ownBlock ∧ some k_ ≠ (v262 : Value).ownBlock ∧ some k_ ≠ (v266 : Value).ownBlock ∧ some k_ ≠ (v269 : Value).ownBlock) (.slice Ao15 t252.length co15) t252) ∧ Aside0 (wc.heap[gb255]? = some (.cells #[.int .i64 t251, (.slice Ao15 t252.length co15)] 26 (0, 0))) ∧ Aside0 (Below w.heap.size w wc))
    case first =>
      have H := HC11.out
      clear HC11
      by_cases c21 : t264 = true
      · subst c21
        have H1 : (if (t271 != t278) = true then (laws_FnFeedback.j0 k (wrap64 (t256 - 3)) (wrap64 ((wrap64 (t256 - 3)) + t257)) t258 t261 t265 t268 t271 true t251 t252) else (if (t258.length : Int) = (t252.length : Int) then (laws_FnFeedback.j0 k (wrap64 (t256 - 3)) (wrap64 ((wrap64 (t256 - 3)) + t257)) t258 t261 t265 t268 t271 ((t261.length : Int) != (t252.length : Int)) t251 t252) else (laws_FnFeedback.j0 k (wrap64 (t256 - 3)) (wrap64 ((wrap64 (t256 - 3)) + t257)) t258 t261 t265 t268 t271 true t251 t252))) = some r := by rw [if_pos rfl] at H; exact H
        clear H
        have H := H1
        clear H1
        by_cases c22 : (t271 != t278) = true
        · rw [if_pos c22] at H
          have c22b0 : (t271 != t278) = true := c22
          (try (have c22b1 : decide (t271 = t278) = false := by simpa using c22))
          (try (have c22b2 : (t271 == t278) = false := by simpa using c22))
          (try (have c22b3 : ¬ (t271 = t278) := by simpa using c22))
          clear c22
          (first | rw [c22b0] | (simp only [i64_w, i32_w]; rw [c22b0]) | skip)
          have H' := Aside0.mk H
          clear H
          as_aux_lemma =>
            go_wp2
            go_meet
            case rel => exact ⟨_, (true), (by first | rfl | (simp; done) | (simp [*]; done) | (simp [IntWalk.i64_left, *]; done)), H', ⟨by first | omega | exact Nat.le_refl _⟩, ⟨by (with_reducible repeat (first | apply Kd.R_alloc | apply Kd.R_drewN | apply Kd.R_drew)); exact Kd.R_mono HO260.out (fun _ hk => ⟨hk.1.1.1.1.1, ⟨hk.1.1.1.2, ⟨hk.1.1.2, hk.1.1.1.1.2⟩⟩⟩)⟩, ⟨by (with_reducible repeat (first | apply Kd.R_alloc | apply Kd.R_drewN | apply Kd.R_drew)); exact Kd.R_mono HO263.out (fun _ hk => ⟨hk.1.1.1.1.1, ⟨hk.1.1.1.2, ⟨hk.1.1.2, hk.1.1.1.1.2⟩⟩⟩)⟩, ⟨by (with_reducible repeat (first | apply Kd.R_alloc | apply Kd.R_drewN | apply Kd.R_drew)); exact Kd.R_mono HO267.out (fun _ hk => ⟨hk.1.1.1.2, ⟨hk.1.1.2, ⟨hk.1.1.1.1.1, hk.1.1.1.1.2⟩⟩⟩)⟩, ⟨by (with_reducible repeat (first | apply Kd.R_alloc | apply Kd.R_drewN | apply Kd.R_drew)); exact Kd.R_mono HO270.out (fun _ hk => ⟨hk.1.1.1.2, ⟨hk.1.1.2, ⟨hk.1.1.1.1.1, hk.1.1.1.1.2⟩⟩⟩)⟩, ⟨by (with_reducible repeat (first | apply Kd.R_alloc | apply Kd.R_drewN | apply Kd.R_drew)); exact Kd.R_mono HO254.out (fun _ hk => ⟨hk.1.1.1.1.1.2, ⟨hk.1.1.1.1.2, ⟨hk.1.1.1.2, hk.1.1.2⟩⟩⟩)⟩, ⟨by (with_reducible repeat (first | refine blk_drewN ?_ _ | refine blk_drew ?_ | refine blk_alloc ?_ _)); exact BK255.out⟩, ⟨by repeat (first | (with_reducible first | exact HB.out | apply below_alloc | apply pw_below_drewN | apply below_drew1 | refine below_set ?_ GE255.out) | exact HB.out)⟩⟩
        · rw [if_neg c22] at H
          have c22b0 : (t271 != t278) = false := by simpa using c22
          (try (have c22b1 : decide (t271 = t278) = true := by simpa using c22))
          (try (have c22b2 : (t271 == t278) = true := by simpa using c22))
          clear c22
          (first | rw [c22b0] | (simp only [i64_w, i32_w]; rw [c22b0]) | skip)
          by_cases c23 : (t258.length : Int) = (t252.length : Int)
          · rw [if_pos c23] at H
            have c23b0 : ((t258.length : Int) == (t252.length : Int)) = true := beq_iff_eq.mpr c23
            have c23b1 : ((t258.length : Int) != (t252.length : Int)) = false := bne_eq_false_iff_eq.mpr c23
            have c23b2 : (t258.length == t252.length) = true := by first | simpa using c23 | (simp at c23 ⊢; omega)
            clear c23
            have H' := Aside0.mk H
            clear H
            obtain ⟨Ao24, co24, eo24⟩ := Kd.R_slice HO260.out
            subst eo24
            have hcz25_0 : w20.cell? ⟨gb255, 0, none⟩ = some (.int .i64 t251) := (blk_cell BK255.out 0).trans rfl
            have hcz25_1 : w20.cell? ⟨gb255, 1, none⟩ = some (.slice Ao15 t252.length co15) := (blk_cell BK255.out 1).trans rfl
            have hfz25_0 := blk_frozen BK255.out 0
            have hfz25_1 := blk_frozen BK255.out 1
            obtain ⟨Ao26, co26, eo26⟩ := Kd.R_slice HO263.out
            subst eo26
            as_aux_lemma =>
              go_wp2
              go_meet
              case rel => exact ⟨_, (((t261.length : Int) != (t252.length : Int))), (by first | rfl | (simp; done) | (simp [*]; done) | (simp [IntWalk.i64_left, *]; done)), H', ⟨by first | omega | exact Nat.le_refl _⟩, ⟨by (with_reducible repeat (first | apply Kd.R_alloc | apply Kd.R_drewN | apply Kd.R_drew)); exact Kd.R_mono HO260.out (fun _ hk => ⟨hk.1.1.1.1.1, ⟨hk.1.1.1.2, ⟨hk.1.1.2, hk.1.1.1.1.2⟩⟩⟩)⟩, ⟨by (with_reducible repeat (first | apply Kd.R_alloc | apply Kd.R_drewN | apply Kd.R_drew)); exact Kd.R_mono HO263.out (fun _ hk => ⟨hk.1.1.1.1.1, ⟨hk.1.1.1.2, ⟨hk.1.1.2, hk.1.1.1.1.2⟩⟩⟩)⟩, ⟨by (with_reducible repeat (first | apply Kd.R_alloc | apply Kd.R_drewN | apply Kd.R_drew)); exact Kd.R_mono HO267.out (fun _ hk => ⟨hk.1.1.1.2, ⟨hk.1.1.2, ⟨hk.1.1.1.1.1, hk.1.1.1.1.2⟩⟩⟩)⟩, ⟨by (with_reducible repeat (first | apply Kd.R_alloc | apply Kd.R_drewN | apply Kd.R_drew)); exact Kd.R_mono HO270.out (fun _ hk => ⟨hk.1.1.1.2, ⟨hk.1.1.2, ⟨hk.1.1.1.1.1, hk.1.1.1.1.2⟩⟩⟩)⟩, ⟨by (with_reducible repeat (first | apply Kd.R_alloc | apply Kd.R_drewN | apply Kd.R_drew)); exact Kd.R_mono HO254.out (fun _ hk => ⟨hk.1.1.1.1.1.2, ⟨hk.1.1.1.1.2, ⟨hk.1.1.1.2, hk.1.1.2⟩⟩⟩)⟩, ⟨by (with_reducible repeat (first | refine blk_drewN ?_ _ | refine blk_drew ?_ | refine blk_alloc ?_ _)); exact BK255.out⟩, ⟨by repeat (first | (with_reducible first | exact HB.out | apply below_alloc | apply pw_below_drewN | apply below_drew1 | refine below_set ?_ GE255.out) | exact HB.out)⟩⟩
          · rw [if_neg c23] at H
            have c23b0 : ((t258.length : Int) == (t252.length : Int)) = false := beq_eq_false_iff_ne.mpr c23
            have c23b1 : ((t258.length : Int) != (t252.length : Int)) = true := bne_iff_ne.mpr c23
            have c23b2 : (t258.length == t252.length) = false := by first | simpa using c23 | (simp at c23 ⊢; omega)
            have H' := Aside0.mk H
            clear H
            obtain ⟨Ao27, co27, eo27⟩ := Kd.R_slice HO260.out
            subst eo27
            have hcz28_0 : w20.cell? ⟨gb255, 0, none⟩ = some (.int .i64 t251) := (blk_cell BK255.out 0).trans rfl
            have hcz28_1 : w20.cell? ⟨gb255, 1, none⟩ = some (.slice Ao15 t252.length co15) := (blk_cell BK255.out 1).trans rfl
            have hfz28_0 := blk_frozen BK255.out 0
            have hfz28_1 := blk_frozen BK255.out 1
            as_aux_lemma =>
              go_wp2
              go_meet
              case rel => exact ⟨_, (true), (by first | rfl | (simp; done) | (simp [*]; done) | (simp [IntWalk.i64_left, *]; done)), H', ⟨by first | omega | exact Nat.le_refl _⟩, ⟨by (with_reducible repeat (first | apply Kd.R_alloc | apply Kd.R_drewN | apply Kd.R_drew)); exact Kd.R_mono HO260.out (fun _ hk => ⟨hk.1.1.1.1.1, ⟨hk.1.1.1.2, ⟨hk.1.1.2, hk.1.1.1.1.2⟩⟩⟩)⟩, ⟨by (with_reducible repeat (first | apply Kd.R_alloc | apply Kd.R_drewN | apply Kd.R_drew)); exact Kd.R_mono HO263.out (fun _ hk => ⟨hk.1.1.1.1.1, ⟨hk.1.1.1.2, ⟨hk.1.1.2, hk.1.1.1.1.2⟩⟩⟩)⟩, ⟨by (with_reducible repeat (first | apply Kd.R_alloc | apply Kd.R_drewN | apply Kd.R_drew)); exact Kd.R_mono HO267.out (fun _ hk => ⟨hk.1.1.1.2, ⟨hk.1.1.2, ⟨hk.1.1.1.1.1, hk.1.1.1.1.2⟩⟩⟩)⟩, ⟨by (with_reducible repeat (first | apply Kd.R_alloc | apply Kd.R_drewN | apply Kd.R_drew)); exact Kd.R_mono HO270.out (fun _ hk => ⟨hk.1.1.1.2, ⟨hk.1.1.2, ⟨hk.1.1.1.1.1, hk.1.1.1.1.2⟩⟩⟩)⟩, ⟨by (with_reducible repeat (first | apply Kd.R_alloc | apply Kd.R_drewN | apply Kd.R_drew)); exact Kd.R_mono HO254.out (fun _ hk => ⟨hk.1.1.1.1.1.2, ⟨hk.1.1.1.1.2, ⟨hk.1.1.1.2, hk.1.1.2⟩⟩⟩)⟩, ⟨by (with_reducible repeat (first | refine blk_drewN ?_ _ | refine blk_drew ?_ | refine blk_alloc ?_ _)); exact BK255.out⟩, ⟨by repeat (first | (with_reducible first | exact HB.out | apply below_alloc | apply pw_below_drewN | apply below_drew1 | refine below_set ?_ GE255.out) | exact HB.out)⟩⟩
      · replace c21 := Bool.eq_false_iff.mpr c21
        subst c21
        have H1 : (laws_FnFeedback.j0 k (wrap64 (t256 - 3)) (wrap64 ((wrap64 (t256 - 3)) + t257)) t258 t261 t265 t268 t271 true t251 t252) = some r := by rw [if_neg (show ¬ (false = true) by decide)] at H; exact H
        clear H
        have H := H1
        clear H1
        have H' := Aside0.mk H
        clear H
        as_aux_lemma =>
          go_wp2
          go_meet
          case rel => exact ⟨_, (true), (by first | rfl | (simp; done) | (simp [*]; done) | (simp [IntWalk.i64_left, *]; done)), H', ⟨by first | omega | exact Nat.le_refl _⟩, ⟨by (with_reducible repeat (first | apply Kd.R_alloc | apply Kd.R_drewN | apply Kd.R_drew)); exact Kd.R_mono HO260.out (fun _ hk => ⟨hk.1.1.1.1.1, ⟨hk.1.1.1.2, ⟨hk.1.1.2, hk.1.1.1.1.2⟩⟩⟩)⟩, ⟨by (with_reducible repeat (first | apply Kd.R_alloc | apply Kd.R_drewN | apply Kd.R_drew)); exact Kd.R_mono HO263.out (fun _ hk => ⟨hk.1.1.1.1.1, ⟨hk.1.1.1.2, ⟨hk.1.1.2, hk.1.1.1.1.2⟩⟩⟩)⟩, ⟨by (with_reducible repeat (first | apply Kd.R_alloc | apply Kd.R_drewN | apply Kd.R_drew)); exact Kd.R_mono HO267.out (fun _ hk => ⟨hk.1.1.1.2, ⟨hk.1.1.2, ⟨hk.1.1.1.1.1, hk.1.1.1.1.2⟩⟩⟩)⟩, ⟨by (with_reducible repeat (first | apply Kd.R_alloc | apply Kd.R_drewN | apply Kd.R_drew)); exact Kd.R_mono HO270.out (fun _ hk => ⟨hk.1.1.1.2, ⟨hk.1.1.2, ⟨hk.1.1.1.1.1, hk.1.1.1.1.2⟩⟩⟩)⟩, ⟨by (with_reducible repeat (first | apply Kd.R_alloc | apply Kd.R_drewN | apply Kd.R_drew)); exact Kd.R_mono HO254.out (fun _ hk => ⟨hk.1.1.1.1.1.2, ⟨hk.1.1.1.1.2, ⟨hk.1.1.1.2, hk.1.1.2⟩⟩⟩)⟩, ⟨by (with_reducible repeat (first | refine blk_drewN ?_ _ | refine blk_drew ?_ | refine blk_alloc ?_ _)); exact BK255.out⟩, ⟨by repeat (first | (with_reducible first | exact HB.out | apply below_alloc | apply pw_below_drewN | apply below_drew1 | refine below_set ?_ GE255.out) | exact HB.out)⟩⟩
    case rest =>
      clear HC11
      try clear c1
      try clear c2
      try clear p2
      try clear c3
      try clear c4
      try clear c5
      try clear c6
      try clear p6
      try clear c7
      try clear c8
      try clear c9
      try clear c21
      try clear c22
      try clear c22b0
      try clear c22b1
      try clear c22b2
      try clear c23
      try clear c23b0
      try clear c23b1
      try clear c23b2
      try clear hcz14_0
      try clear hcz14_1
      try clear hcz17_0
      try clear hcz17_1
      try clear hcz19_0
      try clear hcz19_1
      try clear hcz25_0
      try clear hcz25_1
      try clear hcz28_0
      try clear hcz28_1
      try clear hfz14_0
      try clear hfz14_1
      try clear hfz17_0
      try clear hfz17_1
      try clear hfz19_0
      try clear hfz19_1
      try clear hfz25_0
      try clear hfz25_1
      try clear hfz28_0
      try clear hfz28_1
      obtain ⟨kq, x81_10, rfl, HA, HJ10, HO_8, HO_9, HO_11, HO_12, HO_256001, BK255, HB⟩ := hcut
      cases kq with
      | zero => exact absurd HA.out (by simp [laws_FnFeedback.j0])
      | succ kj10 =>
        have H := HA.out
        clear HA
        simp only [laws_FnFeedback.j0] at H
        by_cases c29 : x81_10 = true
        · subst c29
          have H1 : (some false) = some r := by rw [if_pos rfl] at H; exact H
          clear H
          have H := H1
          clear H1
          exact absurd ((Option.some.inj H).trans HT0_.out) (by decide)
        · replace c29 := Bool.eq_false_iff.mpr c29
          subst c29
          have H1 : (laws_FnFeedback.l0 kj10 (wrap64 (t256 - 3)) (wrap64 ((wrap64 (t256 - 3)) + t257)) t258 t261 t265 t268 t271 0 true 0 t251 t252) = some r := by rw [if_neg (show ¬ (false = true) by decide)] at H; exact H
          clear H
          have H := H1
          clear H1
          have H' := Aside0.mk H
          clear H
          go_wp2
          go_loopg [17, 18, 19] kj10 (fun kq v17 v18 v19 w' => ∃ (x17_2 : Int) (x18_2 : Bool) (x19_2 : Int), v17 = .int .i64 x17_2 ∧ v18 = .bool x18_2 ∧ v19 = .int .i64 x19_2 ∧ Aside0 (laws_FnFeedback.l0 kq (wrap64 (t256 - 3)) (wrap64 ((wrap64 (t256 - 3)) + t257)) t258 t261 t265 t268 t271 x17_2 x18_2 x19_2 t251 t252 = some r) ∧ Aside0 (kq ≤ kj10) ∧ Aside0 (Kd.R (Kd.int .i64) 2 w' w.heap.size (fun k_ => some k_ ≠ (v262 : Value).ownBlock ∧ some k_ ≠ (v266 : Value).ownBlock ∧ some k_ ≠ (v269 : Value).ownBlock ∧ some k_ ≠ ((.slice Ao15 t252.length co15) : Value).ownBlock) v259 t258) ∧ Aside0 (Kd.R (Kd.int .i64) 2 w' w.heap.size (fun k_ => some k_ ≠ (v259 : Value).ownBlock ∧ some k_ ≠ (v266 : Value).ownBlock ∧ some k_ ≠ (v269 : Value).ownBlock ∧ some k_ ≠ ((.slice Ao15 t252.length co15) : Value).ownBlock) v262 t261) ∧ Aside0 (Kd.R (Kd.int .i64) 2 w' w.heap.size (fun k_ => some k_ ≠ (v259 : Value).ownBlock ∧ some k_ ≠ (v262 : Value).ownBlock ∧ some k_ ≠ (v269 : Value).ownBlock ∧ some k_ ≠ ((.slice Ao15 t252.length co15) : Value).ownBlock) v266 t265) ∧ Aside0 (Kd.R (Kd.int .i64) 2 w' w.heap.size (fun k_ => some k_ ≠ (v259 : Value).ownBlock ∧ some k_ ≠ (v262 : Value).ownBlock ∧ some k_ ≠ (v266 : Value).ownBlock ∧ some k_ ≠ ((.slice Ao15 t252.length co15) : Value).ownBlock) v269 t268) ∧ Aside0 (Kd.R (Kd.int .i64) 2 w' w.heap.size (fun k_ => some k_ ≠ (v259 : Value).ownBlock ∧ some k_ ≠ (v262 : Value).ownBlock ∧ some k_ ≠ (v266 : Value).ownBlock ∧ some k_ ≠ (v269 : Value).ownBlock) (.slice Ao15 t252.length co15) t252) ∧ Aside0 (w'.heap[gb255]? = some (.cells #[.int .i64 t251, (.slice Ao15 t252.length co15)] 26 (0, 0))) ∧ Aside0 (Below w.heap.size w w'))
          case atStart => exact ⟨(0), (true), (0), (by first | rfl | (simp; done) | (simp [*]; done) | (simp [IntWalk.i64_left, *]; done)), (by first | rfl | (simp; done) | (simp [*]; done) | (simp [IntWalk.i64_left, *]; done)), (by first | rfl | (simp; done) | (simp [*]; done) | (simp [IntWalk.i64_left, *]; done)), H', ⟨Nat.le_refl _⟩, ⟨by (with_reducible repeat (first | apply Kd.R_alloc | apply Kd.R_drewN | apply Kd.R_drew)); exact HO_8.out⟩, ⟨by (with_reducible repeat (first | apply Kd.R_alloc | apply Kd.R_drewN | apply Kd.R_drew)); exact HO_9.out⟩, ⟨by (with_reducible repeat (first | apply Kd.R_alloc | apply Kd.R_drewN | apply Kd.R_drew)); exact HO_11.out⟩, ⟨by (with_reducible repeat (first | apply Kd.R_alloc | apply Kd.R_drewN | apply Kd.R_drew)); exact HO_12.out⟩, ⟨by (with_reducible repeat (first | apply Kd.R_alloc | apply Kd.R_drewN | apply Kd.R_drew)); exact HO_256001.out⟩, ⟨by (with_reducible repeat (first | refine blk_drewN ?_ _ | refine blk_drew ?_ | refine blk_alloc ?_ _)); exact BK255.out⟩, ⟨by repeat (first | (with_reducible first | exact HB.out | apply below_alloc | apply pw_below_drewN | apply below_drew1 | refine below_set ?_ GE255.out) | exact HB.out)⟩⟩
          case round =>
            clear H'
            try clear c1
            try clear c2
            try clear p2
            try clear c3
            try clear c4
            try clear c5
            try clear c6
            try clear p6
            try clear c7
            try clear c8
            try clear c9
            try clear c21
            try clear c22
            try clear c22b0
            try clear c22b1
            try clear c22b2
            try clear c23
            try clear c23b0
            try clear c23b1
            try clear c23b2
            try clear c29
            try clear hcz14_0
            try clear hcz14_1
            try clear hcz17_0
            try clear hcz17_1
            try clear hcz19_0
            try clear hcz19_1
            try clear hcz25_0
            try clear hcz25_1
            try clear hcz28_0
            try clear hcz28_1
            try clear hfz14_0
            try clear hfz14_1
            try clear hfz17_0
            try clear hfz17_1
            try clear hfz19_0
            try clear hfz19_1
            try clear hfz25_0
            try clear hfz25_1
            try clear hfz28_0
            try clear hfz28_1
            try clear p2
            try clear p6
            obtain ⟨x17_2, x18_2, x19_2, rfl, rfl, rfl, HA, HK2, HO_8, HO_9, HO_11, HO_12, HO_256001, BK255, HB⟩ := hrel
            cases gk with
            | zero => exact absurd HA.out (by simp [laws_FnFeedback.l0])
            | succ k2 =>
              have H := HA.out
              clear HA
              simp only [laws_FnFeedback.l0] at H
              by_cases c30 : x19_2 < (t258.length : Int)
              · rw [if_pos c30] at H
                have c30b0 : decide (x19_2 < (t258.length : Int)) = true := decide_eq_true c30
                clear c30
                by_cases c31 : 0 ≤ x19_2
                · rw [if_pos c31] at H
                  have c31b0 : decide (0 ≤ x19_2) = true := decide_eq_true c31
                  clear c31
                  by_cases c32 : x19_2 < (t252.length : Int)
                  · rw [if_pos c32] at H
                    have c32b0 : decide (x19_2 < (t252.length : Int)) = true := decide_eq_true c32
                    clear c32
                    by_cases c33 : x18_2 = true
                    · subst c33
                      have H1 : (if (rd t252 x19_2) ≥ (wrap64 (t251 * (wrap64 (t256 - 3)))) then (if (rd t258 x19_2) < (wrap64 (t256 - 3)) then (some false) else (if (rd t258 x19_2) > (wrap64 ((wrap64 (t256 - 3)) + t257)) then (some false) else (if x19_2 < (t261.length : Int) then (if (wrap64 (x17_2 + (wrap64 ((rd t252 x19_2) - (wrap64 (t251 * (rd t258 x19_2))))))) = (rd t261 x19_2) then (if (rd t252 x19_2) ≤ (wrap64 (t251 * (wrap64 ((wrap64 (t256 - 3)) + t257)))) then ((laws_b10Abs.f (rd t261 x19_2)).bind fun t287 => (if (wrap64 (2 * t287)) > t251 then (some false) else (laws_FnFeedback.l0 k2 (wrap64 (t256 - 3)) (wrap64 ((wrap64 (t256 - 3)) + t257)) t258 t261 t265 t268 t271 (wrap64 (x17_2 + (wrap64 ((rd t252 x19_2) - (wrap64 (t251 * (rd t258 x19_2))))))) (decide ((rd t252 x19_2) ≤ (wrap64 (t251 * (wrap64 ((wrap64 (t256 - 3)) + t257)))))) (wrap64 (x19_2 + 1)) t251 t252))) else (laws_FnFeedback.l0 k2 (wrap64 (t256 - 3)) (wrap64 ((wrap64 (t256 - 3)) + t257)) t258 t261 t265 t268 t271 (wrap64 (x17_2 + (wrap64 ((rd t252 x19_2) - (wrap64 (t251 * (rd t258 x19_2))))))) (decide ((rd t252 x19_2) ≤ (wrap64 (t251 * (wrap64 ((wrap64 (t256 - 3)) + t257)))))) (wrap64 (x19_2 + 1)) t251 t252)) else (some false)) else (none)))) else (if (rd t258 x19_2) < (wrap64 (t256 - 3)) then (some false) else (if (rd t258 x19_2) > (wrap64 ((wrap64 (t256 - 3)) + t257)) then (some false) else (if x19_2 < (t261.length : Int) then (if (wrap64 (x17_2 + (wrap64 ((rd t252 x19_2) - (wrap64 (t251 * (rd t258 x19_2))))))) = (rd t261 x19_2) then (laws_FnFeedback.l0 k2 (wrap64 (t256 - 3)) (wrap64 ((wrap64 (t256 - 3)) + t257)) t258 t261 t265 t268 t271 (wrap64 (x17_2 + (wrap64 ((rd t252 x19_2) - (wrap64 (t251 * (rd t258 x19_2))))))) false (wrap64 (x19_2 + 1)) t251 t252) else (some false)) else (none))))) = some r := by rw [if_pos rfl] at H; exact H
                      clear H
                      have H := H1
                      clear H1
                      by_cases c34 : (rd t252 x19_2) ≥ (wrap64 (t251 * (wrap64 (t256 - 3))))
                      · rw [if_pos c34] at H
                        have c34b0 : decide ((wrap64 (t251 * (wrap64 (t256 - 3)))) ≤ (rd t252 x19_2)) = true := decide_eq_true c34
                        clear c34
                        by_cases c35 : (rd t258 x19_2) < (wrap64 (t256 - 3))
                        · rw [if_pos c35] at H
                          have c35b0 : decide ((rd t258 x19_2) < (wrap64 (t256 - 3))) = true := decide_eq_true c35
                          clear c35
                          exact absurd ((Option.some.inj H).trans HT0_.out) (by decide)
                        · rw [if_neg c35] at H
                          have c35b0 : decide ((rd t258 x19_2) < (wrap64 (t256 - 3))) = false := decide_eq_false c35
                          clear c35
                          by_cases c40 : (rd t258 x19_2) > (wrap64 ((wrap64 (t256 - 3)) + t257))
                          · rw [if_pos c40] at H
                            have c40b0 : decide ((wrap64 ((wrap64 (t256 - 3)) + t257)) < (rd t258 x19_2)) = true := decide_eq_true c40
                            clear c40
                            exact absurd ((Option.some.inj H).trans HT0_.out) (by decide)
                          · rw [if_neg c40] at H
                            have c40b0 : decide ((wrap64 ((wrap64 (t256 - 3)) + t257)) < (rd t258 x19_2)) = false := decide_eq_false c40
                            clear c40
                            by_cases c45 : x19_2 < (t261.length : Int)
                            · rw [if_pos c45] at H
                              have c45b0 : decide (x19_2 < (t261.length : Int)) = true := decide_eq_true c45
                              clear c45
                              by_cases c46 : (wrap64 (x17_2 + (wrap64 ((rd t252 x19_2) - (wrap64 (t251 * (rd t258 x19_2))))))) = (rd t261 x19_2)
                              · rw [if_pos c46] at H
                                have c46b0 : ((wrap64 (x17_2 + (wrap64 ((rd t252 x19_2) - (wrap64 (t251 * (rd t258 x19_2))))))) == (rd t261 x19_2)) = true := beq_iff_eq.mpr c46
                                have c46b1 : ((wrap64 (x17_2 + (wrap64 ((rd t252 x19_2) - (wrap64 (t251 * (rd t258 x19_2))))))) != (rd t261 x19_2)) = false := bne_eq_false_iff_eq.mpr c46
                                clear c46
                                by_cases c47 : (rd t252 x19_2) ≤ (wrap64 (t251 * (wrap64 ((wrap64 (t256 - 3)) + t257))))
                                · rw [if_pos c47] at H
                                  have c47b0 : decide ((rd t252 x19_2) ≤ (wrap64 (t251 * (wrap64 ((wrap64 (t256 - 3)) + t257))))) = true := decide_eq_true c47
                                  clear c47
                                  replace H := Option.bind_eq_some_iff.mp H
                                  obtain ⟨t287, A480, H⟩ := H
                                  replace H : (if (wrap64 (2 * t287)) > t251 then (some false) else (laws_FnFeedback.l0 k2 (wrap64 (t256 - 3)) (wrap64 ((wrap64 (t256 - 3)) + t257)) t258 t261 t265 t268 t271 (wrap64 (x17_2 + (wrap64 ((rd t252 x19_2) - (wrap64 (t251 * (rd t258 x19_2))))))) (decide ((rd t252 x19_2) ≤ (wrap64 (t251 * (wrap64 ((wrap64 (t256 - 3)) + t257)))))) (wrap64 (x19_2 + 1)) t251 t252)) = some r := H
                                  have A48 := Aside0.mk A480
                                  clear A480
                                  by_cases c49 : (wrap64 (2 * t287)) > t251
                                  · rw [if_pos c49] at H
                                    have c49b0 : decide (t251 < (wrap64 (2 * t287))) = true := decide_eq_true c49
                                    clear c49
                                    exact absurd ((Option.some.inj H).trans HT0_.out) (by decide)
                                  · rw [if_neg c49] at H
                                    have c49b0 : decide (t251 < (wrap64 (2 * t287))) = false := decide_eq_false c49
                                    clear c49
                                    have H' := Aside0.mk H
                                    clear H
                                    obtain ⟨Ao55, co55, eo55⟩ := Kd.R_slice HO_8.out
                                    subst eo55
                                    try go_wp2
                                    have n0_ := Aside0.mk (Kd.R_drew HO_8.out)
                                    have n1_ := Aside0.mk (Kd.R_drew HO_9.out)
                                    have n2_ := Aside0.mk (Kd.R_drew HO_11.out)
                                    have n3_ := Aside0.mk (Kd.R_drew HO_12.out)
                                    have n4_ := Aside0.mk (Kd.R_drew HO_256001.out)
                                    have n5_ := Aside0.mk (blk_drew BK255.out)
                                    have n6_ := Aside0.mk (below_drew1 HB.out)
                                    clear HO_8
                                    clear HO_9
                                    clear HO_11
                                    clear HO_12
                                    clear HO_256001
                                    clear BK255
                                    clear HB
                                    have HO_8 := n0_
                                    have HO_9 := n1_
                                    have HO_11 := n2_
                                    have HO_12 := n3_
                                    have HO_256001 := n4_
                                    have BK255 := n5_
                                    have HB := n6_
                                    clear n0_ n1_ n2_ n3_ n4_ n5_ n6_
                                    have p279 : 0 ≤ (x19_2 : Int) := of_decide_eq_true (by first | (with_reducible assumption) | assumption)
                                    have q279 : x19_2 < (t252.length : Int) := of_decide_eq_true (by first | (with_reducible assumption) | assumption)
                                    (try (obtain ⟨Aqad279, cqad279, eqad279⟩ := Kd.R_slice HO_256001.out; subst eqad279))
                                    obtain ⟨ad279, e279, hx279_0⟩ := Kd.at_int (Kd.R_reads' HO_256001.out).2.2 x19_2 p279 q279
                                    cases e279
                                    replace p279 := eq_true p279
                                    replace q279 := eq_true q279
                                    have p280 : 0 ≤ (x19_2 : Int) := of_decide_eq_true (by first | (with_reducible assumption) | assumption)
                                    have q280 : x19_2 < (t258.length : Int) := of_decide_eq_true (by first | (with_reducible assumption) | assumption)
                                    (try (obtain ⟨Aqad280, cqad280, eqad280⟩ := Kd.R_slice HO_8.out; subst eqad280))
                                    obtain ⟨ad280, e280, hx280_0⟩ := Kd.at_int (Kd.R_reads' HO_8.out).2.2 x19_2 p280 q280
                                    cases e280
                                    replace p280 := eq_true p280
                                    replace q280 := eq_true q280
                                    refine start_ (n := 16) (S := fun w' => w'.cell? ⟨gb255, 0, none⟩ = some (.int .i64 t251) ∧ w'.cell? ⟨gb255, 1, none⟩ = some (.slice (some ad279) t252.length co15) ∧ w'.cell? (ad279.add (x19_2).toNat) = some (.int .i64 (rd t252 x19_2)) ∧ w'.cell? (ad280.add (x19_2).toNat) = some (.int .i64 (rd t258 x19_2))) (ds := []) #[false, false, false, false, false, false, false, false, false, false, false, false, false, false, false, false] (by kernel_rfl) rfl rfl ⟨(blk_cell BK255.out 0).trans rfl, (blk_cell BK255.out 1).trans rfl, hx279_0, hx280_0⟩ (fun hHeld => ?_); refine with_tabW laws_FnFeedback.tab16 laws_FnFeedback.bits16 (fun HT_ HW_ => ?_)
                                    generalize wr.drew = w56 at HO_8 HO_9 HO_11 HO_12 HO_256001 BK255 HB hx279_0 hx280_0 hHeld ⊢
                                    refine pI 16 0 88 1 HT_.out ?_
                                    refine pI 16 1 89 3 HT_.out ?_
                                    refine pI 16 3 91 11 HT_.out ?_
                                    refine pI 16 6 94 75 HT_.out ?_
                                    refine pI 16 8 96 331 HT_.out ?_
                                    refine pI 16 9 97 843 HT_.out ?_
                                    refine pI 16 10 98 1867 HT_.out ?_
                                    refine tI4 16 2 90 1871 HT_.out HW_.out hHeld ?_
                                    refine pI 16 4 92 1887 HT_.out ?_
                                    refine tI4 16 5 93 1919 HT_.out HW_.out hHeld ?_
                                    refine tI4 16 7 95 2047 HT_.out HW_.out hHeld ?_
                                    refine tI4 16 11 99 4095 HT_.out HW_.out hHeld ?_
                                    refine pI 16 12 100 8191 HT_.out ?_
                                    refine pI 16 13 101 16383 HT_.out ?_
                                    refine pI 16 14 102 32767 HT_.out ?_
                                    refine pI 16 15 17 65535 HT_.out ?_
                                    refine done_ (done_of HT_.out (by kernel_rfl)) ?_
                                    try go_wp2
                                    have n0_ := Aside0.mk (Kd.R_drew HO_8.out)
                                    have n1_ := Aside0.mk (Kd.R_drew HO_9.out)
                                    have n2_ := Aside0.mk (Kd.R_drew HO_11.out)
                                    have n3_ := Aside0.mk (Kd.R_drew HO_12.out)
                                    have n4_ := Aside0.mk (Kd.R_drew HO_256001.out)
                                    have n5_ := Aside0.mk (blk_drew BK255.out)
                                    have n6_ := Aside0.mk (below_drew1 HB.out)
                                    clear HO_8
                                    clear HO_9
                                    clear HO_11
                                    clear HO_12
                                    clear HO_256001
                                    clear BK255
                                    clear HB
                                    have HO_8 := n0_
                                    have HO_9 := n1_
                                    have HO_11 := n2_
                                    have HO_12 := n3_
                                    have HO_256001 := n4_
                                    have BK255 := n5_
                                    have HB := n6_
                                    clear n0_ n1_ n2_ n3_ n4_ n5_ n6_
                                    have p281 : 0 ≤ (x19_2 : Int) := of_decide_eq_true (by first | (with_reducible assumption) | assumption)
                                    have q281 : x19_2 < (t252.length : Int) := of_decide_eq_true (by first | (with_reducible assumption) | assumption)
                                    (try (obtain ⟨Aqad281, cqad281, eqad281⟩ := Kd.R_slice HO_256001.out; subst eqad281))
                                    obtain ⟨ad281, e281, hx281_0⟩ := Kd.at_int (Kd.R_reads' HO_256001.out).2.2 x19_2 p281 q281
                                    obtain rfl : ad279 = ad281 := (by injection e281)
                                    replace p281 := eq_true p281
                                    replace q281 := eq_true q281
                                    have p282 : 0 ≤ (x19_2 : Int) := of_decide_eq_true (by first | (with_reducible assumption) | assumption)
                                    have q282 : x19_2 < (t252.length : Int) := of_decide_eq_true (by first | (with_reducible assumption) | assumption)
                                    (try (obtain ⟨Aqad282, cqad282, eqad282⟩ := Kd.R_slice HO_256001.out; subst eqad282))
                                    obtain ⟨ad282, e282, hx282_0⟩ := Kd.at_int (Kd.R_reads' HO_256001.out).2.2 x19_2 p282 q282
                                    obtain rfl : ad279 = ad282 := (by injection e282)
                                    replace p282 := eq_true p282
                                    replace q282 := eq_true q282
                                    refine start_ (n := 26) (S := fun w' => w'.cell? ⟨gb255, 0, none⟩ = some (.int .i64 t251) ∧ w'.cell? ⟨gb255, 1, none⟩ = some (.slice (some ad279) t252.length co15) ∧ w'.cell? (ad279.add (x19_2).toNat) = some (.int .i64 (rd t252 x19_2)) ∧ w'.cell? (ad279.add (x19_2).toNat) = some (.int .i64 (rd t252 x19_2))) (ds := []) #[false, false, false, false, false, false, false, false, false, false, false, false, false, false, false, false, false, false, false, false, false, false, false, false, false, false] (by kernel_rfl) rfl rfl ⟨(blk_cell BK255.out 0).trans rfl, (blk_cell BK255.out 1).trans rfl, hx281_0, hx282_0⟩ (fun hHeld => ?_); refine with_tabW laws_FnFeedback.tab17 laws_FnFeedback.bits17 (fun HT_ HW_ => ?_)
                                    generalize w56.drew = w57 at HO_8 HO_9 HO_11 HO_12 HO_256001 BK255 HB hx281_0 hx282_0 hHeld ⊢
                                    refine pI 26 0 103 1 HT_.out ?_
                                    refine pI 26 1 104 3 HT_.out ?_
                                    refine pI 26 2 105 7 HT_.out ?_
                                    refine pI 26 4 107 23 HT_.out ?_
                                    refine pI 26 7 110 151 HT_.out ?_
                                    refine pI 26 9 112 663 HT_.out ?_
                                    refine tI4 26 3 106 671 HT_.out HW_.out hHeld ?_
                                    refine pI 26 5 108 703 HT_.out ?_
                                    refine tI4 26 6 109 767 HT_.out HW_.out hHeld ?_
                                    refine tI4 26 8 111 1023 HT_.out HW_.out hHeld ?_
                                    refine pI 26 10 113 2047 HT_.out ?_
                                    refine pI 26 11 114 4095 HT_.out ?_
                                    refine pI 26 12 115 8191 HT_.out ?_
                                    refine pI 26 13 116 16383 HT_.out ?_
                                    refine pI 26 14 117 32767 HT_.out ?_
                                    refine pI 26 16 119 98303 HT_.out ?_
                                    refine pI 26 19 122 622591 HT_.out ?_
                                    refine pI 26 21 124 2719743 HT_.out ?_
                                    refine tI4 26 15 118 2752511 HT_.out HW_.out hHeld ?_
                                    refine pI 26 17 120 2883583 HT_.out ?_
                                    refine tI4 26 18 121 3145727 HT_.out HW_.out hHeld ?_
                                    refine tI4 26 20 123 4194303 HT_.out HW_.out hHeld ?_
                                    refine pI 26 22 125 8388607 HT_.out ?_
                                    refine pI 26 23 126 16777215 HT_.out ?_
                                    refine pI 26 24 127 33554431 HT_.out ?_
                                    refine pI 26 25 18 67108863 HT_.out ?_
                                    refine done_ (done_of HT_.out (by kernel_rfl)) ?_
                                    try go_wp2
                                    have n0_ := Aside0.mk (Kd.R_drew HO_8.out)
                                    have n1_ := Aside0.mk (Kd.R_drew HO_9.out)
                                    have n2_ := Aside0.mk (Kd.R_drew HO_11.out)
                                    have n3_ := Aside0.mk (Kd.R_drew HO_12.out)
                                    have n4_ := Aside0.mk (Kd.R_drew HO_256001.out)
                                    have n5_ := Aside0.mk (blk_drew BK255.out)
                                    have n6_ := Aside0.mk (below_drew1 HB.out)
                                    clear HO_8
                                    clear HO_9
                                    clear HO_11
                                    clear HO_12
                                    clear HO_256001
                                    clear BK255
                                    clear HB
                                    have HO_8 := n0_
                                    have HO_9 := n1_
                                    have HO_11 := n2_
                                    have HO_12 := n3_
                                    have HO_256001 := n4_
                                    have BK255 := n5_
                                    have HB := n6_
                                    clear n0_ n1_ n2_ n3_ n4_ n5_ n6_
                                    have p283 : 0 ≤ (x19_2 : Int) := of_decide_eq_true (by first | (with_reducible assumption) | assumption)
                                    have q283 : x19_2 < (t258.length : Int) := of_decide_eq_true (by first | (with_reducible assumption) | assumption)
                                    (try (obtain ⟨Aqad283, cqad283, eqad283⟩ := Kd.R_slice HO_8.out; subst eqad283))
                                    obtain ⟨ad283, e283, hx283_0⟩ := Kd.at_int (Kd.R_reads' HO_8.out).2.2 x19_2 p283 q283
                                    obtain rfl : ad280 = ad283 := (by injection e283)
                                    replace p283 := eq_true p283
                                    replace q283 := eq_true q283
                                    have p284 : 0 ≤ (x19_2 : Int) := of_decide_eq_true (by first | (with_reducible assumption) | assumption)
                                    have q284 : x19_2 < (t258.length : Int) := of_decide_eq_true (by first | (with_reducible assumption) | assumption)
                                    (try (obtain ⟨Aqad284, cqad284, eqad284⟩ := Kd.R_slice HO_8.out; subst eqad284))
                                    obtain ⟨ad284, e284, hx284_0⟩ := Kd.at_int (Kd.R_reads' HO_8.out).2.2 x19_2 p284 q284
                                    obtain rfl : ad280 = ad284 := (by injection e284)
                                    replace p284 := eq_true p284
                                    replace q284 := eq_true q284
                                    obtain ⟨Ao59, co59, eo59⟩ := Kd.R_slice HO_9.out
                                    (first | subst eo59 | (injection eo59 with f1_ f2_ f3_; have f4_ := f1_.symm; have f5_ := f3_.symm; clear f1_ f2_ f3_; subst f4_; subst f5_))
                                    have p285 : 0 ≤ (x19_2 : Int) := of_decide_eq_true (by first | (with_reducible assumption) | assumption)
                                    have q285 : x19_2 < (t261.length : Int) := of_decide_eq_true (by first | (with_reducible assumption) | assumption)
                                    (try (obtain ⟨Aqad285, cqad285, eqad285⟩ := Kd.R_slice HO_9.out; subst eqad285))
                                    obtain ⟨ad285, e285, hx285_0⟩ := Kd.at_int (Kd.R_reads' HO_9.out).2.2 x19_2 p285 q285
                                    cases e285
                                    replace p285 := eq_true p285
                                    replace q285 := eq_true q285
                                    have p286 : 0 ≤ (x19_2 : Int) := of_decide_eq_true (by first | (with_reducible assumption) | assumption)
                                    have q286 : x19_2 < (t261.length : Int) := of_decide_eq_true (by first | (with_reducible assumption) | assumption)
                                    (try (obtain ⟨Aqad286, cqad286, eqad286⟩ := Kd.R_slice HO_9.out; subst eqad286))
                                    obtain ⟨ad286, e286, hx286_0⟩ := Kd.at_int (Kd.R_reads' HO_9.out).2.2 x19_2 p286 q286
                                    obtain rfl : ad285 = ad286 := (by injection e286)
                                    replace p286 := eq_true p286
                                    replace q286 := eq_true q286
                                    refine start_ (n := 36) (S := fun w' => w'.cell? ⟨gb255, 0, none⟩ = some (.int .i64 t251) ∧ w'.cell? ⟨gb255, 1, none⟩ = some (.slice (some ad279) t252.length co15) ∧ w'.cell? (ad280.add (x19_2).toNat) = some (.int .i64 (rd t258 x19_2)) ∧ w'.cell? (ad280.add (x19_2).toNat) = some (.int .i64 (rd t258 x19_2)) ∧ w'.cell? (ad285.add (x19_2).toNat) = some (.int .i64 (rd t261 x19_2)) ∧ w'.cell? (ad285.add (x19_2).toNat) = some (.int .i64 (rd t261 x19_2))) (ds := []) #[false, false, false, false, false, false, false, false, false, false, false, false, false, false, false, false, false, false, false, false, false, false, false, false, false, false, false, false, false, false, false, false, false, false, false, false] (by kernel_rfl) rfl rfl ⟨(blk_cell BK255.out 0).trans rfl, (blk_cell BK255.out 1).trans rfl, hx283_0, hx284_0, hx285_0, hx286_0⟩ (fun hHeld => ?_); refine with_tabW laws_FnFeedback.tab18 laws_FnFeedback.bits18 (fun HT_ HW_ => ?_)
                                    generalize w57.drew = w58 at HO_8 HO_9 HO_11 HO_12 HO_256001 BK255 HB hx283_0 hx284_0 hx285_0 hx286_0 hHeld ⊢
                                    refine pI 36 0 128 1 HT_.out ?_
                                    refine pI 36 1 129 3 HT_.out ?_
                                    refine pI 36 2 130 7 HT_.out ?_
                                    refine pI 36 4 132 23 HT_.out ?_
                                    refine tI6 36 3 131 31 HT_.out HW_.out hHeld ?_
                                    refine pI 36 5 133 63 HT_.out ?_
                                    refine pI 36 6 134 127 HT_.out ?_
                                    refine pI 36 7 135 255 HT_.out ?_
                                    refine pI 36 8 136 511 HT_.out ?_
                                    refine pI 36 9 137 1023 HT_.out ?_
                                    refine pI 36 11 139 3071 HT_.out ?_
                                    refine tI6 36 10 138 4095 HT_.out HW_.out hHeld ?_
                                    refine pI 36 12 140 8191 HT_.out ?_
                                    refine pI 36 13 141 16383 HT_.out ?_
                                    refine pI 36 14 142 32767 HT_.out ?_
                                    refine pI 36 15 143 65535 HT_.out ?_
                                    refine pI 36 16 144 131071 HT_.out ?_
                                    refine pI 36 17 145 262143 HT_.out ?_
                                    refine pI 36 18 146 524287 HT_.out ?_
                                    refine tI6 36 19 147 1048575 HT_.out HW_.out hHeld ?_
                                    refine pI 36 20 148 2097151 HT_.out ?_
                                    refine pI 36 21 149 4194303 HT_.out ?_
                                    refine pI 36 22 150 8388607 HT_.out ?_
                                    refine pI 36 23 151 16777215 HT_.out ?_
                                    refine pI 36 24 152 33554431 HT_.out ?_
                                    refine pI 36 25 153 67108863 HT_.out ?_
                                    refine pI 36 26 154 134217727 HT_.out ?_
                                    refine pI 36 27 155 268435455 HT_.out ?_
                                    refine pI 36 31 159 2415919103 HT_.out ?_
                                    refine tI6 36 28 156 2684354559 HT_.out HW_.out hHeld ?_
                                    refine tI6 36 32 160 6979321855 HT_.out HW_.out hHeld ?_
                                    refine one_ (i := 29) (N := some 157) #[true, true, true, true, true, true, true, true, true, true, true, true, true, true, true, true, true, true, true, true, true, true, true, true, true, true, true, true, true, true, false, true, true, false, false, false] rfl rfl (one_of HT_.out (by kernel_rfl)) (by decide) (fun K hK => ?_)
                                    refine goes_ Try.func10 (by kernel_rfl) rfl #[.int .i64 (rd t261 x19_2)] (by rfl) rfl rfl (by (try simp only [List.map_toArray, List.map_cons, List.map_nil]); first | done | rfl | (simp only [List.length_drop, List.length_take]; rfl)) ?_
                                    with_reducible refine (laws_b10Abs.calls (rd t261 x19_2) t287 _ A48.out).mono ?_
                                    rintro e w' ⟨rfl, ⟨nd, rfl⟩⟩
                                    refine ⟨_, rfl, ?_⟩
                                    refine hK.out _ _ ⟨(blk_cell BK255.out 0).trans rfl, (blk_cell BK255.out 1).trans rfl, hHeld.2.2.1, hHeld.2.2.2.1, hHeld.2.2.2.2.1, hHeld.2.2.2.2.2⟩ (fun hHeld => ?_)
                                    clear hK K
                                    refine norm_ (a' := ?_) ?_ ?_
                                    rotate_left
                                    · show Act.put _ (some 157) _ = _
                                      simp only [Act.put, List.setIfInBounds_toArray, List.set_cons_zero, List.set_cons_succ, i64_w, i32_w]
                                      rfl
                                    refine pI 36 30 158 8589934591 HT_.out ?_
                                    refine pI 36 33 161 17179869183 HT_.out ?_
                                    refine pI 36 34 162 34359738367 HT_.out ?_
                                    refine pI 36 35 163 68719476735 HT_.out ?_
                                    refine done_ (done_of HT_.out (by kernel_rfl)) ?_
                                    try go_wp2
                                    go_roundg k2
                                    case measure => have := HJ10.out; have := HK2.out; omega
                                    case rel => exact ⟨(wrap64 (x17_2 + (wrap64 ((rd t252 x19_2) - (wrap64 (t251 * (rd t258 x19_2))))))), (decide ((rd t252 x19_2) ≤ (wrap64 (t251 * (wrap64 ((wrap64 (t256 - 3)) + t257)))))), (wrap64 (x19_2 + 1)), (by first | rfl | (simp; done) | (simp [*]; done) | (simp [IntWalk.i64_left, *]; done)), (by first | rfl | (simp; done) | (simp [*]; done) | (simp [IntWalk.i64_left, *]; done)), (by first | rfl | (simp; done) | (simp [*]; done) | (simp [IntWalk.i64_left, *]; done)), H', ⟨by have := HJ10.out; have := HK2.out; omega⟩, ⟨by (with_reducible repeat (first | apply Kd.R_alloc | apply Kd.R_drewN | apply Kd.R_drew)); exact HO_8.out⟩, ⟨by (with_reducible repeat (first | apply Kd.R_alloc | apply Kd.R_drewN | apply Kd.R_drew)); exact HO_9.out⟩, ⟨by (with_reducible repeat (first | apply Kd.R_alloc | apply Kd.R_drewN | apply Kd.R_drew)); exact HO_11.out⟩, ⟨by (with_reducible repeat (first | apply Kd.R_alloc | apply Kd.R_drewN | apply Kd.R_drew)); exact HO_12.out⟩, ⟨by (with_reducible repeat (first | apply Kd.R_alloc | apply Kd.R_drewN | apply Kd.R_drew)); exact HO_256001.out⟩, ⟨by (with_reducible repeat (first | refine blk_drewN ?_ _ | refine blk_drew ?_ | refine blk_alloc ?_ _)); exact BK255.out⟩, ⟨by repeat (first | (with_reducible first | exact HB.out | apply below_alloc | apply pw_below_drewN | apply below_drew1 | refine below_set ?_ GE255.out) | exact HB.out)⟩⟩
                                · rw [if_neg c47] at H
                                  have c47b0 : decide ((rd t252 x19_2) ≤ (wrap64 (t251 * (wrap64 ((wrap64 (t256 - 3)) + t257))))) = false := decide_eq_false c47
                                  clear c47
                                  have H' := Aside0.mk H
                                  clear H
                                  obtain ⟨Ao60, co60, eo60⟩ := Kd.R_slice HO_8.out
                                  subst eo60
                                  try go_wp2
                                  have n0_ := Aside0.mk (Kd.R_drew HO_8.out)
                                  have n1_ := Aside0.mk (Kd.R_drew HO_9.out)
                                  have n2_ := Aside0.mk (Kd.R_drew HO_11.out)
                                  have n3_ := Aside0.mk (Kd.R_drew HO_12.out)
                                  have n4_ := Aside0.mk (Kd.R_drew HO_256001.out)
                                  have n5_ := Aside0.mk (blk_drew BK255.out)
                                  have n6_ := Aside0.mk (below_drew1 HB.out)
                                  clear HO_8
                                  clear HO_9
                                  clear HO_11
                                  clear HO_12
                                  clear HO_256001
                                  clear BK255
                                  clear HB
                                  have HO_8 := n0_
                                  have HO_9 := n1_
                                  have HO_11 := n2_
                                  have HO_12 := n3_
                                  have HO_256001 := n4_
                                  have BK255 := n5_
                                  have HB := n6_
                                  clear n0_ n1_ n2_ n3_ n4_ n5_ n6_
                                  have p279 : 0 ≤ (x19_2 : Int) := of_decide_eq_true (by first | (with_reducible assumption) | assumption)
                                  have q279 : x19_2 < (t252.length : Int) := of_decide_eq_true (by first | (with_reducible assumption) | assumption)
                                  (try (obtain ⟨Aqad279, cqad279, eqad279⟩ := Kd.R_slice HO_256001.out; subst eqad279))
                                  obtain ⟨ad279, e279, hx279_0⟩ := Kd.at_int (Kd.R_reads' HO_256001.out).2.2 x19_2 p279 q279
                                  cases e279
                                  replace p279 := eq_true p279
                                  replace q279 := eq_true q279
                                  have p280 : 0 ≤ (x19_2 : Int) := of_decide_eq_true (by first | (with_reducible assumption) | assumption)
                                  have q280 : x19_2 < (t258.length : Int) := of_decide_eq_true (by first | (with_reducible assumption) | assumption)
                                  (try (obtain ⟨Aqad280, cqad280, eqad280⟩ := Kd.R_slice HO_8.out; subst eqad280))
                                  obtain ⟨ad280, e280, hx280_0⟩ := Kd.at_int (Kd.R_reads' HO_8.out).2.2 x19_2 p280 q280
                                  cases e280
                                  replace p280 := eq_true p280
                                  replace q280 := eq_true q280
                                  as_aux_lemma =>
                                   refine start_ (n := 16) (S := fun w' => w'.cell? ⟨gb255, 0, none⟩ = some (.int .i64 t251) ∧ w'.cell? ⟨gb255, 1, none⟩ = some (.slice (some ad279) t252.length co15) ∧ w'.cell? (ad279.add (x19_2).toNat) = some (.int .i64 (rd t252 x19_2)) ∧ w'.cell? (ad280.add (x19_2).toNat) = some (.int .i64 (rd t258 x19_2))) (ds := []) #[false, false, false, false, false, false, false, false, false, false, false, false, false, false, false, false] (by kernel_rfl) rfl rfl ⟨(blk_cell BK255.out 0).trans rfl, (blk_cell BK255.out 1).trans rfl, hx279_0, hx280_0⟩ (fun hHeld => ?_); refine with_tabW laws_FnFeedback.tab16 laws_FnFeedback.bits16 (fun HT_ HW_ => ?_)
                                   generalize wr.drew = w61 at HO_8 HO_9 HO_11 HO_12 HO_256001 BK255 HB hx279_0 hx280_0 hHeld ⊢
                                   refine pI 16 0 88 1 HT_.out ?_
                                   refine pI 16 1 89 3 HT_.out ?_
                                   refine pI 16 3 91 11 HT_.out ?_
                                   refine pI 16 6 94 75 HT_.out ?_
                                   refine pI 16 8 96 331 HT_.out ?_
                                   refine pI 16 9 97 843 HT_.out ?_
                                   refine pI 16 10 98 1867 HT_.out ?_
                                   refine tI4 16 2 90 1871 HT_.out HW_.out hHeld ?_
                                   refine pI 16 4 92 1887 HT_.out ?_
                                   refine tI4 16 5 93 1919 HT_.out HW_.out hHeld ?_
                                   refine tI4 16 7 95 2047 HT_.out HW_.out hHeld ?_
                                   refine tI4 16 11 99 4095 HT_.out HW_.out hHeld ?_
                                   refine pI 16 12 100 8191 HT_.out ?_
                                   refine pI 16 13 101 16383 HT_.out ?_
                                   refine pI 16 14 102 32767 HT_.out ?_
                                   refine pI 16 15 17 65535 HT_.out ?_
                                   refine done_ (done_of HT_.out (by kernel_rfl)) ?_
                                   try go_wp2
                                   have n0_ := Aside0.mk (Kd.R_drew HO_8.out)
                                   have n1_ := Aside0.mk (Kd.R_drew HO_9.out)
                                   have n2_ := Aside0.mk (Kd.R_drew HO_11.out)
                                   have n3_ := Aside0.mk (Kd.R_drew HO_12.out)
                                   have n4_ := Aside0.mk (Kd.R_drew HO_256001.out)
                                   have n5_ := Aside0.mk (blk_drew BK255.out)
                                   have n6_ := Aside0.mk (below_drew1 HB.out)
                                   clear HO_8
                                   clear HO_9
                                   clear HO_11
                                   clear HO_12
                                   clear HO_256001
                                   clear BK255
                                   clear HB
                                   have HO_8 := n0_
                                   have HO_9 := n1_
                                   have HO_11 := n2_
                                   have HO_12 := n3_
                                   have HO_256001 := n4_
                                   have BK255 := n5_
                                   have HB := n6_
                                   clear n0_ n1_ n2_ n3_ n4_ n5_ n6_
                                   have p281 : 0 ≤ (x19_2 : Int) := of_decide_eq_true (by first | (with_reducible assumption) | assumption)
                                   have q281 : x19_2 < (t252.length : Int) := of_decide_eq_true (by first | (with_reducible assumption) | assumption)
                                   (try (obtain ⟨Aqad281, cqad281, eqad281⟩ := Kd.R_slice HO_256001.out; subst eqad281))
                                   obtain ⟨ad281, e281, hx281_0⟩ := Kd.at_int (Kd.R_reads' HO_256001.out).2.2 x19_2 p281 q281
                                   obtain rfl : ad279 = ad281 := (by injection e281)
                                   replace p281 := eq_true p281
                                   replace q281 := eq_true q281
                                   have p282 : 0 ≤ (x19_2 : Int) := of_decide_eq_true (by first | (with_reducible assumption) | assumption)
                                   have q282 : x19_2 < (t252.length : Int) := of_decide_eq_true (by first | (with_reducible assumption) | assumption)
                                   (try (obtain ⟨Aqad282, cqad282, eqad282⟩ := Kd.R_slice HO_256001.out; subst eqad282))
                                   obtain ⟨ad282, e282, hx282_0⟩ := Kd.at_int (Kd.R_reads' HO_256001.out).2.2 x19_2 p282 q282
                                   obtain rfl : ad279 = ad282 := (by injection e282)
                                   replace p282 := eq_true p282
                                   replace q282 := eq_true q282
                                   as_aux_lemma =>
                                    refine start_ (n := 26) (S := fun w' => w'.cell? ⟨gb255, 0, none⟩ = some (.int .i64 t251) ∧ w'.cell? ⟨gb255, 1, none⟩ = some (.slice (some ad279) t252.length co15) ∧ w'.cell? (ad279.add (x19_2).toNat) = some (.int .i64 (rd t252 x19_2)) ∧ w'.cell? (ad279.add (x19_2).toNat) = some (.int .i64 (rd t252 x19_2))) (ds := []) #[false, false, false, false, false, false, false, false, false, false, false, false, false, false, false, false, false, false, false, false, false, false, false, false, false, false] (by kernel_rfl) rfl rfl ⟨(blk_cell BK255.out 0).trans rfl, (blk_cell BK255.out 1).trans rfl, hx281_0, hx282_0⟩ (fun hHeld => ?_); refine with_tabW laws_FnFeedback.tab17 laws_FnFeedback.bits17 (fun HT_ HW_ => ?_)
                                    generalize w61.drew = w62 at HO_8 HO_9 HO_11 HO_12 HO_256001 BK255 HB hx281_0 hx282_0 hHeld ⊢
                                    refine pI 26 0 103 1 HT_.out ?_
                                    refine pI 26 1 104 3 HT_.out ?_
                                    refine pI 26 2 105 7 HT_.out ?_
                                    refine pI 26 4 107 23 HT_.out ?_
                                    refine pI 26 7 110 151 HT_.out ?_
                                    refine pI 26 9 112 663 HT_.out ?_
                                    refine tI4 26 3 106 671 HT_.out HW_.out hHeld ?_
                                    refine pI 26 5 108 703 HT_.out ?_
                                    refine tI4 26 6 109 767 HT_.out HW_.out hHeld ?_
                                    refine tI4 26 8 111 1023 HT_.out HW_.out hHeld ?_
                                    refine pI 26 10 113 2047 HT_.out ?_
                                    refine pI 26 11 114 4095 HT_.out ?_
                                    refine pI 26 12 115 8191 HT_.out ?_
                                    refine pI 26 13 116 16383 HT_.out ?_
                                    refine pI 26 14 117 32767 HT_.out ?_
                                    refine pI 26 16 119 98303 HT_.out ?_
                                    refine pI 26 19 122 622591 HT_.out ?_
                                    refine pI 26 21 124 2719743 HT_.out ?_
                                    refine tI4 26 15 118 2752511 HT_.out HW_.out hHeld ?_
                                    refine pI 26 17 120 2883583 HT_.out ?_
                                    refine tI4 26 18 121 3145727 HT_.out HW_.out hHeld ?_
                                    refine tI4 26 20 123 4194303 HT_.out HW_.out hHeld ?_
                                    refine pI 26 22 125 8388607 HT_.out ?_
                                    refine pI 26 23 126 16777215 HT_.out ?_
                                    refine pI 26 24 127 33554431 HT_.out ?_
                                    refine pI 26 25 18 67108863 HT_.out ?_
                                    refine done_ (done_of HT_.out (by kernel_rfl)) ?_
                                    try go_wp2
                                    have n0_ := Aside0.mk (Kd.R_drew HO_8.out)
                                    have n1_ := Aside0.mk (Kd.R_drew HO_9.out)
                                    have n2_ := Aside0.mk (Kd.R_drew HO_11.out)
                                    have n3_ := Aside0.mk (Kd.R_drew HO_12.out)
                                    have n4_ := Aside0.mk (Kd.R_drew HO_256001.out)
                                    have n5_ := Aside0.mk (blk_drew BK255.out)
                                    have n6_ := Aside0.mk (below_drew1 HB.out)
                                    clear HO_8
                                    clear HO_9
                                    clear HO_11
                                    clear HO_12
                                    clear HO_256001
                                    clear BK255
                                    clear HB
                                    have HO_8 := n0_
                                    have HO_9 := n1_
                                    have HO_11 := n2_
                                    have HO_12 := n3_
                                    have HO_256001 := n4_
                                    have BK255 := n5_
                                    have HB := n6_
                                    clear n0_ n1_ n2_ n3_ n4_ n5_ n6_
                                    have p283 : 0 ≤ (x19_2 : Int) := of_decide_eq_true (by first | (with_reducible assumption) | assumption)
                                    have q283 : x19_2 < (t258.length : Int) := of_decide_eq_true (by first | (with_reducible assumption) | assumption)
                                    (try (obtain ⟨Aqad283, cqad283, eqad283⟩ := Kd.R_slice HO_8.out; subst eqad283))
                                    obtain ⟨ad283, e283, hx283_0⟩ := Kd.at_int (Kd.R_reads' HO_8.out).2.2 x19_2 p283 q283
                                    obtain rfl : ad280 = ad283 := (by injection e283)
                                    replace p283 := eq_true p283
                                    replace q283 := eq_true q283
                                    have p284 : 0 ≤ (x19_2 : Int) := of_decide_eq_true (by first | (with_reducible assumption) | assumption)
                                    have q284 : x19_2 < (t258.length : Int) := of_decide_eq_true (by first | (with_reducible assumption) | assumption)
                                    (try (obtain ⟨Aqad284, cqad284, eqad284⟩ := Kd.R_slice HO_8.out; subst eqad284))
                                    obtain ⟨ad284, e284, hx284_0⟩ := Kd.at_int (Kd.R_reads' HO_8.out).2.2 x19_2 p284 q284
                                    obtain rfl : ad280 = ad284 := (by injection e284)
                                    replace p284 := eq_true p284
                                    replace q284 := eq_true q284
                                    obtain ⟨Ao64, co64, eo64⟩ := Kd.R_slice HO_9.out
                                    (first | subst eo64 | (injection eo64 with f1_ f2_ f3_; have f4_ := f1_.symm; have f5_ := f3_.symm; clear f1_ f2_ f3_; subst f4_; subst f5_))
                                    have p285 : 0 ≤ (x19_2 : Int) := of_decide_eq_true (by first | (with_reducible assumption) | assumption)
                                    have q285 : x19_2 < (t261.length : Int) := of_decide_eq_true (by first | (with_reducible assumption) | assumption)
                                    (try (obtain ⟨Aqad285, cqad285, eqad285⟩ := Kd.R_slice HO_9.out; subst eqad285))
                                    obtain ⟨ad285, e285, hx285_0⟩ := Kd.at_int (Kd.R_reads' HO_9.out).2.2 x19_2 p285 q285
                                    cases e285
                                    replace p285 := eq_true p285
                                    replace q285 := eq_true q285
                                    as_aux_lemma =>
                                     refine start_ (n := 36) (S := fun w' => w'.cell? (ad280.add (x19_2).toNat) = some (.int .i64 (rd t258 x19_2)) ∧ w'.cell? (ad280.add (x19_2).toNat) = some (.int .i64 (rd t258 x19_2)) ∧ w'.cell? (ad285.add (x19_2).toNat) = some (.int .i64 (rd t261 x19_2))) (ds := []) #[false, false, false, false, false, false, false, false, false, false, false, false, false, false, false, false, false, false, false, false, false, false, false, false, false, false, false, false, false, false, false, false, false, false, false, false] (by kernel_rfl) rfl rfl ⟨hx283_0, hx284_0, hx285_0⟩ (fun hHeld => ?_); refine with_tabW laws_FnFeedback.tab18 laws_FnFeedback.bits18 (fun HT_ HW_ => ?_)
                                     generalize w62.drew = w63 at HO_8 HO_9 HO_11 HO_12 HO_256001 BK255 HB hx283_0 hx284_0 hx285_0 hHeld ⊢
                                     refine pI 36 0 128 1 HT_.out ?_
                                     refine pI 36 1 129 3 HT_.out ?_
                                     refine pI 36 2 130 7 HT_.out ?_
                                     refine pI 36 4 132 23 HT_.out ?_
                                     refine tI3 36 3 131 31 HT_.out HW_.out hHeld ?_
                                     refine pI 36 5 133 63 HT_.out ?_
                                     refine pI 36 6 134 127 HT_.out ?_
                                     refine pI 36 7 135 255 HT_.out ?_
                                     refine pI 36 8 136 511 HT_.out ?_
                                     refine pI 36 9 137 1023 HT_.out ?_
                                     refine pI 36 11 139 3071 HT_.out ?_
                                     refine tI3 36 10 138 4095 HT_.out HW_.out hHeld ?_
                                     refine pI 36 12 140 8191 HT_.out ?_
                                     refine pI 36 13 141 16383 HT_.out ?_
                                     refine pI 36 14 142 32767 HT_.out ?_
                                     refine pI 36 15 143 65535 HT_.out ?_
                                     refine pI 36 16 144 131071 HT_.out ?_
                                     refine pI 36 17 145 262143 HT_.out ?_
                                     refine pI 36 18 146 524287 HT_.out ?_
                                     refine tI3 36 19 147 1048575 HT_.out HW_.out hHeld ?_
                                     refine pI 36 20 148 2097151 HT_.out ?_
                                     refine pI 36 21 149 4194303 HT_.out ?_
                                     refine pI 36 22 150 8388607 HT_.out ?_
                                     refine pI 36 23 151 16777215 HT_.out ?_
                                     refine pI 36 24 152 33554431 HT_.out ?_
                                     refine pU 36 25 153 67108863 HT_.out ?_
                                     refine pU 36 26 154 134217727 HT_.out ?_
                                     refine pU 36 27 155 268435455 HT_.out ?_
                                     refine pU 36 28 156 536870911 HT_.out ?_
                                     refine pU 36 29 157 1073741823 HT_.out ?_
                                     refine pU 36 30 158 2147483647 HT_.out ?_
                                     refine pU 36 31 159 4294967295 HT_.out ?_
                                     refine pU 36 32 160 8589934591 HT_.out ?_
                                     refine pU 36 33 161 17179869183 HT_.out ?_
                                     refine pI 36 34 162 34359738367 HT_.out ?_
                                     refine pI 36 35 163 68719476735 HT_.out ?_
                                     refine done_ (done_of HT_.out (by kernel_rfl)) ?_
                                     try go_wp2
                                     go_roundg k2
                                     case measure => have := HJ10.out; have := HK2.out; omega
                                     case rel => exact ⟨(wrap64 (x17_2 + (wrap64 ((rd t252 x19_2) - (wrap64 (t251 * (rd t258 x19_2))))))), (decide ((rd t252 x19_2) ≤ (wrap64 (t251 * (wrap64 ((wrap64 (t256 - 3)) + t257)))))), (wrap64 (x19_2 + 1)), (by first | rfl | (simp; done) | (simp [*]; done) | (simp [IntWalk.i64_left, *]; done)), (by first | rfl | (simp; done) | (simp [*]; done) | (simp [IntWalk.i64_left, *]; done)), (by first | rfl | (simp; done) | (simp [*]; done) | (simp [IntWalk.i64_left, *]; done)), H', ⟨by have := HJ10.out; have := HK2.out; omega⟩, ⟨by (with_reducible repeat (first | apply Kd.R_alloc | apply Kd.R_drewN | apply Kd.R_drew)); exact HO_8.out⟩, ⟨by (with_reducible repeat (first | apply Kd.R_alloc | apply Kd.R_drewN | apply Kd.R_drew)); exact HO_9.out⟩, ⟨by (with_reducible repeat (first | apply Kd.R_alloc | apply Kd.R_drewN | apply Kd.R_drew)); exact HO_11.out⟩, ⟨by (with_reducible repeat (first | apply Kd.R_alloc | apply Kd.R_drewN | apply Kd.R_drew)); exact HO_12.out⟩, ⟨by (with_reducible repeat (first | apply Kd.R_alloc | apply Kd.R_drewN | apply Kd.R_drew)); exact HO_256001.out⟩, ⟨by (with_reducible repeat (first | refine blk_drewN ?_ _ | refine blk_drew ?_ | refine blk_alloc ?_ _)); exact BK255.out⟩, ⟨by repeat (first | (with_reducible first | exact HB.out | apply below_alloc | apply pw_below_drewN | apply below_drew1 | refine below_set ?_ GE255.out) | exact HB.out)⟩⟩
                              · rw [if_neg c46] at H
                                have c46b0 : ((wrap64 (x17_2 + (wrap64 ((rd t252 x19_2) - (wrap64 (t251 * (rd t258 x19_2))))))) == (rd t261 x19_2)) = false := beq_eq_false_iff_ne.mpr c46
                                have c46b1 : ((wrap64 (x17_2 + (wrap64 ((rd t252 x19_2) - (wrap64 (t251 * (rd t258 x19_2))))))) != (rd t261 x19_2)) = true := bne_iff_ne.mpr c46
                                exact absurd ((Option.some.inj H).trans HT0_.out) (by decide)
                            · rw [if_neg c45] at H
                              exact absurd H (by simp)
                      · rw [if_neg c34] at H
                        have c34b0 : decide ((wrap64 (t251 * (wrap64 (t256 - 3)))) ≤ (rd t252 x19_2)) = false := decide_eq_false c34
                        clear c34
                        by_cases c70 : (rd t258 x19_2) < (wrap64 (t256 - 3))
                        · rw [if_pos c70] at H
                          have c70b0 : decide ((rd t258 x19_2) < (wrap64 (t256 - 3))) = true := decide_eq_true c70
                          clear c70
                          exact absurd ((Option.some.inj H).trans HT0_.out) (by decide)
                        · rw [if_neg c70] at H
                          have c70b0 : decide ((rd t258 x19_2) < (wrap64 (t256 - 3))) = false := decide_eq_false c70
                          clear c70
                          by_cases c75 : (rd t258 x19_2) > (wrap64 ((wrap64 (t256 - 3)) + t257))
                          · rw [if_pos c75] at H
                            have c75b0 : decide ((wrap64 ((wrap64 (t256 - 3)) + t257)) < (rd t258 x19_2)) = true := decide_eq_true c75
                            clear c75
                            exact absurd ((Option.some.inj H).trans HT0_.out) (by decide)
                          · rw [if_neg c75] at H
                            have c75b0 : decide ((wrap64 ((wrap64 (t256 - 3)) + t257)) < (rd t258 x19_2)) = false := decide_eq_false c75
                            clear c75
                            by_cases c80 : x19_2 < (t261.length : Int)
                            · rw [if_pos c80] at H
                              have c80b0 : decide (x19_2 < (t261.length : Int)) = true := decide_eq_true c80
                              clear c80
                              by_cases c81 : (wrap64 (x17_2 + (wrap64 ((rd t252 x19_2) - (wrap64 (t251 * (rd t258 x19_2))))))) = (rd t261 x19_2)
                              · rw [if_pos c81] at H
                                have c81b0 : ((wrap64 (x17_2 + (wrap64 ((rd t252 x19_2) - (wrap64 (t251 * (rd t258 x19_2))))))) == (rd t261 x19_2)) = true := beq_iff_eq.mpr c81
                                have c81b1 : ((wrap64 (x17_2 + (wrap64 ((rd t252 x19_2) - (wrap64 (t251 * (rd t258 x19_2))))))) != (rd t261 x19_2)) = false := bne_eq_false_iff_eq.mpr c81
                                clear c81
                                have H' := Aside0.mk H
                                clear H
                                obtain ⟨Ao82, co82, eo82⟩ := Kd.R_slice HO_8.out
                                subst eo82
                                try go_wp2
                                have n0_ := Aside0.mk (Kd.R_drew HO_8.out)
                                have n1_ := Aside0.mk (Kd.R_drew HO_9.out)
                                have n2_ := Aside0.mk (Kd.R_drew HO_11.out)
                                have n3_ := Aside0.mk (Kd.R_drew HO_12.out)
                                have n4_ := Aside0.mk (Kd.R_drew HO_256001.out)
                                have n5_ := Aside0.mk (blk_drew BK255.out)
                                have n6_ := Aside0.mk (below_drew1 HB.out)
                                clear HO_8
                                clear HO_9
                                clear HO_11
                                clear HO_12
                                clear HO_256001
                                clear BK255
                                clear HB
                                have HO_8 := n0_
                                have HO_9 := n1_
                                have HO_11 := n2_
                                have HO_12 := n3_
                                have HO_256001 := n4_
                                have BK255 := n5_
                                have HB := n6_
                                clear n0_ n1_ n2_ n3_ n4_ n5_ n6_
                                have p279 : 0 ≤ (x19_2 : Int) := of_decide_eq_true (by first | (with_reducible assumption) | assumption)
                                have q279 : x19_2 < (t252.length : Int) := of_decide_eq_true (by first | (with_reducible assumption) | assumption)
                                (try (obtain ⟨Aqad279, cqad279, eqad279⟩ := Kd.R_slice HO_256001.out; subst eqad279))
                                obtain ⟨ad279, e279, hx279_0⟩ := Kd.at_int (Kd.R_reads' HO_256001.out).2.2 x19_2 p279 q279
                                cases e279
                                replace p279 := eq_true p279
                                replace q279 := eq_true q279
                                have p280 : 0 ≤ (x19_2 : Int) := of_decide_eq_true (by first | (with_reducible assumption) | assumption)
                                have q280 : x19_2 < (t258.length : Int) := of_decide_eq_true (by first | (with_reducible assumption) | assumption)
                                (try (obtain ⟨Aqad280, cqad280, eqad280⟩ := Kd.R_slice HO_8.out; subst eqad280))
                                obtain ⟨ad280, e280, hx280_0⟩ := Kd.at_int (Kd.R_reads' HO_8.out).2.2 x19_2 p280 q280
                                cases e280
                                replace p280 := eq_true p280
                                replace q280 := eq_true q280
                                as_aux_lemma =>
                                 refine start_ (n := 16) (S := fun w' => w'.cell? ⟨gb255, 0, none⟩ = some (.int .i64 t251) ∧ w'.cell? ⟨gb255, 1, none⟩ = some (.slice (some ad279) t252.length co15) ∧ w'.cell? (ad279.add (x19_2).toNat) = some (.int .i64 (rd t252 x19_2)) ∧ w'.cell? (ad280.add (x19_2).toNat) = some (.int .i64 (rd t258 x19_2))) (ds := []) #[false, false, false, false, false, false, false, false, false, false, false, false, false, false, false, false] (by kernel_rfl) rfl rfl ⟨(blk_cell BK255.out 0).trans rfl, (blk_cell BK255.out 1).trans rfl, hx279_0, hx280_0⟩ (fun hHeld => ?_); refine with_tabW laws_FnFeedback.tab16 laws_FnFeedback.bits16 (fun HT_ HW_ => ?_)
                                 generalize wr.drew = w83 at HO_8 HO_9 HO_11 HO_12 HO_256001 BK255 HB hx279_0 hx280_0 hHeld ⊢
                                 refine pI 16 0 88 1 HT_.out ?_
                                 refine pI 16 1 89 3 HT_.out ?_
                                 refine pI 16 3 91 11 HT_.out ?_
                                 refine pI 16 6 94 75 HT_.out ?_
                                 refine pI 16 8 96 331 HT_.out ?_
                                 refine pI 16 9 97 843 HT_.out ?_
                                 refine pI 16 10 98 1867 HT_.out ?_
                                 refine tI4 16 2 90 1871 HT_.out HW_.out hHeld ?_
                                 refine pI 16 4 92 1887 HT_.out ?_
                                 refine tI4 16 5 93 1919 HT_.out HW_.out hHeld ?_
                                 refine tI4 16 7 95 2047 HT_.out HW_.out hHeld ?_
                                 refine tI4 16 11 99 4095 HT_.out HW_.out hHeld ?_
                                 refine pI 16 12 100 8191 HT_.out ?_
                                 refine pI 16 13 101 16383 HT_.out ?_
                                 refine pI 16 14 102 32767 HT_.out ?_
                                 refine pI 16 15 17 65535 HT_.out ?_
                                 refine done_ (done_of HT_.out (by kernel_rfl)) ?_
                                 try go_wp2
                                 have n0_ := Aside0.mk (Kd.R_drew HO_8.out)
                                 have n1_ := Aside0.mk (Kd.R_drew HO_9.out)
                                 have n2_ := Aside0.mk (Kd.R_drew HO_11.out)
                                 have n3_ := Aside0.mk (Kd.R_drew HO_12.out)
                                 have n4_ := Aside0.mk (Kd.R_drew HO_256001.out)
                                 have n5_ := Aside0.mk (blk_drew BK255.out)
                                 have n6_ := Aside0.mk (below_drew1 HB.out)
                                 clear HO_8
                                 clear HO_9
                                 clear HO_11
                                 clear HO_12
                                 clear HO_256001
                                 clear BK255
                                 clear HB
                                 have HO_8 := n0_
                                 have HO_9 := n1_
                                 have HO_11 := n2_
                                 have HO_12 := n3_
                                 have HO_256001 := n4_
                                 have BK255 := n5_
                                 have HB := n6_
                                 clear n0_ n1_ n2_ n3_ n4_ n5_ n6_
                                 have p281 : 0 ≤ (x19_2 : Int) := of_decide_eq_true (by first | (with_reducible assumption) | assumption)
                                 have q281 : x19_2 < (t252.length : Int) := of_decide_eq_true (by first | (with_reducible assumption) | assumption)
                                 (try (obtain ⟨Aqad281, cqad281, eqad281⟩ := Kd.R_slice HO_256001.out; subst eqad281))
                                 obtain ⟨ad281, e281, hx281_0⟩ := Kd.at_int (Kd.R_reads' HO_256001.out).2.2 x19_2 p281 q281
                                 obtain rfl : ad279 = ad281 := (by injection e281)
                                 replace p281 := eq_true p281
                                 replace q281 := eq_true q281
                                 as_aux_lemma =>
                                  refine start_ (n := 26) (S := fun w' => w'.cell? ⟨gb255, 0, none⟩ = some (.int .i64 t251) ∧ w'.cell? ⟨gb255, 1, none⟩ = some (.slice (some ad279) t252.length co15) ∧ w'.cell? (ad279.add (x19_2).toNat) = some (.int .i64 (rd t252 x19_2))) (ds := []) #[false, false, false, false, false, false, false, false, false, false, false, false, false, false, false, false, false, false, false, false, false, false, false, false, false, false] (by kernel_rfl) rfl rfl ⟨(blk_cell BK255.out 0).trans rfl, (blk_cell BK255.out 1).trans rfl, hx281_0⟩ (fun hHeld => ?_); refine with_tabW laws_FnFeedback.tab17 laws_FnFeedback.bits17 (fun HT_ HW_ => ?_)
                                  generalize w83.drew = w84 at HO_8 HO_9 HO_11 HO_12 HO_256001 BK255 HB hx281_0 hHeld ⊢
                                  refine pI 26 0 103 1 HT_.out ?_
                                  refine pI 26 1 104 3 HT_.out ?_
                                  refine pI 26 2 105 7 HT_.out ?_
                                  refine pI 26 4 107 23 HT_.out ?_
                                  refine pI 26 7 110 151 HT_.out ?_
                                  refine pI 26 9 112 663 HT_.out ?_
                                  refine tI3 26 3 106 671 HT_.out HW_.out hHeld ?_
                                  refine pI 26 5 108 703 HT_.out ?_
                                  refine tI3 26 6 109 767 HT_.out HW_.out hHeld ?_
                                  refine tI3 26 8 111 1023 HT_.out HW_.out hHeld ?_
                                  refine pI 26 10 113 2047 HT_.out ?_
                                  refine pI 26 11 114 4095 HT_.out ?_
                                  refine pI 26 12 115 8191 HT_.out ?_
                                  refine pI 26 13 116 16383 HT_.out ?_
                                  refine pU 26 14 117 32767 HT_.out ?_
                                  refine pU 26 15 118 65535 HT_.out ?_
                                  refine pU 26 16 119 131071 HT_.out ?_
                                  refine pU 26 17 120 262143 HT_.out ?_
                                  refine pU 26 18 121 524287 HT_.out ?_
                                  refine pU 26 19 122 1048575 HT_.out ?_
                                  refine pU 26 20 123 2097151 HT_.out ?_
                                  refine pU 26 21 124 4194303 HT_.out ?_
                                  refine pU 26 22 125 8388607 HT_.out ?_
                                  refine pU 26 23 126 16777215 HT_.out ?_
                                  refine pI 26 24 127 33554431 HT_.out ?_
                                  refine pI 26 25 18 67108863 HT_.out ?_
                                  refine done_ (done_of HT_.out (by kernel_rfl)) ?_
                                  try go_wp2
                                  have n0_ := Aside0.mk (Kd.R_drew HO_8.out)
                                  have n1_ := Aside0.mk (Kd.R_drew HO_9.out)
                                  have n2_ := Aside0.mk (Kd.R_drew HO_11.out)
                                  have n3_ := Aside0.mk (Kd.R_drew HO_12.out)
                                  have n4_ := Aside0.mk (Kd.R_drew HO_256001.out)
                                  have n5_ := Aside0.mk (blk_drew BK255.out)
                                  have n6_ := Aside0.mk (below_drew1 HB.out)
                                  clear HO_8
                                  clear HO_9
                                  clear HO_11
                                  clear HO_12
                                  clear HO_256001
                                  clear BK255
                                  clear HB
                                  have HO_8 := n0_
                                  have HO_9 := n1_
                                  have HO_11 := n2_
                                  have HO_12 := n3_
                                  have HO_256001 := n4_
                                  have BK255 := n5_
                                  have HB := n6_
                                  clear n0_ n1_ n2_ n3_ n4_ n5_ n6_
                                  have p288 : 0 ≤ (x19_2 : Int) := of_decide_eq_true (by first | (with_reducible assumption) | assumption)
                                  have q288 : x19_2 < (t258.length : Int) := of_decide_eq_true (by first | (with_reducible assumption) | assumption)
                                  (try (obtain ⟨Aqad288, cqad288, eqad288⟩ := Kd.R_slice HO_8.out; subst eqad288))
                                  obtain ⟨ad288, e288, hx288_0⟩ := Kd.at_int (Kd.R_reads' HO_8.out).2.2 x19_2 p288 q288
                                  obtain rfl : ad280 = ad288 := (by injection e288)
                                  replace p288 := eq_true p288
                                  replace q288 := eq_true q288
                                  have p289 : 0 ≤ (x19_2 : Int) := of_decide_eq_true (by first | (with_reducible assumption) | assumption)
                                  have q289 : x19_2 < (t258.length : Int) := of_decide_eq_true (by first | (with_reducible assumption) | assumption)
                                  (try (obtain ⟨Aqad289, cqad289, eqad289⟩ := Kd.R_slice HO_8.out; subst eqad289))
                                  obtain ⟨ad289, e289, hx289_0⟩ := Kd.at_int (Kd.R_reads' HO_8.out).2.2 x19_2 p289 q289
                                  obtain rfl : ad280 = ad289 := (by injection e289)
                                  replace p289 := eq_true p289
                                  replace q289 := eq_true q289
                                  obtain ⟨Ao86, co86, eo86⟩ := Kd.R_slice HO_9.out
                                  (first | subst eo86 | (injection eo86 with f1_ f2_ f3_; have f4_ := f1_.symm; have f5_ := f3_.symm; clear f1_ f2_ f3_; subst f4_; subst f5_))
                                  have p290 : 0 ≤ (x19_2 : Int) := of_decide_eq_true (by first | (with_reducible assumption) | assumption)
                                  have q290 : x19_2 < (t261.length : Int) := of_decide_eq_true (by first | (with_reducible assumption) | assumption)
                                  (try (obtain ⟨Aqad290, cqad290, eqad290⟩ := Kd.R_slice HO_9.out; subst eqad290))
                                  obtain ⟨ad290, e290, hx290_0⟩ := Kd.at_int (Kd.R_reads' HO_9.out).2.2 x19_2 p290 q290
                                  cases e290
                                  replace p290 := eq_true p290
                                  replace q290 := eq_true q290
                                  as_aux_lemma =>
                                   refine start_ (n := 36) (S := fun w' => w'.cell? (ad280.add (x19_2).toNat) = some (.int .i64 (rd t258 x19_2)) ∧ w'.cell? (ad280.add (x19_2).toNat) = some (.int .i64 (rd t258 x19_2)) ∧ w'.cell? (ad290.add (x19_2).toNat) = some (.int .i64 (rd t261 x19_2))) (ds := []) #[false, false, false, false, false, false, false, false, false, false, false, false, false, false, false, false, false, false, false, false, false, false, false, false, false, false, false, false, false, false, false, false, false, false, false, false] (by kernel_rfl) rfl rfl ⟨hx288_0, hx289_0, hx290_0⟩ (fun hHeld => ?_); refine with_tabW laws_FnFeedback.tab18 laws_FnFeedback.bits18 (fun HT_ HW_ => ?_)
                                   generalize w84.drew = w85 at HO_8 HO_9 HO_11 HO_12 HO_256001 BK255 HB hx288_0 hx289_0 hx290_0 hHeld ⊢
                                   refine pI 36 0 128 1 HT_.out ?_
                                   refine pI 36 1 129 3 HT_.out ?_
                                   refine pI 36 2 130 7 HT_.out ?_
                                   refine pI 36 4 132 23 HT_.out ?_
                                   refine tI3 36 3 131 31 HT_.out HW_.out hHeld ?_
                                   refine pI 36 5 133 63 HT_.out ?_
                                   refine pI 36 6 134 127 HT_.out ?_
                                   refine pI 36 7 135 255 HT_.out ?_
                                   refine pI 36 8 136 511 HT_.out ?_
                                   refine pI 36 9 137 1023 HT_.out ?_
                                   refine pI 36 11 139 3071 HT_.out ?_
                                   refine tI3 36 10 138 4095 HT_.out HW_.out hHeld ?_
                                   refine pI 36 12 140 8191 HT_.out ?_
                                   refine pI 36 13 141 16383 HT_.out ?_
                                   refine pI 36 14 142 32767 HT_.out ?_
                                   refine pI 36 15 143 65535 HT_.out ?_
                                   refine pI 36 16 144 131071 HT_.out ?_
                                   refine pI 36 17 145 262143 HT_.out ?_
                                   refine pI 36 18 146 524287 HT_.out ?_
                                   refine tI3 36 19 147 1048575 HT_.out HW_.out hHeld ?_
                                   refine pI 36 20 148 2097151 HT_.out ?_
                                   refine pI 36 21 149 4194303 HT_.out ?_
                                   refine pI 36 22 150 8388607 HT_.out ?_
                                   refine pI 36 23 151 16777215 HT_.out ?_
                                   refine pI 36 24 152 33554431 HT_.out ?_
                                   refine pU 36 25 153 67108863 HT_.out ?_
                                   refine pU 36 26 154 134217727 HT_.out ?_
                                   refine pU 36 27 155 268435455 HT_.out ?_
                                   refine pU 36 28 156 536870911 HT_.out ?_
                                   refine pU 36 29 157 1073741823 HT_.out ?_
                                   refine pU 36 30 158 2147483647 HT_.out ?_
                                   refine pU 36 31 159 4294967295 HT_.out ?_
                                   refine pU 36 32 160 8589934591 HT_.out ?_
                                   refine pU 36 33 161 17179869183 HT_.out ?_
                                   refine pI 36 34 162 34359738367 HT_.out ?_
                                   refine pI 36 35 163 68719476735 HT_.out ?_
                                   refine done_ (done_of HT_.out (by kernel_rfl)) ?_
                                   try go_wp2
                                   go_roundg k2
                                   case measure => have := HJ10.out; have := HK2.out; omega
                                   case rel => exact ⟨(wrap64 (x17_2 + (wrap64 ((rd t252 x19_2) - (wrap64 (t251 * (rd t258 x19_2))))))), (false), (wrap64 (x19_2 + 1)), (by first | rfl | (simp; done) | (simp [*]; done) | (simp [IntWalk.i64_left, *]; done)), (by first | rfl | (simp; done) | (simp [*]; done) | (simp [IntWalk.i64_left, *]; done)), (by first | rfl | (simp; done) | (simp [*]; done) | (simp [IntWalk.i64_left, *]; done)), H', ⟨by have := HJ10.out; have := HK2.out; omega⟩, ⟨by (with_reducible repeat (first | apply Kd.R_alloc | apply Kd.R_drewN | apply Kd.R_drew)); exact HO_8.out⟩, ⟨by (with_reducible repeat (first | apply Kd.R_alloc | apply Kd.R_drewN | apply Kd.R_drew)); exact HO_9.out⟩, ⟨by (with_reducible repeat (first | apply Kd.R_alloc | apply Kd.R_drewN | apply Kd.R_drew)); exact HO_11.out⟩, ⟨by (with_reducible repeat (first | apply Kd.R_alloc | apply Kd.R_drewN | apply Kd.R_drew)); exact HO_12.out⟩, ⟨by (with_reducible repeat (first | apply Kd.R_alloc | apply Kd.R_drewN | apply Kd.R_drew)); exact HO_256001.out⟩, ⟨by (with_reducible repeat (first | refine blk_drewN ?_ _ | refine blk_drew ?_ | refine blk_alloc ?_ _)); exact BK255.out⟩, ⟨by repeat (first | (with_reducible first | exact HB.out | apply below_alloc | apply pw_below_drewN | apply below_drew1 | refine below_set ?_ GE255.out) | exact HB.out)⟩⟩
                              · rw [if_neg c81] at H
                                have c81b0 : ((wrap64 (x17_2 + (wrap64 ((rd t252 x19_2) - (wrap64 (t251 * (rd t258 x19_2))))))) == (rd t261 x19_2)) = false := beq_eq_false_iff_ne.mpr c81
                                have c81b1 : ((wrap64 (x17_2 + (wrap64 ((rd t252 x19_2) - (wrap64 (t251 * (rd t258 x19_2))))))) != (rd t261 x19_2)) = true := bne_iff_ne.mpr c81
                                exact absurd ((Option.some.inj H).trans HT0_.out) (by decide)
                            · rw [if_neg c80] at H
                              exact absurd H (by simp)
                    · replace c33 := Bool.eq_false_iff.mpr c33
                      subst c33
                      have H1 : (if (rd t258 x19_2) < (wrap64 (t256 - 3)) then (some false) else (if (rd t258 x19_2) > (wrap64 ((wrap64 (t256 - 3)) + t257)) then (some false) else (if x19_2 < (t261.length : Int) then (if (wrap64 (x17_2 + (wrap64 ((rd t252 x19_2) - (wrap64 (t251 * (rd t258 x19_2))))))) = (rd t261 x19_2) then (laws_FnFeedback.l0 k2 (wrap64 (t256 - 3)) (wrap64 ((wrap64 (t256 - 3)) + t257)) t258 t261 t265 t268 t271 (wrap64 (x17_2 + (wrap64 ((rd t252 x19_2) - (wrap64 (t251 * (rd t258 x19_2))))))) false (wrap64 (x19_2 + 1)) t251 t252) else (some false)) else (none)))) = some r := by rw [if_neg (show ¬ (false = true) by decide)] at H; exact H
                      clear H
                      have H := H1
                      clear H1
                      by_cases c92 : (rd t258 x19_2) < (wrap64 (t256 - 3))
                      · rw [if_pos c92] at H
                        have c92b0 : decide ((rd t258 x19_2) < (wrap64 (t256 - 3))) = true := decide_eq_true c92
                        clear c92
                        exact absurd ((Option.some.inj H).trans HT0_.out) (by decide)
                      · rw [if_neg c92] at H
                        have c92b0 : decide ((rd t258 x19_2) < (wrap64 (t256 - 3))) = false := decide_eq_false c92
                        clear c92
                        by_cases c97 : (rd t258 x19_2) > (wrap64 ((wrap64 (t256 - 3)) + t257))
                        · rw [if_pos c97] at H
                          have c97b0 : decide ((wrap64 ((wrap64 (t256 - 3)) + t257)) < (rd t258 x19_2)) = true := decide_eq_true c97
                          clear c97
                          exact absurd ((Option.some.inj H).trans HT0_.out) (by decide)
                        · rw [if_neg c97] at H
                          have c97b0 : decide ((wrap64 ((wrap64 (t256 - 3)) + t257)) < (rd t258 x19_2)) = false := decide_eq_false c97
                          clear c97
                          by_cases c102 : x19_2 < (t261.length : Int)
                          · rw [if_pos c102] at H
                            have c102b0 : decide (x19_2 < (t261.length : Int)) = true := decide_eq_true c102
                            clear c102
                            by_cases c103 : (wrap64 (x17_2 + (wrap64 ((rd t252 x19_2) - (wrap64 (t251 * (rd t258 x19_2))))))) = (rd t261 x19_2)
                            · rw [if_pos c103] at H
                              have c103b0 : ((wrap64 (x17_2 + (wrap64 ((rd t252 x19_2) - (wrap64 (t251 * (rd t258 x19_2))))))) == (rd t261 x19_2)) = true := beq_iff_eq.mpr c103
                              have c103b1 : ((wrap64 (x17_2 + (wrap64 ((rd t252 x19_2) - (wrap64 (t251 * (rd t258 x19_2))))))) != (rd t261 x19_2)) = false := bne_eq_false_iff_eq.mpr c103
                              clear c103
                              have H' := Aside0.mk H
                              clear H
                              obtain ⟨Ao104, co104, eo104⟩ := Kd.R_slice HO_8.out
                              subst eo104
                              try go_wp2
                              have n0_ := Aside0.mk (Kd.R_drew HO_8.out)
                              have n1_ := Aside0.mk (Kd.R_drew HO_9.out)
                              have n2_ := Aside0.mk (Kd.R_drew HO_11.out)
                              have n3_ := Aside0.mk (Kd.R_drew HO_12.out)
                              have n4_ := Aside0.mk (Kd.R_drew HO_256001.out)
                              have n5_ := Aside0.mk (blk_drew BK255.out)
                              have n6_ := Aside0.mk (below_drew1 HB.out)
                              clear HO_8
                              clear HO_9
                              clear HO_11
                              clear HO_12
                              clear HO_256001
                              clear BK255
                              clear HB
                              have HO_8 := n0_
                              have HO_9 := n1_
                              have HO_11 := n2_
                              have HO_12 := n3_
                              have HO_256001 := n4_
                              have BK255 := n5_
                              have HB := n6_
                              clear n0_ n1_ n2_ n3_ n4_ n5_ n6_
                              have p279 : 0 ≤ (x19_2 : Int) := of_decide_eq_true (by first | (with_reducible assumption) | assumption)
                              have q279 : x19_2 < (t252.length : Int) := of_decide_eq_true (by first | (with_reducible assumption) | assumption)
                              (try (obtain ⟨Aqad279, cqad279, eqad279⟩ := Kd.R_slice HO_256001.out; subst eqad279))
                              obtain ⟨ad279, e279, hx279_0⟩ := Kd.at_int (Kd.R_reads' HO_256001.out).2.2 x19_2 p279 q279
                              cases e279
                              replace p279 := eq_true p279
                              replace q279 := eq_true q279
                              have p280 : 0 ≤ (x19_2 : Int) := of_decide_eq_true (by first | (with_reducible assumption) | assumption)
                              have q280 : x19_2 < (t258.length : Int) := of_decide_eq_true (by first | (with_reducible assumption) | assumption)
                              (try (obtain ⟨Aqad280, cqad280, eqad280⟩ := Kd.R_slice HO_8.out; subst eqad280))
                              obtain ⟨ad280, e280, hx280_0⟩ := Kd.at_int (Kd.R_reads' HO_8.out).2.2 x19_2 p280 q280
                              cases e280
                              replace p280 := eq_true p280
                              replace q280 := eq_true q280
                              as_aux_lemma =>
                               refine start_ (n := 16) (S := fun w' => w'.cell? ⟨gb255, 0, none⟩ = some (.int .i64 t251) ∧ w'.cell? ⟨gb255, 1, none⟩ = some (.slice (some ad279) t252.length co15) ∧ w'.cell? (ad279.add (x19_2).toNat) = some (.int .i64 (rd t252 x19_2)) ∧ w'.cell? (ad280.add (x19_2).toNat) = some (.int .i64 (rd t258 x19_2))) (ds := []) #[false, false, false, false, false, false, false, false, false, false, false, false, false, false, false, false] (by kernel_rfl) rfl rfl ⟨(blk_cell BK255.out 0).trans rfl, (blk_cell BK255.out 1).trans rfl, hx279_0, hx280_0⟩ (fun hHeld => ?_); refine with_tabW laws_FnFeedback.tab16 laws_FnFeedback.bits16 (fun HT_ HW_ => ?_)
                               generalize wr.drew = w105 at HO_8 HO_9 HO_11 HO_12 HO_256001 BK255 HB hx279_0 hx280_0 hHeld ⊢
                               refine pI 16 0 88 1 HT_.out ?_
                               refine pI 16 1 89 3 HT_.out ?_
                               refine pI 16 3 91 11 HT_.out ?_
                               refine pI 16 6 94 75 HT_.out ?_
                               refine pI 16 8 96 331 HT_.out ?_
                               refine pI 16 9 97 843 HT_.out ?_
                               refine pI 16 10 98 1867 HT_.out ?_
                               refine tI4 16 2 90 1871 HT_.out HW_.out hHeld ?_
                               refine pI 16 4 92 1887 HT_.out ?_
                               refine tI4 16 5 93 1919 HT_.out HW_.out hHeld ?_
                               refine tI4 16 7 95 2047 HT_.out HW_.out hHeld ?_
                               refine tI4 16 11 99 4095 HT_.out HW_.out hHeld ?_
                               refine pI 16 12 100 8191 HT_.out ?_
                               refine pI 16 13 101 16383 HT_.out ?_
                               refine pI 16 14 102 32767 HT_.out ?_
                               refine pI 16 15 17 65535 HT_.out ?_
                               refine done_ (done_of HT_.out (by kernel_rfl)) ?_
                               try go_wp2
                               have n0_ := Aside0.mk (Kd.R_drew HO_8.out)
                               have n1_ := Aside0.mk (Kd.R_drew HO_9.out)
                               have n2_ := Aside0.mk (Kd.R_drew HO_11.out)
                               have n3_ := Aside0.mk (Kd.R_drew HO_12.out)
                               have n4_ := Aside0.mk (Kd.R_drew HO_256001.out)
                               have n5_ := Aside0.mk (blk_drew BK255.out)
                               have n6_ := Aside0.mk (below_drew1 HB.out)
                               clear HO_8
                               clear HO_9
                               clear HO_11
                               clear HO_12
                               clear HO_256001
                               clear BK255
                               clear HB
                               have HO_8 := n0_
                               have HO_9 := n1_
                               have HO_11 := n2_
                               have HO_12 := n3_
                               have HO_256001 := n4_
                               have BK255 := n5_
                               have HB := n6_
                               clear n0_ n1_ n2_ n3_ n4_ n5_ n6_
                               as_aux_lemma =>
                                refine start_ (n := 26) (S := fun w' => True) (ds := []) #[false, false, false, false, false, false, false, false, false, false, false, false, false, false, false, false, false, false, false, false, false, false, false, false, false, false] (by kernel_rfl) rfl rfl trivial (fun hHeld => ?_); refine with_tabW laws_FnFeedback.tab17 laws_FnFeedback.bits17 (fun HT_ HW_ => ?_)
                                generalize w105.drew = w106 at HO_8 HO_9 HO_11 HO_12 HO_256001 BK255 HB hHeld ⊢
                                refine pI 26 0 103 1 HT_.out ?_
                                refine pI 26 1 104 3 HT_.out ?_
                                refine pU 26 2 105 7 HT_.out ?_
                                refine pU 26 3 106 15 HT_.out ?_
                                refine pU 26 4 107 31 HT_.out ?_
                                refine pU 26 5 108 63 HT_.out ?_
                                refine pU 26 6 109 127 HT_.out ?_
                                refine pU 26 7 110 255 HT_.out ?_
                                refine pU 26 8 111 511 HT_.out ?_
                                refine pU 26 9 112 1023 HT_.out ?_
                                refine pU 26 10 113 2047 HT_.out ?_
                                refine pU 26 11 114 4095 HT_.out ?_
                                refine pI 26 12 115 8191 HT_.out ?_
                                refine pI 26 13 116 16383 HT_.out ?_
                                refine pU 26 14 117 32767 HT_.out ?_
                                refine pU 26 15 118 65535 HT_.out ?_
                                refine pU 26 16 119 131071 HT_.out ?_
                                refine pU 26 17 120 262143 HT_.out ?_
                                refine pU 26 18 121 524287 HT_.out ?_
                                refine pU 26 19 122 1048575 HT_.out ?_
                                refine pU 26 20 123 2097151 HT_.out ?_
                                refine pU 26 21 124 4194303 HT_.out ?_
                                refine pU 26 22 125 8388607 HT_.out ?_
                                refine pU 26 23 126 16777215 HT_.out ?_
                                refine pI 26 24 127 33554431 HT_.out ?_
                                refine pI 26 25 18 67108863 HT_.out ?_
                                refine done_ (done_of HT_.out (by kernel_rfl)) ?_
                                try go_wp2
                                have n0_ := Aside0.mk (Kd.R_drew HO_8.out)
                                have n1_ := Aside0.mk (Kd.R_drew HO_9.out)
                                have n2_ := Aside0.mk (Kd.R_drew HO_11.out)
                                have n3_ := Aside0.mk (Kd.R_drew HO_12.out)
                                have n4_ := Aside0.mk (Kd.R_drew HO_256001.out)
                                have n5_ := Aside0.mk (blk_drew BK255.out)
                                have n6_ := Aside0.mk (below_drew1 HB.out)
                                clear HO_8
                                clear HO_9
                                clear HO_11
                                clear HO_12
                                clear HO_256001
                                clear BK255
                                clear HB
                                have HO_8 := n0_
                                have HO_9 := n1_
                                have HO_11 := n2_
                                have HO_12 := n3_
                                have HO_256001 := n4_
                                have BK255 := n5_
                                have HB := n6_
                                clear n0_ n1_ n2_ n3_ n4_ n5_ n6_
                                have p291 : 0 ≤ (x19_2 : Int) := of_decide_eq_true (by first | (with_reducible assumption) | assumption)
                                have q291 : x19_2 < (t258.length : Int) := of_decide_eq_true (by first | (with_reducible assumption) | assumption)
                                (try (obtain ⟨Aqad291, cqad291, eqad291⟩ := Kd.R_slice HO_8.out; subst eqad291))
                                obtain ⟨ad291, e291, hx291_0⟩ := Kd.at_int (Kd.R_reads' HO_8.out).2.2 x19_2 p291 q291
                                obtain rfl : ad280 = ad291 := (by injection e291)
                                replace p291 := eq_true p291
                                replace q291 := eq_true q291
                                have p292 : 0 ≤ (x19_2 : Int) := of_decide_eq_true (by first | (with_reducible assumption) | assumption)
                                have q292 : x19_2 < (t258.length : Int) := of_decide_eq_true (by first | (with_reducible assumption) | assumption)
                                (try (obtain ⟨Aqad292, cqad292, eqad292⟩ := Kd.R_slice HO_8.out; subst eqad292))
                                obtain ⟨ad292, e292, hx292_0⟩ := Kd.at_int (Kd.R_reads' HO_8.out).2.2 x19_2 p292 q292
                                obtain rfl : ad280 = ad292 := (by injection e292)
                                replace p292 := eq_true p292
                                replace q292 := eq_true q292
                                obtain ⟨Ao108, co108, eo108⟩ := Kd.R_slice HO_9.out
                                (first | subst eo108 | (injection eo108 with f1_ f2_ f3_; have f4_ := f1_.symm; have f5_ := f3_.symm; clear f1_ f2_ f3_; subst f4_; subst f5_))
                                have p293 : 0 ≤ (x19_2 : Int) := of_decide_eq_true (by first | (with_reducible assumption) | assumption)
                                have q293 : x19_2 < (t261.length : Int) := of_decide_eq_true (by first | (with_reducible assumption) | assumption)
                                (try (obtain ⟨Aqad293, cqad293, eqad293⟩ := Kd.R_slice HO_9.out; subst eqad293))
                                obtain ⟨ad293, e293, hx293_0⟩ := Kd.at_int (Kd.R_reads' HO_9.out).2.2 x19_2 p293 q293
                                cases e293
                                replace p293 := eq_true p293
                                replace q293 := eq_true q293
                                as_aux_lemma =>
                                 refine start_ (n := 36) (S := fun w' => w'.cell? (ad280.add (x19_2).toNat) = some (.int .i64 (rd t258 x19_2)) ∧ w'.cell? (ad280.add (x19_2).toNat) = some (.int .i64 (rd t258 x19_2)) ∧ w'.cell? (ad293.add (x19_2).toNat) = some (.int .i64 (rd t261 x19_2))) (ds := []) #[false, false, false, false, false, false, false, false, false, false, false, false, false, false, false, false, false, false, false, false, false, false, false, false, false, false, false, false, false, false, false, false, false, false, false, false] (by kernel_rfl) rfl rfl ⟨hx291_0, hx292_0, hx293_0⟩ (fun hHeld => ?_); refine with_tabW laws_FnFeedback.tab18 laws_FnFeedback.bits18 (fun HT_ HW_ => ?_)
                                 generalize w106.drew = w107 at HO_8 HO_9 HO_11 HO_12 HO_256001 BK255 HB hx291_0 hx292_0 hx293_0 hHeld ⊢
                                 refine pI 36 0 128 1 HT_.out ?_
                                 refine pI 36 1 129 3 HT_.out ?_
                                 refine pI 36 2 130 7 HT_.out ?_
                                 refine pI 36 4 132 23 HT_.out ?_
                                 refine tI3 36 3 131 31 HT_.out HW_.out hHeld ?_
                                 refine pI 36 5 133 63 HT_.out ?_
                                 refine pI 36 6 134 127 HT_.out ?_
                                 refine pI 36 7 135 255 HT_.out ?_
                                 refine pI 36 8 136 511 HT_.out ?_
                                 refine pI 36 9 137 1023 HT_.out ?_
                                 refine pI 36 11 139 3071 HT_.out ?_
                                 refine tI3 36 10 138 4095 HT_.out HW_.out hHeld ?_
                                 refine pI 36 12 140 8191 HT_.out ?_
                                 refine pI 36 13 141 16383 HT_.out ?_
                                 refine pI 36 14 142 32767 HT_.out ?_
                                 refine pI 36 15 143 65535 HT_.out ?_
                                 refine pI 36 16 144 131071 HT_.out ?_
                                 refine pI 36 17 145 262143 HT_.out ?_
                                 refine pI 36 18 146 524287 HT_.out ?_
                                 refine tI3 36 19 147 1048575 HT_.out HW_.out hHeld ?_
                                 refine pI 36 20 148 2097151 HT_.out ?_
                                 refine pI 36 21 149 4194303 HT_.out ?_
                                 refine pI 36 22 150 8388607 HT_.out ?_
                                 refine pI 36 23 151 16777215 HT_.out ?_
                                 refine pI 36 24 152 33554431 HT_.out ?_
                                 refine pU 36 25 153 67108863 HT_.out ?_
                                 refine pU 36 26 154 134217727 HT_.out ?_
                                 refine pU 36 27 155 268435455 HT_.out ?_
                                 refine pU 36 28 156 536870911 HT_.out ?_
                                 refine pU 36 29 157 1073741823 HT_.out ?_
                                 refine pU 36 30 158 2147483647 HT_.out ?_
                                 refine pU 36 31 159 4294967295 HT_.out ?_
                                 refine pU 36 32 160 8589934591 HT_.out ?_
                                 refine pU 36 33 161 17179869183 HT_.out ?_
                                 refine pI 36 34 162 34359738367 HT_.out ?_
                                 refine pI 36 35 163 68719476735 HT_.out ?_
                                 refine done_ (done_of HT_.out (by kernel_rfl)) ?_
                                 try go_wp2
                                 go_roundg k2
                                 case measure => have := HJ10.out; have := HK2.out; omega
                                 case rel => exact ⟨(wrap64 (x17_2 + (wrap64 ((rd t252 x19_2) - (wrap64 (t251 * (rd t258 x19_2))))))), (false), (wrap64 (x19_2 + 1)), (by first | rfl | (simp; done) | (simp [*]; done) | (simp [IntWalk.i64_left, *]; done)), (by first | rfl | (simp; done) | (simp [*]; done) | (simp [IntWalk.i64_left, *]; done)), (by first | rfl | (simp; done) | (simp [*]; done) | (simp [IntWalk.i64_left, *]; done)), H', ⟨by have := HJ10.out; have := HK2.out; omega⟩, ⟨by (with_reducible repeat (first | apply Kd.R_alloc | apply Kd.R_drewN | apply Kd.R_drew)); exact HO_8.out⟩, ⟨by (with_reducible repeat (first | apply Kd.R_alloc | apply Kd.R_drewN | apply Kd.R_drew)); exact HO_9.out⟩, ⟨by (with_reducible repeat (first | apply Kd.R_alloc | apply Kd.R_drewN | apply Kd.R_drew)); exact HO_11.out⟩, ⟨by (with_reducible repeat (first | apply Kd.R_alloc | apply Kd.R_drewN | apply Kd.R_drew)); exact HO_12.out⟩, ⟨by (with_reducible repeat (first | apply Kd.R_alloc | apply Kd.R_drewN | apply Kd.R_drew)); exact HO_256001.out⟩, ⟨by (with_reducible repeat (first | refine blk_drewN ?_ _ | refine blk_drew ?_ | refine blk_alloc ?_ _)); exact BK255.out⟩, ⟨by repeat (first | (with_reducible first | exact HB.out | apply below_alloc | apply pw_below_drewN | apply below_drew1 | refine below_set ?_ GE255.out) | exact HB.out)⟩⟩
                            · rw [if_neg c103] at H
                              have c103b0 : ((wrap64 (x17_2 + (wrap64 ((rd t252 x19_2) - (wrap64 (t251 * (rd t258 x19_2))))))) == (rd t261 x19_2)) = false := beq_eq_false_iff_ne.mpr c103
                              have c103b1 : ((wrap64 (x17_2 + (wrap64 ((rd t252 x19_2) - (wrap64 (t251 * (rd t258 x19_2))))))) != (rd t261 x19_2)) = true := bne_iff_ne.mpr c103
                              exact absurd ((Option.some.inj H).trans HT0_.out) (by decide)
                          · rw [if_neg c102] at H
                            exact absurd H (by simp)
                  · rw [if_neg c32] at H
                    exact absurd H (by simp)
                · rw [if_neg c31] at H
                  exact absurd H (by simp)
              · rw [if_neg c30] at H
                have c30b0 : decide (x19_2 < (t258.length : Int)) = false := decide_eq_false c30
                clear c30
                by_cases c114 : t271 = true
                · subst c114
                  have H1 : (if (t265.length : Int) = (t252.length : Int) then (laws_FnFeedback.j2 k2 (wrap64 (t256 - 3)) (wrap64 ((wrap64 (t256 - 3)) + t257)) t265 t268 ((t268.length : Int) != (t252.length : Int)) t251 t252) else (laws_FnFeedback.j2 k2 (wrap64 (t256 - 3)) (wrap64 ((wrap64 (t256 - 3)) + t257)) t265 t268 true t251 t252)) = some r := by rw [if_pos rfl] at H; exact H
                  clear H
                  have H := H1
                  clear H1
                  have HC115 := Aside0.mk H
                  clear H
                  obtain ⟨Ao116, co116, eo116⟩ := Kd.R_slice HO_8.out
                  subst eo116
                  go_upto_region 22 with (fail)
                  go_cut [179] (fun v179 wc => ∃ (kq : Nat) (x179_114 : Bool), v179 = .bool x179_114 ∧ Aside0 (laws_FnFeedback.j2 kq (wrap64 (t256 - 3)) (wrap64 ((wrap64 (t256 - 3)) + t257)) t265 t268 x179_114 t251 t252 = some r) ∧ Aside0 (kq ≤ k2) ∧ Aside0 (Kd.R (Kd.int .i64) 2 wc w.heap.size (fun k_ => some k_ ≠ (v269 : Value).ownBlock ∧ some k_ ≠ ((.slice Ao15 t252.length co15) : Value).ownBlock) v266 t265) ∧ Aside0 (Kd.R (Kd.int .i64) 2 wc w.heap.size (fun k_ => some k_ ≠ (v266 : Value).ownBlock ∧ some k_ ≠ ((.slice Ao15 t252.length co15) : Value).ownBlock) v269 t268) ∧ Aside0 (Kd.R (Kd.int .i64) 2 wc w.heap.size (fun k_ => some k_ ≠ (v266 : Value).ownBlock ∧ some k_ ≠ (v269 : Value).ownBlock) (.slice Ao15 t252.length co15) t252) ∧ Aside0 (wc.heap[gb255]? = some (.cells #[.int .i64 t251, (.slice Ao15 t252.length co15)] 26 (0, 0))) ∧ Aside0 (Below w.heap.size w wc))
                  case first =>
                    have H := HC115.out
                    clear HC115
                    by_cases c117 : (t265.length : Int) = (t252.length : Int)
                    · rw [if_pos c117] at H
                      have c117b0 : ((t265.length : Int) == (t252.length : Int)) = true := beq_iff_eq.mpr c117
                      have c117b1 : ((t265.length : Int) != (t252.length : Int)) = false := bne_eq_false_iff_eq.mpr c117
                      have c117b2 : (t265.length == t252.length) = true := by first | simpa using c117 | (simp at c117 ⊢; omega)
                      clear c117
                      (first | rw [c117b0] | (simp only [i64_w, i32_w]; rw [c117b0]) | skip)
                      have H' := Aside0.mk H
                      clear H
                      obtain ⟨Ao118, co118, eo118⟩ := Kd.R_slice HO_11.out
                      subst eo118
                      have hcz119_0 : wr.cell? ⟨gb255, 0, none⟩ = some (.int .i64 t251) := (blk_cell BK255.out 0).trans rfl
                      have hcz119_1 : wr.cell? ⟨gb255, 1, none⟩ = some (.slice Ao15 t252.length co15) := (blk_cell BK255.out 1).trans rfl
                      have hfz119_0 := blk_frozen BK255.out 0
                      have hfz119_1 := blk_frozen BK255.out 1
                      obtain ⟨Ao120, co120, eo120⟩ := Kd.R_slice HO_12.out
                      subst eo120
                      as_aux_lemma =>
                        go_wp2
                        go_meet
                        case rel => exact ⟨_, (((t268.length : Int) != (t252.length : Int))), (by first | rfl | (simp; done) | (simp [*]; done) | (simp [IntWalk.i64_left, *]; done)), H', ⟨by have := HJ10.out; have := HK2.out; first | omega | exact Nat.le_refl _⟩, ⟨by (with_reducible repeat (first | apply Kd.R_alloc | apply Kd.R_drewN | apply Kd.R_drew)); exact Kd.R_mono HO_11.out (fun _ hk => ⟨hk.2.2.1, hk.2.2.2⟩)⟩, ⟨by (with_reducible repeat (first | apply Kd.R_alloc | apply Kd.R_drewN | apply Kd.R_drew)); exact Kd.R_mono HO_12.out (fun _ hk => ⟨hk.2.2.1, hk.2.2.2⟩)⟩, ⟨by (with_reducible repeat (first | apply Kd.R_alloc | apply Kd.R_drewN | apply Kd.R_drew)); exact Kd.R_mono HO_256001.out (fun _ hk => ⟨hk.2.2.1, hk.2.2.2⟩)⟩, ⟨by (with_reducible repeat (first | refine blk_drewN ?_ _ | refine blk_drew ?_ | refine blk_alloc ?_ _)); exact BK255.out⟩, ⟨by repeat (first | (with_reducible first | exact HB.out | apply below_alloc | apply pw_below_drewN | apply below_drew1 | refine below_set ?_ GE255.out) | exact HB.out)⟩⟩
                    · rw [if_neg c117] at H
                      have c117b0 : ((t265.length : Int) == (t252.length : Int)) = false := beq_eq_false_iff_ne.mpr c117
                      have c117b1 : ((t265.length : Int) != (t252.length : Int)) = true := bne_iff_ne.mpr c117
                      have c117b2 : (t265.length == t252.length) = false := by first | simpa using c117 | (simp at c117 ⊢; omega)
                      (first | rw [c117b0] | (simp only [i64_w, i32_w]; rw [c117b0]) | skip)
                      have H' := Aside0.mk H
                      clear H
                      obtain ⟨Ao121, co121, eo121⟩ := Kd.R_slice HO_11.out
                      subst eo121
                      have hcz122_0 : wr.cell? ⟨gb255, 0, none⟩ = some (.int .i64 t251) := (blk_cell BK255.out 0).trans rfl
                      have hcz122_1 : wr.cell? ⟨gb255, 1, none⟩ = some (.slice Ao15 t252.length co15) := (blk_cell BK255.out 1).trans rfl
                      have hfz122_0 := blk_frozen BK255.out 0
                      have hfz122_1 := blk_frozen BK255.out 1
                      as_aux_lemma =>
                        go_wp2
                        go_meet
                        case rel => exact ⟨_, (true), (by first | rfl | (simp; done) | (simp [*]; done) | (simp [IntWalk.i64_left, *]; done)), H', ⟨by have := HJ10.out; have := HK2.out; first | omega | exact Nat.le_refl _⟩, ⟨by (with_reducible repeat (first | apply Kd.R_alloc | apply Kd.R_drewN | apply Kd.R_drew)); exact Kd.R_mono HO_11.out (fun _ hk => ⟨hk.2.2.1, hk.2.2.2⟩)⟩, ⟨by (with_reducible repeat (first | apply Kd.R_alloc | apply Kd.R_drewN | apply Kd.R_drew)); exact Kd.R_mono HO_12.out (fun _ hk => ⟨hk.2.2.1, hk.2.2.2⟩)⟩, ⟨by (with_reducible repeat (first | apply Kd.R_alloc | apply Kd.R_drewN | apply Kd.R_drew)); exact Kd.R_mono HO_256001.out (fun _ hk => ⟨hk.2.2.1, hk.2.2.2⟩)⟩, ⟨by (with_reducible repeat (first | refine blk_drewN ?_ _ | refine blk_drew ?_ | refine blk_alloc ?_ _)); exact BK255.out⟩, ⟨by repeat (first | (with_reducible first | exact HB.out | apply below_alloc | apply pw_below_drewN | apply below_drew1 | refine below_set ?_ GE255.out) | exact HB.out)⟩⟩
                  case rest =>
                    clear HC115
                    try clear c1
                    try clear p2
                    try clear q2
                    try clear hx2
                    try clear c3
                    try clear p6
                    try clear c10
                    try clear c11
                    try clear p29
                    try clear q29
                    try clear hx29
                    try clear c30
                    try clear c30b0
                    try clear c31
                    try clear c32
                    try clear p64
                    try clear c102
                    try clear c114
                    try clear c117
                    try clear c117b0
                    try clear c117b1
                    try clear c117b2
                    try clear hcz119_0
                    try clear hcz119_1
                    try clear hcz122_0
                    try clear hcz122_1
                    try clear hfz119_0
                    try clear hfz119_1
                    try clear hfz122_0
                    try clear hfz122_1
                    try clear hx291_0
                    try clear hx292_0
                    try clear hx293_0
                    try clear p291
                    try clear p292
                    try clear p293
                    try clear q291
                    try clear q292
                    try clear q293
                    obtain ⟨kq, x179_114, rfl, HA, HJ114, HO_11, HO_12, HO_256001, BK255, HB⟩ := hcut
                    cases kq with
                    | zero => exact absurd HA.out (by simp [laws_FnFeedback.j2])
                    | succ kj114 =>
                      have H := HA.out
                      clear HA
                      simp only [laws_FnFeedback.j2] at H
                      by_cases c123 : x179_114 = true
                      · subst c123
                        have H1 : (some false) = some r := by rw [if_pos rfl] at H; exact H
                        clear H
                        have H := H1
                        clear H1
                        exact absurd ((Option.some.inj H).trans HT0_.out) (by decide)
                      · replace c123 := Bool.eq_false_iff.mpr c123
                        subst c123
                        have H1 : (laws_FnFeedback.l1 kj114 (wrap64 (t256 - 3)) (wrap64 ((wrap64 (t256 - 3)) + t257)) t265 t268 0 0 0 t251 t252) = some r := by rw [if_neg (show ¬ (false = true) by decide)] at H; exact H
                        clear H
                        have H := H1
                        clear H1
                        have H' := Aside0.mk H
                        clear H
                        go_wp2
                        go_loopg [20, 21, 22] kj114 (fun kq v20 v21 v22 w' => ∃ (x20_4 : Int) (x21_4 : Int) (x22_4 : Int), v20 = .int .i64 x20_4 ∧ v21 = .int .i64 x21_4 ∧ v22 = .int .i64 x22_4 ∧ Aside0 (laws_FnFeedback.l1 kq (wrap64 (t256 - 3)) (wrap64 ((wrap64 (t256 - 3)) + t257)) t265 t268 x20_4 x21_4 x22_4 t251 t252 = some r) ∧ Aside0 (kq ≤ kj114) ∧ Aside0 (Kd.R (Kd.int .i64) 2 w' w.heap.size (fun k_ => some k_ ≠ (v269 : Value).ownBlock ∧ some k_ ≠ ((.slice Ao15 t252.length co15) : Value).ownBlock) v266 t265) ∧ Aside0 (Kd.R (Kd.int .i64) 2 w' w.heap.size (fun k_ => some k_ ≠ (v266 : Value).ownBlock ∧ some k_ ≠ ((.slice Ao15 t252.length co15) : Value).ownBlock) v269 t268) ∧ Aside0 (Kd.R (Kd.int .i64) 2 w' w.heap.size (fun k_ => some k_ ≠ (v266 : Value).ownBlock ∧ some k_ ≠ (v269 : Value).ownBlock) (.slice Ao15 t252.length co15) t252) ∧ Aside0 (w'.heap[gb255]? = some (.cells #[.int .i64 t251, (.slice Ao15 t252.length co15)] 26 (0, 0))) ∧ Aside0 (Below w.heap.size w w'))
                        case atStart => exact ⟨(0), (0), (0), (by first | rfl | (simp; done) | (simp [*]; done) | (simp [IntWalk.i64_left, *]; done)), (by first | rfl | (simp; done) | (simp [*]; done) | (simp [IntWalk.i64_left, *]; done)), (by first | rfl | (simp; done) | (simp [*]; done) | (simp [IntWalk.i64_left, *]; done)), H', ⟨Nat.le_refl _⟩, ⟨by (with_reducible repeat (first | apply Kd.R_alloc | apply Kd.R_drewN | apply Kd.R_drew)); exact HO_11.out⟩, ⟨by (with_reducible repeat (first | apply Kd.R_alloc | apply Kd.R_drewN | apply Kd.R_drew)); exact HO_12.out⟩, ⟨by (with_reducible repeat (first | apply Kd.R_alloc | apply Kd.R_drewN | apply Kd.R_drew)); exact HO_256001.out⟩, ⟨by (with_reducible repeat (first | refine blk_drewN ?_ _ | refine blk_drew ?_ | refine blk_alloc ?_ _)); exact BK255.out⟩, ⟨by repeat (first | (with_reducible first | exact HB.out | apply below_alloc | apply pw_below_drewN | apply below_drew1 | refine below_set ?_ GE255.out) | exact HB.out)⟩⟩
                        case round =>
                          clear H'
                          try clear c1
                          try clear p2
                          try clear q2
                          try clear hx2
                          try clear c3
                          try clear p6
                          try clear c10
                          try clear c11
                          try clear c12
                          try clear p29
                          try clear q29
                          try clear hx29
                          try clear c30
                          try clear c30b0
                          try clear c31
                          try clear c32
                          try clear p64
                          try clear c102
                          try clear c114
                          try clear c117
                          try clear c117b0
                          try clear c117b1
                          try clear c117b2
                          try clear c123
                          try clear hcz119_0
                          try clear hcz119_1
                          try clear hcz122_0
                          try clear hcz122_1
                          try clear hfz119_0
                          try clear hfz119_1
                          try clear hfz122_0
                          try clear hfz122_1
                          try clear hx291_0
                          try clear hx292_0
                          try clear hx293_0
                          try clear p2
                          try clear p29
                          try clear p291
                          try clear p292
                          try clear p293
                          try clear p6
                          try clear p64
                          try clear q2
                          try clear q29
                          try clear q291
                          try clear q292
                          try clear q293
                          obtain ⟨x20_4, x21_4, x22_4, rfl, rfl, rfl, HA, HK4, HO_11, HO_12, HO_256001, BK255, HB⟩ := hrel
                          cases gk with
                          | zero => exact absurd HA.out (by simp [laws_FnFeedback.l1])
                          | succ k4 =>
                            have H := HA.out
                            clear HA
                            simp only [laws_FnFeedback.l1] at H
                            by_cases c124 : x22_4 < (t265.length : Int)
                            · rw [if_pos c124] at H
                              have c124b0 : decide (x22_4 < (t265.length : Int)) = true := decide_eq_true c124
                              clear c124
                              by_cases c125 : 0 ≤ x22_4
                              · rw [if_pos c125] at H
                                have c125b0 : decide (0 ≤ x22_4) = true := decide_eq_true c125
                                clear c125
                                by_cases c126 : x22_4 < (t268.length : Int)
                                · rw [if_pos c126] at H
                                  have c126b0 : decide (x22_4 < (t268.length : Int)) = true := decide_eq_true c126
                                  clear c126
                                  by_cases c127 : x22_4 < (t252.length : Int)
                                  · rw [if_pos c127] at H
                                    have c127b0 : decide (x22_4 < (t252.length : Int)) = true := decide_eq_true c127
                                    clear c127
                                    by_cases c128 : (rd t268 x22_4) = (wrap64 ((wrap64 ((wrap64 ((rd t252 x22_4) + (wrap64 (2 * x20_4)))) - x21_4)) - (wrap64 (t251 * (rd t265 x22_4)))))
                                    · rw [if_pos c128] at H
                                      have c128b0 : ((rd t268 x22_4) == (wrap64 ((wrap64 ((wrap64 ((rd t252 x22_4) + (wrap64 (2 * x20_4)))) - x21_4)) - (wrap64 (t251 * (rd t265 x22_4)))))) = true := beq_iff_eq.mpr c128
                                      have c128b1 : ((rd t268 x22_4) != (wrap64 ((wrap64 ((wrap64 ((rd t252 x22_4) + (wrap64 (2 * x20_4)))) - x21_4)) - (wrap64 (t251 * (rd t265 x22_4)))))) = false := bne_eq_false_iff_eq.mpr c128
                                      clear c128
                                      by_cases c129 : (rd t265 x22_4) < (wrap64 (t256 - 3))
                                      · rw [if_pos c129] at H
                                        have c129b0 : decide ((rd t265 x22_4) < (wrap64 (t256 - 3))) = true := decide_eq_true c129
                                        clear c129
                                        exact absurd ((Option.some.inj H).trans HT0_.out) (by decide)
                                      · rw [if_neg c129] at H
                                        have c129b0 : decide ((rd t265 x22_4) < (wrap64 (t256 - 3))) = false := decide_eq_false c129
                                        clear c129
                                        by_cases c133 : (rd t265 x22_4) > (wrap64 ((wrap64 (t256 - 3)) + t257))
                                        · rw [if_pos c133] at H
                                          have c133b0 : decide ((wrap64 ((wrap64 (t256 - 3)) + t257)) < (rd t265 x22_4)) = true := decide_eq_true c133
                                          clear c133
                                          exact absurd ((Option.some.inj H).trans HT0_.out) (by decide)
                                        · rw [if_neg c133] at H
                                          have c133b0 : decide ((wrap64 ((wrap64 (t256 - 3)) + t257)) < (rd t265 x22_4)) = false := decide_eq_false c133
                                          clear c133
                                          have H' := Aside0.mk H
                                          clear H
                                          obtain ⟨Ao137, co137, eo137⟩ := Kd.R_slice HO_11.out
                                          subst eo137
                                          try go_wp2
                                          have n0_ := Aside0.mk (Kd.R_drew HO_11.out)
                                          have n1_ := Aside0.mk (Kd.R_drew HO_12.out)
                                          have n2_ := Aside0.mk (Kd.R_drew HO_256001.out)
                                          have n3_ := Aside0.mk (blk_drew BK255.out)
                                          have n4_ := Aside0.mk (below_drew1 HB.out)
                                          clear HO_11
                                          clear HO_12
                                          clear HO_256001
                                          clear BK255
                                          clear HB
                                          have HO_11 := n0_
                                          have HO_12 := n1_
                                          have HO_256001 := n2_
                                          have BK255 := n3_
                                          have HB := n4_
                                          clear n0_ n1_ n2_ n3_ n4_
                                          obtain ⟨Ao139, co139, eo139⟩ := Kd.R_slice HO_12.out
                                          (first | subst eo139 | (injection eo139 with f1_ f2_ f3_; have f4_ := f1_.symm; have f5_ := f3_.symm; clear f1_ f2_ f3_; subst f4_; subst f5_))
                                          have p294 : 0 ≤ (x22_4 : Int) := of_decide_eq_true (by first | (with_reducible assumption) | assumption)
                                          have q294 : x22_4 < (t268.length : Int) := of_decide_eq_true (by first | (with_reducible assumption) | assumption)
                                          (try (obtain ⟨Aqad294, cqad294, eqad294⟩ := Kd.R_slice HO_12.out; subst eqad294))
                                          obtain ⟨ad294, e294, hx294_0⟩ := Kd.at_int (Kd.R_reads' HO_12.out).2.2 x22_4 p294 q294
                                          cases e294
                                          replace p294 := eq_true p294
                                          replace q294 := eq_true q294
                                          have p295 : 0 ≤ (x22_4 : Int) := of_decide_eq_true (by first | (with_reducible assumption) | assumption)
                                          have q295 : x22_4 < (t252.length : Int) := of_decide_eq_true (by first | (with_reducible assumption) | assumption)
                                          (try (obtain ⟨Aqad295, cqad295, eqad295⟩ := Kd.R_slice HO_256001.out; subst eqad295))
                                          obtain ⟨ad295, e295, hx295_0⟩ := Kd.at_int (Kd.R_reads' HO_256001.out).2.2 x22_4 p295 q295
                                          cases e295
                                          replace p295 := eq_true p295
                                          replace q295 := eq_true q295
                                          have p296 : 0 ≤ (x22_4 : Int) := of_decide_eq_true (by first | (with_reducible assumption) | assumption)
                                          have q296 : x22_4 < (t265.length : Int) := of_decide_eq_true (by first | (with_reducible assumption) | assumption)
                                          (try (obtain ⟨Aqad296, cqad296, eqad296⟩ := Kd.R_slice HO_11.out; subst eqad296))
                                          obtain ⟨ad296, e296, hx296_0⟩ := Kd.at_int (Kd.R_reads' HO_11.out).2.2 x22_4 p296 q296
                                          cases e296
                                          replace p296 := eq_true p296
                                          replace q296 := eq_true q296
                                          have p297 : 0 ≤ (x22_4 : Int) := of_decide_eq_true (by first | (with_reducible assumption) | assumption)
                                          have q297 : x22_4 < (t265.length : Int) := of_decide_eq_true (by first | (with_reducible assumption) | assumption)
                                          (try (obtain ⟨Aqad297, cqad297, eqad297⟩ := Kd.R_slice HO_11.out; subst eqad297))
                                          obtain ⟨ad297, e297, hx297_0⟩ := Kd.at_int (Kd.R_reads' HO_11.out).2.2 x22_4 p297 q297
                                          obtain rfl : ad296 = ad297 := (by injection e297)
                                          replace p297 := eq_true p297
                                          replace q297 := eq_true q297
                                          have p298 : 0 ≤ (x22_4 : Int) := of_decide_eq_true (by first | (with_reducible assumption) | assumption)
                                          have q298 : x22_4 < (t265.length : Int) := of_decide_eq_true (by first | (with_reducible assumption) | assumption)
                                          (try (obtain ⟨Aqad298, cqad298, eqad298⟩ := Kd.R_slice HO_11.out; subst eqad298))
                                          obtain ⟨ad298, e298, hx298_0⟩ := Kd.at_int (Kd.R_reads' HO_11.out).2.2 x22_4 p298 q298
                                          obtain rfl : ad296 = ad298 := (by injection e298)
                                          replace p298 := eq_true p298
                                          replace q298 := eq_true q298
                                          as_aux_lemma =>
                                           refine start_ (n := 39) (S := fun w' => w'.cell? ⟨gb255, 0, none⟩ = some (.int .i64 t251) ∧ w'.cell? ⟨gb255, 1, none⟩ = some (.slice (some ad295) t252.length co15) ∧ w'.cell? (ad294.add (x22_4).toNat) = some (.int .i64 (rd t268 x22_4)) ∧ w'.cell? (ad295.add (x22_4).toNat) = some (.int .i64 (rd t252 x22_4)) ∧ w'.cell? (ad296.add (x22_4).toNat) = some (.int .i64 (rd t265 x22_4)) ∧ w'.cell? (ad296.add (x22_4).toNat) = some (.int .i64 (rd t265 x22_4)) ∧ w'.cell? (ad296.add (x22_4).toNat) = some (.int .i64 (rd t265 x22_4))) (ds := []) #[false, false, false, false, false, false, false, false, false, false, false, false, false, false, false, false, false, false, false, false, false, false, false, false, false, false, false, false, false, false, false, false, false, false, false, false, false, false, false] (by kernel_rfl) rfl rfl ⟨(blk_cell BK255.out 0).trans rfl, (blk_cell BK255.out 1).trans rfl, hx294_0, hx295_0, hx296_0, hx297_0, hx298_0⟩ (fun hHeld => ?_); refine with_tabW laws_FnFeedback.tab29 laws_FnFeedback.bits29 (fun HT_ HW_ => ?_)
                                           generalize wr.drew = w138 at HO_11 HO_12 HO_256001 BK255 HB hx294_0 hx295_0 hx296_0 hx297_0 hx298_0 hHeld ⊢
                                           refine pI 39 0 186 1 HT_.out ?_
                                           refine pI 39 1 187 3 HT_.out ?_
                                           refine pI 39 2 188 7 HT_.out ?_
                                           refine pI 39 4 190 23 HT_.out ?_
                                           refine pI 39 6 192 87 HT_.out ?_
                                           refine pI 39 9 195 599 HT_.out ?_
                                           refine pI 39 10 196 1623 HT_.out ?_
                                           refine pI 39 12 198 5719 HT_.out ?_
                                           refine pI 39 14 200 22103 HT_.out ?_
                                           refine pI 39 16 202 87639 HT_.out ?_
                                           refine pI 39 17 203 218711 HT_.out ?_
                                           refine pI 39 18 204 480855 HT_.out ?_
                                           refine tI7 39 3 189 480863 HT_.out HW_.out hHeld ?_
                                           refine tI7 39 5 191 480895 HT_.out HW_.out hHeld ?_
                                           refine pI 39 7 193 481023 HT_.out ?_
                                           refine tI7 39 8 194 481279 HT_.out HW_.out hHeld ?_
                                           refine pI 39 11 197 483327 HT_.out ?_
                                           refine pI 39 13 199 491519 HT_.out ?_
                                           refine tI7 39 15 201 524287 HT_.out HW_.out hHeld ?_
                                           refine tI7 39 19 205 1048575 HT_.out HW_.out hHeld ?_
                                           refine pI 39 20 206 2097151 HT_.out ?_
                                           refine pI 39 21 207 4194303 HT_.out ?_
                                           refine pI 39 22 208 8388607 HT_.out ?_
                                           refine pI 39 23 209 16777215 HT_.out ?_
                                           refine pI 39 24 210 33554431 HT_.out ?_
                                           refine pI 39 25 211 67108863 HT_.out ?_
                                           refine pI 39 26 212 134217727 HT_.out ?_
                                           refine pI 39 28 214 402653183 HT_.out ?_
                                           refine tI7 39 27 213 536870911 HT_.out HW_.out hHeld ?_
                                           refine pI 39 29 215 1073741823 HT_.out ?_
                                           refine pI 39 30 216 2147483647 HT_.out ?_
                                           refine pI 39 31 217 4294967295 HT_.out ?_
                                           refine pI 39 32 218 8589934591 HT_.out ?_
                                           refine pI 39 33 219 17179869183 HT_.out ?_
                                           refine pI 39 34 220 34359738367 HT_.out ?_
                                           refine pI 39 36 222 103079215103 HT_.out ?_
                                           refine tI7 39 35 221 137438953471 HT_.out HW_.out hHeld ?_
                                           refine pI 39 37 223 274877906943 HT_.out ?_
                                           refine pI 39 38 224 549755813887 HT_.out ?_
                                           refine done_ (done_of HT_.out (by kernel_rfl)) ?_
                                           have p299 : 0 ≤ (x22_4 : Int) := of_decide_eq_true (by first | (with_reducible assumption) | assumption)
                                           have q299 : x22_4 < (t268.length : Int) := of_decide_eq_true (by first | (with_reducible assumption) | assumption)
                                           (try (obtain ⟨Aqad299, cqad299, eqad299⟩ := Kd.R_slice HO_12.out; subst eqad299))
                                           obtain ⟨ad299, e299, hx299_0⟩ := Kd.at_int (Kd.R_reads' HO_12.out).2.2 x22_4 p299 q299
                                           obtain rfl : ad294 = ad299 := (by injection e299)
                                           replace p299 := eq_true p299
                                           replace q299 := eq_true q299
                                           try go_wp2
                                           go_roundg k4
                                           case measure => have := HJ10.out; have := HK2.out; have := HJ114.out; have := HK4.out; omega
                                           case rel => exact ⟨(rd t268 x22_4), (x20_4), (wrap64 (x22_4 + 1)), (by first | rfl | (simp; done) | (simp [*]; done) | (simp [IntWalk.i64_left, *]; done)), (by first | rfl | (simp; done) | (simp [*]; done) | (simp [IntWalk.i64_left, *]; done)), (by first | rfl | (simp; done) | (simp [*]; done) | (simp [IntWalk.i64_left, *]; done)), H', ⟨by have := HJ10.out; have := HK2.out; have := HJ114.out; have := HK4.out; omega⟩, ⟨by (with_reducible repeat (first | apply Kd.R_alloc | apply Kd.R_drewN | apply Kd.R_drew)); exact HO_11.out⟩, ⟨by (with_reducible repeat (first | apply Kd.R_alloc | apply Kd.R_drewN | apply Kd.R_drew)); exact HO_12.out⟩, ⟨by (with_reducible repeat (first | apply Kd.R_alloc | apply Kd.R_drewN | apply Kd.R_drew)); exact HO_256001.out⟩, ⟨by (with_reducible repeat (first | refine blk_drewN ?_ _ | refine blk_drew ?_ | refine blk_alloc ?_ _)); exact BK255.out⟩, ⟨by repeat (first | (with_reducible first | exact HB.out | apply below_alloc | apply pw_below_drewN | apply below_drew1 | refine below_set ?_ GE255.out) | exact HB.out)⟩⟩
                                    · rw [if_neg c128] at H
                                      have c128b0 : ((rd t268 x22_4) == (wrap64 ((wrap64 ((wrap64 ((rd t252 x22_4) + (wrap64 (2 * x20_4)))) - x21_4)) - (wrap64 (t251 * (rd t265 x22_4)))))) = false := beq_eq_false_iff_ne.mpr c128
                                      have c128b1 : ((rd t268 x22_4) != (wrap64 ((wrap64 ((wrap64 ((rd t252 x22_4) + (wrap64 (2 * x20_4)))) - x21_4)) - (wrap64 (t251 * (rd t265 x22_4)))))) = true := bne_iff_ne.mpr c128
                                      exact absurd ((Option.some.inj H).trans HT0_.out) (by decide)
                                  · rw [if_neg c127] at H
                                    exact absurd H (by simp)
                                · rw [if_neg c126] at H
                                  exact absurd H (by simp)
                              · rw [if_neg c125] at H
                                exact absurd H (by simp)
                            · rw [if_neg c124] at H
                              have c124b0 : decide (x22_4 < (t265.length : Int)) = false := decide_eq_false c124
                              clear c124
                              obtain rfl := Option.some.inj H
                              obtain ⟨Ao143, co143, eo143⟩ := Kd.R_slice HO_11.out
                              subst eo143
                              as_aux_lemma =>
                                go_wp2
                                go_ret
                                exact ⟨by first | rfl | (simp [errW_none, errW_some] <;> rfl) | (simp [*, errW_none, errW_some] <;> rfl), by repeat (first | (with_reducible first | exact HB.out | apply below_alloc | apply pw_below_drewN | apply below_drew1 | refine below_set ?_ GE255.out) | exact HB.out)⟩
                · replace c114 := Bool.eq_false_iff.mpr c114
                  subst c114
                  have H1 : (some true) = some r := by rw [if_neg (show ¬ (false = true) by decide)] at H; exact H
                  clear H
                  have H := H1
                  clear H1
                  obtain rfl := Option.some.inj H
                  obtain ⟨Ao144, co144, eo144⟩ := Kd.R_slice HO_8.out
                  subst eo144
                  as_aux_lemma =>
                    go_wp2
                    go_ret
                    exact ⟨by first | rfl | (simp [errW_none, errW_some] <;> rfl) | (simp [*, errW_none, errW_some] <;> rfl), by repeat (first | (with_reducible first | exact HB.out | apply below_alloc | apply pw_below_drewN | apply below_drew1 | refine below_set ?_ GE255.out) | exact HB.out)⟩
  
/-- THE ONE PURE STATEMENT of laws_FnFeedback: ours. -/
def laws_FnFeedback.Pure : Prop := ∀ (l0 : List Int) (l1 : List Int), l0.length ≤ maxLen → l0.length * 1 ≤ 140737488351232 → (∀ x ∈ l0, (Lit.int .u8 x).wf = true) → l1.length ≤ maxLen → l1.length * 1 ≤ 140737488351232 → (∀ x ∈ l1, (Lit.int .u8 x).wf = true) → ∃ k, laws_FnFeedback.f k l0 l1 = some true
theorem laws_FnFeedback.walk (P : laws_FnFeedback.Pure) (A0 : Option Addr) (len0 cap0 : Nat) (z0 : List Int) (A1 : Option Addr) (len1 cap1 : Nat) (z1 : List Int) (w : World) (w0 : (A0 = none ∧ len0 = 0 ∧ cap0 = 0 ∧ z0 = []) ∨ ∃ x, A0 = some x ∧ len0 ≤ cap0 ∧ cap0 ≤ maxLen ∧ z0.length = cap0 ∧ (∀ i, i < z0.length → w.cell? (x.add i) = some (.int .u8 (z0.getD i 0))) ∧ ∀ n ∈ z0, (Lit.int .u8 n).wf = true) (y0 : len0 * 1 ≤ 140737488351232) (w1 : (A1 = none ∧ len1 = 0 ∧ cap1 = 0 ∧ z1 = []) ∨ ∃ x, A1 = some x ∧ len1 ≤ cap1 ∧ cap1 ≤ maxLen ∧ z1.length = cap1 ∧ (∀ i, i < z1.length → w.cell? (x.add i) = some (.int .u8 (z1.getD i 0))) ∧ ∀ n ∈ z1, (Lit.int .u8 n).wf = true) (y1 : len1 * 1 ≤ 140737488351232) :
    Calls Try.prog 3 #[.slice A0 len0 cap0, .slice A1 len1 cap1] w fun e w' => e = .returned (.bool true) ∧ Below w.heap.size w w' := by
  obtain ⟨l0, rfl, hr0, hm0, hw0, hc0⟩ := ReadsInt.ofRowC w0
  obtain ⟨l1, rfl, hr1, hm1, hw1, hc1⟩ := ReadsInt.ofRowC w1
  obtain ⟨k, h⟩ := P l0 l1 hm0 y0 hw0 hm1 y1 hw1
  refine (laws_FnFeedback.calls k _ _ l0 _ _ l1 true rfl w (Kd.C_of_reads (d := (0 : Int)) (h1 := fun _ => rfl) hr0) hc0 (Kd.C_of_reads (d := (0 : Int)) (h1 := fun _ => rfl) hr1) hc1 h).mono ?_
  rintro e w' ⟨rfl, hd⟩
  exact ⟨rfl, hd⟩

end Go.Proofs.Ytecgobloagpicaa.P
