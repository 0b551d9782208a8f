-- Written by gen.py (wip/gen of this repo) over the kit's print: not trusted, Lean checks it.
import Derived.Test.YtebofadnefkacaaP0
import Derived.Test.YtebofadnefkacaaP1
import Derived.Test.YtebofadnefkacaaP2
import Derived.Test.YtebofadnefkacaaP4
import Derived.Test.YtebofadnefkacaaP8
import Derived.Lib.SliceRun
namespace Go.Proofs.Ytebofadnefkacaa.P
open Go.RowKit Go.Proofs.YtebofadnefkacaaW.PrintWords Go.Proofs.YtebofadnefkacaaW.PrintLast Go.Proofs.YtebofadnefkacaaW.PrintMore
attribute [local go_sem] max2_int min2_int max_two min_two max_three min_three max_four min_four   -- for this text's walks alone
set_option linter.unusedVariables false
set_option linter.unusedSimpArgs false

/-! ### spec_FewestFor: function 28 -/
mutual
def spec_FewestFor.j0 : Nat → Int → List Int → Int → Int → Bool → Option (Int × Bool)
  | 0, _, _, _, _, _ => none
  | k + 1, x0, x1, x2, x3, x34 => if x34 = true then (some (0, false)) else ((spec_l00Own.f x1).bind fun t321 => (if 0 ≤ x2 then (if x2 < (t321.length : Int) then ((some (t321.set (x2 : Int).toNat 0 : List Int)).bind fun y324 => ((spec_l02Is.f k y324).bind fun t325 => (if t325 = true then (spec_FewestFor.j1 k x0 x2 x3 0 1000000 y324) else (spec_FewestFor.j1 k x0 x2 x3 1 1000000 y324)))) else (none)) else (none)))
def spec_FewestFor.j1 : Nat → Int → Int → Int → Int → Int → List Int → Option (Int × Bool)
  | 0, _, _, _, _, _, _ => none
  | k + 1, x0, x2, x3, x10, x11, x12 => if 0 ≤ x2 then (if x2 < (x12.length : Int) then ((some (x12.set (x2 : Int).toNat x11 : List Int)).bind fun y326 => ((spec_l02By.f k x0 y326 100).bind fun t327 => (if x2 < (t327.length : Int) then (if (rd t327 x2) < x3 then (some (0, false)) else (spec_FewestFor.l0 k x0 x2 x3 x10 x11 y326)) else (none)))) else (none)) else (none)
def spec_FewestFor.l0 : Nat → Int → Int → Int → Int → Int → List Int → Option (Int × Bool)
  | 0, _, _, _, _, _, _ => none
  | k + 1, x0, x2, x3, x10, x11, x12 => if x10 < x11 then (if 0 ≤ x2 then (if x2 < (x12.length : Int) then ((some (x12.set (x2 : Int).toNat (wrap64 (Int.tdiv (wrap64 (x10 + x11)) 2)) : List Int)).bind fun y331 => ((spec_l02By.f k x0 y331 100).bind fun t332 => (if x2 < (t332.length : Int) then (if (rd t332 x2) ≥ x3 then (spec_FewestFor.l0 k x0 x2 x3 x10 (wrap64 (Int.tdiv (wrap64 (x10 + x11)) 2)) y331) else (spec_FewestFor.l0 k x0 x2 x3 (wrap64 ((wrap64 (Int.tdiv (wrap64 (x10 + x11)) 2)) + 1)) x11 y331)) else (none)))) else (none)) else (none)) else (some (x10, true))
end
def spec_FewestFor.f (k : Nat) (a0 : Int) (l1 : List Int) (a2 : Int) (a3 : Int) : Option (Int × Bool) := (spec_l02Method.f a0).bind fun t317 => (if t317 = true then ((spec_l02Is.f k l1).bind fun t318 => (if t318 = true then ((spec_l00In.f a2 0 (wrap64 ((l1.length : Int) - 1))).bind fun t319 => (if t319 = true then ((spec_l02Seats.f a3).bind fun t320 => (spec_FewestFor.j0 k a0 l1 a2 a3 (!t320))) else (spec_FewestFor.j0 k a0 l1 a2 a3 true))) else (spec_FewestFor.j0 k a0 l1 a2 a3 true))) else (spec_FewestFor.j0 k a0 l1 a2 a3 true))
theorem spec_FewestFor.mono_l : ∀ k, (∀ y0 y1 y2 y3 y4, LeO (spec_FewestFor.j0 k y0 y1 y2 y3 y4) (spec_FewestFor.j0 (k + 1) y0 y1 y2 y3 y4)) ∧ (∀ y0 y1 y2 y3 y4 y5, LeO (spec_FewestFor.j1 k y0 y1 y2 y3 y4 y5) (spec_FewestFor.j1 (k + 1) y0 y1 y2 y3 y4 y5)) ∧ (∀ y0 y1 y2 y3 y4 y5, LeO (spec_FewestFor.l0 k y0 y1 y2 y3 y4 y5) (spec_FewestFor.l0 (k + 1) y0 y1 y2 y3 y4 y5))
  | 0 => ⟨fun _ _ _ _ _ r h => by simp [spec_FewestFor.j0] at h, fun _ _ _ _ _ _ r h => by simp [spec_FewestFor.j1] at h, fun _ _ _ _ _ _ r h => by simp [spec_FewestFor.l0] at h⟩
  | k + 1 => by
    obtain ⟨ih0, ih1, ih2⟩ := spec_FewestFor.mono_l k
    refine ⟨?_, ?_, ?_⟩
    · intro y0 y1 y2 y3 y4
      unfold spec_FewestFor.j0
      repeat' first
      | (with_reducible exact ih0 _ _ _ _ _)
      | (with_reducible exact ih1 _ _ _ _ _ _)
      | (with_reducible exact ih2 _ _ _ _ _ _)
      | (with_reducible exact spec_l02By.mono _ _ _ _)
      | (with_reducible exact spec_l02Is.mono _ _)
      | (with_reducible exact LeO.refl _)
      | (with_reducible exact LeO.none _)
      | (with_reducible refine LeO.ite ?_ ?_)
      | (with_reducible refine LeO.bind ?_ (fun _ => ?_))
      | exact ih0 _ _ _ _ _
      | exact ih1 _ _ _ _ _ _
      | exact ih2 _ _ _ _ _ _
      | exact spec_l02By.mono _ _ _ _
      | exact spec_l02Is.mono _ _
      | exact LeO.none _
      | refine LeO.ite ?_ ?_
      | refine LeO.bind ?_ (fun _ => ?_)
    · intro y0 y1 y2 y3 y4 y5
      unfold spec_FewestFor.j1
      repeat' first
      | (with_reducible exact ih0 _ _ _ _ _)
      | (with_reducible exact ih1 _ _ _ _ _ _)
      | (with_reducible exact ih2 _ _ _ _ _ _)
      | (with_reducible exact spec_l02By.mono _ _ _ _)
      | (with_reducible exact spec_l02Is.mono _ _)
      | (with_reducible exact LeO.refl _)
      | (with_reducible exact LeO.none _)
      | (with_reducible refine LeO.ite ?_ ?_)
      | (with_reducible refine LeO.bind ?_ (fun _ => ?_))
      | exact ih0 _ _ _ _ _
      | exact ih1 _ _ _ _ _ _
      | exact ih2 _ _ _ _ _ _
      | exact spec_l02By.mono _ _ _ _
      | exact spec_l02Is.mono _ _
      | exact LeO.none _
      | refine LeO.ite ?_ ?_
      | refine LeO.bind ?_ (fun _ => ?_)
    · intro y0 y1 y2 y3 y4 y5
      unfold spec_FewestFor.l0
      repeat' first
      | (with_reducible exact ih0 _ _ _ _ _)
      | (with_reducible exact ih1 _ _ _ _ _ _)
      | (with_reducible exact ih2 _ _ _ _ _ _)
      | (with_reducible exact spec_l02By.mono _ _ _ _)
      | (with_reducible exact spec_l02Is.mono _ _)
      | (with_reducible exact LeO.refl _)
      | (with_reducible exact LeO.none _)
      | (with_reducible refine LeO.ite ?_ ?_)
      | (with_reducible refine LeO.bind ?_ (fun _ => ?_))
      | exact ih0 _ _ _ _ _
      | exact ih1 _ _ _ _ _ _
      | exact ih2 _ _ _ _ _ _
      | exact spec_l02By.mono _ _ _ _
      | exact spec_l02Is.mono _ _
      | exact LeO.none _
      | refine LeO.ite ?_ ?_
      | refine LeO.bind ?_ (fun _ => ?_)
theorem spec_FewestFor.mono : ∀ a0 a1 a2 a3 k, LeO (spec_FewestFor.f k a0 a1 a2 a3) (spec_FewestFor.f (k + 1) a0 a1 a2 a3) := by
  intro a0 a1 a2 a3 k
  obtain ⟨ih0, ih1, ih2⟩ := spec_FewestFor.mono_l k
  unfold spec_FewestFor.f
  repeat' first
      | (with_reducible exact ih0 _ _ _ _ _)
      | (with_reducible exact ih1 _ _ _ _ _ _)
      | (with_reducible exact ih2 _ _ _ _ _ _)
      | (with_reducible exact spec_l02By.mono _ _ _ _)
      | (with_reducible exact spec_l02Is.mono _ _)
      | (with_reducible exact LeO.refl _)
      | (with_reducible exact LeO.none _)
      | (with_reducible refine LeO.ite ?_ ?_)
      | (with_reducible refine LeO.bind ?_ (fun _ => ?_))
      | exact ih0 _ _ _ _ _
      | exact ih1 _ _ _ _ _ _
      | exact ih2 _ _ _ _ _ _
      | exact spec_l02By.mono _ _ _ _
      | exact spec_l02Is.mono _ _
      | exact LeO.none _
      | refine LeO.ite ?_ ?_
      | refine LeO.bind ?_ (fun _ => ?_)
set_option maxHeartbeats 8000000 in
set_option maxRecDepth 100000 in
theorem spec_FewestFor.calls (k : Nat) (a0 : Int) (A1 : Option Addr) (c1 : Nat) (l1 : List Int) (a2 : Int) (a3 : Int) (r1 : Int) (r2 : Bool) (w : World) (hr1 : Kd.C (Kd.int .i64) w A1 l1.length l1) (hc1 : l1.length ≤ c1) (h : spec_FewestFor.f k a0 l1 a2 a3 = some (r1, r2)) :
    Calls Try.prog 28 #[.int .i64 a0, .slice A1 l1.length c1, .int .i64 a2, .int .i64 a3] w fun e w' => e = .returned (.tuple #[.int .i64 r1, .bool r2]) ∧ Below w.heap.size w w' := by
  have HR1 := Aside0.mk hr1
  have HC1 := Aside0.mk hc1
  clear hr1 hc1
  have HB := Aside0.mk (Below.refl w.heap.size w)
  have H : ((spec_l02Method.f a0).bind fun t317 => (if t317 = true then ((spec_l02Is.f k l1).bind fun t318 => (if t318 = true then ((spec_l00In.f a2 0 (wrap64 ((l1.length : Int) - 1))).bind fun t319 => (if t319 = true then ((spec_l02Seats.f a3).bind fun t320 => (spec_FewestFor.j0 k a0 l1 a2 a3 (!t320))) else (spec_FewestFor.j0 k a0 l1 a2 a3 true))) else (spec_FewestFor.j0 k a0 l1 a2 a3 true))) else (spec_FewestFor.j0 k a0 l1 a2 a3 true))) = some (r1, r2) := h
  clear h
  have HC5 := Aside0.mk H
  clear H
  go_enter Try.func28, Try.ntmps28
  go_upto_region 1 with (fail)
  go_cut [34] (fun v34 wc => ∃ (kq : Nat) (x34_4 : Bool), v34 = .bool x34_4 ∧ Aside0 (spec_FewestFor.j0 kq a0 l1 a2 a3 x34_4 = some (r1, r2)) ∧ Aside0 (kq ≤ k) ∧ Aside0 (Below w.heap.size w wc))
  case first =>
    have H := HC5.out
    clear HC5
    replace H := Option.bind_eq_some_iff.mp H
    obtain ⟨t317, A60, H⟩ := H
    replace H : (if t317 = true then ((spec_l02Is.f k l1).bind fun t318 => (if t318 = true then ((spec_l00In.f a2 0 (wrap64 ((l1.length : Int) - 1))).bind fun t319 => (if t319 = true then ((spec_l02Seats.f a3).bind fun t320 => (spec_FewestFor.j0 k a0 l1 a2 a3 (!t320))) else (spec_FewestFor.j0 k a0 l1 a2 a3 true))) else (spec_FewestFor.j0 k a0 l1 a2 a3 true))) else (spec_FewestFor.j0 k a0 l1 a2 a3 true)) = some (r1, r2) := H
    have A6 := Aside0.mk A60
    clear A60
    by_cases c7 : t317 = true
    · subst c7
      have H1 : ((spec_l02Is.f k l1).bind fun t318 => (if t318 = true then ((spec_l00In.f a2 0 (wrap64 ((l1.length : Int) - 1))).bind fun t319 => (if t319 = true then ((spec_l02Seats.f a3).bind fun t320 => (spec_FewestFor.j0 k a0 l1 a2 a3 (!t320))) else (spec_FewestFor.j0 k a0 l1 a2 a3 true))) else (spec_FewestFor.j0 k a0 l1 a2 a3 true))) = some (r1, r2) := by rw [if_pos rfl] at H; exact H
      clear H
      have H := H1
      clear H1
      replace H := Option.bind_eq_some_iff.mp H
      obtain ⟨t318, A80, H⟩ := H
      replace H : (if t318 = true then ((spec_l00In.f a2 0 (wrap64 ((l1.length : Int) - 1))).bind fun t319 => (if t319 = true then ((spec_l02Seats.f a3).bind fun t320 => (spec_FewestFor.j0 k a0 l1 a2 a3 (!t320))) else (spec_FewestFor.j0 k a0 l1 a2 a3 true))) else (spec_FewestFor.j0 k a0 l1 a2 a3 true)) = some (r1, r2) := H
      have A8 := Aside0.mk A80
      clear A80
      by_cases c9 : t318 = true
      · subst c9
        have H1 : ((spec_l00In.f a2 0 (wrap64 ((l1.length : Int) - 1))).bind fun t319 => (if t319 = true then ((spec_l02Seats.f a3).bind fun t320 => (spec_FewestFor.j0 k a0 l1 a2 a3 (!t320))) else (spec_FewestFor.j0 k a0 l1 a2 a3 true))) = some (r1, r2) := by rw [if_pos rfl] at H; exact H
        clear H
        have H := H1
        clear H1
        replace H := Option.bind_eq_some_iff.mp H
        obtain ⟨t319, A100, H⟩ := H
        replace H : (if t319 = true then ((spec_l02Seats.f a3).bind fun t320 => (spec_FewestFor.j0 k a0 l1 a2 a3 (!t320))) else (spec_FewestFor.j0 k a0 l1 a2 a3 true)) = some (r1, r2) := H
        have A10 := Aside0.mk A100
        clear A100
        by_cases c11 : t319 = true
        · subst c11
          have H1 : ((spec_l02Seats.f a3).bind fun t320 => (spec_FewestFor.j0 k a0 l1 a2 a3 (!t320))) = some (r1, r2) := by rw [if_pos rfl] at H; exact H
          clear H
          have H := H1
          clear H1
          replace H := Option.bind_eq_some_iff.mp H
          obtain ⟨t320, A120, H⟩ := H
          replace H : (spec_FewestFor.j0 k a0 l1 a2 a3 (!t320)) = some (r1, r2) := H
          have A12 := Aside0.mk A120
          clear A120
          have H' := Aside0.mk H
          clear H
          as_aux_lemma =>
            go_wp2_with (first | ((with_reducible refine gate_callee (f := 49) rfl ?_); refine goesL_ (some 15) rfl rfl Try.func49 (by kernel_rfl) rfl #[.int .i64 a0] rfl (by (try simp only [List.map_toArray, List.map_cons, List.map_nil]); first | done | rfl | (simp only [List.length_drop, List.length_take]; rfl)) ?_; (with_reducible refine (spec_l02Method.calls a0 true _ A6.out).mono ?_); rintro e w' ⟨rfl, ⟨nd, rfl⟩⟩; refine ⟨_, rfl, ?_⟩) | (go_at_call 50; (with_reducible refine (spec_l02Is.calls k _ _ l1 true _ ?side1 ?side2 A8.out).mono ?_); (case side1 => repeat (first | exact (Kd.C_below HR1.out (by repeat (first | (with_reducible first | exact HB.out | apply below_alloc | apply pw_below_drewN | apply below_drew1) | exact HB.out))) | (with_reducible refine Kd.C_alloc ?_ _) | (with_reducible refine Kd.C_drewN ?_ _) | (with_reducible refine Kd.C_drew ?_))); (case side2 => exact HC1.out); rintro e w' ⟨rfl, ⟨nd, rfl⟩⟩) | (go_at_call 56; (with_reducible refine (spec_l00In.calls a2 0 (wrap64 ((l1.length : Int) - 1)) true _ A10.out).mono ?_); rintro e w' ⟨rfl, ⟨nd, rfl⟩⟩) | (go_at_call 51; (with_reducible refine (spec_l02Seats.calls a3 t320 _ A12.out).mono ?_); rintro e w' ⟨rfl, ⟨nd, rfl⟩⟩))
            go_meet
            case rel => exact ⟨_, (!t320), (by first | rfl | (simp; done) | (simp [*]; done)), H', ⟨by first | omega | exact Nat.le_refl _⟩, ⟨by repeat (first | (with_reducible first | exact HB.out | apply below_alloc | apply pw_below_drewN | apply below_drew1) | exact HB.out)⟩⟩
        · replace c11 := Bool.eq_false_iff.mpr c11
          subst c11
          have H1 : (spec_FewestFor.j0 k a0 l1 a2 a3 true) = some (r1, r2) := by rw [if_neg (show ¬ (false = true) by decide)] at H; exact H
          clear H
          have H := H1
          clear H1
          have H' := Aside0.mk H
          clear H
          as_aux_lemma =>
            go_wp2_with (first | ((with_reducible refine gate_callee (f := 49) rfl ?_); refine goesL_ (some 15) rfl rfl Try.func49 (by kernel_rfl) rfl #[.int .i64 a0] rfl (by (try simp only [List.map_toArray, List.map_cons, List.map_nil]); first | done | rfl | (simp only [List.length_drop, List.length_take]; rfl)) ?_; (with_reducible refine (spec_l02Method.calls a0 true _ A6.out).mono ?_); rintro e w' ⟨rfl, ⟨nd, rfl⟩⟩; refine ⟨_, rfl, ?_⟩) | (go_at_call 50; (with_reducible refine (spec_l02Is.calls k _ _ l1 true _ ?side1 ?side2 A8.out).mono ?_); (case side1 => repeat (first | exact (Kd.C_below HR1.out (by repeat (first | (with_reducible first | exact HB.out | apply below_alloc | apply pw_below_drewN | apply below_drew1) | exact HB.out))) | (with_reducible refine Kd.C_alloc ?_ _) | (with_reducible refine Kd.C_drewN ?_ _) | (with_reducible refine Kd.C_drew ?_))); (case side2 => exact HC1.out); rintro e w' ⟨rfl, ⟨nd, rfl⟩⟩) | (go_at_call 56; (with_reducible refine (spec_l00In.calls a2 0 (wrap64 ((l1.length : Int) - 1)) false _ A10.out).mono ?_); rintro e w' ⟨rfl, ⟨nd, rfl⟩⟩))
            go_meet
            case rel => exact ⟨_, (true), (by first | rfl | (simp; done) | (simp [*]; done)), H', ⟨by first | omega | exact Nat.le_refl _⟩, ⟨by repeat (first | (with_reducible first | exact HB.out | apply below_alloc | apply pw_below_drewN | apply below_drew1) | exact HB.out)⟩⟩
      · replace c9 := Bool.eq_false_iff.mpr c9
        subst c9
        have H1 : (spec_FewestFor.j0 k a0 l1 a2 a3 true) = some (r1, r2) := by rw [if_neg (show ¬ (false = true) by decide)] at H; exact H
        clear H
        have H := H1
        clear H1
        have H' := Aside0.mk H
        clear H
        as_aux_lemma =>
          go_wp2_with (first | ((with_reducible refine gate_callee (f := 49) rfl ?_); refine goesL_ (some 15) rfl rfl Try.func49 (by kernel_rfl) rfl #[.int .i64 a0] rfl (by (try simp only [List.map_toArray, List.map_cons, List.map_nil]); first | done | rfl | (simp only [List.length_drop, List.length_take]; rfl)) ?_; (with_reducible refine (spec_l02Method.calls a0 true _ A6.out).mono ?_); rintro e w' ⟨rfl, ⟨nd, rfl⟩⟩; refine ⟨_, rfl, ?_⟩) | (go_at_call 50; (with_reducible refine (spec_l02Is.calls k _ _ l1 false _ ?side1 ?side2 A8.out).mono ?_); (case side1 => repeat (first | exact (Kd.C_below HR1.out (by repeat (first | (with_reducible first | exact HB.out | apply below_alloc | apply pw_below_drewN | apply below_drew1) | exact HB.out))) | (with_reducible refine Kd.C_alloc ?_ _) | (with_reducible refine Kd.C_drewN ?_ _) | (with_reducible refine Kd.C_drew ?_))); (case side2 => exact HC1.out); rintro e w' ⟨rfl, ⟨nd, rfl⟩⟩))
          go_meet
          case rel => exact ⟨_, (true), (by first | rfl | (simp; done) | (simp [*]; done)), H', ⟨by first | omega | exact Nat.le_refl _⟩, ⟨by repeat (first | (with_reducible first | exact HB.out | apply below_alloc | apply pw_below_drewN | apply below_drew1) | exact HB.out)⟩⟩
    · replace c7 := Bool.eq_false_iff.mpr c7
      subst c7
      have H1 : (spec_FewestFor.j0 k a0 l1 a2 a3 true) = some (r1, r2) := by rw [if_neg (show ¬ (false = true) by decide)] at H; exact H
      clear H
      have H := H1
      clear H1
      have H' := Aside0.mk H
      clear H
      as_aux_lemma =>
        go_wp2_with (first | ((with_reducible refine gate_callee (f := 49) rfl ?_); refine goesL_ (some 15) rfl rfl Try.func49 (by kernel_rfl) rfl #[.int .i64 a0] rfl (by (try simp only [List.map_toArray, List.map_cons, List.map_nil]); first | done | rfl | (simp only [List.length_drop, List.length_take]; rfl)) ?_; (with_reducible refine (spec_l02Method.calls a0 false _ A6.out).mono ?_); rintro e w' ⟨rfl, ⟨nd, rfl⟩⟩; refine ⟨_, rfl, ?_⟩))
        go_meet
        case rel => exact ⟨_, (true), (by first | rfl | (simp; done) | (simp [*]; done)), H', ⟨by first | omega | exact Nat.le_refl _⟩, ⟨by repeat (first | (with_reducible first | exact HB.out | apply below_alloc | apply pw_below_drewN | apply below_drew1) | exact HB.out)⟩⟩
  case rest =>
    clear HC5
    try clear c1
    try clear c2
    try clear p2
    try clear c4
    try clear p6
    try clear c7
    try clear c9
    try clear c11
    obtain ⟨kq, x34_4, rfl, HA, HJ4, HB⟩ := hcut
    cases kq with
    | zero => exact absurd HA.out (by simp [spec_FewestFor.j0])
    | succ kj4 =>
      have H := HA.out
      clear HA
      simp only [spec_FewestFor.j0] at H
      by_cases c13 : x34_4 = true
      · subst c13
        have H1 : (some (0, false)) = some (r1, r2) := by rw [if_pos rfl] at H; exact H
        clear H
        have H := H1
        clear H1
        simp only [Option.some.injEq, Prod.mk.injEq] at H
        obtain ⟨rfl, rfl⟩ := H
        as_aux_lemma =>
          go_wp2
          go_ret2
          exact ⟨by first | rfl | (simp [errW_none, errW_some] <;> rfl) | (simp [*, errW_none, errW_some] <;> rfl), by repeat (first | (with_reducible first | exact HB.out | apply below_alloc | apply pw_below_drewN | apply below_drew1) | exact HB.out)⟩
      · replace c13 := Bool.eq_false_iff.mpr c13
        subst c13
        have H1 : ((spec_l00Own.f l1).bind fun t321 => (if 0 ≤ a2 then (if a2 < (t321.length : Int) then ((some (t321.set (a2 : Int).toNat 0 : List Int)).bind fun y324 => ((spec_l02Is.f kj4 y324).bind fun t325 => (if t325 = true then (spec_FewestFor.j1 kj4 a0 a2 a3 0 1000000 y324) else (spec_FewestFor.j1 kj4 a0 a2 a3 1 1000000 y324)))) else (none)) else (none))) = some (r1, r2) := by rw [if_neg (show ¬ (false = true) by decide)] at H; exact H
        clear H
        have H := H1
        clear H1
        replace H := Option.bind_eq_some_iff.mp H
        obtain ⟨t321, A140, H⟩ := H
        replace H : (if 0 ≤ a2 then (if a2 < (t321.length : Int) then ((some (t321.set (a2 : Int).toNat 0 : List Int)).bind fun y324 => ((spec_l02Is.f kj4 y324).bind fun t325 => (if t325 = true then (spec_FewestFor.j1 kj4 a0 a2 a3 0 1000000 y324) else (spec_FewestFor.j1 kj4 a0 a2 a3 1 1000000 y324)))) else (none)) else (none)) = some (r1, r2) := H
        have A14 := Aside0.mk A140
        clear A140
        by_cases c15 : 0 ≤ a2
        · rw [if_pos c15] at H
          have c15b0 : decide (0 ≤ a2) = true := decide_eq_true c15
          clear c15
          by_cases c16 : a2 < (t321.length : Int)
          · rw [if_pos c16] at H
            have c16b0 : decide (a2 < (t321.length : Int)) = true := decide_eq_true c16
            clear c16
            obtain ⟨y324, hy324⟩ : ∃ y_ : List Int, y_ = (t321.set (a2 : Int).toNat 0) := ⟨_, rfl⟩
            replace H : ((spec_l02Is.f kj4 y324).bind fun t325 => (if t325 = true then (spec_FewestFor.j1 kj4 a0 a2 a3 0 1000000 y324) else (spec_FewestFor.j1 kj4 a0 a2 a3 1 1000000 y324))) = some (r1, r2) := by first | (rw [hy324]; with_reducible exact H) | (have H2_ := (Option.bind_some _ _).symm.trans H; rw [hy324]; with_reducible exact H2_) | (have H2_ := (Option.bind_some _ _).symm.trans H; with_reducible exact H2_) | with_reducible exact H | (rw [hy324]; exact H) | exact H
            have Ny324 := Aside0.mk hy324
            clear hy324
            replace H := Option.bind_eq_some_iff.mp H
            obtain ⟨t325, A180, H⟩ := H
            replace H : (if t325 = true then (spec_FewestFor.j1 kj4 a0 a2 a3 0 1000000 y324) else (spec_FewestFor.j1 kj4 a0 a2 a3 1 1000000 y324)) = some (r1, r2) := H
            have A18 := Aside0.mk A180
            clear A180
            have HC19 := Aside0.mk H
            clear H
            go_upto_if 42 with (first | ((with_reducible refine gate_callee (f := 64) rfl ?_); refine goesL_ (some 36) rfl rfl Try.func64 (by kernel_rfl) rfl #[.slice A1 l1.length c1] rfl (by (try simp only [List.map_toArray, List.map_cons, List.map_nil]); first | done | rfl | (simp only [List.length_drop, List.length_take]; rfl)) ?_; (with_reducible refine (spec_l00Own.calls _ _ l1 t321 _ ?side1 ?side2 A14.out).mono ?_); (case side1 => repeat (first | exact (Kd.C_below HR1.out HB.out) | (with_reducible refine Kd.C_alloc ?_ _) | (with_reducible refine Kd.C_drewN ?_ _) | (with_reducible refine Kd.C_drew ?_))); (case side2 => exact HC1.out); rintro e w20 ⟨v322, rfl, ho0, hb⟩; refine ⟨_, rfl, ?_⟩; have n0_ := Aside0.mk (Kd.R_lower ho0 (below_size (by repeat (first | (with_reducible first | exact HB.out | apply below_alloc | apply pw_below_drewN | apply below_drew1) | exact HB.out)))); have n1_ := Aside0.mk (below_step (by repeat (first | (with_reducible first | exact HB.out | apply below_alloc | apply pw_below_drewN | apply below_drew1) | exact HB.out)) hb); clear HB; have HO323 := n0_; have HB := n1_; clear n0_ n1_; (try clear hb); (try clear hb2); (try clear hk); (try clear hi); (try clear ho0); have p17 : 0 ≤ (a2 : Int) := of_decide_eq_true (by first | (with_reducible assumption) | assumption); have q17 : (a2 : Int) < ((t321.length : Int) : Int) := of_decide_eq_true (by first | (with_reducible assumption) | assumption); obtain ⟨go17, co17, eo17, gb17, gl17, cl17, HG17⟩ := Kd.R_form HO323.out (by omega); (first | cases eo17 | (injection eo17 with ea_ en_ ec_; (first | subst ea_ | (injection ea_ with ea_; subst ea_)); subst ec_; clear en_)); have GB17 := Aside0.mk gb17; have GG17 := Aside0.mk HG17; clear gb17 gl17 HG17; obtain ⟨hx17_0, hf17_0⟩ := Kd.R_celln 0 HO323.out (a2 : Int) p17 q17; replace p17 := eq_true p17; replace q17 := eq_true q17; obtain ⟨hy21_, hz21_⟩ := Kd.R_celln 0 HO323.out (a2 : Int) (of_decide_eq_true (by first | (with_reducible assumption) | assumption)) (of_decide_eq_true (by first | (with_reducible assumption) | assumption)); have HP21 := Kd.R_putg HO323.out (a2 : Int) 0) | ((with_reducible refine gate_store (t := 2) (p := 39) rfl ?_); refine store_event (t := 2) (p := 39) (v := ?vo_w22) (w1 := (w20.setCell ⟨go17, (a2 : Int).toNat, none⟩ (.int .i64 0))) ?hg ?ho ?hn ?hr ?_; (case ho => rfl); (case hg => rfl); (case hn => rfl); (case hr => first | (go_simp; done) | (go_simp; rfl)); intro w22 hw; have hg : w20.grownBy w22 (some go17) := (by rw [hw]; exact HP21.2); have hp_ : Kd.R (Kd.int .i64) 2 w22 w.heap.size (fun _ => True) (.slice (some ⟨go17, 0, none⟩) t321.length co17) y324 := (by rw [hw, Ny324.out]; exact HP21.1); clear HP21; have n0_ := Aside0.mk (hp_); have n1_ := Aside0.mk ((by rw [hw]; exact below_set (HB.out) GB17.out : Below w.heap.size w w22)); clear HO323; clear HB; have HO323 := n0_; have HB := n1_; clear n0_ n1_; clear hg hw hp_) | ((with_reducible refine gate_callee (f := 50) rfl ?_); refine goesL_ (some 41) rfl rfl Try.func50 (by kernel_rfl) rfl #[.slice (some ⟨go17, 0, none⟩) y324.length co17] rfl (by (try simp only [List.map_toArray, List.map_cons, List.map_nil]); first | done | (rw [show y324.length = t321.length from (Kd.R_reads' HO323.out).1.symm] <;> rfl) | rfl | (simp only [List.length_drop, List.length_take]; rfl)) ?_; (with_reducible refine (spec_l02Is.calls kj4 _ _ y324 t325 _ ?side1 ?side2 A18.out).mono ?_); (case side1 => repeat (first | exact (Kd.R_reads' HO323.out).2.2 | (with_reducible refine Kd.C_alloc ?_ _) | (with_reducible refine Kd.C_drewN ?_ _) | (with_reducible refine Kd.C_drew ?_))); (case side2 => rw [show y324.length = t321.length from (Kd.R_reads' HO323.out).1.symm]; exact (Kd.R_reads' HO323.out).2.1); rintro e w' ⟨rfl, ⟨nd, rfl⟩⟩; refine ⟨_, rfl, ?_⟩))
            (try simp only [Act.put, List.setIfInBounds_toArray, List.set_cons_zero, List.set_cons_succ])
            go_cut [10] (fun v10 wc => ∃ (kq : Nat) (x10_18 : Int), v10 = .int .i64 x10_18 ∧ Aside0 (spec_FewestFor.j1 kq a0 a2 a3 x10_18 1000000 y324 = some (r1, r2)) ∧ Aside0 (kq ≤ kj4) ∧ Aside0 (Kd.R (Kd.int .i64) 2 wc w.heap.size (fun _ => True) (.slice (some ⟨go17, 0, none⟩) t321.length co17) y324) ∧ Aside0 (Below w.heap.size w wc))
            case first =>
              have H := HC19.out
              clear HC19
              by_cases c23 : t325 = true
              · subst c23
                have H1 : (spec_FewestFor.j1 kj4 a0 a2 a3 0 1000000 y324) = some (r1, r2) := by rw [if_pos rfl] at H; exact H
                clear H
                have H := H1
                clear H1
                have H' := Aside0.mk H
                clear H
                as_aux_lemma =>
                  go_wp2
                  go_meet
                  case rel => exact ⟨_, (0), (by first | rfl | (simp; done) | (simp [*]; done)), H', ⟨by have := HJ4.out; first | omega | exact Nat.le_refl _⟩, ⟨by (with_reducible repeat (first | apply Kd.R_alloc | apply Kd.R_drewN | apply Kd.R_drew)); exact HO323.out⟩, ⟨by repeat (first | (with_reducible first | exact HB.out | apply below_alloc | apply pw_below_drewN | apply below_drew1) | exact HB.out)⟩⟩
              · replace c23 := Bool.eq_false_iff.mpr c23
                subst c23
                have H1 : (spec_FewestFor.j1 kj4 a0 a2 a3 1 1000000 y324) = some (r1, r2) := by rw [if_neg (show ¬ (false = true) by decide)] at H; exact H
                clear H
                have H := H1
                clear H1
                have H' := Aside0.mk H
                clear H
                as_aux_lemma =>
                  go_wp2
                  go_meet
                  case rel => exact ⟨_, (1), (by first | rfl | (simp; done) | (simp [*]; done)), H', ⟨by have := HJ4.out; first | omega | exact Nat.le_refl _⟩, ⟨by (with_reducible repeat (first | apply Kd.R_alloc | apply Kd.R_drewN | apply Kd.R_drew)); exact HO323.out⟩, ⟨by repeat (first | (with_reducible first | exact HB.out | apply below_alloc | apply pw_below_drewN | apply below_drew1) | exact HB.out)⟩⟩
            case rest =>
              clear HC19
              try clear c1
              try clear p1
              try clear q1
              try clear hx1
              try clear c2
              try clear p2
              try clear c4
              try clear c5
              try clear c6
              try clear p6
              try clear c7
              try clear c9
              try clear c11
              try clear c13
              try clear c15
              try clear c15b0
              try clear c16
              try clear c16b0
              try clear p17
              try clear q17
              try clear hx17
              try clear hf17
              try clear c23
              try clear hx17_0
              try clear p17
              try clear p2
              try clear p6
              try clear q17
              obtain ⟨kq, x10_18, rfl, HA, HJ18, HO_12, HB⟩ := hcut
              have hl12_18 := (Kd.R_reads' HO_12.out).1
              rw [hl12_18] at HO_12
              (try simp only [hl12_18])
              cases kq with
              | zero => exact absurd HA.out (by simp [spec_FewestFor.j1])
              | succ kj18 =>
                have H := HA.out
                clear HA
                simp only [spec_FewestFor.j1] at H
                by_cases c24 : 0 ≤ a2
                · rw [if_pos c24] at H
                  have c24b0 : decide (0 ≤ a2) = true := decide_eq_true c24
                  clear c24
                  by_cases c25 : a2 < (y324.length : Int)
                  · rw [if_pos c25] at H
                    have c25b0 : decide (a2 < (y324.length : Int)) = true := decide_eq_true c25
                    clear c25
                    obtain ⟨y326, hy326⟩ : ∃ y_ : List Int, y_ = (y324.set (a2 : Int).toNat 1000000) := ⟨_, rfl⟩
                    replace H : ((spec_l02By.f kj18 a0 y326 100).bind fun t327 => (if a2 < (t327.length : Int) then (if (rd t327 a2) < a3 then (some (0, false)) else (spec_FewestFor.l0 kj18 a0 a2 a3 x10_18 1000000 y326)) else (none))) = some (r1, r2) := by first | (rw [hy326]; with_reducible exact H) | (have H2_ := (Option.bind_some _ _).symm.trans H; rw [hy326]; with_reducible exact H2_) | (have H2_ := (Option.bind_some _ _).symm.trans H; with_reducible exact H2_) | with_reducible exact H | (rw [hy326]; exact H) | exact H
                    have Ny326 := Aside0.mk hy326
                    clear hy326
                    replace H := Option.bind_eq_some_iff.mp H
                    obtain ⟨t327, A270, H⟩ := H
                    replace H : (if a2 < (t327.length : Int) then (if (rd t327 a2) < a3 then (some (0, false)) else (spec_FewestFor.l0 kj18 a0 a2 a3 x10_18 1000000 y326)) else (none)) = some (r1, r2) := H
                    have A27 := Aside0.mk A270
                    clear A270
                    by_cases c28 : a2 < (t327.length : Int)
                    · rw [if_pos c28] at H
                      have c28b0 : decide (a2 < (t327.length : Int)) = true := decide_eq_true c28
                      clear c28
                      by_cases c29 : (rd t327 a2) < a3
                      · rw [if_pos c29] at H
                        have c29b0 : decide ((rd t327 a2) < a3) = true := decide_eq_true c29
                        clear c29
                        simp only [Option.some.injEq, Prod.mk.injEq] at H
                        obtain ⟨rfl, rfl⟩ := H
                        have p26 : 0 ≤ (a2 : Int) := of_decide_eq_true (by first | (with_reducible assumption) | assumption)
                        have q26 : (a2 : Int) < ((y324.length : Int) : Int) := of_decide_eq_true (by first | (with_reducible assumption) | assumption)
                        obtain ⟨hx26_0, hf26_0⟩ := Kd.R_celln 0 HO_12.out (a2 : Int) p26 q26
                        replace p26 := eq_true p26
                        replace q26 := eq_true q26
                        have HP30 := Kd.R_putg HO_12.out (a2 : Int) 1000000
                        as_aux_lemma =>
                          go_wp2_with (first | ((with_reducible refine gate_store (t := 2) (p := 46) rfl ?_); refine store_event (t := 2) (p := 46) (v := ?vo_w31) (w1 := (wc.setCell ⟨go17, (a2 : Int).toNat, none⟩ (.int .i64 1000000))) ?hg ?ho ?hn ?hr ?_; (case ho => rfl); (case hg => rfl); (case hn => rfl); (case hr => first | (go_simp; done) | (go_simp; rfl)); intro w31 hw; have hg : wc.grownBy w31 (some go17) := (by rw [hw]; exact HP30.2); have hp_ : Kd.R (Kd.int .i64) 2 w31 w.heap.size (fun _ => True) (.slice (some ⟨go17, 0, none⟩) y324.length co17) y326 := (by rw [hw, Ny326.out]; exact HP30.1); clear HP30; have n0_ := Aside0.mk (hp_); have n1_ := Aside0.mk ((by rw [hw]; exact below_set (HB.out) GB17.out : Below w.heap.size w w31)); clear HO_12; clear HB; have HO_12 := n0_; have HB := n1_; clear n0_ n1_; clear hg hw hp_) | ((with_reducible refine gate_callee (f := 52) rfl ?_); refine goesL_ (some 49) rfl rfl Try.func52 (by kernel_rfl) rfl #[.int .i64 a0, .slice (some ⟨go17, 0, none⟩) y326.length co17, .int .i64 100] rfl (by (try simp only [List.map_toArray, List.map_cons, List.map_nil]); first | done | (rw [show y326.length = y324.length from (Kd.R_reads' HO_12.out).1.symm] <;> rfl) | rfl | (simp only [List.length_drop, List.length_take]; rfl)) ?_; (with_reducible refine (spec_l02By.calls kj18 a0 _ _ y326 100 t327 _ ?side1 ?side2 A27.out).mono ?_); (case side1 => repeat (first | exact (Kd.R_reads' HO_12.out).2.2 | (with_reducible refine Kd.C_alloc ?_ _) | (with_reducible refine Kd.C_drewN ?_ _) | (with_reducible refine Kd.C_drew ?_))); (case side2 => rw [show y326.length = y324.length from (Kd.R_reads' HO_12.out).1.symm]; exact (Kd.R_reads' HO_12.out).2.1); rintro e w32 ⟨v328, rfl, ho0, hb⟩; refine ⟨_, rfl, ?_⟩; have n0_ := Aside0.mk (Kd.R_elder' (by (with_reducible repeat (first | apply Kd.R_alloc | apply Kd.R_drewN | apply Kd.R_drew)); exact HO_12.out) (Kd.R_base ho0) hb); have n1_ := Aside0.mk (Kd.R_lower (Kd.R_new' ho0 (Kd.R_lt (by (with_reducible repeat (first | apply Kd.R_alloc | apply Kd.R_drewN | apply Kd.R_drew)); exact HO_12.out))) (below_size (by repeat (first | (with_reducible first | exact HB.out | apply below_alloc | apply pw_below_drewN | apply below_drew1) | exact HB.out)))); have n2_ := Aside0.mk (below_step (by repeat (first | (with_reducible first | exact HB.out | apply below_alloc | apply pw_below_drewN | apply below_drew1) | exact HB.out)) hb); clear HO_12; clear HB; have HO_12 := n0_; have HO329 := n1_; have HB := n2_; clear n0_ n1_ n2_; (try clear hb); (try clear hb2); (try clear hk); (try clear hi); (try clear ho0); obtain ⟨Ao33, co33, eo33⟩ := Kd.R_slice HO329.out; subst eo33; have p330 : 0 ≤ (a2 : Int) := of_decide_eq_true (by first | (with_reducible assumption) | assumption); have q330 : a2 < (t327.length : Int) := of_decide_eq_true (by first | (with_reducible assumption) | assumption); obtain ⟨ad330, e330, hx330_0⟩ := Kd.at_int (Kd.R_reads' HO329.out).2.2 a2 p330 q330; cases e330; replace p330 := eq_true p330; replace q330 := eq_true q330))
                          go_ret2
                          exact ⟨by first | rfl | (simp [errW_none, errW_some] <;> rfl) | (simp [*, errW_none, errW_some] <;> rfl), by repeat (first | (with_reducible first | exact HB.out | apply below_alloc | apply pw_below_drewN | apply below_drew1) | exact HB.out)⟩
                      · rw [if_neg c29] at H
                        have c29b0 : decide ((rd t327 a2) < a3) = false := decide_eq_false c29
                        clear c29
                        have H' := Aside0.mk H
                        clear H
                        have p26 : 0 ≤ (a2 : Int) := of_decide_eq_true (by first | (with_reducible assumption) | assumption)
                        have q26 : (a2 : Int) < ((y324.length : Int) : Int) := of_decide_eq_true (by first | (with_reducible assumption) | assumption)
                        obtain ⟨hx26_0, hf26_0⟩ := Kd.R_celln 0 HO_12.out (a2 : Int) p26 q26
                        replace p26 := eq_true p26
                        replace q26 := eq_true q26
                        have HP34 := Kd.R_putg HO_12.out (a2 : Int) 1000000
                        go_wp2_with (first | ((with_reducible refine gate_store (t := 2) (p := 46) rfl ?_); refine store_event (t := 2) (p := 46) (v := ?vo_w35) (w1 := (wc.setCell ⟨go17, (a2 : Int).toNat, none⟩ (.int .i64 1000000))) ?hg ?ho ?hn ?hr ?_; (case ho => rfl); (case hg => rfl); (case hn => rfl); (case hr => first | (go_simp; done) | (go_simp; rfl)); intro w35 hw; have hg : wc.grownBy w35 (some go17) := (by rw [hw]; exact HP34.2); have hp_ : Kd.R (Kd.int .i64) 2 w35 w.heap.size (fun _ => True) (.slice (some ⟨go17, 0, none⟩) y324.length co17) y326 := (by rw [hw, Ny326.out]; exact HP34.1); clear HP34; have n0_ := Aside0.mk (hp_); have n1_ := Aside0.mk ((by rw [hw]; exact below_set (HB.out) GB17.out : Below w.heap.size w w35)); clear HO_12; clear HB; have HO_12 := n0_; have HB := n1_; clear n0_ n1_; clear hg hw hp_) | ((with_reducible refine gate_callee (f := 52) rfl ?_); refine goesL_ (some 49) rfl rfl Try.func52 (by kernel_rfl) rfl #[.int .i64 a0, .slice (some ⟨go17, 0, none⟩) y326.length co17, .int .i64 100] rfl (by (try simp only [List.map_toArray, List.map_cons, List.map_nil]); first | done | (rw [show y326.length = y324.length from (Kd.R_reads' HO_12.out).1.symm] <;> rfl) | rfl | (simp only [List.length_drop, List.length_take]; rfl)) ?_; (with_reducible refine (spec_l02By.calls kj18 a0 _ _ y326 100 t327 _ ?side1 ?side2 A27.out).mono ?_); (case side1 => repeat (first | exact (Kd.R_reads' HO_12.out).2.2 | (with_reducible refine Kd.C_alloc ?_ _) | (with_reducible refine Kd.C_drewN ?_ _) | (with_reducible refine Kd.C_drew ?_))); (case side2 => rw [show y326.length = y324.length from (Kd.R_reads' HO_12.out).1.symm]; exact (Kd.R_reads' HO_12.out).2.1); rintro e w36 ⟨v328, rfl, ho0, hb⟩; refine ⟨_, rfl, ?_⟩; have n0_ := Aside0.mk (Kd.R_elder' (by (with_reducible repeat (first | apply Kd.R_alloc | apply Kd.R_drewN | apply Kd.R_drew)); exact HO_12.out) (Kd.R_base ho0) hb); have n1_ := Aside0.mk (Kd.R_lower (Kd.R_new' ho0 (Kd.R_lt (by (with_reducible repeat (first | apply Kd.R_alloc | apply Kd.R_drewN | apply Kd.R_drew)); exact HO_12.out))) (below_size (by repeat (first | (with_reducible first | exact HB.out | apply below_alloc | apply pw_below_drewN | apply below_drew1) | exact HB.out)))); have n2_ := Aside0.mk (below_step (by repeat (first | (with_reducible first | exact HB.out | apply below_alloc | apply pw_below_drewN | apply below_drew1) | exact HB.out)) hb); clear HO_12; clear HB; have HO_12 := n0_; have HO329 := n1_; have HB := n2_; clear n0_ n1_ n2_; (try clear hb); (try clear hb2); (try clear hk); (try clear hi); (try clear ho0); obtain ⟨Ao37, co37, eo37⟩ := Kd.R_slice HO329.out; subst eo37; have p330 : 0 ≤ (a2 : Int) := of_decide_eq_true (by first | (with_reducible assumption) | assumption); have q330 : a2 < (t327.length : Int) := of_decide_eq_true (by first | (with_reducible assumption) | assumption); obtain ⟨ad330, e330, hx330_0⟩ := Kd.at_int (Kd.R_reads' HO329.out).2.2 a2 p330 q330; cases e330; replace p330 := eq_true p330; replace q330 := eq_true q330))
                        try simp only [Act.put, List.setIfInBounds_toArray, List.set_cons_zero, List.set_cons_succ]
                        go_loopg [10, 11] kj18 (fun kq v10 v11 w' => ∃ (x10_3 : Int) (x11_3 : Int) (x12_3 : List Int), v10 = .int .i64 x10_3 ∧ v11 = .int .i64 x11_3 ∧ Aside0 (spec_FewestFor.l0 kq a0 a2 a3 x10_3 x11_3 x12_3 = some (r1, r2)) ∧ Aside0 (kq ≤ kj18) ∧ Aside0 (Kd.R (Kd.int .i64) 2 w' w.heap.size (fun _ => True) (.slice (some ⟨go17, 0, none⟩) y324.length co17) x12_3) ∧ Aside0 (Below w.heap.size w w'))
                        case atStart => exact ⟨(x10_18), (1000000), (y326), (by first | rfl | (simp; done) | (simp [*]; done)), (by first | rfl | (simp; done) | (simp [*]; done)), H', ⟨Nat.le_refl _⟩, ⟨by (try simp only [hl12_18]); (with_reducible repeat (first | apply Kd.R_alloc | apply Kd.R_drewN | apply Kd.R_drew)); exact Kd.R_mono HO_12.out (fun _ hk => trivial)⟩, ⟨by repeat (first | (with_reducible first | exact HB.out | apply below_alloc | apply pw_below_drewN | apply below_drew1) | exact HB.out)⟩⟩
                        case round =>
                          clear H'
                          try clear c1
                          try clear p1
                          try clear q1
                          try clear hx1
                          try clear c2
                          try clear p2
                          try clear q2
                          try clear hx2
                          try clear p3
                          try clear q3
                          try clear hx3
                          try clear c4
                          try clear c5
                          try clear c6
                          try clear p6
                          try clear c7
                          try clear c9
                          try clear c11
                          try clear c13
                          try clear c15
                          try clear c15b0
                          try clear c16
                          try clear c16b0
                          try clear p17
                          try clear q17
                          try clear hx17
                          try clear hf17
                          try clear c23
                          try clear c24
                          try clear c24b0
                          try clear c25
                          try clear c25b0
                          try clear p26
                          try clear q26
                          try clear hx26
                          try clear hf26
                          try clear c28
                          try clear c28b0
                          try clear c29
                          try clear c29b0
                          try clear p33
                          try clear q33
                          try clear hx33
                          try clear hx17_0
                          try clear hx26_0
                          try clear hx330_0
                          try clear p1
                          try clear p17
                          try clear p2
                          try clear p26
                          try clear p330
                          try clear p6
                          try clear q1
                          try clear q17
                          try clear q26
                          try clear q330
                          obtain ⟨x10_3, x11_3, x12_3, rfl, rfl, HA, HK3, HO_12, HB⟩ := hrel
                          have hl12_3 := (Kd.R_reads' HO_12.out).1
                          rw [hl12_3] at HO_12
                          (try simp only [hl12_3])
                          cases gk with
                          | zero => exact absurd HA.out (by simp [spec_FewestFor.l0])
                          | succ k3 =>
                            have H := HA.out
                            clear HA
                            simp only [spec_FewestFor.l0] at H
                            by_cases c38 : x10_3 < x11_3
                            · rw [if_pos c38] at H
                              have c38b0 : decide (x10_3 < x11_3) = true := decide_eq_true c38
                              clear c38
                              by_cases c39 : 0 ≤ a2
                              · rw [if_pos c39] at H
                                have c39b0 : decide (0 ≤ a2) = true := decide_eq_true c39
                                clear c39
                                by_cases c40 : a2 < (x12_3.length : Int)
                                · rw [if_pos c40] at H
                                  have c40b0 : decide (a2 < (x12_3.length : Int)) = true := decide_eq_true c40
                                  clear c40
                                  obtain ⟨y331, hy331⟩ : ∃ y_ : List Int, y_ = (x12_3.set (a2 : Int).toNat (wrap64 (Int.tdiv (wrap64 (x10_3 + x11_3)) 2))) := ⟨_, rfl⟩
                                  replace H : ((spec_l02By.f k3 a0 y331 100).bind fun t332 => (if a2 < (t332.length : Int) then (if (rd t332 a2) ≥ a3 then (spec_FewestFor.l0 k3 a0 a2 a3 x10_3 (wrap64 (Int.tdiv (wrap64 (x10_3 + x11_3)) 2)) y331) else (spec_FewestFor.l0 k3 a0 a2 a3 (wrap64 ((wrap64 (Int.tdiv (wrap64 (x10_3 + x11_3)) 2)) + 1)) x11_3 y331)) else (none))) = some (r1, r2) := by first | (rw [hy331]; with_reducible exact H) | (have H2_ := (Option.bind_some _ _).symm.trans H; rw [hy331]; with_reducible exact H2_) | (have H2_ := (Option.bind_some _ _).symm.trans H; with_reducible exact H2_) | with_reducible exact H | (rw [hy331]; exact H) | exact H
                                  have Ny331 := Aside0.mk hy331
                                  clear hy331
                                  replace H := Option.bind_eq_some_iff.mp H
                                  obtain ⟨t332, A420, H⟩ := H
                                  replace H : (if a2 < (t332.length : Int) then (if (rd t332 a2) ≥ a3 then (spec_FewestFor.l0 k3 a0 a2 a3 x10_3 (wrap64 (Int.tdiv (wrap64 (x10_3 + x11_3)) 2)) y331) else (spec_FewestFor.l0 k3 a0 a2 a3 (wrap64 ((wrap64 (Int.tdiv (wrap64 (x10_3 + x11_3)) 2)) + 1)) x11_3 y331)) else (none)) = some (r1, r2) := H
                                  have A42 := Aside0.mk A420
                                  clear A420
                                  by_cases c43 : a2 < (t332.length : Int)
                                  · rw [if_pos c43] at H
                                    have c43b0 : decide (a2 < (t332.length : Int)) = true := decide_eq_true c43
                                    clear c43
                                    by_cases c44 : (rd t332 a2) ≥ a3
                                    · rw [if_pos c44] at H
                                      have c44b0 : decide (a3 ≤ (rd t332 a2)) = true := decide_eq_true c44
                                      clear c44
                                      have H' := Aside0.mk H
                                      clear H
                                      have p41 : 0 ≤ (a2 : Int) := of_decide_eq_true (by first | (with_reducible assumption) | assumption)
                                      have q41 : (a2 : Int) < ((x12_3.length : Int) : Int) := of_decide_eq_true (by first | (with_reducible assumption) | assumption)
                                      obtain ⟨hx41_0, hf41_0⟩ := Kd.R_celln 0 HO_12.out (a2 : Int) p41 q41
                                      replace p41 := eq_true p41
                                      replace q41 := eq_true q41
                                      have HP45 := Kd.R_putg HO_12.out (a2 : Int) (wrap64 (Int.tdiv (wrap64 (x10_3 + x11_3)) 2))
                                      as_aux_lemma =>
                                        go_wp2_with (first | ((with_reducible refine gate_store (t := 2) (p := 65) rfl ?_); refine store_event (t := 2) (p := 65) (v := ?vo_w46) (w1 := (wr.setCell ⟨go17, (a2 : Int).toNat, none⟩ (.int .i64 (wrap64 (Int.tdiv (wrap64 (x10_3 + x11_3)) 2))))) ?hg ?ho ?hn ?hr ?_; (case ho => rfl); (case hg => rfl); (case hn => rfl); (case hr => first | (go_simp; done) | (go_simp; rfl)); intro w46 hw; have hg : wr.grownBy w46 (some go17) := (by rw [hw]; exact HP45.2); have hp_ : Kd.R (Kd.int .i64) 2 w46 w.heap.size (fun _ => True) (.slice (some ⟨go17, 0, none⟩) x12_3.length co17) y331 := (by rw [hw, Ny331.out]; exact HP45.1); clear HP45; have n0_ := Aside0.mk (hp_); have n1_ := Aside0.mk ((by rw [hw]; exact below_set (HB.out) GB17.out : Below w.heap.size w w46)); clear HO_12; clear HB; have HO_12 := n0_; have HB := n1_; clear n0_ n1_; clear hg hw hp_) | ((with_reducible refine gate_callee (f := 52) rfl ?_); refine goesL_ (some 68) rfl rfl Try.func52 (by kernel_rfl) rfl #[.int .i64 a0, .slice (some ⟨go17, 0, none⟩) y331.length co17, .int .i64 100] rfl (by (try simp only [List.map_toArray, List.map_cons, List.map_nil]); first | done | (rw [show y331.length = x12_3.length from (Kd.R_reads' HO_12.out).1.symm] <;> rfl) | rfl | (simp only [List.length_drop, List.length_take]; rfl)) ?_; (with_reducible refine (spec_l02By.calls k3 a0 _ _ y331 100 t332 _ ?side1 ?side2 A42.out).mono ?_); (case side1 => repeat (first | exact (Kd.R_reads' HO_12.out).2.2 | (with_reducible refine Kd.C_alloc ?_ _) | (with_reducible refine Kd.C_drewN ?_ _) | (with_reducible refine Kd.C_drew ?_))); (case side2 => rw [show y331.length = x12_3.length from (Kd.R_reads' HO_12.out).1.symm]; exact (Kd.R_reads' HO_12.out).2.1); rintro e w47 ⟨v333, rfl, ho0, hb⟩; refine ⟨_, rfl, ?_⟩; have n0_ := Aside0.mk (Kd.R_elder' (by (with_reducible repeat (first | apply Kd.R_alloc | apply Kd.R_drewN | apply Kd.R_drew)); exact HO_12.out) (Kd.R_base ho0) hb); have n1_ := Aside0.mk (Kd.R_lower (Kd.R_new' ho0 (Kd.R_lt (by (with_reducible repeat (first | apply Kd.R_alloc | apply Kd.R_drewN | apply Kd.R_drew)); exact HO_12.out))) (below_size (by repeat (first | (with_reducible first | exact HB.out | apply below_alloc | apply pw_below_drewN | apply below_drew1) | exact HB.out)))); have n2_ := Aside0.mk (below_step (by repeat (first | (with_reducible first | exact HB.out | apply below_alloc | apply pw_below_drewN | apply below_drew1) | exact HB.out)) hb); clear HO_12; clear HB; have HO_12 := n0_; have HO334 := n1_; have HB := n2_; clear n0_ n1_ n2_; (try clear hb); (try clear hb2); (try clear hk); (try clear hi); (try clear ho0); obtain ⟨Ao48, co48, eo48⟩ := Kd.R_slice HO334.out; subst eo48; have p335 : 0 ≤ (a2 : Int) := of_decide_eq_true (by first | (with_reducible assumption) | assumption); have q335 : a2 < (t332.length : Int) := of_decide_eq_true (by first | (with_reducible assumption) | assumption); obtain ⟨ad335, e335, hx335_0⟩ := Kd.at_int (Kd.R_reads' HO334.out).2.2 a2 p335 q335; cases e335; replace p335 := eq_true p335; replace q335 := eq_true q335))
                                        (try simp only [← hl12_3])
                                        go_roundg k3
                                        case measure => have := HJ4.out; have := HJ18.out; have := HK3.out; omega
                                        case rel => exact ⟨(x10_3), (wrap64 (Int.tdiv (wrap64 (x10_3 + x11_3)) 2)), (y331), (by first | rfl | (simp; done) | (simp [*]; done)), (by first | rfl | (simp; done) | (simp [*]; done)), H', ⟨by have := HJ4.out; have := HJ18.out; have := HK3.out; omega⟩, ⟨by (try simp only [hl12_18]); (try simp only [hl12_3]); (with_reducible repeat (first | apply Kd.R_alloc | apply Kd.R_drewN | apply Kd.R_drew)); exact Kd.R_mono HO_12.out (fun _ hk => trivial)⟩, ⟨by repeat (first | (with_reducible first | exact HB.out | apply below_alloc | apply pw_below_drewN | apply below_drew1) | exact HB.out)⟩⟩
                                    · rw [if_neg c44] at H
                                      have c44b0 : decide (a3 ≤ (rd t332 a2)) = false := decide_eq_false c44
                                      clear c44
                                      have H' := Aside0.mk H
                                      clear H
                                      have p41 : 0 ≤ (a2 : Int) := of_decide_eq_true (by first | (with_reducible assumption) | assumption)
                                      have q41 : (a2 : Int) < ((x12_3.length : Int) : Int) := of_decide_eq_true (by first | (with_reducible assumption) | assumption)
                                      obtain ⟨hx41_0, hf41_0⟩ := Kd.R_celln 0 HO_12.out (a2 : Int) p41 q41
                                      replace p41 := eq_true p41
                                      replace q41 := eq_true q41
                                      have HP49 := Kd.R_putg HO_12.out (a2 : Int) (wrap64 (Int.tdiv (wrap64 (x10_3 + x11_3)) 2))
                                      as_aux_lemma =>
                                        go_wp2_with (first | ((with_reducible refine gate_store (t := 2) (p := 65) rfl ?_); refine store_event (t := 2) (p := 65) (v := ?vo_w50) (w1 := (wr.setCell ⟨go17, (a2 : Int).toNat, none⟩ (.int .i64 (wrap64 (Int.tdiv (wrap64 (x10_3 + x11_3)) 2))))) ?hg ?ho ?hn ?hr ?_; (case ho => rfl); (case hg => rfl); (case hn => rfl); (case hr => first | (go_simp; done) | (go_simp; rfl)); intro w50 hw; have hg : wr.grownBy w50 (some go17) := (by rw [hw]; exact HP49.2); have hp_ : Kd.R (Kd.int .i64) 2 w50 w.heap.size (fun _ => True) (.slice (some ⟨go17, 0, none⟩) x12_3.length co17) y331 := (by rw [hw, Ny331.out]; exact HP49.1); clear HP49; have n0_ := Aside0.mk (hp_); have n1_ := Aside0.mk ((by rw [hw]; exact below_set (HB.out) GB17.out : Below w.heap.size w w50)); clear HO_12; clear HB; have HO_12 := n0_; have HB := n1_; clear n0_ n1_; clear hg hw hp_) | ((with_reducible refine gate_callee (f := 52) rfl ?_); refine goesL_ (some 68) rfl rfl Try.func52 (by kernel_rfl) rfl #[.int .i64 a0, .slice (some ⟨go17, 0, none⟩) y331.length co17, .int .i64 100] rfl (by (try simp only [List.map_toArray, List.map_cons, List.map_nil]); first | done | (rw [show y331.length = x12_3.length from (Kd.R_reads' HO_12.out).1.symm] <;> rfl) | rfl | (simp only [List.length_drop, List.length_take]; rfl)) ?_; (with_reducible refine (spec_l02By.calls k3 a0 _ _ y331 100 t332 _ ?side1 ?side2 A42.out).mono ?_); (case side1 => repeat (first | exact (Kd.R_reads' HO_12.out).2.2 | (with_reducible refine Kd.C_alloc ?_ _) | (with_reducible refine Kd.C_drewN ?_ _) | (with_reducible refine Kd.C_drew ?_))); (case side2 => rw [show y331.length = x12_3.length from (Kd.R_reads' HO_12.out).1.symm]; exact (Kd.R_reads' HO_12.out).2.1); rintro e w51 ⟨v333, rfl, ho0, hb⟩; refine ⟨_, rfl, ?_⟩; have n0_ := Aside0.mk (Kd.R_elder' (by (with_reducible repeat (first | apply Kd.R_alloc | apply Kd.R_drewN | apply Kd.R_drew)); exact HO_12.out) (Kd.R_base ho0) hb); have n1_ := Aside0.mk (Kd.R_lower (Kd.R_new' ho0 (Kd.R_lt (by (with_reducible repeat (first | apply Kd.R_alloc | apply Kd.R_drewN | apply Kd.R_drew)); exact HO_12.out))) (below_size (by repeat (first | (with_reducible first | exact HB.out | apply below_alloc | apply pw_below_drewN | apply below_drew1) | exact HB.out)))); have n2_ := Aside0.mk (below_step (by repeat (first | (with_reducible first | exact HB.out | apply below_alloc | apply pw_below_drewN | apply below_drew1) | exact HB.out)) hb); clear HO_12; clear HB; have HO_12 := n0_; have HO334 := n1_; have HB := n2_; clear n0_ n1_ n2_; (try clear hb); (try clear hb2); (try clear hk); (try clear hi); (try clear ho0); obtain ⟨Ao52, co52, eo52⟩ := Kd.R_slice HO334.out; subst eo52; have p335 : 0 ≤ (a2 : Int) := of_decide_eq_true (by first | (with_reducible assumption) | assumption); have q335 : a2 < (t332.length : Int) := of_decide_eq_true (by first | (with_reducible assumption) | assumption); obtain ⟨ad335, e335, hx335_0⟩ := Kd.at_int (Kd.R_reads' HO334.out).2.2 a2 p335 q335; cases e335; replace p335 := eq_true p335; replace q335 := eq_true q335))
                                        (try simp only [← hl12_3])
                                        go_roundg k3
                                        case measure => have := HJ4.out; have := HJ18.out; have := HK3.out; omega
                                        case rel => exact ⟨(wrap64 ((wrap64 (Int.tdiv (wrap64 (x10_3 + x11_3)) 2)) + 1)), (x11_3), (y331), (by first | rfl | (simp; done) | (simp [*]; done)), (by first | rfl | (simp; done) | (simp [*]; done)), H', ⟨by have := HJ4.out; have := HJ18.out; have := HK3.out; omega⟩, ⟨by (try simp only [hl12_18]); (try simp only [hl12_3]); (with_reducible repeat (first | apply Kd.R_alloc | apply Kd.R_drewN | apply Kd.R_drew)); exact Kd.R_mono HO_12.out (fun _ hk => trivial)⟩, ⟨by repeat (first | (with_reducible first | exact HB.out | apply below_alloc | apply pw_below_drewN | apply below_drew1) | exact HB.out)⟩⟩
                                  · rw [if_neg c43] at H
                                    exact absurd H (by simp)
                                · rw [if_neg c40] at H
                                  exact absurd H (by simp)
                              · rw [if_neg c39] at H
                                exact absurd H (by simp)
                            · rw [if_neg c38] at H
                              have c38b0 : decide (x10_3 < x11_3) = false := decide_eq_false c38
                              clear c38
                              simp only [Option.some.injEq, Prod.mk.injEq] at H
                              obtain ⟨rfl, rfl⟩ := H
                              as_aux_lemma =>
                                go_wp2
                                go_ret2
                                exact ⟨by first | rfl | (simp [errW_none, errW_some] <;> rfl) | (simp [*, errW_none, errW_some] <;> rfl), by repeat (first | (with_reducible first | exact HB.out | apply below_alloc | apply pw_below_drewN | apply below_drew1) | exact HB.out)⟩
                    · rw [if_neg c28] at H
                      exact absurd H (by simp)
                  · rw [if_neg c25] at H
                    exact absurd H (by simp)
                · rw [if_neg c24] at H
                  exact absurd H (by simp)
          · rw [if_neg c16] at H
            exact absurd H (by simp)
        · rw [if_neg c15] at H
          exact absurd H (by simp)

/-! ### slices_Clone_int64_int64: function 66 -/
def slices_Clone_int64_int64.f (l0 : List Int) : Option (List Int) := (some (([] : List Int) : List Int)).bind fun y336 => (if y336.length + l0.length < 17592186044416 then (some (y336 ++ l0)) else (none))
set_option maxHeartbeats 8000000 in
set_option maxRecDepth 100000 in
theorem slices_Clone_int64_int64.calls (A0 : Option Addr) (c0 : Nat) (l0 : List Int) (r : List Int) (w : World) (hr0 : Kd.C (Kd.int .i64) w A0 l0.length l0) (hc0 : l0.length ≤ c0) (h : slices_Clone_int64_int64.f l0 = some r) :
    Calls Try.prog 66 #[.slice A0 l0.length c0] w fun e w' => ∃ v0_ : Value, e = .returned (v0_) ∧ Kd.R (Kd.int .i64) 2 w' w.heap.size (fun _ => True) v0_ r ∧ Below w.heap.size w w' := by
  have q_ : ∀ (w : World) (a : Option Addr) (n c n' c' : Nat), (binOp .eql 22 (.slice a n c) (.slice none n' c')).run Try.prog w = .ok (.bool a.isNone) w := fun w a n c n' c' => Go.Lib.run_eql_slice_nil w _ _ a n c n' c' Try.underlying22
  rcases A0 with _ | ad0_
  · have hz_ : l0.length = 0 := by
      rcases Nat.eq_zero_or_pos l0.length with e_ | e_
      · exact e_
      · obtain ⟨ad_, ea_, _⟩ := hr0.2.2 e_; cases ea_
    obtain rfl : l0 = [] := List.eq_nil_of_length_eq_zero hz_
    have HB := Aside0.mk (Below.refl w.heap.size w)
    have hr_ : r = [] := by simp [slices_Clone_int64_int64.f] at h; first | exact h | exact h.symm
    subst hr_
    clear h hr0 hc0
    go_enter Try.func66, Try.ntmps66
    go_wp2
    go_ret
    exact ⟨_, by first | rfl | (simp [errW_none, errW_some] <;> rfl), by first | exact Kd.R_nil _ _ _ _ _ | exact Kd.N_nil _ _ _ _ _ | exact Kd.V_nil _ _ _ _ _ | exact Kd.Q_nil _ _ _ _ _ | exact Kd.S_nil _ _ _ _ _, by repeat (first | (with_reducible first | exact HB.out | apply below_alloc | apply pw_below_drewN | apply below_drew1) | exact HB.out)⟩
  have HR0 := Aside0.mk hr0
  have HC0 := Aside0.mk hc0
  clear hr0 hc0
  have HB := Aside0.mk (Below.refl w.heap.size w)
  have H : ((some (([] : List Int) : List Int)).bind fun y336 => (if y336.length + l0.length < 17592186044416 then (some (y336 ++ l0)) else (none))) = some r := h
  clear h
  obtain ⟨y336, hy336⟩ : ∃ y_ : List Int, y_ = (([] : List Int)) := ⟨_, rfl⟩
  replace H : (if y336.length + l0.length < 17592186044416 then (some (y336 ++ l0)) else (none)) = some r := by first | (rw [hy336]; with_reducible exact H) | (have H2_ := (Option.bind_some _ _).symm.trans H; rw [hy336]; with_reducible exact H2_) | (have H2_ := (Option.bind_some _ _).symm.trans H; with_reducible exact H2_) | with_reducible exact H | (rw [hy336]; exact H) | exact H
  have Ny336 := Aside0.mk hy336
  clear hy336
  by_cases c2 : y336.length + l0.length < 17592186044416
  · rw [if_pos c2] at H
    have LMc2 := Aside0.mk c2
    clear c2
    obtain ⟨y339, hy339⟩ : ∃ y_ : List Int, y_ = (y336 ++ l0) := ⟨_, rfl⟩
    replace H : (some y339) = some r := by first | (rw [hy339]; with_reducible exact H) | (have H2_ := (Option.bind_some _ _).symm.trans H; rw [hy339]; with_reducible exact H2_) | (have H2_ := (Option.bind_some _ _).symm.trans H; with_reducible exact H2_) | with_reducible exact H | (rw [hy339]; exact H) | exact H
    have Ny339 := Aside0.mk hy339
    clear hy339
    obtain rfl := Option.some.inj H
    go_enter Try.func66, Try.ntmps66
    go_wp2_with (first | ((with_reducible refine gate_dst (N := 5) rfl ?_); refine Kd.R_lit (Kd.int .i64) _ 2 ?hg (N := 5) ?hd (xs := ([] : List Int)) (inner := []) (ok := fun _ => True) (okp := fun _ => True) ?hr ?hp (fun _ hk => hk) trivial (Below.refl _ _) (Nat.le_refl _) (by simp) ?_; (case hd => rfl); (case hg => rfl); (case hr => first | (go_simp; done) | (go_simp; rfl)); (case hp => exact (Reps.none _ _)); intro v337 w3 ho4 hb hg_ hnew_; clear hg_ hnew_; (first | rw [← Ny336.out] at ho4 | (simp only [Int.reduceToNat] at ho4; rw [← Ny336.out] at ho4)); have n0_ := Aside0.mk (Kd.R_lower ho4 (below_size (by repeat (first | (with_reducible first | exact HB.out | apply below_alloc | apply pw_below_drewN | apply below_drew1) | exact HB.out)))); have n1_ := Aside0.mk (below_step (by repeat (first | (with_reducible first | exact HB.out | apply below_alloc | apply pw_below_drewN | apply below_drew1) | exact HB.out)) hb); clear HB; have HO338 := n0_; have HB := n1_; clear n0_ n1_; clear hb ho4) | ((with_reducible refine gate_builtin (b := .append) (xs := #[.tmp 5, .tmp 6]) rfl ?_); at_builtin; refine Kd.R_append_rows (Kd.int .i64) (w0 := w) w.heap.size rfl (.tmp 5) (.tmp 6) 22 2 (.int .i64 0) 8 rfl Try.underlying22 info2 rfl (by decide) (by omega) v337 y336 l0 _ _ _ (fun _ => True) (fun _ => False) rfl rfl ?aO ?aR (fun _ _ h => h) (fun _ h => h.elim) ?aF ?aB ?aS ?aL ?_; (case aR => repeat (first | exact (Kd.C_below HR0.out HB.out) | (with_reducible refine Kd.C_alloc ?_ _) | (with_reducible refine Kd.C_drewN ?_ _) | (with_reducible refine Kd.C_drew ?_))); (case aB => exact (by repeat (first | (with_reducible first | exact HB.out | apply below_alloc | apply pw_below_drewN | apply below_drew1) | exact HB.out))); (case aF => exact (fun _ _ => trivial)); (case aO => exact (by (with_reducible repeat (first | apply Kd.R_alloc | apply Kd.R_drewN | apply Kd.R_drew)); exact HO338.out)); (case aS => exact (below_size (by repeat (first | (with_reducible first | exact HB.out | apply below_alloc | apply pw_below_drewN | apply below_drew1) | exact HB.out)))); (case aL => have := LMc2.out; omega); intro v340 w5 ho hb hg hat; rw [← Ny339.out] at ho; have n0_ := Aside0.mk (hb); have n1_ := Aside0.mk (ho); clear HB; clear HO338; have HB := n0_; have HO341 := n1_; clear n0_ n1_; clear ho hb hg hat))
    go_ret
    exact ⟨_, by first | rfl | (simp [errW_none, errW_some] <;> rfl) | (simp [*, errW_none, errW_some] <;> rfl), by (with_reducible repeat (first | apply Kd.R_alloc | apply Kd.R_drewN | apply Kd.R_drew)); exact HO341.out, by repeat (first | (with_reducible first | exact HB.out | apply below_alloc | apply pw_below_drewN | apply below_drew1) | exact HB.out)⟩
  · rw [if_neg c2] at H
    exact absurd H (by simp)

/-! ### impl_bit: function 67 -/
def impl_bit.f (a0 : Bool) : Option (Int) := if a0 = true then (some 1) else (some 0)
set_option maxHeartbeats 8000000 in
set_option maxRecDepth 100000 in
theorem impl_bit.calls (a0 : Bool) (r : Int) (w : World) (h : impl_bit.f a0 = some r) :
    Calls Try.prog 67 #[.bool a0] w fun e w' => e = .returned (.int .i64 r) ∧ Drawn0 w w' := by
  have H : (if a0 = true then (some 1) else (some 0)) = some r := h
  clear h
  by_cases c2 : a0 = true
  · subst c2
    have H1 : (some 1) = some r := by rw [if_pos rfl] at H; exact H
    clear H
    have H := H1
    clear H1
    obtain rfl := Option.some.inj H
    go_enter Try.func67, Try.ntmps67
    go_wp2
    go_ret
    exact ⟨by first | rfl | (simp; done) | (simp [*]; done), by repeat (first | exact Drawn0.refl _ | apply Drawn0.step)⟩
  · replace c2 := Bool.eq_false_iff.mpr c2
    subst c2
    have H1 : (some 0) = some r := by rw [if_neg (show ¬ (false = true) by decide)] at H; exact H
    clear H
    have H := H1
    clear H1
    obtain rfl := Option.some.inj H
    go_enter Try.func67, Try.ntmps67
    go_wp2
    go_ret
    exact ⟨by first | rfl | (simp; done) | (simp [*]; done), by repeat (first | exact Drawn0.refl _ | apply Drawn0.step)⟩

/-! ### impl_FewestFor_1_v: function 65 -/
def impl_FewestFor_1_v.f (k : Nat) (a0 : Int) (l1_0 : List Int) (a2_0 : Int) (a3_0 : Int) (a4_0 : Int) : Option (Bool) := (slices_Clone_int64_int64.f l1_0).bind fun t342 => (if 0 ≤ a2_0 then (if a2_0 < (t342.length : Int) then ((impl_SeatsBy.f k a3_0 (t342.set (a2_0 : Int).toNat a0) 100).bind fun bt346 => (if bt346.2 = true then (if a2_0 < (bt346.1.length : Int) then (some (decide ((rd bt346.1 a2_0) ≥ a4_0))) else (none)) else (some false))) else (none)) else (none))
theorem impl_FewestFor_1_v.mono : ∀ a0 a1 a2 a3 a4 k, LeO (impl_FewestFor_1_v.f k a0 a1 a2 a3 a4) (impl_FewestFor_1_v.f (k + 1) a0 a1 a2 a3 a4) := by
  intro a0 a1 a2 a3 a4 k
  unfold impl_FewestFor_1_v.f
  repeat' first
      | (with_reducible exact impl_SeatsBy.mono _ _ _ _)
      | (with_reducible exact LeO.refl _)
      | (with_reducible exact LeO.none _)
      | (with_reducible refine LeO.ite ?_ ?_)
      | (with_reducible refine LeO.bind ?_ (fun _ => ?_))
      | exact impl_SeatsBy.mono _ _ _ _
      | exact LeO.none _
      | refine LeO.ite ?_ ?_
      | refine LeO.bind ?_ (fun _ => ?_)
set_option maxHeartbeats 8000000 in
set_option maxRecDepth 100000 in
theorem impl_FewestFor_1_v.calls (k : Nat) (a0 : Int) (gp50 : Nat) (A1_0 : Option Addr) (c1_0 : Nat) (l1_0 : List Int) (gp51 : Nat) (a2_0 : Int) (gp52 : Nat) (a3_0 : Int) (gp53 : Nat) (a4_0 : Int) (r : Bool) (w : World) (hb50 : w.heap[gp50]? = some (.cells #[.slice A1_0 l1_0.length c1_0] 22 (0, 0))) (hr1_0 : Kd.C (Kd.int .i64) w A1_0 l1_0.length l1_0) (hc1_0 : l1_0.length ≤ c1_0) (hb51 : w.heap[gp51]? = some (.cells #[.int .i64 a2_0] 2 (0, 0))) (hb52 : w.heap[gp52]? = some (.cells #[.int .i64 a3_0] 2 (0, 0))) (hb53 : w.heap[gp53]? = some (.cells #[.int .i64 a4_0] 2 (0, 0))) (h : impl_FewestFor_1_v.f k a0 l1_0 a2_0 a3_0 a4_0 = some r) :
    Calls Try.prog 65 #[.int .i64 a0, .pointer (some ⟨gp50, 0, none⟩), .pointer (some ⟨gp51, 0, none⟩), .pointer (some ⟨gp52, 0, none⟩), .pointer (some ⟨gp53, 0, none⟩)] w fun e w' => e = .returned (.bool r) ∧ Below w.heap.size w w' := by
  have HR1_0 := Aside0.mk hr1_0
  have HC1_0 := Aside0.mk hc1_0
  clear hr1_0 hc1_0
  have BK50 := Aside0.mk hb50
  clear hb50
  have BK51 := Aside0.mk hb51
  clear hb51
  have BK52 := Aside0.mk hb52
  clear hb52
  have BK53 := Aside0.mk hb53
  clear hb53
  have HB := Aside0.mk (Below.refl w.heap.size w)
  have H : ((slices_Clone_int64_int64.f l1_0).bind fun t342 => (if 0 ≤ a2_0 then (if a2_0 < (t342.length : Int) then ((impl_SeatsBy.f k a3_0 (t342.set (a2_0 : Int).toNat a0) 100).bind fun bt346 => (if bt346.2 = true then (if a2_0 < (bt346.1.length : Int) then (some (decide ((rd bt346.1 a2_0) ≥ a4_0))) else (none)) else (some false))) else (none)) else (none))) = some r := h
  clear h
  replace H := Option.bind_eq_some_iff.mp H
  obtain ⟨t342, A60, H⟩ := H
  replace H : (if 0 ≤ a2_0 then (if a2_0 < (t342.length : Int) then ((impl_SeatsBy.f k a3_0 (t342.set (a2_0 : Int).toNat a0) 100).bind fun bt346 => (if bt346.2 = true then (if a2_0 < (bt346.1.length : Int) then (some (decide ((rd bt346.1 a2_0) ≥ a4_0))) else (none)) else (some false))) else (none)) else (none)) = some r := H
  have A6 := Aside0.mk A60
  clear A60
  by_cases c7 : 0 ≤ a2_0
  · rw [if_pos c7] at H
    have c7b0 : decide (0 ≤ a2_0) = true := decide_eq_true c7
    clear c7
    by_cases c8 : a2_0 < (t342.length : Int)
    · rw [if_pos c8] at H
      have c8b0 : decide (a2_0 < (t342.length : Int)) = true := decide_eq_true c8
      clear c8
      obtain ⟨y345, hy345⟩ : ∃ y_ : List Int, y_ = (t342.set (a2_0 : Int).toNat a0) := ⟨_, rfl⟩
      replace H : ((impl_SeatsBy.f k a3_0 y345 100).bind fun bt346 => (if bt346.2 = true then (if a2_0 < (bt346.1.length : Int) then (some (decide ((rd bt346.1 a2_0) ≥ a4_0))) else (none)) else (some false))) = some r := by first | (rw [hy345]; with_reducible exact H) | (have H2_ := (Option.bind_some _ _).symm.trans H; rw [hy345]; with_reducible exact H2_) | (have H2_ := (Option.bind_some _ _).symm.trans H; with_reducible exact H2_) | with_reducible exact H | (rw [hy345]; exact H) | exact H
      have Ny345 := Aside0.mk hy345
      clear hy345
      replace H := Option.bind_eq_some_iff.mp H
      obtain ⟨⟨t346, t347⟩, A100, H⟩ := H
      replace H : (if t347 = true then (if a2_0 < (t346.length : Int) then (some (decide ((rd t346 a2_0) ≥ a4_0))) else (none)) else (some false)) = some r := H
      have A10 := Aside0.mk A100
      clear A100
      by_cases c11 : t347 = true
      · subst c11
        have H1 : (if a2_0 < (t346.length : Int) then (some (decide ((rd t346 a2_0) ≥ a4_0))) else (none)) = some r := by rw [if_pos rfl] at H; exact H
        clear H
        have H := H1
        clear H1
        by_cases c12 : a2_0 < (t346.length : Int)
        · rw [if_pos c12] at H
          have c12b0 : decide (a2_0 < (t346.length : Int)) = true := decide_eq_true c12
          clear c12
          obtain rfl := Option.some.inj H
          have hcz13_0 : w.cell? ⟨gp50, 0, none⟩ = some (.slice A1_0 l1_0.length c1_0) := (blk_cell BK50.out 0).trans rfl
          have hfz13_0 := blk_frozen BK50.out 0
          go_enter Try.func65, Try.ntmps65
          go_wp2_with (first | (go_at_call 66; (with_reducible refine (slices_Clone_int64_int64.calls _ _ l1_0 t342 _ ?side1 ?side2 A6.out).mono ?_); (case side1 => repeat (first | exact HR1_0.out | (with_reducible refine Kd.C_alloc ?_ _) | (with_reducible refine Kd.C_drewN ?_ _) | (with_reducible refine Kd.C_drew ?_))); (case side2 => exact HC1_0.out); rintro e w14 ⟨v343, rfl, ho0, hb⟩; have n0_ := Aside0.mk (Kd.R_lower (Kd.R_newB (Kd.R_newB (Kd.R_newB ho0 (g := gp51) (o := .cells #[.int .i64 a2_0] 2 (0, 0)) (by (with_reducible repeat (first | refine blk_drewN ?_ _ | refine blk_drew ?_ | refine blk_alloc ?_ _)); exact BK51.out)) (g := gp52) (o := .cells #[.int .i64 a3_0] 2 (0, 0)) (by (with_reducible repeat (first | refine blk_drewN ?_ _ | refine blk_drew ?_ | refine blk_alloc ?_ _)); exact BK52.out)) (g := gp53) (o := .cells #[.int .i64 a4_0] 2 (0, 0)) (by (with_reducible repeat (first | refine blk_drewN ?_ _ | refine blk_drew ?_ | refine blk_alloc ?_ _)); exact BK53.out)) (below_size (by repeat (first | (with_reducible first | exact HB.out | apply below_alloc | apply pw_below_drewN | apply below_drew1 | refine below_set ?_ GE50.out | refine below_set ?_ GE51.out | refine below_set ?_ GE52.out | refine below_set ?_ GE53.out) | exact HB.out)))); have n1_ := Aside0.mk (blk_below (g := gp50) (o := .cells #[.slice A1_0 l1_0.length c1_0] 22 (0, 0)) (by (with_reducible repeat (first | refine blk_drewN ?_ _ | refine blk_drew ?_ | refine blk_alloc ?_ _)); exact BK50.out) hb); have n2_ := Aside0.mk (blk_below (g := gp51) (o := .cells #[.int .i64 a2_0] 2 (0, 0)) (by (with_reducible repeat (first | refine blk_drewN ?_ _ | refine blk_drew ?_ | refine blk_alloc ?_ _)); exact BK51.out) hb); have n3_ := Aside0.mk (blk_below (g := gp52) (o := .cells #[.int .i64 a3_0] 2 (0, 0)) (by (with_reducible repeat (first | refine blk_drewN ?_ _ | refine blk_drew ?_ | refine blk_alloc ?_ _)); exact BK52.out) hb); have n4_ := Aside0.mk (blk_below (g := gp53) (o := .cells #[.int .i64 a4_0] 2 (0, 0)) (by (with_reducible repeat (first | refine blk_drewN ?_ _ | refine blk_drew ?_ | refine blk_alloc ?_ _)); exact BK53.out) hb); have n5_ := Aside0.mk (below_step (by repeat (first | (with_reducible first | exact HB.out | apply below_alloc | apply pw_below_drewN | apply below_drew1 | refine below_set ?_ GE50.out | refine below_set ?_ GE51.out | refine below_set ?_ GE52.out | refine below_set ?_ GE53.out) | exact HB.out)) hb); clear BK50; clear BK51; clear BK52; clear BK53; clear HB; have HO344 := n0_; have BK50 := n1_; have BK51 := n2_; have BK52 := n3_; have BK53 := n4_; have HB := n5_; clear n0_ n1_ n2_ n3_ n4_ n5_; (try clear hb); (try clear hb2); (try clear hk); (try clear hi); (try clear ho0); have hcz15_0 : w14.cell? ⟨gp51, 0, none⟩ = some (.int .i64 a2_0) := (blk_cell BK51.out 0).trans rfl; have hfz15_0 := blk_frozen BK51.out 0; have p9 : 0 ≤ (a2_0 : Int) := of_decide_eq_true (by first | (with_reducible assumption) | assumption); have q9 : (a2_0 : Int) < ((t342.length : Int) : Int) := of_decide_eq_true (by first | (with_reducible assumption) | assumption); obtain ⟨go9, co9, eo9, gb9, gl9, cl9, HG9⟩ := Kd.R_form HO344.out (by omega); (first | cases eo9 | (injection eo9 with ea_ en_ ec_; (first | subst ea_ | (injection ea_ with ea_; subst ea_)); subst ec_; clear en_)); have GB9 := Aside0.mk gb9; have GG9 := Aside0.mk HG9; clear gb9 gl9 HG9; obtain ⟨hx9_0, hf9_0⟩ := Kd.R_celln 0 HO344.out (a2_0 : Int) p9 q9; replace p9 := eq_true p9; replace q9 := eq_true q9; have n_ := Aside0.mk (Kd.R_mono (ok' := (fun k_ => k_ ≠ gp51 ∧ k_ ≠ gp52 ∧ k_ ≠ gp53)) HO344.out (fun k_ hk => ⟨hk.1.1.2, ⟨hk.1.2, hk.2⟩⟩)); clear HO344; have HO344 := n_; clear n_; obtain ⟨hy16_, hz16_⟩ := Kd.R_celln 0 HO344.out (a2_0 : Int) (of_decide_eq_true (by first | (with_reducible assumption) | assumption)) (of_decide_eq_true (by first | (with_reducible assumption) | assumption)); have HP16 := Kd.R_putg HO344.out (a2_0 : Int) a0) | ((with_reducible refine gate_store (t := 2) (p := 15) rfl ?_); (try (rw [drewN_self w14]; generalize hq_ : World.drewN w14 _ = w14; have n0_ := Aside0.mk (Kd.R_at hq_ HO344.out); have n1_ := Aside0.mk (blk_at hq_ BK50.out); have n2_ := Aside0.mk (blk_at hq_ BK51.out); have n3_ := Aside0.mk (blk_at hq_ BK52.out); have n4_ := Aside0.mk (blk_at hq_ BK53.out); have n5_ := Aside0.mk (below_at hq_ HB.out); clear hq_ HO344 BK50 BK51 BK52 BK53 HB; have HO344 := n0_; have BK50 := n1_; have BK51 := n2_; have BK52 := n3_; have BK53 := n4_; have HB := n5_; clear n0_ n1_ n2_ n3_ n4_ n5_; (try (have n_ := Aside0.mk (Kd.R_mono (ok' := (fun k_ => k_ ≠ gp51 ∧ k_ ≠ gp52 ∧ k_ ≠ gp53)) HO344.out (fun k_ hk => ⟨hk.1.1.2, ⟨hk.1.2, hk.2⟩⟩)); clear HO344; have HO344 := n_; clear n_)); (try (obtain ⟨hy16_, hz16_⟩ := Kd.R_celln 0 HO344.out (a2_0 : Int) (of_decide_eq_true (by first | (with_reducible assumption) | assumption)) (of_decide_eq_true (by first | (with_reducible assumption) | assumption)))); (try (have HP16 := Kd.R_putg HO344.out (a2_0 : Int) a0)))); refine store_event (t := 2) (p := 15) (v := ?vo_w17) (w1 := (w14.setCell ⟨go9, (a2_0 : Int).toNat, none⟩ (.int .i64 a0))) ?hg ?ho ?hn ?hr ?_; (case ho => rfl); (case hg => rfl); (case hn => rfl); (case hr => first | (go_simp; done) | (go_simp; rfl)); intro w17 hw; have hg : w14.grownBy w17 (some go9) := (by rw [hw]; exact HP16.2); have hp_ : Kd.R (Kd.int .i64) 2 w17 w.heap.size (fun k_ => k_ ≠ gp51 ∧ k_ ≠ gp52 ∧ k_ ≠ gp53) (.slice (some ⟨go9, 0, none⟩) t342.length co9) y345 := (by rw [hw, Ny345.out]; exact HP16.1); clear HP16; have n0_ := Aside0.mk (blk_grown (g := gp50) (o := .cells #[.slice A1_0 l1_0.length c1_0] 22 (0, 0)) (by (with_reducible repeat (first | refine blk_drewN ?_ _ | refine blk_drew ?_ | refine blk_alloc ?_ _)); exact BK50.out) hg (Kd.R_ne HO344.out BK50.out (by decide))); have n1_ := Aside0.mk (blk_grown (g := gp51) (o := .cells #[.int .i64 a2_0] 2 (0, 0)) (by (with_reducible repeat (first | refine blk_drewN ?_ _ | refine blk_drew ?_ | refine blk_alloc ?_ _)); exact BK51.out) hg (Kd.R_away HO344.out (fun _ hk => hk.1))); have n2_ := Aside0.mk (blk_grown (g := gp52) (o := .cells #[.int .i64 a3_0] 2 (0, 0)) (by (with_reducible repeat (first | refine blk_drewN ?_ _ | refine blk_drew ?_ | refine blk_alloc ?_ _)); exact BK52.out) hg (Kd.R_away HO344.out (fun _ hk => hk.2.1))); have n3_ := Aside0.mk (blk_grown (g := gp53) (o := .cells #[.int .i64 a4_0] 2 (0, 0)) (by (with_reducible repeat (first | refine blk_drewN ?_ _ | refine blk_drew ?_ | refine blk_alloc ?_ _)); exact BK53.out) hg (Kd.R_away HO344.out (fun _ hk => hk.2.2))); have n4_ := Aside0.mk (hp_); have n5_ := Aside0.mk ((by rw [hw]; exact below_set (HB.out) GB9.out : Below w.heap.size w w17)); clear BK50; clear BK51; clear BK52; clear BK53; clear HO344; clear HB; have BK50 := n0_; have BK51 := n1_; have BK52 := n2_; have BK53 := n3_; have HO344 := n4_; have HB := n5_; clear n0_ n1_ n2_ n3_ n4_ n5_; clear hg hw hp_; have hcz18_0 : w17.cell? ⟨gp52, 0, none⟩ = some (.int .i64 a3_0) := (blk_cell BK52.out 0).trans rfl; have hfz18_0 := blk_frozen BK52.out 0) | (go_at_call 22; refine calls_of_args (args' := #[.int .i64 a3_0, .slice (some ⟨go9, 0, none⟩) y345.length co9, .int .i64 100]) (by first | (rw [show y345.length = t342.length from (Kd.R_reads' HO344.out).1.symm] <;> rfl) | rfl) ?_; (with_reducible refine (impl_SeatsBy.calls k a3_0 _ _ y345 100 t346 true _ ?side1 ?side2 A10.out).mono ?_); (case side1 => repeat (first | exact (Kd.R_reads' HO344.out).2.2 | (with_reducible refine Kd.C_alloc ?_ _) | (with_reducible refine Kd.C_drewN ?_ _) | (with_reducible refine Kd.C_drew ?_))); (case side2 => rw [show y345.length = t342.length from (Kd.R_reads' HO344.out).1.symm]; exact (Kd.R_reads' HO344.out).2.1); rintro e w19 ⟨v348, rfl, ho0, hb⟩; have n0_ := Aside0.mk (Kd.R_elder' (by (with_reducible repeat (first | apply Kd.R_alloc | apply Kd.R_drewN | apply Kd.R_drew)); exact HO344.out) (Kd.R_base ho0) hb); have n1_ := Aside0.mk (Kd.R_lower (Kd.R_newB (Kd.R_newB (Kd.R_newB (Kd.R_new' ho0 (Kd.R_lt (by (with_reducible repeat (first | apply Kd.R_alloc | apply Kd.R_drewN | apply Kd.R_drew)); exact HO344.out))) (g := gp51) (o := .cells #[.int .i64 a2_0] 2 (0, 0)) (by (with_reducible repeat (first | refine blk_drewN ?_ _ | refine blk_drew ?_ | refine blk_alloc ?_ _)); exact BK51.out)) (g := gp52) (o := .cells #[.int .i64 a3_0] 2 (0, 0)) (by (with_reducible repeat (first | refine blk_drewN ?_ _ | refine blk_drew ?_ | refine blk_alloc ?_ _)); exact BK52.out)) (g := gp53) (o := .cells #[.int .i64 a4_0] 2 (0, 0)) (by (with_reducible repeat (first | refine blk_drewN ?_ _ | refine blk_drew ?_ | refine blk_alloc ?_ _)); exact BK53.out)) (below_size (by repeat (first | (with_reducible first | exact HB.out | apply below_alloc | apply pw_below_drewN | apply below_drew1 | refine below_set ?_ GE50.out | refine below_set ?_ GE51.out | refine below_set ?_ GE52.out | refine below_set ?_ GE53.out) | exact HB.out)))); have n2_ := Aside0.mk (blk_below (g := gp50) (o := .cells #[.slice A1_0 l1_0.length c1_0] 22 (0, 0)) (by (with_reducible repeat (first | refine blk_drewN ?_ _ | refine blk_drew ?_ | refine blk_alloc ?_ _)); exact BK50.out) hb); have n3_ := Aside0.mk (blk_below (g := gp51) (o := .cells #[.int .i64 a2_0] 2 (0, 0)) (by (with_reducible repeat (first | refine blk_drewN ?_ _ | refine blk_drew ?_ | refine blk_alloc ?_ _)); exact BK51.out) hb); have n4_ := Aside0.mk (blk_below (g := gp52) (o := .cells #[.int .i64 a3_0] 2 (0, 0)) (by (with_reducible repeat (first | refine blk_drewN ?_ _ | refine blk_drew ?_ | refine blk_alloc ?_ _)); exact BK52.out) hb); have n5_ := Aside0.mk (blk_below (g := gp53) (o := .cells #[.int .i64 a4_0] 2 (0, 0)) (by (with_reducible repeat (first | refine blk_drewN ?_ _ | refine blk_drew ?_ | refine blk_alloc ?_ _)); exact BK53.out) hb); have n6_ := Aside0.mk (below_step (by repeat (first | (with_reducible first | exact HB.out | apply below_alloc | apply pw_below_drewN | apply below_drew1 | refine below_set ?_ GE50.out | refine below_set ?_ GE51.out | refine below_set ?_ GE52.out | refine below_set ?_ GE53.out) | exact HB.out)) hb); clear HO344; clear BK50; clear BK51; clear BK52; clear BK53; clear HB; have HO344 := n0_; have HO349 := n1_; have BK50 := n2_; have BK51 := n3_; have BK52 := n4_; have BK53 := n5_; have HB := n6_; clear n0_ n1_ n2_ n3_ n4_ n5_ n6_; (try clear hb); (try clear hb2); (try clear hk); (try clear hi); (try clear ho0); have hcz20_0 : w19.cell? ⟨gp51, 0, none⟩ = some (.int .i64 a2_0) := (blk_cell BK51.out 0).trans rfl; have hfz20_0 := blk_frozen BK51.out 0; obtain ⟨Ao21, co21, eo21⟩ := Kd.R_slice HO349.out; subst eo21; have p350 : 0 ≤ (a2_0 : Int) := of_decide_eq_true (by first | (with_reducible assumption) | assumption); have q350 : a2_0 < (t346.length : Int) := of_decide_eq_true (by first | (with_reducible assumption) | assumption); obtain ⟨ad350, e350, hx350_0⟩ := Kd.at_int (Kd.R_reads' HO349.out).2.2 a2_0 p350 q350; cases e350; replace p350 := eq_true p350; replace q350 := eq_true q350; have hcz22_0 : w19.cell? ⟨gp53, 0, none⟩ = some (.int .i64 a4_0) := (blk_cell BK53.out 0).trans rfl; have hfz22_0 := blk_frozen BK53.out 0))
          repeat (go_quiet (first | (go_at_call 66; (with_reducible refine (slices_Clone_int64_int64.calls _ _ l1_0 t342 _ ?side1 ?side2 A6.out).mono ?_); (case side1 => repeat (first | exact HR1_0.out | (with_reducible refine Kd.C_alloc ?_ _) | (with_reducible refine Kd.C_drewN ?_ _) | (with_reducible refine Kd.C_drew ?_))); (case side2 => exact HC1_0.out); rintro e w14 ⟨v343, rfl, ho0, hb⟩; have n0_ := Aside0.mk (Kd.R_lower (Kd.R_newB (Kd.R_newB (Kd.R_newB ho0 (g := gp51) (o := .cells #[.int .i64 a2_0] 2 (0, 0)) (by (with_reducible repeat (first | refine blk_drewN ?_ _ | refine blk_drew ?_ | refine blk_alloc ?_ _)); exact BK51.out)) (g := gp52) (o := .cells #[.int .i64 a3_0] 2 (0, 0)) (by (with_reducible repeat (first | refine blk_drewN ?_ _ | refine blk_drew ?_ | refine blk_alloc ?_ _)); exact BK52.out)) (g := gp53) (o := .cells #[.int .i64 a4_0] 2 (0, 0)) (by (with_reducible repeat (first | refine blk_drewN ?_ _ | refine blk_drew ?_ | refine blk_alloc ?_ _)); exact BK53.out)) (below_size (by repeat (first | (with_reducible first | exact HB.out | apply below_alloc | apply pw_below_drewN | apply below_drew1 | refine below_set ?_ GE50.out | refine below_set ?_ GE51.out | refine below_set ?_ GE52.out | refine below_set ?_ GE53.out) | exact HB.out)))); have n1_ := Aside0.mk (blk_below (g := gp50) (o := .cells #[.slice A1_0 l1_0.length c1_0] 22 (0, 0)) (by (with_reducible repeat (first | refine blk_drewN ?_ _ | refine blk_drew ?_ | refine blk_alloc ?_ _)); exact BK50.out) hb); have n2_ := Aside0.mk (blk_below (g := gp51) (o := .cells #[.int .i64 a2_0] 2 (0, 0)) (by (with_reducible repeat (first | refine blk_drewN ?_ _ | refine blk_drew ?_ | refine blk_alloc ?_ _)); exact BK51.out) hb); have n3_ := Aside0.mk (blk_below (g := gp52) (o := .cells #[.int .i64 a3_0] 2 (0, 0)) (by (with_reducible repeat (first | refine blk_drewN ?_ _ | refine blk_drew ?_ | refine blk_alloc ?_ _)); exact BK52.out) hb); have n4_ := Aside0.mk (blk_below (g := gp53) (o := .cells #[.int .i64 a4_0] 2 (0, 0)) (by (with_reducible repeat (first | refine blk_drewN ?_ _ | refine blk_drew ?_ | refine blk_alloc ?_ _)); exact BK53.out) hb); have n5_ := Aside0.mk (below_step (by repeat (first | (with_reducible first | exact HB.out | apply below_alloc | apply pw_below_drewN | apply below_drew1 | refine below_set ?_ GE50.out | refine below_set ?_ GE51.out | refine below_set ?_ GE52.out | refine below_set ?_ GE53.out) | exact HB.out)) hb); clear BK50; clear BK51; clear BK52; clear BK53; clear HB; have HO344 := n0_; have BK50 := n1_; have BK51 := n2_; have BK52 := n3_; have BK53 := n4_; have HB := n5_; clear n0_ n1_ n2_ n3_ n4_ n5_; (try clear hb); (try clear hb2); (try clear hk); (try clear hi); (try clear ho0); have hcz15_0 : w14.cell? ⟨gp51, 0, none⟩ = some (.int .i64 a2_0) := (blk_cell BK51.out 0).trans rfl; have hfz15_0 := blk_frozen BK51.out 0; have p9 : 0 ≤ (a2_0 : Int) := of_decide_eq_true (by first | (with_reducible assumption) | assumption); have q9 : (a2_0 : Int) < ((t342.length : Int) : Int) := of_decide_eq_true (by first | (with_reducible assumption) | assumption); obtain ⟨go9, co9, eo9, gb9, gl9, cl9, HG9⟩ := Kd.R_form HO344.out (by omega); (first | cases eo9 | (injection eo9 with ea_ en_ ec_; (first | subst ea_ | (injection ea_ with ea_; subst ea_)); subst ec_; clear en_)); have GB9 := Aside0.mk gb9; have GG9 := Aside0.mk HG9; clear gb9 gl9 HG9; obtain ⟨hx9_0, hf9_0⟩ := Kd.R_celln 0 HO344.out (a2_0 : Int) p9 q9; replace p9 := eq_true p9; replace q9 := eq_true q9; have n_ := Aside0.mk (Kd.R_mono (ok' := (fun k_ => k_ ≠ gp51 ∧ k_ ≠ gp52 ∧ k_ ≠ gp53)) HO344.out (fun k_ hk => ⟨hk.1.1.2, ⟨hk.1.2, hk.2⟩⟩)); clear HO344; have HO344 := n_; clear n_; obtain ⟨hy16_, hz16_⟩ := Kd.R_celln 0 HO344.out (a2_0 : Int) (of_decide_eq_true (by first | (with_reducible assumption) | assumption)) (of_decide_eq_true (by first | (with_reducible assumption) | assumption)); have HP16 := Kd.R_putg HO344.out (a2_0 : Int) a0) | ((with_reducible refine gate_store (t := 2) (p := 15) rfl ?_); (try (rw [drewN_self w14]; generalize hq_ : World.drewN w14 _ = w14; have n0_ := Aside0.mk (Kd.R_at hq_ HO344.out); have n1_ := Aside0.mk (blk_at hq_ BK50.out); have n2_ := Aside0.mk (blk_at hq_ BK51.out); have n3_ := Aside0.mk (blk_at hq_ BK52.out); have n4_ := Aside0.mk (blk_at hq_ BK53.out); have n5_ := Aside0.mk (below_at hq_ HB.out); clear hq_ HO344 BK50 BK51 BK52 BK53 HB; have HO344 := n0_; have BK50 := n1_; have BK51 := n2_; have BK52 := n3_; have BK53 := n4_; have HB := n5_; clear n0_ n1_ n2_ n3_ n4_ n5_; (try (have n_ := Aside0.mk (Kd.R_mono (ok' := (fun k_ => k_ ≠ gp51 ∧ k_ ≠ gp52 ∧ k_ ≠ gp53)) HO344.out (fun k_ hk => ⟨hk.1.1.2, ⟨hk.1.2, hk.2⟩⟩)); clear HO344; have HO344 := n_; clear n_)); (try (obtain ⟨hy16_, hz16_⟩ := Kd.R_celln 0 HO344.out (a2_0 : Int) (of_decide_eq_true (by first | (with_reducible assumption) | assumption)) (of_decide_eq_true (by first | (with_reducible assumption) | assumption)))); (try (have HP16 := Kd.R_putg HO344.out (a2_0 : Int) a0)))); refine store_event (t := 2) (p := 15) (v := ?vo_w17) (w1 := (w14.setCell ⟨go9, (a2_0 : Int).toNat, none⟩ (.int .i64 a0))) ?hg ?ho ?hn ?hr ?_; (case ho => rfl); (case hg => rfl); (case hn => rfl); (case hr => first | (go_simp; done) | (go_simp; rfl)); intro w17 hw; have hg : w14.grownBy w17 (some go9) := (by rw [hw]; exact HP16.2); have hp_ : Kd.R (Kd.int .i64) 2 w17 w.heap.size (fun k_ => k_ ≠ gp51 ∧ k_ ≠ gp52 ∧ k_ ≠ gp53) (.slice (some ⟨go9, 0, none⟩) t342.length co9) y345 := (by rw [hw, Ny345.out]; exact HP16.1); clear HP16; have n0_ := Aside0.mk (blk_grown (g := gp50) (o := .cells #[.slice A1_0 l1_0.length c1_0] 22 (0, 0)) (by (with_reducible repeat (first | refine blk_drewN ?_ _ | refine blk_drew ?_ | refine blk_alloc ?_ _)); exact BK50.out) hg (Kd.R_ne HO344.out BK50.out (by decide))); have n1_ := Aside0.mk (blk_grown (g := gp51) (o := .cells #[.int .i64 a2_0] 2 (0, 0)) (by (with_reducible repeat (first | refine blk_drewN ?_ _ | refine blk_drew ?_ | refine blk_alloc ?_ _)); exact BK51.out) hg (Kd.R_away HO344.out (fun _ hk => hk.1))); have n2_ := Aside0.mk (blk_grown (g := gp52) (o := .cells #[.int .i64 a3_0] 2 (0, 0)) (by (with_reducible repeat (first | refine blk_drewN ?_ _ | refine blk_drew ?_ | refine blk_alloc ?_ _)); exact BK52.out) hg (Kd.R_away HO344.out (fun _ hk => hk.2.1))); have n3_ := Aside0.mk (blk_grown (g := gp53) (o := .cells #[.int .i64 a4_0] 2 (0, 0)) (by (with_reducible repeat (first | refine blk_drewN ?_ _ | refine blk_drew ?_ | refine blk_alloc ?_ _)); exact BK53.out) hg (Kd.R_away HO344.out (fun _ hk => hk.2.2))); have n4_ := Aside0.mk (hp_); have n5_ := Aside0.mk ((by rw [hw]; exact below_set (HB.out) GB9.out : Below w.heap.size w w17)); clear BK50; clear BK51; clear BK52; clear BK53; clear HO344; clear HB; have BK50 := n0_; have BK51 := n1_; have BK52 := n2_; have BK53 := n3_; have HO344 := n4_; have HB := n5_; clear n0_ n1_ n2_ n3_ n4_ n5_; clear hg hw hp_; have hcz18_0 : w17.cell? ⟨gp52, 0, none⟩ = some (.int .i64 a3_0) := (blk_cell BK52.out 0).trans rfl; have hfz18_0 := blk_frozen BK52.out 0) | (go_at_call 22; refine calls_of_args (args' := #[.int .i64 a3_0, .slice (some ⟨go9, 0, none⟩) y345.length co9, .int .i64 100]) (by first | (rw [show y345.length = t342.length from (Kd.R_reads' HO344.out).1.symm] <;> rfl) | rfl) ?_; (with_reducible refine (impl_SeatsBy.calls k a3_0 _ _ y345 100 t346 true _ ?side1 ?side2 A10.out).mono ?_); (case side1 => repeat (first | exact (Kd.R_reads' HO344.out).2.2 | (with_reducible refine Kd.C_alloc ?_ _) | (with_reducible refine Kd.C_drewN ?_ _) | (with_reducible refine Kd.C_drew ?_))); (case side2 => rw [show y345.length = t342.length from (Kd.R_reads' HO344.out).1.symm]; exact (Kd.R_reads' HO344.out).2.1); rintro e w19 ⟨v348, rfl, ho0, hb⟩; have n0_ := Aside0.mk (Kd.R_elder' (by (with_reducible repeat (first | apply Kd.R_alloc | apply Kd.R_drewN | apply Kd.R_drew)); exact HO344.out) (Kd.R_base ho0) hb); have n1_ := Aside0.mk (Kd.R_lower (Kd.R_newB (Kd.R_newB (Kd.R_newB (Kd.R_new' ho0 (Kd.R_lt (by (with_reducible repeat (first | apply Kd.R_alloc | apply Kd.R_drewN | apply Kd.R_drew)); exact HO344.out))) (g := gp51) (o := .cells #[.int .i64 a2_0] 2 (0, 0)) (by (with_reducible repeat (first | refine blk_drewN ?_ _ | refine blk_drew ?_ | refine blk_alloc ?_ _)); exact BK51.out)) (g := gp52) (o := .cells #[.int .i64 a3_0] 2 (0, 0)) (by (with_reducible repeat (first | refine blk_drewN ?_ _ | refine blk_drew ?_ | refine blk_alloc ?_ _)); exact BK52.out)) (g := gp53) (o := .cells #[.int .i64 a4_0] 2 (0, 0)) (by (with_reducible repeat (first | refine blk_drewN ?_ _ | refine blk_drew ?_ | refine blk_alloc ?_ _)); exact BK53.out)) (below_size (by repeat (first | (with_reducible first | exact HB.out | apply below_alloc | apply pw_below_drewN | apply below_drew1 | refine below_set ?_ GE50.out | refine below_set ?_ GE51.out | refine below_set ?_ GE52.out | refine below_set ?_ GE53.out) | exact HB.out)))); have n2_ := Aside0.mk (blk_below (g := gp50) (o := .cells #[.slice A1_0 l1_0.length c1_0] 22 (0, 0)) (by (with_reducible repeat (first | refine blk_drewN ?_ _ | refine blk_drew ?_ | refine blk_alloc ?_ _)); exact BK50.out) hb); have n3_ := Aside0.mk (blk_below (g := gp51) (o := .cells #[.int .i64 a2_0] 2 (0, 0)) (by (with_reducible repeat (first | refine blk_drewN ?_ _ | refine blk_drew ?_ | refine blk_alloc ?_ _)); exact BK51.out) hb); have n4_ := Aside0.mk (blk_below (g := gp52) (o := .cells #[.int .i64 a3_0] 2 (0, 0)) (by (with_reducible repeat (first | refine blk_drewN ?_ _ | refine blk_drew ?_ | refine blk_alloc ?_ _)); exact BK52.out) hb); have n5_ := Aside0.mk (blk_below (g := gp53) (o := .cells #[.int .i64 a4_0] 2 (0, 0)) (by (with_reducible repeat (first | refine blk_drewN ?_ _ | refine blk_drew ?_ | refine blk_alloc ?_ _)); exact BK53.out) hb); have n6_ := Aside0.mk (below_step (by repeat (first | (with_reducible first | exact HB.out | apply below_alloc | apply pw_below_drewN | apply below_drew1 | refine below_set ?_ GE50.out | refine below_set ?_ GE51.out | refine below_set ?_ GE52.out | refine below_set ?_ GE53.out) | exact HB.out)) hb); clear HO344; clear BK50; clear BK51; clear BK52; clear BK53; clear HB; have HO344 := n0_; have HO349 := n1_; have BK50 := n2_; have BK51 := n3_; have BK52 := n4_; have BK53 := n5_; have HB := n6_; clear n0_ n1_ n2_ n3_ n4_ n5_ n6_; (try clear hb); (try clear hb2); (try clear hk); (try clear hi); (try clear ho0); have hcz20_0 : w19.cell? ⟨gp51, 0, none⟩ = some (.int .i64 a2_0) := (blk_cell BK51.out 0).trans rfl; have hfz20_0 := blk_frozen BK51.out 0; obtain ⟨Ao21, co21, eo21⟩ := Kd.R_slice HO349.out; subst eo21; have p350 : 0 ≤ (a2_0 : Int) := of_decide_eq_true (by first | (with_reducible assumption) | assumption); have q350 : a2_0 < (t346.length : Int) := of_decide_eq_true (by first | (with_reducible assumption) | assumption); obtain ⟨ad350, e350, hx350_0⟩ := Kd.at_int (Kd.R_reads' HO349.out).2.2 a2_0 p350 q350; cases e350; replace p350 := eq_true p350; replace q350 := eq_true q350; have hcz22_0 : w19.cell? ⟨gp53, 0, none⟩ = some (.int .i64 a4_0) := (blk_cell BK53.out 0).trans rfl; have hfz22_0 := blk_frozen BK53.out 0)); try go_wp2_with (first | (go_at_call 66; (with_reducible refine (slices_Clone_int64_int64.calls _ _ l1_0 t342 _ ?side1 ?side2 A6.out).mono ?_); (case side1 => repeat (first | exact HR1_0.out | (with_reducible refine Kd.C_alloc ?_ _) | (with_reducible refine Kd.C_drewN ?_ _) | (with_reducible refine Kd.C_drew ?_))); (case side2 => exact HC1_0.out); rintro e w14 ⟨v343, rfl, ho0, hb⟩; have n0_ := Aside0.mk (Kd.R_lower (Kd.R_newB (Kd.R_newB (Kd.R_newB ho0 (g := gp51) (o := .cells #[.int .i64 a2_0] 2 (0, 0)) (by (with_reducible repeat (first | refine blk_drewN ?_ _ | refine blk_drew ?_ | refine blk_alloc ?_ _)); exact BK51.out)) (g := gp52) (o := .cells #[.int .i64 a3_0] 2 (0, 0)) (by (with_reducible repeat (first | refine blk_drewN ?_ _ | refine blk_drew ?_ | refine blk_alloc ?_ _)); exact BK52.out)) (g := gp53) (o := .cells #[.int .i64 a4_0] 2 (0, 0)) (by (with_reducible repeat (first | refine blk_drewN ?_ _ | refine blk_drew ?_ | refine blk_alloc ?_ _)); exact BK53.out)) (below_size (by repeat (first | (with_reducible first | exact HB.out | apply below_alloc | apply pw_below_drewN | apply below_drew1 | refine below_set ?_ GE50.out | refine below_set ?_ GE51.out | refine below_set ?_ GE52.out | refine below_set ?_ GE53.out) | exact HB.out)))); have n1_ := Aside0.mk (blk_below (g := gp50) (o := .cells #[.slice A1_0 l1_0.length c1_0] 22 (0, 0)) (by (with_reducible repeat (first | refine blk_drewN ?_ _ | refine blk_drew ?_ | refine blk_alloc ?_ _)); exact BK50.out) hb); have n2_ := Aside0.mk (blk_below (g := gp51) (o := .cells #[.int .i64 a2_0] 2 (0, 0)) (by (with_reducible repeat (first | refine blk_drewN ?_ _ | refine blk_drew ?_ | refine blk_alloc ?_ _)); exact BK51.out) hb); have n3_ := Aside0.mk (blk_below (g := gp52) (o := .cells #[.int .i64 a3_0] 2 (0, 0)) (by (with_reducible repeat (first | refine blk_drewN ?_ _ | refine blk_drew ?_ | refine blk_alloc ?_ _)); exact BK52.out) hb); have n4_ := Aside0.mk (blk_below (g := gp53) (o := .cells #[.int .i64 a4_0] 2 (0, 0)) (by (with_reducible repeat (first | refine blk_drewN ?_ _ | refine blk_drew ?_ | refine blk_alloc ?_ _)); exact BK53.out) hb); have n5_ := Aside0.mk (below_step (by repeat (first | (with_reducible first | exact HB.out | apply below_alloc | apply pw_below_drewN | apply below_drew1 | refine below_set ?_ GE50.out | refine below_set ?_ GE51.out | refine below_set ?_ GE52.out | refine below_set ?_ GE53.out) | exact HB.out)) hb); clear BK50; clear BK51; clear BK52; clear BK53; clear HB; have HO344 := n0_; have BK50 := n1_; have BK51 := n2_; have BK52 := n3_; have BK53 := n4_; have HB := n5_; clear n0_ n1_ n2_ n3_ n4_ n5_; (try clear hb); (try clear hb2); (try clear hk); (try clear hi); (try clear ho0); have hcz15_0 : w14.cell? ⟨gp51, 0, none⟩ = some (.int .i64 a2_0) := (blk_cell BK51.out 0).trans rfl; have hfz15_0 := blk_frozen BK51.out 0; have p9 : 0 ≤ (a2_0 : Int) := of_decide_eq_true (by first | (with_reducible assumption) | assumption); have q9 : (a2_0 : Int) < ((t342.length : Int) : Int) := of_decide_eq_true (by first | (with_reducible assumption) | assumption); obtain ⟨go9, co9, eo9, gb9, gl9, cl9, HG9⟩ := Kd.R_form HO344.out (by omega); (first | cases eo9 | (injection eo9 with ea_ en_ ec_; (first | subst ea_ | (injection ea_ with ea_; subst ea_)); subst ec_; clear en_)); have GB9 := Aside0.mk gb9; have GG9 := Aside0.mk HG9; clear gb9 gl9 HG9; obtain ⟨hx9_0, hf9_0⟩ := Kd.R_celln 0 HO344.out (a2_0 : Int) p9 q9; replace p9 := eq_true p9; replace q9 := eq_true q9; have n_ := Aside0.mk (Kd.R_mono (ok' := (fun k_ => k_ ≠ gp51 ∧ k_ ≠ gp52 ∧ k_ ≠ gp53)) HO344.out (fun k_ hk => ⟨hk.1.1.2, ⟨hk.1.2, hk.2⟩⟩)); clear HO344; have HO344 := n_; clear n_; obtain ⟨hy16_, hz16_⟩ := Kd.R_celln 0 HO344.out (a2_0 : Int) (of_decide_eq_true (by first | (with_reducible assumption) | assumption)) (of_decide_eq_true (by first | (with_reducible assumption) | assumption)); have HP16 := Kd.R_putg HO344.out (a2_0 : Int) a0) | ((with_reducible refine gate_store (t := 2) (p := 15) rfl ?_); (try (rw [drewN_self w14]; generalize hq_ : World.drewN w14 _ = w14; have n0_ := Aside0.mk (Kd.R_at hq_ HO344.out); have n1_ := Aside0.mk (blk_at hq_ BK50.out); have n2_ := Aside0.mk (blk_at hq_ BK51.out); have n3_ := Aside0.mk (blk_at hq_ BK52.out); have n4_ := Aside0.mk (blk_at hq_ BK53.out); have n5_ := Aside0.mk (below_at hq_ HB.out); clear hq_ HO344 BK50 BK51 BK52 BK53 HB; have HO344 := n0_; have BK50 := n1_; have BK51 := n2_; have BK52 := n3_; have BK53 := n4_; have HB := n5_; clear n0_ n1_ n2_ n3_ n4_ n5_; (try (have n_ := Aside0.mk (Kd.R_mono (ok' := (fun k_ => k_ ≠ gp51 ∧ k_ ≠ gp52 ∧ k_ ≠ gp53)) HO344.out (fun k_ hk => ⟨hk.1.1.2, ⟨hk.1.2, hk.2⟩⟩)); clear HO344; have HO344 := n_; clear n_)); (try (obtain ⟨hy16_, hz16_⟩ := Kd.R_celln 0 HO344.out (a2_0 : Int) (of_decide_eq_true (by first | (with_reducible assumption) | assumption)) (of_decide_eq_true (by first | (with_reducible assumption) | assumption)))); (try (have HP16 := Kd.R_putg HO344.out (a2_0 : Int) a0)))); refine store_event (t := 2) (p := 15) (v := ?vo_w17) (w1 := (w14.setCell ⟨go9, (a2_0 : Int).toNat, none⟩ (.int .i64 a0))) ?hg ?ho ?hn ?hr ?_; (case ho => rfl); (case hg => rfl); (case hn => rfl); (case hr => first | (go_simp; done) | (go_simp; rfl)); intro w17 hw; have hg : w14.grownBy w17 (some go9) := (by rw [hw]; exact HP16.2); have hp_ : Kd.R (Kd.int .i64) 2 w17 w.heap.size (fun k_ => k_ ≠ gp51 ∧ k_ ≠ gp52 ∧ k_ ≠ gp53) (.slice (some ⟨go9, 0, none⟩) t342.length co9) y345 := (by rw [hw, Ny345.out]; exact HP16.1); clear HP16; have n0_ := Aside0.mk (blk_grown (g := gp50) (o := .cells #[.slice A1_0 l1_0.length c1_0] 22 (0, 0)) (by (with_reducible repeat (first | refine blk_drewN ?_ _ | refine blk_drew ?_ | refine blk_alloc ?_ _)); exact BK50.out) hg (Kd.R_ne HO344.out BK50.out (by decide))); have n1_ := Aside0.mk (blk_grown (g := gp51) (o := .cells #[.int .i64 a2_0] 2 (0, 0)) (by (with_reducible repeat (first | refine blk_drewN ?_ _ | refine blk_drew ?_ | refine blk_alloc ?_ _)); exact BK51.out) hg (Kd.R_away HO344.out (fun _ hk => hk.1))); have n2_ := Aside0.mk (blk_grown (g := gp52) (o := .cells #[.int .i64 a3_0] 2 (0, 0)) (by (with_reducible repeat (first | refine blk_drewN ?_ _ | refine blk_drew ?_ | refine blk_alloc ?_ _)); exact BK52.out) hg (Kd.R_away HO344.out (fun _ hk => hk.2.1))); have n3_ := Aside0.mk (blk_grown (g := gp53) (o := .cells #[.int .i64 a4_0] 2 (0, 0)) (by (with_reducible repeat (first | refine blk_drewN ?_ _ | refine blk_drew ?_ | refine blk_alloc ?_ _)); exact BK53.out) hg (Kd.R_away HO344.out (fun _ hk => hk.2.2))); have n4_ := Aside0.mk (hp_); have n5_ := Aside0.mk ((by rw [hw]; exact below_set (HB.out) GB9.out : Below w.heap.size w w17)); clear BK50; clear BK51; clear BK52; clear BK53; clear HO344; clear HB; have BK50 := n0_; have BK51 := n1_; have BK52 := n2_; have BK53 := n3_; have HO344 := n4_; have HB := n5_; clear n0_ n1_ n2_ n3_ n4_ n5_; clear hg hw hp_; have hcz18_0 : w17.cell? ⟨gp52, 0, none⟩ = some (.int .i64 a3_0) := (blk_cell BK52.out 0).trans rfl; have hfz18_0 := blk_frozen BK52.out 0) | (go_at_call 22; refine calls_of_args (args' := #[.int .i64 a3_0, .slice (some ⟨go9, 0, none⟩) y345.length co9, .int .i64 100]) (by first | (rw [show y345.length = t342.length from (Kd.R_reads' HO344.out).1.symm] <;> rfl) | rfl) ?_; (with_reducible refine (impl_SeatsBy.calls k a3_0 _ _ y345 100 t346 true _ ?side1 ?side2 A10.out).mono ?_); (case side1 => repeat (first | exact (Kd.R_reads' HO344.out).2.2 | (with_reducible refine Kd.C_alloc ?_ _) | (with_reducible refine Kd.C_drewN ?_ _) | (with_reducible refine Kd.C_drew ?_))); (case side2 => rw [show y345.length = t342.length from (Kd.R_reads' HO344.out).1.symm]; exact (Kd.R_reads' HO344.out).2.1); rintro e w19 ⟨v348, rfl, ho0, hb⟩; have n0_ := Aside0.mk (Kd.R_elder' (by (with_reducible repeat (first | apply Kd.R_alloc | apply Kd.R_drewN | apply Kd.R_drew)); exact HO344.out) (Kd.R_base ho0) hb); have n1_ := Aside0.mk (Kd.R_lower (Kd.R_newB (Kd.R_newB (Kd.R_newB (Kd.R_new' ho0 (Kd.R_lt (by (with_reducible repeat (first | apply Kd.R_alloc | apply Kd.R_drewN | apply Kd.R_drew)); exact HO344.out))) (g := gp51) (o := .cells #[.int .i64 a2_0] 2 (0, 0)) (by (with_reducible repeat (first | refine blk_drewN ?_ _ | refine blk_drew ?_ | refine blk_alloc ?_ _)); exact BK51.out)) (g := gp52) (o := .cells #[.int .i64 a3_0] 2 (0, 0)) (by (with_reducible repeat (first | refine blk_drewN ?_ _ | refine blk_drew ?_ | refine blk_alloc ?_ _)); exact BK52.out)) (g := gp53) (o := .cells #[.int .i64 a4_0] 2 (0, 0)) (by (with_reducible repeat (first | refine blk_drewN ?_ _ | refine blk_drew ?_ | refine blk_alloc ?_ _)); exact BK53.out)) (below_size (by repeat (first | (with_reducible first | exact HB.out | apply below_alloc | apply pw_below_drewN | apply below_drew1 | refine below_set ?_ GE50.out | refine below_set ?_ GE51.out | refine below_set ?_ GE52.out | refine below_set ?_ GE53.out) | exact HB.out)))); have n2_ := Aside0.mk (blk_below (g := gp50) (o := .cells #[.slice A1_0 l1_0.length c1_0] 22 (0, 0)) (by (with_reducible repeat (first | refine blk_drewN ?_ _ | refine blk_drew ?_ | refine blk_alloc ?_ _)); exact BK50.out) hb); have n3_ := Aside0.mk (blk_below (g := gp51) (o := .cells #[.int .i64 a2_0] 2 (0, 0)) (by (with_reducible repeat (first | refine blk_drewN ?_ _ | refine blk_drew ?_ | refine blk_alloc ?_ _)); exact BK51.out) hb); have n4_ := Aside0.mk (blk_below (g := gp52) (o := .cells #[.int .i64 a3_0] 2 (0, 0)) (by (with_reducible repeat (first | refine blk_drewN ?_ _ | refine blk_drew ?_ | refine blk_alloc ?_ _)); exact BK52.out) hb); have n5_ := Aside0.mk (blk_below (g := gp53) (o := .cells #[.int .i64 a4_0] 2 (0, 0)) (by (with_reducible repeat (first | refine blk_drewN ?_ _ | refine blk_drew ?_ | refine blk_alloc ?_ _)); exact BK53.out) hb); have n6_ := Aside0.mk (below_step (by repeat (first | (with_reducible first | exact HB.out | apply below_alloc | apply pw_below_drewN | apply below_drew1 | refine below_set ?_ GE50.out | refine below_set ?_ GE51.out | refine below_set ?_ GE52.out | refine below_set ?_ GE53.out) | exact HB.out)) hb); clear HO344; clear BK50; clear BK51; clear BK52; clear BK53; clear HB; have HO344 := n0_; have HO349 := n1_; have BK50 := n2_; have BK51 := n3_; have BK52 := n4_; have BK53 := n5_; have HB := n6_; clear n0_ n1_ n2_ n3_ n4_ n5_ n6_; (try clear hb); (try clear hb2); (try clear hk); (try clear hi); (try clear ho0); have hcz20_0 : w19.cell? ⟨gp51, 0, none⟩ = some (.int .i64 a2_0) := (blk_cell BK51.out 0).trans rfl; have hfz20_0 := blk_frozen BK51.out 0; obtain ⟨Ao21, co21, eo21⟩ := Kd.R_slice HO349.out; subst eo21; have p350 : 0 ≤ (a2_0 : Int) := of_decide_eq_true (by first | (with_reducible assumption) | assumption); have q350 : a2_0 < (t346.length : Int) := of_decide_eq_true (by first | (with_reducible assumption) | assumption); obtain ⟨ad350, e350, hx350_0⟩ := Kd.at_int (Kd.R_reads' HO349.out).2.2 a2_0 p350 q350; cases e350; replace p350 := eq_true p350; replace q350 := eq_true q350; have hcz22_0 : w19.cell? ⟨gp53, 0, none⟩ = some (.int .i64 a4_0) := (blk_cell BK53.out 0).trans rfl; have hfz22_0 := blk_frozen BK53.out 0)))
          go_ret
          exact ⟨by first | rfl | (simp [errW_none, errW_some] <;> rfl) | (simp [*, errW_none, errW_some] <;> rfl), by repeat (first | (with_reducible first | exact HB.out | apply below_alloc | apply pw_below_drewN | apply below_drew1 | refine below_set ?_ GE50.out | refine below_set ?_ GE51.out | refine below_set ?_ GE52.out | refine below_set ?_ GE53.out) | exact HB.out)⟩
        · rw [if_neg c12] at H
          exact absurd H (by simp)
      · replace c11 := Bool.eq_false_iff.mpr c11
        subst c11
        have H1 : (some false) = some r := by rw [if_neg (show ¬ (false = true) by decide)] at H; exact H
        clear H
        have H := H1
        clear H1
        obtain rfl := Option.some.inj H
        have hcz23_0 : w.cell? ⟨gp50, 0, none⟩ = some (.slice A1_0 l1_0.length c1_0) := (blk_cell BK50.out 0).trans rfl
        have hfz23_0 := blk_frozen BK50.out 0
        go_enter Try.func65, Try.ntmps65
        go_wp2_with (first | (go_at_call 66; (with_reducible refine (slices_Clone_int64_int64.calls _ _ l1_0 t342 _ ?side1 ?side2 A6.out).mono ?_); (case side1 => repeat (first | exact HR1_0.out | (with_reducible refine Kd.C_alloc ?_ _) | (with_reducible refine Kd.C_drewN ?_ _) | (with_reducible refine Kd.C_drew ?_))); (case side2 => exact HC1_0.out); rintro e w24 ⟨v343, rfl, ho0, hb⟩; have n0_ := Aside0.mk (Kd.R_lower (Kd.R_newB (Kd.R_newB (Kd.R_newB ho0 (g := gp51) (o := .cells #[.int .i64 a2_0] 2 (0, 0)) (by (with_reducible repeat (first | refine blk_drewN ?_ _ | refine blk_drew ?_ | refine blk_alloc ?_ _)); exact BK51.out)) (g := gp52) (o := .cells #[.int .i64 a3_0] 2 (0, 0)) (by (with_reducible repeat (first | refine blk_drewN ?_ _ | refine blk_drew ?_ | refine blk_alloc ?_ _)); exact BK52.out)) (g := gp53) (o := .cells #[.int .i64 a4_0] 2 (0, 0)) (by (with_reducible repeat (first | refine blk_drewN ?_ _ | refine blk_drew ?_ | refine blk_alloc ?_ _)); exact BK53.out)) (below_size (by repeat (first | (with_reducible first | exact HB.out | apply below_alloc | apply pw_below_drewN | apply below_drew1 | refine below_set ?_ GE50.out | refine below_set ?_ GE51.out | refine below_set ?_ GE52.out | refine below_set ?_ GE53.out) | exact HB.out)))); have n1_ := Aside0.mk (blk_below (g := gp50) (o := .cells #[.slice A1_0 l1_0.length c1_0] 22 (0, 0)) (by (with_reducible repeat (first | refine blk_drewN ?_ _ | refine blk_drew ?_ | refine blk_alloc ?_ _)); exact BK50.out) hb); have n2_ := Aside0.mk (blk_below (g := gp51) (o := .cells #[.int .i64 a2_0] 2 (0, 0)) (by (with_reducible repeat (first | refine blk_drewN ?_ _ | refine blk_drew ?_ | refine blk_alloc ?_ _)); exact BK51.out) hb); have n3_ := Aside0.mk (blk_below (g := gp52) (o := .cells #[.int .i64 a3_0] 2 (0, 0)) (by (with_reducible repeat (first | refine blk_drewN ?_ _ | refine blk_drew ?_ | refine blk_alloc ?_ _)); exact BK52.out) hb); have n4_ := Aside0.mk (blk_below (g := gp53) (o := .cells #[.int .i64 a4_0] 2 (0, 0)) (by (with_reducible repeat (first | refine blk_drewN ?_ _ | refine blk_drew ?_ | refine blk_alloc ?_ _)); exact BK53.out) hb); have n5_ := Aside0.mk (below_step (by repeat (first | (with_reducible first | exact HB.out | apply below_alloc | apply pw_below_drewN | apply below_drew1 | refine below_set ?_ GE50.out | refine below_set ?_ GE51.out | refine below_set ?_ GE52.out | refine below_set ?_ GE53.out) | exact HB.out)) hb); clear BK50; clear BK51; clear BK52; clear BK53; clear HB; have HO344 := n0_; have BK50 := n1_; have BK51 := n2_; have BK52 := n3_; have BK53 := n4_; have HB := n5_; clear n0_ n1_ n2_ n3_ n4_ n5_; (try clear hb); (try clear hb2); (try clear hk); (try clear hi); (try clear ho0); have hcz25_0 : w24.cell? ⟨gp51, 0, none⟩ = some (.int .i64 a2_0) := (blk_cell BK51.out 0).trans rfl; have hfz25_0 := blk_frozen BK51.out 0; have p9 : 0 ≤ (a2_0 : Int) := of_decide_eq_true (by first | (with_reducible assumption) | assumption); have q9 : (a2_0 : Int) < ((t342.length : Int) : Int) := of_decide_eq_true (by first | (with_reducible assumption) | assumption); obtain ⟨go9, co9, eo9, gb9, gl9, cl9, HG9⟩ := Kd.R_form HO344.out (by omega); (first | cases eo9 | (injection eo9 with ea_ en_ ec_; (first | subst ea_ | (injection ea_ with ea_; subst ea_)); subst ec_; clear en_)); have GB9 := Aside0.mk gb9; have GG9 := Aside0.mk HG9; clear gb9 gl9 HG9; obtain ⟨hx9_0, hf9_0⟩ := Kd.R_celln 0 HO344.out (a2_0 : Int) p9 q9; replace p9 := eq_true p9; replace q9 := eq_true q9; have n_ := Aside0.mk (Kd.R_mono (ok' := (fun k_ => k_ ≠ gp51 ∧ k_ ≠ gp52 ∧ k_ ≠ gp53)) HO344.out (fun k_ hk => ⟨hk.1.1.2, ⟨hk.1.2, hk.2⟩⟩)); clear HO344; have HO344 := n_; clear n_; obtain ⟨hy26_, hz26_⟩ := Kd.R_celln 0 HO344.out (a2_0 : Int) (of_decide_eq_true (by first | (with_reducible assumption) | assumption)) (of_decide_eq_true (by first | (with_reducible assumption) | assumption)); have HP26 := Kd.R_putg HO344.out (a2_0 : Int) a0) | ((with_reducible refine gate_store (t := 2) (p := 15) rfl ?_); (try (rw [drewN_self w24]; generalize hq_ : World.drewN w24 _ = w24; have n0_ := Aside0.mk (Kd.R_at hq_ HO344.out); have n1_ := Aside0.mk (blk_at hq_ BK50.out); have n2_ := Aside0.mk (blk_at hq_ BK51.out); have n3_ := Aside0.mk (blk_at hq_ BK52.out); have n4_ := Aside0.mk (blk_at hq_ BK53.out); have n5_ := Aside0.mk (below_at hq_ HB.out); clear hq_ HO344 BK50 BK51 BK52 BK53 HB; have HO344 := n0_; have BK50 := n1_; have BK51 := n2_; have BK52 := n3_; have BK53 := n4_; have HB := n5_; clear n0_ n1_ n2_ n3_ n4_ n5_; (try (have n_ := Aside0.mk (Kd.R_mono (ok' := (fun k_ => k_ ≠ gp51 ∧ k_ ≠ gp52 ∧ k_ ≠ gp53)) HO344.out (fun k_ hk => ⟨hk.1.1.2, ⟨hk.1.2, hk.2⟩⟩)); clear HO344; have HO344 := n_; clear n_)); (try (obtain ⟨hy26_, hz26_⟩ := Kd.R_celln 0 HO344.out (a2_0 : Int) (of_decide_eq_true (by first | (with_reducible assumption) | assumption)) (of_decide_eq_true (by first | (with_reducible assumption) | assumption)))); (try (have HP26 := Kd.R_putg HO344.out (a2_0 : Int) a0)))); refine store_event (t := 2) (p := 15) (v := ?vo_w27) (w1 := (w24.setCell ⟨go9, (a2_0 : Int).toNat, none⟩ (.int .i64 a0))) ?hg ?ho ?hn ?hr ?_; (case ho => rfl); (case hg => rfl); (case hn => rfl); (case hr => first | (go_simp; done) | (go_simp; rfl)); intro w27 hw; have hg : w24.grownBy w27 (some go9) := (by rw [hw]; exact HP26.2); have hp_ : Kd.R (Kd.int .i64) 2 w27 w.heap.size (fun k_ => k_ ≠ gp51 ∧ k_ ≠ gp52 ∧ k_ ≠ gp53) (.slice (some ⟨go9, 0, none⟩) t342.length co9) y345 := (by rw [hw, Ny345.out]; exact HP26.1); clear HP26; have n0_ := Aside0.mk (blk_grown (g := gp50) (o := .cells #[.slice A1_0 l1_0.length c1_0] 22 (0, 0)) (by (with_reducible repeat (first | refine blk_drewN ?_ _ | refine blk_drew ?_ | refine blk_alloc ?_ _)); exact BK50.out) hg (Kd.R_ne HO344.out BK50.out (by decide))); have n1_ := Aside0.mk (blk_grown (g := gp51) (o := .cells #[.int .i64 a2_0] 2 (0, 0)) (by (with_reducible repeat (first | refine blk_drewN ?_ _ | refine blk_drew ?_ | refine blk_alloc ?_ _)); exact BK51.out) hg (Kd.R_away HO344.out (fun _ hk => hk.1))); have n2_ := Aside0.mk (blk_grown (g := gp52) (o := .cells #[.int .i64 a3_0] 2 (0, 0)) (by (with_reducible repeat (first | refine blk_drewN ?_ _ | refine blk_drew ?_ | refine blk_alloc ?_ _)); exact BK52.out) hg (Kd.R_away HO344.out (fun _ hk => hk.2.1))); have n3_ := Aside0.mk (blk_grown (g := gp53) (o := .cells #[.int .i64 a4_0] 2 (0, 0)) (by (with_reducible repeat (first | refine blk_drewN ?_ _ | refine blk_drew ?_ | refine blk_alloc ?_ _)); exact BK53.out) hg (Kd.R_away HO344.out (fun _ hk => hk.2.2))); have n4_ := Aside0.mk (hp_); have n5_ := Aside0.mk ((by rw [hw]; exact below_set (HB.out) GB9.out : Below w.heap.size w w27)); clear BK50; clear BK51; clear BK52; clear BK53; clear HO344; clear HB; have BK50 := n0_; have BK51 := n1_; have BK52 := n2_; have BK53 := n3_; have HO344 := n4_; have HB := n5_; clear n0_ n1_ n2_ n3_ n4_ n5_; clear hg hw hp_; have hcz28_0 : w27.cell? ⟨gp52, 0, none⟩ = some (.int .i64 a3_0) := (blk_cell BK52.out 0).trans rfl; have hfz28_0 := blk_frozen BK52.out 0) | (go_at_call 22; refine calls_of_args (args' := #[.int .i64 a3_0, .slice (some ⟨go9, 0, none⟩) y345.length co9, .int .i64 100]) (by first | (rw [show y345.length = t342.length from (Kd.R_reads' HO344.out).1.symm] <;> rfl) | rfl) ?_; (with_reducible refine (impl_SeatsBy.calls k a3_0 _ _ y345 100 t346 false _ ?side1 ?side2 A10.out).mono ?_); (case side1 => repeat (first | exact (Kd.R_reads' HO344.out).2.2 | (with_reducible refine Kd.C_alloc ?_ _) | (with_reducible refine Kd.C_drewN ?_ _) | (with_reducible refine Kd.C_drew ?_))); (case side2 => rw [show y345.length = t342.length from (Kd.R_reads' HO344.out).1.symm]; exact (Kd.R_reads' HO344.out).2.1); rintro e w29 ⟨v348, rfl, ho0, hb⟩; have n0_ := Aside0.mk (Kd.R_elder' (by (with_reducible repeat (first | apply Kd.R_alloc | apply Kd.R_drewN | apply Kd.R_drew)); exact HO344.out) (Kd.R_base ho0) hb); have n1_ := Aside0.mk (Kd.R_lower (Kd.R_newB (Kd.R_newB (Kd.R_newB (Kd.R_new' ho0 (Kd.R_lt (by (with_reducible repeat (first | apply Kd.R_alloc | apply Kd.R_drewN | apply Kd.R_drew)); exact HO344.out))) (g := gp51) (o := .cells #[.int .i64 a2_0] 2 (0, 0)) (by (with_reducible repeat (first | refine blk_drewN ?_ _ | refine blk_drew ?_ | refine blk_alloc ?_ _)); exact BK51.out)) (g := gp52) (o := .cells #[.int .i64 a3_0] 2 (0, 0)) (by (with_reducible repeat (first | refine blk_drewN ?_ _ | refine blk_drew ?_ | refine blk_alloc ?_ _)); exact BK52.out)) (g := gp53) (o := .cells #[.int .i64 a4_0] 2 (0, 0)) (by (with_reducible repeat (first | refine blk_drewN ?_ _ | refine blk_drew ?_ | refine blk_alloc ?_ _)); exact BK53.out)) (below_size (by repeat (first | (with_reducible first | exact HB.out | apply below_alloc | apply pw_below_drewN | apply below_drew1 | refine below_set ?_ GE50.out | refine below_set ?_ GE51.out | refine below_set ?_ GE52.out | refine below_set ?_ GE53.out) | exact HB.out)))); have n2_ := Aside0.mk (blk_below (g := gp50) (o := .cells #[.slice A1_0 l1_0.length c1_0] 22 (0, 0)) (by (with_reducible repeat (first | refine blk_drewN ?_ _ | refine blk_drew ?_ | refine blk_alloc ?_ _)); exact BK50.out) hb); have n3_ := Aside0.mk (blk_below (g := gp51) (o := .cells #[.int .i64 a2_0] 2 (0, 0)) (by (with_reducible repeat (first | refine blk_drewN ?_ _ | refine blk_drew ?_ | refine blk_alloc ?_ _)); exact BK51.out) hb); have n4_ := Aside0.mk (blk_below (g := gp52) (o := .cells #[.int .i64 a3_0] 2 (0, 0)) (by (with_reducible repeat (first | refine blk_drewN ?_ _ | refine blk_drew ?_ | refine blk_alloc ?_ _)); exact BK52.out) hb); have n5_ := Aside0.mk (blk_below (g := gp53) (o := .cells #[.int .i64 a4_0] 2 (0, 0)) (by (with_reducible repeat (first | refine blk_drewN ?_ _ | refine blk_drew ?_ | refine blk_alloc ?_ _)); exact BK53.out) hb); have n6_ := Aside0.mk (below_step (by repeat (first | (with_reducible first | exact HB.out | apply below_alloc | apply pw_below_drewN | apply below_drew1 | refine below_set ?_ GE50.out | refine below_set ?_ GE51.out | refine below_set ?_ GE52.out | refine below_set ?_ GE53.out) | exact HB.out)) hb); clear HO344; clear BK50; clear BK51; clear BK52; clear BK53; clear HB; have HO344 := n0_; have HO349 := n1_; have BK50 := n2_; have BK51 := n3_; have BK52 := n4_; have BK53 := n5_; have HB := n6_; clear n0_ n1_ n2_ n3_ n4_ n5_ n6_; (try clear hb); (try clear hb2); (try clear hk); (try clear hi); (try clear ho0)))
        repeat (go_quiet (first | (go_at_call 66; (with_reducible refine (slices_Clone_int64_int64.calls _ _ l1_0 t342 _ ?side1 ?side2 A6.out).mono ?_); (case side1 => repeat (first | exact HR1_0.out | (with_reducible refine Kd.C_alloc ?_ _) | (with_reducible refine Kd.C_drewN ?_ _) | (with_reducible refine Kd.C_drew ?_))); (case side2 => exact HC1_0.out); rintro e w24 ⟨v343, rfl, ho0, hb⟩; have n0_ := Aside0.mk (Kd.R_lower (Kd.R_newB (Kd.R_newB (Kd.R_newB ho0 (g := gp51) (o := .cells #[.int .i64 a2_0] 2 (0, 0)) (by (with_reducible repeat (first | refine blk_drewN ?_ _ | refine blk_drew ?_ | refine blk_alloc ?_ _)); exact BK51.out)) (g := gp52) (o := .cells #[.int .i64 a3_0] 2 (0, 0)) (by (with_reducible repeat (first | refine blk_drewN ?_ _ | refine blk_drew ?_ | refine blk_alloc ?_ _)); exact BK52.out)) (g := gp53) (o := .cells #[.int .i64 a4_0] 2 (0, 0)) (by (with_reducible repeat (first | refine blk_drewN ?_ _ | refine blk_drew ?_ | refine blk_alloc ?_ _)); exact BK53.out)) (below_size (by repeat (first | (with_reducible first | exact HB.out | apply below_alloc | apply pw_below_drewN | apply below_drew1 | refine below_set ?_ GE50.out | refine below_set ?_ GE51.out | refine below_set ?_ GE52.out | refine below_set ?_ GE53.out) | exact HB.out)))); have n1_ := Aside0.mk (blk_below (g := gp50) (o := .cells #[.slice A1_0 l1_0.length c1_0] 22 (0, 0)) (by (with_reducible repeat (first | refine blk_drewN ?_ _ | refine blk_drew ?_ | refine blk_alloc ?_ _)); exact BK50.out) hb); have n2_ := Aside0.mk (blk_below (g := gp51) (o := .cells #[.int .i64 a2_0] 2 (0, 0)) (by (with_reducible repeat (first | refine blk_drewN ?_ _ | refine blk_drew ?_ | refine blk_alloc ?_ _)); exact BK51.out) hb); have n3_ := Aside0.mk (blk_below (g := gp52) (o := .cells #[.int .i64 a3_0] 2 (0, 0)) (by (with_reducible repeat (first | refine blk_drewN ?_ _ | refine blk_drew ?_ | refine blk_alloc ?_ _)); exact BK52.out) hb); have n4_ := Aside0.mk (blk_below (g := gp53) (o := .cells #[.int .i64 a4_0] 2 (0, 0)) (by (with_reducible repeat (first | refine blk_drewN ?_ _ | refine blk_drew ?_ | refine blk_alloc ?_ _)); exact BK53.out) hb); have n5_ := Aside0.mk (below_step (by repeat (first | (with_reducible first | exact HB.out | apply below_alloc | apply pw_below_drewN | apply below_drew1 | refine below_set ?_ GE50.out | refine below_set ?_ GE51.out | refine below_set ?_ GE52.out | refine below_set ?_ GE53.out) | exact HB.out)) hb); clear BK50; clear BK51; clear BK52; clear BK53; clear HB; have HO344 := n0_; have BK50 := n1_; have BK51 := n2_; have BK52 := n3_; have BK53 := n4_; have HB := n5_; clear n0_ n1_ n2_ n3_ n4_ n5_; (try clear hb); (try clear hb2); (try clear hk); (try clear hi); (try clear ho0); have hcz25_0 : w24.cell? ⟨gp51, 0, none⟩ = some (.int .i64 a2_0) := (blk_cell BK51.out 0).trans rfl; have hfz25_0 := blk_frozen BK51.out 0; have p9 : 0 ≤ (a2_0 : Int) := of_decide_eq_true (by first | (with_reducible assumption) | assumption); have q9 : (a2_0 : Int) < ((t342.length : Int) : Int) := of_decide_eq_true (by first | (with_reducible assumption) | assumption); obtain ⟨go9, co9, eo9, gb9, gl9, cl9, HG9⟩ := Kd.R_form HO344.out (by omega); (first | cases eo9 | (injection eo9 with ea_ en_ ec_; (first | subst ea_ | (injection ea_ with ea_; subst ea_)); subst ec_; clear en_)); have GB9 := Aside0.mk gb9; have GG9 := Aside0.mk HG9; clear gb9 gl9 HG9; obtain ⟨hx9_0, hf9_0⟩ := Kd.R_celln 0 HO344.out (a2_0 : Int) p9 q9; replace p9 := eq_true p9; replace q9 := eq_true q9; have n_ := Aside0.mk (Kd.R_mono (ok' := (fun k_ => k_ ≠ gp51 ∧ k_ ≠ gp52 ∧ k_ ≠ gp53)) HO344.out (fun k_ hk => ⟨hk.1.1.2, ⟨hk.1.2, hk.2⟩⟩)); clear HO344; have HO344 := n_; clear n_; obtain ⟨hy26_, hz26_⟩ := Kd.R_celln 0 HO344.out (a2_0 : Int) (of_decide_eq_true (by first | (with_reducible assumption) | assumption)) (of_decide_eq_true (by first | (with_reducible assumption) | assumption)); have HP26 := Kd.R_putg HO344.out (a2_0 : Int) a0) | ((with_reducible refine gate_store (t := 2) (p := 15) rfl ?_); (try (rw [drewN_self w24]; generalize hq_ : World.drewN w24 _ = w24; have n0_ := Aside0.mk (Kd.R_at hq_ HO344.out); have n1_ := Aside0.mk (blk_at hq_ BK50.out); have n2_ := Aside0.mk (blk_at hq_ BK51.out); have n3_ := Aside0.mk (blk_at hq_ BK52.out); have n4_ := Aside0.mk (blk_at hq_ BK53.out); have n5_ := Aside0.mk (below_at hq_ HB.out); clear hq_ HO344 BK50 BK51 BK52 BK53 HB; have HO344 := n0_; have BK50 := n1_; have BK51 := n2_; have BK52 := n3_; have BK53 := n4_; have HB := n5_; clear n0_ n1_ n2_ n3_ n4_ n5_; (try (have n_ := Aside0.mk (Kd.R_mono (ok' := (fun k_ => k_ ≠ gp51 ∧ k_ ≠ gp52 ∧ k_ ≠ gp53)) HO344.out (fun k_ hk => ⟨hk.1.1.2, ⟨hk.1.2, hk.2⟩⟩)); clear HO344; have HO344 := n_; clear n_)); (try (obtain ⟨hy26_, hz26_⟩ := Kd.R_celln 0 HO344.out (a2_0 : Int) (of_decide_eq_true (by first | (with_reducible assumption) | assumption)) (of_decide_eq_true (by first | (with_reducible assumption) | assumption)))); (try (have HP26 := Kd.R_putg HO344.out (a2_0 : Int) a0)))); refine store_event (t := 2) (p := 15) (v := ?vo_w27) (w1 := (w24.setCell ⟨go9, (a2_0 : Int).toNat, none⟩ (.int .i64 a0))) ?hg ?ho ?hn ?hr ?_; (case ho => rfl); (case hg => rfl); (case hn => rfl); (case hr => first | (go_simp; done) | (go_simp; rfl)); intro w27 hw; have hg : w24.grownBy w27 (some go9) := (by rw [hw]; exact HP26.2); have hp_ : Kd.R (Kd.int .i64) 2 w27 w.heap.size (fun k_ => k_ ≠ gp51 ∧ k_ ≠ gp52 ∧ k_ ≠ gp53) (.slice (some ⟨go9, 0, none⟩) t342.length co9) y345 := (by rw [hw, Ny345.out]; exact HP26.1); clear HP26; have n0_ := Aside0.mk (blk_grown (g := gp50) (o := .cells #[.slice A1_0 l1_0.length c1_0] 22 (0, 0)) (by (with_reducible repeat (first | refine blk_drewN ?_ _ | refine blk_drew ?_ | refine blk_alloc ?_ _)); exact BK50.out) hg (Kd.R_ne HO344.out BK50.out (by decide))); have n1_ := Aside0.mk (blk_grown (g := gp51) (o := .cells #[.int .i64 a2_0] 2 (0, 0)) (by (with_reducible repeat (first | refine blk_drewN ?_ _ | refine blk_drew ?_ | refine blk_alloc ?_ _)); exact BK51.out) hg (Kd.R_away HO344.out (fun _ hk => hk.1))); have n2_ := Aside0.mk (blk_grown (g := gp52) (o := .cells #[.int .i64 a3_0] 2 (0, 0)) (by (with_reducible repeat (first | refine blk_drewN ?_ _ | refine blk_drew ?_ | refine blk_alloc ?_ _)); exact BK52.out) hg (Kd.R_away HO344.out (fun _ hk => hk.2.1))); have n3_ := Aside0.mk (blk_grown (g := gp53) (o := .cells #[.int .i64 a4_0] 2 (0, 0)) (by (with_reducible repeat (first | refine blk_drewN ?_ _ | refine blk_drew ?_ | refine blk_alloc ?_ _)); exact BK53.out) hg (Kd.R_away HO344.out (fun _ hk => hk.2.2))); have n4_ := Aside0.mk (hp_); have n5_ := Aside0.mk ((by rw [hw]; exact below_set (HB.out) GB9.out : Below w.heap.size w w27)); clear BK50; clear BK51; clear BK52; clear BK53; clear HO344; clear HB; have BK50 := n0_; have BK51 := n1_; have BK52 := n2_; have BK53 := n3_; have HO344 := n4_; have HB := n5_; clear n0_ n1_ n2_ n3_ n4_ n5_; clear hg hw hp_; have hcz28_0 : w27.cell? ⟨gp52, 0, none⟩ = some (.int .i64 a3_0) := (blk_cell BK52.out 0).trans rfl; have hfz28_0 := blk_frozen BK52.out 0) | (go_at_call 22; refine calls_of_args (args' := #[.int .i64 a3_0, .slice (some ⟨go9, 0, none⟩) y345.length co9, .int .i64 100]) (by first | (rw [show y345.length = t342.length from (Kd.R_reads' HO344.out).1.symm] <;> rfl) | rfl) ?_; (with_reducible refine (impl_SeatsBy.calls k a3_0 _ _ y345 100 t346 false _ ?side1 ?side2 A10.out).mono ?_); (case side1 => repeat (first | exact (Kd.R_reads' HO344.out).2.2 | (with_reducible refine Kd.C_alloc ?_ _) | (with_reducible refine Kd.C_drewN ?_ _) | (with_reducible refine Kd.C_drew ?_))); (case side2 => rw [show y345.length = t342.length from (Kd.R_reads' HO344.out).1.symm]; exact (Kd.R_reads' HO344.out).2.1); rintro e w29 ⟨v348, rfl, ho0, hb⟩; have n0_ := Aside0.mk (Kd.R_elder' (by (with_reducible repeat (first | apply Kd.R_alloc | apply Kd.R_drewN | apply Kd.R_drew)); exact HO344.out) (Kd.R_base ho0) hb); have n1_ := Aside0.mk (Kd.R_lower (Kd.R_newB (Kd.R_newB (Kd.R_newB (Kd.R_new' ho0 (Kd.R_lt (by (with_reducible repeat (first | apply Kd.R_alloc | apply Kd.R_drewN | apply Kd.R_drew)); exact HO344.out))) (g := gp51) (o := .cells #[.int .i64 a2_0] 2 (0, 0)) (by (with_reducible repeat (first | refine blk_drewN ?_ _ | refine blk_drew ?_ | refine blk_alloc ?_ _)); exact BK51.out)) (g := gp52) (o := .cells #[.int .i64 a3_0] 2 (0, 0)) (by (with_reducible repeat (first | refine blk_drewN ?_ _ | refine blk_drew ?_ | refine blk_alloc ?_ _)); exact BK52.out)) (g := gp53) (o := .cells #[.int .i64 a4_0] 2 (0, 0)) (by (with_reducible repeat (first | refine blk_drewN ?_ _ | refine blk_drew ?_ | refine blk_alloc ?_ _)); exact BK53.out)) (below_size (by repeat (first | (with_reducible first | exact HB.out | apply below_alloc | apply pw_below_drewN | apply below_drew1 | refine below_set ?_ GE50.out | refine below_set ?_ GE51.out | refine below_set ?_ GE52.out | refine below_set ?_ GE53.out) | exact HB.out)))); have n2_ := Aside0.mk (blk_below (g := gp50) (o := .cells #[.slice A1_0 l1_0.length c1_0] 22 (0, 0)) (by (with_reducible repeat (first | refine blk_drewN ?_ _ | refine blk_drew ?_ | refine blk_alloc ?_ _)); exact BK50.out) hb); have n3_ := Aside0.mk (blk_below (g := gp51) (o := .cells #[.int .i64 a2_0] 2 (0, 0)) (by (with_reducible repeat (first | refine blk_drewN ?_ _ | refine blk_drew ?_ | refine blk_alloc ?_ _)); exact BK51.out) hb); have n4_ := Aside0.mk (blk_below (g := gp52) (o := .cells #[.int .i64 a3_0] 2 (0, 0)) (by (with_reducible repeat (first | refine blk_drewN ?_ _ | refine blk_drew ?_ | refine blk_alloc ?_ _)); exact BK52.out) hb); have n5_ := Aside0.mk (blk_below (g := gp53) (o := .cells #[.int .i64 a4_0] 2 (0, 0)) (by (with_reducible repeat (first | refine blk_drewN ?_ _ | refine blk_drew ?_ | refine blk_alloc ?_ _)); exact BK53.out) hb); have n6_ := Aside0.mk (below_step (by repeat (first | (with_reducible first | exact HB.out | apply below_alloc | apply pw_below_drewN | apply below_drew1 | refine below_set ?_ GE50.out | refine below_set ?_ GE51.out | refine below_set ?_ GE52.out | refine below_set ?_ GE53.out) | exact HB.out)) hb); clear HO344; clear BK50; clear BK51; clear BK52; clear BK53; clear HB; have HO344 := n0_; have HO349 := n1_; have BK50 := n2_; have BK51 := n3_; have BK52 := n4_; have BK53 := n5_; have HB := n6_; clear n0_ n1_ n2_ n3_ n4_ n5_ n6_; (try clear hb); (try clear hb2); (try clear hk); (try clear hi); (try clear ho0))); try go_wp2_with (first | (go_at_call 66; (with_reducible refine (slices_Clone_int64_int64.calls _ _ l1_0 t342 _ ?side1 ?side2 A6.out).mono ?_); (case side1 => repeat (first | exact HR1_0.out | (with_reducible refine Kd.C_alloc ?_ _) | (with_reducible refine Kd.C_drewN ?_ _) | (with_reducible refine Kd.C_drew ?_))); (case side2 => exact HC1_0.out); rintro e w24 ⟨v343, rfl, ho0, hb⟩; have n0_ := Aside0.mk (Kd.R_lower (Kd.R_newB (Kd.R_newB (Kd.R_newB ho0 (g := gp51) (o := .cells #[.int .i64 a2_0] 2 (0, 0)) (by (with_reducible repeat (first | refine blk_drewN ?_ _ | refine blk_drew ?_ | refine blk_alloc ?_ _)); exact BK51.out)) (g := gp52) (o := .cells #[.int .i64 a3_0] 2 (0, 0)) (by (with_reducible repeat (first | refine blk_drewN ?_ _ | refine blk_drew ?_ | refine blk_alloc ?_ _)); exact BK52.out)) (g := gp53) (o := .cells #[.int .i64 a4_0] 2 (0, 0)) (by (with_reducible repeat (first | refine blk_drewN ?_ _ | refine blk_drew ?_ | refine blk_alloc ?_ _)); exact BK53.out)) (below_size (by repeat (first | (with_reducible first | exact HB.out | apply below_alloc | apply pw_below_drewN | apply below_drew1 | refine below_set ?_ GE50.out | refine below_set ?_ GE51.out | refine below_set ?_ GE52.out | refine below_set ?_ GE53.out) | exact HB.out)))); have n1_ := Aside0.mk (blk_below (g := gp50) (o := .cells #[.slice A1_0 l1_0.length c1_0] 22 (0, 0)) (by (with_reducible repeat (first | refine blk_drewN ?_ _ | refine blk_drew ?_ | refine blk_alloc ?_ _)); exact BK50.out) hb); have n2_ := Aside0.mk (blk_below (g := gp51) (o := .cells #[.int .i64 a2_0] 2 (0, 0)) (by (with_reducible repeat (first | refine blk_drewN ?_ _ | refine blk_drew ?_ | refine blk_alloc ?_ _)); exact BK51.out) hb); have n3_ := Aside0.mk (blk_below (g := gp52) (o := .cells #[.int .i64 a3_0] 2 (0, 0)) (by (with_reducible repeat (first | refine blk_drewN ?_ _ | refine blk_drew ?_ | refine blk_alloc ?_ _)); exact BK52.out) hb); have n4_ := Aside0.mk (blk_below (g := gp53) (o := .cells #[.int .i64 a4_0] 2 (0, 0)) (by (with_reducible repeat (first | refine blk_drewN ?_ _ | refine blk_drew ?_ | refine blk_alloc ?_ _)); exact BK53.out) hb); have n5_ := Aside0.mk (below_step (by repeat (first | (with_reducible first | exact HB.out | apply below_alloc | apply pw_below_drewN | apply below_drew1 | refine below_set ?_ GE50.out | refine below_set ?_ GE51.out | refine below_set ?_ GE52.out | refine below_set ?_ GE53.out) | exact HB.out)) hb); clear BK50; clear BK51; clear BK52; clear BK53; clear HB; have HO344 := n0_; have BK50 := n1_; have BK51 := n2_; have BK52 := n3_; have BK53 := n4_; have HB := n5_; clear n0_ n1_ n2_ n3_ n4_ n5_; (try clear hb); (try clear hb2); (try clear hk); (try clear hi); (try clear ho0); have hcz25_0 : w24.cell? ⟨gp51, 0, none⟩ = some (.int .i64 a2_0) := (blk_cell BK51.out 0).trans rfl; have hfz25_0 := blk_frozen BK51.out 0; have p9 : 0 ≤ (a2_0 : Int) := of_decide_eq_true (by first | (with_reducible assumption) | assumption); have q9 : (a2_0 : Int) < ((t342.length : Int) : Int) := of_decide_eq_true (by first | (with_reducible assumption) | assumption); obtain ⟨go9, co9, eo9, gb9, gl9, cl9, HG9⟩ := Kd.R_form HO344.out (by omega); (first | cases eo9 | (injection eo9 with ea_ en_ ec_; (first | subst ea_ | (injection ea_ with ea_; subst ea_)); subst ec_; clear en_)); have GB9 := Aside0.mk gb9; have GG9 := Aside0.mk HG9; clear gb9 gl9 HG9; obtain ⟨hx9_0, hf9_0⟩ := Kd.R_celln 0 HO344.out (a2_0 : Int) p9 q9; replace p9 := eq_true p9; replace q9 := eq_true q9; have n_ := Aside0.mk (Kd.R_mono (ok' := (fun k_ => k_ ≠ gp51 ∧ k_ ≠ gp52 ∧ k_ ≠ gp53)) HO344.out (fun k_ hk => ⟨hk.1.1.2, ⟨hk.1.2, hk.2⟩⟩)); clear HO344; have HO344 := n_; clear n_; obtain ⟨hy26_, hz26_⟩ := Kd.R_celln 0 HO344.out (a2_0 : Int) (of_decide_eq_true (by first | (with_reducible assumption) | assumption)) (of_decide_eq_true (by first | (with_reducible assumption) | assumption)); have HP26 := Kd.R_putg HO344.out (a2_0 : Int) a0) | ((with_reducible refine gate_store (t := 2) (p := 15) rfl ?_); (try (rw [drewN_self w24]; generalize hq_ : World.drewN w24 _ = w24; have n0_ := Aside0.mk (Kd.R_at hq_ HO344.out); have n1_ := Aside0.mk (blk_at hq_ BK50.out); have n2_ := Aside0.mk (blk_at hq_ BK51.out); have n3_ := Aside0.mk (blk_at hq_ BK52.out); have n4_ := Aside0.mk (blk_at hq_ BK53.out); have n5_ := Aside0.mk (below_at hq_ HB.out); clear hq_ HO344 BK50 BK51 BK52 BK53 HB; have HO344 := n0_; have BK50 := n1_; have BK51 := n2_; have BK52 := n3_; have BK53 := n4_; have HB := n5_; clear n0_ n1_ n2_ n3_ n4_ n5_; (try (have n_ := Aside0.mk (Kd.R_mono (ok' := (fun k_ => k_ ≠ gp51 ∧ k_ ≠ gp52 ∧ k_ ≠ gp53)) HO344.out (fun k_ hk => ⟨hk.1.1.2, ⟨hk.1.2, hk.2⟩⟩)); clear HO344; have HO344 := n_; clear n_)); (try (obtain ⟨hy26_, hz26_⟩ := Kd.R_celln 0 HO344.out (a2_0 : Int) (of_decide_eq_true (by first | (with_reducible assumption) | assumption)) (of_decide_eq_true (by first | (with_reducible assumption) | assumption)))); (try (have HP26 := Kd.R_putg HO344.out (a2_0 : Int) a0)))); refine store_event (t := 2) (p := 15) (v := ?vo_w27) (w1 := (w24.setCell ⟨go9, (a2_0 : Int).toNat, none⟩ (.int .i64 a0))) ?hg ?ho ?hn ?hr ?_; (case ho => rfl); (case hg => rfl); (case hn => rfl); (case hr => first | (go_simp; done) | (go_simp; rfl)); intro w27 hw; have hg : w24.grownBy w27 (some go9) := (by rw [hw]; exact HP26.2); have hp_ : Kd.R (Kd.int .i64) 2 w27 w.heap.size (fun k_ => k_ ≠ gp51 ∧ k_ ≠ gp52 ∧ k_ ≠ gp53) (.slice (some ⟨go9, 0, none⟩) t342.length co9) y345 := (by rw [hw, Ny345.out]; exact HP26.1); clear HP26; have n0_ := Aside0.mk (blk_grown (g := gp50) (o := .cells #[.slice A1_0 l1_0.length c1_0] 22 (0, 0)) (by (with_reducible repeat (first | refine blk_drewN ?_ _ | refine blk_drew ?_ | refine blk_alloc ?_ _)); exact BK50.out) hg (Kd.R_ne HO344.out BK50.out (by decide))); have n1_ := Aside0.mk (blk_grown (g := gp51) (o := .cells #[.int .i64 a2_0] 2 (0, 0)) (by (with_reducible repeat (first | refine blk_drewN ?_ _ | refine blk_drew ?_ | refine blk_alloc ?_ _)); exact BK51.out) hg (Kd.R_away HO344.out (fun _ hk => hk.1))); have n2_ := Aside0.mk (blk_grown (g := gp52) (o := .cells #[.int .i64 a3_0] 2 (0, 0)) (by (with_reducible repeat (first | refine blk_drewN ?_ _ | refine blk_drew ?_ | refine blk_alloc ?_ _)); exact BK52.out) hg (Kd.R_away HO344.out (fun _ hk => hk.2.1))); have n3_ := Aside0.mk (blk_grown (g := gp53) (o := .cells #[.int .i64 a4_0] 2 (0, 0)) (by (with_reducible repeat (first | refine blk_drewN ?_ _ | refine blk_drew ?_ | refine blk_alloc ?_ _)); exact BK53.out) hg (Kd.R_away HO344.out (fun _ hk => hk.2.2))); have n4_ := Aside0.mk (hp_); have n5_ := Aside0.mk ((by rw [hw]; exact below_set (HB.out) GB9.out : Below w.heap.size w w27)); clear BK50; clear BK51; clear BK52; clear BK53; clear HO344; clear HB; have BK50 := n0_; have BK51 := n1_; have BK52 := n2_; have BK53 := n3_; have HO344 := n4_; have HB := n5_; clear n0_ n1_ n2_ n3_ n4_ n5_; clear hg hw hp_; have hcz28_0 : w27.cell? ⟨gp52, 0, none⟩ = some (.int .i64 a3_0) := (blk_cell BK52.out 0).trans rfl; have hfz28_0 := blk_frozen BK52.out 0) | (go_at_call 22; refine calls_of_args (args' := #[.int .i64 a3_0, .slice (some ⟨go9, 0, none⟩) y345.length co9, .int .i64 100]) (by first | (rw [show y345.length = t342.length from (Kd.R_reads' HO344.out).1.symm] <;> rfl) | rfl) ?_; (with_reducible refine (impl_SeatsBy.calls k a3_0 _ _ y345 100 t346 false _ ?side1 ?side2 A10.out).mono ?_); (case side1 => repeat (first | exact (Kd.R_reads' HO344.out).2.2 | (with_reducible refine Kd.C_alloc ?_ _) | (with_reducible refine Kd.C_drewN ?_ _) | (with_reducible refine Kd.C_drew ?_))); (case side2 => rw [show y345.length = t342.length from (Kd.R_reads' HO344.out).1.symm]; exact (Kd.R_reads' HO344.out).2.1); rintro e w29 ⟨v348, rfl, ho0, hb⟩; have n0_ := Aside0.mk (Kd.R_elder' (by (with_reducible repeat (first | apply Kd.R_alloc | apply Kd.R_drewN | apply Kd.R_drew)); exact HO344.out) (Kd.R_base ho0) hb); have n1_ := Aside0.mk (Kd.R_lower (Kd.R_newB (Kd.R_newB (Kd.R_newB (Kd.R_new' ho0 (Kd.R_lt (by (with_reducible repeat (first | apply Kd.R_alloc | apply Kd.R_drewN | apply Kd.R_drew)); exact HO344.out))) (g := gp51) (o := .cells #[.int .i64 a2_0] 2 (0, 0)) (by (with_reducible repeat (first | refine blk_drewN ?_ _ | refine blk_drew ?_ | refine blk_alloc ?_ _)); exact BK51.out)) (g := gp52) (o := .cells #[.int .i64 a3_0] 2 (0, 0)) (by (with_reducible repeat (first | refine blk_drewN ?_ _ | refine blk_drew ?_ | refine blk_alloc ?_ _)); exact BK52.out)) (g := gp53) (o := .cells #[.int .i64 a4_0] 2 (0, 0)) (by (with_reducible repeat (first | refine blk_drewN ?_ _ | refine blk_drew ?_ | refine blk_alloc ?_ _)); exact BK53.out)) (below_size (by repeat (first | (with_reducible first | exact HB.out | apply below_alloc | apply pw_below_drewN | apply below_drew1 | refine below_set ?_ GE50.out | refine below_set ?_ GE51.out | refine below_set ?_ GE52.out | refine below_set ?_ GE53.out) | exact HB.out)))); have n2_ := Aside0.mk (blk_below (g := gp50) (o := .cells #[.slice A1_0 l1_0.length c1_0] 22 (0, 0)) (by (with_reducible repeat (first | refine blk_drewN ?_ _ | refine blk_drew ?_ | refine blk_alloc ?_ _)); exact BK50.out) hb); have n3_ := Aside0.mk (blk_below (g := gp51) (o := .cells #[.int .i64 a2_0] 2 (0, 0)) (by (with_reducible repeat (first | refine blk_drewN ?_ _ | refine blk_drew ?_ | refine blk_alloc ?_ _)); exact BK51.out) hb); have n4_ := Aside0.mk (blk_below (g := gp52) (o := .cells #[.int .i64 a3_0] 2 (0, 0)) (by (with_reducible repeat (first | refine blk_drewN ?_ _ | refine blk_drew ?_ | refine blk_alloc ?_ _)); exact BK52.out) hb); have n5_ := Aside0.mk (blk_below (g := gp53) (o := .cells #[.int .i64 a4_0] 2 (0, 0)) (by (with_reducible repeat (first | refine blk_drewN ?_ _ | refine blk_drew ?_ | refine blk_alloc ?_ _)); exact BK53.out) hb); have n6_ := Aside0.mk (below_step (by repeat (first | (with_reducible first | exact HB.out | apply below_alloc | apply pw_below_drewN | apply below_drew1 | refine below_set ?_ GE50.out | refine below_set ?_ GE51.out | refine below_set ?_ GE52.out | refine below_set ?_ GE53.out) | exact HB.out)) hb); clear HO344; clear BK50; clear BK51; clear BK52; clear BK53; clear HB; have HO344 := n0_; have HO349 := n1_; have BK50 := n2_; have BK51 := n3_; have BK52 := n4_; have BK53 := n5_; have HB := n6_; clear n0_ n1_ n2_ n3_ n4_ n5_ n6_; (try clear hb); (try clear hb2); (try clear hk); (try clear hi); (try clear ho0))))
        go_ret
        exact ⟨by first | rfl | (simp [errW_none, errW_some] <;> rfl) | (simp [*, errW_none, errW_some] <;> rfl), by repeat (first | (with_reducible first | exact HB.out | apply below_alloc | apply pw_below_drewN | apply below_drew1 | refine below_set ?_ GE50.out | refine below_set ?_ GE51.out | refine below_set ?_ GE52.out | refine below_set ?_ GE53.out) | exact HB.out)⟩
    · rw [if_neg c8] at H
      exact absurd H (by simp)
  · rw [if_neg c7] at H
    exact absurd H (by simp)

end Go.Proofs.Ytebofadnefkacaa.P
