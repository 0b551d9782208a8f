-- Written by gen.py (wip/gen of this repo) over the kit's print: not trusted, Lean checks it.
import Derived.Test.YtnjehjkacicamaaP0
import Derived.Test.YtnjehjkacicamaaP21xFnExactIsSeatsBy
namespace Go.Proofs.Ytnjehjkacicamaa.P
open Go.RowKit Go.Proofs.YtnjehjkacicamaaW.PrintWords Go.Proofs.YtnjehjkacicamaaW.PrintLast Go.Proofs.YtnjehjkacicamaaW.PrintMore
attribute [local go_sem] max2_int min2_int max_two min_two max_three min_three max_four min_four   -- for this text's walks alone
set_option linter.unusedVariables false
set_option linter.unusedSimpArgs false

/-! ### spec_l02Cmp: function 90 -/
mutual
def spec_l02Cmp.j0 : Nat → Int → Int → Int → Int → Int → Int → Bool → Option (Int)
  | 0, _, _, _, _, _, _, _ => none
  | k + 1, x1, x3, x11, x12, x13, x14, x36 => if x36 = true then (spec_l02Cmp.j2 k x1 x3) else (if x11 = 0 then (spec_l02Cmp.j1 k x1 x3 x11 x12 x13 x14 (x12 == 0)) else (spec_l02Cmp.j1 k x1 x3 x11 x12 x13 x14 false))
def spec_l02Cmp.j2 : Nat → Int → Int → Option (Int)
  | 0, _, _ => none
  | k + 1, x13, x14 => if x13 < x14 then (some (-1)) else (if x13 > x14 then (some 1) else (some 0))
def spec_l02Cmp.j1 : Nat → Int → Int → Int → Int → Int → Int → Bool → Option (Int)
  | 0, _, _, _, _, _, _, _ => none
  | k + 1, x1, x3, x11, x12, x13, x14, x44 => if x44 = true then (spec_l02Cmp.j2 k x1 x3) else (if x11 = 0 then (spec_l02Cmp.j2 k x12 x11) else (if x12 = 0 then (spec_l02Cmp.j2 k x12 x11) else (spec_l02Cmp.j2 k x13 x14)))
end
def spec_l02Cmp.f (k : Nat) (a0 : Int) (a1 : Int) (a2 : Int) (a3 : Int) (a4 : Int) : Option (Int) := (spec_l02Divisor.f a0 a2).bind fun t691 => ((spec_l02Divisor.f a0 a4).bind fun t692 => (if a1 = 0 then (spec_l02Cmp.j0 k a1 a3 t691 t692 (wrap64 ((wrap64 (a1 * a1)) * t692)) (wrap64 ((wrap64 (a3 * a3)) * t691)) true) else (spec_l02Cmp.j0 k a1 a3 t691 t692 (wrap64 ((wrap64 (a1 * a1)) * t692)) (wrap64 ((wrap64 (a3 * a3)) * t691)) (a3 == 0))))
theorem spec_l02Cmp.mono_l : ∀ k, (∀ y0 y1 y2 y3 y4 y5 y6, LeO (spec_l02Cmp.j0 k y0 y1 y2 y3 y4 y5 y6) (spec_l02Cmp.j0 (k + 1) y0 y1 y2 y3 y4 y5 y6)) ∧ (∀ y0 y1, LeO (spec_l02Cmp.j2 k y0 y1) (spec_l02Cmp.j2 (k + 1) y0 y1)) ∧ (∀ y0 y1 y2 y3 y4 y5 y6, LeO (spec_l02Cmp.j1 k y0 y1 y2 y3 y4 y5 y6) (spec_l02Cmp.j1 (k + 1) y0 y1 y2 y3 y4 y5 y6))
  | 0 => ⟨fun _ _ _ _ _ _ _ r h => by simp [spec_l02Cmp.j0] at h, fun _ _ r h => by simp [spec_l02Cmp.j2] at h, fun _ _ _ _ _ _ _ r h => by simp [spec_l02Cmp.j1] at h⟩
  | k + 1 => by
    obtain ⟨ih0, ih1, ih2⟩ := spec_l02Cmp.mono_l k
    refine ⟨?_, ?_, ?_⟩
    · intro y0 y1 y2 y3 y4 y5 y6
      unfold spec_l02Cmp.j0
      repeat' first
      | (with_reducible exact ih0 _ _ _ _ _ _ _)
      | (with_reducible exact ih1 _ _)
      | (with_reducible exact ih2 _ _ _ _ _ _ _)
      | (with_reducible exact LeO.refl _)
      | (with_reducible exact LeO.none _)
      | (with_reducible refine LeO.ite ?_ ?_)
      | (with_reducible refine LeO.bind ?_ (fun _ => ?_))
      | exact ih0 _ _ _ _ _ _ _
      | exact ih1 _ _
      | exact ih2 _ _ _ _ _ _ _
      | exact LeO.none _
      | refine LeO.ite ?_ ?_
      | refine LeO.bind ?_ (fun _ => ?_)
    · intro y0 y1
      unfold spec_l02Cmp.j2
      repeat' first
      | (with_reducible exact ih0 _ _ _ _ _ _ _)
      | (with_reducible exact ih1 _ _)
      | (with_reducible exact ih2 _ _ _ _ _ _ _)
      | (with_reducible exact LeO.refl _)
      | (with_reducible exact LeO.none _)
      | (with_reducible refine LeO.ite ?_ ?_)
      | (with_reducible refine LeO.bind ?_ (fun _ => ?_))
      | exact ih0 _ _ _ _ _ _ _
      | exact ih1 _ _
      | exact ih2 _ _ _ _ _ _ _
      | exact LeO.none _
      | refine LeO.ite ?_ ?_
      | refine LeO.bind ?_ (fun _ => ?_)
    · intro y0 y1 y2 y3 y4 y5 y6
      unfold spec_l02Cmp.j1
      repeat' first
      | (with_reducible exact ih0 _ _ _ _ _ _ _)
      | (with_reducible exact ih1 _ _)
      | (with_reducible exact ih2 _ _ _ _ _ _ _)
      | (with_reducible exact LeO.refl _)
      | (with_reducible exact LeO.none _)
      | (with_reducible refine LeO.ite ?_ ?_)
      | (with_reducible refine LeO.bind ?_ (fun _ => ?_))
      | exact ih0 _ _ _ _ _ _ _
      | exact ih1 _ _
      | exact ih2 _ _ _ _ _ _ _
      | exact LeO.none _
      | refine LeO.ite ?_ ?_
      | refine LeO.bind ?_ (fun _ => ?_)
theorem spec_l02Cmp.mono : ∀ a0 a1 a2 a3 a4 k, LeO (spec_l02Cmp.f k a0 a1 a2 a3 a4) (spec_l02Cmp.f (k + 1) a0 a1 a2 a3 a4) := by
  intro a0 a1 a2 a3 a4 k
  obtain ⟨ih0, ih1, ih2⟩ := spec_l02Cmp.mono_l k
  unfold spec_l02Cmp.f
  repeat' first
      | (with_reducible exact ih0 _ _ _ _ _ _ _)
      | (with_reducible exact ih1 _ _)
      | (with_reducible exact ih2 _ _ _ _ _ _ _)
      | (with_reducible exact LeO.refl _)
      | (with_reducible exact LeO.none _)
      | (with_reducible refine LeO.ite ?_ ?_)
      | (with_reducible refine LeO.bind ?_ (fun _ => ?_))
      | exact ih0 _ _ _ _ _ _ _
      | exact ih1 _ _
      | exact ih2 _ _ _ _ _ _ _
      | exact LeO.none _
      | refine LeO.ite ?_ ?_
      | refine LeO.bind ?_ (fun _ => ?_)
set_option maxHeartbeats 8000000 in
set_option maxRecDepth 100000 in
theorem spec_l02Cmp.calls (k : Nat) (a0 : Int) (a1 : Int) (a2 : Int) (a3 : Int) (a4 : Int) (r : Int) (w : World) (h : spec_l02Cmp.f k a0 a1 a2 a3 a4 = some r) :
    Calls Try.prog 90 #[.int .i64 a0, .int .i64 a1, .int .i64 a2, .int .i64 a3, .int .i64 a4] w fun e w' => e = .returned (.int .i64 r) ∧ Drawn0 w w' := by
  have H : ((spec_l02Divisor.f a0 a2).bind fun t691 => ((spec_l02Divisor.f a0 a4).bind fun t692 => (if a1 = 0 then (spec_l02Cmp.j0 k a1 a3 t691 t692 (wrap64 ((wrap64 (a1 * a1)) * t692)) (wrap64 ((wrap64 (a3 * a3)) * t691)) true) else (spec_l02Cmp.j0 k a1 a3 t691 t692 (wrap64 ((wrap64 (a1 * a1)) * t692)) (wrap64 ((wrap64 (a3 * a3)) * t691)) (a3 == 0))))) = some r := h
  clear h
  replace H := Option.bind_eq_some_iff.mp H
  obtain ⟨t691, A60, H⟩ := H
  replace H : ((spec_l02Divisor.f a0 a4).bind fun t692 => (if a1 = 0 then (spec_l02Cmp.j0 k a1 a3 t691 t692 (wrap64 ((wrap64 (a1 * a1)) * t692)) (wrap64 ((wrap64 (a3 * a3)) * t691)) true) else (spec_l02Cmp.j0 k a1 a3 t691 t692 (wrap64 ((wrap64 (a1 * a1)) * t692)) (wrap64 ((wrap64 (a3 * a3)) * t691)) (a3 == 0)))) = some r := H
  have A6 := Aside0.mk A60
  clear A60
  replace H := Option.bind_eq_some_iff.mp H
  obtain ⟨t692, A70, H⟩ := H
  replace H : (if a1 = 0 then (spec_l02Cmp.j0 k a1 a3 t691 t692 (wrap64 ((wrap64 (a1 * a1)) * t692)) (wrap64 ((wrap64 (a3 * a3)) * t691)) true) else (spec_l02Cmp.j0 k a1 a3 t691 t692 (wrap64 ((wrap64 (a1 * a1)) * t692)) (wrap64 ((wrap64 (a3 * a3)) * t691)) (a3 == 0))) = some r := H
  have A7 := Aside0.mk A70
  clear A70
  have HC8 := Aside0.mk H
  clear H
  go_enter Try.func90, Try.ntmps90
  go_upto_region 5 with (first | ((with_reducible refine gate_callee (f := 116) rfl ?_); refine goesL_ (some 17) rfl rfl Try.func116 (by kernel_rfl) rfl #[.int .i64 a0, .int .i64 a2] rfl (by (try simp only [List.map_toArray, List.map_cons, List.map_nil]); first | done | rfl | (simp only [List.length_drop, List.length_take]; rfl)) ?_; (with_reducible refine (spec_l02Divisor.calls a0 a2 t691 _ A6.out).mono ?_); rintro e w' ⟨rfl, ⟨nd, rfl⟩⟩; refine ⟨_, rfl, ?_⟩) | ((with_reducible refine gate_callee (f := 116) rfl ?_); refine goesL_ (some 20) rfl rfl Try.func116 (by kernel_rfl) rfl #[.int .i64 a0, .int .i64 a4] rfl (by (try simp only [List.map_toArray, List.map_cons, List.map_nil]); first | done | rfl | (simp only [List.length_drop, List.length_take]; rfl)) ?_; (with_reducible refine (spec_l02Divisor.calls a0 a4 t692 _ A7.out).mono ?_); rintro e w' ⟨rfl, ⟨nd, rfl⟩⟩; refine ⟨_, rfl, ?_⟩))
  (try simp only [Act.put, List.setIfInBounds_toArray, List.set_cons_zero, List.set_cons_succ])
  go_cut [36] (fun v36 wc => ∃ (kq : Nat) (x36_7 : Bool), v36 = .bool x36_7 ∧ Aside0 (spec_l02Cmp.j0 kq a1 a3 t691 t692 (wrap64 ((wrap64 (a1 * a1)) * t692)) (wrap64 ((wrap64 (a3 * a3)) * t691)) x36_7 = some r) ∧ Aside0 (kq ≤ k) ∧ Drawn0 w wc)
  case first =>
    have H := HC8.out
    clear HC8
    by_cases c9 : a1 = 0
    · rw [if_pos c9] at H
      have c9b0 : (a1 == 0) = true := beq_iff_eq.mpr c9
      have c9b1 : (a1 != 0) = false := bne_eq_false_iff_eq.mpr c9
      clear c9
      (first | rw [c9b0] | (simp only [i64_w, i32_w]; rw [c9b0]) | skip)
      have H' := Aside0.mk H
      clear H
      as_aux_lemma =>
        go_wp2
        go_meet
        case rel => exact ⟨_, (true), (by first | rfl | (simp; done) | (simp [*]; done)), H', ⟨by first | omega | exact Nat.le_refl _⟩, by repeat (first | exact Drawn0.refl _ | apply Drawn0.step)⟩
    · rw [if_neg c9] at H
      have c9b0 : (a1 == 0) = false := beq_eq_false_iff_ne.mpr c9
      have c9b1 : (a1 != 0) = true := bne_iff_ne.mpr c9
      (first | rw [c9b0] | (simp only [i64_w, i32_w]; rw [c9b0]) | skip)
      have H' := Aside0.mk H
      clear H
      as_aux_lemma =>
        go_wp2
        go_meet
        case rel => exact ⟨_, ((a3 == 0)), (by first | rfl | (simp; done) | (simp [*]; done)), H', ⟨by first | omega | exact Nat.le_refl _⟩, by repeat (first | exact Drawn0.refl _ | apply Drawn0.step)⟩
  case rest =>
    clear HC8
    try clear c1
    try clear p2
    try clear p6
    try clear c9
    try clear c9b0
    try clear c9b1
    obtain ⟨kq, x36_7, rfl, HA, HJ7, ⟨mc7, rfl⟩⟩ := hcut
    cases kq with
    | zero => exact absurd HA.out (by simp [spec_l02Cmp.j0])
    | succ kj7 =>
      have H := HA.out
      clear HA
      simp only [spec_l02Cmp.j0] at H
      have HC10 := Aside0.mk H
      clear H
      go_upto_if 36 with (fail)
      go_cut [13, 14] (fun v13 v14 wc => ∃ (kq : Nat) (x13_9 : Int) (x14_9 : Int), v13 = .int .i64 x13_9 ∧ v14 = .int .i64 x14_9 ∧ Aside0 (spec_l02Cmp.j2 kq x13_9 x14_9 = some r) ∧ Aside0 (kq ≤ kj7) ∧ Drawn0 w wc)
      case first =>
        have H := HC10.out
        clear HC10
        by_cases c11 : x36_7 = true
        · subst c11
          have H1 : (spec_l02Cmp.j2 kj7 a1 a3) = some r := by rw [if_pos rfl] at H; exact H
          clear H
          have H := H1
          clear H1
          have H' := Aside0.mk H
          clear H
          as_aux_lemma =>
            go_wp2
            go_meet
            case rel => exact ⟨_, (a1), (a3), (by first | rfl | (simp; done) | (simp [*]; done)), (by first | rfl | (simp; done) | (simp [*]; done)), H', ⟨by have := HJ7.out; first | omega | exact Nat.le_refl _⟩, by repeat (first | exact Drawn0.refl _ | apply Drawn0.step)⟩
        · replace c11 := Bool.eq_false_iff.mpr c11
          subst c11
          have H1 : (if t691 = 0 then (spec_l02Cmp.j1 kj7 a1 a3 t691 t692 (wrap64 ((wrap64 (a1 * a1)) * t692)) (wrap64 ((wrap64 (a3 * a3)) * t691)) (t692 == 0)) else (spec_l02Cmp.j1 kj7 a1 a3 t691 t692 (wrap64 ((wrap64 (a1 * a1)) * t692)) (wrap64 ((wrap64 (a3 * a3)) * t691)) false)) = some r := by rw [if_neg (show ¬ (false = true) by decide)] at H; exact H
          clear H
          have H := H1
          clear H1
          have HC12 := Aside0.mk H
          clear H
          go_upto_region 8 with (fail)
          go_cut [44] (fun v44 wc => ∃ (kq : Nat) (x44_11 : Bool), v44 = .bool x44_11 ∧ Aside0 (spec_l02Cmp.j1 kq a1 a3 t691 t692 (wrap64 ((wrap64 (a1 * a1)) * t692)) (wrap64 ((wrap64 (a3 * a3)) * t691)) x44_11 = some r) ∧ Aside0 (kq ≤ kj7) ∧ Drawn0 w wc)
          case first =>
            have H := HC12.out
            clear HC12
            by_cases c13 : t691 = 0
            · rw [if_pos c13] at H
              have c13b0 : (t691 == 0) = true := beq_iff_eq.mpr c13
              have c13b1 : (t691 != 0) = false := bne_eq_false_iff_eq.mpr c13
              clear c13
              (first | rw [c13b0] | (simp only [i64_w, i32_w]; rw [c13b0]) | skip)
              have H' := Aside0.mk H
              clear H
              as_aux_lemma =>
                go_wp2
                go_meet
                case rel => exact ⟨_, ((t692 == 0)), (by first | rfl | (simp; done) | (simp [*]; done)), H', ⟨by have := HJ7.out; first | omega | exact Nat.le_refl _⟩, by repeat (first | exact Drawn0.refl _ | apply Drawn0.step)⟩
            · rw [if_neg c13] at H
              have c13b0 : (t691 == 0) = false := beq_eq_false_iff_ne.mpr c13
              have c13b1 : (t691 != 0) = true := bne_iff_ne.mpr c13
              (first | rw [c13b0] | (simp only [i64_w, i32_w]; rw [c13b0]) | skip)
              have H' := Aside0.mk H
              clear H
              as_aux_lemma =>
                go_wp2
                go_meet
                case rel => exact ⟨_, (false), (by first | rfl | (simp; done) | (simp [*]; done)), H', ⟨by have := HJ7.out; first | omega | exact Nat.le_refl _⟩, by repeat (first | exact Drawn0.refl _ | apply Drawn0.step)⟩
          case rest =>
            clear HC12
            try clear c1
            try clear p2
            try clear p6
            try clear c7
            try clear c9
            try clear c9b0
            try clear c9b1
            try clear c11
            try clear c13
            try clear c13b0
            try clear c13b1
            try clear p2
            try clear p6
            obtain ⟨kq, x44_11, rfl, HA, HJ11, ⟨mc11, rfl⟩⟩ := hcut
            cases kq with
            | zero => exact absurd HA.out (by simp [spec_l02Cmp.j1])
            | succ kj11 =>
              have H := HA.out
              clear HA
              simp only [spec_l02Cmp.j1] at H
              by_cases c14 : x44_11 = true
              · subst c14
                have H1 : (spec_l02Cmp.j2 kj11 a1 a3) = some r := by rw [if_pos rfl] at H; exact H
                clear H
                have H := H1
                clear H1
                have H' := Aside0.mk H
                clear H
                as_aux_lemma =>
                  go_wp2
                  go_meet
                  case rel => exact ⟨_, (a1), (a3), (by first | rfl | (simp; done) | (simp [*]; done)), (by first | rfl | (simp; done) | (simp [*]; done)), H', ⟨by have := HJ7.out; have := HJ11.out; first | omega | exact Nat.le_refl _⟩, by repeat (first | exact Drawn0.refl _ | apply Drawn0.step)⟩
              · replace c14 := Bool.eq_false_iff.mpr c14
                subst c14
                have H1 : (if t691 = 0 then (spec_l02Cmp.j2 kj11 t692 t691) else (if t692 = 0 then (spec_l02Cmp.j2 kj11 t692 t691) else (spec_l02Cmp.j2 kj11 (wrap64 ((wrap64 (a1 * a1)) * t692)) (wrap64 ((wrap64 (a3 * a3)) * t691))))) = some r := by rw [if_neg (show ¬ (false = true) by decide)] at H; exact H
                clear H
                have H := H1
                clear H1
                by_cases c15 : t691 = 0
                · rw [if_pos c15] at H
                  have c15b0 : (t691 == 0) = true := beq_iff_eq.mpr c15
                  have c15b1 : (t691 != 0) = false := bne_eq_false_iff_eq.mpr c15
                  clear c15
                  have H' := Aside0.mk H
                  clear H
                  as_aux_lemma =>
                    go_wp2
                    go_meet
                    case rel => exact ⟨_, (t692), (t691), (by first | rfl | (simp; done) | (simp [*]; done)), (by first | rfl | (simp; done) | (simp [*]; done)), H', ⟨by have := HJ7.out; have := HJ11.out; first | omega | exact Nat.le_refl _⟩, by repeat (first | exact Drawn0.refl _ | apply Drawn0.step)⟩
                · rw [if_neg c15] at H
                  have c15b0 : (t691 == 0) = false := beq_eq_false_iff_ne.mpr c15
                  have c15b1 : (t691 != 0) = true := bne_iff_ne.mpr c15
                  by_cases c16 : t692 = 0
                  · rw [if_pos c16] at H
                    have c16b0 : (t692 == 0) = true := beq_iff_eq.mpr c16
                    have c16b1 : (t692 != 0) = false := bne_eq_false_iff_eq.mpr c16
                    clear c16
                    have H' := Aside0.mk H
                    clear H
                    as_aux_lemma =>
                      go_wp2
                      go_meet
                      case rel => exact ⟨_, (t692), (t691), (by first | rfl | (simp; done) | (simp [*]; done)), (by first | rfl | (simp; done) | (simp [*]; done)), H', ⟨by have := HJ7.out; have := HJ11.out; first | omega | exact Nat.le_refl _⟩, by repeat (first | exact Drawn0.refl _ | apply Drawn0.step)⟩
                  · rw [if_neg c16] at H
                    have c16b0 : (t692 == 0) = false := beq_eq_false_iff_ne.mpr c16
                    have c16b1 : (t692 != 0) = true := bne_iff_ne.mpr c16
                    have H' := Aside0.mk H
                    clear H
                    as_aux_lemma =>
                      go_wp2
                      go_meet
                      case rel => exact ⟨_, ((wrap64 ((wrap64 (a1 * a1)) * t692))), ((wrap64 ((wrap64 (a3 * a3)) * t691))), (by first | rfl | (simp; done) | (simp [*]; done)), (by first | rfl | (simp; done) | (simp [*]; done)), H', ⟨by have := HJ7.out; have := HJ11.out; first | omega | exact Nat.le_refl _⟩, by repeat (first | exact Drawn0.refl _ | apply Drawn0.step)⟩
      case rest =>
        clear HC10
        try clear c1
        try clear p2
        try clear p6
        try clear c7
        try clear c9
        try clear c9b0
        try clear c9b1
        try clear c11
        try clear c13
        try clear c13b0
        try clear c13b1
        try clear c14
        try clear c15
        try clear c15b0
        try clear c15b1
        try clear c16
        try clear c16b0
        try clear c16b1
        try clear p2
        try clear p6
        obtain ⟨kq, x13_9, x14_9, rfl, rfl, HA, HJ9, ⟨mc9, rfl⟩⟩ := hcut
        cases kq with
        | zero => exact absurd HA.out (by simp [spec_l02Cmp.j2])
        | succ kj9 =>
          have H := HA.out
          clear HA
          simp only [spec_l02Cmp.j2] at H
          by_cases c17 : x13_9 < x14_9
          · rw [if_pos c17] at H
            have c17b0 : decide (x13_9 < x14_9) = true := decide_eq_true c17
            clear c17
            obtain rfl := Option.some.inj H
            as_aux_lemma =>
              go_wp2
              go_ret
              exact ⟨by first | rfl | (simp; done) | (simp [*]; done), by repeat (first | exact Drawn0.refl _ | apply Drawn0.step)⟩
          · rw [if_neg c17] at H
            have c17b0 : decide (x13_9 < x14_9) = false := decide_eq_false c17
            clear c17
            by_cases c18 : x13_9 > x14_9
            · rw [if_pos c18] at H
              have c18b0 : decide (x14_9 < x13_9) = true := decide_eq_true c18
              clear c18
              obtain rfl := Option.some.inj H
              as_aux_lemma =>
                go_wp2
                go_ret
                exact ⟨by first | rfl | (simp; done) | (simp [*]; done), by repeat (first | exact Drawn0.refl _ | apply Drawn0.step)⟩
            · rw [if_neg c18] at H
              have c18b0 : decide (x14_9 < x13_9) = false := decide_eq_false c18
              clear c18
              obtain rfl := Option.some.inj H
              as_aux_lemma =>
                go_wp2
                go_ret
                exact ⟨by first | rfl | (simp; done) | (simp [*]; done), by repeat (first | exact Drawn0.refl _ | apply Drawn0.step)⟩

end Go.Proofs.Ytnjehjkacicamaa.P
