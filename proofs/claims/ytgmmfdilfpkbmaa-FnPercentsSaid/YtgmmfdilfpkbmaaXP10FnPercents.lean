import Derived.Test.YtgmmfdilfpkbmaaXP0FnPercents
import Derived.Test.YtgmmfdilfpkbmaaXP1FnPercents
import Derived.Test.YtgmmfdilfpkbmaaXP2FnPercents
import Derived.Test.YtgmmfdilfpkbmaaXP3FnPercents
import Derived.Test.YtgmmfdilfpkbmaaXP6FnPercents
namespace Go.Proofs.Ytgmmfdilfpkbmaa.P
open Go.RowKit Go.Proofs.YtgmmfdilfpkbmaaW.PrintWords Go.Proofs.YtgmmfdilfpkbmaaW.PrintLast Go.Proofs.YtgmmfdilfpkbmaaW.PrintMore
attribute [local go_sem] max2_int min2_int max_two min_two max_three min_three max_four min_four
set_option linter.unusedVariables false
set_option linter.unusedSimpArgs false
def laws_r8Long.f (l0 : List Int) (l1 : List Int) : Option (Bool) := if (l0.length : Int) > 48 then (some true) else (some (decide ((l1.length : Int) > 48)))
set_option maxHeartbeats 8000000 in
set_option maxRecDepth 100000 in
theorem laws_r8Long.calls (A0 : Option Addr) (c0 : Nat) (l0 : List Int) (A1 : Option Addr) (c1 : Nat) (l1 : List Int) (r : Bool) (w : World) (hr0 : Kd.C (Kd.int .u8) w A0 l0.length l0) (hc0 : l0.length ≤ c0) (hr1 : Kd.C (Kd.int .u8) w A1 l1.length l1) (hc1 : l1.length ≤ c1) (h : laws_r8Long.f l0 l1 = some r) :
  Calls Try.prog 33 #[.slice A0 l0.length c0, .slice A1 l1.length c1] w fun e w' => e = .returned (.bool r) ∧ Drawn0 w w' := by
 have HR0 := Zac.mk hr0
 have HC0 := Zac.mk hc0
 clear hr0 hc0
 have HR1 := Zac.mk hr1
 have HC1 := Zac.mk hc1
 clear hr1 hc1
 have H : (if (l0.length : Int) > 48 then (some true) else (some (decide ((l1.length : Int) > 48)))) = some r := h
 clear h
 by_cases c3 : (l0.length : Int) > 48
 ·rw [if_pos c3] at H
  have c3b0 : decide (48 < (l0.length : Int)) = true := decide_eq_true c3
  have c3b1 : decide (48 < l0.length) = true := decide_eq_true (by omega)
  clear c3
  obtain rfl := Option.some.inj H
  go_enter Try.func33, Try.ntmps33
  go_wp2
  go_ret
  exact ⟨by first | rfl | (simp; done) | (simp [*]; done), by repeat (first | exact Drawn0.refl _ | apply Drawn0.step)⟩
 ·rw [if_neg c3] at H
  have c3b0 : decide (48 < (l0.length : Int)) = false := decide_eq_false c3
  have c3b1 : decide (48 < l0.length) = false := decide_eq_false (by omega)
  clear c3
  obtain rfl := Option.some.inj H
  go_enter Try.func33, Try.ntmps33
  go_wp2
  go_ret
  exact ⟨by first | rfl | (simp; done) | (simp [*]; done), by repeat (first | exact Drawn0.refl _ | apply Drawn0.step)⟩
def spec_R8Votes.l0 : Nat → List Int → Int → List Int → Int → Int → Option (List Int)
 | 0, _, _, _, _, _ => none
 | k + 1, x4, x5, x411000, x411001, x411002 => if x5 > 0 then ((spec_l00Src_pick.f x411000 x411001 x411002 30).bind fun bt420 => (if x4.length < 17592186044416 then (spec_R8Votes.l0 k (x4 ++ [bt420.1]) (wrap64 (x5 - 1)) x411000 bt420.2.1 bt420.2.2) else (none))) else (some x4)
def spec_R8Votes.f (k : Nat) (l0 : List Int) : Option (List Int) := (spec_l00From.f l0).bind fun bt407 => ((spec_l00Src_pick.f bt407.1 bt407.2.1 bt407.2.2 30).bind fun bt411 => ((spec_l00Src_pick.f bt407.1 bt411.2.1 bt411.2.2 5).bind fun bt417 => (spec_R8Votes.l0 k (([wrap64 (1 + bt411.1)] : List Int)) bt417.1 bt407.1 bt417.2.1 bt417.2.2)))
set_option maxHeartbeats 8000000 in
set_option maxRecDepth 100000 in
theorem spec_R8Votes.calls (k : Nat) (A0 : Option Addr) (c0 : Nat) (l0 : List Int) (r : List Int) (w : World) (hr0 : Kd.C (Kd.int .u8) w A0 l0.length l0) (hc0 : l0.length ≤ c0) (h : spec_R8Votes.f k l0 = some r) :
  Calls Try.prog 34 #[.slice A0 l0.length c0] w fun e w' => ∃ v0_ : Value, e = .returned (v0_) ∧ Kd.R (Kd.int .i64) 2 w' w.heap.size (fun _ => True) v0_ r ∧ Below w.heap.size w w' := by
 have HR0 := Zac.mk hr0
 have HC0 := Zac.mk hc0
 clear hr0 hc0
 have HB := Zac.mk (Below.refl w.heap.size w)
 have H : ((spec_l00From.f l0).bind fun bt407 => ((spec_l00Src_pick.f bt407.1 bt407.2.1 bt407.2.2 30).bind fun bt411 => ((spec_l00Src_pick.f bt407.1 bt411.2.1 bt411.2.2 5).bind fun bt417 => (spec_R8Votes.l0 k (([wrap64 (1 + bt411.1)] : List Int)) bt417.1 bt407.1 bt417.2.1 bt417.2.2)))) = some r := h
 clear h
 replace H := Option.bind_eq_some_iff.mp H
 obtain ⟨⟨t407, t408, t409⟩, A20, H⟩ := H
 replace H : ((spec_l00Src_pick.f t407 t408 t409 30).bind fun bt411 => ((spec_l00Src_pick.f t407 bt411.2.1 bt411.2.2 5).bind fun bt417 => (spec_R8Votes.l0 k (([wrap64 (1 + bt411.1)] : List Int)) bt417.1 t407 bt417.2.1 bt417.2.2))) = some r := H
 have A2 := Zac.mk A20
 clear A20
 replace H := Option.bind_eq_some_iff.mp H
 obtain ⟨⟨t411, t412, t413⟩, A30, H⟩ := H
 replace H : ((spec_l00Src_pick.f t407 t412 t413 5).bind fun bt417 => (spec_R8Votes.l0 k (([wrap64 (1 + t411)] : List Int)) bt417.1 t407 bt417.2.1 bt417.2.2)) = some r := H
 have A3 := Zac.mk A30
 clear A30
 obtain ⟨y414, hy414⟩ : ∃ y_ : List Int, y_ = (([wrap64 (1 + t411)] : List Int)) := ⟨_, rfl⟩
 replace H : ((spec_l00Src_pick.f t407 t412 t413 5).bind fun bt417 => (spec_R8Votes.l0 k y414 bt417.1 t407 bt417.2.1 bt417.2.2)) = some r := by first | (rw [hy414]; with_reducible exact H) | (have H2_ := (Option.bind_some _ _).symm.trans H; rw [hy414]; with_reducible exact H2_) | (have H2_ := (Option.bind_some _ _).symm.trans H; with_reducible exact H2_) | with_reducible exact H | (rw [hy414]; exact H) | exact H
 have Ny414 := Zac.mk hy414
 clear hy414
 replace H := Option.bind_eq_some_iff.mp H
 obtain ⟨⟨t417, t418, t419⟩, A40, H⟩ := H
 replace H : (spec_R8Votes.l0 k y414 t417 t407 t418 t419) = some r := H
 have A4 := Zac.mk A40
 clear A40
 have H' := Zac.mk H
 clear H
 go_enter Try.func34, Try.ntmps34
 go_wp2_with (first | ((with_reducible refine Za4 (f := 65) rfl ?_); refine goesL_ (some 7) rfl rfl Try.func65 (by kernel_rfl) rfl #[.slice A0 l0.length c0] rfl (by (try simp only [List.map_toArray, List.map_cons, List.map_nil]); first | done | rfl | (simp only [List.length_drop, List.length_take]; rfl)) ?_; (with_reducible refine (spec_l00From.calls _ _ l0 t407 t408 t409 w _ ?side1 ?side2 ?side3 A2.out).mono ?_); (case side1 => repeat (first | (with_reducible first | exact HB.out | apply Zae | apply Zab | apply Zad) | exact HB.out)); (case side2 => exact HR0.out); (case side3 => exact HC0.out); rintro e w5 ⟨g410, rfl, hi, hb, hb2⟩; refine ⟨_, rfl, ?_⟩; have n0_ := Zac.mk (hb); have n1_ := Zac.mk (hi); clear HB; have HB := n0_; have HI410 := n1_; clear n0_ n1_; (try clear hb); (try clear hb2); (try clear hk); (try clear hi)) | ((with_reducible refine Za4 (f := 66) rfl ?_); refine goesL_ (some 9) rfl rfl Try.func66 (by kernel_rfl) rfl #[.pointer (some ⟨g410, 0, none⟩), .int .i64 30] rfl (by (try simp only [List.map_toArray, List.map_cons, List.map_nil]); first | done | rfl | (simp only [List.length_drop, List.length_take]; rfl)) ?_; (with_reducible refine (spec_l00Src_pick.calls g410 t407 t408 t409 30 t411 t412 t413 w _ ?side1 ?side2 A3.out).mono ?_); (case side1 => repeat (first | (with_reducible first | exact HI410.out | apply Za1.alloc | apply Za1.drewN | apply Za1.drew | apply Za1.set_1 | apply Za1.set_2) | exact HI410.out)); (case side2 => repeat (first | (with_reducible first | exact HB.out | apply Zae | apply Zab | apply Zad | refine Zag ?_ (Za1.ge HI410.out)) | exact HB.out)); rintro e w6 ⟨rfl, hi, hb, hk⟩; refine ⟨_, rfl, ?_⟩; have n0_ := Zac.mk (hb); have n1_ := Zac.mk (hi); clear HB; clear HI410; have HB := n0_; have HI410 := n1_; clear n0_ n1_; (try clear hb); (try clear hb2); (try clear hk); (try clear hi)) | ((with_reducible refine gate_dst (N := 11) rfl ?_); refine Kd.R_lit (Kd.int .i64) _ 2 ?hg (N := 11) ?hd (xs := ([wrap64 (1 + t411)] : List Int)) (inner := [.int .i64 (wrap64 (1 + t411))]) (ok := fun _ => True) (okp := fun _ => True) ?hr ?hp (fun _ hk => hk) trivial (Below.refl _ _) (Nat.le_refl _) (by simp) ?_; (case hd => rfl); (case hg => rfl); (case hr => first | (go_simp; done) | (go_simp; rfl)); (case hp => exact (Reps.one (show Kd.M (Kd.int .i64) _ _ _ (wrap64 (1 + t411)) [.int .i64 (wrap64 (1 + t411))] from rfl) (Reps.none _ _))); intro v415 w7 ho8 hb hg_ hnew_; clear hg_ hnew_; (first | rw [← Ny414.out] at ho8 | (simp only [Int.reduceToNat] at ho8; rw [← Ny414.out] at ho8)); have n0_ := Zac.mk (Kd.R_lower ho8 (Zaw (by repeat (first | (with_reducible first | exact HB.out | apply Zae | apply Zab | apply Zad | refine Zag ?_ (Za1.ge HI410.out)) | exact HB.out)))); have n1_ := Zac.mk (Za1.below (by repeat (first | (with_reducible first | exact HI410.out | apply Za1.alloc | apply Za1.drewN | apply Za1.drew | apply Za1.set_1 | apply Za1.set_2) | exact HI410.out)) hb); have n2_ := Zac.mk (Zaz (by repeat (first | (with_reducible first | exact HB.out | apply Zae | apply Zab | apply Zad | refine Zag ?_ (Za1.ge HI410.out)) | exact HB.out)) hb); clear HI410; clear HB; have HO416 := n0_; have HI410 := n1_; have HB := n2_; clear n0_ n1_ n2_; clear hb ho8) | ((with_reducible refine Za4 (f := 66) rfl ?_); refine goesL_ (some 13) rfl rfl Try.func66 (by kernel_rfl) rfl #[.pointer (some ⟨g410, 0, none⟩), .int .i64 5] rfl (by (try simp only [List.map_toArray, List.map_cons, List.map_nil]); first | done | rfl | (simp only [List.length_drop, List.length_take]; rfl)) ?_; (with_reducible refine (spec_l00Src_pick.calls g410 t407 t412 t413 5 t417 t418 t419 w _ ?side1 ?side2 A4.out).mono ?_); (case side1 => repeat (first | (with_reducible first | exact HI410.out | apply Za1.alloc | apply Za1.drewN | apply Za1.drew | apply Za1.set_1 | apply Za1.set_2) | exact HI410.out)); (case side2 => repeat (first | (with_reducible first | exact HB.out | apply Zae | apply Zab | apply Zad | refine Zag ?_ (Za1.ge HI410.out)) | exact HB.out)); rintro e w9 ⟨rfl, hi, hb, hk⟩; refine ⟨_, rfl, ?_⟩; have n0_ := Zac.mk (Kd.R_mono (Kd.R_keep (Za1.apart (show Za1 w _ g410 t407 t412 t413 from by repeat (first | (with_reducible first | exact HI410.out | apply Za1.alloc | apply Za1.drewN | apply Za1.drew | apply Za1.set_1 | apply Za1.set_2) | exact HI410.out)) (by (with_reducible repeat (first | apply Kd.R_alloc | apply Kd.R_drewN | apply Kd.R_drew)); exact HO416.out) (by decide)) hk (fun _ h => h.2)) (fun _ h => h.1)); have n1_ := Zac.mk (hb); have n2_ := Zac.mk (hi); clear HO416; clear HB; clear HI410; have HO416 := n0_; have HB := n1_; have HI410 := n2_; clear n0_ n1_ n2_; (try clear hb); (try clear hb2); (try clear hk); (try clear hi)))
 try simp only [Act.put, List.setIfInBounds_toArray, List.set_cons_zero, List.set_cons_succ]
 go_loopg [4, 5] k (fun kq v4 v5 w' => ∃ (x4_1 : List Int) (x5_1 : Int) (x411001_1 : Int) (x411002_1 : Int), v5 = .int .i64 x5_1 ∧ Zac (spec_R8Votes.l0 kq x4_1 x5_1 t407 x411001_1 x411002_1 = some r) ∧ Zac (kq ≤ k) ∧ Zac (Kd.R (Kd.int .i64) 2 w' w.heap.size (fun _ => True) v4 x4_1) ∧ Zac (Za1 w w' g410 t407 x411001_1 x411002_1) ∧ Zac (Below w.heap.size w w'))
 case atStart => exact ⟨(y414), (t417), (t418), (t419), (by first | rfl | (simp; done) | (simp [*]; done)), H', ⟨Nat.le_refl _⟩, ⟨by (with_reducible repeat (first | apply Kd.R_alloc | apply Kd.R_drewN | apply Kd.R_drew)); exact HO416.out⟩, ⟨by repeat (first | (with_reducible first | exact HI410.out | apply Za1.alloc | apply Za1.drewN | apply Za1.drew | apply Za1.set_1 | apply Za1.set_2) | exact HI410.out)⟩, ⟨by repeat (first | (with_reducible first | exact HB.out | apply Zae | apply Zab | apply Zad | refine Zag ?_ (Za1.ge HI410.out)) | exact HB.out)⟩⟩
 case round =>
  clear H'
  try clear p2
  try clear c3
  try clear c6
  try clear p6
  obtain ⟨x4_1, x5_1, x411001_1, x411002_1, rfl, HA, HK1, HO_4, HI410, HB⟩ := hrel
  cases gk with
  | zero => exact absurd HA.out (by simp [spec_R8Votes.l0])
  | succ k1 =>
   have H := HA.out
   clear HA
   simp only [spec_R8Votes.l0] at H
   by_cases c10 : x5_1 > 0
   ·rw [if_pos c10] at H
    have c10b0 : decide (0 < x5_1) = true := decide_eq_true c10
    clear c10
    replace H := Option.bind_eq_some_iff.mp H
    obtain ⟨⟨t420, t421, t422⟩, A110, H⟩ := H
    replace H : (if x4_1.length < 17592186044416 then (spec_R8Votes.l0 k1 (x4_1 ++ [t420]) (wrap64 (x5_1 - 1)) t407 t421 t422) else (none)) = some r := H
    have A11 := Zac.mk A110
    clear A110
    by_cases c12 : x4_1.length < 17592186044416
    ·rw [if_pos c12] at H
     have LMc12 := Zac.mk c12
     clear c12
     obtain ⟨y423, hy423⟩ : ∃ y_ : List Int, y_ = (x4_1 ++ [t420]) := ⟨_, rfl⟩
     replace H : (spec_R8Votes.l0 k1 y423 (wrap64 (x5_1 - 1)) t407 t421 t422) = some r := by first | (rw [hy423]; with_reducible exact H) | (have H2_ := (Option.bind_some _ _).symm.trans H; rw [hy423]; with_reducible exact H2_) | (have H2_ := (Option.bind_some _ _).symm.trans H; with_reducible exact H2_) | with_reducible exact H | (rw [hy423]; exact H) | exact H
     have Ny423 := Zac.mk hy423
     clear hy423
     have H' := Zac.mk H
     clear H
     go_wp2_with (first | ((with_reducible refine Za4 (f := 66) rfl ?_); refine goesL_ (some 20) rfl rfl Try.func66 (by kernel_rfl) rfl #[.pointer (some ⟨g410, 0, none⟩), .int .i64 30] rfl (by (try simp only [List.map_toArray, List.map_cons, List.map_nil]); first | done | rfl | (simp only [List.length_drop, List.length_take]; rfl)) ?_; (with_reducible refine (spec_l00Src_pick.calls g410 t407 x411001_1 x411002_1 30 t420 t421 t422 w _ ?side1 ?side2 A11.out).mono ?_); (case side1 => repeat (first | (with_reducible first | exact HI410.out | apply Za1.alloc | apply Za1.drewN | apply Za1.drew | apply Za1.set_1 | apply Za1.set_2) | exact HI410.out)); (case side2 => repeat (first | (with_reducible first | exact HB.out | apply Zae | apply Zab | apply Zad | refine Zag ?_ (Za1.ge HI410.out)) | exact HB.out)); rintro e w13 ⟨rfl, hi, hb, hk⟩; refine ⟨_, rfl, ?_⟩; have n0_ := Zac.mk (Kd.R_mono (Kd.R_keep (Za1.apart (show Za1 w _ g410 t407 x411001_1 x411002_1 from by repeat (first | (with_reducible first | exact HI410.out | apply Za1.alloc | apply Za1.drewN | apply Za1.drew | apply Za1.set_1 | apply Za1.set_2) | exact HI410.out)) (by (with_reducible repeat (first | apply Kd.R_alloc | apply Kd.R_drewN | apply Kd.R_drew)); exact HO_4.out) (by decide)) hk (fun _ h => h.2)) (fun _ h => h.1)); have n1_ := Zac.mk (hb); have n2_ := Zac.mk (hi); clear HO_4; clear HB; clear HI410; have HO_4 := n0_; have HB := n1_; have HI410 := n2_; clear n0_ n1_ n2_; (try clear hb); (try clear hb2); (try clear hk); (try clear hi)) | ((with_reducible refine gate_builtin (b := .append) (xs := #[.tmp 18, .tmp 21]) rfl ?_); at_builtin; refine Kd.R_append (Kd.int .i64) (w0 := w) w.heap.size rfl (.tmp 18) (.tmp 21) 22 2 (.int .i64 0) 8 rfl Try.underlying22 info2 rfl (by decide) (by omega) u4 x4_1 t420 [.int .i64 t420] (fun _ => True) (fun _ => False) rfl rfl ?aP (fun _ hk => hk.elim) ?aF ?aO ?aB ?aS ?aL ?_; (case aP => exact rfl); (case aB => exact (by repeat (first | (with_reducible first | exact HB.out | apply Zae | apply Zab | apply Zad | refine Zag ?_ (Za1.ge HI410.out)) | exact HB.out))); (case aF => exact (fun _ _ => trivial)); (case aO => exact (by (with_reducible repeat (first | apply Kd.R_alloc | apply Kd.R_drewN | apply Kd.R_drew)); exact HO_4.out)); (case aS => exact (Zaw (by repeat (first | (with_reducible first | exact HB.out | apply Zae | apply Zab | apply Zad | refine Zag ?_ (Za1.ge HI410.out)) | exact HB.out)))); (case aL => have := LMc12.out; omega); intro v424 w14 ho hb hg hat; rw [← Ny423.out] at ho; have n0_ := Zac.mk (Za1.grown (by repeat (first | (with_reducible first | exact HI410.out | apply Za1.alloc | apply Za1.drewN | apply Za1.drew | apply Za1.set_1 | apply Za1.set_2) | exact HI410.out)) hg (Za1.own_ne HI410.out HO_4.out (by decide))); have n1_ := Zac.mk (hb); have n2_ := Zac.mk (ho); clear HI410; clear HB; clear HO_4; have HI410 := n0_; have HB := n1_; have HO425 := n2_; clear n0_ n1_ n2_; clear ho hb hg hat))
     go_roundg k1
     case measure => have := HK1.out; omega
     case rel => exact ⟨(y423), (wrap64 (x5_1 - 1)), (t421), (t422), (by first | rfl | (simp; done) | (simp [*]; done)), H', ⟨by have := HK1.out; omega⟩, ⟨by (with_reducible repeat (first | apply Kd.R_alloc | apply Kd.R_drewN | apply Kd.R_drew)); exact HO425.out⟩, ⟨by repeat (first | (with_reducible first | exact HI410.out | apply Za1.alloc | apply Za1.drewN | apply Za1.drew | apply Za1.set_1 | apply Za1.set_2) | exact HI410.out)⟩, ⟨by repeat (first | (with_reducible first | exact HB.out | apply Zae | apply Zab | apply Zad | refine Zag ?_ (Za1.ge HI410.out)) | exact HB.out)⟩⟩
    ·rw [if_neg c12] at H
     exact absurd H (by simp)
   ·rw [if_neg c10] at H
    have c10b0 : decide (0 < x5_1) = false := decide_eq_false c10
    clear c10
    obtain rfl := Option.some.inj H
    go_wp2
    go_ret
    exact ⟨_, by first | rfl | (simp [Zau, Zav] <;> rfl) | (simp [*, Zau, Zav] <;> rfl), by (with_reducible repeat (first | apply Kd.R_alloc | apply Kd.R_drewN | apply Kd.R_drew)); exact HO_4.out, by repeat (first | (with_reducible first | exact HB.out | apply Zae | apply Zab | apply Zad | refine Zag ?_ (Za1.ge HI410.out)) | exact HB.out)⟩
def laws_r8At.f (l0 : List Int) (a1 : Int) (a2 : Int) : Option (Int) := if a2 ≤ 1 then (some 0) else (if a1 ≥ (l0.length : Int) then (some 0) else (if 0 ≤ a1 then (if a1 < (l0.length : Int) then (if a2 = 0 then (none) else (some (Int.tmod (wrap64 (rd l0 a1)) a2))) else (none)) else (none)))
set_option maxHeartbeats 8000000 in
set_option maxRecDepth 100000 in
theorem laws_r8At.calls (A0 : Option Addr) (c0 : Nat) (l0 : List Int) (a1 : Int) (a2 : Int) (r : Int) (w : World) (hr0 : Kd.C (Kd.int .u8) w A0 l0.length l0) (hc0 : l0.length ≤ c0) (h : laws_r8At.f l0 a1 a2 = some r) :
  Calls Try.prog 35 #[.slice A0 l0.length c0, .int .i64 a1, .int .i64 a2] w fun e w' => e = .returned (.int .i64 r) ∧ Drawn0 w w' := by
 have HR0 := Zac.mk hr0
 have HC0 := Zac.mk hc0
 clear hr0 hc0
 have H : (if a2 ≤ 1 then (some 0) else (if a1 ≥ (l0.length : Int) then (some 0) else (if 0 ≤ a1 then (if a1 < (l0.length : Int) then (if a2 = 0 then (none) else (some (Int.tmod (wrap64 (rd l0 a1)) a2))) else (none)) else (none)))) = some r := h
 clear h
 by_cases c4 : a2 ≤ 1
 ·rw [if_pos c4] at H
  have c4b0 : decide (a2 ≤ 1) = true := decide_eq_true c4
  clear c4
  obtain rfl := Option.some.inj H
  go_enter Try.func35, Try.ntmps35
  go_wp2
  go_ret
  exact ⟨by first | rfl | (simp; done) | (simp [*]; done), by repeat (first | exact Drawn0.refl _ | apply Drawn0.step)⟩
 ·rw [if_neg c4] at H
  have c4b0 : decide (a2 ≤ 1) = false := decide_eq_false c4
  clear c4
  by_cases c5 : a1 ≥ (l0.length : Int)
  ·rw [if_pos c5] at H
   have c5b0 : decide ((l0.length : Int) ≤ a1) = true := decide_eq_true c5
   clear c5
   obtain rfl := Option.some.inj H
   go_enter Try.func35, Try.ntmps35
   go_wp2
   go_ret
   exact ⟨by first | rfl | (simp; done) | (simp [*]; done), by repeat (first | exact Drawn0.refl _ | apply Drawn0.step)⟩
  ·rw [if_neg c5] at H
   have c5b0 : decide ((l0.length : Int) ≤ a1) = false := decide_eq_false c5
   clear c5
   by_cases c6 : 0 ≤ a1
   ·rw [if_pos c6] at H
    have c6b0 : decide (0 ≤ a1) = true := decide_eq_true c6
    clear c6
    by_cases c7 : a1 < (l0.length : Int)
    ·rw [if_pos c7] at H
     have c7b0 : decide (a1 < (l0.length : Int)) = true := decide_eq_true c7
     clear c7
     by_cases c8 : a2 = 0
     ·rw [if_pos c8] at H
      exact absurd H (by simp)
     ·rw [if_neg c8] at H
      have c8b0 : (a2 == 0) = false := beq_eq_false_iff_ne.mpr c8
      have c8b1 : (a2 != 0) = true := bne_iff_ne.mpr c8
      obtain rfl := Option.some.inj H
      have p426 : 0 ≤ (a1 : Int) := of_decide_eq_true (by first | (with_reducible assumption) | assumption)
      have q426 : a1 < (l0.length : Int) := of_decide_eq_true (by first | (with_reducible assumption) | assumption)
      obtain ⟨ad426, e426, hx426_0⟩ := Kd.at_int HR0.out a1 p426 q426
      cases e426
      replace p426 := eq_true p426
      replace q426 := eq_true q426
      go_enter Try.func35, Try.ntmps35
      go_wp2
      go_ret
      exact ⟨by first | rfl | (simp; done) | (simp [*]; done), by repeat (first | exact Drawn0.refl _ | apply Drawn0.step)⟩
    ·rw [if_neg c7] at H
     exact absurd H (by simp)
   ·rw [if_neg c6] at H
    exact absurd H (by simp)
def impl_size_int64.f (l0 : List Int) : Option (Int) := some (l0.length : Int)
set_option maxHeartbeats 8000000 in
set_option maxRecDepth 100000 in
theorem impl_size_int64.calls (A0 : Option Addr) (c0 : Nat) (l0 : List Int) (r : Int) (w : World) (hr0 : Kd.C (Kd.int .i64) w A0 l0.length l0) (hc0 : l0.length ≤ c0) (h : impl_size_int64.f l0 = some r) :
  Calls Try.prog 78 #[.slice A0 l0.length c0] w fun e w' => e = .returned (.int .i64 r) ∧ Drawn0 w w' := by
 have HR0 := Zac.mk hr0
 have HC0 := Zac.mk hc0
 clear hr0 hc0
 have H : (some (l0.length : Int)) = some r := h
 clear h
 obtain rfl := Option.some.inj H
 go_enter Try.func78, Try.ntmps78
 go_wp2
 go_ret
 exact ⟨by first | rfl | (simp; done) | (simp [*]; done), by repeat (first | exact Drawn0.refl _ | apply Drawn0.step)⟩
def impl_sum.l0 : Nat → Int → List Int → Int → Int → Option (Int)
 | 0, _, _, _, _ => none
 | k + 1, x3, x6, x7, x8 => if x8 < x7 then (if 0 ≤ x8 then (if x8 < (x6.length : Int) then (impl_sum.l0 k (wrap64 (x3 + (rd x6 x8))) x6 x7 (wrap64 (x8 + 1))) else (none)) else (none)) else (some x3)
def impl_sum.f (k : Nat) (l0 : List Int) : Option (Int) := impl_sum.l0 k 0 l0 (l0.length : Int) 0
set_option maxHeartbeats 8000000 in
set_option maxRecDepth 100000 in
theorem impl_sum.calls (k : Nat) (A0 : Option Addr) (c0 : Nat) (l0 : List Int) (r : Int) (w : World) (hr0 : Kd.C (Kd.int .i64) w A0 l0.length l0) (hc0 : l0.length ≤ c0) (h : impl_sum.f k l0 = some r) :
  Calls Try.prog 79 #[.slice A0 l0.length c0] w fun e w' => e = .returned (.int .i64 r) ∧ Drawn0 w w' := by
 have HR0 := Zac.mk hr0
 have HC0 := Zac.mk hc0
 clear hr0 hc0
 have H : (impl_sum.l0 k 0 l0 (l0.length : Int) 0) = some r := h
 clear h
 have H' := Zac.mk H
 clear H
 go_enter Try.func79, Try.ntmps79
 go_wp2
 go_loopg [3, 8] k (fun kq v3 v8 w' => ∃ (x3_1 : Int) (x8_1 : Int), v3 = .int .i64 x3_1 ∧ v8 = .int .i64 x8_1 ∧ Zac (impl_sum.l0 kq x3_1 l0 (l0.length : Int) x8_1 = some r) ∧ Zac (kq ≤ k) ∧ Drawn0 w w')
 case atStart => exact ⟨(0), (0), (by first | rfl | (simp; done) | (simp [*]; done)), (by first | rfl | (simp; done) | (simp [*]; done)), H', ⟨Nat.le_refl _⟩, by repeat (first | exact Drawn0.refl _ | apply Drawn0.step)⟩
 case round =>
  clear H'
  obtain ⟨x3_1, x8_1, rfl, rfl, HA, HK1, ⟨m1, rfl⟩⟩ := hrel
  cases gk with
  | zero => exact absurd HA.out (by simp [impl_sum.l0])
  | succ k1 =>
   have H := HA.out
   clear HA
   simp only [impl_sum.l0] at H
   by_cases c2 : x8_1 < (l0.length : Int)
   ·rw [if_pos c2] at H
    have c2b0 : decide (x8_1 < (l0.length : Int)) = true := decide_eq_true c2
    clear c2
    by_cases c3 : 0 ≤ x8_1
    ·rw [if_pos c3] at H
     have c3b0 : decide (0 ≤ x8_1) = true := decide_eq_true c3
     clear c3
     by_cases c4 : x8_1 < (l0.length : Int)
     ·rw [if_pos c4] at H
      have c4b0 : decide (x8_1 < (l0.length : Int)) = true := decide_eq_true c4
      clear c4
      have H' := Zac.mk H
      clear H
      have p427 : 0 ≤ (x8_1 : Int) := of_decide_eq_true (by first | (with_reducible assumption) | assumption)
      have q427 : x8_1 < (l0.length : Int) := of_decide_eq_true (by first | (with_reducible assumption) | assumption)
      obtain ⟨ad427, e427, hx427_0⟩ := Kd.at_int HR0.out x8_1 p427 q427
      cases e427
      replace p427 := eq_true p427
      replace q427 := eq_true q427
      go_wp2
      go_roundg k1
      case measure => have := HK1.out; omega
      case rel => exact ⟨(wrap64 (x3_1 + (rd l0 x8_1))), (wrap64 (x8_1 + 1)), (by first | rfl | (simp; done) | (simp [*]; done)), (by first | rfl | (simp; done) | (simp [*]; done)), H', ⟨by have := HK1.out; omega⟩, by repeat (first | exact Drawn0.refl _ | apply Drawn0.step)⟩
     ·rw [if_neg c4] at H
      exact absurd H (by simp)
    ·rw [if_neg c3] at H
     exact absurd H (by simp)
   ·rw [if_neg c2] at H
    have c2b0 : decide (x8_1 < (l0.length : Int)) = false := decide_eq_false c2
    clear c2
    obtain rfl := Option.some.inj H
    go_wp2
    go_ret
    exact ⟨by first | rfl | (simp; done) | (simp [*]; done), by repeat (first | exact Drawn0.refl _ | apply Drawn0.step)⟩
def impl_size_int.f (l0 : List Int) : Option (Int) := some (l0.length : Int)
set_option maxHeartbeats 8000000 in
set_option maxRecDepth 100000 in
theorem impl_size_int.calls (A0 : Option Addr) (c0 : Nat) (l0 : List Int) (r : Int) (w : World) (hr0 : Kd.C (Kd.int .i64) w A0 l0.length l0) (hc0 : l0.length ≤ c0) (h : impl_size_int.f l0 = some r) :
  Calls Try.prog 90 #[.slice A0 l0.length c0] w fun e w' => e = .returned (.int .i64 r) ∧ Drawn0 w w' := by
 have HR0 := Zac.mk hr0
 have HC0 := Zac.mk hc0
 clear hr0 hc0
 have H : (some (l0.length : Int)) = some r := h
 clear h
 obtain rfl := Option.some.inj H
 go_enter Try.func90, Try.ntmps90
 go_wp2
 go_ret
 exact ⟨by first | rfl | (simp; done) | (simp [*]; done), by repeat (first | exact Drawn0.refl _ | apply Drawn0.step)⟩
def Za2.f (a0_0 : Int) (l0_1 : List Int) (a1 : Int) : Option (Int) := if 0 ≤ a1 then (if a1 < (l0_1.length : Int) then ((impl_floor.f (rd l0_1 a1) a0_0).bind fun t431 => (some (wrap64 ((rd l0_1 a1) - (wrap64 (a0_0 * t431)))))) else (none)) else (none)
set_option maxHeartbeats 8000000 in
set_option maxRecDepth 100000 in
theorem Za2.calls (a0_0 : Int) (A0_1 : Option Addr) (c0_1 : Nat) (l0_1 : List Int) (a1 : Int) (r : Int) (w : World) (hr0_1 : Kd.C (Kd.int .i64) w A0_1 l0_1.length l0_1) (hc0_1 : l0_1.length ≤ c0_1) (h : Za2.f a0_0 l0_1 a1 = some r) :
  Calls Try.prog 109 #[.agg #[.int .i64 a0_0, .slice A0_1 l0_1.length c0_1], .int .i64 a1] w fun e w' => e = .returned (.int .i64 r) ∧ Below w.heap.size w w' := by
 have hu28 := Try.underlying28
 have HR0_1 := Zac.mk hr0_1
 have HC0_1 := Zac.mk hc0_1
 clear hr0_1 hc0_1
 have HB := Zac.mk (Below.refl w.heap.size w)
 have H : (if 0 ≤ a1 then (if a1 < (l0_1.length : Int) then ((impl_floor.f (rd l0_1 a1) a0_0).bind fun t431 => (some (wrap64 ((rd l0_1 a1) - (wrap64 (a0_0 * t431)))))) else (none)) else (none)) = some r := h
 clear h
 by_cases c3 : 0 ≤ a1
 ·rw [if_pos c3] at H
  have c3b0 : decide (0 ≤ a1) = true := decide_eq_true c3
  clear c3
  by_cases c4 : a1 < (l0_1.length : Int)
  ·rw [if_pos c4] at H
   have c4b0 : decide (a1 < (l0_1.length : Int)) = true := decide_eq_true c4
   clear c4
   replace H := Option.bind_eq_some_iff.mp H
   obtain ⟨t431, A50, H⟩ := H
   replace H : (some (wrap64 ((rd l0_1 a1) - (wrap64 (a0_0 * t431))))) = some r := H
   have A5 := Zac.mk A50
   clear A50
   obtain rfl := Option.some.inj H
   go_enter Try.func109, Try.ntmps109
   go_wp2_with (first | ((with_reducible refine gate_dst (N := 2) rfl ?_); refine box_event ?hg (N := 2) ?hd (cs := #[.int .i64 a0_0, .slice A0_1 l0_1.length c0_1]) (t := 28) ?hr ?_; (case hd => rfl); (case hg => rfl); (case hr => first | (go_simp; done) | (go_simp; rfl)); intro gb428 hg w6 hbox hb; have n0_ := Zac.mk (Zaz (by repeat (first | (with_reducible first | exact HB.out | apply Zae | apply Zab | apply Zad) | exact HB.out)) hb); have n1_ := Zac.mk (hbox); have n2_ := Zac.mk ((by rw [hg]; exact (Zaw (by repeat (first | (with_reducible first | exact HB.out | apply Zae | apply Zab | apply Zad) | exact HB.out))) : w.heap.size ≤ gb428)); have n3_ := Zac.mk ((by rw [hg]; exact (Zaw (by repeat (first | (with_reducible first | exact HB.out | apply Zae | apply Zab | apply Zad) | exact HB.out))) : w.heap.size ≤ gb428)); clear HB; have HB := n0_; have BK428 := n1_; have GW428 := n2_; have GE428 := n3_; clear n0_ n1_ n2_ n3_; clear hb hbox hg; have hcz7_0 : w6.cell? ⟨gb428, 0, none⟩ = some (.int .i64 a0_0) := (Zao BK428.out 0).trans rfl; have hcz7_1 : w6.cell? ⟨gb428, 1, none⟩ = some (.slice A0_1 l0_1.length c0_1) := (Zao BK428.out 1).trans rfl; have hfz7_0 := Zap BK428.out 0; have hfz7_1 := Zap BK428.out 1; have p429 : 0 ≤ (a1 : Int) := of_decide_eq_true (by first | (with_reducible assumption) | assumption); have q429 : a1 < (l0_1.length : Int) := of_decide_eq_true (by first | (with_reducible assumption) | assumption); obtain ⟨ad429, e429, hx429_0⟩ := Kd.at_int HR0_1.out a1 p429 q429; cases e429; replace hx429_0 := (HB.out.cell (World.block_lt_of_cell? w _ hx429_0)).trans hx429_0; replace p429 := eq_true p429; replace q429 := eq_true q429; have p430 : 0 ≤ (a1 : Int) := of_decide_eq_true (by first | (with_reducible assumption) | assumption); have q430 : a1 < (l0_1.length : Int) := of_decide_eq_true (by first | (with_reducible assumption) | assumption); obtain ⟨ad430, e430, hx430_0⟩ := Kd.at_int HR0_1.out a1 p430 q430; obtain rfl : ad429 = ad430 := (by injection e430); replace hx430_0 := (HB.out.cell (World.block_lt_of_cell? w _ hx430_0)).trans hx430_0; replace p430 := eq_true p430; replace q430 := eq_true q430) | (go_at_call 58; (with_reducible refine (impl_floor.calls (rd l0_1 a1) a0_0 t431 _ A5.out).mono ?_); rintro e w' ⟨rfl, ⟨nd, rfl⟩⟩; (try first | exact ⟨rfl, _, World.drewN_drewN _ _ _⟩ | exact ⟨rfl, _, Eq.trans (World.drewN_drewN _ _ _) (congrArg (World.drewN _) (Nat.add_assoc _ _ _))⟩)))
   repeat (go_quiet (first | ((with_reducible refine gate_dst (N := 2) rfl ?_); refine box_event ?hg (N := 2) ?hd (cs := #[.int .i64 a0_0, .slice A0_1 l0_1.length c0_1]) (t := 28) ?hr ?_; (case hd => rfl); (case hg => rfl); (case hr => first | (go_simp; done) | (go_simp; rfl)); intro gb428 hg w6 hbox hb; have n0_ := Zac.mk (Zaz (by repeat (first | (with_reducible first | exact HB.out | apply Zae | apply Zab | apply Zad) | exact HB.out)) hb); have n1_ := Zac.mk (hbox); have n2_ := Zac.mk ((by rw [hg]; exact (Zaw (by repeat (first | (with_reducible first | exact HB.out | apply Zae | apply Zab | apply Zad) | exact HB.out))) : w.heap.size ≤ gb428)); have n3_ := Zac.mk ((by rw [hg]; exact (Zaw (by repeat (first | (with_reducible first | exact HB.out | apply Zae | apply Zab | apply Zad) | exact HB.out))) : w.heap.size ≤ gb428)); clear HB; have HB := n0_; have BK428 := n1_; have GW428 := n2_; have GE428 := n3_; clear n0_ n1_ n2_ n3_; clear hb hbox hg; have hcz7_0 : w6.cell? ⟨gb428, 0, none⟩ = some (.int .i64 a0_0) := (Zao BK428.out 0).trans rfl; have hcz7_1 : w6.cell? ⟨gb428, 1, none⟩ = some (.slice A0_1 l0_1.length c0_1) := (Zao BK428.out 1).trans rfl; have hfz7_0 := Zap BK428.out 0; have hfz7_1 := Zap BK428.out 1; have p429 : 0 ≤ (a1 : Int) := of_decide_eq_true (by first | (with_reducible assumption) | assumption); have q429 : a1 < (l0_1.length : Int) := of_decide_eq_true (by first | (with_reducible assumption) | assumption); obtain ⟨ad429, e429, hx429_0⟩ := Kd.at_int HR0_1.out a1 p429 q429; cases e429; replace hx429_0 := (HB.out.cell (World.block_lt_of_cell? w _ hx429_0)).trans hx429_0; replace p429 := eq_true p429; replace q429 := eq_true q429; have p430 : 0 ≤ (a1 : Int) := of_decide_eq_true (by first | (with_reducible assumption) | assumption); have q430 : a1 < (l0_1.length : Int) := of_decide_eq_true (by first | (with_reducible assumption) | assumption); obtain ⟨ad430, e430, hx430_0⟩ := Kd.at_int HR0_1.out a1 p430 q430; obtain rfl : ad429 = ad430 := (by injection e430); replace hx430_0 := (HB.out.cell (World.block_lt_of_cell? w _ hx430_0)).trans hx430_0; replace p430 := eq_true p430; replace q430 := eq_true q430) | (go_at_call 58; (with_reducible refine (impl_floor.calls (rd l0_1 a1) a0_0 t431 _ A5.out).mono ?_); rintro e w' ⟨rfl, ⟨nd, rfl⟩⟩; (try first | exact ⟨rfl, _, World.drewN_drewN _ _ _⟩ | exact ⟨rfl, _, Eq.trans (World.drewN_drewN _ _ _) (congrArg (World.drewN _) (Nat.add_assoc _ _ _))⟩))); try go_wp2_with (first | ((with_reducible refine gate_dst (N := 2) rfl ?_); refine box_event ?hg (N := 2) ?hd (cs := #[.int .i64 a0_0, .slice A0_1 l0_1.length c0_1]) (t := 28) ?hr ?_; (case hd => rfl); (case hg => rfl); (case hr => first | (go_simp; done) | (go_simp; rfl)); intro gb428 hg w6 hbox hb; have n0_ := Zac.mk (Zaz (by repeat (first | (with_reducible first | exact HB.out | apply Zae | apply Zab | apply Zad) | exact HB.out)) hb); have n1_ := Zac.mk (hbox); have n2_ := Zac.mk ((by rw [hg]; exact (Zaw (by repeat (first | (with_reducible first | exact HB.out | apply Zae | apply Zab | apply Zad) | exact HB.out))) : w.heap.size ≤ gb428)); have n3_ := Zac.mk ((by rw [hg]; exact (Zaw (by repeat (first | (with_reducible first | exact HB.out | apply Zae | apply Zab | apply Zad) | exact HB.out))) : w.heap.size ≤ gb428)); clear HB; have HB := n0_; have BK428 := n1_; have GW428 := n2_; have GE428 := n3_; clear n0_ n1_ n2_ n3_; clear hb hbox hg; have hcz7_0 : w6.cell? ⟨gb428, 0, none⟩ = some (.int .i64 a0_0) := (Zao BK428.out 0).trans rfl; have hcz7_1 : w6.cell? ⟨gb428, 1, none⟩ = some (.slice A0_1 l0_1.length c0_1) := (Zao BK428.out 1).trans rfl; have hfz7_0 := Zap BK428.out 0; have hfz7_1 := Zap BK428.out 1; have p429 : 0 ≤ (a1 : Int) := of_decide_eq_true (by first | (with_reducible assumption) | assumption); have q429 : a1 < (l0_1.length : Int) := of_decide_eq_true (by first | (with_reducible assumption) | assumption); obtain ⟨ad429, e429, hx429_0⟩ := Kd.at_int HR0_1.out a1 p429 q429; cases e429; replace hx429_0 := (HB.out.cell (World.block_lt_of_cell? w _ hx429_0)).trans hx429_0; replace p429 := eq_true p429; replace q429 := eq_true q429; have p430 : 0 ≤ (a1 : Int) := of_decide_eq_true (by first | (with_reducible assumption) | assumption); have q430 : a1 < (l0_1.length : Int) := of_decide_eq_true (by first | (with_reducible assumption) | assumption); obtain ⟨ad430, e430, hx430_0⟩ := Kd.at_int HR0_1.out a1 p430 q430; obtain rfl : ad429 = ad430 := (by injection e430); replace hx430_0 := (HB.out.cell (World.block_lt_of_cell? w _ hx430_0)).trans hx430_0; replace p430 := eq_true p430; replace q430 := eq_true q430) | (go_at_call 58; (with_reducible refine (impl_floor.calls (rd l0_1 a1) a0_0 t431 _ A5.out).mono ?_); rintro e w' ⟨rfl, ⟨nd, rfl⟩⟩; (try first | exact ⟨rfl, _, World.drewN_drewN _ _ _⟩ | exact ⟨rfl, _, Eq.trans (World.drewN_drewN _ _ _) (congrArg (World.drewN _) (Nat.add_assoc _ _ _))⟩))))
   go_ret
   exact ⟨by first | rfl | (simp [Zau, Zav] <;> rfl) | (simp [*, Zau, Zav] <;> rfl), by repeat (first | (with_reducible first | exact HB.out | apply Zae | apply Zab | apply Zad | refine Zag ?_ GE428.out) | exact HB.out)⟩
  ·rw [if_neg c4] at H
   exact absurd H (by simp)
 ·rw [if_neg c3] at H
  exact absurd H (by simp)
end Go.Proofs.Ytgmmfdilfpkbmaa.P
