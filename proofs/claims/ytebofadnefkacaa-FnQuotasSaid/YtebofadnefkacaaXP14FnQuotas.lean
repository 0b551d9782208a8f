import Derived.Test.YtebofadnefkacaaXP0FnQuotas
import Derived.Test.YtebofadnefkacaaXP2FnQuotas
import Derived.Test.YtebofadnefkacaaXP11FnQuotas
import Derived.Test.YtebofadnefkacaaXP12FnQuotas
import Derived.Test.YtebofadnefkacaaXP13FnQuotas
namespace Go.Proofs.Ytebofadnefkacaa.P
open Go.RowKit Go.Proofs.YtebofadnefkacaaW.PrintWords Go.Proofs.YtebofadnefkacaaW.PrintLast Go.Proofs.YtebofadnefkacaaW.PrintMore
attribute [local go_sem] max2_int min2_int max_two min_two max_three min_three max_four min_four
set_option linter.unusedVariables false
set_option linter.unusedSimpArgs false
def slices_symMergeCmpFunc_int_byRests_2.f (l0 : List Int) (a1 : Int) (a2 : Int) (a3 : Int) (a4_0 : Int) (l4_1 : List Int) : Option (Unit) := none
set_option maxHeartbeats 8000000 in
set_option maxRecDepth 100000 in
theorem slices_symMergeCmpFunc_int_byRests_2.calls (A0 : Option Addr) (c0 : Nat) (l0 : List Int) (a1 : Int) (a2 : Int) (a3 : Int) (gp50 : Nat) (gp51 : Nat) (a4_0 : Int) (A4_1 : Option Addr) (c4_1 : Nat) (l4_1 : List Int) (w : World) (hr0 : Kd.C (Kd.int .i64) w A0 l0.length l0) (hc0 : l0.length ≤ c0) (hb50 : w.heap[gp50]? = some (.cells #[.func (.func 95) #[] #[.pointer (some ⟨gp51, 0, none⟩)]] 108 (0, 0))) (hb51 : w.heap[gp51]? = some (.cells #[.int .i64 a4_0, .slice A4_1 l4_1.length c4_1] 29 (0, 0))) (hr4_1 : Kd.C (Kd.int .i64) w A4_1 l4_1.length l4_1) (hc4_1 : l4_1.length ≤ c4_1) (h : slices_symMergeCmpFunc_int_byRests_2.f l0 a1 a2 a3 a4_0 l4_1 = some ()) :
  Calls Try.prog 114 #[.slice A0 l0.length c0, .int .i64 a1, .int .i64 a2, .int .i64 a3, .func (.func 98) #[] #[.pointer (some ⟨gp50, 0, none⟩)]] w fun e w' => e = .returned (.tuple #[]) ∧ Below w.heap.size w w' := by
 have HR0 := Zab.mk hr0
 have HC0 := Zab.mk hc0
 clear hr0 hc0
 have HR4_1 := Zab.mk hr4_1
 have HC4_1 := Zab.mk hc4_1
 clear hr4_1 hc4_1
 have BK50 := Zab.mk hb50
 clear hb50
 have BK51 := Zab.mk hb51
 clear hb51
 have HB := Zab.mk (Below.refl w.heap.size w)
 have H : (none) = some () := h
 clear h
 exact absurd H (by simp)
mutual
def Zaj.l0 : Nat → List Int → Int → Int → Int → Int → Int → List Int → Option (List Int)
 | 0, _, _, _, _, _, _, _ => none
 | k + 1, x0, x1, x6, x7, x8, x52000, x52001 => if x8 ≤ x1 then ((Zae.f k x0 x7 x8 x52000 x52001).bind fun t413 => (Zaj.l0 k t413 x1 x6 x8 (wrap64 (x8 + x6)) x52000 x52001)) else ((Zae.f k x0 x7 x1 x52000 x52001).bind fun t414 => (Zaj.l1 k t414 x1 x6 x52000 x52001))
def Zaj.l1 : Nat → List Int → Int → Int → Int → List Int → Option (List Int)
 | 0, _, _, _, _, _ => none
 | k + 1, x0, x1, x6, x52000, x52001 => if x6 < x1 then (Zaj.l2 k x0 x1 x6 0 (wrap64 (2 * x6)) x52000 x52001) else (some x0)
def Zaj.l2 : Nat → List Int → Int → Int → Int → Int → Int → List Int → Option (List Int)
 | 0, _, _, _, _, _, _, _ => none
 | k + 1, x0, x1, x6, x7, x8, x52000, x52001 => if x8 ≤ x1 then ((slices_symMergeCmpFunc_int_byRests_2.f x0 x7 (wrap64 (x7 + x6)) x8 x52000 x52001).bind fun _ => (Zaj.l2 k x0 x1 x6 x8 (wrap64 (x8 + (wrap64 (2 * x6)))) x52000 x52001)) else (if (wrap64 (x7 + x6)) < x1 then ((slices_symMergeCmpFunc_int_byRests_2.f x0 x7 (wrap64 (x7 + x6)) x1 x52000 x52001).bind fun _ => (Zaj.l1 k x0 x1 (wrap64 (x6 * 2)) x52000 x52001)) else (Zaj.l1 k x0 x1 (wrap64 (x6 * 2)) x52000 x52001))
end
def Zaj.f (k : Nat) (l0 : List Int) (a1 : Int) (a2_0 : Int) (l2_1 : List Int) : Option (List Int) := Zaj.l0 k l0 a1 20 0 20 a2_0 l2_1
set_option maxHeartbeats 8000000 in
set_option maxRecDepth 100000 in
theorem Zaj.calls (k : Nat) (P0_ : Nat → Prop) (u9000_ : Value) (l0 : List Int) (a1 : Int) (gp50 : Nat) (gp51 : Nat) (a2_0 : Int) (A2_1 : Option Addr) (c2_1 : Nat) (l2_1 : List Int) (r : List Int) (w0 w : World) (hB : Below w0.heap.size w0 w) (ho0 : Kd.R (Kd.int .i64) 3 w w0.heap.size P0_ u9000_ l0) (hb50 : w.heap[gp50]? = some (.cells #[.func (.func 95) #[] #[.pointer (some ⟨gp51, 0, none⟩)]] 108 (0, 0))) (hb51 : w.heap[gp51]? = some (.cells #[.int .i64 a2_0, .slice A2_1 l2_1.length c2_1] 29 (0, 0))) (hr2_1 : ∀ W_, Kept w W_ (fun k_ => P0_ k_) → Kd.C (Kd.int .i64) W_ A2_1 l2_1.length l2_1) (hc2_1 : l2_1.length ≤ c2_1) (h : Zaj.f k l0 a1 a2_0 l2_1 = some r) :
  Calls Try.prog 112 #[u9000_, .int .i64 a1, .func (.func 98) #[] #[.pointer (some ⟨gp50, 0, none⟩)]] w fun e w' => e = .returned (.tuple #[]) ∧ Kd.R (Kd.int .i64) 3 w' w0.heap.size (fun k_ => (P0_ k_ ∨ w.heap.size ≤ k_)) u9000_ r ∧ Below w0.heap.size w0 w' ∧ Kept w w' (fun k_ => P0_ k_) := by
 have HO0 := Zab.mk (show Kd.R (Kd.int .i64) 3 w w0.heap.size (fun k_ => (P0_ k_ ∨ w.heap.size ≤ k_)) u9000_ l0 from Kd.R_mono ho0 (fun k_ hk => (.inl hk)))
 have HR2_1 := Zab.mk hr2_1
 have HC2_1 := Zab.mk hc2_1
 clear hr2_1 hc2_1
 have BK50 := Zab.mk hb50
 clear hb50
 have BK51 := Zab.mk hb51
 clear hb51
 have HK := Zab.mk (Kept.refl w (fun k_ => P0_ k_))
 have HW0 := Zab.mk hB.size
 have HB := Zab.mk hB
 clear hB
 have H : (Zaj.l0 k l0 a1 20 0 20 a2_0 l2_1) = some r := h
 clear h
 have H' := Zab.mk H
 clear H
 go_enter Try.func112, Try.ntmps112
 go_wp2
 go_loopg [7, 8] k (fun kq v7 v8 w' => ∃ (x0_1 : List Int) (x7_1 : Int) (x8_1 : Int), v7 = .int .i64 x7_1 ∧ v8 = .int .i64 x8_1 ∧ Zab (Zaj.l0 kq x0_1 a1 20 x7_1 x8_1 a2_0 l2_1 = some r) ∧ Zab (kq ≤ k) ∧ Zab (Kd.R (Kd.int .i64) 3 w' w0.heap.size (fun k_ => (P0_ k_ ∨ w.heap.size ≤ k_)) u9000_ x0_1) ∧ Zab (w'.heap[gp50]? = some (.cells #[(.func (.func 95) #[] #[.pointer (some ⟨gp51, 0, none⟩)])] 108 (0, 0))) ∧ Zab (w'.heap[gp51]? = some (.cells #[.int .i64 a2_0, (.slice A2_1 l2_1.length c2_1)] 29 (0, 0))) ∧ Zab (Kept w w' (fun k_ => P0_ k_)) ∧ Zab (Below w0.heap.size w0 w'))
 case atStart => exact ⟨(l0), (0), (20), (by first | rfl | (simp; done) | (simp [*]; done)), (by first | rfl | (simp; done) | (simp [*]; done)), H', ⟨Nat.le_refl _⟩, ⟨by (with_reducible repeat (first | apply Kd.R_alloc | apply Kd.R_drewN | apply Kd.R_drew)); exact HO0.out⟩, ⟨by (with_reducible repeat (first | refine Zag ?_ _ | refine Zai ?_ | refine Zah ?_ _)); exact BK50.out⟩, ⟨by (with_reducible repeat (first | refine Zag ?_ _ | refine Zai ?_ | refine Zah ?_ _)); exact BK51.out⟩, ⟨by repeat (first | (with_reducible first | exact HK.out | apply Kept.alloc | apply Kept.drewN | apply Kept.drew | refine Kept.setCell ?_ (.inr GW50.out) _ | refine Kept.setCell ?_ (.inr GW51.out) _) | exact HK.out)⟩, ⟨by repeat (first | (with_reducible first | exact HB.out | apply Zad | apply Zaa | apply Zac | refine Zaf ?_ GE50.out | refine Zaf ?_ GE51.out) | exact HB.out)⟩⟩
 case round =>
  clear H'
  try clear c2
  try clear p2
  obtain ⟨x0_1, x7_1, x8_1, rfl, rfl, HA, HK1, HO_0, BK50, BK51, HK, HB⟩ := hrel
  cases gk with
  | zero => exact absurd HA.out (by simp [Zaj.l0])
  | succ k1 =>
   have H := HA.out
   clear HA
   simp only [Zaj.l0] at H
   by_cases c4 : x8_1 ≤ a1
   ·rw [if_pos c4] at H
    have c4b0 : decide (x8_1 ≤ a1) = true := decide_eq_true c4
    clear c4
    replace H := Option.bind_eq_some_iff.mp H
    obtain ⟨t413, A50, H⟩ := H
    replace H : (Zaj.l0 k1 t413 a1 20 x8_1 (wrap64 (x8_1 + 20)) a2_0 l2_1) = some r := H
    have A5 := Zab.mk A50
    clear A50
    have H' := Zab.mk H
    clear H
    obtain ⟨Ao6, co6, eo6⟩ := Kd.R_slice HO_0.out
    subst eo6
    go_wp2_with (first | ((with_reducible refine Zav (f := 113) rfl ?_); refine goesL_ (some 18) rfl rfl Try.func113 (by kernel_rfl) rfl #[.slice Ao6 x0_1.length co6, .int .i64 x7_1, .int .i64 x8_1, .func (.func 98) #[] #[.pointer (some ⟨gp50, 0, none⟩)]] rfl (by (try simp only [List.map_toArray, List.map_cons, List.map_nil]); first | done | rfl | (simp only [List.length_drop, List.length_take]; rfl)) ?_; (with_reducible refine (Zae.calls k1 (fun k_ => some k_ = (.slice Ao6 x0_1.length co6 : Value).ownBlock) (.slice Ao6 x0_1.length co6) x0_1 x7_1 x8_1 gp50 gp51 a2_0 A2_1 c2_1 l2_1 t413 w0 _ ?side1 ?side2 ?side3 ?side4 ?side5 ?side6 A5.out).mono ?_); (case side1 => repeat (first | (with_reducible first | exact HB.out | apply Zad | apply Zaa | apply Zac | refine Zaf ?_ GE50.out | refine Zaf ?_ GE51.out) | exact HB.out)); (case side2 => exact Kd.R_tight rfl HO_0.out); (case side3 => exact (by (with_reducible repeat (first | refine Zag ?_ _ | refine Zai ?_ | refine Zah ?_ _)); exact BK50.out)); (case side4 => exact (by (with_reducible repeat (first | refine Zag ?_ _ | refine Zai ?_ | refine Zah ?_ _)); exact BK51.out)); (case side5 => exact Kd.C_kept_call HR2_1.out (by repeat (first | (with_reducible first | exact HK.out | apply Kept.alloc | apply Kept.drewN | apply Kept.drew | refine Kept.setCell ?_ (.inr GW50.out) _ | refine Kept.setCell ?_ (.inr GW51.out) _) | exact HK.out)) (fun k_ hs_ => (fun e_ => (HO_0.out.1 k_ e_.symm)) hs_)); (case side6 => exact HC2_1.out); rintro e w7 ⟨rfl, hy0, hb, hkp⟩; refine ⟨_, rfl, ?_⟩; have n0_ := Zab.mk (Kd.R_reok rfl hy0 (fun k_ e_ => HO_0.out.1 k_ e_)); have n1_ := Zab.mk (blk_kept (by (with_reducible repeat (first | refine Zag ?_ _ | refine Zai ?_ | refine Zah ?_ _)); exact BK50.out) hkp (fun hs_ => (fun e_ => (Kd.R_ne HO_0.out BK50.out (by decide)) e_) hs_)); have n2_ := Zab.mk (blk_kept (by (with_reducible repeat (first | refine Zag ?_ _ | refine Zai ?_ | refine Zah ?_ _)); exact BK51.out) hkp (fun hs_ => (fun e_ => (Kd.R_ne HO_0.out BK51.out (by decide)) e_) hs_)); have n3_ := Zab.mk (Kept.then_ (S := (fun k_ => P0_ k_)) (by repeat (first | (with_reducible first | exact HK.out | apply Kept.alloc | apply Kept.drewN | apply Kept.drew | refine Kept.setCell ?_ (.inr GW50.out) _ | refine Kept.setCell ?_ (.inr GW51.out) _) | exact HK.out)) hkp (fun k_ hs_ => (fun e_ => (HO_0.out.1 k_ e_.symm)) hs_)); have n4_ := Zab.mk (hb); clear HO_0; clear BK50; clear BK51; clear HK; clear HB; have HO_0 := n0_; have BK50 := n1_; have BK51 := n2_; have HK := n3_; have HB := n4_; clear n0_ n1_ n2_ n3_ n4_; (try clear hb); (try clear hkp); (try clear hy0)))
    go_roundg k1
    case measure => have := HK1.out; omega
    case rel => exact ⟨(t413), (x8_1), (wrap64 (x8_1 + 20)), (by first | rfl | (simp; done) | (simp [*]; done)), (by first | rfl | (simp; done) | (simp [*]; done)), H', ⟨by have := HK1.out; omega⟩, ⟨by (with_reducible repeat (first | apply Kd.R_alloc | apply Kd.R_drewN | apply Kd.R_drew)); exact HO_0.out⟩, ⟨by (with_reducible repeat (first | refine Zag ?_ _ | refine Zai ?_ | refine Zah ?_ _)); exact BK50.out⟩, ⟨by (with_reducible repeat (first | refine Zag ?_ _ | refine Zai ?_ | refine Zah ?_ _)); exact BK51.out⟩, ⟨by repeat (first | (with_reducible first | exact HK.out | apply Kept.alloc | apply Kept.drewN | apply Kept.drew | refine Kept.setCell ?_ (.inr GW50.out) _ | refine Kept.setCell ?_ (.inr GW51.out) _) | exact HK.out)⟩, ⟨by repeat (first | (with_reducible first | exact HB.out | apply Zad | apply Zaa | apply Zac | refine Zaf ?_ GE50.out | refine Zaf ?_ GE51.out) | exact HB.out)⟩⟩
   ·rw [if_neg c4] at H
    have c4b0 : decide (x8_1 ≤ a1) = false := decide_eq_false c4
    clear c4
    replace H := Option.bind_eq_some_iff.mp H
    obtain ⟨t414, A80, H⟩ := H
    replace H : (Zaj.l1 k1 t414 a1 20 a2_0 l2_1) = some r := H
    have A8 := Zab.mk A80
    clear A80
    have H' := Zab.mk H
    clear H
    obtain ⟨Ao9, co9, eo9⟩ := Kd.R_slice HO_0.out
    subst eo9
    go_wp2_with (first | ((with_reducible refine Zav (f := 113) rfl ?_); refine goesL_ (some 27) rfl rfl Try.func113 (by kernel_rfl) rfl #[.slice Ao9 x0_1.length co9, .int .i64 x7_1, .int .i64 a1, .func (.func 98) #[] #[.pointer (some ⟨gp50, 0, none⟩)]] rfl (by (try simp only [List.map_toArray, List.map_cons, List.map_nil]); first | done | rfl | (simp only [List.length_drop, List.length_take]; rfl)) ?_; (with_reducible refine (Zae.calls k1 (fun k_ => some k_ = (.slice Ao9 x0_1.length co9 : Value).ownBlock) (.slice Ao9 x0_1.length co9) x0_1 x7_1 a1 gp50 gp51 a2_0 A2_1 c2_1 l2_1 t414 w0 _ ?side1 ?side2 ?side3 ?side4 ?side5 ?side6 A8.out).mono ?_); (case side1 => repeat (first | (with_reducible first | exact HB.out | apply Zad | apply Zaa | apply Zac | refine Zaf ?_ GE50.out | refine Zaf ?_ GE51.out) | exact HB.out)); (case side2 => exact Kd.R_tight rfl HO_0.out); (case side3 => exact (by (with_reducible repeat (first | refine Zag ?_ _ | refine Zai ?_ | refine Zah ?_ _)); exact BK50.out)); (case side4 => exact (by (with_reducible repeat (first | refine Zag ?_ _ | refine Zai ?_ | refine Zah ?_ _)); exact BK51.out)); (case side5 => exact Kd.C_kept_call HR2_1.out (by repeat (first | (with_reducible first | exact HK.out | apply Kept.alloc | apply Kept.drewN | apply Kept.drew | refine Kept.setCell ?_ (.inr GW50.out) _ | refine Kept.setCell ?_ (.inr GW51.out) _) | exact HK.out)) (fun k_ hs_ => (fun e_ => (HO_0.out.1 k_ e_.symm)) hs_)); (case side6 => exact HC2_1.out); rintro e w10 ⟨rfl, hy0, hb, hkp⟩; refine ⟨_, rfl, ?_⟩; have n0_ := Zab.mk (Kd.R_reok rfl hy0 (fun k_ e_ => HO_0.out.1 k_ e_)); have n1_ := Zab.mk (blk_kept (by (with_reducible repeat (first | refine Zag ?_ _ | refine Zai ?_ | refine Zah ?_ _)); exact BK50.out) hkp (fun hs_ => (fun e_ => (Kd.R_ne HO_0.out BK50.out (by decide)) e_) hs_)); have n2_ := Zab.mk (blk_kept (by (with_reducible repeat (first | refine Zag ?_ _ | refine Zai ?_ | refine Zah ?_ _)); exact BK51.out) hkp (fun hs_ => (fun e_ => (Kd.R_ne HO_0.out BK51.out (by decide)) e_) hs_)); have n3_ := Zab.mk (Kept.then_ (S := (fun k_ => P0_ k_)) (by repeat (first | (with_reducible first | exact HK.out | apply Kept.alloc | apply Kept.drewN | apply Kept.drew | refine Kept.setCell ?_ (.inr GW50.out) _ | refine Kept.setCell ?_ (.inr GW51.out) _) | exact HK.out)) hkp (fun k_ hs_ => (fun e_ => (HO_0.out.1 k_ e_.symm)) hs_)); have n4_ := Zab.mk (hb); clear HO_0; clear BK50; clear BK51; clear HK; clear HB; have HO_0 := n0_; have BK50 := n1_; have BK51 := n2_; have HK := n3_; have HB := n4_; clear n0_ n1_ n2_ n3_ n4_; (try clear hb); (try clear hkp); (try clear hy0)))
    try simp only [Act.put, List.setIfInBounds_toArray, List.set_cons_zero, List.set_cons_succ]
    go_loopg [6] k1 (fun kq v6 w' => ∃ (x6_2 : Int), v6 = .int .i64 x6_2 ∧ Zab (Zaj.l1 kq t414 a1 x6_2 a2_0 l2_1 = some r) ∧ Zab (kq ≤ k1) ∧ Zab (Kd.R (Kd.int .i64) 3 w' w0.heap.size (fun k_ => (P0_ k_ ∨ w.heap.size ≤ k_)) (.slice Ao9 x0_1.length co9) t414) ∧ Zab (w'.heap[gp50]? = some (.cells #[(.func (.func 95) #[] #[.pointer (some ⟨gp51, 0, none⟩)])] 108 (0, 0))) ∧ Zab (w'.heap[gp51]? = some (.cells #[.int .i64 a2_0, (.slice A2_1 l2_1.length c2_1)] 29 (0, 0))) ∧ Zab (Kept w w' (fun k_ => P0_ k_)) ∧ Zab (Below w0.heap.size w0 w'))
    case atStart => exact ⟨(20), (by first | rfl | (simp; done) | (simp [*]; done)), H', ⟨Nat.le_refl _⟩, ⟨by (with_reducible repeat (first | apply Kd.R_alloc | apply Kd.R_drewN | apply Kd.R_drew)); exact HO_0.out⟩, ⟨by (with_reducible repeat (first | refine Zag ?_ _ | refine Zai ?_ | refine Zah ?_ _)); exact BK50.out⟩, ⟨by (with_reducible repeat (first | refine Zag ?_ _ | refine Zai ?_ | refine Zah ?_ _)); exact BK51.out⟩, ⟨by repeat (first | (with_reducible first | exact HK.out | apply Kept.alloc | apply Kept.drewN | apply Kept.drew | refine Kept.setCell ?_ (.inr GW50.out) _ | refine Kept.setCell ?_ (.inr GW51.out) _) | exact HK.out)⟩, ⟨by repeat (first | (with_reducible first | exact HB.out | apply Zad | apply Zaa | apply Zac | refine Zaf ?_ GE50.out | refine Zaf ?_ GE51.out) | exact HB.out)⟩⟩
    case round =>
     clear H'
     try clear c2
     try clear p2
     try clear c4
     try clear c4b0
     try clear p5
     try clear p6
     try clear c9
     try clear p2
     obtain ⟨x6_2, rfl, HA, HK2, HO_0, BK50, BK51, HK, HB⟩ := hrel
     have hl0_2 := (Kd.R_reads' HO_0.out).1
     rw [hl0_2] at HO_0
     (try simp only [hl0_2])
     (try simp only [hl0_2] at BK50)
     (try simp only [hl0_2] at BK51)
     cases gk with
     | zero => exact absurd HA.out (by simp [Zaj.l1])
     | succ k2 =>
      have H := HA.out
      clear HA
      simp only [Zaj.l1] at H
      by_cases c11 : x6_2 < a1
      ·rw [if_pos c11] at H
       have c11b0 : decide (x6_2 < a1) = true := decide_eq_true c11
       clear c11
       have H' := Zab.mk H
       clear H
       go_wp2
       go_loopg [7, 8] k2 (fun kq v7 v8 w' => ∃ (x7_3 : Int) (x8_3 : Int), v7 = .int .i64 x7_3 ∧ v8 = .int .i64 x8_3 ∧ Zab (Zaj.l2 kq t414 a1 x6_2 x7_3 x8_3 a2_0 l2_1 = some r) ∧ Zab (kq ≤ k2) ∧ Zab (Kd.R (Kd.int .i64) 3 w' w0.heap.size (fun k_ => (P0_ k_ ∨ w.heap.size ≤ k_)) (.slice Ao9 t414.length co9) t414) ∧ Zab (w'.heap[gp50]? = some (.cells #[(.func (.func 95) #[] #[.pointer (some ⟨gp51, 0, none⟩)])] 108 (0, 0))) ∧ Zab (w'.heap[gp51]? = some (.cells #[.int .i64 a2_0, (.slice A2_1 l2_1.length c2_1)] 29 (0, 0))) ∧ Zab (Kept w w' (fun k_ => P0_ k_)) ∧ Zab (Below w0.heap.size w0 w'))
       case atStart => exact ⟨(0), (wrap64 (2 * x6_2)), (by first | rfl | (simp; done) | (simp [*]; done)), (by first | rfl | (simp; done) | (simp [*]; done)), H', ⟨Nat.le_refl _⟩, ⟨by (try simp only [hl0_2]); (with_reducible repeat (first | apply Kd.R_alloc | apply Kd.R_drewN | apply Kd.R_drew)); exact HO_0.out⟩, ⟨by (try simp only [hl0_2]); (with_reducible repeat (first | refine Zag ?_ _ | refine Zai ?_ | refine Zah ?_ _)); exact BK50.out⟩, ⟨by (try simp only [hl0_2]); (with_reducible repeat (first | refine Zag ?_ _ | refine Zai ?_ | refine Zah ?_ _)); exact BK51.out⟩, ⟨by repeat (first | (with_reducible first | exact HK.out | apply Kept.alloc | apply Kept.drewN | apply Kept.drew | refine Kept.setCell ?_ (.inr GW50.out) _ | refine Kept.setCell ?_ (.inr GW51.out) _) | exact HK.out)⟩, ⟨by repeat (first | (with_reducible first | exact HB.out | apply Zad | apply Zaa | apply Zac | refine Zaf ?_ GE50.out | refine Zaf ?_ GE51.out) | exact HB.out)⟩⟩
       case round =>
        clear H'
        try clear c1
        try clear c2
        try clear p2
        try clear c4
        try clear c4b0
        try clear p5
        try clear p6
        try clear c9
        try clear c11
        try clear c11b0
        try clear p2
        try clear p5
        try clear p6
        obtain ⟨x7_3, x8_3, rfl, rfl, HA, HK3, HO_0, BK50, BK51, HK, HB⟩ := hrel
        cases gk with
        | zero => exact absurd HA.out (by simp [Zaj.l2])
        | succ k3 =>
         have H := HA.out
         clear HA
         simp only [Zaj.l2] at H
         by_cases c12 : x8_3 ≤ a1
         ·rw [if_pos c12] at H
          have c12b0 : decide (x8_3 ≤ a1) = true := decide_eq_true c12
          clear c12
          replace H := Option.bind_eq_some_iff.mp H
          obtain ⟨_, A130, H⟩ := H
          replace H : (Zaj.l2 k3 t414 a1 x6_2 x8_3 (wrap64 (x8_3 + (wrap64 (2 * x6_2)))) a2_0 l2_1) = some r := H
          have A13 := Zab.mk A130
          clear A130
          have H' := Zab.mk H
          clear H
          go_wp2_with (first | ((with_reducible refine Zav (f := 114) rfl ?_); refine goesL_ (some 43) rfl rfl Try.func114 (by kernel_rfl) rfl #[.slice Ao9 t414.length co9, .int .i64 x7_3, .int .i64 (wrap64 (x7_3 + x6_2)), .int .i64 x8_3, .func (.func 98) #[] #[.pointer (some ⟨gp50, 0, none⟩)]] rfl (by (try simp only [List.map_toArray, List.map_cons, List.map_nil]); first | done | rfl | (simp only [List.length_drop, List.length_take]; rfl)) ?_; (with_reducible refine (slices_symMergeCmpFunc_int_byRests_2.calls _ _ t414 x7_3 (wrap64 (x7_3 + x6_2)) x8_3 gp50 gp51 a2_0 A2_1 c2_1 l2_1  _ ?side1 ?side2 ?side3 ?side4 ?side5 ?side6 A13.out).mono ?_); (case side1 => repeat (first | exact (Kd.R_reads' HO_0.out).2.2 | (with_reducible refine Kd.C_alloc ?_ _) | (with_reducible refine Kd.C_drewN ?_ _) | (with_reducible refine Kd.C_drew ?_))); (case side2 => exact (Kd.R_reads' HO_0.out).2.1); (case side3 => exact (by (with_reducible repeat (first | refine Zag ?_ _ | refine Zai ?_ | refine Zah ?_ _)); exact BK50.out)); (case side4 => exact (by (with_reducible repeat (first | refine Zag ?_ _ | refine Zai ?_ | refine Zah ?_ _)); exact BK51.out)); (case side5 => exact Kd.C_kept_now HR2_1.out (by repeat (first | (with_reducible first | exact HK.out | apply Kept.alloc | apply Kept.drewN | apply Kept.drew | refine Kept.setCell ?_ (.inr GW50.out) _ | refine Kept.setCell ?_ (.inr GW51.out) _) | exact HK.out))); (case side6 => exact HC2_1.out); rintro e w14 ⟨rfl, hb⟩; refine ⟨_, rfl, ?_⟩; have n0_ := Zab.mk (Kd.R_below (by (with_reducible repeat (first | apply Kd.R_alloc | apply Kd.R_drewN | apply Kd.R_drew)); exact HO_0.out) hb); have n1_ := Zab.mk (Zax (g := gp50) (o := .cells #[.func (.func 95) #[] #[.pointer (some ⟨gp51, 0, none⟩)]] 108 (0, 0)) (by (with_reducible repeat (first | refine Zag ?_ _ | refine Zai ?_ | refine Zah ?_ _)); exact BK50.out) hb); have n2_ := Zab.mk (Zax (g := gp51) (o := .cells #[.int .i64 a2_0, .slice A2_1 l2_1.length c2_1] 29 (0, 0)) (by (with_reducible repeat (first | refine Zag ?_ _ | refine Zai ?_ | refine Zah ?_ _)); exact BK51.out) hb); have n3_ := Zab.mk (Kept.below (S := (fun k_ => P0_ k_)) (by repeat (first | (with_reducible first | exact HK.out | apply Kept.alloc | apply Kept.drewN | apply Kept.drew | refine Kept.setCell ?_ (.inr GW50.out) _ | refine Kept.setCell ?_ (.inr GW51.out) _) | exact HK.out)) hb); have n4_ := Zab.mk (Zaq (by repeat (first | (with_reducible first | exact HB.out | apply Zad | apply Zaa | apply Zac | refine Zaf ?_ GE50.out | refine Zaf ?_ GE51.out) | exact HB.out)) hb); clear HO_0; clear BK50; clear BK51; clear HK; clear HB; have HO_0 := n0_; have BK50 := n1_; have BK51 := n2_; have HK := n3_; have HB := n4_; clear n0_ n1_ n2_ n3_ n4_; (try clear hb); (try clear hb2); (try clear hk); (try clear hi)))
          go_roundg k3
          case measure => have := HK1.out; have := HK2.out; have := HK3.out; omega
          case rel => exact ⟨(x8_3), (wrap64 (x8_3 + (wrap64 (2 * x6_2)))), (by first | rfl | (simp; done) | (simp [*]; done)), (by first | rfl | (simp; done) | (simp [*]; done)), H', ⟨by have := HK1.out; have := HK2.out; have := HK3.out; omega⟩, ⟨by (try simp only [hl0_2]); (with_reducible repeat (first | apply Kd.R_alloc | apply Kd.R_drewN | apply Kd.R_drew)); exact HO_0.out⟩, ⟨by (try simp only [hl0_2]); (with_reducible repeat (first | refine Zag ?_ _ | refine Zai ?_ | refine Zah ?_ _)); exact BK50.out⟩, ⟨by (try simp only [hl0_2]); (with_reducible repeat (first | refine Zag ?_ _ | refine Zai ?_ | refine Zah ?_ _)); exact BK51.out⟩, ⟨by repeat (first | (with_reducible first | exact HK.out | apply Kept.alloc | apply Kept.drewN | apply Kept.drew | refine Kept.setCell ?_ (.inr GW50.out) _ | refine Kept.setCell ?_ (.inr GW51.out) _) | exact HK.out)⟩, ⟨by repeat (first | (with_reducible first | exact HB.out | apply Zad | apply Zaa | apply Zac | refine Zaf ?_ GE50.out | refine Zaf ?_ GE51.out) | exact HB.out)⟩⟩
         ·rw [if_neg c12] at H
          have c12b0 : decide (x8_3 ≤ a1) = false := decide_eq_false c12
          clear c12
          by_cases c15 : (wrap64 (x7_3 + x6_2)) < a1
          ·rw [if_pos c15] at H
           have c15b0 : decide ((wrap64 (x7_3 + x6_2)) < a1) = true := decide_eq_true c15
           clear c15
           replace H := Option.bind_eq_some_iff.mp H
           obtain ⟨_, A160, H⟩ := H
           replace H : (Zaj.l1 k3 t414 a1 (wrap64 (x6_2 * 2)) a2_0 l2_1) = some r := H
           have A16 := Zab.mk A160
           clear A160
           have H' := Zab.mk H
           clear H
           go_wp2_with (first | ((with_reducible refine Zav (f := 114) rfl ?_); refine goesL_ (some 60) rfl rfl Try.func114 (by kernel_rfl) rfl #[.slice Ao9 t414.length co9, .int .i64 x7_3, .int .i64 (wrap64 (x7_3 + x6_2)), .int .i64 a1, .func (.func 98) #[] #[.pointer (some ⟨gp50, 0, none⟩)]] rfl (by (try simp only [List.map_toArray, List.map_cons, List.map_nil]); first | done | rfl | (simp only [List.length_drop, List.length_take]; rfl)) ?_; (with_reducible refine (slices_symMergeCmpFunc_int_byRests_2.calls _ _ t414 x7_3 (wrap64 (x7_3 + x6_2)) a1 gp50 gp51 a2_0 A2_1 c2_1 l2_1  _ ?side1 ?side2 ?side3 ?side4 ?side5 ?side6 A16.out).mono ?_); (case side1 => repeat (first | exact (Kd.R_reads' HO_0.out).2.2 | (with_reducible refine Kd.C_alloc ?_ _) | (with_reducible refine Kd.C_drewN ?_ _) | (with_reducible refine Kd.C_drew ?_))); (case side2 => exact (Kd.R_reads' HO_0.out).2.1); (case side3 => exact (by (with_reducible repeat (first | refine Zag ?_ _ | refine Zai ?_ | refine Zah ?_ _)); exact BK50.out)); (case side4 => exact (by (with_reducible repeat (first | refine Zag ?_ _ | refine Zai ?_ | refine Zah ?_ _)); exact BK51.out)); (case side5 => exact Kd.C_kept_now HR2_1.out (by repeat (first | (with_reducible first | exact HK.out | apply Kept.alloc | apply Kept.drewN | apply Kept.drew | refine Kept.setCell ?_ (.inr GW50.out) _ | refine Kept.setCell ?_ (.inr GW51.out) _) | exact HK.out))); (case side6 => exact HC2_1.out); rintro e w17 ⟨rfl, hb⟩; refine ⟨_, rfl, ?_⟩; have n0_ := Zab.mk (Kd.R_below (by (with_reducible repeat (first | apply Kd.R_alloc | apply Kd.R_drewN | apply Kd.R_drew)); exact HO_0.out) hb); have n1_ := Zab.mk (Zax (g := gp50) (o := .cells #[.func (.func 95) #[] #[.pointer (some ⟨gp51, 0, none⟩)]] 108 (0, 0)) (by (with_reducible repeat (first | refine Zag ?_ _ | refine Zai ?_ | refine Zah ?_ _)); exact BK50.out) hb); have n2_ := Zab.mk (Zax (g := gp51) (o := .cells #[.int .i64 a2_0, .slice A2_1 l2_1.length c2_1] 29 (0, 0)) (by (with_reducible repeat (first | refine Zag ?_ _ | refine Zai ?_ | refine Zah ?_ _)); exact BK51.out) hb); have n3_ := Zab.mk (Kept.below (S := (fun k_ => P0_ k_)) (by repeat (first | (with_reducible first | exact HK.out | apply Kept.alloc | apply Kept.drewN | apply Kept.drew | refine Kept.setCell ?_ (.inr GW50.out) _ | refine Kept.setCell ?_ (.inr GW51.out) _) | exact HK.out)) hb); have n4_ := Zab.mk (Zaq (by repeat (first | (with_reducible first | exact HB.out | apply Zad | apply Zaa | apply Zac | refine Zaf ?_ GE50.out | refine Zaf ?_ GE51.out) | exact HB.out)) hb); clear HO_0; clear BK50; clear BK51; clear HK; clear HB; have HO_0 := n0_; have BK50 := n1_; have BK51 := n2_; have HK := n3_; have HB := n4_; clear n0_ n1_ n2_ n3_ n4_; (try clear hb); (try clear hb2); (try clear hk); (try clear hi)))
           (try simp only [← hl0_2])
           go_roundg k3
           case measure => have := HK1.out; have := HK2.out; have := HK3.out; omega
           case rel => exact ⟨(wrap64 (x6_2 * 2)), (by first | rfl | (simp; done) | (simp [*]; done)), H', ⟨by have := HK1.out; have := HK2.out; have := HK3.out; omega⟩, ⟨by (try simp only [hl0_2]); (with_reducible repeat (first | apply Kd.R_alloc | apply Kd.R_drewN | apply Kd.R_drew)); exact HO_0.out⟩, ⟨by (try simp only [hl0_2]); (with_reducible repeat (first | refine Zag ?_ _ | refine Zai ?_ | refine Zah ?_ _)); exact BK50.out⟩, ⟨by (try simp only [hl0_2]); (with_reducible repeat (first | refine Zag ?_ _ | refine Zai ?_ | refine Zah ?_ _)); exact BK51.out⟩, ⟨by repeat (first | (with_reducible first | exact HK.out | apply Kept.alloc | apply Kept.drewN | apply Kept.drew | refine Kept.setCell ?_ (.inr GW50.out) _ | refine Kept.setCell ?_ (.inr GW51.out) _) | exact HK.out)⟩, ⟨by repeat (first | (with_reducible first | exact HB.out | apply Zad | apply Zaa | apply Zac | refine Zaf ?_ GE50.out | refine Zaf ?_ GE51.out) | exact HB.out)⟩⟩
          ·rw [if_neg c15] at H
           have c15b0 : decide ((wrap64 (x7_3 + x6_2)) < a1) = false := decide_eq_false c15
           clear c15
           have H' := Zab.mk H
           clear H
           go_wp2
           (try simp only [← hl0_2])
           go_roundg k3
           case measure => have := HK1.out; have := HK2.out; have := HK3.out; omega
           case rel => exact ⟨(wrap64 (x6_2 * 2)), (by first | rfl | (simp; done) | (simp [*]; done)), H', ⟨by have := HK1.out; have := HK2.out; have := HK3.out; omega⟩, ⟨by (try simp only [hl0_2]); (with_reducible repeat (first | apply Kd.R_alloc | apply Kd.R_drewN | apply Kd.R_drew)); exact HO_0.out⟩, ⟨by (try simp only [hl0_2]); (with_reducible repeat (first | refine Zag ?_ _ | refine Zai ?_ | refine Zah ?_ _)); exact BK50.out⟩, ⟨by (try simp only [hl0_2]); (with_reducible repeat (first | refine Zag ?_ _ | refine Zai ?_ | refine Zah ?_ _)); exact BK51.out⟩, ⟨by repeat (first | (with_reducible first | exact HK.out | apply Kept.alloc | apply Kept.drewN | apply Kept.drew | refine Kept.setCell ?_ (.inr GW50.out) _ | refine Kept.setCell ?_ (.inr GW51.out) _) | exact HK.out)⟩, ⟨by repeat (first | (with_reducible first | exact HB.out | apply Zad | apply Zaa | apply Zac | refine Zaf ?_ GE50.out | refine Zaf ?_ GE51.out) | exact HB.out)⟩⟩
      ·rw [if_neg c11] at H
       have c11b0 : decide (x6_2 < a1) = false := decide_eq_false c11
       clear c11
       obtain rfl := Option.some.inj H
       go_wp2
       first | go_end0 | ((try simp only [Exit.inBlock, Exit.then]); refine bodyPost_ret (results_none rfl _ _ _) rfl ?_)
       exact ⟨by first | rfl | (simp [Zal, Zam] <;> rfl) | (simp [*, Zal, Zam] <;> rfl), (by first | exact (by (with_reducible repeat (first | apply Kd.R_alloc | apply Kd.R_drewN | apply Kd.R_drew)); exact HO_0.out) | (simp only [hl0_2]; exact (by (with_reducible repeat (first | apply Kd.R_alloc | apply Kd.R_drewN | apply Kd.R_drew)); exact HO_0.out))), by repeat (first | (with_reducible first | exact HB.out | apply Zad | apply Zaa | apply Zac | refine Zaf ?_ GE50.out | refine Zaf ?_ GE51.out) | exact HB.out), by repeat (first | (with_reducible first | exact HK.out | apply Kept.alloc | apply Kept.drewN | apply Kept.drew | refine Kept.setCell ?_ (.inr GW50.out) _ | refine Kept.setCell ?_ (.inr GW51.out) _) | exact HK.out)⟩
def slices_SortStableFunc_int_int_byRests_2.f (k : Nat) (l0 : List Int) (a1_0 : Int) (l1_1 : List Int) : Option (List Int) := (Zaj.f k l0 (l0.length : Int) a1_0 l1_1).bind fun t413 => (some t413)
set_option maxHeartbeats 8000000 in
set_option maxRecDepth 100000 in
theorem slices_SortStableFunc_int_int_byRests_2.calls (k : Nat) (P0_ : Nat → Prop) (u9000_ : Value) (l0 : List Int) (gp50 : Nat) (gp51 : Nat) (a1_0 : Int) (A1_1 : Option Addr) (c1_1 : Nat) (l1_1 : List Int) (r : List Int) (w0 w : World) (hB : Below w0.heap.size w0 w) (ho0 : Kd.R (Kd.int .i64) 3 w w0.heap.size P0_ u9000_ l0) (hb50 : w.heap[gp50]? = some (.cells #[.func (.func 95) #[] #[.pointer (some ⟨gp51, 0, none⟩)]] 108 (0, 0))) (hb51 : w.heap[gp51]? = some (.cells #[.int .i64 a1_0, .slice A1_1 l1_1.length c1_1] 29 (0, 0))) (hr1_1 : ∀ W_, Kept w W_ (fun k_ => P0_ k_) → Kd.C (Kd.int .i64) W_ A1_1 l1_1.length l1_1) (hc1_1 : l1_1.length ≤ c1_1) (h : slices_SortStableFunc_int_int_byRests_2.f k l0 a1_0 l1_1 = some r) :
  Calls Try.prog 97 #[u9000_, .func (.func 98) #[] #[.pointer (some ⟨gp50, 0, none⟩)]] w fun e w' => e = .returned (.tuple #[]) ∧ Kd.R (Kd.int .i64) 3 w' w0.heap.size (fun k_ => (P0_ k_ ∨ w.heap.size ≤ k_)) u9000_ r ∧ Below w0.heap.size w0 w' ∧ Kept w w' (fun k_ => P0_ k_) := by
 have HO0 := Zab.mk (show Kd.R (Kd.int .i64) 3 w w0.heap.size (fun k_ => (P0_ k_ ∨ w.heap.size ≤ k_)) u9000_ l0 from Kd.R_mono ho0 (fun k_ hk => (.inl hk)))
 have HR1_1 := Zab.mk hr1_1
 have HC1_1 := Zab.mk hc1_1
 clear hr1_1 hc1_1
 have BK50 := Zab.mk hb50
 clear hb50
 have BK51 := Zab.mk hb51
 clear hb51
 have HK := Zab.mk (Kept.refl w (fun k_ => P0_ k_))
 have HW0 := Zab.mk hB.size
 have HB := Zab.mk hB
 clear hB
 have H : ((Zaj.f k l0 (l0.length : Int) a1_0 l1_1).bind fun t413 => (some t413)) = some r := h
 clear h
 replace H := Option.bind_eq_some_iff.mp H
 obtain ⟨t413, A30, H⟩ := H
 replace H : (some t413) = some r := H
 have A3 := Zab.mk A30
 clear A30
 obtain rfl := Option.some.inj H
 obtain ⟨Ao4, co4, eo4⟩ := Kd.R_slice HO0.out
 subst eo4
 go_enter Try.func97, Try.ntmps97
 go_wp2_with (first | ((with_reducible refine Zav (f := 112) rfl ?_); refine goesL_ (some 8) rfl rfl Try.func112 (by kernel_rfl) rfl #[.slice Ao4 l0.length co4, .int .i64 (l0.length : Int), .func (.func 98) #[] #[.pointer (some ⟨gp50, 0, none⟩)]] rfl (by (try simp only [List.map_toArray, List.map_cons, List.map_nil]); first | done | rfl | (simp only [List.length_drop, List.length_take]; rfl)) ?_; (with_reducible refine (Zaj.calls k (fun k_ => some k_ = (.slice Ao4 l0.length co4 : Value).ownBlock) (.slice Ao4 l0.length co4) l0 (l0.length : Int) gp50 gp51 a1_0 A1_1 c1_1 l1_1 t413 w0 _ ?side1 ?side2 ?side3 ?side4 ?side5 ?side6 A3.out).mono ?_); (case side1 => repeat (first | (with_reducible first | exact HB.out | apply Zad | apply Zaa | apply Zac | refine Zaf ?_ GE50.out | refine Zaf ?_ GE51.out) | exact HB.out)); (case side2 => exact Kd.R_tight rfl HO0.out); (case side3 => exact (by (with_reducible repeat (first | refine Zag ?_ _ | refine Zai ?_ | refine Zah ?_ _)); exact BK50.out)); (case side4 => exact (by (with_reducible repeat (first | refine Zag ?_ _ | refine Zai ?_ | refine Zah ?_ _)); exact BK51.out)); (case side5 => exact Kd.C_kept_call HR1_1.out (by repeat (first | (with_reducible first | exact HK.out | apply Kept.alloc | apply Kept.drewN | apply Kept.drew | refine Kept.setCell ?_ (.inr GW50.out) _ | refine Kept.setCell ?_ (.inr GW51.out) _) | exact HK.out)) (fun k_ hs_ => (fun e_ => (HO0.out.1 k_ e_.symm)) hs_)); (case side6 => exact HC1_1.out); rintro e w5 ⟨rfl, hy0, hb, hkp⟩; refine ⟨_, rfl, ?_⟩; have n0_ := Zab.mk (blk_kept (by (with_reducible repeat (first | refine Zag ?_ _ | refine Zai ?_ | refine Zah ?_ _)); exact BK50.out) hkp (fun hs_ => (fun e_ => (Kd.R_ne HO0.out BK50.out (by decide)) e_) hs_)); have n1_ := Zab.mk (blk_kept (by (with_reducible repeat (first | refine Zag ?_ _ | refine Zai ?_ | refine Zah ?_ _)); exact BK51.out) hkp (fun hs_ => (fun e_ => (Kd.R_ne HO0.out BK51.out (by decide)) e_) hs_)); have n2_ := Zab.mk (Kd.R_reok rfl hy0 (fun k_ e_ => HO0.out.1 k_ e_)); have n3_ := Zab.mk (Kept.then_ (S := (fun k_ => P0_ k_)) (by repeat (first | (with_reducible first | exact HK.out | apply Kept.alloc | apply Kept.drewN | apply Kept.drew | refine Kept.setCell ?_ (.inr GW50.out) _ | refine Kept.setCell ?_ (.inr GW51.out) _) | exact HK.out)) hkp (fun k_ hs_ => (fun e_ => (HO0.out.1 k_ e_.symm)) hs_)); have n4_ := Zab.mk (hb); clear BK50; clear BK51; clear HO0; clear HK; clear HB; have BK50 := n0_; have BK51 := n1_; have HO0 := n2_; have HK := n3_; have HB := n4_; clear n0_ n1_ n2_ n3_ n4_; (try clear hb); (try clear hkp); (try clear hy0)))
 first | go_end0 | ((try simp only [Exit.inBlock, Exit.then]); refine bodyPost_ret (results_none rfl _ _ _) rfl ?_)
 exact ⟨by first | rfl | (simp [Zal, Zam] <;> rfl) | (simp [*, Zal, Zam] <;> rfl), by (with_reducible repeat (first | apply Kd.R_alloc | apply Kd.R_drewN | apply Kd.R_drew)); exact HO0.out, by repeat (first | (with_reducible first | exact HB.out | apply Zad | apply Zaa | apply Zac | refine Zaf ?_ GE50.out | refine Zaf ?_ GE51.out) | exact HB.out), by repeat (first | (with_reducible first | exact HK.out | apply Kept.alloc | apply Kept.drewN | apply Kept.drew | refine Kept.setCell ?_ (.inr GW50.out) _ | refine Kept.setCell ?_ (.inr GW51.out) _) | exact HK.out)⟩
mutual
def Zaw.l0 : Nat → Int → List Int → List Int → Int → Int → Int → List Int → Option (List Int)
 | 0, _, _, _, _, _, _, _ => none
 | k + 1, x1, x6, x7, x19, x20, x418000, x418001 => if x20 < x19 then (if x7.length < 17592186044416 then (Zaw.l0 k x1 x6 (x7 ++ [x20]) x19 (wrap64 (x20 + 1)) x418000 x418001) else (none)) else ((slices_SortStableFunc_int_int_byRests_2.f k x7 x418000 x418001).bind fun t428 => ((impl_sum.f k x6).bind fun t429 => (if 0 ≤ (wrap64 (x1 - t429)) then (if (wrap64 (x1 - t429)) ≤ (x7.length : Int) then ((some (t428.take ((wrap64 (x1 - t429)) : Int).toNat : List Int)).bind fun y430 => (Zaw.l1 k x6 y430 (y430.length : Int) 0)) else (none)) else (none))))
def Zaw.l1 : Nat → List Int → List Int → Int → Int → Option (List Int)
 | 0, _, _, _, _ => none
 | k + 1, x6, x37, x38, x39 => if x39 < x38 then (if 0 ≤ x39 then (if x39 < (x37.length : Int) then (if 0 ≤ (rd x37 x39) then (if (rd x37 x39) < (x6.length : Int) then (Zaw.l1 k (x6.set ((rd x37 x39) : Int).toNat (wrap64 ((rd x6 (rd x37 x39)) + 1))) x37 x38 (wrap64 (x39 + 1))) else (none)) else (none)) else (none)) else (none)) else (some x6)
end
def Zaw.f (k : Nat) (l0 : List Int) (a1 : Int) : Option (List Int) := (impl_quotas.f k l0 a1).bind fun bt413 => ((impl_Values_floors.f k bt413.1 bt413.2).bind fun t418 => (Zaw.l0 k a1 t418 (([] : List Int)) (l0.length : Int) 0 bt413.1 bt413.2))
set_option maxHeartbeats 8000000 in
set_option maxRecDepth 100000 in
theorem Zaw.calls (k : Nat) (A0 : Option Addr) (c0 : Nat) (l0 : List Int) (a1 : Int) (r : List Int) (w : World) (hr0 : Kd.C (Kd.int .i64) w A0 l0.length l0) (hc0 : l0.length ≤ c0) (h : Zaw.f k l0 a1 = some r) :
  Calls Try.prog 71 #[.slice A0 l0.length c0, .int .i64 a1] w fun e w' => ∃ v0_ : Value, e = .returned (v0_) ∧ Kd.R (Kd.int .i64) 2 w' w.heap.size (fun _ => True) v0_ r ∧ Below w.heap.size w w' := by
 have hu29 := Try.underlying29
 have HR0 := Zab.mk hr0
 have HC0 := Zab.mk hc0
 clear hr0 hc0
 have HB := Zab.mk (Below.refl w.heap.size w)
 have H : ((impl_quotas.f k l0 a1).bind fun bt413 => ((impl_Values_floors.f k bt413.1 bt413.2).bind fun t418 => (Zaw.l0 k a1 t418 (([] : List Int)) (l0.length : Int) 0 bt413.1 bt413.2))) = some r := h
 clear h
 replace H := Option.bind_eq_some_iff.mp H
 obtain ⟨⟨t413, t414⟩, A30, H⟩ := H
 replace H : ((impl_Values_floors.f k t413 t414).bind fun t418 => (Zaw.l0 k a1 t418 (([] : List Int)) (l0.length : Int) 0 t413 t414)) = some r := H
 have A3 := Zab.mk A30
 clear A30
 replace H := Option.bind_eq_some_iff.mp H
 obtain ⟨t418, A40, H⟩ := H
 replace H : (Zaw.l0 k a1 t418 (([] : List Int)) (l0.length : Int) 0 t413 t414) = some r := H
 have A4 := Zab.mk A40
 clear A40
 obtain ⟨y421, hy421⟩ : ∃ y_ : List Int, y_ = (([] : List Int)) := ⟨_, rfl⟩
 replace H : (Zaw.l0 k a1 t418 y421 (l0.length : Int) 0 t413 t414) = some r := by first | (rw [hy421]; with_reducible exact H) | (have H2_ := (Option.bind_some _ _).symm.trans H; rw [hy421]; with_reducible exact H2_) | (have H2_ := (Option.bind_some _ _).symm.trans H; with_reducible exact H2_) | with_reducible exact H | (rw [hy421]; exact H) | exact H
 have Ny421 := Zab.mk hy421
 clear hy421
 have H' := Zab.mk H
 clear H
 go_enter Try.func71, Try.ntmps71
 go_wp2_with (first | ((with_reducible refine Zav (f := 80) rfl ?_); refine goesL_ (some 14) rfl rfl Try.func80 (by kernel_rfl) rfl #[.slice A0 l0.length c0, .int .i64 a1] rfl (by (try simp only [List.map_toArray, List.map_cons, List.map_nil]); first | done | rfl | (simp only [List.length_drop, List.length_take]; rfl)) ?_; (with_reducible refine (impl_quotas.calls k _ _ l0 a1 t413 t414 _ ?side1 ?side2 A3.out).mono ?_); (case side1 => repeat (first | exact HR0.out | (with_reducible refine Kd.C_alloc ?_ _) | (with_reducible refine Kd.C_drewN ?_ _) | (with_reducible refine Kd.C_drew ?_))); (case side2 => exact HC0.out); rintro e w5 ⟨v415, rfl, ho0, hb⟩; refine ⟨_, rfl, ?_⟩; have n0_ := Zab.mk (Kd.R_lower ho0 (Zap (by repeat (first | (with_reducible first | exact HB.out | apply Zad | apply Zaa | apply Zac) | exact HB.out)))); have n1_ := Zab.mk (Zaq (by repeat (first | (with_reducible first | exact HB.out | apply Zad | apply Zaa | apply Zac) | exact HB.out)) hb); clear HB; have HO416 := n0_; have HB := n1_; clear n0_ n1_; (try clear hb); (try clear hb2); (try clear hk); (try clear hi); (try clear ho0)) | ((with_reducible refine gate_dst (N := 5) rfl ?_); refine box_event ?hg (N := 5) ?hd (cs := #[.int .i64 0, .slice none 0 0]) (t := 29) ?hr ?_; (case hd => rfl); (case hg => rfl); (case hr => first | (go_simp; done) | (go_simp; rfl)); intro gb417 hg w6 hbox hb; have n0_ := Zab.mk (Kd.R_below (by (with_reducible repeat (first | apply Kd.R_alloc | apply Kd.R_drewN | apply Kd.R_drew)); exact HO416.out) hb); have n1_ := Zab.mk (Zaq (by repeat (first | (with_reducible first | exact HB.out | apply Zad | apply Zaa | apply Zac) | exact HB.out)) hb); have n2_ := Zab.mk (hbox); have n3_ := Zab.mk ((by rw [hg]; exact (Zap (by repeat (first | (with_reducible first | exact HB.out | apply Zad | apply Zaa | apply Zac) | exact HB.out))) : w.heap.size ≤ gb417)); have n4_ := Zab.mk ((by rw [hg]; exact (Zap (by repeat (first | (with_reducible first | exact HB.out | apply Zad | apply Zaa | apply Zac) | exact HB.out))) : w.heap.size ≤ gb417)); clear HO416; clear HB; have HO416 := n0_; have HB := n1_; have BK417 := n2_; have GW417 := n3_; have GE417 := n4_; clear n0_ n1_ n2_ n3_ n4_; clear hb hbox hg; have hcz7_0 : w6.cell? ⟨gb417, 0, none⟩ = some (.int .i64 0) := (Zat BK417.out 0).trans rfl; have hcz7_1 : w6.cell? ⟨gb417, 1, none⟩ = some (.slice none 0 0) := (Zat BK417.out 1).trans rfl; have hfz7_0 := Zao BK417.out 0; have hfz7_1 := Zao BK417.out 1; obtain ⟨Ao8, co8, eo8⟩ := Kd.R_slice HO416.out; subst eo8) | ((with_reducible refine Zav (f := 81) rfl ?_); refine goesL_ (some 16) rfl rfl Try.func81 (by kernel_rfl) rfl #[.agg #[.int .i64 t413, .slice Ao8 t414.length co8]] rfl (by (try simp only [List.map_toArray, List.map_cons, List.map_nil]); first | done | rfl | (simp only [List.length_drop, List.length_take]; rfl)) ?_; (with_reducible refine (impl_Values_floors.calls k t413 _ _ t414 t418 _ ?side1 ?side2 A4.out).mono ?_); (case side1 => refine (Kd.R_reads' (e := 2) (base := w.heap.size) (ok := fun k_ => True) (n := t414.length) (c := co8) ?_).2.2; exact (by (with_reducible repeat (first | apply Kd.R_alloc | apply Kd.R_drewN | apply Kd.R_drew)); exact (Kd.R_mono (Kd.R_far (p := ⟨gb417, 1, none⟩) (Kd.R_far (p := ⟨gb417, 0, none⟩) (Kd.R_types HO416.out BK417.out (by decide)) (fun _ hk => hk.2) (.int .i64 t413)) (fun _ hk => hk.2) (.slice Ao8 t414.length co8)) (fun _ h_ => h_.1)))); (case side2 => exact (Kd.R_reads' HO416.out).2.1); rintro e w9 ⟨v419, rfl, ho0, hb⟩; refine ⟨_, rfl, ?_⟩; have n0_ := Zab.mk (Kd.R_elder' (by (with_reducible repeat (first | apply Kd.R_alloc | apply Kd.R_drewN | apply Kd.R_drew)); exact (Kd.R_mono (Kd.R_far (p := ⟨gb417, 1, none⟩) (Kd.R_far (p := ⟨gb417, 0, none⟩) (Kd.R_types HO416.out BK417.out (by decide)) (fun _ hk => hk.2) (.int .i64 t413)) (fun _ hk => hk.2) (.slice Ao8 t414.length co8)) (fun _ h_ => h_.1))) (Kd.R_base ho0) hb); have n1_ := Zab.mk (Kd.R_lower (Kd.R_new' ho0 (Kd.R_lt (by (with_reducible repeat (first | apply Kd.R_alloc | apply Kd.R_drewN | apply Kd.R_drew)); exact (Kd.R_mono (Kd.R_far (p := ⟨gb417, 1, none⟩) (Kd.R_far (p := ⟨gb417, 0, none⟩) (Kd.R_types HO416.out BK417.out (by decide)) (fun _ hk => hk.2) (.int .i64 t413)) (fun _ hk => hk.2) (.slice Ao8 t414.length co8)) (fun _ h_ => h_.1))))) (Zap (by repeat (first | (with_reducible first | exact HB.out | apply Zad | apply Zaa | apply Zac | refine Zaf ?_ GE417.out) | exact HB.out)))); have n2_ := Zab.mk (Zax (g := gb417) (o := .cells #[.int .i64 t413, .slice Ao8 t414.length co8] 29 (0, 0)) (by (with_reducible repeat (first | refine Zag ?_ _ | refine Zai ?_ | refine Zah ?_ _)); refine blk_put (cs := #[.int .i64 t413, .slice none 0 0]) ?_ 1 _ rfl; (with_reducible repeat (first | refine Zag ?_ _ | refine Zai ?_ | refine Zah ?_ _)); refine blk_put (cs := #[.int .i64 0, .slice none 0 0]) ?_ 0 _ rfl; (with_reducible repeat (first | refine Zag ?_ _ | refine Zai ?_ | refine Zah ?_ _)); exact BK417.out) hb); have n3_ := Zab.mk (Zaq (by repeat (first | (with_reducible first | exact HB.out | apply Zad | apply Zaa | apply Zac | refine Zaf ?_ GE417.out) | exact HB.out)) hb); clear HO416; clear BK417; clear HB; have HO416 := n0_; have HO420 := n1_; have BK417 := n2_; have HB := n3_; clear n0_ n1_ n2_ n3_; (try clear hb); (try clear hb2); (try clear hk); (try clear hi); (try clear ho0)) | ((with_reducible refine gate_dst (N := 17) rfl ?_); refine Kd.R_lit (Kd.int .i64) _ 3 ?hg (N := 17) ?hd (xs := ([] : List Int)) (inner := []) (ok := fun _ => True) (okp := fun _ => True) ?hr ?hp (fun _ hk => hk) trivial (Below.refl _ _) (Nat.le_refl _) (by simp) ?_; (case hd => rfl); (case hg => rfl); (case hr => first | (go_simp; done) | (go_simp; rfl)); (case hp => exact (Reps.none _ _)); intro v422 w10 ho11 hb hg_ hnew_; clear hg_ hnew_; (first | rw [← Ny421.out] at ho11 | (simp only [Int.reduceToNat] at ho11; rw [← Ny421.out] at ho11)); have n0_ := Zab.mk (Kd.R_below (by (with_reducible repeat (first | apply Kd.R_alloc | apply Kd.R_drewN | apply Kd.R_drew)); exact HO416.out) hb); have n1_ := Zab.mk (Kd.R_below (by (with_reducible repeat (first | apply Kd.R_alloc | apply Kd.R_drewN | apply Kd.R_drew)); exact HO420.out) hb); have n2_ := Zab.mk (Kd.R_lower ho11 (Zap (by repeat (first | (with_reducible first | exact HB.out | apply Zad | apply Zaa | apply Zac | refine Zaf ?_ GE417.out) | exact HB.out)))); have n3_ := Zab.mk (Zax (g := gb417) (o := .cells #[.int .i64 t413, .slice Ao8 t414.length co8] 29 (0, 0)) (by (with_reducible repeat (first | refine Zag ?_ _ | refine Zai ?_ | refine Zah ?_ _)); exact BK417.out) hb); have n4_ := Zab.mk (Zaq (by repeat (first | (with_reducible first | exact HB.out | apply Zad | apply Zaa | apply Zac | refine Zaf ?_ GE417.out) | exact HB.out)) hb); clear HO416; clear HO420; clear BK417; clear HB; have HO416 := n0_; have HO420 := n1_; have HO423 := n2_; have BK417 := n3_; have HB := n4_; clear n0_ n1_ n2_ n3_ n4_; clear hb ho11))
 try simp only [Act.put, List.setIfInBounds_toArray, List.set_cons_zero, List.set_cons_succ]
 go_loopg [7, 20] k (fun kq v7 v20 w' => ∃ (x7_1 : List Int) (x20_1 : Int), v20 = .int .i64 x20_1 ∧ Zab (Zaw.l0 kq a1 t418 x7_1 (l0.length : Int) x20_1 t413 t414 = some r) ∧ Zab (kq ≤ k) ∧ Zab (Kd.R (Kd.int .i64) 2 w' w.heap.size (fun k_ => some k_ ≠ ((.slice Ao8 t414.length co8) : Value).ownBlock) v419 t418) ∧ Zab (Kd.R (Kd.int .i64) 3 w' w.heap.size (fun _ => True) v7 x7_1) ∧ Zab (Kd.R (Kd.int .i64) 2 w' w.heap.size (fun k_ => some k_ ≠ (v419 : Value).ownBlock) (.slice Ao8 t414.length co8) t414) ∧ Zab (w'.heap[gb417]? = some (.cells #[.int .i64 t413, (.slice Ao8 t414.length co8)] 29 (0, 0))) ∧ Zab (Below w.heap.size w w'))
 case atStart => exact ⟨(y421), (0), (by first | rfl | (simp; done) | (simp [*]; done)), H', ⟨Nat.le_refl _⟩, ⟨by (with_reducible repeat (first | apply Kd.R_alloc | apply Kd.R_drewN | apply Kd.R_drew)); exact Kd.R_mono HO420.out (fun _ hk => hk.2)⟩, ⟨by (with_reducible repeat (first | apply Kd.R_alloc | apply Kd.R_drewN | apply Kd.R_drew)); exact HO423.out⟩, ⟨by (with_reducible repeat (first | apply Kd.R_alloc | apply Kd.R_drewN | apply Kd.R_drew)); exact Kd.R_mono HO416.out (fun _ hk => hk.2)⟩, ⟨by (with_reducible repeat (first | refine Zag ?_ _ | refine Zai ?_ | refine Zah ?_ _)); exact BK417.out⟩, ⟨by repeat (first | (with_reducible first | exact HB.out | apply Zad | apply Zaa | apply Zac | refine Zaf ?_ GE417.out) | exact HB.out)⟩⟩
 case round =>
  clear H'
  try clear p2
  try clear c7
  try clear c8
  try clear hcz7_0
  try clear hcz7_1
  try clear hfz7_0
  try clear hfz7_1
  obtain ⟨x7_1, x20_1, rfl, HA, HK1, HO_6, HO_7, HO_418001, BK417, HB⟩ := hrel
  cases gk with
  | zero => exact absurd HA.out (by simp [Zaw.l0])
  | succ k1 =>
   have H := HA.out
   clear HA
   simp only [Zaw.l0] at H
   by_cases c12 : x20_1 < (l0.length : Int)
   ·rw [if_pos c12] at H
    have c12b0 : decide (x20_1 < (l0.length : Int)) = true := decide_eq_true c12
    clear c12
    by_cases c13 : x7_1.length < 17592186044416
    ·rw [if_pos c13] at H
     have LMc13 := Zab.mk c13
     clear c13
     obtain ⟨y424, hy424⟩ : ∃ y_ : List Int, y_ = (x7_1 ++ [x20_1]) := ⟨_, rfl⟩
     replace H : (Zaw.l0 k1 a1 t418 y424 (l0.length : Int) (wrap64 (x20_1 + 1)) t413 t414) = some r := by first | (rw [hy424]; with_reducible exact H) | (have H2_ := (Option.bind_some _ _).symm.trans H; rw [hy424]; with_reducible exact H2_) | (have H2_ := (Option.bind_some _ _).symm.trans H; with_reducible exact H2_) | with_reducible exact H | (rw [hy424]; exact H) | exact H
     have Ny424 := Zab.mk hy424
     clear hy424
     have H' := Zab.mk H
     clear H
     go_wp2_with (first | ((with_reducible refine gate_builtin (b := .append) (xs := #[.tmp 23, .tmp 25]) rfl ?_); at_builtin; refine Kd.R_append (Kd.int .i64) (w0 := w) w.heap.size rfl (.tmp 23) (.tmp 25) 107 3 (.int .i64 0) 8 rfl Try.underlying107 info3 rfl (by decide) (by omega) u7 x7_1 x20_1 [.int .i64 x20_1] (fun _ => True) (fun _ => False) rfl rfl ?aP (fun _ hk => hk.elim) ?aF ?aO ?aB ?aS ?aL ?_; (case aP => exact rfl); (case aB => exact (by repeat (first | (with_reducible first | exact HB.out | apply Zad | apply Zaa | apply Zac | refine Zaf ?_ GE417.out) | exact HB.out))); (case aF => exact (fun _ _ => trivial)); (case aO => exact (by (with_reducible repeat (first | apply Kd.R_alloc | apply Kd.R_drewN | apply Kd.R_drew)); exact HO_7.out)); (case aS => exact (Zap (by repeat (first | (with_reducible first | exact HB.out | apply Zad | apply Zaa | apply Zac | refine Zaf ?_ GE417.out) | exact HB.out)))); (case aL => have := LMc13.out; omega); intro v425 w14 ho hb hg hat; rw [← Ny424.out] at ho; have n0_ := Zab.mk (Kd.R_over' (by (with_reducible repeat (first | apply Kd.R_alloc | apply Kd.R_drewN | apply Kd.R_drew)); exact HO_6.out) (Kd.R_typed (by (with_reducible repeat (first | apply Kd.R_alloc | apply Kd.R_drewN | apply Kd.R_drew)); exact HO_7.out)) (by decide) hg); have n1_ := Zab.mk (Kd.R_over' (by (with_reducible repeat (first | apply Kd.R_alloc | apply Kd.R_drewN | apply Kd.R_drew)); exact HO_418001.out) (Kd.R_typed (by (with_reducible repeat (first | apply Kd.R_alloc | apply Kd.R_drewN | apply Kd.R_drew)); exact HO_7.out)) (by decide) hg); have n2_ := Zab.mk (blk_grown (g := gb417) (o := .cells #[.int .i64 t413, .slice Ao8 t414.length co8] 29 (0, 0)) (by (with_reducible repeat (first | refine Zag ?_ _ | refine Zai ?_ | refine Zah ?_ _)); exact BK417.out) hg (Kd.R_ne HO_7.out BK417.out (by decide))); have n3_ := Zab.mk (hb); have n4_ := Zab.mk (ho); clear HO_6; clear HO_418001; clear BK417; clear HB; clear HO_7; have HO_6 := n0_; have HO_418001 := n1_; have BK417 := n2_; have HB := n3_; have HO426 := n4_; clear n0_ n1_ n2_ n3_ n4_; clear ho hb hg hat))
     go_roundg k1
     case measure => have := HK1.out; omega
     case rel => exact ⟨(y424), (wrap64 (x20_1 + 1)), (by first | rfl | (simp; done) | (simp [*]; done)), H', ⟨by have := HK1.out; omega⟩, ⟨by (with_reducible repeat (first | apply Kd.R_alloc | apply Kd.R_drewN | apply Kd.R_drew)); exact HO_6.out⟩, ⟨by (with_reducible repeat (first | apply Kd.R_alloc | apply Kd.R_drewN | apply Kd.R_drew)); exact HO426.out⟩, ⟨by (with_reducible repeat (first | apply Kd.R_alloc | apply Kd.R_drewN | apply Kd.R_drew)); exact HO_418001.out⟩, ⟨by (with_reducible repeat (first | refine Zag ?_ _ | refine Zai ?_ | refine Zah ?_ _)); exact BK417.out⟩, ⟨by repeat (first | (with_reducible first | exact HB.out | apply Zad | apply Zaa | apply Zac | refine Zaf ?_ GE417.out) | exact HB.out)⟩⟩
    ·rw [if_neg c13] at H
     exact absurd H (by simp)
   ·rw [if_neg c12] at H
    have c12b0 : decide (x20_1 < (l0.length : Int)) = false := decide_eq_false c12
    clear c12
    replace H := Option.bind_eq_some_iff.mp H
    obtain ⟨t428, A150, H⟩ := H
    replace H : ((impl_sum.f k1 t418).bind fun t429 => (if 0 ≤ (wrap64 (a1 - t429)) then (if (wrap64 (a1 - t429)) ≤ (x7_1.length : Int) then ((some (t428.take ((wrap64 (a1 - t429)) : Int).toNat : List Int)).bind fun y430 => (Zaw.l1 k1 t418 y430 (y430.length : Int) 0)) else (none)) else (none))) = some r := H
    have A15 := Zab.mk A150
    clear A150
    replace H := Option.bind_eq_some_iff.mp H
    obtain ⟨t429, A160, H⟩ := H
    replace H : (if 0 ≤ (wrap64 (a1 - t429)) then (if (wrap64 (a1 - t429)) ≤ (x7_1.length : Int) then ((some (t428.take ((wrap64 (a1 - t429)) : Int).toNat : List Int)).bind fun y430 => (Zaw.l1 k1 t418 y430 (y430.length : Int) 0)) else (none)) else (none)) = some r := H
    have A16 := Zab.mk A160
    clear A160
    obtain ⟨ji17, hji17⟩ : ∃ j_ : Int, (wrap64 (a1 - t429)) = j_ := ⟨_, rfl⟩
    replace H : (if 0 ≤ (ji17) then (if (ji17) ≤ (x7_1.length : Int) then ((some (t428.take ((ji17) : Int).toNat : List Int)).bind fun y430 => (Zaw.l1 k1 t418 y430 (y430.length : Int) 0)) else (none)) else (none)) = some r := by first | (rw [hji17] at H; exact H) | (simp only [hji17] at H ⊢; exact H)
    (try rw [hji17] at A15)
    (try rw [hji17] at A16)
    have hji17w : (IntKind.i64.wrap (a1 - t429)) = ji17 := (i64_w _).trans hji17
    by_cases c18 : 0 ≤ (ji17)
    ·rw [if_pos c18] at H
     have c18b0 := eq_true c18
     have c18b1 : decide (0 ≤ (ji17)) = true := decide_eq_true c18
     clear c18
     by_cases c19 : (ji17) ≤ (x7_1.length : Int)
     ·rw [if_pos c19] at H
      have c19b0 := eq_true c19
      have c19b1 : decide ((ji17) ≤ (x7_1.length : Int)) = true := decide_eq_true c19
      clear c19
      obtain ⟨y430, hy430⟩ : ∃ y_ : List Int, y_ = (t428.take ((ji17) : Int).toNat) := ⟨_, rfl⟩
      replace H : (Zaw.l1 k1 t418 y430 (y430.length : Int) 0) = some r := by first | (rw [hy430]; with_reducible exact H) | (have H2_ := (Option.bind_some _ _).symm.trans H; rw [hy430]; with_reducible exact H2_) | (have H2_ := (Option.bind_some _ _).symm.trans H; with_reducible exact H2_) | with_reducible exact H | (rw [hy430]; exact H) | exact H
      have Ny430 := Zab.mk hy430
      clear hy430
      have H' := Zab.mk H
      clear H
      go_wp2_with (first | ((with_reducible refine gate_dst (N := 9) rfl ?_); refine box_event ?hg (N := 9) ?hd (cs := #[.nilFunc]) (t := 108) ?hr ?_; (case hd => rfl); (case hg => rfl); (case hr => first | (go_simp; done) | (go_simp; rfl)); intro gb427 hg w20 hbox hb; have n0_ := Zab.mk (Kd.R_below (by (with_reducible repeat (first | apply Kd.R_alloc | apply Kd.R_drewN | apply Kd.R_drew)); exact HO_6.out) hb); have n1_ := Zab.mk (Kd.R_below (by (with_reducible repeat (first | apply Kd.R_alloc | apply Kd.R_drewN | apply Kd.R_drew)); exact HO_7.out) hb); have n2_ := Zab.mk (Kd.R_below (by (with_reducible repeat (first | apply Kd.R_alloc | apply Kd.R_drewN | apply Kd.R_drew)); exact HO_418001.out) hb); have n3_ := Zab.mk (Zax (g := gb417) (o := .cells #[.int .i64 t413, .slice Ao8 t414.length co8] 29 (0, 0)) (by (with_reducible repeat (first | refine Zag ?_ _ | refine Zai ?_ | refine Zah ?_ _)); exact BK417.out) hb); have n4_ := Zab.mk (Zaq (by repeat (first | (with_reducible first | exact HB.out | apply Zad | apply Zaa | apply Zac | refine Zaf ?_ GE417.out) | exact HB.out)) hb); have n5_ := Zab.mk (hbox); have n6_ := Zab.mk ((by rw [hg]; exact (Zap (by repeat (first | (with_reducible first | exact HB.out | apply Zad | apply Zaa | apply Zac | refine Zaf ?_ GE417.out) | exact HB.out))) : w.heap.size ≤ gb427)); have n7_ := Zab.mk ((by rw [hg]; exact (Zap (by repeat (first | (with_reducible first | exact HB.out | apply Zad | apply Zaa | apply Zac | refine Zaf ?_ GE417.out) | exact HB.out))) : w.heap.size ≤ gb427)); have n8_ := Zab.mk ((by rw [hg]; exact Nat.ne_of_lt (blk_lt (g := gb417) (o := .cells #[.int .i64 t413, .slice Ao8 t414.length co8] 29 (0, 0)) (by (with_reducible repeat (first | refine Zag ?_ _ | refine Zai ?_ | refine Zah ?_ _)); exact BK417.out)) : gb417 ≠ gb427)); have n9_ := Zab.mk ((by rw [hg]; exact Nat.ne_of_gt (blk_lt (g := gb417) (o := .cells #[.int .i64 t413, .slice Ao8 t414.length co8] 29 (0, 0)) (by (with_reducible repeat (first | refine Zag ?_ _ | refine Zai ?_ | refine Zah ?_ _)); exact BK417.out)) : gb427 ≠ gb417)); clear HO_6; clear HO_7; clear HO_418001; clear BK417; clear HB; have HO_6 := n0_; have HO_7 := n1_; have HO_418001 := n2_; have BK417 := n3_; have HB := n4_; have BK427 := n5_; have GW427 := n6_; have GE427 := n7_; have NB417_427 := n8_; have NB427_417 := n9_; clear n0_ n1_ n2_ n3_ n4_ n5_ n6_ n7_ n8_ n9_; clear hb hbox hg; have hnb21 := NB427_417.out; have hnc21 := NB417_427.out; have hcz22_0 : w20.cell? ⟨gb427, 0, none⟩ = some (.nilFunc) := (Zat BK427.out 0).trans rfl; have hfz22_0 := Zao BK427.out 0) | ((with_reducible refine gate_store (t := 108) (p := 9) rfl ?_); refine store_event (t := 108) (p := 9) (v := ?vo_w23) (w1 := (w20.setCell ⟨gb427, 0, none⟩ (.func (.func 95) #[] #[.pointer (some ⟨gb417, 0, none⟩)]))) ?hg ?ho ?hn ?hr ?_; (case ho => rfl); (case hg => rfl); (case hn => rfl); (case hr => first | (go_simp; done) | (go_simp; rfl)); intro w23 hw; have n0_ : Zab (Kd.R (Kd.int .i64) 2 w23 w.heap.size (fun k_ => some k_ ≠ (.slice Ao8 t414.length co8 : Value).ownBlock) v419 t418) := ⟨(by rw [hw]; exact (by (with_reducible repeat (first | apply Kd.R_alloc | apply Kd.R_drewN | apply Kd.R_drew)); exact Kd.R_mono (Kd.R_far (p := ⟨gb427, 0, none⟩) (Kd.R_types HO_6.out BK427.out (by decide)) (fun _ hk => hk.2) (.func (.func 95) #[] #[.pointer (some ⟨gb417, 0, none⟩)])) (fun _ hk => hk.1)))⟩; have n1_ : Zab (Kd.R (Kd.int .i64) 3 w23 w.heap.size (fun _ => True) u7 x7_1) := ⟨(by rw [hw]; exact (by (with_reducible repeat (first | apply Kd.R_alloc | apply Kd.R_drewN | apply Kd.R_drew)); exact Kd.R_mono (Kd.R_far (p := ⟨gb427, 0, none⟩) (Kd.R_types HO_7.out BK427.out (by decide)) (fun _ hk => hk.2) (.func (.func 95) #[] #[.pointer (some ⟨gb417, 0, none⟩)])) (fun _ hk => trivial)))⟩; have n2_ : Zab (Kd.R (Kd.int .i64) 2 w23 w.heap.size (fun k_ => some k_ ≠ (v419 : Value).ownBlock) (.slice Ao8 t414.length co8) t414) := ⟨(by rw [hw]; exact (by (with_reducible repeat (first | apply Kd.R_alloc | apply Kd.R_drewN | apply Kd.R_drew)); exact Kd.R_mono (Kd.R_far (p := ⟨gb427, 0, none⟩) (Kd.R_types HO_418001.out BK427.out (by decide)) (fun _ hk => hk.2) (.func (.func 95) #[] #[.pointer (some ⟨gb417, 0, none⟩)])) (fun _ hk => hk.1)))⟩; have n3_ : Zab (w23.heap[gb417]? = some (.cells #[.int .i64 t413, .slice Ao8 t414.length co8] 29 (0, 0))) := ⟨(by rw [hw]; exact (by (with_reducible repeat (first | refine Zag ?_ _ | refine Zai ?_ | refine Zah ?_ _)); refine blk_far ?_ NB417_427.out _; (with_reducible repeat (first | refine Zag ?_ _ | refine Zai ?_ | refine Zah ?_ _)); exact BK417.out))⟩; have n4_ : Zab (w23.heap[gb427]? = some (.cells #[.func (.func 95) #[] #[.pointer (some ⟨gb417, 0, none⟩)]] 108 (0, 0))) := ⟨(by rw [hw]; exact (by (with_reducible repeat (first | refine Zag ?_ _ | refine Zai ?_ | refine Zah ?_ _)); refine blk_put (cs := #[.nilFunc]) ?_ 0 _ rfl; (with_reducible repeat (first | refine Zag ?_ _ | refine Zai ?_ | refine Zah ?_ _)); exact BK427.out))⟩; have n5_ : Zab (Below w.heap.size w w23) := ⟨(by rw [hw]; exact (by repeat (first | (with_reducible first | exact HB.out | apply Zad | apply Zaa | apply Zac | refine Zaf ?_ GE417.out | refine Zaf ?_ GE427.out) | exact HB.out)))⟩; clear hw; clear HO_6; clear HO_7; clear HO_418001; clear BK417; clear BK427; clear HB; have HO_6 := n0_; have HO_7 := n1_; have HO_418001 := n2_; have BK417 := n3_; have BK427 := n4_; have HB := n5_; clear n0_ n1_ n2_ n3_ n4_ n5_; obtain ⟨Ao24, co24, eo24⟩ := Kd.R_slice HO_7.out; subst eo24) | ((with_reducible refine Zav (f := 97) rfl ?_); refine goesL_ (some 31) rfl rfl Try.func97 (by kernel_rfl) rfl #[.slice Ao24 x7_1.length co24, .func (.func 98) #[] #[.pointer (some ⟨gb427, 0, none⟩)]] rfl (by (try simp only [List.map_toArray, List.map_cons, List.map_nil]); first | done | rfl | (simp only [List.length_drop, List.length_take]; rfl)) ?_; (with_reducible refine (slices_SortStableFunc_int_int_byRests_2.calls k1 (fun k_ => some k_ = (.slice Ao24 x7_1.length co24 : Value).ownBlock) (.slice Ao24 x7_1.length co24) x7_1 gb427 gb417 t413 Ao8 co8 t414 t428 w _ ?side1 ?side2 ?side3 ?side4 ?side5 ?side6 A15.out).mono ?_); (case side1 => repeat (first | (with_reducible first | exact HB.out | apply Zad | apply Zaa | apply Zac | refine Zaf ?_ GE417.out | refine Zaf ?_ GE427.out) | exact HB.out)); (case side2 => exact Kd.R_tight rfl HO_7.out); (case side3 => exact (by (with_reducible repeat (first | refine Zag ?_ _ | refine Zai ?_ | refine Zah ?_ _)); exact BK427.out)); (case side4 => exact (by (with_reducible repeat (first | refine Zag ?_ _ | refine Zai ?_ | refine Zah ?_ _)); exact BK417.out)); (case side5 => exact Kd.C_kept_own ((Kd.R_apart' HO_418001.out (Kd.R_typed HO_7.out) (by decide))) (fun k_ hk_ hs_ => (hk_.2) hs_)); (case side6 => exact (Kd.R_reads' HO_418001.out).2.1); rintro e w25 ⟨rfl, hy0, hb, hkp⟩; refine ⟨_, rfl, ?_⟩; have n0_ := Zab.mk (Kd.R_mono (ok' := fun k_ => some k_ ≠ (.slice Ao8 t414.length co8 : Value).ownBlock) (Kd.R_keptB ((Kd.R_apart' HO_6.out (Kd.R_typed HO_7.out) (by decide))) hkp (fun k_ hk_ hs_ => (hk_.2) hs_)) (fun k_ hk_ => hk_.1.1)); have n1_ := Zab.mk (Kd.R_reok rfl hy0 (fun k_ e_ => HO_7.out.1 k_ e_)); have n2_ := Zab.mk (Kd.R_mono (ok' := fun k_ => some k_ ≠ (v419 : Value).ownBlock) (Kd.R_keptB ((Kd.R_apart' HO_418001.out (Kd.R_typed HO_7.out) (by decide))) hkp (fun k_ hk_ hs_ => (hk_.2) hs_)) (fun k_ hk_ => hk_.1.1)); have n3_ := Zab.mk (blk_kept (by (with_reducible repeat (first | refine Zag ?_ _ | refine Zai ?_ | refine Zah ?_ _)); exact BK417.out) hkp (fun hs_ => (fun e_ => (Kd.R_ne HO_7.out BK417.out (by decide)) e_) hs_)); have n4_ := Zab.mk (blk_kept (by (with_reducible repeat (first | refine Zag ?_ _ | refine Zai ?_ | refine Zah ?_ _)); exact BK427.out) hkp (fun hs_ => (fun e_ => (Kd.R_ne HO_7.out BK427.out (by decide)) e_) hs_)); have n5_ := Zab.mk (hb); clear HO_6; clear HO_7; clear HO_418001; clear BK417; clear BK427; clear HB; have HO_6 := n0_; have HO_7 := n1_; have HO_418001 := n2_; have BK417 := n3_; have BK427 := n4_; have HB := n5_; clear n0_ n1_ n2_ n3_ n4_ n5_; (try clear hb); (try clear hkp); (try clear hy0); obtain ⟨Ao26, co26, eo26⟩ := Kd.R_slice HO_6.out; subst eo26) | ((with_reducible refine Zav (f := 84) rfl ?_); refine goesL_ (some 35) rfl rfl Try.func84 (by kernel_rfl) rfl #[.slice Ao26 t418.length co26] rfl (by (try simp only [List.map_toArray, List.map_cons, List.map_nil]); first | done | rfl | (simp only [List.length_drop, List.length_take]; rfl)) ?_; (with_reducible refine (impl_sum.calls k1 _ _ t418 t429 _ ?side1 ?side2 A16.out).mono ?_); (case side1 => repeat (first | exact (Kd.R_reads' HO_6.out).2.2 | (with_reducible refine Kd.C_alloc ?_ _) | (with_reducible refine Kd.C_drewN ?_ _) | (with_reducible refine Kd.C_drew ?_))); (case side2 => exact (Kd.R_reads' HO_6.out).2.1); rintro e w' ⟨rfl, ⟨nd, rfl⟩⟩; refine ⟨_, rfl, ?_⟩; have hlx27 := (Kd.R_reads' HO_7.out).1; have q27 : ((ji17) : Int) ≤ ((x7_1.length : Int) : Int) := of_decide_eq_true (by first | (with_reducible assumption) | assumption); obtain ⟨i027, hi027, _, hsz27, _⟩ := info_parts info3; have hroom27 : x7_1.length ≤ co24 := (Kd.R_reads' HO_7.out).2.1; have hroomc27 : t428.length ≤ co24 := (by rw [← hlx27]; exact hroom27); have hC27 : Kd.C (Kd.int .i64) _ Ao24 t428.length t428 := (Kd.R_reads' HO_7.out).2.2; have hcut27 := cut_to (P := Try.prog) 107 3 .i64 Try.underlying107 hi027 Ao24 x7_1.length co24 (ji17) (of_decide_eq_true (by first | (with_reducible assumption) | assumption)) q27 hroom27; have hr27 := Kd.C_take (m := ((ji17) : Int).toNat) hC27 (by omega); have hy27 : y430.length = ((ji17) : Int).toNat := (by rw [Ny430.out, List.length_take]; omega); rw [← Ny430.out] at hr27; rw [← hy27] at hcut27; have HR433 := Zab.mk hr27; have HC433 := Zab.mk (show y430.length ≤ co24 from by omega); clear hr27 hC27 hroom27 hi027 hsz27 hroomc27; have KY27 := Zab.mk hy27; clear hy27; have KE27 := Zab.mk hlx27; have KL27 := Zab.mk (show ((ji17) : Int).toNat ≤ t428.length from by omega); clear hlx27; replace q27 := eq_true q27))
      try simp only [Act.put, List.setIfInBounds_toArray, List.set_cons_zero, List.set_cons_succ]
      go_loopg [39] k1 (fun kq v39 w' => ∃ (x6_2 : List Int) (x39_2 : Int), v39 = .int .i64 x39_2 ∧ Zab (Zaw.l1 kq x6_2 y430 (y430.length : Int) x39_2 = some r) ∧ Zab (kq ≤ k1) ∧ Zab (Kd.R (Kd.int .i64) 2 w' w.heap.size (fun k_ => some k_ ≠ ((.slice Ao8 t414.length co8) : Value).ownBlock) (.slice Ao26 t418.length co26) x6_2) ∧ Zab (Kd.R (Kd.int .i64) 2 w' w.heap.size (fun k_ => some k_ ≠ ((.slice Ao26 t418.length co26) : Value).ownBlock) (.slice Ao8 t414.length co8) t414) ∧ Zab (w'.heap[gb417]? = some (.cells #[.int .i64 t413, (.slice Ao8 t414.length co8)] 29 (0, 0))) ∧ Zab (w'.heap[gb427]? = some (.cells #[(.func (.func 95) #[] #[.pointer (some ⟨gb417, 0, none⟩)])] 108 (0, 0))) ∧ Zab (Kd.R (Kd.int .i64) 3 w' w.heap.size (fun _ => True) (.slice Ao24 x7_1.length co24) t428) ∧ Zab (Below w.heap.size w w'))
      case atStart => exact ⟨(t418), (0), (by first | rfl | (simp; done) | (simp [*]; done)), H', ⟨Nat.le_refl _⟩, ⟨by (with_reducible repeat (first | apply Kd.R_alloc | apply Kd.R_drewN | apply Kd.R_drew)); exact HO_6.out⟩, ⟨by (with_reducible repeat (first | apply Kd.R_alloc | apply Kd.R_drewN | apply Kd.R_drew)); exact HO_418001.out⟩, ⟨by (with_reducible repeat (first | refine Zag ?_ _ | refine Zai ?_ | refine Zah ?_ _)); exact BK417.out⟩, ⟨by (with_reducible repeat (first | refine Zag ?_ _ | refine Zai ?_ | refine Zah ?_ _)); exact BK427.out⟩, ⟨HO_7.out⟩, ⟨by repeat (first | (with_reducible first | exact HB.out | apply Zad | apply Zaa | apply Zac | refine Zaf ?_ GE417.out | refine Zaf ?_ GE427.out) | exact HB.out)⟩⟩
      case round =>
       clear H'
       try clear c1
       try clear c2
       try clear p2
       try clear q2
       try clear p6
       try clear c7
       try clear c8
       try clear c9
       try clear c12
       try clear c12b0
       try clear c13
       try clear c18
       try clear c18b0
       try clear c18b1
       try clear c19
       try clear c19b0
       try clear c19b1
       try clear c21
       try clear c27
       try clear q27
       try clear hcz22_0
       try clear hcz7_0
       try clear hcz7_1
       try clear hfz22_0
       try clear hfz7_0
       try clear hfz7_1
       try clear p2
       try clear q27
       obtain ⟨x6_2, x39_2, rfl, HA, HK2, HO_6, HO_418001, BK417, BK427, HO_7, HB⟩ := hrel
       have hl6_2 := (Kd.R_reads' HO_6.out).1
       rw [hl6_2] at HO_6
       (try simp only [hl6_2])
       (try simp only [hl6_2] at BK417)
       (try simp only [hl6_2] at BK427)
       (try simp only [hl6_2] at HO_418001)
       cases gk with
       | zero => exact absurd HA.out (by simp [Zaw.l1])
       | succ k2 =>
        have H := HA.out
        clear HA
        simp only [Zaw.l1] at H
        by_cases c28 : x39_2 < (y430.length : Int)
        ·rw [if_pos c28] at H
         have c28b0 : decide (x39_2 < (y430.length : Int)) = true := decide_eq_true c28
         clear c28
         by_cases c29 : 0 ≤ x39_2
         ·rw [if_pos c29] at H
          have c29b0 : decide (0 ≤ x39_2) = true := decide_eq_true c29
          clear c29
          by_cases c30 : x39_2 < (y430.length : Int)
          ·rw [if_pos c30] at H
           have c30b0 : decide (x39_2 < (y430.length : Int)) = true := decide_eq_true c30
           clear c30
           by_cases c31 : 0 ≤ (rd y430 x39_2)
           ·rw [if_pos c31] at H
            have c31b0 : decide (0 ≤ (rd y430 x39_2)) = true := decide_eq_true c31
            clear c31
            by_cases c32 : (rd y430 x39_2) < (x6_2.length : Int)
            ·rw [if_pos c32] at H
             have c32b0 : decide ((rd y430 x39_2) < (x6_2.length : Int)) = true := decide_eq_true c32
             clear c32
             obtain ⟨y436, hy436⟩ : ∃ y_ : List Int, y_ = (x6_2.set ((rd y430 x39_2) : Int).toNat (wrap64 ((rd x6_2 (rd y430 x39_2)) + 1))) := ⟨_, rfl⟩
             replace H : (Zaw.l1 k2 y436 y430 (y430.length : Int) (wrap64 (x39_2 + 1))) = some r := by first | (rw [hy436]; with_reducible exact H) | (have H2_ := (Option.bind_some _ _).symm.trans H; rw [hy436]; with_reducible exact H2_) | (have H2_ := (Option.bind_some _ _).symm.trans H; with_reducible exact H2_) | with_reducible exact H | (rw [hy436]; exact H) | exact H
             have Ny436 := Zab.mk hy436
             clear hy436
             have H' := Zab.mk H
             clear H
             have p434 : 0 ≤ (x39_2 : Int) := of_decide_eq_true (by first | (with_reducible assumption) | assumption)
             have q434 : x39_2 < (y430.length : Int) := of_decide_eq_true (by first | (with_reducible assumption) | assumption)
             have hC27 := (Kd.R_reads' HO_7.out).2.2
             have hr27 := Kd.C_take (m := ((ji17) : Int).toNat) hC27 (by have := KL27.out; omega)
             rw [← Ny430.out] at hr27
             obtain ⟨ad434, e434, hx434_0⟩ := Kd.at_int hr27 x39_2 p434 q434
             cases e434
             replace p434 := eq_true p434
             replace q434 := eq_true q434
             have p435 : 0 ≤ ((rd y430 x39_2) : Int) := of_decide_eq_true (by first | (with_reducible assumption) | assumption)
             have q435 : (rd y430 x39_2) < (x6_2.length : Int) := of_decide_eq_true (by first | (with_reducible assumption) | assumption)
             obtain ⟨ad435, e435, hx435_0⟩ := Kd.at_int (Kd.R_reads' HO_6.out).2.2 (rd y430 x39_2) p435 q435
             cases e435
             replace p435 := eq_true p435
             replace q435 := eq_true q435
             have p33 : 0 ≤ ((rd y430 x39_2) : Int) := of_decide_eq_true (by first | (with_reducible assumption) | assumption)
             have q33 : ((rd y430 x39_2) : Int) < ((x6_2.length : Int) : Int) := of_decide_eq_true (by first | (with_reducible assumption) | assumption)
             obtain ⟨go33, co33, eo33, gb33, gl33, cl33, HG33⟩ := Kd.R_form HO_6.out (by omega)
             (first | cases eo33 | (injection eo33 with ea_ en_ ec_; (first | subst ea_ | (injection ea_ with ea_; subst ea_)); subst ec_; clear en_))
             have GB33 := Zab.mk gb33
             have GG33 := Zab.mk HG33
             clear gb33 gl33 HG33
             (first | simp only [add_plain] at hx435_0 | skip)
             obtain ⟨hx33_0, hf33_0⟩ := Kd.R_celln 0 HO_6.out ((rd y430 x39_2) : Int) p33 q33
             replace p33 := eq_true p33
             replace q33 := eq_true q33
             have HP34 := Kd.R_putg HO_6.out ((rd y430 x39_2) : Int) (wrap64 ((rd x6_2 (rd y430 x39_2)) + 1))
             go_wp2_with (first | ((with_reducible refine gate_store (t := 2) (p := 48) rfl ?_); refine store_event (t := 2) (p := 48) (v := ?vo_w35) (w1 := (wr.setCell ⟨go33, ((rd y430 x39_2) : Int).toNat, none⟩ (.int .i64 (wrap64 ((rd x6_2 (rd y430 x39_2)) + 1))))) ?hg ?ho ?hn ?hr ?_; (case ho => rfl); (case hg => rfl); (case hn => rfl); (case hr => first | (go_simp; done) | (go_simp; rfl)); intro w35 hw; have hg : wr.grownBy w35 (some go33) := (by rw [hw]; exact HP34.2); have hp_ : Kd.R (Kd.int .i64) 2 w35 w.heap.size (fun k_ => some k_ ≠ (.slice Ao8 t414.length co8 : Value).ownBlock) (.slice (some ⟨go33, 0, none⟩) x6_2.length co26) y436 := (by rw [hw, Ny436.out]; exact HP34.1); clear HP34; have n0_ := Zab.mk (hp_); have n1_ := Zab.mk (Kd.R_after (v := (.slice (some ⟨go33, 0, none⟩) x6_2.length co26)) (v1 := (.slice (some ⟨go33, 0, none⟩) x6_2.length co26)) (ok := (fun _ => True)) (by (with_reducible repeat (first | apply Kd.R_alloc | apply Kd.R_drewN | apply Kd.R_drew)); exact Kd.R_mono HO_418001.out (fun _ hk => ⟨trivial, hk⟩)) hg (.inl rfl)); have n2_ := Zab.mk (blk_grown (g := gb417) (o := .cells #[.int .i64 t413, .slice Ao8 t414.length co8] 29 (0, 0)) (by (with_reducible repeat (first | refine Zag ?_ _ | refine Zai ?_ | refine Zah ?_ _)); exact BK417.out) hg (Kd.R_ne HO_6.out BK417.out (by decide))); have n3_ := Zab.mk (blk_grown (g := gb427) (o := .cells #[.func (.func 95) #[] #[.pointer (some ⟨gb417, 0, none⟩)]] 108 (0, 0)) (by (with_reducible repeat (first | refine Zag ?_ _ | refine Zai ?_ | refine Zah ?_ _)); exact BK427.out) hg (Kd.R_ne HO_6.out BK427.out (by decide))); have n4_ := Zab.mk ((by rw [hw]; exact Zaf (HB.out) GB33.out : Below w.heap.size w w35)); have n5_ := Zab.mk (Kd.R_over HO_7.out HO_6.out (by decide) hg); clear HO_7; clear HO_6; clear HO_418001; clear BK417; clear BK427; clear HB; have HO_6 := n0_; have HO_418001 := n1_; have BK417 := n2_; have BK427 := n3_; have HB := n4_; have HO_7 := n5_; clear n5_; clear n0_ n1_ n2_ n3_ n4_; clear hg hw hp_))
             (try simp only [← hl6_2])
             go_roundg k2
             case measure => have := HK1.out; have := HK2.out; omega
             case rel => exact ⟨(y436), (wrap64 (x39_2 + 1)), (by first | rfl | (simp; done) | (simp [*]; done)), H', ⟨by have := HK1.out; have := HK2.out; omega⟩, ⟨by (try simp only [hl6_2]); (with_reducible repeat (first | apply Kd.R_alloc | apply Kd.R_drewN | apply Kd.R_drew)); exact HO_6.out⟩, ⟨by (try simp only [hl6_2]); (with_reducible repeat (first | apply Kd.R_alloc | apply Kd.R_drewN | apply Kd.R_drew)); exact Kd.R_mono HO_418001.out (fun _ hk => hk.2)⟩, ⟨by (try simp only [hl6_2]); (with_reducible repeat (first | refine Zag ?_ _ | refine Zai ?_ | refine Zah ?_ _)); exact BK417.out⟩, ⟨by (try simp only [hl6_2]); (with_reducible repeat (first | refine Zag ?_ _ | refine Zai ?_ | refine Zah ?_ _)); exact BK427.out⟩, ⟨HO_7.out⟩, ⟨by repeat (first | (with_reducible first | exact HB.out | apply Zad | apply Zaa | apply Zac | refine Zaf ?_ GE417.out | refine Zaf ?_ GE427.out) | exact HB.out)⟩⟩
            ·rw [if_neg c32] at H
             exact absurd H (by simp)
           ·rw [if_neg c31] at H
            exact absurd H (by simp)
          ·rw [if_neg c30] at H
           exact absurd H (by simp)
         ·rw [if_neg c29] at H
          exact absurd H (by simp)
        ·rw [if_neg c28] at H
         have c28b0 : decide (x39_2 < (y430.length : Int)) = false := decide_eq_false c28
         clear c28
         obtain rfl := Option.some.inj H
         go_wp2
         go_ret
         exact ⟨_, by first | rfl | (simp [Zal, Zam] <;> rfl) | (simp only [← hji17]; first | rfl | (simp [Zal, Zam] <;> rfl)) | (simp [*, Zal, Zam] <;> rfl), by (with_reducible repeat (first | apply Kd.R_alloc | apply Kd.R_drewN | apply Kd.R_drew)); exact Kd.R_mono HO_6.out (fun _ hk => trivial), by repeat (first | (with_reducible first | exact HB.out | apply Zad | apply Zaa | apply Zac | refine Zaf ?_ GE417.out | refine Zaf ?_ GE427.out) | exact HB.out)⟩
     ·rw [if_neg c19] at H
      exact absurd H (by simp)
    ·rw [if_neg c18] at H
     exact absurd H (by simp)
end Go.Proofs.Ytebofadnefkacaa.P
