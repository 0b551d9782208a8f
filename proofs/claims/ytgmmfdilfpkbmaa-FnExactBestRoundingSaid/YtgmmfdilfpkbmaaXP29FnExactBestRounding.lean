import Derived.Test.YtgmmfdilfpkbmaaXP0FnExactBestRounding
import Derived.Test.YtgmmfdilfpkbmaaXP20FnExactBestRounding
import Derived.Test.YtgmmfdilfpkbmaaXP26FnExactBestRounding
import Derived.Test.YtgmmfdilfpkbmaaXP27FnExactBestRounding
import Derived.Test.YtgmmfdilfpkbmaaXP28FnExactBestRounding
namespace Go.Proofs.Ytgmmfdilfpkbmaa.P
open Go.RowKit Go.Proofs.YtgmmfdilfpkbmaaW.PrintWords Go.Proofs.YtgmmfdilfpkbmaaW.PrintLast Go.Proofs.YtgmmfdilfpkbmaaW.PrintMore
attribute [local go_sem] max2_int min2_int max_two min_two max_three min_three max_four min_four
set_option linter.unusedVariables false
set_option linter.unusedSimpArgs false
def spec_l04Put.l0 : Nat → List Int → Int → List Int → Int → Option (List Int)
 | 0, _, _, _, _ => none
 | k + 1, x1, x2, x7, x8 => if x8 ≥ 0 then (if 0 ≤ x8 then (if x8 < (x1.length : Int) then (if (rd x1 x8) = 1 then (if x8 < (x7.length : Int) then (spec_l04Put.l0 k x1 x2 (x7.set (x8 : Int).toNat (wrap64 ((rd x7 x8) + 1))) (wrap64 (x8 - 1))) else (none)) else (if (rd x1 x8) = 0 then (if x2 > 0 then (if x8 < (x7.length : Int) then (spec_l04Put.l0 k x1 (wrap64 (x2 - 1)) (x7.set (x8 : Int).toNat (wrap64 ((rd x7 x8) + 1))) (wrap64 (x8 - 1))) else (none)) else (spec_l04Put.l0 k x1 x2 x7 (wrap64 (x8 - 1)))) else (spec_l04Put.l0 k x1 x2 x7 (wrap64 (x8 - 1))))) else (none)) else (none)) else (some x7)
def spec_l04Put.f (k : Nat) (l0 : List Int) (l1 : List Int) (a2 : Int) : Option (List Int) := (spec_l00Own.f l0).bind fun t886 => (spec_l04Put.l0 k l1 a2 t886 (wrap64 ((t886.length : Int) - 1)))
set_option maxHeartbeats 8000000 in
set_option maxRecDepth 100000 in
theorem spec_l04Put.calls (k : Nat) (A0 : Option Addr) (c0 : Nat) (l0 : List Int) (A1 : Option Addr) (c1 : Nat) (l1 : List Int) (a2 : Int) (r : List Int) (w : World) (hr0 : Kd.C (Kd.int .i64) w A0 l0.length l0) (hc0 : l0.length ≤ c0) (hr1 : Kd.C (Kd.int .i64) w A1 l1.length l1) (hc1 : l1.length ≤ c1) (h : spec_l04Put.f k l0 l1 a2 = some r) :
  Calls Try.prog 95 #[.slice A0 l0.length c0, .slice A1 l1.length c1, .int .i64 a2] w fun e w' => ∃ v0_ : Value, e = .returned (v0_) ∧ Kd.R (Kd.int .i64) 2 w' w.heap.size (fun _ => True) v0_ r ∧ Below w.heap.size w w' := by
 have HR0 := Zac.mk hr0
 have HC0 := Zac.mk hc0
 clear hr0 hc0
 have HR1 := Zac.mk hr1
 have HC1 := Zac.mk hc1
 clear hr1 hc1
 have HB := Zac.mk (Below.refl w.heap.size w)
 have H : ((spec_l00Own.f l0).bind fun t886 => (spec_l04Put.l0 k l1 a2 t886 (wrap64 ((t886.length : Int) - 1)))) = some r := h
 clear h
 replace H := Option.bind_eq_some_iff.mp H
 obtain ⟨t886, A40, H⟩ := H
 replace H : (spec_l04Put.l0 k l1 a2 t886 (wrap64 ((t886.length : Int) - 1))) = some r := H
 have A4 := Zac.mk A40
 clear A40
 have H' := Zac.mk H
 clear H
 go_enter Try.func95, Try.ntmps95
 go_wp2_with (first | ((with_reducible refine Zaw (f := 116) rfl ?_); refine goesL_ (some 10) rfl rfl Try.func116 (by kernel_rfl) rfl #[.slice A0 l0.length c0] rfl (by (try simp only [List.map_toArray, List.map_cons, List.map_nil]); first | done | rfl | (simp only [List.length_drop, List.length_take]; rfl)) ?_; (with_reducible refine (spec_l00Own.calls _ _ l0 t886 _ ?side1 ?side2 A4.out).mono ?_); (case side1 => repeat (first | exact HR0.out | (with_reducible refine Kd.C_alloc ?_ _) | (with_reducible refine Kd.C_drewN ?_ _) | (with_reducible refine Kd.C_drew ?_))); (case side2 => exact HC0.out); rintro e w5 ⟨v887, rfl, ho0, hb⟩; refine ⟨_, rfl, ?_⟩; have n0_ := Zac.mk (Kd.R_lower ho0 (Zap (by repeat (first | (with_reducible first | exact HB.out | apply Zae | apply Zab | apply Zad) | exact HB.out)))); have n1_ := Zac.mk (Zas (by repeat (first | (with_reducible first | exact HB.out | apply Zae | apply Zab | apply Zad) | exact HB.out)) hb); clear HB; have HO888 := n0_; have HB := n1_; clear n0_ n1_; (try clear hb); (try clear hb2); (try clear hk); (try clear hi); (try clear ho0); obtain ⟨Ao6, co6, eo6⟩ := Kd.R_slice HO888.out; subst eo6))
 try simp only [Act.put, List.setIfInBounds_toArray, List.set_cons_zero, List.set_cons_succ]
 go_loopg [2, 8] k (fun kq v2 v8 w' => ∃ (x2_1 : Int) (x7_1 : List Int) (x8_1 : Int), v2 = .int .i64 x2_1 ∧ v8 = .int .i64 x8_1 ∧ Zac (spec_l04Put.l0 kq l1 x2_1 x7_1 x8_1 = some r) ∧ Zac (kq ≤ k) ∧ Zac (Kd.R (Kd.int .i64) 2 w' w.heap.size (fun _ => True) (.slice Ao6 t886.length co6) x7_1) ∧ Zac (Below w.heap.size w w'))
 case atStart => exact ⟨(a2), (t886), (wrap64 ((t886.length : Int) - 1)), (by first | rfl | (simp; done) | (simp [*]; done)), (by first | rfl | (simp; done) | (simp [*]; done)), H', ⟨Nat.le_refl _⟩, ⟨by (with_reducible repeat (first | apply Kd.R_alloc | apply Kd.R_drewN | apply Kd.R_drew)); exact HO888.out⟩, ⟨by repeat (first | (with_reducible first | exact HB.out | apply Zae | apply Zab | apply Zad) | exact HB.out)⟩⟩
 case round =>
  clear H'
  try clear c1
  try clear p2
  try clear p6
  obtain ⟨x2_1, x7_1, x8_1, rfl, rfl, HA, HK1, HO_7, HB⟩ := hrel
  have hl7_1 := (Kd.R_reads' HO_7.out).1
  rw [hl7_1] at HO_7
  (try simp only [hl7_1])
  cases gk with
  | zero => exact absurd HA.out (by simp [spec_l04Put.l0])
  | succ k1 =>
   have H := HA.out
   clear HA
   simp only [spec_l04Put.l0] at H
   by_cases c7 : x8_1 ≥ 0
   ·rw [if_pos c7] at H
    have c7b0 : decide (0 ≤ x8_1) = true := decide_eq_true c7
    clear c7
    by_cases c8 : 0 ≤ x8_1
    ·rw [if_pos c8] at H
     have c8b0 : decide (0 ≤ x8_1) = true := decide_eq_true c8
     clear c8
     by_cases c9 : x8_1 < (l1.length : Int)
     ·rw [if_pos c9] at H
      have c9b0 : decide (x8_1 < (l1.length : Int)) = true := decide_eq_true c9
      clear c9
      by_cases c10 : (rd l1 x8_1) = 1
      ·rw [if_pos c10] at H
       have c10b0 : ((rd l1 x8_1) == 1) = true := beq_iff_eq.mpr c10
       have c10b1 : ((rd l1 x8_1) != 1) = false := bne_eq_false_iff_eq.mpr c10
       clear c10
       by_cases c11 : x8_1 < (x7_1.length : Int)
       ·rw [if_pos c11] at H
        have c11b0 : decide (x8_1 < (x7_1.length : Int)) = true := decide_eq_true c11
        clear c11
        obtain ⟨y891, hy891⟩ : ∃ y_ : List Int, y_ = (x7_1.set (x8_1 : Int).toNat (wrap64 ((rd x7_1 x8_1) + 1))) := ⟨_, rfl⟩
        replace H : (spec_l04Put.l0 k1 l1 x2_1 y891 (wrap64 (x8_1 - 1))) = some r := by first | (rw [hy891]; with_reducible exact H) | (have H2_ := (Option.bind_some _ _).symm.trans H; rw [hy891]; with_reducible exact H2_) | (have H2_ := (Option.bind_some _ _).symm.trans H; with_reducible exact H2_) | with_reducible exact H | (rw [hy891]; exact H) | exact H
        have Ny891 := Zac.mk hy891
        clear hy891
        have H' := Zac.mk H
        clear H
        have p889 : 0 ≤ (x8_1 : Int) := of_decide_eq_true (by first | (with_reducible assumption) | assumption)
        have q889 : x8_1 < (l1.length : Int) := of_decide_eq_true (by first | (with_reducible assumption) | assumption)
        obtain ⟨ad889, e889, hx889_0⟩ := Kd.at_int HR1.out x8_1 p889 q889
        cases e889
        replace hx889_0 := (HB.out.cell (World.block_lt_of_cell? w _ hx889_0)).trans hx889_0
        replace p889 := eq_true p889
        replace q889 := eq_true q889
        have p890 : 0 ≤ (x8_1 : Int) := of_decide_eq_true (by first | (with_reducible assumption) | assumption)
        have q890 : x8_1 < (x7_1.length : Int) := of_decide_eq_true (by first | (with_reducible assumption) | assumption)
        obtain ⟨ad890, e890, hx890_0⟩ := Kd.at_int (Kd.R_reads' HO_7.out).2.2 x8_1 p890 q890
        cases e890
        replace p890 := eq_true p890
        replace q890 := eq_true q890
        have p12 : 0 ≤ (x8_1 : Int) := of_decide_eq_true (by first | (with_reducible assumption) | assumption)
        have q12 : (x8_1 : Int) < ((x7_1.length : Int) : Int) := of_decide_eq_true (by first | (with_reducible assumption) | assumption)
        obtain ⟨go12, co12, eo12, gb12, gl12, cl12, HG12⟩ := Kd.R_form HO_7.out (by omega)
        (first | cases eo12 | (injection eo12 with ea_ en_ ec_; (first | subst ea_ | (injection ea_ with ea_; subst ea_)); subst ec_; clear en_))
        have GB12 := Zac.mk gb12
        have GG12 := Zac.mk HG12
        clear gb12 gl12 HG12
        (first | simp only [add_plain] at hx890_0 | skip)
        obtain ⟨hx12_0, hf12_0⟩ := Kd.R_celln 0 HO_7.out (x8_1 : Int) p12 q12
        replace p12 := eq_true p12
        replace q12 := eq_true q12
        have HP13 := Kd.R_putg HO_7.out (x8_1 : Int) (wrap64 ((rd x7_1 x8_1) + 1))
        go_wp2_with (first | ((with_reducible refine gate_store (t := 2) (p := 28) rfl ?_); refine store_event (t := 2) (p := 28) (v := ?vo_w14) (w1 := (wr.setCell ⟨go12, (x8_1 : Int).toNat, none⟩ (.int .i64 (wrap64 ((rd x7_1 x8_1) + 1))))) ?hg ?ho ?hn ?hr ?_; (case ho => rfl); (case hg => rfl); (case hn => rfl); (case hr => first | (go_simp; done) | (go_simp; rfl)); intro w14 hw; have hg : wr.grownBy w14 (some go12) := (by rw [hw]; exact HP13.2); have hp_ : Kd.R (Kd.int .i64) 2 w14 w.heap.size (fun _ => True) (.slice (some ⟨go12, 0, none⟩) x7_1.length co6) y891 := (by rw [hw, Ny891.out]; exact HP13.1); clear HP13; have n0_ := Zac.mk (hp_); have n1_ := Zac.mk ((by rw [hw]; exact Zaf (HB.out) GB12.out : Below w.heap.size w w14)); clear HO_7; clear HB; have HO_7 := n0_; have HB := n1_; clear n0_ n1_; clear hg hw hp_))
        (try simp only [← hl7_1])
        go_roundg k1
        case measure => have := HK1.out; omega
        case rel => exact ⟨(x2_1), (y891), (wrap64 (x8_1 - 1)), (by first | rfl | (simp; done) | (simp [*]; done)), (by first | rfl | (simp; done) | (simp [*]; done)), H', ⟨by have := HK1.out; omega⟩, ⟨by (try simp only [hl7_1]); (with_reducible repeat (first | apply Kd.R_alloc | apply Kd.R_drewN | apply Kd.R_drew)); exact HO_7.out⟩, ⟨by repeat (first | (with_reducible first | exact HB.out | apply Zae | apply Zab | apply Zad) | exact HB.out)⟩⟩
       ·rw [if_neg c11] at H
        exact absurd H (by simp)
      ·rw [if_neg c10] at H
       have c10b0 : ((rd l1 x8_1) == 1) = false := beq_eq_false_iff_ne.mpr c10
       have c10b1 : ((rd l1 x8_1) != 1) = true := bne_iff_ne.mpr c10
       by_cases c15 : (rd l1 x8_1) = 0
       ·rw [if_pos c15] at H
        have c15b0 : ((rd l1 x8_1) == 0) = true := beq_iff_eq.mpr c15
        have c15b1 : ((rd l1 x8_1) != 0) = false := bne_eq_false_iff_eq.mpr c15
        clear c15
        by_cases c16 : x2_1 > 0
        ·rw [if_pos c16] at H
         have c16b0 : decide (0 < x2_1) = true := decide_eq_true c16
         clear c16
         by_cases c17 : x8_1 < (x7_1.length : Int)
         ·rw [if_pos c17] at H
          have c17b0 : decide (x8_1 < (x7_1.length : Int)) = true := decide_eq_true c17
          clear c17
          obtain ⟨y894, hy894⟩ : ∃ y_ : List Int, y_ = (x7_1.set (x8_1 : Int).toNat (wrap64 ((rd x7_1 x8_1) + 1))) := ⟨_, rfl⟩
          replace H : (spec_l04Put.l0 k1 l1 (wrap64 (x2_1 - 1)) y894 (wrap64 (x8_1 - 1))) = some r := by first | (rw [hy894]; with_reducible exact H) | (have H2_ := (Option.bind_some _ _).symm.trans H; rw [hy894]; with_reducible exact H2_) | (have H2_ := (Option.bind_some _ _).symm.trans H; with_reducible exact H2_) | with_reducible exact H | (rw [hy894]; exact H) | exact H
          have Ny894 := Zac.mk hy894
          clear hy894
          have H' := Zac.mk H
          clear H
          have p889 : 0 ≤ (x8_1 : Int) := of_decide_eq_true (by first | (with_reducible assumption) | assumption)
          have q889 : x8_1 < (l1.length : Int) := of_decide_eq_true (by first | (with_reducible assumption) | assumption)
          obtain ⟨ad889, e889, hx889_0⟩ := Kd.at_int HR1.out x8_1 p889 q889
          cases e889
          replace hx889_0 := (HB.out.cell (World.block_lt_of_cell? w _ hx889_0)).trans hx889_0
          replace p889 := eq_true p889
          replace q889 := eq_true q889
          have p892 : 0 ≤ (x8_1 : Int) := of_decide_eq_true (by first | (with_reducible assumption) | assumption)
          have q892 : x8_1 < (l1.length : Int) := of_decide_eq_true (by first | (with_reducible assumption) | assumption)
          obtain ⟨ad892, e892, hx892_0⟩ := Kd.at_int HR1.out x8_1 p892 q892
          obtain rfl : ad889 = ad892 := (by injection e892)
          replace hx892_0 := (HB.out.cell (World.block_lt_of_cell? w _ hx892_0)).trans hx892_0
          replace p892 := eq_true p892
          replace q892 := eq_true q892
          have p893 : 0 ≤ (x8_1 : Int) := of_decide_eq_true (by first | (with_reducible assumption) | assumption)
          have q893 : x8_1 < (x7_1.length : Int) := of_decide_eq_true (by first | (with_reducible assumption) | assumption)
          obtain ⟨ad893, e893, hx893_0⟩ := Kd.at_int (Kd.R_reads' HO_7.out).2.2 x8_1 p893 q893
          cases e893
          replace p893 := eq_true p893
          replace q893 := eq_true q893
          have p18 : 0 ≤ (x8_1 : Int) := of_decide_eq_true (by first | (with_reducible assumption) | assumption)
          have q18 : (x8_1 : Int) < ((x7_1.length : Int) : Int) := of_decide_eq_true (by first | (with_reducible assumption) | assumption)
          obtain ⟨go18, co18, eo18, gb18, gl18, cl18, HG18⟩ := Kd.R_form HO_7.out (by omega)
          (first | cases eo18 | (injection eo18 with ea_ en_ ec_; (first | subst ea_ | (injection ea_ with ea_; subst ea_)); subst ec_; clear en_))
          have GB18 := Zac.mk gb18
          have GG18 := Zac.mk HG18
          clear gb18 gl18 HG18
          (first | simp only [add_plain] at hx893_0 | skip)
          obtain ⟨hx18_0, hf18_0⟩ := Kd.R_celln 0 HO_7.out (x8_1 : Int) p18 q18
          replace p18 := eq_true p18
          replace q18 := eq_true q18
          have HP19 := Kd.R_putg HO_7.out (x8_1 : Int) (wrap64 ((rd x7_1 x8_1) + 1))
          go_wp2_with (first | ((with_reducible refine gate_store (t := 2) (p := 43) rfl ?_); refine store_event (t := 2) (p := 43) (v := ?vo_w20) (w1 := (wr.setCell ⟨go18, (x8_1 : Int).toNat, none⟩ (.int .i64 (wrap64 ((rd x7_1 x8_1) + 1))))) ?hg ?ho ?hn ?hr ?_; (case ho => rfl); (case hg => rfl); (case hn => rfl); (case hr => first | (go_simp; done) | (go_simp; rfl)); intro w20 hw; have hg : wr.grownBy w20 (some go18) := (by rw [hw]; exact HP19.2); have hp_ : Kd.R (Kd.int .i64) 2 w20 w.heap.size (fun _ => True) (.slice (some ⟨go18, 0, none⟩) x7_1.length co6) y894 := (by rw [hw, Ny894.out]; exact HP19.1); clear HP19; have n0_ := Zac.mk (hp_); have n1_ := Zac.mk ((by rw [hw]; exact Zaf (HB.out) GB18.out : Below w.heap.size w w20)); clear HO_7; clear HB; have HO_7 := n0_; have HB := n1_; clear n0_ n1_; clear hg hw hp_))
          (try simp only [← hl7_1])
          go_roundg k1
          case measure => have := HK1.out; omega
          case rel => exact ⟨(wrap64 (x2_1 - 1)), (y894), (wrap64 (x8_1 - 1)), (by first | rfl | (simp; done) | (simp [*]; done)), (by first | rfl | (simp; done) | (simp [*]; done)), H', ⟨by have := HK1.out; omega⟩, ⟨by (try simp only [hl7_1]); (with_reducible repeat (first | apply Kd.R_alloc | apply Kd.R_drewN | apply Kd.R_drew)); exact HO_7.out⟩, ⟨by repeat (first | (with_reducible first | exact HB.out | apply Zae | apply Zab | apply Zad) | exact HB.out)⟩⟩
         ·rw [if_neg c17] at H
          exact absurd H (by simp)
        ·rw [if_neg c16] at H
         have c16b0 : decide (0 < x2_1) = false := decide_eq_false c16
         clear c16
         have H' := Zac.mk H
         clear H
         have p889 : 0 ≤ (x8_1 : Int) := of_decide_eq_true (by first | (with_reducible assumption) | assumption)
         have q889 : x8_1 < (l1.length : Int) := of_decide_eq_true (by first | (with_reducible assumption) | assumption)
         obtain ⟨ad889, e889, hx889_0⟩ := Kd.at_int HR1.out x8_1 p889 q889
         cases e889
         replace hx889_0 := (HB.out.cell (World.block_lt_of_cell? w _ hx889_0)).trans hx889_0
         replace p889 := eq_true p889
         replace q889 := eq_true q889
         have p892 : 0 ≤ (x8_1 : Int) := of_decide_eq_true (by first | (with_reducible assumption) | assumption)
         have q892 : x8_1 < (l1.length : Int) := of_decide_eq_true (by first | (with_reducible assumption) | assumption)
         obtain ⟨ad892, e892, hx892_0⟩ := Kd.at_int HR1.out x8_1 p892 q892
         obtain rfl : ad889 = ad892 := (by injection e892)
         replace hx892_0 := (HB.out.cell (World.block_lt_of_cell? w _ hx892_0)).trans hx892_0
         replace p892 := eq_true p892
         replace q892 := eq_true q892
         go_wp2
         (try simp only [← hl7_1])
         go_roundg k1
         case measure => have := HK1.out; omega
         case rel => exact ⟨(x2_1), (x7_1), (wrap64 (x8_1 - 1)), (by first | rfl | (simp; done) | (simp [*]; done)), (by first | rfl | (simp; done) | (simp [*]; done)), H', ⟨by have := HK1.out; omega⟩, ⟨by (try simp only [hl7_1]); (with_reducible repeat (first | apply Kd.R_alloc | apply Kd.R_drewN | apply Kd.R_drew)); exact HO_7.out⟩, ⟨by repeat (first | (with_reducible first | exact HB.out | apply Zae | apply Zab | apply Zad) | exact HB.out)⟩⟩
       ·rw [if_neg c15] at H
        have c15b0 : ((rd l1 x8_1) == 0) = false := beq_eq_false_iff_ne.mpr c15
        have c15b1 : ((rd l1 x8_1) != 0) = true := bne_iff_ne.mpr c15
        have H' := Zac.mk H
        clear H
        have p889 : 0 ≤ (x8_1 : Int) := of_decide_eq_true (by first | (with_reducible assumption) | assumption)
        have q889 : x8_1 < (l1.length : Int) := of_decide_eq_true (by first | (with_reducible assumption) | assumption)
        obtain ⟨ad889, e889, hx889_0⟩ := Kd.at_int HR1.out x8_1 p889 q889
        cases e889
        replace hx889_0 := (HB.out.cell (World.block_lt_of_cell? w _ hx889_0)).trans hx889_0
        replace p889 := eq_true p889
        replace q889 := eq_true q889
        have p892 : 0 ≤ (x8_1 : Int) := of_decide_eq_true (by first | (with_reducible assumption) | assumption)
        have q892 : x8_1 < (l1.length : Int) := of_decide_eq_true (by first | (with_reducible assumption) | assumption)
        obtain ⟨ad892, e892, hx892_0⟩ := Kd.at_int HR1.out x8_1 p892 q892
        obtain rfl : ad889 = ad892 := (by injection e892)
        replace hx892_0 := (HB.out.cell (World.block_lt_of_cell? w _ hx892_0)).trans hx892_0
        replace p892 := eq_true p892
        replace q892 := eq_true q892
        go_wp2
        (try simp only [← hl7_1])
        go_roundg k1
        case measure => have := HK1.out; omega
        case rel => exact ⟨(x2_1), (x7_1), (wrap64 (x8_1 - 1)), (by first | rfl | (simp; done) | (simp [*]; done)), (by first | rfl | (simp; done) | (simp [*]; done)), H', ⟨by have := HK1.out; omega⟩, ⟨by (try simp only [hl7_1]); (with_reducible repeat (first | apply Kd.R_alloc | apply Kd.R_drewN | apply Kd.R_drew)); exact HO_7.out⟩, ⟨by repeat (first | (with_reducible first | exact HB.out | apply Zae | apply Zab | apply Zad) | exact HB.out)⟩⟩
     ·rw [if_neg c9] at H
      exact absurd H (by simp)
    ·rw [if_neg c8] at H
     exact absurd H (by simp)
   ·rw [if_neg c7] at H
    have c7b0 : decide (0 ≤ x8_1) = false := decide_eq_false c7
    clear c7
    obtain rfl := Option.some.inj H
    go_wp2
    go_ret
    exact ⟨_, by first | rfl | (simp [Zaq, Zar] <;> rfl) | (simp [*, Zaq, Zar] <;> rfl), by (with_reducible repeat (first | apply Kd.R_alloc | apply Kd.R_drewN | apply Kd.R_drew)); exact HO_7.out, by repeat (first | (with_reducible first | exact HB.out | apply Zae | apply Zab | apply Zad) | exact HB.out)⟩
def spec_BestRounding.f (k : Nat) (a0_0 : Int) (l0_1 : List Int) (a1 : Int) (a2 : Int) : Option (List Int × Bool) := (spec_l04Ask.f k a0_0 l0_1 a1 a2).bind fun t896 => (if t896 = true then ((spec_l04Bounds.f k a0_0 l0_1).bind fun bt897 => ((Za8.f k l0_1 a0_0).bind fun t899 => ((Zax.f k t899 a0_0 (wrap64 (a1 - bt897.1)) a2).bind fun bt902 => ((spec_l04Floors.f k l0_1 a0_0).bind fun t906 => ((spec_l04Put.f k t906 bt902.1 bt902.2).bind fun t909 => (some (t909, true))))))) else (some (([] : List Int), false)))
def spec_BestRounding.T4 : Bool × List (List Nat × List Nat) := (true, [([], []), ([0], [0]), ([], []), ([2], [2]), ([1, 3], [1, 3]), ([], []), ([5], [5]), ([], []), ([], []), ([7, 8], [7, 8]), ([], []), ([4, 6, 9, 10, 4], [4, 6, 9, 10]), ([11], [11]), ([12], [12]), ([12], [12]), ([13, 11, 0, 1, 2, 3, 4, 5, 6, 7, 8, 9, 10, 11, 12, 13], [13]), ([14, 15, 0, 1, 2, 3, 4, 5, 6, 7, 8, 9, 10, 11, 12, 13, 14, 15], [14])])
def spec_BestRounding.B4 : List Nat := [0, 1, 0, 4, 15, 0, 32, 0, 0, 384, 0, 2047, 4095, 8191, 8191, 16383, 65535]
theorem spec_BestRounding.tab4 : rtab .any (opsOf Try.f50 4) = spec_BestRounding.T4 := by kernel_rfl
theorem spec_BestRounding.bits4 : waitsOk spec_BestRounding.T4.2 spec_BestRounding.B4 = true := by kernel_rfl
set_option maxHeartbeats 8000000 in
set_option maxRecDepth 100000 in
theorem spec_BestRounding.calls (k : Nat) (a0_0 : Int) (A0_1 : Option Addr) (c0_1 : Nat) (l0_1 : List Int) (a1 : Int) (a2 : Int) (r1 : List Int) (r2 : Bool) (w : World) (hr0_1 : Kd.C (Kd.int .i64) w A0_1 l0_1.length l0_1) (hc0_1 : l0_1.length ≤ c0_1) (h : spec_BestRounding.f k a0_0 l0_1 a1 a2 = some (r1, r2)) :
  Calls Try.prog 50 #[.agg #[.int .i64 a0_0, .slice A0_1 l0_1.length c0_1], .int .i64 a1, .int .i64 a2] w fun e w' => ∃ v0_ : Value, e = .returned (.tuple #[v0_, .bool r2]) ∧ Kd.R (Kd.int .i64) 2 w' w.heap.size (fun _ => True) v0_ r1 ∧ Below w.heap.size w w' := by
 have hu28 := Try.underlying28
 have HR0_1 := Zac.mk hr0_1
 have HC0_1 := Zac.mk hc0_1
 clear hr0_1 hc0_1
 have HB := Zac.mk (Below.refl w.heap.size w)
 have H : ((spec_l04Ask.f k a0_0 l0_1 a1 a2).bind fun t896 => (if t896 = true then ((spec_l04Bounds.f k a0_0 l0_1).bind fun bt897 => ((Za8.f k l0_1 a0_0).bind fun t899 => ((Zax.f k t899 a0_0 (wrap64 (a1 - bt897.1)) a2).bind fun bt902 => ((spec_l04Floors.f k l0_1 a0_0).bind fun t906 => ((spec_l04Put.f k t906 bt902.1 bt902.2).bind fun t909 => (some (t909, true))))))) else (some (([] : List Int), false)))) = some (r1, r2) := h
 clear h
 replace H := Option.bind_eq_some_iff.mp H
 obtain ⟨t896, A40, H⟩ := H
 replace H : (if t896 = true then ((spec_l04Bounds.f k a0_0 l0_1).bind fun bt897 => ((Za8.f k l0_1 a0_0).bind fun t899 => ((Zax.f k t899 a0_0 (wrap64 (a1 - bt897.1)) a2).bind fun bt902 => ((spec_l04Floors.f k l0_1 a0_0).bind fun t906 => ((spec_l04Put.f k t906 bt902.1 bt902.2).bind fun t909 => (some (t909, true))))))) else (some (([] : List Int), false))) = some (r1, r2) := H
 have A4 := Zac.mk A40
 clear A40
 by_cases c5 : t896 = true
 ·subst c5
  have H1 : ((spec_l04Bounds.f k a0_0 l0_1).bind fun bt897 => ((Za8.f k l0_1 a0_0).bind fun t899 => ((Zax.f k t899 a0_0 (wrap64 (a1 - bt897.1)) a2).bind fun bt902 => ((spec_l04Floors.f k l0_1 a0_0).bind fun t906 => ((spec_l04Put.f k t906 bt902.1 bt902.2).bind fun t909 => (some (t909, true))))))) = some (r1, r2) := by rw [if_pos rfl] at H; exact H
  clear H
  have H := H1
  clear H1
  replace H := Option.bind_eq_some_iff.mp H
  obtain ⟨⟨t897, t898⟩, A60, H⟩ := H
  replace H : ((Za8.f k l0_1 a0_0).bind fun t899 => ((Zax.f k t899 a0_0 (wrap64 (a1 - t897)) a2).bind fun bt902 => ((spec_l04Floors.f k l0_1 a0_0).bind fun t906 => ((spec_l04Put.f k t906 bt902.1 bt902.2).bind fun t909 => (some (t909, true)))))) = some (r1, r2) := H
  have A6 := Zac.mk A60
  clear A60
  replace H := Option.bind_eq_some_iff.mp H
  obtain ⟨t899, A70, H⟩ := H
  replace H : ((Zax.f k t899 a0_0 (wrap64 (a1 - t897)) a2).bind fun bt902 => ((spec_l04Floors.f k l0_1 a0_0).bind fun t906 => ((spec_l04Put.f k t906 bt902.1 bt902.2).bind fun t909 => (some (t909, true))))) = some (r1, r2) := H
  have A7 := Zac.mk A70
  clear A70
  replace H := Option.bind_eq_some_iff.mp H
  obtain ⟨⟨t902, t903⟩, A80, H⟩ := H
  replace H : ((spec_l04Floors.f k l0_1 a0_0).bind fun t906 => ((spec_l04Put.f k t906 t902 t903).bind fun t909 => (some (t909, true)))) = some (r1, r2) := H
  have A8 := Zac.mk A80
  clear A80
  replace H := Option.bind_eq_some_iff.mp H
  obtain ⟨t906, A90, H⟩ := H
  replace H : ((spec_l04Put.f k t906 t902 t903).bind fun t909 => (some (t909, true))) = some (r1, r2) := H
  have A9 := Zac.mk A90
  clear A90
  replace H := Option.bind_eq_some_iff.mp H
  obtain ⟨t909, A100, H⟩ := H
  replace H : (some (t909, true)) = some (r1, r2) := H
  have A10 := Zac.mk A100
  clear A100
  simp only [Option.some.injEq, Prod.mk.injEq] at H
  obtain ⟨rfl, rfl⟩ := H
  go_enter Try.func50, Try.ntmps50
  try go_wp2_with (first | ((with_reducible refine gate_dst (N := 3) rfl ?_); refine box_event ?hg (N := 3) ?hd (cs := #[.int .i64 a0_0, .slice A0_1 l0_1.length c0_1]) (t := 28) ?hr ?_; (case hd => rfl); (case hg => rfl); (case hr => first | (go_simp; done) | (go_simp; rfl)); intro gb895 hg w11 hbox hb; have n0_ := Zac.mk (Zas (by repeat (first | (with_reducible first | exact HB.out | apply Zae | apply Zab | apply Zad) | exact HB.out)) hb); have n1_ := Zac.mk (hbox); have n2_ := Zac.mk ((by rw [hg]; exact (Zap (by repeat (first | (with_reducible first | exact HB.out | apply Zae | apply Zab | apply Zad) | exact HB.out))) : w.heap.size ≤ gb895)); have n3_ := Zac.mk ((by rw [hg]; exact (Zap (by repeat (first | (with_reducible first | exact HB.out | apply Zae | apply Zab | apply Zad) | exact HB.out))) : w.heap.size ≤ gb895)); clear HB; have HB := n0_; have BK895 := n1_; have GW895 := n2_; have GE895 := n3_; clear n0_ n1_ n2_ n3_; clear hb hbox hg) | ((with_reducible refine Zaw (f := 91) rfl ?_); refine goesL_ (some 14) rfl rfl Try.func91 (by kernel_rfl) rfl #[.pointer (some ⟨gb895, 0, none⟩), .int .i64 a1, .int .i64 a2] rfl (by (try simp only [List.map_toArray, List.map_cons, List.map_nil]); first | done | rfl | (simp only [List.length_drop, List.length_take]; rfl)) ?_; (with_reducible refine (spec_l04Ask.calls k gb895 a0_0 A0_1 c0_1 l0_1 a1 a2 true _ ?side1 ?side2 ?side3 A4.out).mono ?_); (case side1 => exact (by (with_reducible repeat (first | refine Zah ?_ _ | refine Zai ?_ | refine Zag ?_ _)); exact BK895.out)); (case side2 => repeat (first | exact (Kd.C_below HR0_1.out HB.out) | (with_reducible refine Kd.C_alloc ?_ _) | (with_reducible refine Kd.C_drewN ?_ _) | (with_reducible refine Kd.C_drew ?_))); (case side3 => exact HC0_1.out); rintro e w12 ⟨rfl, hb⟩; refine ⟨_, rfl, ?_⟩; have n0_ := Zac.mk (Zat (g := gb895) (o := .cells #[.int .i64 a0_0, .slice A0_1 l0_1.length c0_1] 28 (0, 0)) (by (with_reducible repeat (first | refine Zah ?_ _ | refine Zai ?_ | refine Zag ?_ _)); exact BK895.out) hb); have n1_ := Zac.mk (Zas (by repeat (first | (with_reducible first | exact HB.out | apply Zae | apply Zab | apply Zad | refine Zaf ?_ GE895.out) | exact HB.out)) hb); clear BK895; clear HB; have BK895 := n0_; have HB := n1_; clear n0_ n1_; (try clear hb); (try clear hb2); (try clear hk); (try clear hi)) | ((with_reducible refine Zaw (f := 92) rfl ?_); refine goesL_ (some 17) rfl rfl Try.func92 (by kernel_rfl) rfl #[.pointer (some ⟨gb895, 0, none⟩)] rfl (by (try simp only [List.map_toArray, List.map_cons, List.map_nil]); first | done | rfl | (simp only [List.length_drop, List.length_take]; rfl)) ?_; (with_reducible refine (spec_l04Bounds.calls k gb895 a0_0 A0_1 c0_1 l0_1 t897 t898 _ ?side1 ?side2 ?side3 A6.out).mono ?_); (case side1 => exact (by (with_reducible repeat (first | refine Zah ?_ _ | refine Zai ?_ | refine Zag ?_ _)); exact BK895.out)); (case side2 => repeat (first | exact (Kd.C_below HR0_1.out HB.out) | (with_reducible refine Kd.C_alloc ?_ _) | (with_reducible refine Kd.C_drewN ?_ _) | (with_reducible refine Kd.C_drew ?_))); (case side3 => exact HC0_1.out); rintro e w13 ⟨rfl, hb⟩; refine ⟨_, rfl, ?_⟩; have n0_ := Zac.mk (Zat (g := gb895) (o := .cells #[.int .i64 a0_0, .slice A0_1 l0_1.length c0_1] 28 (0, 0)) (by (with_reducible repeat (first | refine Zah ?_ _ | refine Zai ?_ | refine Zag ?_ _)); exact BK895.out) hb); have n1_ := Zac.mk (Zas (by repeat (first | (with_reducible first | exact HB.out | apply Zae | apply Zab | apply Zad | refine Zaf ?_ GE895.out) | exact HB.out)) hb); clear BK895; clear HB; have BK895 := n0_; have HB := n1_; clear n0_ n1_; (try clear hb); (try clear hb2); (try clear hk); (try clear hi)))
  have n0_ := Zac.mk (Zai BK895.out)
  have n1_ := Zac.mk (Zad HB.out)
  clear BK895
  clear HB
  have BK895 := n0_
  have HB := n1_
  clear n0_ n1_
  refine start_ (n := 17) (S := fun w' => w'.cell? ⟨gb895, 0, none⟩ = some (.int .i64 a0_0) ∧ w'.cell? ⟨gb895, 1, none⟩ = some (.slice A0_1 l0_1.length c0_1)) (ds := []) #[false, false, false, false, false, false, false, false, false, false, false, false, false, false, false, false, false] (by kernel_rfl) rfl rfl ⟨(Zak BK895.out 0).trans rfl, (Zak BK895.out 1).trans rfl⟩ (fun hHeld => ?_); refine with_tabW spec_BestRounding.tab4 spec_BestRounding.bits4 (fun HT_ HW_ => ?_)
  generalize w13.drew = w14 at BK895 HB hHeld ⊢
  refine pure_ (i := 0) (N := some 21) (v := ?_) (a' := ?_) #[true, false, false, false, false, false, false, false, false, false, false, false, false, false, false, false, false] rfl rfl (Zau HT_.out (by kernel_rfl)) (fun _ _ _ h => h) (Or.inl ⟨by rfl, ?_⟩) ?_ ?_
  rotate_left
  ·intro w'
   go_simp
   with_reducible rfl
  rotate_left
  ·simp only [Act.put, ZA, ZB, ZC, i64_w, i32_w]
   rfl
  refine pure_ (i := 2) (N := some 23) (v := ?_) (a' := ?_) #[true, false, true, false, false, false, false, false, false, false, false, false, false, false, false, false, false] rfl rfl (Zau HT_.out (by kernel_rfl)) (fun _ _ _ h => h) (Or.inl ⟨by rfl, ?_⟩) ?_ ?_
  rotate_left
  ·intro w'
   go_simp
   with_reducible rfl
  rotate_left
  ·simp only [Act.put, ZA, ZB, ZC, i64_w, i32_w]
   rfl
  refine pure_ (i := 5) (N := some 26) (v := ?_) (a' := ?_) #[true, false, true, false, false, true, false, false, false, false, false, false, false, false, false, false, false] rfl rfl (Zau HT_.out (by kernel_rfl)) (fun _ _ _ h => h) (Or.inl ⟨by rfl, ?_⟩) ?_ ?_
  rotate_left
  ·intro w'
   go_simp
   with_reducible rfl
  rotate_left
  ·simp only [Act.put, ZA, ZB, ZC, i64_w, i32_w]
   rfl
  refine pure_ (i := 7) (N := some 28) (v := ?_) (a' := ?_) #[true, false, true, false, false, true, false, true, false, false, false, false, false, false, false, false, false] rfl rfl (Zau HT_.out (by kernel_rfl)) (fun _ _ _ h => h) (Or.inl ⟨by rfl, ?_⟩) ?_ ?_
  rotate_left
  ·intro w'
   go_simp
   with_reducible rfl
  rotate_left
  ·simp only [Act.put, ZA, ZB, ZC, i64_w, i32_w]
   rfl
  refine pure_ (i := 8) (N := some 29) (v := ?_) (a' := ?_) #[true, false, true, false, false, true, false, true, true, false, false, false, false, false, false, false, false] rfl rfl (Zau HT_.out (by kernel_rfl)) (fun _ _ _ h => h) (Or.inl ⟨by rfl, ?_⟩) ?_ ?_
  rotate_left
  ·intro w'
   go_simp
   with_reducible rfl
  rotate_left
  ·simp only [Act.put, ZA, ZB, ZC, i64_w, i32_w]
   rfl
  refine pure_ (i := 9) (N := some 30) (v := ?_) (a' := ?_) #[true, false, true, false, false, true, false, true, true, true, false, false, false, false, false, false, false] rfl rfl (Zau HT_.out (by kernel_rfl)) (fun _ _ _ h => h) (Or.inl ⟨by rfl, ?_⟩) ?_ ?_
  rotate_left
  ·intro w'
   go_simp
   with_reducible rfl
  rotate_left
  ·simp only [Act.put, ZA, ZB, ZC, i64_w, i32_w]
   rfl
  refine pure_ (i := 10) (N := some 31) (v := ?_) (a' := ?_) #[true, false, true, false, false, true, false, true, true, true, true, false, false, false, false, false, false] rfl rfl (Zau HT_.out (by kernel_rfl)) (fun _ _ _ h => h) (Or.inl ⟨by rfl, ?_⟩) ?_ ?_
  rotate_left
  ·intro w'
   go_simp
   with_reducible rfl
  rotate_left
  ·simp only [Act.put, ZA, ZB, ZC, i64_w, i32_w]
   rfl
  refine take_ (i := 1) (N := some 22) (v := ?_) (a' := ?_) #[true, true, true, false, false, true, false, true, true, true, true, false, false, false, false, false, false] rfl rfl (take_ofW HT_.out HW_.out (by kernel_rfl)) (fun _ _ _ h => h) (Or.inl ⟨by rfl, ?_⟩) hHeld ?_ ?_
  rotate_left
  ·rintro w' ⟨s0, s1⟩
   go_simp
   with_reducible rfl
  rotate_left
  ·simp only [Act.put, ZA, ZB, ZC, i64_w, i32_w]
   rfl
  refine take_ (i := 3) (N := some 24) (v := ?_) (a' := ?_) #[true, true, true, true, false, true, false, true, true, true, true, false, false, false, false, false, false] rfl rfl (take_ofW HT_.out HW_.out (by kernel_rfl)) (fun _ _ _ h => h) (Or.inl ⟨by rfl, ?_⟩) hHeld ?_ ?_
  rotate_left
  ·rintro w' ⟨s0, s1⟩
   go_simp
   with_reducible rfl
  rotate_left
  ·simp only [Act.put, ZA, ZB, ZC, i64_w, i32_w]
   rfl
  refine take_ (i := 6) (N := some 27) (v := ?_) (a' := ?_) #[true, true, true, true, false, true, true, true, true, true, true, false, false, false, false, false, false] rfl rfl (take_ofW HT_.out HW_.out (by kernel_rfl)) (fun _ _ _ h => h) (Or.inl ⟨by rfl, ?_⟩) hHeld ?_ ?_
  rotate_left
  ·rintro w' ⟨s0, s1⟩
   go_simp
   with_reducible rfl
  rotate_left
  ·simp only [Act.put, ZA, ZB, ZC, i64_w, i32_w]
   rfl
  refine one_ (i := 4) (N := some 25) #[true, true, true, true, true, true, true, true, true, true, true, false, false, false, false, false, false] rfl rfl (one_of HT_.out (by kernel_rfl)) (by decide) (fun K hK => ?_)
  refine goes_ Try.func83 (by kernel_rfl) rfl #[.slice A0_1 l0_1.length c0_1, .int .i64 a0_0] (by rfl) rfl rfl (by (try simp only [List.map_toArray, List.map_cons, List.map_nil]); first | done | rfl | (simp only [List.length_drop, List.length_take]; rfl)) ?_
  with_reducible refine (Za8.calls k _ _ l0_1 a0_0 t899 _ ?side1 ?side2 A7.out).mono ?_
  (case side1 => repeat (first | exact (Kd.C_below HR0_1.out HB.out) | (with_reducible refine Kd.C_alloc ?_ _) | (with_reducible refine Kd.C_drewN ?_ _) | (with_reducible refine Kd.C_drew ?_)))
  (case side2 => exact HC0_1.out)
  rintro e w15 ⟨v900, rfl, ho0, hb⟩
  refine ⟨_, rfl, ?_⟩
  have n0_ := Zac.mk (Kd.R_lower ho0 (Zap (by repeat (first | (with_reducible first | exact HB.out | apply Zae | apply Zab | apply Zad | refine Zaf ?_ GE895.out) | exact HB.out))))
  have n1_ := Zac.mk (Zat (g := gb895) (o := .cells #[.int .i64 a0_0, .slice A0_1 l0_1.length c0_1] 28 (0, 0)) (by (with_reducible repeat (first | refine Zah ?_ _ | refine Zai ?_ | refine Zag ?_ _)); exact BK895.out) hb)
  have n2_ := Zac.mk (Zas (by repeat (first | (with_reducible first | exact HB.out | apply Zae | apply Zab | apply Zad | refine Zaf ?_ GE895.out) | exact HB.out)) hb)
  clear BK895
  clear HB
  have HO901 := n0_
  have BK895 := n1_
  have HB := n2_
  clear n0_ n1_ n2_
  (try clear hb)
  (try clear hb2)
  (try clear hk)
  (try clear hi)
  (try clear ho0)
  obtain ⟨Ao16, co16, eo16⟩ := Kd.R_slice HO901.out
  (first | subst eo16 | (injection eo16 with f1_ f2_ f3_; have f4_ := f1_.symm; have f5_ := f3_.symm; clear f1_ f2_ f3_; subst f4_; subst f5_))
  refine hK.out _ _ ⟨(Zak BK895.out 0).trans rfl, (Zak BK895.out 1).trans rfl⟩ (fun hHeld => ?_)
  clear hK K
  refine norm_ (a' := ?_) ?_ ?_
  rotate_left
  ·show Act.put _ (some 25) _ = _
   simp only [Act.put, ZA, ZB, ZC, i64_w, i32_w]
   rfl
  refine one_ (i := 11) (N := some 32) #[true, true, true, true, true, true, true, true, true, true, true, true, false, false, false, false, false] rfl rfl (one_of HT_.out (by kernel_rfl)) (by decide) (fun K hK => ?_)
  refine goes_ Try.func93 (by kernel_rfl) rfl #[.slice Ao16 t899.length co16, .int .i64 a0_0, .int .i64 (wrap64 (a1 - t897)), .int .i64 a2] (by rfl) rfl rfl (by (try simp only [List.map_toArray, List.map_cons, List.map_nil]); first | done | rfl | (simp only [List.length_drop, List.length_take]; rfl)) ?_
  with_reducible refine (Zax.calls k _ _ t899 a0_0 (wrap64 (a1 - t897)) a2 t902 t903 _ ?side1 ?side2 A8.out).mono ?_
  (case side1 => repeat (first | exact (Kd.R_reads' HO901.out).2.2 | (with_reducible refine Kd.C_alloc ?_ _) | (with_reducible refine Kd.C_drewN ?_ _) | (with_reducible refine Kd.C_drew ?_)))
  (case side2 => exact (Kd.R_reads' HO901.out).2.1)
  rintro e w17 ⟨v904, rfl, ho0, hb⟩
  refine ⟨_, rfl, ?_⟩
  have n0_ := Zac.mk (Kd.R_elder' (by (with_reducible repeat (first | apply Kd.R_alloc | apply Kd.R_drewN | apply Kd.R_drew)); exact HO901.out) (Kd.R_base ho0) hb)
  have n1_ := Zac.mk (Kd.R_lower (Kd.R_new' ho0 (Kd.R_lt (by (with_reducible repeat (first | apply Kd.R_alloc | apply Kd.R_drewN | apply Kd.R_drew)); exact HO901.out))) (Zap (by repeat (first | (with_reducible first | exact HB.out | apply Zae | apply Zab | apply Zad | refine Zaf ?_ GE895.out) | exact HB.out))))
  have n2_ := Zac.mk (Zat (g := gb895) (o := .cells #[.int .i64 a0_0, .slice A0_1 l0_1.length c0_1] 28 (0, 0)) (by (with_reducible repeat (first | refine Zah ?_ _ | refine Zai ?_ | refine Zag ?_ _)); exact BK895.out) hb)
  have n3_ := Zac.mk (Zas (by repeat (first | (with_reducible first | exact HB.out | apply Zae | apply Zab | apply Zad | refine Zaf ?_ GE895.out) | exact HB.out)) hb)
  clear HO901
  clear BK895
  clear HB
  have HO901 := n0_
  have HO905 := n1_
  have BK895 := n2_
  have HB := n3_
  clear n0_ n1_ n2_ n3_
  (try clear hb)
  (try clear hb2)
  (try clear hk)
  (try clear hi)
  (try clear ho0)
  refine hK.out _ _ ⟨(Zak BK895.out 0).trans rfl, (Zak BK895.out 1).trans rfl⟩ (fun hHeld => ?_)
  clear hK K
  refine norm_ (a' := ?_) ?_ ?_
  rotate_left
  ·show Act.put _ (some 32) _ = _
   simp only [Act.put, ZA, ZB, ZC, i64_w, i32_w]
   rfl
  refine pure_ (i := 12) (N := some 20) (v := ?_) (a' := ?_) #[true, true, true, true, true, true, true, true, true, true, true, true, true, false, false, false, false] rfl rfl (Zau HT_.out (by kernel_rfl)) (fun _ _ _ h => h) (Or.inl ⟨by rfl, ?_⟩) ?_ ?_
  rotate_left
  ·intro w'
   go_simp
   with_reducible rfl
  rotate_left
  ·simp only [Act.put, ZA, ZB, ZC, i64_w, i32_w]
   rfl
  refine pure_ (i := 13) (N := some 33) (v := ?_) (a' := ?_) #[true, true, true, true, true, true, true, true, true, true, true, true, true, true, false, false, false] rfl rfl (Zau HT_.out (by kernel_rfl)) (fun _ _ _ h => h) (Or.inl ⟨by rfl, ?_⟩) ?_ ?_
  rotate_left
  ·intro w'
   go_simp
   with_reducible rfl
  rotate_left
  ·simp only [Act.put, ZA, ZB, ZC, i64_w, i32_w]
   rfl
  refine pure_ (i := 14) (N := some 34) (v := ?_) (a' := ?_) #[true, true, true, true, true, true, true, true, true, true, true, true, true, true, true, false, false] rfl rfl (Zau HT_.out (by kernel_rfl)) (fun _ _ _ h => h) (Or.inl ⟨by rfl, ?_⟩) ?_ ?_
  rotate_left
  ·intro w'
   go_simp
   with_reducible rfl
  rotate_left
  ·simp only [Act.put, ZA, ZB, ZC, i64_w, i32_w]
   rfl
  refine pure_ (i := 15) (N := some 10) (v := ?_) (a' := ?_) #[true, true, true, true, true, true, true, true, true, true, true, true, true, true, true, true, false] rfl rfl (Zau HT_.out (by kernel_rfl)) (fun _ _ _ h => h) (Or.inl ⟨by rfl, ?_⟩) ?_ ?_
  rotate_left
  ·intro w'
   go_simp
   with_reducible rfl
  rotate_left
  ·simp only [Act.put, ZA, ZB, ZC, i64_w, i32_w]
   rfl
  refine pure_ (i := 16) (N := some 11) (v := ?_) (a' := ?_) #[true, true, true, true, true, true, true, true, true, true, true, true, true, true, true, true, true] rfl rfl (Zau HT_.out (by kernel_rfl)) (fun _ _ _ h => h) (Or.inl ⟨by rfl, ?_⟩) ?_ ?_
  rotate_left
  ·intro w'
   go_simp
   with_reducible rfl
  rotate_left
  ·simp only [Act.put, ZA, ZB, ZC, i64_w, i32_w]
   rfl
  refine done_ (done_of HT_.out (by kernel_rfl)) ?_
  have hcz18_0 : w17.cell? ⟨gb895, 0, none⟩ = some (.int .i64 a0_0) := (Zak BK895.out 0).trans rfl
  have hcz18_1 : w17.cell? ⟨gb895, 1, none⟩ = some (.slice A0_1 l0_1.length c0_1) := (Zak BK895.out 1).trans rfl
  have hfz18_0 := Zan BK895.out 0
  have hfz18_1 := Zan BK895.out 1
  try go_wp2_with (first | ((with_reducible refine Zaw (f := 82) rfl ?_); refine goesL_ (some 39) rfl rfl Try.func82 (by kernel_rfl) rfl #[.slice A0_1 l0_1.length c0_1, .int .i64 a0_0] rfl (by (try simp only [List.map_toArray, List.map_cons, List.map_nil]); first | done | rfl | (simp only [List.length_drop, List.length_take]; rfl)) ?_; (with_reducible refine (spec_l04Floors.calls k _ _ l0_1 a0_0 t906 _ ?side1 ?side2 A9.out).mono ?_); (case side1 => repeat (first | exact (Kd.C_below HR0_1.out HB.out) | (with_reducible refine Kd.C_alloc ?_ _) | (with_reducible refine Kd.C_drewN ?_ _) | (with_reducible refine Kd.C_drew ?_))); (case side2 => exact HC0_1.out); rintro e w19 ⟨v907, rfl, ho0, hb⟩; refine ⟨_, rfl, ?_⟩; have n0_ := Zac.mk (Kd.R_elder' (by (with_reducible repeat (first | apply Kd.R_alloc | apply Kd.R_drewN | apply Kd.R_drew)); exact HO901.out) (Kd.R_base ho0) hb); have n1_ := Zac.mk (Kd.R_elder' (by (with_reducible repeat (first | apply Kd.R_alloc | apply Kd.R_drewN | apply Kd.R_drew)); exact HO905.out) (Kd.R_base ho0) hb); have n2_ := Zac.mk (Kd.R_lower (Kd.R_new' (Kd.R_new' ho0 (Kd.R_lt (by (with_reducible repeat (first | apply Kd.R_alloc | apply Kd.R_drewN | apply Kd.R_drew)); exact HO901.out))) (Kd.R_lt (by (with_reducible repeat (first | apply Kd.R_alloc | apply Kd.R_drewN | apply Kd.R_drew)); exact HO905.out))) (Zap (by repeat (first | (with_reducible first | exact HB.out | apply Zae | apply Zab | apply Zad | refine Zaf ?_ GE895.out) | exact HB.out)))); have n3_ := Zac.mk (Zat (g := gb895) (o := .cells #[.int .i64 a0_0, .slice A0_1 l0_1.length c0_1] 28 (0, 0)) (by (with_reducible repeat (first | refine Zah ?_ _ | refine Zai ?_ | refine Zag ?_ _)); exact BK895.out) hb); have n4_ := Zac.mk (Zas (by repeat (first | (with_reducible first | exact HB.out | apply Zae | apply Zab | apply Zad | refine Zaf ?_ GE895.out) | exact HB.out)) hb); clear HO901; clear HO905; clear BK895; clear HB; have HO901 := n0_; have HO905 := n1_; have HO908 := n2_; have BK895 := n3_; have HB := n4_; clear n0_ n1_ n2_ n3_ n4_; (try clear hb); (try clear hb2); (try clear hk); (try clear hi); (try clear ho0); obtain ⟨Ao20, co20, eo20⟩ := Kd.R_slice HO908.out; subst eo20; obtain ⟨Ao21, co21, eo21⟩ := Kd.R_slice HO905.out; subst eo21) | ((with_reducible refine Zaw (f := 95) rfl ?_); refine goesL_ (some 42) rfl rfl Try.func95 (by kernel_rfl) rfl #[.slice Ao20 t906.length co20, .slice Ao21 t902.length co21, .int .i64 t903] rfl (by (try simp only [List.map_toArray, List.map_cons, List.map_nil]); first | done | rfl | (simp only [List.length_drop, List.length_take]; rfl)) ?_; (with_reducible refine (spec_l04Put.calls k _ _ t906 _ _ t902 t903 t909 _ ?side1 ?side2 ?side3 ?side4 A10.out).mono ?_); (case side1 => repeat (first | exact (Kd.R_reads' HO908.out).2.2 | (with_reducible refine Kd.C_alloc ?_ _) | (with_reducible refine Kd.C_drewN ?_ _) | (with_reducible refine Kd.C_drew ?_))); (case side2 => exact (Kd.R_reads' HO908.out).2.1); (case side3 => repeat (first | exact (Kd.R_reads' HO905.out).2.2 | (with_reducible refine Kd.C_alloc ?_ _) | (with_reducible refine Kd.C_drewN ?_ _) | (with_reducible refine Kd.C_drew ?_))); (case side4 => exact (Kd.R_reads' HO905.out).2.1); rintro e w22 ⟨v910, rfl, ho0, hb⟩; refine ⟨_, rfl, ?_⟩; have n0_ := Zac.mk (Kd.R_elder' (by (with_reducible repeat (first | apply Kd.R_alloc | apply Kd.R_drewN | apply Kd.R_drew)); exact HO901.out) (Kd.R_base ho0) hb); have n1_ := Zac.mk (Kd.R_elder' (by (with_reducible repeat (first | apply Kd.R_alloc | apply Kd.R_drewN | apply Kd.R_drew)); exact HO905.out) (Kd.R_base ho0) hb); have n2_ := Zac.mk (Kd.R_elder' (by (with_reducible repeat (first | apply Kd.R_alloc | apply Kd.R_drewN | apply Kd.R_drew)); exact HO908.out) (Kd.R_base ho0) hb); have n3_ := Zac.mk (Kd.R_lower (Kd.R_new' (Kd.R_new' (Kd.R_new' ho0 (Kd.R_lt (by (with_reducible repeat (first | apply Kd.R_alloc | apply Kd.R_drewN | apply Kd.R_drew)); exact HO901.out))) (Kd.R_lt (by (with_reducible repeat (first | apply Kd.R_alloc | apply Kd.R_drewN | apply Kd.R_drew)); exact HO905.out))) (Kd.R_lt (by (with_reducible repeat (first | apply Kd.R_alloc | apply Kd.R_drewN | apply Kd.R_drew)); exact HO908.out))) (Zap (by repeat (first | (with_reducible first | exact HB.out | apply Zae | apply Zab | apply Zad | refine Zaf ?_ GE895.out) | exact HB.out)))); have n4_ := Zac.mk (Zat (g := gb895) (o := .cells #[.int .i64 a0_0, .slice A0_1 l0_1.length c0_1] 28 (0, 0)) (by (with_reducible repeat (first | refine Zah ?_ _ | refine Zai ?_ | refine Zag ?_ _)); exact BK895.out) hb); have n5_ := Zac.mk (Zas (by repeat (first | (with_reducible first | exact HB.out | apply Zae | apply Zab | apply Zad | refine Zaf ?_ GE895.out) | exact HB.out)) hb); clear HO901; clear HO905; clear HO908; clear BK895; clear HB; have HO901 := n0_; have HO905 := n1_; have HO908 := n2_; have HO911 := n3_; have BK895 := n4_; have HB := n5_; clear n0_ n1_ n2_ n3_ n4_ n5_; (try clear hb); (try clear hb2); (try clear hk); (try clear hi); (try clear ho0)))
  go_ret2
  exact ⟨_, by first | rfl | (simp [Zaq, Zar] <;> rfl) | (simp [*, Zaq, Zar] <;> rfl), by (with_reducible repeat (first | apply Kd.R_alloc | apply Kd.R_drewN | apply Kd.R_drew)); exact Kd.R_mono HO911.out (fun _ hk => trivial), by repeat (first | (with_reducible first | exact HB.out | apply Zae | apply Zab | apply Zad | refine Zaf ?_ GE895.out) | exact HB.out)⟩
 ·replace c5 := Bool.eq_false_iff.mpr c5
  subst c5
  have H1 : (some (([] : List Int), false)) = some (r1, r2) := by rw [if_neg (show ¬ (false = true) by decide)] at H; exact H
  clear H
  have H := H1
  clear H1
  simp only [Option.some.injEq, Prod.mk.injEq] at H
  obtain ⟨rfl, rfl⟩ := H
  go_enter Try.func50, Try.ntmps50
  go_wp2_with (first | ((with_reducible refine gate_dst (N := 3) rfl ?_); refine box_event ?hg (N := 3) ?hd (cs := #[.int .i64 a0_0, .slice A0_1 l0_1.length c0_1]) (t := 28) ?hr ?_; (case hd => rfl); (case hg => rfl); (case hr => first | (go_simp; done) | (go_simp; rfl)); intro gb895 hg w23 hbox hb; have n0_ := Zac.mk (Zas (by repeat (first | (with_reducible first | exact HB.out | apply Zae | apply Zab | apply Zad) | exact HB.out)) hb); have n1_ := Zac.mk (hbox); have n2_ := Zac.mk ((by rw [hg]; exact (Zap (by repeat (first | (with_reducible first | exact HB.out | apply Zae | apply Zab | apply Zad) | exact HB.out))) : w.heap.size ≤ gb895)); have n3_ := Zac.mk ((by rw [hg]; exact (Zap (by repeat (first | (with_reducible first | exact HB.out | apply Zae | apply Zab | apply Zad) | exact HB.out))) : w.heap.size ≤ gb895)); clear HB; have HB := n0_; have BK895 := n1_; have GW895 := n2_; have GE895 := n3_; clear n0_ n1_ n2_ n3_; clear hb hbox hg) | ((with_reducible refine Zaw (f := 91) rfl ?_); refine goesL_ (some 14) rfl rfl Try.func91 (by kernel_rfl) rfl #[.pointer (some ⟨gb895, 0, none⟩), .int .i64 a1, .int .i64 a2] rfl (by (try simp only [List.map_toArray, List.map_cons, List.map_nil]); first | done | rfl | (simp only [List.length_drop, List.length_take]; rfl)) ?_; (with_reducible refine (spec_l04Ask.calls k gb895 a0_0 A0_1 c0_1 l0_1 a1 a2 false _ ?side1 ?side2 ?side3 A4.out).mono ?_); (case side1 => exact (by (with_reducible repeat (first | refine Zah ?_ _ | refine Zai ?_ | refine Zag ?_ _)); exact BK895.out)); (case side2 => repeat (first | exact (Kd.C_below HR0_1.out HB.out) | (with_reducible refine Kd.C_alloc ?_ _) | (with_reducible refine Kd.C_drewN ?_ _) | (with_reducible refine Kd.C_drew ?_))); (case side3 => exact HC0_1.out); rintro e w24 ⟨rfl, hb⟩; refine ⟨_, rfl, ?_⟩; have n0_ := Zac.mk (Zat (g := gb895) (o := .cells #[.int .i64 a0_0, .slice A0_1 l0_1.length c0_1] 28 (0, 0)) (by (with_reducible repeat (first | refine Zah ?_ _ | refine Zai ?_ | refine Zag ?_ _)); exact BK895.out) hb); have n1_ := Zac.mk (Zas (by repeat (first | (with_reducible first | exact HB.out | apply Zae | apply Zab | apply Zad | refine Zaf ?_ GE895.out) | exact HB.out)) hb); clear BK895; clear HB; have BK895 := n0_; have HB := n1_; clear n0_ n1_; (try clear hb); (try clear hb2); (try clear hk); (try clear hi)))
  go_ret2
  exact ⟨_, by first | rfl | (simp [Zaq, Zar] <;> rfl) | (simp [*, Zaq, Zar] <;> rfl), by first | exact Kd.R_nil _ _ _ _ _ | exact Kd.N_nil _ _ _ _ _ | exact Kd.V_nil _ _ _ _ _ | exact Kd.Q_nil _ _ _ _ _ | exact Kd.S_nil _ _ _ _ _, by repeat (first | (with_reducible first | exact HB.out | apply Zae | apply Zab | apply Zad | refine Zaf ?_ GE895.out) | exact HB.out)⟩
end Go.Proofs.Ytgmmfdilfpkbmaa.P
