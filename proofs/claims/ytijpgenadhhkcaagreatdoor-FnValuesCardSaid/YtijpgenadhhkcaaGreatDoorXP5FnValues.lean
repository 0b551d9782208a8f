import Derived.Test.YtijpgenadhhkcaaGreatDoorXP0FnValues
import Derived.Test.YtijpgenadhhkcaaGreatDoorXP3FnValues
import Derived.Test.YtijpgenadhhkcaaGreatDoorXP4FnValues
import Derived.Test.YtijpgenadhhkcaaGreatDoorXLFnValues
namespace Go.Proofs.YtijpgenadhhkcaaGreatDoor.P
open Go.RowKit Go.Proofs.YtijpgenadhhkcaaGreatDoorW.PrintWords Go.Proofs.YtijpgenadhhkcaaGreatDoorW.PrintLast Go.Proofs.YtijpgenadhhkcaaGreatDoorW.PrintMore
attribute [local go_sem] max2_int min2_int max_two min_two max_three min_three max_four min_four
set_option linter.unusedVariables false
set_option linter.unusedSimpArgs false
def impl_ListText.l0 : Nat → List ByteArray → List Int → Int → Int → Option (ByteArray × Bool)
 | 0, _, _, _, _ => none
 | k + 1, x4, x16, x17, x18 => if x18 < x17 then (if 0 ≤ x18 then (if x18 < (x16.length : Int) then ((impl_Decimal.f (rd x16 x18)).bind fun t203 => (if x4.length < 8796093022208 then (impl_ListText.l0 k (x4 ++ [t203]) x16 x17 (wrap64 (x18 + 1))) else (none))) else (none)) else (none)) else ((strings_Join.f x4 (⟨#[44]⟩ : ByteArray)).bind fun t207 => (some (t207, true)))
def impl_ListText.f (k : Nat) (l0 : List Int) : Option (ByteArray × Bool) := (impl_isList.f k l0).bind fun t198 => (if t198 = true then (if (l0.length : Int) = 0 then (some ((⟨#[45]⟩ : ByteArray), true)) else (impl_ListText.l0 k (([] : List ByteArray)) l0 (l0.length : Int) 0)) else (some ((⟨#[]⟩ : ByteArray), false)))
set_option maxHeartbeats 8000000 in
set_option maxRecDepth 100000 in
theorem impl_ListText.calls (k : Nat) (A0 : Option Addr) (c0 : Nat) (l0 : List Int) (r1 : ByteArray) (r2 : Bool) (w : World) (hr0 : Kd.C (Kd.int .i64) w A0 l0.length l0) (hc0 : l0.length ≤ c0) (hT : Pow10 w) (h : impl_ListText.f k l0 = some (r1, r2)) :
  Calls Tryz.prog 27 #[.slice A0 l0.length c0] w fun e w' => e = .returned (.tuple #[.string r1, .bool r2]) ∧ Below w.heap.size w w' := by
 have HR0 := Zad.mk hr0
 have HC0 := Zad.mk hc0
 clear hr0 hc0
 have HB := Zad.mk (Below.refl w.heap.size w)
 have HT := Zad.mk hT
 clear hT
 have H : ((impl_isList.f k l0).bind fun t198 => (if t198 = true then (if (l0.length : Int) = 0 then (some ((⟨#[45]⟩ : ByteArray), true)) else (impl_ListText.l0 k (([] : List ByteArray)) l0 (l0.length : Int) 0)) else (some ((⟨#[]⟩ : ByteArray), false)))) = some (r1, r2) := h
 clear h
 replace H := Option.bind_eq_some_iff.mp H
 obtain ⟨t198, A20, H⟩ := H
 replace H : (if t198 = true then (if (l0.length : Int) = 0 then (some ((⟨#[45]⟩ : ByteArray), true)) else (impl_ListText.l0 k (([] : List ByteArray)) l0 (l0.length : Int) 0)) else (some ((⟨#[]⟩ : ByteArray), false))) = some (r1, r2) := H
 have A2 := Zad.mk A20
 clear A20
 by_cases c3 : t198 = true
 ·subst c3
  have H1 : (if (l0.length : Int) = 0 then (some ((⟨#[45]⟩ : ByteArray), true)) else (impl_ListText.l0 k (([] : List ByteArray)) l0 (l0.length : Int) 0)) = some (r1, r2) := by rw [if_pos rfl] at H; exact H
  clear H
  have H := H1
  clear H1
  by_cases c4 : (l0.length : Int) = 0
  ·rw [if_pos c4] at H
   have c4b0 : ((l0.length : Int) == 0) = true := beq_iff_eq.mpr c4
   have c4b1 : ((l0.length : Int) != 0) = false := bne_eq_false_iff_eq.mpr c4
   clear c4
   simp only [Option.some.injEq, Prod.mk.injEq] at H
   obtain ⟨rfl, rfl⟩ := H
   go_enter Tryz.func27, Tryz.ntmps27
   go_wp2_with (first | ((with_reducible refine Zar (f := 41) rfl ?_); refine goesL_ (some 9) rfl rfl Tryz.func41 (by kernel_rfl) rfl #[.slice A0 l0.length c0] rfl (by (try simp only [List.map_toArray, List.map_cons, List.map_nil]); first | done | rfl | (simp only [List.length_drop, List.length_take]; rfl)) ?_; (with_reducible refine (impl_isList.calls k _ _ l0 true _ ?side1 ?side2 A2.out).mono ?_); (case side1 => repeat (first | exact HR0.out | (with_reducible refine Kd.C_alloc ?_ _) | (with_reducible refine Kd.C_drewN ?_ _) | (with_reducible refine Kd.C_drew ?_))); (case side2 => exact HC0.out); rintro e w5 ⟨rfl, hb⟩; refine ⟨_, rfl, ?_⟩; have n0_ := Zad.mk (Zak (by repeat (first | (with_reducible first | exact HB.out | apply Zac | apply Zaa | apply Zab) | exact HB.out)) hb); clear HB; have HB := n0_; clear n0_; (try clear hb); (try clear hb2); (try clear hk); (try clear hi)))
   go_ret2
   exact ⟨by first | rfl | (simp [Zao, Zan] <;> rfl) | (simp [*, Zao, Zan] <;> rfl), by repeat (first | (with_reducible first | exact HB.out | apply Zac | apply Zaa | apply Zab) | exact HB.out)⟩
  ·rw [if_neg c4] at H
   have c4b0 : ((l0.length : Int) == 0) = false := beq_eq_false_iff_ne.mpr c4
   have c4b1 : ((l0.length : Int) != 0) = true := bne_iff_ne.mpr c4
   have c4b2 : ¬ (l0 = []) := fun h_ => c4 (by rw [h_]; rfl)
   obtain ⟨y199, hy199⟩ : ∃ y_ : List ByteArray, y_ = (([] : List ByteArray)) := ⟨_, rfl⟩
   replace H : (impl_ListText.l0 k y199 l0 (l0.length : Int) 0) = some (r1, r2) := by first | (rw [hy199]; with_reducible exact H) | (have H2_ := (Option.bind_some _ _).symm.trans H; rw [hy199]; with_reducible exact H2_) | (have H2_ := (Option.bind_some _ _).symm.trans H; with_reducible exact H2_) | with_reducible exact H | (rw [hy199]; exact H) | exact H
   have Ny199 := Zad.mk hy199
   clear hy199
   have H' := Zad.mk H
   clear H
   go_enter Tryz.func27, Tryz.ntmps27
   go_wp2_with (first | ((with_reducible refine Zar (f := 41) rfl ?_); refine goesL_ (some 9) rfl rfl Tryz.func41 (by kernel_rfl) rfl #[.slice A0 l0.length c0] rfl (by (try simp only [List.map_toArray, List.map_cons, List.map_nil]); first | done | rfl | (simp only [List.length_drop, List.length_take]; rfl)) ?_; (with_reducible refine (impl_isList.calls k _ _ l0 true _ ?side1 ?side2 A2.out).mono ?_); (case side1 => repeat (first | exact HR0.out | (with_reducible refine Kd.C_alloc ?_ _) | (with_reducible refine Kd.C_drewN ?_ _) | (with_reducible refine Kd.C_drew ?_))); (case side2 => exact HC0.out); rintro e w6 ⟨rfl, hb⟩; refine ⟨_, rfl, ?_⟩; have n0_ := Zad.mk (Zak (by repeat (first | (with_reducible first | exact HB.out | apply Zac | apply Zaa | apply Zab) | exact HB.out)) hb); clear HB; have HB := n0_; clear n0_; (try clear hb); (try clear hb2); (try clear hk); (try clear hi)) | ((with_reducible refine gate_dst (N := 15) rfl ?_); refine Kd.R_lit Kd.string _ 9 ?hg (N := 15) ?hd (xs := ([] : List ByteArray)) (inner := []) (ok := fun _ => True) (okp := fun _ => True) ?hr ?hp (fun _ hk => hk) trivial (Below.refl _ _) (Nat.le_refl _) (by simp) ?_; (case hd => rfl); (case hg => rfl); (case hr => first | (go_simp; done) | (go_simp; rfl)); (case hp => exact (Reps.none _ _)); intro v200 w7 ho8 hb hg_ hnew_; clear hg_ hnew_; (first | rw [← Ny199.out] at ho8 | (simp only [Int.reduceToNat] at ho8; rw [← Ny199.out] at ho8)); have n0_ := Zad.mk (Kd.R_lower ho8 (Zam (by repeat (first | (with_reducible first | exact HB.out | apply Zac | apply Zaa | apply Zab) | exact HB.out)))); have n1_ := Zad.mk (Zak (by repeat (first | (with_reducible first | exact HB.out | apply Zac | apply Zaa | apply Zab) | exact HB.out)) hb); clear HB; have HO201 := n0_; have HB := n1_; clear n0_ n1_; clear hb ho8))
   try simp only [Act.put, List.setIfInBounds_toArray, List.set_cons_zero, List.set_cons_succ]
   go_loopg [4, 18] k (fun kq v4 v18 w' => ∃ (x4_1 : List ByteArray) (x18_1 : Int), v18 = .int .i64 x18_1 ∧ Zad (impl_ListText.l0 kq x4_1 l0 (l0.length : Int) x18_1 = some (r1, r2)) ∧ Zad (kq ≤ k) ∧ Zad (Kd.R Kd.string 9 w' w.heap.size (fun _ => True) v4 x4_1) ∧ Zad (Below w.heap.size w w'))
   case atStart => exact ⟨(y199), (0), (by first | rfl | (simp; done) | (simp [*]; done)), H', ⟨Nat.le_refl _⟩, ⟨by (with_reducible repeat (first | apply Kd.R_alloc | apply Kd.R_drewN | apply Kd.R_drew)); exact HO201.out⟩, ⟨by repeat (first | (with_reducible first | exact HB.out | apply Zac | apply Zaa | apply Zab) | exact HB.out)⟩⟩
   case round =>
    clear H'
    try clear c2
    try clear p2
    try clear c3
    try clear c4
    try clear c4b0
    try clear c4b1
    try clear c4b2
    obtain ⟨x4_1, x18_1, rfl, HA, HK1, HO_4, HB⟩ := hrel
    cases gk with
    | zero => exact absurd HA.out (by simp [impl_ListText.l0])
    | succ k1 =>
     have H := HA.out
     clear HA
     simp only [impl_ListText.l0] at H
     by_cases c9 : x18_1 < (l0.length : Int)
     ·rw [if_pos c9] at H
      have c9b0 : decide (x18_1 < (l0.length : Int)) = true := decide_eq_true c9
      clear c9
      by_cases c10 : 0 ≤ x18_1
      ·rw [if_pos c10] at H
       have c10b0 : decide (0 ≤ x18_1) = true := decide_eq_true c10
       clear c10
       by_cases c11 : x18_1 < (l0.length : Int)
       ·rw [if_pos c11] at H
        have c11b0 : decide (x18_1 < (l0.length : Int)) = true := decide_eq_true c11
        clear c11
        replace H := Option.bind_eq_some_iff.mp H
        obtain ⟨t203, A120, H⟩ := H
        replace H : (if x4_1.length < 8796093022208 then (impl_ListText.l0 k1 (x4_1 ++ [t203]) l0 (l0.length : Int) (wrap64 (x18_1 + 1))) else (none)) = some (r1, r2) := H
        have A12 := Zad.mk A120
        clear A120
        by_cases c13 : x4_1.length < 8796093022208
        ·rw [if_pos c13] at H
         have LMc13 := Zad.mk c13
         clear c13
         obtain ⟨y204, hy204⟩ : ∃ y_ : List ByteArray, y_ = (x4_1 ++ [t203]) := ⟨_, rfl⟩
         replace H : (impl_ListText.l0 k1 y204 l0 (l0.length : Int) (wrap64 (x18_1 + 1))) = some (r1, r2) := by first | (rw [hy204]; with_reducible exact H) | (have H2_ := (Option.bind_some _ _).symm.trans H; rw [hy204]; with_reducible exact H2_) | (have H2_ := (Option.bind_some _ _).symm.trans H; with_reducible exact H2_) | with_reducible exact H | (rw [hy204]; exact H) | exact H
         have Ny204 := Zad.mk hy204
         clear hy204
         have H' := Zad.mk H
         clear H
         have p202 : 0 ≤ (x18_1 : Int) := of_decide_eq_true (by first | (with_reducible assumption) | assumption)
         have q202 : x18_1 < (l0.length : Int) := of_decide_eq_true (by first | (with_reducible assumption) | assumption)
         obtain ⟨ad202, e202, hx202_0⟩ := Kd.at_int HR0.out x18_1 p202 q202
         cases e202
         replace hx202_0 := (HB.out.cell (World.block_lt_of_cell? w _ hx202_0)).trans hx202_0
         replace p202 := eq_true p202
         replace q202 := eq_true q202
         go_wp2_with (first | ((with_reducible refine Zar (f := 28) rfl ?_); refine goesL_ (some 24) rfl rfl Tryz.func28 (by kernel_rfl) rfl #[.int .i64 (rd l0 x18_1)] rfl (by (try simp only [List.map_toArray, List.map_cons, List.map_nil]); first | done | rfl | (simp only [List.length_drop, List.length_take]; rfl)) ?_; (with_reducible refine (impl_Decimal.calls (rd l0 x18_1) t203 _ (Pow10_below HT.out (by repeat (first | (with_reducible first | exact HB.out | apply Zac | apply Zaa | apply Zab) | exact HB.out))) A12.out).mono ?_); rintro e w14 ⟨rfl, hb⟩; refine ⟨_, rfl, ?_⟩; have n0_ := Zad.mk (Kd.R_below (by (with_reducible repeat (first | apply Kd.R_alloc | apply Kd.R_drewN | apply Kd.R_drew)); exact HO_4.out) hb); have n1_ := Zad.mk (Zak (by repeat (first | (with_reducible first | exact HB.out | apply Zac | apply Zaa | apply Zab) | exact HB.out)) hb); clear HO_4; clear HB; have HO_4 := n0_; have HB := n1_; clear n0_ n1_; (try clear hb); (try clear hb2); (try clear hk); (try clear hi)) | ((with_reducible refine gate_builtin (b := .append) (xs := #[.tmp 22, .tmp 25]) rfl ?_); at_builtin; refine Kd.R_append Kd.string (w0 := w) w.heap.size rfl (.tmp 22) (.tmp 25) 64 9 (.string ⟨#[]⟩) 16 rfl Tryz.underlying64 info9 rfl (by decide) (by omega) u4 x4_1 t203 [.string t203] (fun _ => True) (fun _ => False) rfl rfl ?aP (fun _ hk => hk.elim) ?aF ?aO ?aB ?aS ?aL ?_; (case aP => exact rfl); (case aB => exact (by repeat (first | (with_reducible first | exact HB.out | apply Zac | apply Zaa | apply Zab) | exact HB.out))); (case aF => exact (fun _ _ => trivial)); (case aO => exact (by (with_reducible repeat (first | apply Kd.R_alloc | apply Kd.R_drewN | apply Kd.R_drew)); exact HO_4.out)); (case aS => exact (Zam (by repeat (first | (with_reducible first | exact HB.out | apply Zac | apply Zaa | apply Zab) | exact HB.out)))); (case aL => have := LMc13.out; omega); intro v205 w15 ho hb hg hat; rw [← Ny204.out] at ho; have n0_ := Zad.mk (hb); have n1_ := Zad.mk (ho); clear HB; clear HO_4; have HB := n0_; have HO206 := n1_; clear n0_ n1_; clear ho hb hg hat))
         go_roundg k1
         case measure => have := HK1.out; omega
         case rel => exact ⟨(y204), (wrap64 (x18_1 + 1)), (by first | rfl | (simp; done) | (simp [*]; done)), H', ⟨by have := HK1.out; omega⟩, ⟨by (with_reducible repeat (first | apply Kd.R_alloc | apply Kd.R_drewN | apply Kd.R_drew)); exact HO206.out⟩, ⟨by repeat (first | (with_reducible first | exact HB.out | apply Zac | apply Zaa | apply Zab) | exact HB.out)⟩⟩
        ·rw [if_neg c13] at H
         exact absurd H (by simp)
       ·rw [if_neg c11] at H
        exact absurd H (by simp)
      ·rw [if_neg c10] at H
       exact absurd H (by simp)
     ·rw [if_neg c9] at H
      have c9b0 : decide (x18_1 < (l0.length : Int)) = false := decide_eq_false c9
      clear c9
      replace H := Option.bind_eq_some_iff.mp H
      obtain ⟨t207, A160, H⟩ := H
      replace H : (some (t207, true)) = some (r1, r2) := H
      have A16 := Zad.mk A160
      clear A160
      simp only [Option.some.injEq, Prod.mk.injEq] at H
      obtain ⟨rfl, rfl⟩ := H
      obtain ⟨Ao17, co17, eo17⟩ := Kd.R_slice HO_4.out
      subst eo17
      go_wp2_with (first | ((with_reducible refine Zar (f := 42) rfl ?_); refine goesL_ (some 29) rfl rfl Tryz.func42 (by kernel_rfl) rfl #[.slice Ao17 x4_1.length co17, .string (⟨#[44]⟩ : ByteArray)] rfl (by (try simp only [List.map_toArray, List.map_cons, List.map_nil]); first | done | rfl | (simp only [List.length_drop, List.length_take]; rfl)) ?_; (with_reducible refine (strings_Join.calls _ _ x4_1 (⟨#[44]⟩ : ByteArray) t207 _ ?side1 ?side2 A16.out).mono ?_); (case side1 => repeat (first | exact (Kd.R_reads' HO_4.out).2.2 | (with_reducible refine Kd.C_alloc ?_ _) | (with_reducible refine Kd.C_drewN ?_ _) | (with_reducible refine Kd.C_drew ?_))); (case side2 => exact (Kd.R_reads' HO_4.out).2.1); rintro e w18 ⟨rfl, hb⟩; refine ⟨_, rfl, ?_⟩; have n0_ := Zad.mk (Kd.R_below (by (with_reducible repeat (first | apply Kd.R_alloc | apply Kd.R_drewN | apply Kd.R_drew)); exact HO_4.out) hb); have n1_ := Zad.mk (Zak (by repeat (first | (with_reducible first | exact HB.out | apply Zac | apply Zaa | apply Zab) | exact HB.out)) hb); clear HO_4; clear HB; have HO_4 := n0_; have HB := n1_; clear n0_ n1_; (try clear hb); (try clear hb2); (try clear hk); (try clear hi)))
      go_ret2
      exact ⟨by first | rfl | (simp [Zao, Zan] <;> rfl) | (simp [*, Zao, Zan] <;> rfl), by repeat (first | (with_reducible first | exact HB.out | apply Zac | apply Zaa | apply Zab) | exact HB.out)⟩
 ·replace c3 := Bool.eq_false_iff.mpr c3
  subst c3
  have H1 : (some ((⟨#[]⟩ : ByteArray), false)) = some (r1, r2) := by rw [if_neg (show ¬ (false = true) by decide)] at H; exact H
  clear H
  have H := H1
  clear H1
  simp only [Option.some.injEq, Prod.mk.injEq] at H
  obtain ⟨rfl, rfl⟩ := H
  go_enter Tryz.func27, Tryz.ntmps27
  go_wp2_with (first | ((with_reducible refine Zar (f := 41) rfl ?_); refine goesL_ (some 9) rfl rfl Tryz.func41 (by kernel_rfl) rfl #[.slice A0 l0.length c0] rfl (by (try simp only [List.map_toArray, List.map_cons, List.map_nil]); first | done | rfl | (simp only [List.length_drop, List.length_take]; rfl)) ?_; (with_reducible refine (impl_isList.calls k _ _ l0 false _ ?side1 ?side2 A2.out).mono ?_); (case side1 => repeat (first | exact HR0.out | (with_reducible refine Kd.C_alloc ?_ _) | (with_reducible refine Kd.C_drewN ?_ _) | (with_reducible refine Kd.C_drew ?_))); (case side2 => exact HC0.out); rintro e w19 ⟨rfl, hb⟩; refine ⟨_, rfl, ?_⟩; have n0_ := Zad.mk (Zak (by repeat (first | (with_reducible first | exact HB.out | apply Zac | apply Zaa | apply Zab) | exact HB.out)) hb); clear HB; have HB := n0_; clear n0_; (try clear hb); (try clear hb2); (try clear hk); (try clear hi)))
  go_ret2
  exact ⟨by first | rfl | (simp [Zao, Zan] <;> rfl) | (simp [*, Zao, Zan] <;> rfl), by repeat (first | (with_reducible first | exact HB.out | apply Zac | apply Zaa | apply Zab) | exact HB.out)⟩
def impl_ValuesText.f (k : Nat) (a0_0 : Int) (l0_1 : List Int) : Option (ByteArray × Bool) := (Zau.f k a0_0 l0_1).bind fun t209 => (if t209 = true then ((impl_ListText.f k l0_1).bind fun bt210 => ((impl_Decimal.f a0_0).bind fun t212 => (if t212.size + 1 ≤ 9223372036854775807 then (if (t212 ++ (⟨#[58]⟩ : ByteArray)).size + bt210.1.size ≤ 9223372036854775807 then (some ((t212 ++ (⟨#[58]⟩ : ByteArray)) ++ bt210.1, true)) else (none)) else (none)))) else (some ((⟨#[]⟩ : ByteArray), false)))
set_option maxHeartbeats 8000000 in
set_option maxRecDepth 100000 in
theorem impl_ValuesText.calls (k : Nat) (a0_0 : Int) (A0_1 : Option Addr) (c0_1 : Nat) (l0_1 : List Int) (r1 : ByteArray) (r2 : Bool) (w : World) (hr0_1 : Kd.C (Kd.int .i64) w A0_1 l0_1.length l0_1) (hc0_1 : l0_1.length ≤ c0_1) (hT : Pow10 w) (h : impl_ValuesText.f k a0_0 l0_1 = some (r1, r2)) :
  Calls Tryz.prog 9 #[.agg #[.int .i64 a0_0, .slice A0_1 l0_1.length c0_1]] w fun e w' => e = .returned (.tuple #[.string r1, .bool r2]) ∧ Below w.heap.size w w' := by
 have hu26 := Tryz.underlying26
 have HR0_1 := Zad.mk hr0_1
 have HC0_1 := Zad.mk hc0_1
 clear hr0_1 hc0_1
 have HB := Zad.mk (Below.refl w.heap.size w)
 have HT := Zad.mk hT
 clear hT
 have H : ((Zau.f k a0_0 l0_1).bind fun t209 => (if t209 = true then ((impl_ListText.f k l0_1).bind fun bt210 => ((impl_Decimal.f a0_0).bind fun t212 => (if t212.size + 1 ≤ 9223372036854775807 then (if (t212 ++ (⟨#[58]⟩ : ByteArray)).size + bt210.1.size ≤ 9223372036854775807 then (some ((t212 ++ (⟨#[58]⟩ : ByteArray)) ++ bt210.1, true)) else (none)) else (none)))) else (some ((⟨#[]⟩ : ByteArray), false)))) = some (r1, r2) := h
 clear h
 replace H := Option.bind_eq_some_iff.mp H
 obtain ⟨t209, A20, H⟩ := H
 replace H : (if t209 = true then ((impl_ListText.f k l0_1).bind fun bt210 => ((impl_Decimal.f a0_0).bind fun t212 => (if t212.size + 1 ≤ 9223372036854775807 then (if (t212 ++ (⟨#[58]⟩ : ByteArray)).size + bt210.1.size ≤ 9223372036854775807 then (some ((t212 ++ (⟨#[58]⟩ : ByteArray)) ++ bt210.1, true)) else (none)) else (none)))) else (some ((⟨#[]⟩ : ByteArray), false))) = some (r1, r2) := H
 have A2 := Zad.mk A20
 clear A20
 by_cases c3 : t209 = true
 ·subst c3
  have H1 : ((impl_ListText.f k l0_1).bind fun bt210 => ((impl_Decimal.f a0_0).bind fun t212 => (if t212.size + 1 ≤ 9223372036854775807 then (if (t212 ++ (⟨#[58]⟩ : ByteArray)).size + bt210.1.size ≤ 9223372036854775807 then (some ((t212 ++ (⟨#[58]⟩ : ByteArray)) ++ bt210.1, true)) else (none)) else (none)))) = some (r1, r2) := by rw [if_pos rfl] at H; exact H
  clear H
  have H := H1
  clear H1
  replace H := Option.bind_eq_some_iff.mp H
  obtain ⟨⟨t210, t211⟩, A40, H⟩ := H
  replace H : ((impl_Decimal.f a0_0).bind fun t212 => (if t212.size + 1 ≤ 9223372036854775807 then (if (t212 ++ (⟨#[58]⟩ : ByteArray)).size + t210.size ≤ 9223372036854775807 then (some ((t212 ++ (⟨#[58]⟩ : ByteArray)) ++ t210, true)) else (none)) else (none))) = some (r1, r2) := H
  have A4 := Zad.mk A40
  clear A40
  replace H := Option.bind_eq_some_iff.mp H
  obtain ⟨t212, A50, H⟩ := H
  replace H : (if t212.size + 1 ≤ 9223372036854775807 then (if (t212 ++ (⟨#[58]⟩ : ByteArray)).size + t210.size ≤ 9223372036854775807 then (some ((t212 ++ (⟨#[58]⟩ : ByteArray)) ++ t210, true)) else (none)) else (none)) = some (r1, r2) := H
  have A5 := Zad.mk A50
  clear A50
  by_cases c6 : t212.size + 1 ≤ 9223372036854775807
  ·rw [if_pos c6] at H
   have c6b0 := eq_true c6
   have c6b1 : decide (t212.size + 1 ≤ 9223372036854775807) = true := decide_eq_true c6
   try have c6b2 : (9223372036854775807 < t212.size + 1) = False := eq_false (Nat.not_lt.2 c6)
   by_cases c7 : (t212 ++ (⟨#[58]⟩ : ByteArray)).size + t210.size ≤ 9223372036854775807
   ·rw [if_pos c7] at H
    have c7b0 := eq_true c7
    have c7b1 : decide ((t212 ++ (⟨#[58]⟩ : ByteArray)).size + t210.size ≤ 9223372036854775807) = true := decide_eq_true c7
    try have c7b2 : (9223372036854775807 < (t212 ++ (⟨#[58]⟩ : ByteArray)).size + t210.size) = False := eq_false (Nat.not_lt.2 c7)
    (try (have c7b3 := c7b2; rw [ByteArray.size_append] at c7b3))
    (try (have c7b4 := c7b2; simp only [ByteArray.size_append, show ∀ b : UInt8, (⟨#[b]⟩ : ByteArray).size = 1 from fun _ => rfl] at c7b4))
    simp only [Option.some.injEq, Prod.mk.injEq] at H
    obtain ⟨rfl, rfl⟩ := H
    go_enter Tryz.func9, Tryz.ntmps9
    go_wp2_with (first | ((with_reducible refine gate_dst (N := 1) rfl ?_); refine box_event ?hg (N := 1) ?hd (cs := #[.int .i64 a0_0, .slice A0_1 l0_1.length c0_1]) (t := 26) ?hr ?_; (case hd => rfl); (case hg => rfl); (case hr => first | (go_simp; done) | (go_simp; rfl)); intro gb208 hg w8 hbox hb; have n0_ := Zad.mk (Zak (by repeat (first | (with_reducible first | exact HB.out | apply Zac | apply Zaa | apply Zab) | exact HB.out)) hb); have n1_ := Zad.mk (hbox); have n2_ := Zad.mk ((by rw [hg]; exact (Zam (by repeat (first | (with_reducible first | exact HB.out | apply Zac | apply Zaa | apply Zab) | exact HB.out))) : w.heap.size ≤ gb208)); have n3_ := Zad.mk ((by rw [hg]; exact (Zam (by repeat (first | (with_reducible first | exact HB.out | apply Zac | apply Zaa | apply Zab) | exact HB.out))) : w.heap.size ≤ gb208)); clear HB; have HB := n0_; have BK208 := n1_; have GW208 := n2_; have GE208 := n3_; clear n0_ n1_ n2_ n3_; clear hb hbox hg; have hcz9_0 : w8.cell? ⟨gb208, 0, none⟩ = some (.int .i64 a0_0) := (Zaj BK208.out 0).trans rfl; have hcz9_1 : w8.cell? ⟨gb208, 1, none⟩ = some (.slice A0_1 l0_1.length c0_1) := (Zaj BK208.out 1).trans rfl; have hfz9_0 := Zai BK208.out 0; have hfz9_1 := Zai BK208.out 1) | ((with_reducible refine Zar (f := 23) rfl ?_); refine goesL_ (some 7) rfl rfl Tryz.func23 (by kernel_rfl) rfl #[.agg #[.int .i64 a0_0, .slice A0_1 l0_1.length c0_1]] rfl (by (try simp only [List.map_toArray, List.map_cons, List.map_nil]); first | done | rfl | (simp only [List.length_drop, List.length_take]; rfl)) ?_; (with_reducible refine (Zau.calls k a0_0 _ _ l0_1 true _ ?side1 ?side2 A2.out).mono ?_); (case side1 => repeat (first | exact (Kd.C_below HR0_1.out HB.out) | (with_reducible refine Kd.C_alloc ?_ _) | (with_reducible refine Kd.C_drewN ?_ _) | (with_reducible refine Kd.C_drew ?_))); (case side2 => exact HC0_1.out); rintro e w10 ⟨rfl, hb⟩; refine ⟨_, rfl, ?_⟩; have n0_ := Zad.mk (Zap (g := gb208) (o := .cells #[.int .i64 a0_0, .slice A0_1 l0_1.length c0_1] 26 (0, 0)) (by (with_reducible repeat (first | refine Zag ?_ _ | refine Zah ?_ | refine Zaf ?_ _)); exact BK208.out) hb); have n1_ := Zad.mk (Zak (by repeat (first | (with_reducible first | exact HB.out | apply Zac | apply Zaa | apply Zab | refine Zae ?_ GE208.out) | exact HB.out)) hb); clear BK208; clear HB; have BK208 := n0_; have HB := n1_; clear n0_ n1_; (try clear hb); (try clear hb2); (try clear hk); (try clear hi); have hcz11_0 : w10.cell? ⟨gb208, 0, none⟩ = some (.int .i64 a0_0) := (Zaj BK208.out 0).trans rfl; have hcz11_1 : w10.cell? ⟨gb208, 1, none⟩ = some (.slice A0_1 l0_1.length c0_1) := (Zaj BK208.out 1).trans rfl; have hfz11_0 := Zai BK208.out 0; have hfz11_1 := Zai BK208.out 1) | ((with_reducible refine Zar (f := 27) rfl ?_); refine goesL_ (some 12) rfl rfl Tryz.func27 (by kernel_rfl) rfl #[.slice A0_1 l0_1.length c0_1] rfl (by (try simp only [List.map_toArray, List.map_cons, List.map_nil]); first | done | rfl | (simp only [List.length_drop, List.length_take]; rfl)) ?_; (with_reducible refine (impl_ListText.calls k _ _ l0_1 t210 t211 _ ?side1 ?side2 (Pow10_below HT.out (by repeat (first | (with_reducible first | exact HB.out | apply Zac | apply Zaa | apply Zab | refine Zae ?_ GE208.out) | exact HB.out))) A4.out).mono ?_); (case side1 => repeat (first | exact (Kd.C_below HR0_1.out HB.out) | (with_reducible refine Kd.C_alloc ?_ _) | (with_reducible refine Kd.C_drewN ?_ _) | (with_reducible refine Kd.C_drew ?_))); (case side2 => exact HC0_1.out); rintro e w12 ⟨rfl, hb⟩; refine ⟨_, rfl, ?_⟩; have n0_ := Zad.mk (Zap (g := gb208) (o := .cells #[.int .i64 a0_0, .slice A0_1 l0_1.length c0_1] 26 (0, 0)) (by (with_reducible repeat (first | refine Zag ?_ _ | refine Zah ?_ | refine Zaf ?_ _)); exact BK208.out) hb); have n1_ := Zad.mk (Zak (by repeat (first | (with_reducible first | exact HB.out | apply Zac | apply Zaa | apply Zab | refine Zae ?_ GE208.out) | exact HB.out)) hb); clear BK208; clear HB; have BK208 := n0_; have HB := n1_; clear n0_ n1_; (try clear hb); (try clear hb2); (try clear hk); (try clear hi); have hcz13_0 : w12.cell? ⟨gb208, 0, none⟩ = some (.int .i64 a0_0) := (Zaj BK208.out 0).trans rfl; have hcz13_1 : w12.cell? ⟨gb208, 1, none⟩ = some (.slice A0_1 l0_1.length c0_1) := (Zaj BK208.out 1).trans rfl; have hfz13_0 := Zai BK208.out 0; have hfz13_1 := Zai BK208.out 1) | ((with_reducible refine Zar (f := 28) rfl ?_); refine goesL_ (some 17) rfl rfl Tryz.func28 (by kernel_rfl) rfl #[.int .i64 a0_0] rfl (by (try simp only [List.map_toArray, List.map_cons, List.map_nil]); first | done | rfl | (simp only [List.length_drop, List.length_take]; rfl)) ?_; (with_reducible refine (impl_Decimal.calls a0_0 t212 _ (Pow10_below HT.out (by repeat (first | (with_reducible first | exact HB.out | apply Zac | apply Zaa | apply Zab | refine Zae ?_ GE208.out) | exact HB.out))) A5.out).mono ?_); rintro e w14 ⟨rfl, hb⟩; refine ⟨_, rfl, ?_⟩; have n0_ := Zad.mk (Zap (g := gb208) (o := .cells #[.int .i64 a0_0, .slice A0_1 l0_1.length c0_1] 26 (0, 0)) (by (with_reducible repeat (first | refine Zag ?_ _ | refine Zah ?_ | refine Zaf ?_ _)); exact BK208.out) hb); have n1_ := Zad.mk (Zak (by repeat (first | (with_reducible first | exact HB.out | apply Zac | apply Zaa | apply Zab | refine Zae ?_ GE208.out) | exact HB.out)) hb); clear BK208; clear HB; have BK208 := n0_; have HB := n1_; clear n0_ n1_; (try clear hb); (try clear hb2); (try clear hk); (try clear hi)))
    go_ret2
    exact ⟨by first | rfl | (simp [Zao, Zan] <;> rfl) | (simp [*, Zao, Zan] <;> rfl), by repeat (first | (with_reducible first | exact HB.out | apply Zac | apply Zaa | apply Zab | refine Zae ?_ GE208.out) | exact HB.out)⟩
   ·rw [if_neg c7] at H
    exact absurd H (by simp)
  ·rw [if_neg c6] at H
   exact absurd H (by simp)
 ·replace c3 := Bool.eq_false_iff.mpr c3
  subst c3
  have H1 : (some ((⟨#[]⟩ : ByteArray), false)) = some (r1, r2) := by rw [if_neg (show ¬ (false = true) by decide)] at H; exact H
  clear H
  have H := H1
  clear H1
  simp only [Option.some.injEq, Prod.mk.injEq] at H
  obtain ⟨rfl, rfl⟩ := H
  go_enter Tryz.func9, Tryz.ntmps9
  go_wp2_with (first | ((with_reducible refine gate_dst (N := 1) rfl ?_); refine box_event ?hg (N := 1) ?hd (cs := #[.int .i64 a0_0, .slice A0_1 l0_1.length c0_1]) (t := 26) ?hr ?_; (case hd => rfl); (case hg => rfl); (case hr => first | (go_simp; done) | (go_simp; rfl)); intro gb208 hg w15 hbox hb; have n0_ := Zad.mk (Zak (by repeat (first | (with_reducible first | exact HB.out | apply Zac | apply Zaa | apply Zab) | exact HB.out)) hb); have n1_ := Zad.mk (hbox); have n2_ := Zad.mk ((by rw [hg]; exact (Zam (by repeat (first | (with_reducible first | exact HB.out | apply Zac | apply Zaa | apply Zab) | exact HB.out))) : w.heap.size ≤ gb208)); have n3_ := Zad.mk ((by rw [hg]; exact (Zam (by repeat (first | (with_reducible first | exact HB.out | apply Zac | apply Zaa | apply Zab) | exact HB.out))) : w.heap.size ≤ gb208)); clear HB; have HB := n0_; have BK208 := n1_; have GW208 := n2_; have GE208 := n3_; clear n0_ n1_ n2_ n3_; clear hb hbox hg; have hcz16_0 : w15.cell? ⟨gb208, 0, none⟩ = some (.int .i64 a0_0) := (Zaj BK208.out 0).trans rfl; have hcz16_1 : w15.cell? ⟨gb208, 1, none⟩ = some (.slice A0_1 l0_1.length c0_1) := (Zaj BK208.out 1).trans rfl; have hfz16_0 := Zai BK208.out 0; have hfz16_1 := Zai BK208.out 1) | ((with_reducible refine Zar (f := 23) rfl ?_); refine goesL_ (some 7) rfl rfl Tryz.func23 (by kernel_rfl) rfl #[.agg #[.int .i64 a0_0, .slice A0_1 l0_1.length c0_1]] rfl (by (try simp only [List.map_toArray, List.map_cons, List.map_nil]); first | done | rfl | (simp only [List.length_drop, List.length_take]; rfl)) ?_; (with_reducible refine (Zau.calls k a0_0 _ _ l0_1 false _ ?side1 ?side2 A2.out).mono ?_); (case side1 => repeat (first | exact (Kd.C_below HR0_1.out HB.out) | (with_reducible refine Kd.C_alloc ?_ _) | (with_reducible refine Kd.C_drewN ?_ _) | (with_reducible refine Kd.C_drew ?_))); (case side2 => exact HC0_1.out); rintro e w17 ⟨rfl, hb⟩; refine ⟨_, rfl, ?_⟩; have n0_ := Zad.mk (Zap (g := gb208) (o := .cells #[.int .i64 a0_0, .slice A0_1 l0_1.length c0_1] 26 (0, 0)) (by (with_reducible repeat (first | refine Zag ?_ _ | refine Zah ?_ | refine Zaf ?_ _)); exact BK208.out) hb); have n1_ := Zad.mk (Zak (by repeat (first | (with_reducible first | exact HB.out | apply Zac | apply Zaa | apply Zab | refine Zae ?_ GE208.out) | exact HB.out)) hb); clear BK208; clear HB; have BK208 := n0_; have HB := n1_; clear n0_ n1_; (try clear hb); (try clear hb2); (try clear hk); (try clear hi)))
  go_ret2
  exact ⟨by first | rfl | (simp [Zao, Zan] <;> rfl) | (simp [*, Zao, Zan] <;> rfl), by repeat (first | (with_reducible first | exact HB.out | apply Zac | apply Zaa | apply Zab | refine Zae ?_ GE208.out) | exact HB.out)⟩
def impl_ReadList.l0 : Nat → List Int → List ByteArray → Int → Int → Option (List Int × Bool)
 | 0, _, _, _, _ => none
 | k + 1, x4, x13, x14, x15 => if x15 < x14 then (if 0 ≤ x15 then (if x15 < (x13.length : Int) then ((impl_ReadDecimal.f (rdOf ByteArray.empty x13 x15)).bind fun bt220 => (if bt220.2 = true then (if x4.length < 17592186044416 then (impl_ReadList.l0 k (x4 ++ [bt220.1]) x13 x14 (wrap64 (x15 + 1))) else (none)) else (some (([] : List Int), false)))) else (none)) else (none)) else ((impl_isList.f k x4).bind fun t225 => (if t225 = true then (some (x4, true)) else (some (([] : List Int), false))))
def impl_ReadList.f (k : Nat) (a0 : ByteArray) : Option (List Int × Bool) := if a0.toList = ([45] : List UInt8) then (some (([] : List Int), true)) else ((strings_Split.f a0 (⟨#[44]⟩ : ByteArray)).bind fun t216 => (impl_ReadList.l0 k (([] : List Int)) t216 (t216.length : Int) 0))
set_option maxHeartbeats 8000000 in
set_option maxRecDepth 100000 in
theorem impl_ReadList.calls (k : Nat) (a0 : ByteArray) (r1 : List Int) (r2 : Bool) (w : World) (hT : Pow10 w) (h : impl_ReadList.f k a0 = some (r1, r2)) :
  Calls Tryz.prog 31 #[.string a0] w fun e w' => ∃ v0_ : Value, e = .returned (.tuple #[v0_, .bool r2]) ∧ Kd.R (Kd.int .i64) 2 w' w.heap.size (fun _ => True) v0_ r1 ∧ Below w.heap.size w w' := by
 have HB := Zad.mk (Below.refl w.heap.size w)
 have HT := Zad.mk hT
 clear hT
 have H : (if a0.toList = ([45] : List UInt8) then (some (([] : List Int), true)) else ((strings_Split.f a0 (⟨#[44]⟩ : ByteArray)).bind fun t216 => (impl_ReadList.l0 k (([] : List Int)) t216 (t216.length : Int) 0))) = some (r1, r2) := h
 clear h
 by_cases c2 : a0.toList = ([45] : List UInt8)
 ·rw [if_pos c2] at H
  have c2b0 : (a0.toList == ([45] : List UInt8)) = true := beq_iff_eq.mpr c2
  have c2b1 : (a0.toList != ([45] : List UInt8)) = false := bne_eq_false_iff_eq.mpr c2
  clear c2
  simp only [Option.some.injEq, Prod.mk.injEq] at H
  obtain ⟨rfl, rfl⟩ := H
  go_enter Tryz.func31, Tryz.ntmps31
  go_wp2
  go_ret2
  exact ⟨_, by first | rfl | (simp [Zao, Zan] <;> rfl) | (simp [*, Zao, Zan] <;> rfl), by first | exact Kd.R_nil _ _ _ _ _ | exact Kd.N_nil _ _ _ _ _ | exact Kd.V_nil _ _ _ _ _ | exact Kd.Q_nil _ _ _ _ _ | exact Kd.S_nil _ _ _ _ _, by repeat (first | (with_reducible first | exact HB.out | apply Zac | apply Zaa | apply Zab) | exact HB.out)⟩
 ·rw [if_neg c2] at H
  have c2b0 : (a0.toList == ([45] : List UInt8)) = false := beq_eq_false_iff_ne.mpr c2
  have c2b1 : (a0.toList != ([45] : List UInt8)) = true := bne_iff_ne.mpr c2
  obtain ⟨y213, hy213⟩ : ∃ y_ : List Int, y_ = (([] : List Int)) := ⟨_, rfl⟩
  replace H : ((strings_Split.f a0 (⟨#[44]⟩ : ByteArray)).bind fun t216 => (impl_ReadList.l0 k y213 t216 (t216.length : Int) 0)) = some (r1, r2) := by first | (rw [hy213]; with_reducible exact H) | (have H2_ := (Option.bind_some _ _).symm.trans H; rw [hy213]; with_reducible exact H2_) | (have H2_ := (Option.bind_some _ _).symm.trans H; with_reducible exact H2_) | with_reducible exact H | (rw [hy213]; exact H) | exact H
  have Ny213 := Zad.mk hy213
  clear hy213
  replace H := Option.bind_eq_some_iff.mp H
  obtain ⟨t216, A30, H⟩ := H
  replace H : (impl_ReadList.l0 k y213 t216 (t216.length : Int) 0) = some (r1, r2) := H
  have A3 := Zad.mk A30
  clear A30
  have H' := Zad.mk H
  clear H
  go_enter Tryz.func31, Tryz.ntmps31
  go_wp2_with (first | ((with_reducible refine gate_dst (N := 11) rfl ?_); refine Kd.R_lit (Kd.int .i64) _ 2 ?hg (N := 11) ?hd (xs := ([] : List Int)) (inner := []) (ok := fun _ => True) (okp := fun _ => True) ?hr ?hp (fun _ hk => hk) trivial (Below.refl _ _) (Nat.le_refl _) (by simp) ?_; (case hd => rfl); (case hg => rfl); (case hr => first | (go_simp; done) | (go_simp; rfl)); (case hp => exact (Reps.none _ _)); intro v214 w4 ho5 hb hg_ hnew_; clear hg_ hnew_; (first | rw [← Ny213.out] at ho5 | (simp only [Int.reduceToNat] at ho5; rw [← Ny213.out] at ho5)); have n0_ := Zad.mk (Kd.R_lower ho5 (Zam (by repeat (first | (with_reducible first | exact HB.out | apply Zac | apply Zaa | apply Zab) | exact HB.out)))); have n1_ := Zad.mk (Zak (by repeat (first | (with_reducible first | exact HB.out | apply Zac | apply Zaa | apply Zab) | exact HB.out)) hb); clear HB; have HO215 := n0_; have HB := n1_; clear n0_ n1_; clear hb ho5) | ((with_reducible refine Zar (f := 46) rfl ?_); refine goesL_ (some 13) rfl rfl Tryz.func46 (by kernel_rfl) rfl #[.string a0, .string (⟨#[44]⟩ : ByteArray)] rfl (by (try simp only [List.map_toArray, List.map_cons, List.map_nil]); first | done | rfl | (simp only [List.length_drop, List.length_take]; rfl)) ?_; (with_reducible refine (strings_Split.calls a0 (⟨#[44]⟩ : ByteArray) t216 _ (Pow10_below HT.out (by repeat (first | (with_reducible first | exact HB.out | apply Zac | apply Zaa | apply Zab) | exact HB.out))) A3.out).mono ?_); rintro e w6 ⟨v217, rfl, ho0, hb⟩; refine ⟨_, rfl, ?_⟩; have n0_ := Zad.mk (Kd.R_below (by (with_reducible repeat (first | apply Kd.R_alloc | apply Kd.R_drewN | apply Kd.R_drew)); exact HO215.out) hb); have n1_ := Zad.mk (Kd.R_lower ho0 (Zam (by repeat (first | (with_reducible first | exact HB.out | apply Zac | apply Zaa | apply Zab) | exact HB.out)))); have n2_ := Zad.mk (Zak (by repeat (first | (with_reducible first | exact HB.out | apply Zac | apply Zaa | apply Zab) | exact HB.out)) hb); clear HO215; clear HB; have HO215 := n0_; have HO218 := n1_; have HB := n2_; clear n0_ n1_ n2_; (try clear hb); (try clear hb2); (try clear hk); (try clear hi); (try clear ho0); obtain ⟨Ao7, co7, eo7⟩ := Kd.R_slice HO218.out; subst eo7))
  try simp only [Act.put, List.setIfInBounds_toArray, List.set_cons_zero, List.set_cons_succ]
  go_loopg [4, 15] k (fun kq v4 v15 w' => ∃ (x4_1 : List Int) (x15_1 : Int), v15 = .int .i64 x15_1 ∧ Zad (impl_ReadList.l0 kq x4_1 t216 (t216.length : Int) x15_1 = some (r1, r2)) ∧ Zad (kq ≤ k) ∧ Zad (Kd.R (Kd.int .i64) 2 w' w.heap.size (fun _ => True) v4 x4_1) ∧ Zad (Kd.R Kd.string 9 w' w.heap.size (fun _ => True) (.slice Ao7 t216.length co7) t216) ∧ Zad (Below w.heap.size w w'))
  case atStart => exact ⟨(y213), (0), (by first | rfl | (simp; done) | (simp [*]; done)), H', ⟨Nat.le_refl _⟩, ⟨by (with_reducible repeat (first | apply Kd.R_alloc | apply Kd.R_drewN | apply Kd.R_drew)); exact HO215.out⟩, ⟨by (with_reducible repeat (first | apply Kd.R_alloc | apply Kd.R_drewN | apply Kd.R_drew)); exact HO218.out⟩, ⟨by repeat (first | (with_reducible first | exact HB.out | apply Zac | apply Zaa | apply Zab) | exact HB.out)⟩⟩
  case round =>
   clear H'
   try clear c2
   try clear c2b0
   try clear c2b1
   try clear p2
   try clear c3
   try clear c4
   obtain ⟨x4_1, x15_1, rfl, HA, HK1, HO_4, HO_13, HB⟩ := hrel
   cases gk with
   | zero => exact absurd HA.out (by simp [impl_ReadList.l0])
   | succ k1 =>
    have H := HA.out
    clear HA
    simp only [impl_ReadList.l0] at H
    by_cases c8 : x15_1 < (t216.length : Int)
    ·rw [if_pos c8] at H
     have c8b0 : decide (x15_1 < (t216.length : Int)) = true := decide_eq_true c8
     clear c8
     by_cases c9 : 0 ≤ x15_1
     ·rw [if_pos c9] at H
      have c9b0 : decide (0 ≤ x15_1) = true := decide_eq_true c9
      clear c9
      by_cases c10 : x15_1 < (t216.length : Int)
      ·rw [if_pos c10] at H
       have c10b0 : decide (x15_1 < (t216.length : Int)) = true := decide_eq_true c10
       clear c10
       replace H := Option.bind_eq_some_iff.mp H
       obtain ⟨⟨t220, t221⟩, A110, H⟩ := H
       replace H : (if t221 = true then (if x4_1.length < 17592186044416 then (impl_ReadList.l0 k1 (x4_1 ++ [t220]) t216 (t216.length : Int) (wrap64 (x15_1 + 1))) else (none)) else (some (([] : List Int), false))) = some (r1, r2) := H
       have A11 := Zad.mk A110
       clear A110
       by_cases c12 : t221 = true
       ·subst c12
        have H1 : (if x4_1.length < 17592186044416 then (impl_ReadList.l0 k1 (x4_1 ++ [t220]) t216 (t216.length : Int) (wrap64 (x15_1 + 1))) else (none)) = some (r1, r2) := by rw [if_pos rfl] at H; exact H
        clear H
        have H := H1
        clear H1
        by_cases c13 : x4_1.length < 17592186044416
        ·rw [if_pos c13] at H
         have LMc13 := Zad.mk c13
         clear c13
         obtain ⟨y222, hy222⟩ : ∃ y_ : List Int, y_ = (x4_1 ++ [t220]) := ⟨_, rfl⟩
         replace H : (impl_ReadList.l0 k1 y222 t216 (t216.length : Int) (wrap64 (x15_1 + 1))) = some (r1, r2) := by first | (rw [hy222]; with_reducible exact H) | (have H2_ := (Option.bind_some _ _).symm.trans H; rw [hy222]; with_reducible exact H2_) | (have H2_ := (Option.bind_some _ _).symm.trans H; with_reducible exact H2_) | with_reducible exact H | (rw [hy222]; exact H) | exact H
         have Ny222 := Zad.mk hy222
         clear hy222
         have H' := Zad.mk H
         clear H
         have p219 : 0 ≤ (x15_1 : Int) := of_decide_eq_true (by first | (with_reducible assumption) | assumption)
         have q219 : x15_1 < (t216.length : Int) := of_decide_eq_true (by first | (with_reducible assumption) | assumption)
         obtain ⟨ad219, e219, hx219_0⟩ := Kd.at_string (Kd.R_reads' HO_13.out).2.2 x15_1 p219 q219
         cases e219
         replace p219 := eq_true p219
         replace q219 := eq_true q219
         go_wp2_with (first | ((with_reducible refine Zar (f := 30) rfl ?_); refine goesL_ (some 21) rfl rfl Tryz.func30 (by kernel_rfl) rfl #[.string (rdOf ByteArray.empty t216 x15_1)] rfl (by (try simp only [List.map_toArray, List.map_cons, List.map_nil]); first | done | rfl | (simp only [List.length_drop, List.length_take]; rfl)) ?_; (with_reducible refine (impl_ReadDecimal.calls (rdOf ByteArray.empty t216 x15_1) t220 true _ (Pow10_below HT.out (by repeat (first | (with_reducible first | exact HB.out | apply Zac | apply Zaa | apply Zab) | exact HB.out))) A11.out).mono ?_); rintro e w14 ⟨rfl, hb⟩; refine ⟨_, rfl, ?_⟩; have n0_ := Zad.mk (Kd.R_below (by (with_reducible repeat (first | apply Kd.R_alloc | apply Kd.R_drewN | apply Kd.R_drew)); exact HO_4.out) hb); have n1_ := Zad.mk (Kd.R_below (by (with_reducible repeat (first | apply Kd.R_alloc | apply Kd.R_drewN | apply Kd.R_drew)); exact HO_13.out) hb); have n2_ := Zad.mk (Zak (by repeat (first | (with_reducible first | exact HB.out | apply Zac | apply Zaa | apply Zab) | exact HB.out)) hb); clear HO_4; clear HO_13; clear HB; have HO_4 := n0_; have HO_13 := n1_; have HB := n2_; clear n0_ n1_ n2_; (try clear hb); (try clear hb2); (try clear hk); (try clear hi)) | ((with_reducible refine gate_builtin (b := .append) (xs := #[.tmp 26, .tmp 28]) rfl ?_); at_builtin; refine Kd.R_append (Kd.int .i64) (w0 := w) w.heap.size rfl (.tmp 26) (.tmp 28) 24 2 (.int .i64 0) 8 rfl Tryz.underlying24 info2 rfl (by decide) (by omega) u4 x4_1 t220 [.int .i64 t220] (fun _ => True) (fun _ => False) rfl rfl ?aP (fun _ hk => hk.elim) ?aF ?aO ?aB ?aS ?aL ?_; (case aP => exact rfl); (case aB => exact (by repeat (first | (with_reducible first | exact HB.out | apply Zac | apply Zaa | apply Zab) | exact HB.out))); (case aF => exact (fun _ _ => trivial)); (case aO => exact (by (with_reducible repeat (first | apply Kd.R_alloc | apply Kd.R_drewN | apply Kd.R_drew)); exact HO_4.out)); (case aS => exact (Zam (by repeat (first | (with_reducible first | exact HB.out | apply Zac | apply Zaa | apply Zab) | exact HB.out)))); (case aL => have := LMc13.out; omega); intro v223 w15 ho hb hg hat; rw [← Ny222.out] at ho; have n0_ := Zad.mk (Kd.R_over' (by (with_reducible repeat (first | apply Kd.R_alloc | apply Kd.R_drewN | apply Kd.R_drew)); exact HO_13.out) (Kd.R_typed (by (with_reducible repeat (first | apply Kd.R_alloc | apply Kd.R_drewN | apply Kd.R_drew)); exact HO_4.out)) (by decide) hg); have n1_ := Zad.mk (hb); have n2_ := Zad.mk (ho); clear HO_13; clear HB; clear HO_4; have HO_13 := n0_; have HB := n1_; have HO224 := n2_; clear n0_ n1_ n2_; clear ho hb hg hat))
         go_roundg k1
         case measure => have := HK1.out; omega
         case rel => exact ⟨(y222), (wrap64 (x15_1 + 1)), (by first | rfl | (simp; done) | (simp [*]; done)), H', ⟨by have := HK1.out; omega⟩, ⟨by (with_reducible repeat (first | apply Kd.R_alloc | apply Kd.R_drewN | apply Kd.R_drew)); exact HO224.out⟩, ⟨by (with_reducible repeat (first | apply Kd.R_alloc | apply Kd.R_drewN | apply Kd.R_drew)); exact HO_13.out⟩, ⟨by repeat (first | (with_reducible first | exact HB.out | apply Zac | apply Zaa | apply Zab) | exact HB.out)⟩⟩
        ·rw [if_neg c13] at H
         exact absurd H (by simp)
       ·replace c12 := Bool.eq_false_iff.mpr c12
        subst c12
        have H1 : (some (([] : List Int), false)) = some (r1, r2) := by rw [if_neg (show ¬ (false = true) by decide)] at H; exact H
        clear H
        have H := H1
        clear H1
        simp only [Option.some.injEq, Prod.mk.injEq] at H
        obtain ⟨rfl, rfl⟩ := H
        have p219 : 0 ≤ (x15_1 : Int) := of_decide_eq_true (by first | (with_reducible assumption) | assumption)
        have q219 : x15_1 < (t216.length : Int) := of_decide_eq_true (by first | (with_reducible assumption) | assumption)
        obtain ⟨ad219, e219, hx219_0⟩ := Kd.at_string (Kd.R_reads' HO_13.out).2.2 x15_1 p219 q219
        cases e219
        replace p219 := eq_true p219
        replace q219 := eq_true q219
        go_wp2_with (first | ((with_reducible refine Zar (f := 30) rfl ?_); refine goesL_ (some 21) rfl rfl Tryz.func30 (by kernel_rfl) rfl #[.string (rdOf ByteArray.empty t216 x15_1)] rfl (by (try simp only [List.map_toArray, List.map_cons, List.map_nil]); first | done | rfl | (simp only [List.length_drop, List.length_take]; rfl)) ?_; (with_reducible refine (impl_ReadDecimal.calls (rdOf ByteArray.empty t216 x15_1) t220 false _ (Pow10_below HT.out (by repeat (first | (with_reducible first | exact HB.out | apply Zac | apply Zaa | apply Zab) | exact HB.out))) A11.out).mono ?_); rintro e w16 ⟨rfl, hb⟩; refine ⟨_, rfl, ?_⟩; have n0_ := Zad.mk (Kd.R_below (by (with_reducible repeat (first | apply Kd.R_alloc | apply Kd.R_drewN | apply Kd.R_drew)); exact HO_4.out) hb); have n1_ := Zad.mk (Kd.R_below (by (with_reducible repeat (first | apply Kd.R_alloc | apply Kd.R_drewN | apply Kd.R_drew)); exact HO_13.out) hb); have n2_ := Zad.mk (Zak (by repeat (first | (with_reducible first | exact HB.out | apply Zac | apply Zaa | apply Zab) | exact HB.out)) hb); clear HO_4; clear HO_13; clear HB; have HO_4 := n0_; have HO_13 := n1_; have HB := n2_; clear n0_ n1_ n2_; (try clear hb); (try clear hb2); (try clear hk); (try clear hi)))
        go_ret2
        exact ⟨_, by first | rfl | (simp [Zao, Zan] <;> rfl) | (simp [*, Zao, Zan] <;> rfl), by first | exact Kd.R_nil _ _ _ _ _ | exact Kd.N_nil _ _ _ _ _ | exact Kd.V_nil _ _ _ _ _ | exact Kd.Q_nil _ _ _ _ _ | exact Kd.S_nil _ _ _ _ _, by repeat (first | (with_reducible first | exact HB.out | apply Zac | apply Zaa | apply Zab) | exact HB.out)⟩
      ·rw [if_neg c10] at H
       exact absurd H (by simp)
     ·rw [if_neg c9] at H
      exact absurd H (by simp)
    ·rw [if_neg c8] at H
     have c8b0 : decide (x15_1 < (t216.length : Int)) = false := decide_eq_false c8
     clear c8
     replace H := Option.bind_eq_some_iff.mp H
     obtain ⟨t225, A170, H⟩ := H
     replace H : (if t225 = true then (some (x4_1, true)) else (some (([] : List Int), false))) = some (r1, r2) := H
     have A17 := Zad.mk A170
     clear A170
     by_cases c18 : t225 = true
     ·subst c18
      have H1 : (some (x4_1, true)) = some (r1, r2) := by rw [if_pos rfl] at H; exact H
      clear H
      have H := H1
      clear H1
      simp only [Option.some.injEq, Prod.mk.injEq] at H
      obtain ⟨rfl, rfl⟩ := H
      obtain ⟨Ao19, co19, eo19⟩ := Kd.R_slice HO_4.out
      subst eo19
      go_wp2_with (first | ((with_reducible refine Zar (f := 41) rfl ?_); refine goesL_ (some 32) rfl rfl Tryz.func41 (by kernel_rfl) rfl #[.slice Ao19 x4_1.length co19] rfl (by (try simp only [List.map_toArray, List.map_cons, List.map_nil]); first | done | rfl | (simp only [List.length_drop, List.length_take]; rfl)) ?_; (with_reducible refine (impl_isList.calls k1 _ _ x4_1 true _ ?side1 ?side2 A17.out).mono ?_); (case side1 => repeat (first | exact (Kd.R_reads' HO_4.out).2.2 | (with_reducible refine Kd.C_alloc ?_ _) | (with_reducible refine Kd.C_drewN ?_ _) | (with_reducible refine Kd.C_drew ?_))); (case side2 => exact (Kd.R_reads' HO_4.out).2.1); rintro e w20 ⟨rfl, hb⟩; refine ⟨_, rfl, ?_⟩; have n0_ := Zad.mk (Kd.R_below (by (with_reducible repeat (first | apply Kd.R_alloc | apply Kd.R_drewN | apply Kd.R_drew)); exact HO_4.out) hb); have n1_ := Zad.mk (Kd.R_below (by (with_reducible repeat (first | apply Kd.R_alloc | apply Kd.R_drewN | apply Kd.R_drew)); exact HO_13.out) hb); have n2_ := Zad.mk (Zak (by repeat (first | (with_reducible first | exact HB.out | apply Zac | apply Zaa | apply Zab) | exact HB.out)) hb); clear HO_4; clear HO_13; clear HB; have HO_4 := n0_; have HO_13 := n1_; have HB := n2_; clear n0_ n1_ n2_; (try clear hb); (try clear hb2); (try clear hk); (try clear hi)))
      go_ret2
      exact ⟨_, by first | rfl | (simp [Zao, Zan] <;> rfl) | (simp [*, Zao, Zan] <;> rfl), by (with_reducible repeat (first | apply Kd.R_alloc | apply Kd.R_drewN | apply Kd.R_drew)); exact HO_4.out, by repeat (first | (with_reducible first | exact HB.out | apply Zac | apply Zaa | apply Zab) | exact HB.out)⟩
     ·replace c18 := Bool.eq_false_iff.mpr c18
      subst c18
      have H1 : (some (([] : List Int), false)) = some (r1, r2) := by rw [if_neg (show ¬ (false = true) by decide)] at H; exact H
      clear H
      have H := H1
      clear H1
      simp only [Option.some.injEq, Prod.mk.injEq] at H
      obtain ⟨rfl, rfl⟩ := H
      obtain ⟨Ao21, co21, eo21⟩ := Kd.R_slice HO_4.out
      subst eo21
      go_wp2_with (first | ((with_reducible refine Zar (f := 41) rfl ?_); refine goesL_ (some 32) rfl rfl Tryz.func41 (by kernel_rfl) rfl #[.slice Ao21 x4_1.length co21] rfl (by (try simp only [List.map_toArray, List.map_cons, List.map_nil]); first | done | rfl | (simp only [List.length_drop, List.length_take]; rfl)) ?_; (with_reducible refine (impl_isList.calls k1 _ _ x4_1 false _ ?side1 ?side2 A17.out).mono ?_); (case side1 => repeat (first | exact (Kd.R_reads' HO_4.out).2.2 | (with_reducible refine Kd.C_alloc ?_ _) | (with_reducible refine Kd.C_drewN ?_ _) | (with_reducible refine Kd.C_drew ?_))); (case side2 => exact (Kd.R_reads' HO_4.out).2.1); rintro e w22 ⟨rfl, hb⟩; refine ⟨_, rfl, ?_⟩; have n0_ := Zad.mk (Kd.R_below (by (with_reducible repeat (first | apply Kd.R_alloc | apply Kd.R_drewN | apply Kd.R_drew)); exact HO_4.out) hb); have n1_ := Zad.mk (Kd.R_below (by (with_reducible repeat (first | apply Kd.R_alloc | apply Kd.R_drewN | apply Kd.R_drew)); exact HO_13.out) hb); have n2_ := Zad.mk (Zak (by repeat (first | (with_reducible first | exact HB.out | apply Zac | apply Zaa | apply Zab) | exact HB.out)) hb); clear HO_4; clear HO_13; clear HB; have HO_4 := n0_; have HO_13 := n1_; have HB := n2_; clear n0_ n1_ n2_; (try clear hb); (try clear hb2); (try clear hk); (try clear hi)))
      go_ret2
      exact ⟨_, by first | rfl | (simp [Zao, Zan] <;> rfl) | (simp [*, Zao, Zan] <;> rfl), by first | exact Kd.R_nil _ _ _ _ _ | exact Kd.N_nil _ _ _ _ _ | exact Kd.V_nil _ _ _ _ _ | exact Kd.Q_nil _ _ _ _ _ | exact Kd.S_nil _ _ _ _ _, by repeat (first | (with_reducible first | exact HB.out | apply Zac | apply Zaa | apply Zab) | exact HB.out)⟩
def impl_ReadValues.f (k : Nat) (a0 : ByteArray) : Option (Int × List Int × Bool) := (strings_Cut.f a0 (⟨#[58]⟩ : ByteArray)).bind fun bt227 => ((impl_ReadDecimal.f bt227.1).bind fun bt230 => ((impl_ReadList.f k bt227.2.1).bind fun bt232 => (if bt227.2.2 = true then (if bt230.2 = true then (if bt232.2 = true then ((Zau.f k bt230.1 bt232.1).bind fun t237 => (if t237 = true then (some (bt230.1, bt232.1, true)) else (some (0, ([] : List Int), false)))) else (some (0, ([] : List Int), false))) else (some (0, ([] : List Int), false))) else (some (0, ([] : List Int), false)))))
set_option maxHeartbeats 8000000 in
set_option maxRecDepth 100000 in
theorem impl_ReadValues.calls (k : Nat) (a0 : ByteArray) (r1 : Int) (r2 : List Int) (r3 : Bool) (w : World) (hT : Pow10 w) (h : impl_ReadValues.f k a0 = some (r1, r2, r3)) :
  Calls Tryz.prog 10 #[.string a0] w fun e w' => ∃ v1_ : Value, e = .returned (.tuple #[.agg #[.int .i64 r1, v1_], .bool r3]) ∧ Kd.R (Kd.int .i64) 2 w' w.heap.size (fun _ => True) v1_ r2 ∧ Below w.heap.size w w' := by
 have hu26 := Tryz.underlying26
 have HB := Zad.mk (Below.refl w.heap.size w)
 have HT := Zad.mk hT
 clear hT
 have H : ((strings_Cut.f a0 (⟨#[58]⟩ : ByteArray)).bind fun bt227 => ((impl_ReadDecimal.f bt227.1).bind fun bt230 => ((impl_ReadList.f k bt227.2.1).bind fun bt232 => (if bt227.2.2 = true then (if bt230.2 = true then (if bt232.2 = true then ((Zau.f k bt230.1 bt232.1).bind fun t237 => (if t237 = true then (some (bt230.1, bt232.1, true)) else (some (0, ([] : List Int), false)))) else (some (0, ([] : List Int), false))) else (some (0, ([] : List Int), false))) else (some (0, ([] : List Int), false)))))) = some (r1, r2, r3) := h
 clear h
 replace H := Option.bind_eq_some_iff.mp H
 obtain ⟨⟨t227, t228, t229⟩, A20, H⟩ := H
 replace H : ((impl_ReadDecimal.f t227).bind fun bt230 => ((impl_ReadList.f k t228).bind fun bt232 => (if t229 = true then (if bt230.2 = true then (if bt232.2 = true then ((Zau.f k bt230.1 bt232.1).bind fun t237 => (if t237 = true then (some (bt230.1, bt232.1, true)) else (some (0, ([] : List Int), false)))) else (some (0, ([] : List Int), false))) else (some (0, ([] : List Int), false))) else (some (0, ([] : List Int), false))))) = some (r1, r2, r3) := H
 have A2 := Zad.mk A20
 clear A20
 replace H := Option.bind_eq_some_iff.mp H
 obtain ⟨⟨t230, t231⟩, A30, H⟩ := H
 replace H : ((impl_ReadList.f k t228).bind fun bt232 => (if t229 = true then (if t231 = true then (if bt232.2 = true then ((Zau.f k t230 bt232.1).bind fun t237 => (if t237 = true then (some (t230, bt232.1, true)) else (some (0, ([] : List Int), false)))) else (some (0, ([] : List Int), false))) else (some (0, ([] : List Int), false))) else (some (0, ([] : List Int), false)))) = some (r1, r2, r3) := H
 have A3 := Zad.mk A30
 clear A30
 replace H := Option.bind_eq_some_iff.mp H
 obtain ⟨⟨t232, t233⟩, A40, H⟩ := H
 replace H : (if t229 = true then (if t231 = true then (if t233 = true then ((Zau.f k t230 t232).bind fun t237 => (if t237 = true then (some (t230, t232, true)) else (some (0, ([] : List Int), false)))) else (some (0, ([] : List Int), false))) else (some (0, ([] : List Int), false))) else (some (0, ([] : List Int), false))) = some (r1, r2, r3) := H
 have A4 := Zad.mk A40
 clear A40
 by_cases c5 : t229 = true
 ·subst c5
  have H1 : (if t231 = true then (if t233 = true then ((Zau.f k t230 t232).bind fun t237 => (if t237 = true then (some (t230, t232, true)) else (some (0, ([] : List Int), false)))) else (some (0, ([] : List Int), false))) else (some (0, ([] : List Int), false))) = some (r1, r2, r3) := by rw [if_pos rfl] at H; exact H
  clear H
  have H := H1
  clear H1
  by_cases c6 : t231 = true
  ·subst c6
   have H1 : (if t233 = true then ((Zau.f k t230 t232).bind fun t237 => (if t237 = true then (some (t230, t232, true)) else (some (0, ([] : List Int), false)))) else (some (0, ([] : List Int), false))) = some (r1, r2, r3) := by rw [if_pos rfl] at H; exact H
   clear H
   have H := H1
   clear H1
   by_cases c7 : t233 = true
   ·subst c7
    have H1 : ((Zau.f k t230 t232).bind fun t237 => (if t237 = true then (some (t230, t232, true)) else (some (0, ([] : List Int), false)))) = some (r1, r2, r3) := by rw [if_pos rfl] at H; exact H
    clear H
    have H := H1
    clear H1
    replace H := Option.bind_eq_some_iff.mp H
    obtain ⟨t237, A80, H⟩ := H
    replace H : (if t237 = true then (some (t230, t232, true)) else (some (0, ([] : List Int), false))) = some (r1, r2, r3) := H
    have A8 := Zad.mk A80
    clear A80
    by_cases c9 : t237 = true
    ·subst c9
     have H1 : (some (t230, t232, true)) = some (r1, r2, r3) := by rw [if_pos rfl] at H; exact H
     clear H
     have H := H1
     clear H1
     simp only [Option.some.injEq, Prod.mk.injEq] at H
     obtain ⟨rfl, rfl, rfl⟩ := H
     as_aux_lemma =>
      go_enter Tryz.func10, Tryz.ntmps10
      go_wp2_with (first | ((with_reducible refine gate_dst (N := 2) rfl ?_); refine box_event ?hg (N := 2) ?hd (cs := #[.int .i64 0, .slice none 0 0]) (t := 26) ?hr ?_; (case hd => rfl); (case hg => rfl); (case hr => first | (go_simp; done) | (go_simp; rfl)); intro gb226 hg w10 hbox hb; have n0_ := Zad.mk (Zak (by repeat (first | (with_reducible first | exact HB.out | apply Zac | apply Zaa | apply Zab) | exact HB.out)) hb); have n1_ := Zad.mk (hbox); have n2_ := Zad.mk ((by rw [hg]; exact (Zam (by repeat (first | (with_reducible first | exact HB.out | apply Zac | apply Zaa | apply Zab) | exact HB.out))) : w.heap.size ≤ gb226)); have n3_ := Zad.mk ((by rw [hg]; exact (Zam (by repeat (first | (with_reducible first | exact HB.out | apply Zac | apply Zaa | apply Zab) | exact HB.out))) : w.heap.size ≤ gb226)); clear HB; have HB := n0_; have BK226 := n1_; have GW226 := n2_; have GE226 := n3_; clear n0_ n1_ n2_ n3_; clear hb hbox hg) | ((with_reducible refine Zar (f := 29) rfl ?_); refine goesL_ (some 14) rfl rfl Tryz.func29 (by kernel_rfl) rfl #[.string a0, .string (⟨#[58]⟩ : ByteArray)] rfl (by (try simp only [List.map_toArray, List.map_cons, List.map_nil]); first | done | rfl | (simp only [List.length_drop, List.length_take]; rfl)) ?_; (with_reducible refine (strings_Cut.calls a0 (⟨#[58]⟩ : ByteArray) t227 t228 true _ (Pow10_below HT.out (by repeat (first | (with_reducible first | exact HB.out | apply Zac | apply Zaa | apply Zab | refine Zae ?_ GE226.out | refine Zae ?_ GE236.out) | exact HB.out))) A2.out).mono ?_); rintro e w11 ⟨rfl, hb⟩; refine ⟨_, rfl, ?_⟩; have n0_ := Zad.mk (Zap (g := gb226) (o := .cells #[.int .i64 0, .slice none 0 0] 26 (0, 0)) (by (with_reducible repeat (first | refine Zag ?_ _ | refine Zah ?_ | refine Zaf ?_ _)); exact BK226.out) hb); have n1_ := Zad.mk (Zak (by repeat (first | (with_reducible first | exact HB.out | apply Zac | apply Zaa | apply Zab | refine Zae ?_ GE226.out) | exact HB.out)) hb); clear BK226; clear HB; have BK226 := n0_; have HB := n1_; clear n0_ n1_; (try clear hb); (try clear hb2); (try clear hk); (try clear hi)) | ((with_reducible refine Zar (f := 30) rfl ?_); refine goesL_ (some 20) rfl rfl Tryz.func30 (by kernel_rfl) rfl #[.string t227] rfl (by (try simp only [List.map_toArray, List.map_cons, List.map_nil]); first | done | rfl | (simp only [List.length_drop, List.length_take]; rfl)) ?_; (with_reducible refine (impl_ReadDecimal.calls t227 t230 true _ (Pow10_below HT.out (by repeat (first | (with_reducible first | exact HB.out | apply Zac | apply Zaa | apply Zab | refine Zae ?_ GE226.out | refine Zae ?_ GE236.out) | exact HB.out))) A3.out).mono ?_); rintro e w12 ⟨rfl, hb⟩; refine ⟨_, rfl, ?_⟩; have n0_ := Zad.mk (Zap (g := gb226) (o := .cells #[.int .i64 0, .slice none 0 0] 26 (0, 0)) (by (with_reducible repeat (first | refine Zag ?_ _ | refine Zah ?_ | refine Zaf ?_ _)); exact BK226.out) hb); have n1_ := Zad.mk (Zak (by repeat (first | (with_reducible first | exact HB.out | apply Zac | apply Zaa | apply Zab | refine Zae ?_ GE226.out) | exact HB.out)) hb); clear BK226; clear HB; have BK226 := n0_; have HB := n1_; clear n0_ n1_; (try clear hb); (try clear hb2); (try clear hk); (try clear hi)) | ((with_reducible refine Zar (f := 31) rfl ?_); refine goesL_ (some 25) rfl rfl Tryz.func31 (by kernel_rfl) rfl #[.string t228] rfl (by (try simp only [List.map_toArray, List.map_cons, List.map_nil]); first | done | rfl | (simp only [List.length_drop, List.length_take]; rfl)) ?_; (with_reducible refine (impl_ReadList.calls k t228 t232 true _ (Pow10_below HT.out (by repeat (first | (with_reducible first | exact HB.out | apply Zac | apply Zaa | apply Zab | refine Zae ?_ GE226.out | refine Zae ?_ GE236.out) | exact HB.out))) A4.out).mono ?_); rintro e w13 ⟨v234, rfl, ho0, hb⟩; refine ⟨_, rfl, ?_⟩; have n0_ := Zad.mk (Kd.R_lower ho0 (Zam (by repeat (first | (with_reducible first | exact HB.out | apply Zac | apply Zaa | apply Zab | refine Zae ?_ GE226.out) | exact HB.out)))); have n1_ := Zad.mk (Zap (g := gb226) (o := .cells #[.int .i64 0, .slice none 0 0] 26 (0, 0)) (by (with_reducible repeat (first | refine Zag ?_ _ | refine Zah ?_ | refine Zaf ?_ _)); exact BK226.out) hb); have n2_ := Zad.mk (Zak (by repeat (first | (with_reducible first | exact HB.out | apply Zac | apply Zaa | apply Zab | refine Zae ?_ GE226.out) | exact HB.out)) hb); clear BK226; clear HB; have HO235 := n0_; have BK226 := n1_; have HB := n2_; clear n0_ n1_ n2_; (try clear hb); (try clear hb2); (try clear hk); (try clear hi); (try clear ho0); obtain ⟨Ao14, co14, eo14⟩ := Kd.R_slice HO235.out; subst eo14) | ((with_reducible refine gate_dst (N := 11) rfl ?_); refine box_event ?hg (N := 11) ?hd (cs := #[.int .i64 0, .slice none 0 0]) (t := 26) ?hr ?_; (case hd => rfl); (case hg => rfl); (case hr => first | (go_simp; done) | (go_simp; rfl)); intro gb236 hg w15 hbox hb; have n0_ := Zad.mk (Kd.R_below (by (with_reducible repeat (first | apply Kd.R_alloc | apply Kd.R_drewN | apply Kd.R_drew)); exact HO235.out) hb); have n1_ := Zad.mk (Zap (g := gb226) (o := .cells #[.int .i64 0, .slice none 0 0] 26 (0, 0)) (by (with_reducible repeat (first | refine Zag ?_ _ | refine Zah ?_ | refine Zaf ?_ _)); exact BK226.out) hb); have n2_ := Zad.mk (Zak (by repeat (first | (with_reducible first | exact HB.out | apply Zac | apply Zaa | apply Zab | refine Zae ?_ GE226.out) | exact HB.out)) hb); have n3_ := Zad.mk (hbox); have n4_ := Zad.mk ((by rw [hg]; exact (Zam (by repeat (first | (with_reducible first | exact HB.out | apply Zac | apply Zaa | apply Zab | refine Zae ?_ GE226.out) | exact HB.out))) : w.heap.size ≤ gb236)); have n5_ := Zad.mk ((by rw [hg]; exact (Zam (by repeat (first | (with_reducible first | exact HB.out | apply Zac | apply Zaa | apply Zab | refine Zae ?_ GE226.out) | exact HB.out))) : w.heap.size ≤ gb236)); have n6_ := Zad.mk ((by rw [hg]; exact Nat.ne_of_lt (blk_lt (g := gb226) (o := .cells #[.int .i64 0, .slice none 0 0] 26 (0, 0)) (by (with_reducible repeat (first | refine Zag ?_ _ | refine Zah ?_ | refine Zaf ?_ _)); exact BK226.out)) : gb226 ≠ gb236)); have n7_ := Zad.mk ((by rw [hg]; exact Nat.ne_of_gt (blk_lt (g := gb226) (o := .cells #[.int .i64 0, .slice none 0 0] 26 (0, 0)) (by (with_reducible repeat (first | refine Zag ?_ _ | refine Zah ?_ | refine Zaf ?_ _)); exact BK226.out)) : gb236 ≠ gb226)); clear HO235; clear BK226; clear HB; have HO235 := n0_; have BK226 := n1_; have HB := n2_; have BK236 := n3_; have GW236 := n4_; have GE236 := n5_; have NB226_236 := n6_; have NB236_226 := n7_; clear n0_ n1_ n2_ n3_ n4_ n5_ n6_ n7_; clear hb hbox hg; have hnb16 := NB236_226.out; have hnc16 := NB226_236.out; have hcz17_0 : w15.cell? ⟨gb236, 0, none⟩ = some (.int .i64 0) := (Zaj BK236.out 0).trans rfl; have hcz17_1 : w15.cell? ⟨gb236, 1, none⟩ = some (.slice none 0 0) := (Zaj BK236.out 1).trans rfl; have hfz17_0 := Zai BK236.out 0; have hfz17_1 := Zai BK236.out 1) | (go_at_call 23; (with_reducible refine (Zau.calls k t230 _ _ t232 true _ ?side1 ?side2 A8.out).mono ?_); (case side1 => refine (Kd.R_reads' (e := 2) (base := w.heap.size) (ok := fun k_ => True) (n := t232.length) (c := co14) ?_).2.2; exact (by (with_reducible repeat (first | apply Kd.R_alloc | apply Kd.R_drewN | apply Kd.R_drew)); exact (Kd.R_mono (Kd.R_far (p := ⟨gb236, 1, none⟩) (Kd.R_far (p := ⟨gb236, 0, none⟩) (Kd.R_types HO235.out BK236.out (by decide)) (fun _ hk => hk.2) (.int .i64 t230)) (fun _ hk => hk.2) (.slice Ao14 t232.length co14)) (fun _ h_ => h_.1)))); (case side2 => exact (Kd.R_reads' HO235.out).2.1); rintro e w18 ⟨rfl, hb⟩; have n0_ := Zad.mk (Kd.R_below (by (with_reducible repeat (first | apply Kd.R_alloc | apply Kd.R_drewN | apply Kd.R_drew)); exact (Kd.R_mono (Kd.R_far (p := ⟨gb236, 1, none⟩) (Kd.R_far (p := ⟨gb236, 0, none⟩) (Kd.R_types HO235.out BK236.out (by decide)) (fun _ hk => hk.2) (.int .i64 t230)) (fun _ hk => hk.2) (.slice Ao14 t232.length co14)) (fun _ h_ => h_.1))) hb); have n1_ := Zad.mk (Zap (g := gb226) (o := .cells #[.int .i64 0, .slice none 0 0] 26 (0, 0)) (by (with_reducible repeat (first | refine Zag ?_ _ | refine Zah ?_ | refine Zaf ?_ _)); refine blk_far ?_ NB226_236.out _; (with_reducible repeat (first | refine Zag ?_ _ | refine Zah ?_ | refine Zaf ?_ _)); refine blk_far ?_ NB226_236.out _; (with_reducible repeat (first | refine Zag ?_ _ | refine Zah ?_ | refine Zaf ?_ _)); exact BK226.out) hb); have n2_ := Zad.mk (Zap (g := gb236) (o := .cells #[.int .i64 t230, .slice Ao14 t232.length co14] 26 (0, 0)) (by (with_reducible repeat (first | refine Zag ?_ _ | refine Zah ?_ | refine Zaf ?_ _)); refine blk_put (cs := #[.int .i64 t230, .slice none 0 0]) ?_ 1 _ rfl; (with_reducible repeat (first | refine Zag ?_ _ | refine Zah ?_ | refine Zaf ?_ _)); refine blk_put (cs := #[.int .i64 0, .slice none 0 0]) ?_ 0 _ rfl; (with_reducible repeat (first | refine Zag ?_ _ | refine Zah ?_ | refine Zaf ?_ _)); exact BK236.out) hb); have n3_ := Zad.mk (Zak (by repeat (first | (with_reducible first | exact HB.out | apply Zac | apply Zaa | apply Zab | refine Zae ?_ GE226.out | refine Zae ?_ GE236.out) | exact HB.out)) hb); clear HO235; clear BK226; clear BK236; clear HB; have HO235 := n0_; have BK226 := n1_; have BK236 := n2_; have HB := n3_; clear n0_ n1_ n2_ n3_; (try clear hb); (try clear hb2); (try clear hk); (try clear hi); have hcz19_0 : w18.cell? ⟨gb236, 0, none⟩ = some (.int .i64 t230) := (Zaj BK236.out 0).trans rfl; have hcz19_1 : w18.cell? ⟨gb236, 1, none⟩ = some (.slice Ao14 t232.length co14) := (Zaj BK236.out 1).trans rfl; have hfz19_0 := Zai BK236.out 0; have hfz19_1 := Zai BK236.out 1; have hcz20_0 : w18.cell? ⟨gb226, 0, none⟩ = some (.int .i64 0) := (Zaj BK226.out 0).trans rfl; have hcz20_1 : w18.cell? ⟨gb226, 1, none⟩ = some (.slice none 0 0) := (Zaj BK226.out 1).trans rfl; have hfz20_0 := Zai BK226.out 0; have hfz20_1 := Zai BK226.out 1))
      refine bodyPost_ret (results_ct rfl _ _ gb226 26 #[.int .i64 t230, .slice Ao14 t232.length co14] (0, 0) _ rfl (by (with_reducible repeat (first | refine Zag ?_ _ | refine Zah ?_ | refine Zaf ?_ _)); refine blk_put (cs := #[.int .i64 t230, .slice none 0 0]) ?_ 1 _ rfl; (with_reducible repeat (first | refine Zag ?_ _ | refine Zah ?_ | refine Zaf ?_ _)); refine blk_put (cs := #[.int .i64 0, .slice none 0 0]) ?_ 0 _ rfl; (with_reducible repeat (first | refine Zag ?_ _ | refine Zah ?_ | refine Zaf ?_ _)); exact BK226.out) Tryz.underlying26 rfl (by kernel_rfl)) rfl ?_
      exact ⟨_, by first | rfl | (simp [Zao, Zan] <;> rfl) | (simp [*, Zao, Zan] <;> rfl), by (with_reducible repeat (first | apply Kd.R_alloc | apply Kd.R_drewN | apply Kd.R_drew)); exact Kd.R_mono (Kd.R_far (p := ⟨gb226, 1, none⟩) (Kd.R_far (p := ⟨gb226, 0, none⟩) (Kd.R_types HO235.out BK226.out (by decide)) (fun _ hk => hk.2) (.int .i64 t230)) (fun _ hk => hk.2) (.slice Ao14 t232.length co14)) (fun _ hk => trivial), by repeat (first | (with_reducible first | exact HB.out | apply Zac | apply Zaa | apply Zab | refine Zae ?_ GE226.out | refine Zae ?_ GE236.out) | exact HB.out)⟩
    ·replace c9 := Bool.eq_false_iff.mpr c9
     subst c9
     have H1 : (some (0, ([] : List Int), false)) = some (r1, r2, r3) := by rw [if_neg (show ¬ (false = true) by decide)] at H; exact H
     clear H
     have H := H1
     clear H1
     simp only [Option.some.injEq, Prod.mk.injEq] at H
     obtain ⟨rfl, rfl, rfl⟩ := H
     as_aux_lemma =>
      go_enter Tryz.func10, Tryz.ntmps10
      go_wp2_with (first | ((with_reducible refine gate_dst (N := 2) rfl ?_); refine box_event ?hg (N := 2) ?hd (cs := #[.int .i64 0, .slice none 0 0]) (t := 26) ?hr ?_; (case hd => rfl); (case hg => rfl); (case hr => first | (go_simp; done) | (go_simp; rfl)); intro gb226 hg w21 hbox hb; have n0_ := Zad.mk (Zak (by repeat (first | (with_reducible first | exact HB.out | apply Zac | apply Zaa | apply Zab) | exact HB.out)) hb); have n1_ := Zad.mk (hbox); have n2_ := Zad.mk ((by rw [hg]; exact (Zam (by repeat (first | (with_reducible first | exact HB.out | apply Zac | apply Zaa | apply Zab) | exact HB.out))) : w.heap.size ≤ gb226)); have n3_ := Zad.mk ((by rw [hg]; exact (Zam (by repeat (first | (with_reducible first | exact HB.out | apply Zac | apply Zaa | apply Zab) | exact HB.out))) : w.heap.size ≤ gb226)); clear HB; have HB := n0_; have BK226 := n1_; have GW226 := n2_; have GE226 := n3_; clear n0_ n1_ n2_ n3_; clear hb hbox hg) | ((with_reducible refine Zar (f := 29) rfl ?_); refine goesL_ (some 14) rfl rfl Tryz.func29 (by kernel_rfl) rfl #[.string a0, .string (⟨#[58]⟩ : ByteArray)] rfl (by (try simp only [List.map_toArray, List.map_cons, List.map_nil]); first | done | rfl | (simp only [List.length_drop, List.length_take]; rfl)) ?_; (with_reducible refine (strings_Cut.calls a0 (⟨#[58]⟩ : ByteArray) t227 t228 true _ (Pow10_below HT.out (by repeat (first | (with_reducible first | exact HB.out | apply Zac | apply Zaa | apply Zab | refine Zae ?_ GE226.out | refine Zae ?_ GE236.out) | exact HB.out))) A2.out).mono ?_); rintro e w22 ⟨rfl, hb⟩; refine ⟨_, rfl, ?_⟩; have n0_ := Zad.mk (Zap (g := gb226) (o := .cells #[.int .i64 0, .slice none 0 0] 26 (0, 0)) (by (with_reducible repeat (first | refine Zag ?_ _ | refine Zah ?_ | refine Zaf ?_ _)); exact BK226.out) hb); have n1_ := Zad.mk (Zak (by repeat (first | (with_reducible first | exact HB.out | apply Zac | apply Zaa | apply Zab | refine Zae ?_ GE226.out) | exact HB.out)) hb); clear BK226; clear HB; have BK226 := n0_; have HB := n1_; clear n0_ n1_; (try clear hb); (try clear hb2); (try clear hk); (try clear hi)) | ((with_reducible refine Zar (f := 30) rfl ?_); refine goesL_ (some 20) rfl rfl Tryz.func30 (by kernel_rfl) rfl #[.string t227] rfl (by (try simp only [List.map_toArray, List.map_cons, List.map_nil]); first | done | rfl | (simp only [List.length_drop, List.length_take]; rfl)) ?_; (with_reducible refine (impl_ReadDecimal.calls t227 t230 true _ (Pow10_below HT.out (by repeat (first | (with_reducible first | exact HB.out | apply Zac | apply Zaa | apply Zab | refine Zae ?_ GE226.out | refine Zae ?_ GE236.out) | exact HB.out))) A3.out).mono ?_); rintro e w23 ⟨rfl, hb⟩; refine ⟨_, rfl, ?_⟩; have n0_ := Zad.mk (Zap (g := gb226) (o := .cells #[.int .i64 0, .slice none 0 0] 26 (0, 0)) (by (with_reducible repeat (first | refine Zag ?_ _ | refine Zah ?_ | refine Zaf ?_ _)); exact BK226.out) hb); have n1_ := Zad.mk (Zak (by repeat (first | (with_reducible first | exact HB.out | apply Zac | apply Zaa | apply Zab | refine Zae ?_ GE226.out) | exact HB.out)) hb); clear BK226; clear HB; have BK226 := n0_; have HB := n1_; clear n0_ n1_; (try clear hb); (try clear hb2); (try clear hk); (try clear hi)) | ((with_reducible refine Zar (f := 31) rfl ?_); refine goesL_ (some 25) rfl rfl Tryz.func31 (by kernel_rfl) rfl #[.string t228] rfl (by (try simp only [List.map_toArray, List.map_cons, List.map_nil]); first | done | rfl | (simp only [List.length_drop, List.length_take]; rfl)) ?_; (with_reducible refine (impl_ReadList.calls k t228 t232 true _ (Pow10_below HT.out (by repeat (first | (with_reducible first | exact HB.out | apply Zac | apply Zaa | apply Zab | refine Zae ?_ GE226.out | refine Zae ?_ GE236.out) | exact HB.out))) A4.out).mono ?_); rintro e w24 ⟨v234, rfl, ho0, hb⟩; refine ⟨_, rfl, ?_⟩; have n0_ := Zad.mk (Kd.R_lower ho0 (Zam (by repeat (first | (with_reducible first | exact HB.out | apply Zac | apply Zaa | apply Zab | refine Zae ?_ GE226.out) | exact HB.out)))); have n1_ := Zad.mk (Zap (g := gb226) (o := .cells #[.int .i64 0, .slice none 0 0] 26 (0, 0)) (by (with_reducible repeat (first | refine Zag ?_ _ | refine Zah ?_ | refine Zaf ?_ _)); exact BK226.out) hb); have n2_ := Zad.mk (Zak (by repeat (first | (with_reducible first | exact HB.out | apply Zac | apply Zaa | apply Zab | refine Zae ?_ GE226.out) | exact HB.out)) hb); clear BK226; clear HB; have HO235 := n0_; have BK226 := n1_; have HB := n2_; clear n0_ n1_ n2_; (try clear hb); (try clear hb2); (try clear hk); (try clear hi); (try clear ho0); obtain ⟨Ao25, co25, eo25⟩ := Kd.R_slice HO235.out; subst eo25) | ((with_reducible refine gate_dst (N := 11) rfl ?_); refine box_event ?hg (N := 11) ?hd (cs := #[.int .i64 0, .slice none 0 0]) (t := 26) ?hr ?_; (case hd => rfl); (case hg => rfl); (case hr => first | (go_simp; done) | (go_simp; rfl)); intro gb236 hg w26 hbox hb; have n0_ := Zad.mk (Kd.R_below (by (with_reducible repeat (first | apply Kd.R_alloc | apply Kd.R_drewN | apply Kd.R_drew)); exact HO235.out) hb); have n1_ := Zad.mk (Zap (g := gb226) (o := .cells #[.int .i64 0, .slice none 0 0] 26 (0, 0)) (by (with_reducible repeat (first | refine Zag ?_ _ | refine Zah ?_ | refine Zaf ?_ _)); exact BK226.out) hb); have n2_ := Zad.mk (Zak (by repeat (first | (with_reducible first | exact HB.out | apply Zac | apply Zaa | apply Zab | refine Zae ?_ GE226.out) | exact HB.out)) hb); have n3_ := Zad.mk (hbox); have n4_ := Zad.mk ((by rw [hg]; exact (Zam (by repeat (first | (with_reducible first | exact HB.out | apply Zac | apply Zaa | apply Zab | refine Zae ?_ GE226.out) | exact HB.out))) : w.heap.size ≤ gb236)); have n5_ := Zad.mk ((by rw [hg]; exact (Zam (by repeat (first | (with_reducible first | exact HB.out | apply Zac | apply Zaa | apply Zab | refine Zae ?_ GE226.out) | exact HB.out))) : w.heap.size ≤ gb236)); have n6_ := Zad.mk ((by rw [hg]; exact Nat.ne_of_lt (blk_lt (g := gb226) (o := .cells #[.int .i64 0, .slice none 0 0] 26 (0, 0)) (by (with_reducible repeat (first | refine Zag ?_ _ | refine Zah ?_ | refine Zaf ?_ _)); exact BK226.out)) : gb226 ≠ gb236)); have n7_ := Zad.mk ((by rw [hg]; exact Nat.ne_of_gt (blk_lt (g := gb226) (o := .cells #[.int .i64 0, .slice none 0 0] 26 (0, 0)) (by (with_reducible repeat (first | refine Zag ?_ _ | refine Zah ?_ | refine Zaf ?_ _)); exact BK226.out)) : gb236 ≠ gb226)); clear HO235; clear BK226; clear HB; have HO235 := n0_; have BK226 := n1_; have HB := n2_; have BK236 := n3_; have GW236 := n4_; have GE236 := n5_; have NB226_236 := n6_; have NB236_226 := n7_; clear n0_ n1_ n2_ n3_ n4_ n5_ n6_ n7_; clear hb hbox hg; have hnb27 := NB236_226.out; have hnc27 := NB226_236.out; have hcz28_0 : w26.cell? ⟨gb236, 0, none⟩ = some (.int .i64 0) := (Zaj BK236.out 0).trans rfl; have hcz28_1 : w26.cell? ⟨gb236, 1, none⟩ = some (.slice none 0 0) := (Zaj BK236.out 1).trans rfl; have hfz28_0 := Zai BK236.out 0; have hfz28_1 := Zai BK236.out 1) | (go_at_call 23; (with_reducible refine (Zau.calls k t230 _ _ t232 false _ ?side1 ?side2 A8.out).mono ?_); (case side1 => refine (Kd.R_reads' (e := 2) (base := w.heap.size) (ok := fun k_ => True) (n := t232.length) (c := co25) ?_).2.2; exact (by (with_reducible repeat (first | apply Kd.R_alloc | apply Kd.R_drewN | apply Kd.R_drew)); exact (Kd.R_mono (Kd.R_far (p := ⟨gb236, 1, none⟩) (Kd.R_far (p := ⟨gb236, 0, none⟩) (Kd.R_types HO235.out BK236.out (by decide)) (fun _ hk => hk.2) (.int .i64 t230)) (fun _ hk => hk.2) (.slice Ao25 t232.length co25)) (fun _ h_ => h_.1)))); (case side2 => exact (Kd.R_reads' HO235.out).2.1); rintro e w29 ⟨rfl, hb⟩; have n0_ := Zad.mk (Kd.R_below (by (with_reducible repeat (first | apply Kd.R_alloc | apply Kd.R_drewN | apply Kd.R_drew)); exact (Kd.R_mono (Kd.R_far (p := ⟨gb236, 1, none⟩) (Kd.R_far (p := ⟨gb236, 0, none⟩) (Kd.R_types HO235.out BK236.out (by decide)) (fun _ hk => hk.2) (.int .i64 t230)) (fun _ hk => hk.2) (.slice Ao25 t232.length co25)) (fun _ h_ => h_.1))) hb); have n1_ := Zad.mk (Zap (g := gb226) (o := .cells #[.int .i64 0, .slice none 0 0] 26 (0, 0)) (by (with_reducible repeat (first | refine Zag ?_ _ | refine Zah ?_ | refine Zaf ?_ _)); refine blk_far ?_ NB226_236.out _; (with_reducible repeat (first | refine Zag ?_ _ | refine Zah ?_ | refine Zaf ?_ _)); refine blk_far ?_ NB226_236.out _; (with_reducible repeat (first | refine Zag ?_ _ | refine Zah ?_ | refine Zaf ?_ _)); exact BK226.out) hb); have n2_ := Zad.mk (Zap (g := gb236) (o := .cells #[.int .i64 t230, .slice Ao25 t232.length co25] 26 (0, 0)) (by (with_reducible repeat (first | refine Zag ?_ _ | refine Zah ?_ | refine Zaf ?_ _)); refine blk_put (cs := #[.int .i64 t230, .slice none 0 0]) ?_ 1 _ rfl; (with_reducible repeat (first | refine Zag ?_ _ | refine Zah ?_ | refine Zaf ?_ _)); refine blk_put (cs := #[.int .i64 0, .slice none 0 0]) ?_ 0 _ rfl; (with_reducible repeat (first | refine Zag ?_ _ | refine Zah ?_ | refine Zaf ?_ _)); exact BK236.out) hb); have n3_ := Zad.mk (Zak (by repeat (first | (with_reducible first | exact HB.out | apply Zac | apply Zaa | apply Zab | refine Zae ?_ GE226.out | refine Zae ?_ GE236.out) | exact HB.out)) hb); clear HO235; clear BK226; clear BK236; clear HB; have HO235 := n0_; have BK226 := n1_; have BK236 := n2_; have HB := n3_; clear n0_ n1_ n2_ n3_; (try clear hb); (try clear hb2); (try clear hk); (try clear hi); have hcz30_0 : w29.cell? ⟨gb226, 0, none⟩ = some (.int .i64 0) := (Zaj BK226.out 0).trans rfl; have hcz30_1 : w29.cell? ⟨gb226, 1, none⟩ = some (.slice none 0 0) := (Zaj BK226.out 1).trans rfl; have hfz30_0 := Zai BK226.out 0; have hfz30_1 := Zai BK226.out 1))
      refine bodyPost_ret (results_ct rfl _ _ gb226 26 #[.int .i64 0, .slice none 0 0] (0, 0) _ rfl (by (with_reducible repeat (first | refine Zag ?_ _ | refine Zah ?_ | refine Zaf ?_ _)); refine blk_put (cs := #[.int .i64 0, .slice none 0 0]) ?_ 1 _ rfl; (with_reducible repeat (first | refine Zag ?_ _ | refine Zah ?_ | refine Zaf ?_ _)); refine blk_put (cs := #[.int .i64 0, .slice none 0 0]) ?_ 0 _ rfl; (with_reducible repeat (first | refine Zag ?_ _ | refine Zah ?_ | refine Zaf ?_ _)); exact BK226.out) Tryz.underlying26 rfl (by kernel_rfl)) rfl ?_
      exact ⟨_, by first | rfl | (simp [Zao, Zan] <;> rfl) | (simp [*, Zao, Zan] <;> rfl), by first | exact Kd.R_nil _ _ _ _ _ | exact Kd.N_nil _ _ _ _ _ | exact Kd.V_nil _ _ _ _ _ | exact Kd.Q_nil _ _ _ _ _ | exact Kd.S_nil _ _ _ _ _, by repeat (first | (with_reducible first | exact HB.out | apply Zac | apply Zaa | apply Zab | refine Zae ?_ GE226.out | refine Zae ?_ GE236.out) | exact HB.out)⟩
   ·replace c7 := Bool.eq_false_iff.mpr c7
    subst c7
    have H1 : (some (0, ([] : List Int), false)) = some (r1, r2, r3) := by rw [if_neg (show ¬ (false = true) by decide)] at H; exact H
    clear H
    have H := H1
    clear H1
    simp only [Option.some.injEq, Prod.mk.injEq] at H
    obtain ⟨rfl, rfl, rfl⟩ := H
    as_aux_lemma =>
     go_enter Tryz.func10, Tryz.ntmps10
     go_wp2_with (first | ((with_reducible refine gate_dst (N := 2) rfl ?_); refine box_event ?hg (N := 2) ?hd (cs := #[.int .i64 0, .slice none 0 0]) (t := 26) ?hr ?_; (case hd => rfl); (case hg => rfl); (case hr => first | (go_simp; done) | (go_simp; rfl)); intro gb226 hg w31 hbox hb; have n0_ := Zad.mk (Zak (by repeat (first | (with_reducible first | exact HB.out | apply Zac | apply Zaa | apply Zab) | exact HB.out)) hb); have n1_ := Zad.mk (hbox); have n2_ := Zad.mk ((by rw [hg]; exact (Zam (by repeat (first | (with_reducible first | exact HB.out | apply Zac | apply Zaa | apply Zab) | exact HB.out))) : w.heap.size ≤ gb226)); have n3_ := Zad.mk ((by rw [hg]; exact (Zam (by repeat (first | (with_reducible first | exact HB.out | apply Zac | apply Zaa | apply Zab) | exact HB.out))) : w.heap.size ≤ gb226)); clear HB; have HB := n0_; have BK226 := n1_; have GW226 := n2_; have GE226 := n3_; clear n0_ n1_ n2_ n3_; clear hb hbox hg) | ((with_reducible refine Zar (f := 29) rfl ?_); refine goesL_ (some 14) rfl rfl Tryz.func29 (by kernel_rfl) rfl #[.string a0, .string (⟨#[58]⟩ : ByteArray)] rfl (by (try simp only [List.map_toArray, List.map_cons, List.map_nil]); first | done | rfl | (simp only [List.length_drop, List.length_take]; rfl)) ?_; (with_reducible refine (strings_Cut.calls a0 (⟨#[58]⟩ : ByteArray) t227 t228 true _ (Pow10_below HT.out (by repeat (first | (with_reducible first | exact HB.out | apply Zac | apply Zaa | apply Zab | refine Zae ?_ GE226.out | refine Zae ?_ GE236.out) | exact HB.out))) A2.out).mono ?_); rintro e w32 ⟨rfl, hb⟩; refine ⟨_, rfl, ?_⟩; have n0_ := Zad.mk (Zap (g := gb226) (o := .cells #[.int .i64 0, .slice none 0 0] 26 (0, 0)) (by (with_reducible repeat (first | refine Zag ?_ _ | refine Zah ?_ | refine Zaf ?_ _)); exact BK226.out) hb); have n1_ := Zad.mk (Zak (by repeat (first | (with_reducible first | exact HB.out | apply Zac | apply Zaa | apply Zab | refine Zae ?_ GE226.out) | exact HB.out)) hb); clear BK226; clear HB; have BK226 := n0_; have HB := n1_; clear n0_ n1_; (try clear hb); (try clear hb2); (try clear hk); (try clear hi)) | ((with_reducible refine Zar (f := 30) rfl ?_); refine goesL_ (some 20) rfl rfl Tryz.func30 (by kernel_rfl) rfl #[.string t227] rfl (by (try simp only [List.map_toArray, List.map_cons, List.map_nil]); first | done | rfl | (simp only [List.length_drop, List.length_take]; rfl)) ?_; (with_reducible refine (impl_ReadDecimal.calls t227 t230 true _ (Pow10_below HT.out (by repeat (first | (with_reducible first | exact HB.out | apply Zac | apply Zaa | apply Zab | refine Zae ?_ GE226.out | refine Zae ?_ GE236.out) | exact HB.out))) A3.out).mono ?_); rintro e w33 ⟨rfl, hb⟩; refine ⟨_, rfl, ?_⟩; have n0_ := Zad.mk (Zap (g := gb226) (o := .cells #[.int .i64 0, .slice none 0 0] 26 (0, 0)) (by (with_reducible repeat (first | refine Zag ?_ _ | refine Zah ?_ | refine Zaf ?_ _)); exact BK226.out) hb); have n1_ := Zad.mk (Zak (by repeat (first | (with_reducible first | exact HB.out | apply Zac | apply Zaa | apply Zab | refine Zae ?_ GE226.out) | exact HB.out)) hb); clear BK226; clear HB; have BK226 := n0_; have HB := n1_; clear n0_ n1_; (try clear hb); (try clear hb2); (try clear hk); (try clear hi)) | ((with_reducible refine Zar (f := 31) rfl ?_); refine goesL_ (some 25) rfl rfl Tryz.func31 (by kernel_rfl) rfl #[.string t228] rfl (by (try simp only [List.map_toArray, List.map_cons, List.map_nil]); first | done | rfl | (simp only [List.length_drop, List.length_take]; rfl)) ?_; (with_reducible refine (impl_ReadList.calls k t228 t232 false _ (Pow10_below HT.out (by repeat (first | (with_reducible first | exact HB.out | apply Zac | apply Zaa | apply Zab | refine Zae ?_ GE226.out | refine Zae ?_ GE236.out) | exact HB.out))) A4.out).mono ?_); rintro e w34 ⟨v234, rfl, ho0, hb⟩; refine ⟨_, rfl, ?_⟩; have n0_ := Zad.mk (Kd.R_lower ho0 (Zam (by repeat (first | (with_reducible first | exact HB.out | apply Zac | apply Zaa | apply Zab | refine Zae ?_ GE226.out) | exact HB.out)))); have n1_ := Zad.mk (Zap (g := gb226) (o := .cells #[.int .i64 0, .slice none 0 0] 26 (0, 0)) (by (with_reducible repeat (first | refine Zag ?_ _ | refine Zah ?_ | refine Zaf ?_ _)); exact BK226.out) hb); have n2_ := Zad.mk (Zak (by repeat (first | (with_reducible first | exact HB.out | apply Zac | apply Zaa | apply Zab | refine Zae ?_ GE226.out) | exact HB.out)) hb); clear BK226; clear HB; have HO235 := n0_; have BK226 := n1_; have HB := n2_; clear n0_ n1_ n2_; (try clear hb); (try clear hb2); (try clear hk); (try clear hi); (try clear ho0); obtain ⟨Ao35, co35, eo35⟩ := Kd.R_slice HO235.out; subst eo35) | ((with_reducible refine gate_dst (N := 11) rfl ?_); refine box_event ?hg (N := 11) ?hd (cs := #[.int .i64 0, .slice none 0 0]) (t := 26) ?hr ?_; (case hd => rfl); (case hg => rfl); (case hr => first | (go_simp; done) | (go_simp; rfl)); intro gb236 hg w36 hbox hb; have n0_ := Zad.mk (Kd.R_below (by (with_reducible repeat (first | apply Kd.R_alloc | apply Kd.R_drewN | apply Kd.R_drew)); exact HO235.out) hb); have n1_ := Zad.mk (Zap (g := gb226) (o := .cells #[.int .i64 0, .slice none 0 0] 26 (0, 0)) (by (with_reducible repeat (first | refine Zag ?_ _ | refine Zah ?_ | refine Zaf ?_ _)); exact BK226.out) hb); have n2_ := Zad.mk (Zak (by repeat (first | (with_reducible first | exact HB.out | apply Zac | apply Zaa | apply Zab | refine Zae ?_ GE226.out) | exact HB.out)) hb); have n3_ := Zad.mk (hbox); have n4_ := Zad.mk ((by rw [hg]; exact (Zam (by repeat (first | (with_reducible first | exact HB.out | apply Zac | apply Zaa | apply Zab | refine Zae ?_ GE226.out) | exact HB.out))) : w.heap.size ≤ gb236)); have n5_ := Zad.mk ((by rw [hg]; exact (Zam (by repeat (first | (with_reducible first | exact HB.out | apply Zac | apply Zaa | apply Zab | refine Zae ?_ GE226.out) | exact HB.out))) : w.heap.size ≤ gb236)); have n6_ := Zad.mk ((by rw [hg]; exact Nat.ne_of_lt (blk_lt (g := gb226) (o := .cells #[.int .i64 0, .slice none 0 0] 26 (0, 0)) (by (with_reducible repeat (first | refine Zag ?_ _ | refine Zah ?_ | refine Zaf ?_ _)); exact BK226.out)) : gb226 ≠ gb236)); have n7_ := Zad.mk ((by rw [hg]; exact Nat.ne_of_gt (blk_lt (g := gb226) (o := .cells #[.int .i64 0, .slice none 0 0] 26 (0, 0)) (by (with_reducible repeat (first | refine Zag ?_ _ | refine Zah ?_ | refine Zaf ?_ _)); exact BK226.out)) : gb236 ≠ gb226)); clear HO235; clear BK226; clear HB; have HO235 := n0_; have BK226 := n1_; have HB := n2_; have BK236 := n3_; have GW236 := n4_; have GE236 := n5_; have NB226_236 := n6_; have NB236_226 := n7_; clear n0_ n1_ n2_ n3_ n4_ n5_ n6_ n7_; clear hb hbox hg; have hnb37 := NB236_226.out; have hnc37 := NB226_236.out; have hcz38_0 : w36.cell? ⟨gb236, 0, none⟩ = some (.int .i64 0) := (Zaj BK236.out 0).trans rfl; have hcz38_1 : w36.cell? ⟨gb236, 1, none⟩ = some (.slice none 0 0) := (Zaj BK236.out 1).trans rfl; have hfz38_0 := Zai BK236.out 0; have hfz38_1 := Zai BK236.out 1; have hcz39_0 : w36.cell? ⟨gb226, 0, none⟩ = some (.int .i64 0) := (Zaj BK226.out 0).trans rfl; have hcz39_1 : w36.cell? ⟨gb226, 1, none⟩ = some (.slice none 0 0) := (Zaj BK226.out 1).trans rfl; have hfz39_0 := Zai BK226.out 0; have hfz39_1 := Zai BK226.out 1))
     refine bodyPost_ret (results_ct rfl _ _ gb226 26 #[.int .i64 0, .slice none 0 0] (0, 0) _ rfl (by (with_reducible repeat (first | refine Zag ?_ _ | refine Zah ?_ | refine Zaf ?_ _)); refine blk_put (cs := #[.int .i64 0, .slice none 0 0]) ?_ 1 _ rfl; (with_reducible repeat (first | refine Zag ?_ _ | refine Zah ?_ | refine Zaf ?_ _)); refine blk_put (cs := #[.int .i64 0, .slice none 0 0]) ?_ 0 _ rfl; (with_reducible repeat (first | refine Zag ?_ _ | refine Zah ?_ | refine Zaf ?_ _)); refine blk_far ?_ NB226_236.out _; (with_reducible repeat (first | refine Zag ?_ _ | refine Zah ?_ | refine Zaf ?_ _)); refine blk_far ?_ NB226_236.out _; (with_reducible repeat (first | refine Zag ?_ _ | refine Zah ?_ | refine Zaf ?_ _)); exact BK226.out) Tryz.underlying26 rfl (by kernel_rfl)) rfl ?_
     exact ⟨_, by first | rfl | (simp [Zao, Zan] <;> rfl) | (simp [*, Zao, Zan] <;> rfl), by first | exact Kd.R_nil _ _ _ _ _ | exact Kd.N_nil _ _ _ _ _ | exact Kd.V_nil _ _ _ _ _ | exact Kd.Q_nil _ _ _ _ _ | exact Kd.S_nil _ _ _ _ _, by repeat (first | (with_reducible first | exact HB.out | apply Zac | apply Zaa | apply Zab | refine Zae ?_ GE226.out | refine Zae ?_ GE236.out) | exact HB.out)⟩
  ·replace c6 := Bool.eq_false_iff.mpr c6
   subst c6
   have H1 : (some (0, ([] : List Int), false)) = some (r1, r2, r3) := by rw [if_neg (show ¬ (false = true) by decide)] at H; exact H
   clear H
   have H := H1
   clear H1
   simp only [Option.some.injEq, Prod.mk.injEq] at H
   obtain ⟨rfl, rfl, rfl⟩ := H
   as_aux_lemma =>
    go_enter Tryz.func10, Tryz.ntmps10
    go_wp2_with (first | ((with_reducible refine gate_dst (N := 2) rfl ?_); refine box_event ?hg (N := 2) ?hd (cs := #[.int .i64 0, .slice none 0 0]) (t := 26) ?hr ?_; (case hd => rfl); (case hg => rfl); (case hr => first | (go_simp; done) | (go_simp; rfl)); intro gb226 hg w40 hbox hb; have n0_ := Zad.mk (Zak (by repeat (first | (with_reducible first | exact HB.out | apply Zac | apply Zaa | apply Zab) | exact HB.out)) hb); have n1_ := Zad.mk (hbox); have n2_ := Zad.mk ((by rw [hg]; exact (Zam (by repeat (first | (with_reducible first | exact HB.out | apply Zac | apply Zaa | apply Zab) | exact HB.out))) : w.heap.size ≤ gb226)); have n3_ := Zad.mk ((by rw [hg]; exact (Zam (by repeat (first | (with_reducible first | exact HB.out | apply Zac | apply Zaa | apply Zab) | exact HB.out))) : w.heap.size ≤ gb226)); clear HB; have HB := n0_; have BK226 := n1_; have GW226 := n2_; have GE226 := n3_; clear n0_ n1_ n2_ n3_; clear hb hbox hg) | ((with_reducible refine Zar (f := 29) rfl ?_); refine goesL_ (some 14) rfl rfl Tryz.func29 (by kernel_rfl) rfl #[.string a0, .string (⟨#[58]⟩ : ByteArray)] rfl (by (try simp only [List.map_toArray, List.map_cons, List.map_nil]); first | done | rfl | (simp only [List.length_drop, List.length_take]; rfl)) ?_; (with_reducible refine (strings_Cut.calls a0 (⟨#[58]⟩ : ByteArray) t227 t228 true _ (Pow10_below HT.out (by repeat (first | (with_reducible first | exact HB.out | apply Zac | apply Zaa | apply Zab | refine Zae ?_ GE226.out | refine Zae ?_ GE236.out) | exact HB.out))) A2.out).mono ?_); rintro e w41 ⟨rfl, hb⟩; refine ⟨_, rfl, ?_⟩; have n0_ := Zad.mk (Zap (g := gb226) (o := .cells #[.int .i64 0, .slice none 0 0] 26 (0, 0)) (by (with_reducible repeat (first | refine Zag ?_ _ | refine Zah ?_ | refine Zaf ?_ _)); exact BK226.out) hb); have n1_ := Zad.mk (Zak (by repeat (first | (with_reducible first | exact HB.out | apply Zac | apply Zaa | apply Zab | refine Zae ?_ GE226.out) | exact HB.out)) hb); clear BK226; clear HB; have BK226 := n0_; have HB := n1_; clear n0_ n1_; (try clear hb); (try clear hb2); (try clear hk); (try clear hi)) | ((with_reducible refine Zar (f := 30) rfl ?_); refine goesL_ (some 20) rfl rfl Tryz.func30 (by kernel_rfl) rfl #[.string t227] rfl (by (try simp only [List.map_toArray, List.map_cons, List.map_nil]); first | done | rfl | (simp only [List.length_drop, List.length_take]; rfl)) ?_; (with_reducible refine (impl_ReadDecimal.calls t227 t230 false _ (Pow10_below HT.out (by repeat (first | (with_reducible first | exact HB.out | apply Zac | apply Zaa | apply Zab | refine Zae ?_ GE226.out | refine Zae ?_ GE236.out) | exact HB.out))) A3.out).mono ?_); rintro e w42 ⟨rfl, hb⟩; refine ⟨_, rfl, ?_⟩; have n0_ := Zad.mk (Zap (g := gb226) (o := .cells #[.int .i64 0, .slice none 0 0] 26 (0, 0)) (by (with_reducible repeat (first | refine Zag ?_ _ | refine Zah ?_ | refine Zaf ?_ _)); exact BK226.out) hb); have n1_ := Zad.mk (Zak (by repeat (first | (with_reducible first | exact HB.out | apply Zac | apply Zaa | apply Zab | refine Zae ?_ GE226.out) | exact HB.out)) hb); clear BK226; clear HB; have BK226 := n0_; have HB := n1_; clear n0_ n1_; (try clear hb); (try clear hb2); (try clear hk); (try clear hi)) | ((with_reducible refine Zar (f := 31) rfl ?_); refine goesL_ (some 25) rfl rfl Tryz.func31 (by kernel_rfl) rfl #[.string t228] rfl (by (try simp only [List.map_toArray, List.map_cons, List.map_nil]); first | done | rfl | (simp only [List.length_drop, List.length_take]; rfl)) ?_; (with_reducible refine (impl_ReadList.calls k t228 t232 t233 _ (Pow10_below HT.out (by repeat (first | (with_reducible first | exact HB.out | apply Zac | apply Zaa | apply Zab | refine Zae ?_ GE226.out | refine Zae ?_ GE236.out) | exact HB.out))) A4.out).mono ?_); rintro e w43 ⟨v234, rfl, ho0, hb⟩; refine ⟨_, rfl, ?_⟩; have n0_ := Zad.mk (Kd.R_lower ho0 (Zam (by repeat (first | (with_reducible first | exact HB.out | apply Zac | apply Zaa | apply Zab | refine Zae ?_ GE226.out) | exact HB.out)))); have n1_ := Zad.mk (Zap (g := gb226) (o := .cells #[.int .i64 0, .slice none 0 0] 26 (0, 0)) (by (with_reducible repeat (first | refine Zag ?_ _ | refine Zah ?_ | refine Zaf ?_ _)); exact BK226.out) hb); have n2_ := Zad.mk (Zak (by repeat (first | (with_reducible first | exact HB.out | apply Zac | apply Zaa | apply Zab | refine Zae ?_ GE226.out) | exact HB.out)) hb); clear BK226; clear HB; have HO235 := n0_; have BK226 := n1_; have HB := n2_; clear n0_ n1_ n2_; (try clear hb); (try clear hb2); (try clear hk); (try clear hi); (try clear ho0); obtain ⟨Ao44, co44, eo44⟩ := Kd.R_slice HO235.out; subst eo44) | ((with_reducible refine gate_dst (N := 11) rfl ?_); refine box_event ?hg (N := 11) ?hd (cs := #[.int .i64 0, .slice none 0 0]) (t := 26) ?hr ?_; (case hd => rfl); (case hg => rfl); (case hr => first | (go_simp; done) | (go_simp; rfl)); intro gb236 hg w45 hbox hb; have n0_ := Zad.mk (Kd.R_below (by (with_reducible repeat (first | apply Kd.R_alloc | apply Kd.R_drewN | apply Kd.R_drew)); exact HO235.out) hb); have n1_ := Zad.mk (Zap (g := gb226) (o := .cells #[.int .i64 0, .slice none 0 0] 26 (0, 0)) (by (with_reducible repeat (first | refine Zag ?_ _ | refine Zah ?_ | refine Zaf ?_ _)); exact BK226.out) hb); have n2_ := Zad.mk (Zak (by repeat (first | (with_reducible first | exact HB.out | apply Zac | apply Zaa | apply Zab | refine Zae ?_ GE226.out) | exact HB.out)) hb); have n3_ := Zad.mk (hbox); have n4_ := Zad.mk ((by rw [hg]; exact (Zam (by repeat (first | (with_reducible first | exact HB.out | apply Zac | apply Zaa | apply Zab | refine Zae ?_ GE226.out) | exact HB.out))) : w.heap.size ≤ gb236)); have n5_ := Zad.mk ((by rw [hg]; exact (Zam (by repeat (first | (with_reducible first | exact HB.out | apply Zac | apply Zaa | apply Zab | refine Zae ?_ GE226.out) | exact HB.out))) : w.heap.size ≤ gb236)); have n6_ := Zad.mk ((by rw [hg]; exact Nat.ne_of_lt (blk_lt (g := gb226) (o := .cells #[.int .i64 0, .slice none 0 0] 26 (0, 0)) (by (with_reducible repeat (first | refine Zag ?_ _ | refine Zah ?_ | refine Zaf ?_ _)); exact BK226.out)) : gb226 ≠ gb236)); have n7_ := Zad.mk ((by rw [hg]; exact Nat.ne_of_gt (blk_lt (g := gb226) (o := .cells #[.int .i64 0, .slice none 0 0] 26 (0, 0)) (by (with_reducible repeat (first | refine Zag ?_ _ | refine Zah ?_ | refine Zaf ?_ _)); exact BK226.out)) : gb236 ≠ gb226)); clear HO235; clear BK226; clear HB; have HO235 := n0_; have BK226 := n1_; have HB := n2_; have BK236 := n3_; have GW236 := n4_; have GE236 := n5_; have NB226_236 := n6_; have NB236_226 := n7_; clear n0_ n1_ n2_ n3_ n4_ n5_ n6_ n7_; clear hb hbox hg; have hnb46 := NB236_226.out; have hnc46 := NB226_236.out; have hcz47_0 : w45.cell? ⟨gb236, 0, none⟩ = some (.int .i64 0) := (Zaj BK236.out 0).trans rfl; have hcz47_1 : w45.cell? ⟨gb236, 1, none⟩ = some (.slice none 0 0) := (Zaj BK236.out 1).trans rfl; have hfz47_0 := Zai BK236.out 0; have hfz47_1 := Zai BK236.out 1; have hcz48_0 : w45.cell? ⟨gb226, 0, none⟩ = some (.int .i64 0) := (Zaj BK226.out 0).trans rfl; have hcz48_1 : w45.cell? ⟨gb226, 1, none⟩ = some (.slice none 0 0) := (Zaj BK226.out 1).trans rfl; have hfz48_0 := Zai BK226.out 0; have hfz48_1 := Zai BK226.out 1))
    refine bodyPost_ret (results_ct rfl _ _ gb226 26 #[.int .i64 0, .slice none 0 0] (0, 0) _ rfl (by (with_reducible repeat (first | refine Zag ?_ _ | refine Zah ?_ | refine Zaf ?_ _)); refine blk_put (cs := #[.int .i64 0, .slice none 0 0]) ?_ 1 _ rfl; (with_reducible repeat (first | refine Zag ?_ _ | refine Zah ?_ | refine Zaf ?_ _)); refine blk_put (cs := #[.int .i64 0, .slice none 0 0]) ?_ 0 _ rfl; (with_reducible repeat (first | refine Zag ?_ _ | refine Zah ?_ | refine Zaf ?_ _)); refine blk_far ?_ NB226_236.out _; (with_reducible repeat (first | refine Zag ?_ _ | refine Zah ?_ | refine Zaf ?_ _)); refine blk_far ?_ NB226_236.out _; (with_reducible repeat (first | refine Zag ?_ _ | refine Zah ?_ | refine Zaf ?_ _)); exact BK226.out) Tryz.underlying26 rfl (by kernel_rfl)) rfl ?_
    exact ⟨_, by first | rfl | (simp [Zao, Zan] <;> rfl) | (simp [*, Zao, Zan] <;> rfl), by first | exact Kd.R_nil _ _ _ _ _ | exact Kd.N_nil _ _ _ _ _ | exact Kd.V_nil _ _ _ _ _ | exact Kd.Q_nil _ _ _ _ _ | exact Kd.S_nil _ _ _ _ _, by repeat (first | (with_reducible first | exact HB.out | apply Zac | apply Zaa | apply Zab | refine Zae ?_ GE226.out | refine Zae ?_ GE236.out) | exact HB.out)⟩
 ·replace c5 := Bool.eq_false_iff.mpr c5
  subst c5
  have H1 : (some (0, ([] : List Int), false)) = some (r1, r2, r3) := by rw [if_neg (show ¬ (false = true) by decide)] at H; exact H
  clear H
  have H := H1
  clear H1
  simp only [Option.some.injEq, Prod.mk.injEq] at H
  obtain ⟨rfl, rfl, rfl⟩ := H
  as_aux_lemma =>
   go_enter Tryz.func10, Tryz.ntmps10
   go_wp2_with (first | ((with_reducible refine gate_dst (N := 2) rfl ?_); refine box_event ?hg (N := 2) ?hd (cs := #[.int .i64 0, .slice none 0 0]) (t := 26) ?hr ?_; (case hd => rfl); (case hg => rfl); (case hr => first | (go_simp; done) | (go_simp; rfl)); intro gb226 hg w49 hbox hb; have n0_ := Zad.mk (Zak (by repeat (first | (with_reducible first | exact HB.out | apply Zac | apply Zaa | apply Zab) | exact HB.out)) hb); have n1_ := Zad.mk (hbox); have n2_ := Zad.mk ((by rw [hg]; exact (Zam (by repeat (first | (with_reducible first | exact HB.out | apply Zac | apply Zaa | apply Zab) | exact HB.out))) : w.heap.size ≤ gb226)); have n3_ := Zad.mk ((by rw [hg]; exact (Zam (by repeat (first | (with_reducible first | exact HB.out | apply Zac | apply Zaa | apply Zab) | exact HB.out))) : w.heap.size ≤ gb226)); clear HB; have HB := n0_; have BK226 := n1_; have GW226 := n2_; have GE226 := n3_; clear n0_ n1_ n2_ n3_; clear hb hbox hg) | ((with_reducible refine Zar (f := 29) rfl ?_); refine goesL_ (some 14) rfl rfl Tryz.func29 (by kernel_rfl) rfl #[.string a0, .string (⟨#[58]⟩ : ByteArray)] rfl (by (try simp only [List.map_toArray, List.map_cons, List.map_nil]); first | done | rfl | (simp only [List.length_drop, List.length_take]; rfl)) ?_; (with_reducible refine (strings_Cut.calls a0 (⟨#[58]⟩ : ByteArray) t227 t228 false _ (Pow10_below HT.out (by repeat (first | (with_reducible first | exact HB.out | apply Zac | apply Zaa | apply Zab | refine Zae ?_ GE226.out | refine Zae ?_ GE236.out) | exact HB.out))) A2.out).mono ?_); rintro e w50 ⟨rfl, hb⟩; refine ⟨_, rfl, ?_⟩; have n0_ := Zad.mk (Zap (g := gb226) (o := .cells #[.int .i64 0, .slice none 0 0] 26 (0, 0)) (by (with_reducible repeat (first | refine Zag ?_ _ | refine Zah ?_ | refine Zaf ?_ _)); exact BK226.out) hb); have n1_ := Zad.mk (Zak (by repeat (first | (with_reducible first | exact HB.out | apply Zac | apply Zaa | apply Zab | refine Zae ?_ GE226.out) | exact HB.out)) hb); clear BK226; clear HB; have BK226 := n0_; have HB := n1_; clear n0_ n1_; (try clear hb); (try clear hb2); (try clear hk); (try clear hi)) | ((with_reducible refine Zar (f := 30) rfl ?_); refine goesL_ (some 20) rfl rfl Tryz.func30 (by kernel_rfl) rfl #[.string t227] rfl (by (try simp only [List.map_toArray, List.map_cons, List.map_nil]); first | done | rfl | (simp only [List.length_drop, List.length_take]; rfl)) ?_; (with_reducible refine (impl_ReadDecimal.calls t227 t230 t231 _ (Pow10_below HT.out (by repeat (first | (with_reducible first | exact HB.out | apply Zac | apply Zaa | apply Zab | refine Zae ?_ GE226.out | refine Zae ?_ GE236.out) | exact HB.out))) A3.out).mono ?_); rintro e w51 ⟨rfl, hb⟩; refine ⟨_, rfl, ?_⟩; have n0_ := Zad.mk (Zap (g := gb226) (o := .cells #[.int .i64 0, .slice none 0 0] 26 (0, 0)) (by (with_reducible repeat (first | refine Zag ?_ _ | refine Zah ?_ | refine Zaf ?_ _)); exact BK226.out) hb); have n1_ := Zad.mk (Zak (by repeat (first | (with_reducible first | exact HB.out | apply Zac | apply Zaa | apply Zab | refine Zae ?_ GE226.out) | exact HB.out)) hb); clear BK226; clear HB; have BK226 := n0_; have HB := n1_; clear n0_ n1_; (try clear hb); (try clear hb2); (try clear hk); (try clear hi)) | ((with_reducible refine Zar (f := 31) rfl ?_); refine goesL_ (some 25) rfl rfl Tryz.func31 (by kernel_rfl) rfl #[.string t228] rfl (by (try simp only [List.map_toArray, List.map_cons, List.map_nil]); first | done | rfl | (simp only [List.length_drop, List.length_take]; rfl)) ?_; (with_reducible refine (impl_ReadList.calls k t228 t232 t233 _ (Pow10_below HT.out (by repeat (first | (with_reducible first | exact HB.out | apply Zac | apply Zaa | apply Zab | refine Zae ?_ GE226.out | refine Zae ?_ GE236.out) | exact HB.out))) A4.out).mono ?_); rintro e w52 ⟨v234, rfl, ho0, hb⟩; refine ⟨_, rfl, ?_⟩; have n0_ := Zad.mk (Kd.R_lower ho0 (Zam (by repeat (first | (with_reducible first | exact HB.out | apply Zac | apply Zaa | apply Zab | refine Zae ?_ GE226.out) | exact HB.out)))); have n1_ := Zad.mk (Zap (g := gb226) (o := .cells #[.int .i64 0, .slice none 0 0] 26 (0, 0)) (by (with_reducible repeat (first | refine Zag ?_ _ | refine Zah ?_ | refine Zaf ?_ _)); exact BK226.out) hb); have n2_ := Zad.mk (Zak (by repeat (first | (with_reducible first | exact HB.out | apply Zac | apply Zaa | apply Zab | refine Zae ?_ GE226.out) | exact HB.out)) hb); clear BK226; clear HB; have HO235 := n0_; have BK226 := n1_; have HB := n2_; clear n0_ n1_ n2_; (try clear hb); (try clear hb2); (try clear hk); (try clear hi); (try clear ho0); obtain ⟨Ao53, co53, eo53⟩ := Kd.R_slice HO235.out; subst eo53) | ((with_reducible refine gate_dst (N := 11) rfl ?_); refine box_event ?hg (N := 11) ?hd (cs := #[.int .i64 0, .slice none 0 0]) (t := 26) ?hr ?_; (case hd => rfl); (case hg => rfl); (case hr => first | (go_simp; done) | (go_simp; rfl)); intro gb236 hg w54 hbox hb; have n0_ := Zad.mk (Kd.R_below (by (with_reducible repeat (first | apply Kd.R_alloc | apply Kd.R_drewN | apply Kd.R_drew)); exact HO235.out) hb); have n1_ := Zad.mk (Zap (g := gb226) (o := .cells #[.int .i64 0, .slice none 0 0] 26 (0, 0)) (by (with_reducible repeat (first | refine Zag ?_ _ | refine Zah ?_ | refine Zaf ?_ _)); exact BK226.out) hb); have n2_ := Zad.mk (Zak (by repeat (first | (with_reducible first | exact HB.out | apply Zac | apply Zaa | apply Zab | refine Zae ?_ GE226.out) | exact HB.out)) hb); have n3_ := Zad.mk (hbox); have n4_ := Zad.mk ((by rw [hg]; exact (Zam (by repeat (first | (with_reducible first | exact HB.out | apply Zac | apply Zaa | apply Zab | refine Zae ?_ GE226.out) | exact HB.out))) : w.heap.size ≤ gb236)); have n5_ := Zad.mk ((by rw [hg]; exact (Zam (by repeat (first | (with_reducible first | exact HB.out | apply Zac | apply Zaa | apply Zab | refine Zae ?_ GE226.out) | exact HB.out))) : w.heap.size ≤ gb236)); have n6_ := Zad.mk ((by rw [hg]; exact Nat.ne_of_lt (blk_lt (g := gb226) (o := .cells #[.int .i64 0, .slice none 0 0] 26 (0, 0)) (by (with_reducible repeat (first | refine Zag ?_ _ | refine Zah ?_ | refine Zaf ?_ _)); exact BK226.out)) : gb226 ≠ gb236)); have n7_ := Zad.mk ((by rw [hg]; exact Nat.ne_of_gt (blk_lt (g := gb226) (o := .cells #[.int .i64 0, .slice none 0 0] 26 (0, 0)) (by (with_reducible repeat (first | refine Zag ?_ _ | refine Zah ?_ | refine Zaf ?_ _)); exact BK226.out)) : gb236 ≠ gb226)); clear HO235; clear BK226; clear HB; have HO235 := n0_; have BK226 := n1_; have HB := n2_; have BK236 := n3_; have GW236 := n4_; have GE236 := n5_; have NB226_236 := n6_; have NB236_226 := n7_; clear n0_ n1_ n2_ n3_ n4_ n5_ n6_ n7_; clear hb hbox hg; have hnb55 := NB236_226.out; have hnc55 := NB226_236.out; have hcz56_0 : w54.cell? ⟨gb236, 0, none⟩ = some (.int .i64 0) := (Zaj BK236.out 0).trans rfl; have hcz56_1 : w54.cell? ⟨gb236, 1, none⟩ = some (.slice none 0 0) := (Zaj BK236.out 1).trans rfl; have hfz56_0 := Zai BK236.out 0; have hfz56_1 := Zai BK236.out 1; have hcz57_0 : w54.cell? ⟨gb226, 0, none⟩ = some (.int .i64 0) := (Zaj BK226.out 0).trans rfl; have hcz57_1 : w54.cell? ⟨gb226, 1, none⟩ = some (.slice none 0 0) := (Zaj BK226.out 1).trans rfl; have hfz57_0 := Zai BK226.out 0; have hfz57_1 := Zai BK226.out 1))
   refine bodyPost_ret (results_ct rfl _ _ gb226 26 #[.int .i64 0, .slice none 0 0] (0, 0) _ rfl (by (with_reducible repeat (first | refine Zag ?_ _ | refine Zah ?_ | refine Zaf ?_ _)); refine blk_put (cs := #[.int .i64 0, .slice none 0 0]) ?_ 1 _ rfl; (with_reducible repeat (first | refine Zag ?_ _ | refine Zah ?_ | refine Zaf ?_ _)); refine blk_put (cs := #[.int .i64 0, .slice none 0 0]) ?_ 0 _ rfl; (with_reducible repeat (first | refine Zag ?_ _ | refine Zah ?_ | refine Zaf ?_ _)); refine blk_far ?_ NB226_236.out _; (with_reducible repeat (first | refine Zag ?_ _ | refine Zah ?_ | refine Zaf ?_ _)); refine blk_far ?_ NB226_236.out _; (with_reducible repeat (first | refine Zag ?_ _ | refine Zah ?_ | refine Zaf ?_ _)); exact BK226.out) Tryz.underlying26 rfl (by kernel_rfl)) rfl ?_
   exact ⟨_, by first | rfl | (simp [Zao, Zan] <;> rfl) | (simp [*, Zao, Zan] <;> rfl), by first | exact Kd.R_nil _ _ _ _ _ | exact Kd.N_nil _ _ _ _ _ | exact Kd.V_nil _ _ _ _ _ | exact Kd.Q_nil _ _ _ _ _ | exact Kd.S_nil _ _ _ _ _, by repeat (first | (with_reducible first | exact HB.out | apply Zac | apply Zaa | apply Zab | refine Zae ?_ GE226.out | refine Zae ?_ GE236.out) | exact HB.out)⟩
def impl_floor.f (a0 : Int) (a1 : Int) : Option (Int) := if a1 = 0 then (none) else (if (Int.tmod a0 a1) < 0 then (some (wrap64 ((wrap64 (Int.tdiv a0 a1)) - 1))) else (some (wrap64 (Int.tdiv a0 a1))))
set_option maxHeartbeats 8000000 in
set_option maxRecDepth 100000 in
theorem impl_floor.calls (a0 : Int) (a1 : Int) (r : Int) (w : World) (h : impl_floor.f a0 a1 = some r) :
  Calls Tryz.prog 48 #[.int .i64 a0, .int .i64 a1] w fun e w' => e = .returned (.int .i64 r) ∧ Drawn0 w w' := by
 have H : (if a1 = 0 then (none) else (if (Int.tmod a0 a1) < 0 then (some (wrap64 ((wrap64 (Int.tdiv a0 a1)) - 1))) else (some (wrap64 (Int.tdiv a0 a1))))) = some r := h
 clear h
 by_cases c3 : a1 = 0
 ·rw [if_pos c3] at H
  exact absurd H (by simp)
 ·rw [if_neg c3] at H
  have c3b0 : (a1 == 0) = false := beq_eq_false_iff_ne.mpr c3
  have c3b1 : (a1 != 0) = true := bne_iff_ne.mpr c3
  by_cases c4 : (Int.tmod a0 a1) < 0
  ·rw [if_pos c4] at H
   have c4b0 : decide ((Int.tmod a0 a1) < 0) = true := decide_eq_true c4
   clear c4
   obtain rfl := Option.some.inj H
   go_enter Tryz.func48, Tryz.ntmps48
   go_wp2
   go_ret
   exact ⟨by first | rfl | (simp; done) | (simp [*]; done), by repeat (first | exact Drawn0.refl _ | apply Drawn0.step)⟩
  ·rw [if_neg c4] at H
   have c4b0 : decide ((Int.tmod a0 a1) < 0) = false := decide_eq_false c4
   clear c4
   obtain rfl := Option.some.inj H
   go_enter Tryz.func48, Tryz.ntmps48
   go_wp2
   go_ret
   exact ⟨by first | rfl | (simp; done) | (simp [*]; done), by repeat (first | exact Drawn0.refl _ | apply Drawn0.step)⟩
def impl_Values_floors_1_v.f (a0 : Int) (a1_0 : Int) (l1_1 : List Int) : Option (Int) := (impl_floor.f a0 a1_0).bind fun t238 => (some t238)
set_option maxHeartbeats 8000000 in
set_option maxRecDepth 100000 in
theorem impl_Values_floors_1_v.calls (a0 : Int) (gp50 : Nat) (a1_0 : Int) (A1_1 : Option Addr) (c1_1 : Nat) (l1_1 : List Int) (r : Int) (w : World) (hb50 : w.heap[gp50]? = some (.cells #[.int .i64 a1_0, .slice A1_1 l1_1.length c1_1] 26 (0, 0))) (hr1_1 : Kd.C (Kd.int .i64) w A1_1 l1_1.length l1_1) (hc1_1 : l1_1.length ≤ c1_1) (h : impl_Values_floors_1_v.f a0 a1_0 l1_1 = some r) :
  Calls Tryz.prog 47 #[.int .i64 a0, .pointer (some ⟨gp50, 0, none⟩)] w fun e w' => e = .returned (.int .i64 r) ∧ Below w.heap.size w w' := by
 have HR1_1 := Zad.mk hr1_1
 have HC1_1 := Zad.mk hc1_1
 clear hr1_1 hc1_1
 have BK50 := Zad.mk hb50
 clear hb50
 have HB := Zad.mk (Below.refl w.heap.size w)
 have H : ((impl_floor.f a0 a1_0).bind fun t238 => (some t238)) = some r := h
 clear h
 replace H := Option.bind_eq_some_iff.mp H
 obtain ⟨t238, A30, H⟩ := H
 replace H : (some t238) = some r := H
 have A3 := Zad.mk A30
 clear A30
 obtain rfl := Option.some.inj H
 have hcz4_0 : w.cell? ⟨gp50, 0, none⟩ = some (.int .i64 a1_0) := (Zaj BK50.out 0).trans rfl
 have hcz4_1 : w.cell? ⟨gp50, 1, none⟩ = some (.slice A1_1 l1_1.length c1_1) := (Zaj BK50.out 1).trans rfl
 have hfz4_0 := Zai BK50.out 0
 have hfz4_1 := Zai BK50.out 1
 go_enter Tryz.func47, Tryz.ntmps47
 go_wp2_with (first | ((with_reducible refine Zar (f := 48) rfl ?_); refine goesL_ (some 7) rfl rfl Tryz.func48 (by kernel_rfl) rfl #[.int .i64 a0, .int .i64 a1_0] rfl (by (try simp only [List.map_toArray, List.map_cons, List.map_nil]); first | done | rfl | (simp only [List.length_drop, List.length_take]; rfl)) ?_; (with_reducible refine (impl_floor.calls a0 a1_0 t238 _ A3.out).mono ?_); rintro e w' ⟨rfl, ⟨nd, rfl⟩⟩; refine ⟨_, rfl, ?_⟩))
 go_ret
 exact ⟨by first | rfl | (simp [Zao, Zan] <;> rfl) | (simp [*, Zao, Zan] <;> rfl), by repeat (first | (with_reducible first | exact HB.out | apply Zac | apply Zaa | apply Zab | refine Zae ?_ GE50.out) | exact HB.out)⟩
end Go.Proofs.YtijpgenadhhkcaaGreatDoor.P
