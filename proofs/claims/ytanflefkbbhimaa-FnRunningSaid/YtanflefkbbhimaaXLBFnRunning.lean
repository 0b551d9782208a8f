import Derived.Lib.SliceRun
import Derived.WalkKit
import Derived.OneCell
import Derived.Test.YtanflefkbbhimaaXW1FnRunning
import Derived.Test.YtanflefkbbhimaaXBFnRunning
import Derived.Maps.OwnSet
import Derived.Maps.Views
import Derived.DeepKeys4
import Derived.Test.YtanflefkbbhimaaXP1FnRunning
namespace Go.Proofs.Ytanflefkbbhimaa.P
open Go Go.RowKit Go.Proofs.YtanflefkbbhimaaW.PrintWords Go.Proofs.YtanflefkbbhimaaW.PrintLast Go.Proofs.YtanflefkbbhimaaW.PrintMore
set_option linter.unusedVariables false
set_option linter.unusedSimpArgs false
def Two (w : World) (g : Nat) (a b : Int) : Prop := w.heap[g]? = some (.cells #[.int .i64 a, .int .i64 b] 2 (0, 0))
theorem Two.c0 {w : World} {g : Nat} {a b : Int} (h : Two w g a b) : w.cell? ⟨g, 0, none⟩ = some (.int .i64 a) := (Zaj h 0).trans rfl
theorem Two.c1 {w : World} {g : Nat} {a b : Int} (h : Two w g a b) : w.cell? ⟨g, 1, none⟩ = some (.int .i64 b) := (Zaj h 1).trans rfl
structure CompOut (g : Nat) (a b : Int) (w : World) (e : Ending) (w' : World) : Prop where mk ::
  (out : ∃ m b', e = .returned (.slice (some ⟨g, 0, none⟩) m 2) ∧ (a = b ∧ m = 1 ∨ ¬ a = b ∧ m = 2 ∧ b' = b) ∧ Two w' g a b' ∧ Below g w w')
theorem compact_two (g : Nat) (a b : Int) (w : World) (h : Two w g a b) (hg : w.heap.size ≤ g + 1) :
    Calls Try.prog 63 #[.slice (some ⟨g, 0, none⟩) 2 2] w fun e w' => CompOut g a b w e w' := by
  have hc0 := h.c0
  have hc1 := h.c1
  go_enter Try.func63, Try.ntmps63
  go_wp2
  go_loopw [3] (fun v wr => Za4 w wr ∧ (v = .int .i64 1 ∨ (v = .int .i64 2 ∧ ¬ a = b))) (fun v _ => 2 - (intOf v).toNat)
  case atStart => exact ⟨⟨0, rfl⟩, .inl rfl⟩
  case round =>
    obtain ⟨⟨nd, rfl⟩, hv⟩ := hrel
    rcases hv with rfl | ⟨rfl, hab⟩
    · by_cases hab : a = b
      · subst hab
        go_wp2
        go_region
        all_goals
          go_wp2
          go_loopw [3, 5] (fun v3 v wr => Za4 w wr ∧ v3 = .int .i64 1 ∧ v = .int .i64 1) (fun _ _ _ => 0)
          case atStart => exact ⟨⟨_, rfl⟩, rfl, rfl⟩
          case round =>
            obtain ⟨⟨nd2, rfl⟩, rfl, rfl⟩ := hrel
            have hcl : ∀ ty, (Builtin.clear_ #[22] ty #[.slice (some ⟨g, 1, none⟩) 1 1]).run Try.prog (w.drewN nd2) = .ok (.tuple #[]) ((w.drewN nd2).setCells g 1 (List.replicate 1 (.int .i64 0))) := fun ty =>
              Lib.run_clear_slice (P := Try.prog) (w.drewN nd2) 22 2 ty (.int .i64 0) Try.underlying22 (fun w => Try.zeroValue2 w) rfl rfl g 1 1 1 (by decide) (fun j hj => by
                obtain rfl : j = 0 := by omega
                have e : (w.drewN nd2).cell? ⟨g, 1, none⟩ = w.cell? ⟨g, 1, none⟩ := rfl
                rw [show 1 + 0 = 1 from rfl, e, hc1]; rfl) (fun j hj => by
                have e : (w.drewN nd2).frozen? ⟨g, 1 + j, none⟩ = w.frozen? ⟨g, 1 + j, none⟩ := rfl
                rw [e]; exact Zah h _)
            have hTwo : Two ((w.drewN nd2).setCells g 1 (List.replicate 1 (.int .i64 0))) g a 0 := by
              have := blk_set (w := w.drewN nd2) h 1 (.int .i64 0)
              exact this
            have hBel : Below g w ((w.drewN nd2).setCells g 1 (List.replicate 1 (.int .i64 0))) := by
              have := Below.setCell (Zaa (Below.refl g w) nd2) (p := ⟨g, 1, none⟩) (Nat.le_refl g) (.int .i64 0)
              exact this
            generalize ((w.drewN nd2).setCells g 1 (List.replicate 1 (.int .i64 0))) = W2 at hcl hTwo hBel
            go_wp2
            go_ret
            exact ⟨1, 0, rfl, .inl ⟨rfl, rfl⟩, hTwo, hBel⟩
      · go_wp2
        go_region
        all_goals
          go_wp2
          exact ⟨⟨⟨_, rfl⟩, .inr ⟨rfl, hab⟩⟩, by simp [intOf]⟩
    · go_wp2
      go_ret
      exact ⟨2, b, rfl, .inr ⟨hab, rfl, rfl⟩, h, Zaa (Below.refl _ _) _⟩
theorem floorR {a b : Int} (hb : 1 ≤ b) (h1 : -4611686018427387904 ≤ a) (h2 : a ≤ 4611686018427387904) : impl_floor.f a b = some (a / b) := by
  have hd := B.ediv_bounds (a := a) hb (by omega) h1 h2
  have hm := Int.emod_nonneg a (show b ≠ 0 by omega)
  have hl := Int.emod_lt_of_pos a (show 0 < b by omega)
  unfold impl_floor.f
  rw [if_neg (by omega), B.tdiv_pos hb, B.tmod_pos hb]
  by_cases c : 0 ≤ a ∨ b ∣ a
  · simp only [if_pos c]
    rw [if_neg (by omega), B.w64 (by omega) (by omega)]
    congr 1; omega
  · simp only [if_neg c]
    rw [if_pos (by omega), B.w64 (x := a / b + 1) (by omega) (by omega), B.w64 (by omega) (by omega)]
    congr 1; omega
theorem ceilR {a b : Int} (hb : 1 ≤ b) (h1 : -4611686018427387904 ≤ a) (h2 : a ≤ 4611686018427387904) : impl_ceiling.f a b = some (B.cl a b) := by
  have hd := B.ediv_bounds (a := -a) hb (M := 4611686018427387904) (by omega) (by omega) (by omega)
  unfold impl_ceiling.f
  rw [B.w64 (by omega) (by omega), floorR hb (by omega) (by omega)]
  simp only [Option.bind_some]
  rw [B.w64 (by omega) (by omega)]; rfl
def chs (den x : Int) : List Int := if x / den = B.cl x den then [x / den] else [x / den, B.cl x den]
structure ChOut (den x : Int) (w : World) (e : Ending) (w' : World) : Prop where mk ::
  (out : ∃ g cs, e = .returned (.slice (some ⟨g, 0, none⟩) (chs den x).length 2) ∧ w.heap.size ≤ g ∧ w'.heap[g]? = some (.cells cs 2 (0, 0)) ∧ (∀ j : Nat, j < (chs den x).length → cs[j]? = some (.int .i64 (rd (chs den x) j))) ∧ Below w.heap.size w w')
theorem ChOut.of2 {den x : Int} {w w9 W2 : World} {o : Obj} {e : Ending} (h : CompOut w9.heap.size (x / den) (B.cl x den) (w9.alloc o) e W2) (hb : Below w.heap.size w w9) : ChOut den x w e W2 := by
  obtain ⟨m, b', he, hc, ht, hbl⟩ := h.out
  refine ⟨⟨w9.heap.size, #[.int .i64 (x / den), .int .i64 b'], ?_, hb.size, ht, ?_, (Zac hb o).trans ⟨hbl.os, hbl.tape, hbl.output, hbl.size, fun k hk => hbl.block k (Nat.lt_of_lt_of_le hk hb.size)⟩⟩⟩
  · rcases hc with ⟨hab, rfl⟩ | ⟨hab, rfl, _⟩
    · rw [he]; unfold chs; rw [if_pos hab]; rfl
    · rw [he]; unfold chs; rw [if_neg hab]; rfl
  · intro j hj
    unfold chs at hj ⊢
    rcases hc with ⟨hab, rfl⟩ | ⟨hab, rfl, rfl⟩
    · rw [if_pos hab] at hj ⊢
      obtain rfl : j = 0 := by simpa using hj
      rfl
    · rw [if_neg hab] at hj ⊢
      have hj : j < 2 := hj
      obtain rfl | rfl : j = 0 ∨ j = 1 := by omega
      · rfl
      · rfl
set_option maxHeartbeats 2000000 in
set_option maxRecDepth 100000 in
theorem choices.calls (den : Int) (A : Option Addr) (c : Nat) (l : List Int) (i : Nat) (w : World) (hr : Kd.C (Kd.int .i64) w A l.length l) (hc : l.length ≤ c) (hd : 1 ≤ den) (hi : i < l.length) (hx : -4611686018427387904 ≤ rd l i ∧ rd l i ≤ 4611686018427387904) :
    Calls Try.prog 43 #[.agg #[.int .i64 den, .slice A l.length c], .int .i64 i] w fun e w' => ChOut den (rd l i) w e w' := by
  have HF := Zab.mk (floorR hd hx.1 hx.2)
  have HCe := Zab.mk (ceilR hd hx.1 hx.2)
  obtain ⟨ad, ea, hx0⟩ := Kd.at_int hr i (by omega) (by omega)
  cases ea
  have hp := eq_true (show (0 : Int) ≤ (i : Int) by omega)
  have hq := eq_true (show (i : Int) < (l.length : Int) by omega)
  have hx0' : w.cell? (ad.add i) = some (.int .i64 (rd l i)) := hx0
  clear hd hx hc hr
  have HB : Below w.heap.size w (w.alloc (.cells #[.int .i64 den, .slice (some ad) l.length c] 28)).drew := below_drew (Zac (Below.refl _ _) _)
  have HK : (w.alloc (.cells #[.int .i64 den, .slice (some ad) l.length c] 28)).drew.heap[w.heap.size]? = some (.cells #[.int .i64 den, .slice (some ad) l.length c] 28 (0, 0)) := Zak (blk_new w _)
  have HS0 := Zab.mk (And.intro ((Zaj HK 0).trans rfl) (And.intro ((Zaj HK 1).trans rfl) ((HB.cell (World.block_lt_of_cell? w _ hx0')).trans hx0')))
  have HB := Zab.mk HB
  clear hx0 hx0' HK
  go_enter Try.func43, Try.ntmps43
  go_wp2
  refine start_ (n := 19) (S := fun w' => w'.cell? ⟨w.heap.size, 0, none⟩ = some (.int .i64 den) ∧ w'.cell? ⟨w.heap.size, 1, none⟩ = some (.slice (some ad) l.length c) ∧ w'.cell? (ad.add i) = some (.int .i64 (rd l i))) (ds := []) #[false, false, false, false, false, false, false, false, false, false, false, false, false, false, false, false, false, false, false] (by kernel_rfl) rfl rfl HS0.out (fun hHeld => ?_)
  generalize (w.alloc (.cells #[.int .i64 den, .slice (some ad) l.length c] 28)).drew = w9 at HB hHeld ⊢
  refine pure_ (i := 0) (N := some 5) (v := ?_) (a' := ?_) #[true, false, false, false, false, false, false, false, false, false, false, false, false, false, false, false, false, false, false] rfl rfl (by kernel_rfl) (fun _ _ _ h => h) (Or.inl ⟨by rfl, ?_⟩) ?_ ?_
  rotate_left
  · intro w'
    go_simp
    with_reducible rfl
  rotate_left
  · simp only [Act.put, ZA, ZB, ZC, i64_w, i32_w]
    rfl
  refine pure_ (i := 2) (N := some 7) (v := ?_) (a' := ?_) #[true, false, true, false, false, false, false, false, false, false, false, false, false, false, false, false, false, false, false] rfl rfl (by kernel_rfl) (fun _ _ _ h => h) (Or.inl ⟨by rfl, ?_⟩) ?_ ?_
  rotate_left
  · intro w'
    go_simp
    with_reducible rfl
  rotate_left
  · simp only [Act.put, ZA, ZB, ZC, i64_w, i32_w]
    rfl
  refine pure_ (i := 5) (N := some 10) (v := ?_) (a' := ?_) #[true, false, true, false, false, true, false, false, false, false, false, false, false, false, false, false, false, false, false] rfl rfl (by kernel_rfl) (fun _ _ _ h => h) (Or.inl ⟨by rfl, ?_⟩) ?_ ?_
  rotate_left
  · intro w'
    go_simp
    with_reducible rfl
  rotate_left
  · simp only [Act.put, ZA, ZB, ZC, i64_w, i32_w]
    rfl
  refine pure_ (i := 8) (N := some 13) (v := ?_) (a' := ?_) #[true, false, true, false, false, true, false, false, true, false, false, false, false, false, false, false, false, false, false] rfl rfl (by kernel_rfl) (fun _ _ _ h => h) (Or.inl ⟨by rfl, ?_⟩) ?_ ?_
  rotate_left
  · intro w'
    go_simp
    with_reducible rfl
  rotate_left
  · simp only [Act.put, ZA, ZB, ZC, i64_w, i32_w]
    rfl
  refine pure_ (i := 10) (N := some 15) (v := ?_) (a' := ?_) #[true, false, true, false, false, true, false, false, true, false, true, false, false, false, false, false, false, false, false] rfl rfl (by kernel_rfl) (fun _ _ _ h => h) (Or.inl ⟨by rfl, ?_⟩) ?_ ?_
  rotate_left
  · intro w'
    go_simp
    with_reducible rfl
  rotate_left
  · simp only [Act.put, ZA, ZB, ZC, i64_w, i32_w]
    rfl
  refine pure_ (i := 13) (N := some 18) (v := ?_) (a' := ?_) #[true, false, true, false, false, true, false, false, true, false, true, false, false, true, false, false, false, false, false] rfl rfl (by kernel_rfl) (fun _ _ _ h => h) (Or.inl ⟨by rfl, ?_⟩) ?_ ?_
  rotate_left
  · intro w'
    go_simp
    with_reducible rfl
  rotate_left
  · simp only [Act.put, ZA, ZB, ZC, i64_w, i32_w]
    rfl
  refine take_ (i := 1) (N := some 6) (v := ?_) (a' := ?_) #[true, true, true, false, false, true, false, false, true, false, true, false, false, true, false, false, false, false, false] rfl rfl (by kernel_rfl) (fun _ _ _ h => h) (Or.inl ⟨by rfl, ?_⟩) hHeld ?_ ?_
  rotate_left
  · rintro w' ⟨s0, s1, s2⟩
    go_simp
    with_reducible rfl
  rotate_left
  · simp only [Act.put, ZA, ZB, ZC, i64_w, i32_w]
    rfl
  refine pure_ (i := 3) (N := some 8) (v := ?_) (a' := ?_) #[true, true, true, true, false, true, false, false, true, false, true, false, false, true, false, false, false, false, false] rfl rfl (by kernel_rfl) (fun _ _ _ h => h) (Or.inl ⟨by rfl, ?_⟩) ?_ ?_
  rotate_left
  · intro w'
    go_simp
    with_reducible rfl
  rotate_left
  · simp only [Act.put, ZA, ZB, ZC, i64_w, i32_w]
    rfl
  refine take_ (i := 4) (N := some 9) (v := ?_) (a' := ?_) #[true, true, true, true, true, true, false, false, true, false, true, false, false, true, false, false, false, false, false] rfl rfl (by kernel_rfl) (fun _ _ _ h => h) (Or.inl ⟨by rfl, ?_⟩) hHeld ?_ ?_
  rotate_left
  · rintro w' ⟨s0, s1, s2⟩
    go_simp
    with_reducible rfl
  rotate_left
  · simp only [Act.put, ZA, ZB, ZC, i64_w, i32_w]
    rfl
  refine take_ (i := 6) (N := some 11) (v := ?_) (a' := ?_) #[true, true, true, true, true, true, true, false, true, false, true, false, false, true, false, false, false, false, false] rfl rfl (by kernel_rfl) (fun _ _ _ h => h) (Or.inl ⟨by rfl, ?_⟩) hHeld ?_ ?_
  rotate_left
  · rintro w' ⟨s0, s1, s2⟩
    go_simp
    with_reducible rfl
  rotate_left
  · simp only [Act.put, ZA, ZB, ZC, i64_w, i32_w]
    rfl
  refine take_ (i := 9) (N := some 14) (v := ?_) (a' := ?_) #[true, true, true, true, true, true, true, false, true, true, true, false, false, true, false, false, false, false, false] rfl rfl (by kernel_rfl) (fun _ _ _ h => h) (Or.inl ⟨by rfl, ?_⟩) hHeld ?_ ?_
  rotate_left
  · rintro w' ⟨s0, s1, s2⟩
    go_simp
    with_reducible rfl
  rotate_left
  · simp only [Act.put, ZA, ZB, ZC, i64_w, i32_w]
    rfl
  refine pure_ (i := 11) (N := some 16) (v := ?_) (a' := ?_) #[true, true, true, true, true, true, true, false, true, true, true, true, false, true, false, false, false, false, false] rfl rfl (by kernel_rfl) (fun _ _ _ h => h) (Or.inl ⟨by rfl, ?_⟩) ?_ ?_
  rotate_left
  · intro w'
    go_simp
    with_reducible rfl
  rotate_left
  · simp only [Act.put, ZA, ZB, ZC, i64_w, i32_w]
    rfl
  refine take_ (i := 12) (N := some 17) (v := ?_) (a' := ?_) #[true, true, true, true, true, true, true, false, true, true, true, true, true, true, false, false, false, false, false] rfl rfl (by kernel_rfl) (fun _ _ _ h => h) (Or.inl ⟨by rfl, ?_⟩) hHeld ?_ ?_
  rotate_left
  · rintro w' ⟨s0, s1, s2⟩
    go_simp
    with_reducible rfl
  rotate_left
  · simp only [Act.put, ZA, ZB, ZC, i64_w, i32_w]
    rfl
  refine take_ (i := 14) (N := some 19) (v := ?_) (a' := ?_) #[true, true, true, true, true, true, true, false, true, true, true, true, true, true, true, false, false, false, false] rfl rfl (by kernel_rfl) (fun _ _ _ h => h) (Or.inl ⟨by rfl, ?_⟩) hHeld ?_ ?_
  rotate_left
  · rintro w' ⟨s0, s1, s2⟩
    go_simp
    with_reducible rfl
  rotate_left
  · simp only [Act.put, ZA, ZB, ZC, i64_w, i32_w]
    rfl
  refine one_ (i := 7) (N := some 12) #[true, true, true, true, true, true, true, true, true, true, true, true, true, true, true, false, false, false, false] rfl rfl (by kernel_rfl) (by decide) (fun K hK => ?_)
  refine goes_ Try.func39 (by kernel_rfl) rfl #[.int .i64 (rd l i), .int .i64 den] (by rfl) rfl rfl (by (try simp only [List.map_toArray, List.map_cons, List.map_nil]); first | done | rfl) ?_
  refine (impl_floor.calls _ _ _ _ HF.out).mono ?_
  rintro e w' ⟨rfl, ⟨nd, rfl⟩⟩
  refine ⟨_, rfl, ?_⟩
  refine hK.out _ _ hHeld (fun hHeld2 => ?_)
  clear hK K
  refine norm_ (a' := ?_) ?_ ?_
  rotate_left
  · show Act.put _ (some 12) _ = _
    simp only [Act.put, ZA, ZB, ZC, i64_w, i32_w]
    rfl
  refine one_ (i := 15) (N := some 20) #[true, true, true, true, true, true, true, true, true, true, true, true, true, true, true, true, false, false, false] rfl rfl (by kernel_rfl) (by decide) (fun K hK => ?_)
  refine goes_ Try.func64 (by kernel_rfl) rfl #[.int .i64 (rd l i), .int .i64 den] (by rfl) rfl rfl (by (try simp only [List.map_toArray, List.map_cons, List.map_nil]); first | done | rfl) ?_
  refine (impl_ceiling.calls _ _ _ _ HCe.out).mono ?_
  rintro e w' ⟨rfl, ⟨nd2, rfl⟩⟩
  refine ⟨_, rfl, ?_⟩
  refine hK.out _ _ hHeld (fun hHeld3 => ?_)
  clear hK K
  refine norm_ (a' := ?_) ?_ ?_
  rotate_left
  · show Act.put _ (some 20) _ = _
    simp only [Act.put, ZA, ZB, ZC, i64_w, i32_w]
    rfl
  have HB2 := Zab.mk (Zaa (Zaa HB.out nd) nd2)
  generalize (w9.drewN nd).drewN nd2 = w10 at HB2 hHeld3 ⊢
  refine one_ (i := 16) (N := some 21) #[true, true, true, true, true, true, true, true, true, true, true, true, true, true, true, true, true, false, false] rfl rfl (by kernel_rfl) (by decide) (fun K hK => ?_)
  refine event_step (v := .slice (some ⟨w10.heap.size, 0, none⟩) 2 2) (w1 := w10.alloc (.cells #[.int .i64 (rd l i / den), .int .i64 (B.cl (rd l i) den)] 2)) (by rfl) (by first | (go_simp; done) | (go_simp; rfl)) ?_
  have HB3 := Zab.mk (Zac HB2.out (.cells #[.int .i64 (rd l i / den), .int .i64 (B.cl (rd l i) den)] 2))
  have HT : Two (w10.alloc (.cells #[.int .i64 (rd l i / den), .int .i64 (B.cl (rd l i) den)] 2)) w10.heap.size (rd l i / den) (B.cl (rd l i) den) := blk_new w10 _
  have hHeld4 := And.intro (Lib.cell?_alloc_some (.cells #[.int .i64 (rd l i / den), .int .i64 (B.cl (rd l i) den)] 2) hHeld3.1) (And.intro (Lib.cell?_alloc_some (.cells #[.int .i64 (rd l i / den), .int .i64 (B.cl (rd l i) den)] 2) hHeld3.2.1) (Lib.cell?_alloc_some (.cells #[.int .i64 (rd l i / den), .int .i64 (B.cl (rd l i) den)] 2) hHeld3.2.2))
  refine hK.out _ _ hHeld4 (fun hHeld5 => ?_)
  clear hK K
  refine norm_ (a' := ?_) ?_ ?_
  rotate_left
  · show Act.put _ (some 21) _ = _
    simp only [Act.put, ZA, ZB, ZC, i64_w, i32_w]
    rfl
  refine one_ (i := 17) (N := some 22) #[true, true, true, true, true, true, true, true, true, true, true, true, true, true, true, true, true, true, false] rfl rfl (by kernel_rfl) (by decide) (fun K hK => ?_)
  refine goes_ Try.func63 (by kernel_rfl) rfl #[.slice (some ⟨w10.heap.size, 0, none⟩) 2 2] (by rfl) rfl rfl (by (try simp only [List.map_toArray, List.map_cons, List.map_nil]); first | done | rfl) ?_
  refine (compact_two _ _ _ _ HT (by rw [World.size_alloc]; omega)).mono ?_
  rintro e w' ho
  have hbl : Below w10.heap.size (w10.alloc (.cells #[.int .i64 (rd l i / den), .int .i64 (B.cl (rd l i) den)] 2)) w' := by obtain ⟨m, b', _, _, _, h⟩ := ho.out; exact h
  have HO := Zab.mk (ChOut.of2 ho HB2.out)
  obtain ⟨m, b', rfl, _, _, _⟩ := ho.out
  clear ho
  refine ⟨_, rfl, ?_⟩
  refine hK.out _ _ ⟨(hbl.cell (World.block_lt_of_cell? w10 _ hHeld3.1)).trans hHeld5.1, (hbl.cell (World.block_lt_of_cell? w10 _ hHeld3.2.1)).trans hHeld5.2.1, (hbl.cell (World.block_lt_of_cell? w10 _ hHeld3.2.2)).trans hHeld5.2.2⟩ (fun hHeld6 => ?_)
  clear hK K
  refine norm_ (a' := ?_) ?_ ?_
  rotate_left
  · show Act.put _ (some 22) _ = _
    simp only [Act.put, ZA, ZB, ZC, i64_w, i32_w]
    rfl
  refine pure_ (i := 18) (N := some 4) (v := ?_) (a' := ?_) #[true, true, true, true, true, true, true, true, true, true, true, true, true, true, true, true, true, true, true] rfl rfl (by kernel_rfl) (fun _ _ _ h => h) (Or.inl ⟨by rfl, ?_⟩) ?_ ?_
  rotate_left
  · intro w'
    go_simp
    with_reducible rfl
  rotate_left
  · simp only [Act.put, ZA, ZB, ZC, i64_w, i32_w]
    rfl
  refine done_ (by kernel_rfl) ?_
  go_wp2
  go_ret
  exact HO.out
end Go.Proofs.Ytanflefkbbhimaa.P
namespace Go.Proofs.Ytanflefkbbhimaa.P
open Go Go.RowKit Go.Maps Go.Proofs.YtanflefkbbhimaaW.PrintWords Go.Proofs.YtanflefkbbhimaaW.PrintLast Go.Proofs.YtanflefkbbhimaaW.PrintMore
set_option linter.unusedVariables false
set_option linter.unusedSimpArgs false
theorem Ways.laid : laidOutB Try.prog = true := by kernel_rfl
theorem Ways.row : (77 : TypeId) < Try.prog.types.size := of_decide_eq_true (by kernel_rfl)
theorem Ways.wide : (match Try.prog.underlying 77 with | some (.array _ _) | some (.struct _) => true | _ => false) = true := by rw [Try.underlying77]
set_option maxRecDepth 1000000 in
theorem Ways.law : WideMaps.KeyLaw Try.prog 77 := deep_law_laid Ways.laid (m := 2) (by show 3 ≤ 10000; exact Nat.le_of_ble_eq_true rfl) Ways.row (by kernel_rfl) Ways.wide
theorem Ways.keyed : Keyed Try.prog 77 := Keyed.of_law Ways.law
theorem Ways.pos {n : Nat} (h : 77 < n) : ∃ m, n = m + 1 := ⟨n - 1, by omega⟩
theorem Ways.types : ∃ m, Try.prog.types.size = m + 1 := Ways.pos Ways.row
def plc (i e : Int) : Value := .agg #[.int .i64 i, .int .i64 e]
theorem Ways.key (i e : Int) (hi : (Lit.int .i64 i).wf = true) (he : (Lit.int .i64 e).wf = true) : ∃ kl, keyOf Try.prog 77 (plc i e) = some kl := by
  obtain ⟨m, hm⟩ := Ways.types
  have hk : Try.prog.keyType 77 = true := by kernel_rfl
  have hc : Try.prog.cellsOf 77 = 2 := by kernel_rfl
  have hc2 : Try.prog.cellsOf 2 = 1 := by kernel_rfl
  have hc3 : Try.prog.cellsOf 3 = 1 := by kernel_rfl
  unfold keyOf
  rw [hm]
  simp only [Try.underlying77, hk]
  simp [plc, Value.formed, Try.underlying77, hc, Value.cells, Program.keyLits, hc2, hc3, Try.underlying2, Try.underlying3, hi, he]
def cntW (den bd : Int) : List Int → Int → Int
  | [], _ => 1
  | x :: xs, e => ((chs den x).map fun n => if -bd ≤ e + den * n - x ∧ e + den * n - x ≤ bd then cntW den bd xs (e + den * n - x) else 0).sum
def cntT (den bd : Int) (xs : List Int) (x e n : Int) : Int := if -bd ≤ e + den * n - x ∧ e + den * n - x ≤ bd then cntW den bd xs (e + den * n - x) else 0
theorem cntW_cons (den bd : Int) (x : Int) (xs : List Int) (e : Int) : cntW den bd (x :: xs) e = ((chs den x).map (cntT den bd xs x e)).sum := rfl
theorem chs_len (den x : Int) : 1 ≤ (chs den x).length ∧ (chs den x).length ≤ 2 := by
  unfold chs
  split
  · exact ⟨Nat.le_refl _, by simp⟩
  · exact ⟨by simp, Nat.le_refl _⟩
theorem sum_le_two {f : Int → Int} {M : Int} (hf : ∀ n, 0 ≤ f n ∧ f n ≤ M) : ∀ l : List Int, 0 ≤ (l.map f).sum ∧ (l.map f).sum ≤ l.length * M
  | [] => by simp
  | a :: l => by
    have h1 := sum_le_two hf l
    have h2 := hf a
    simp only [List.map_cons, List.sum_cons, List.length_cons]
    rw [Int.natCast_add, Int.add_mul, Int.natCast_one, Int.one_mul]
    omega
theorem cntW_in (den bd : Int) : ∀ (l : List Int) (e : Int), 0 ≤ cntW den bd l e ∧ cntW den bd l e ≤ 2 ^ l.length
  | [], e => by simp [cntW]
  | x :: xs, e => by
    have h : ∀ n, 0 ≤ cntT den bd xs x e n ∧ cntT den bd xs x e n ≤ 2 ^ xs.length := fun n => by
      unfold cntT
      split
      · exact cntW_in den bd xs _
      · exact ⟨Int.le_refl _, Int.le_of_lt (Int.pow_pos (by decide))⟩
    have h1 := sum_le_two h (chs den x)
    have h2 := (chs_len den x).2
    have hp : (0 : Int) < 2 ^ xs.length := Int.pow_pos (by decide)
    have h3 : ((chs den x).length : Int) * 2 ^ xs.length ≤ 2 * 2 ^ xs.length := Int.mul_le_mul_of_nonneg_right (by omega) (by omega)
    rw [cntW_cons, List.length_cons, Int.pow_succ]
    omega
theorem cntT_in (den bd : Int) (xs : List Int) (x e n : Int) : 0 ≤ cntT den bd xs x e n ∧ cntT den bd xs x e n ≤ 2 ^ xs.length := by
  unfold cntT
  split
  · exact cntW_in den bd xs _
  · exact ⟨Int.le_refl _, Int.le_of_lt (Int.pow_pos (by decide))⟩
def nE : Nat → Nat
  | 0 => 0
  | d + 1 => 2 * nE d + 1
theorem nE_lt : ∀ d, nE d < 2 ^ d
  | 0 => by decide
  | d + 1 => by have := nE_lt d; rw [nE, Nat.pow_succ]; omega
def GoodM (den bd : Int) (l : List Int) (D : DataW Unit) : Prop := ∀ (i : Nat) (e : Int) (kl : Lit), keyOf Try.prog 77 (plc i e) = some kl → Maps.has D kl = true → ∀ z, D.atKey kl z = .lit (.int .i64 (cntW den bd (l.drop i) e))
theorem GoodM.put {den bd : Int} {l : List Int} {D : DataW Unit} (hD : Maps.IsMap D) (h : GoodM den bd l D) {i : Nat} {e : Int} {kl : Lit} (hk : keyOf Try.prog 77 (plc i e) = some kl) : GoodM den bd l (D.put kl (.lit (.int .i64 (cntW den bd (l.drop i) e)))) := by
  intro i' e' kl' hk' hh z
  by_cases c : kl' = kl
  · subst c
    have he := Ways.keyed.inj hk hk'
    unfold plc at he
    simp only [Value.agg.injEq, Array.mk.injEq, List.cons.injEq, Value.int.injEq, true_and, and_true] at he
    obtain ⟨h1, h2⟩ := he
    obtain rfl : i = i' := by omega
    subst h2
    exact Maps.atKey_put_same hD (Ways.keyed.key hk) _ _
  · rw [Maps.atKey_put_other c]
    rw [Maps.has_put_other c] at hh
    exact h i' e' kl' hk' hh z
structure Cap where
  gv : Nat
  gk : Nat
  gb : Nat
  gf : Nat
  mb : Nat
def Cap.fn (C : Cap) : Value := .func (.func 60) #[] #[.pointer (some ⟨C.gv, 0, none⟩), .pointer (some ⟨C.gk, 0, none⟩), .pointer (some ⟨C.gb, 0, none⟩), .pointer (some ⟨C.gf, 0, none⟩)]
structure WSt (w0 : World) (C : Cap) (den bd : Int) (l : List Int) (A : Option Addr) (c m : Nat) (W : World) : Prop where
  v : W.heap[C.gv]? = some (.cells #[.int .i64 den, .slice A l.length c] 28 (0, 0))
  k : W.heap[C.gk]? = some (.cells #[.map (some C.mb)] 75 (0, 0))
  b : W.heap[C.gb]? = some (.cells #[.int .i64 bd] 2 (0, 0))
  f : W.heap[C.gf]? = some (.cells #[C.fn] 57 (0, 0))
  B : Below w0.heap.size w0 W
  o : w0.heap.size ≤ C.mb
  D : ∃ D : DataW Unit, W.ownsMap Try.prog 77 (plainElem Try.prog 2) C.mb m D ∧ Maps.IsMap D ∧ GoodM den bd l D
theorem owns_isMap {W : World} {b m : Nat} {R : Value → Option (DataW Unit × List MemPlace)} {D : DataW Unit} (h : W.ownsMap Try.prog 77 R b m D) : Maps.IsMap D := by
  obtain ⟨es, cl, _, _, _, e⟩ := h
  exact ⟨_, e⟩
theorem map_ne {W : World} {g mb m : Nat} {cs : Array Value} {t : TypeId} {D : DataW Unit} {R : Value → Option (DataW Unit × List MemPlace)} (h : W.heap[g]? = some (.cells cs t (0, 0))) (hm : W.ownsMap Try.prog 77 R mb m D) : g ≠ mb := by
  rintro rfl
  obtain ⟨es, cl, hb, _⟩ := hm
  rw [h] at hb
  cases hb
section
variable {w0 : World} {C : Cap} {den bd : Int} {l : List Int} {A : Option Addr} {c m : Nat} {W W' : World}
theorem WSt.ne (h : WSt w0 C den bd l A c m W) {g : Nat} {cs : Array Value} {t : TypeId} (hg : W.heap[g]? = some (.cells cs t (0, 0))) : some g ≠ some C.mb := by
  obtain ⟨D, ho, _⟩ := h.D
  have := map_ne hg ho
  intro e; cases e; exact this rfl
theorem WSt.below (h : WSt w0 C den bd l A c m W) (hb : Below W.heap.size W W') : WSt w0 C den bd l A c m W' := by
  obtain ⟨D, ho, h1, h2⟩ := h.D
  exact ⟨Zao h.v hb, Zao h.k hb, Zao h.b hb, Zao h.f hb, Zal h.B hb, h.o, ⟨D, ho.kept (grown_of_below hb none) (by simp), h1, h2⟩⟩
theorem WSt.mono (h : WSt w0 C den bd l A c m W) {m' : Nat} (hm : m ≤ m') : WSt w0 C den bd l A c m' W := by
  obtain ⟨D, ho, h1, h2⟩ := h.D
  exact ⟨h.v, h.k, h.b, h.f, h.B, h.o, ⟨D, ho.mono hm, h1, h2⟩⟩
theorem WSt.put (h : WSt w0 C den bd l A c m W) {m' : Nat} {D' : DataW Unit} (hg : W.grownBy W' (some C.mb)) (ho' : W'.ownsMap Try.prog 77 (plainElem Try.prog 2) C.mb m' D') (hD : GoodM den bd l D') : WSt w0 C den bd l A c m' W' :=
  ⟨blk_grown h.v hg (h.ne h.v), blk_grown h.k hg (h.ne h.k), blk_grown h.b hg (h.ne h.b), blk_grown h.f hg (h.ne h.f), pw_below_grown h.B (some C.mb) h.B.size hg (fun k e => by cases e; exact h.o), h.o, ⟨D', ho', owns_isMap ho', hD⟩⟩
end
theorem grown_trans {a b c : World} {r : Option Nat} (h : a.grownBy b r) (k : b.grownBy c r) : a.grownBy c r := ⟨k.os.trans h.os, k.tape.trans h.tape, k.output.trans h.output, Nat.le_trans h.size k.size, fun i hi hr => (k.block i (Nat.lt_of_lt_of_le hi h.size) hr).trans (h.block i hi hr)⟩
theorem grown_refl (a : World) (r : Option Nat) : a.grownBy a r := ⟨rfl, rfl, rfl, Nat.le_refl _, fun _ _ _ => rfl⟩
structure FOut (w0 : World) (C : Cap) (den bd : Int) (l : List Int) (A : Option Addr) (c m : Nat) (r : Int) (W : World) (e : Ending) (W' : World) : Prop where mk ::
  e : e = .returned (.int .i64 r)
  s : WSt w0 C den bd l A c m W'
  g : W.grownBy W' (some C.mb)
end Go.Proofs.Ytanflefkbbhimaa.P
namespace Go.Proofs.Ytanflefkbbhimaa.P
open Go Go.RowKit Go.Maps Go.Proofs.YtanflefkbbhimaaW.PrintWords Go.Proofs.YtanflefkbbhimaaW.PrintLast Go.Proofs.YtanflefkbbhimaaW.PrintMore
set_option linter.unusedVariables false
set_option linter.unusedSimpArgs false
structure WOk (den bd : Int) (l : List Int) : Prop where
  d : 1 ≤ den ∧ den ≤ 1000
  b : 0 ≤ bd ∧ bd ≤ 1000
  n : l.length ≤ 40
  v : ∀ x ∈ l, -1000000 ≤ x ∧ x ≤ 1000000
theorem WOk.rd {den bd : Int} {l : List Int} (h : WOk den bd l) {i : Nat} (hi : i < l.length) : -1000000 ≤ rd l i ∧ rd l i ≤ 1000000 := h.v _ (B.rd_mem hi)
theorem chs_in {den x : Int} (hd : 1 ≤ den) (hx : -1000000 ≤ x ∧ x ≤ 1000000) : ∀ n ∈ chs den x, -1000000 ≤ n ∧ n ≤ 1000000 := by
  have h1 := B.ediv_bounds (a := x) hd (M := 1000000) (by omega) hx.1 hx.2
  have h2 := B.cl_bounds (a := x) hd (M := 1000000) (by omega) hx.1 hx.2
  intro n hn
  unfold chs at hn
  split at hn
  · rw [List.mem_singleton.1 hn]; exact h1
  · rcases List.mem_cons.1 hn with rfl | hn
    · exact h1
    · rw [List.mem_singleton.1 hn]; exact h2
theorem mul_small {den n : Int} (hd : 1 ≤ den ∧ den ≤ 1000) (hn : -1000000 ≤ n ∧ n ≤ 1000000) : -1000000000 ≤ den * n ∧ den * n ≤ 1000000000 := by
  have h1 : den * n ≤ den * 1000000 := Int.mul_le_mul_of_nonneg_left hn.2 (by omega)
  have h2 : den * (-1000000) ≤ den * n := Int.mul_le_mul_of_nonneg_left hn.1 (by omega)
  omega
theorem len_wf {n : Nat} (h : n ≤ 40) : (Lit.int .i64 (n : Int)).wf = true := by
  simp [Lit.wf, IntKind.min, IntKind.max, IntKind.signed, IntKind.bits]; omega
theorem err_wf {e : Int} (h : -1000 ≤ e ∧ e ≤ 1000) : (Lit.int .i64 e).wf = true := by
  simp [Lit.wf, IntKind.min, IntKind.max, IntKind.signed, IntKind.bits]; omega
section
variable {w0 : World} {C : Cap} {den bd : Int} {l : List Int} {A : Option Addr} {c : Nat}
set_option maxHeartbeats 2000000 in
set_option maxRecDepth 100000 in
theorem find_end (H : WOk den bd l) (e : Int) (m : Nat) (W : World) (hs : WSt w0 C den bd l A c m W) :
    Calls Try.prog 60 #[.int .i64 (l.length : Int), .int .i64 e, .pointer (some ⟨C.gv, 0, none⟩), .pointer (some ⟨C.gk, 0, none⟩), .pointer (some ⟨C.gb, 0, none⟩), .pointer (some ⟨C.gf, 0, none⟩)] W fun e' W' => FOut w0 C den bd l A c m 1 W e' W' := by
  have hv1 : W.cell? ⟨C.gv, 1, none⟩ = some (.slice A l.length c) := (Zaj hs.v 1).trans rfl
  have hn := H.n
  have HS := Zab.mk hs
  clear hs
  go_enter Try.func60, Try.ntmps60
  go_wp2
  go_ret
  exact ⟨rfl, HS.out, grown_refl _ _⟩
set_option maxHeartbeats 2000000 in
set_option maxRecDepth 100000 in
theorem find_known (H : WOk den bd l) (i : Nat) (hi : i < l.length) (e : Int) (m : Nat) (W : World) (hs : WSt w0 C den bd l A c m W) (D : DataW Unit) (hown : W.ownsMap Try.prog 77 (plainElem Try.prog 2) C.mb m D) (kl : Lit) (hkey : keyOf Try.prog 77 (plc i e) = some kl) (hh : Maps.has D kl = true)
    (r : Int) (hr : ∀ z, D.atKey kl z = .lit (.int .i64 r)) :
    Calls Try.prog 60 #[.int .i64 (i : Int), .int .i64 e, .pointer (some ⟨C.gv, 0, none⟩), .pointer (some ⟨C.gk, 0, none⟩), .pointer (some ⟨C.gb, 0, none⟩), .pointer (some ⟨C.gf, 0, none⟩)] W fun e' W' => FOut w0 C den bd l A c m r W e' W' := by
  have hv1 : W.cell? ⟨C.gv, 1, none⟩ = some (.slice A l.length c) := (Zaj hs.v 1).trans rfl
  have hk0 : W.cell? ⟨C.gk, 0, none⟩ = some (.map (some C.mb)) := (Zaj hs.k 0).trans rfl
  have hn := H.n
  have HS := Zab.mk hs
  have hin : ¬ (i : Int) = (l.length : Int) := by omega
  clear hs H
  go_enter Try.func60, Try.ntmps60
  go_wp2_with (at_lookup; refine wpList_lookup_own_ok_int _ rfl _ _ 75 rfl 77 2 .i64 Ways.keyed Try.underlying75 Try.underlying2 (Try.zeroValue2 _) C.mb m D rfl hown (plc i e) kl rfl hkey ?_; rw [hh]; intro cv hat hwc; obtain rfl : r = cv := (by rw [hr] at hat; injection hat with h1; injection h1))
  go_ret
  exact ⟨rfl, HS.out, grown_refl _ _⟩
theorem grown_drewN (w : World) (n : Nat) (r : Option Nat) : w.grownBy (w.drewN n) r := ⟨rfl, rfl, rfl, Nat.le_refl _, fun _ _ _ => rfl⟩
theorem within_fn (a b c : Int) : impl_within.f a b c = some (decide (b ≤ a ∧ a ≤ c)) := by
  unfold impl_within.f
  by_cases h : b ≤ a
  · rw [if_pos h]
    congr 1
    exact decide_eq_decide.2 ⟨fun z => ⟨h, z⟩, fun z => z.2⟩
  · rw [if_neg h, decide_eq_false (fun z => h z.1)]
theorem take_sum {f : Int → Int} {L : List Int} {j : Nat} (h : j < L.length) : ((L.take (j + 1)).map f).sum = ((L.take j).map f).sum + f (rd L j) := by
  rw [List.take_succ_eq_append_getElem h, List.map_append, List.sum_append, B.rd_nat h]
  simp
def accT (den bd : Int) (xs : List Int) (x e : Int) (j : Nat) : Int := (((chs den x).take j).map (cntT den bd xs x e)).sum
theorem accT_zero (den bd : Int) (xs : List Int) (x e : Int) : accT den bd xs x e 0 = 0 := by simp [accT]
theorem accT_succ {den bd : Int} {xs : List Int} {x e : Int} {j : Nat} (h : j < (chs den x).length) : accT den bd xs x e (j + 1) = accT den bd xs x e j + cntT den bd xs x e (rd (chs den x) j) := take_sum h
theorem accT_all (den bd : Int) (xs : List Int) (x e : Int) : accT den bd xs x e (chs den x).length = cntW den bd (x :: xs) e := by
  rw [cntW_cons]
  unfold accT
  rw [List.take_length]
theorem pow_40 {n : Nat} (h : n ≤ 40) : (2 : Int) ^ n ≤ 1099511627776 := by
  have : 2 ^ n ≤ 2 ^ 40 := Nat.pow_le_pow_right (by decide) h
  have e : (2 : Int) ^ n = ((2 ^ n : Nat) : Int) := by simp
  rw [e]
  omega
theorem accT_in {den bd : Int} {xs : List Int} {x e : Int} (hx : xs.length ≤ 40) (j : Nat) : 0 ≤ accT den bd xs x e j ∧ accT den bd xs x e j ≤ 4000000000000 := by
  have h := sum_le_two (f := cntT den bd xs x e) (M := 1099511627776) (fun n => by
    have h1 := cntT_in den bd xs x e n
    have h2 := pow_40 hx
    omega) ((chs den x).take j)
  have hl : ((chs den x).take j).length ≤ 2 := by rw [List.length_take]; have := (chs_len den x).2; omega
  unfold accT
  omega
theorem cntW_40 {den bd : Int} {xs : List Int} (hx : xs.length ≤ 40) (e : Int) : 0 ≤ cntW den bd xs e ∧ cntW den bd xs e ≤ 1099511627776 := by
  have h1 := cntW_in den bd xs e
  have h2 := pow_40 hx
  omega
theorem drop_cons {l : List Int} {i : Nat} (h : i < l.length) : l.drop i = rd l i :: l.drop (i + 1) := by
  rw [B.rd_nat h]
  exact List.drop_eq_getElem_cons h
set_option maxHeartbeats 4000000 in
set_option maxRecDepth 100000 in
theorem find_new (hr : Kd.C (Kd.int .i64) w0 A l.length l) (hc : l.length ≤ c) (H : WOk den bd l) (d i : Nat) (hi : i + (d + 1) = l.length)
    (ih : ∀ (e : Int) (m : Nat) (W : World), (-1000 ≤ e ∧ e ≤ 1000) → m + nE d ≤ 4000000000000000 → WSt w0 C den bd l A c m W → Calls Try.prog 60 #[.int .i64 ((i : Int) + 1), .int .i64 e, .pointer (some ⟨C.gv, 0, none⟩), .pointer (some ⟨C.gk, 0, none⟩), .pointer (some ⟨C.gb, 0, none⟩), .pointer (some ⟨C.gf, 0, none⟩)] W fun e' W' => FOut w0 C den bd l A c (m + nE d) (cntW den bd (l.drop (i + 1)) e) W e' W')
    (e : Int) (he : -1000 ≤ e ∧ e ≤ 1000) (m : Nat) (hm : m + nE (d + 1) ≤ 4000000000000000) (W : World) (hs : WSt w0 C den bd l A c m W) (D : DataW Unit) (hown : W.ownsMap Try.prog 77 (plainElem Try.prog 2) C.mb m D) (kl : Lit) (hkey : keyOf Try.prog 77 (plc i e) = some kl) (hh : Maps.has D kl = false) :
    Calls Try.prog 60 #[.int .i64 (i : Int), .int .i64 e, .pointer (some ⟨C.gv, 0, none⟩), .pointer (some ⟨C.gk, 0, none⟩), .pointer (some ⟨C.gb, 0, none⟩), .pointer (some ⟨C.gf, 0, none⟩)] W fun e' W' => FOut w0 C den bd l A c (m + nE (d + 1)) (cntW den bd (l.drop i) e) W e' W' := by
  have hv0 : W.cell? ⟨C.gv, 0, none⟩ = some (.int .i64 den) := (Zaj hs.v 0).trans rfl
  have hv1 : W.cell? ⟨C.gv, 1, none⟩ = some (.slice A l.length c) := (Zaj hs.v 1).trans rfl
  have hk0 : W.cell? ⟨C.gk, 0, none⟩ = some (.map (some C.mb)) := (Zaj hs.k 0).trans rfl
  have hn := H.n
  have hil : i < l.length := by omega
  have hin : ¬ (i : Int) = (l.length : Int) := by omega
  have hx := H.rd hil
  have HX := Zab.mk (show -4611686018427387904 ≤ rd l i ∧ rd l i ≤ 4611686018427387904 by omega)
  have HS := Zab.mk hs
  have HH := Zab.mk H
  have HR := Zab.mk hr
  have HC := Zab.mk hc
  have HI := Zab.mk ih
  clear hs H hr hc ih
  go_enter Try.func60, Try.ntmps60
  go_wp2_with (first | (at_lookup; refine wpList_lookup_own_ok_int _ rfl _ _ 75 rfl 77 2 .i64 Ways.keyed Try.underlying75 Try.underlying2 (Try.zeroValue2 _) C.mb m D rfl hown (plc i e) kl rfl hkey ?_; rw [hh]; intro cv hat hwc; clear hat hwc hown) | ((with_reducible refine Zax (f := 43) rfl ?_); refine goesL_ (some 32) rfl rfl Try.func43 (by kernel_rfl) rfl #[.agg #[.int .i64 den, .slice A l.length c], .int .i64 i] rfl (by (try simp only [List.map_toArray, List.map_cons, List.map_nil]); first | done | rfl) ?_; refine (choices.calls den A c l i _ (Kd.C_below HR.out HS.out.B) HC.out HH.out.d.1 hil HX.out).mono ?_; rintro e1 W1 ho; obtain ⟨g, cs, rfl, hge, hgc, hcs, hbl⟩ := ho.out; clear ho; refine ⟨_, rfl, ?_⟩; have HS1 := Zab.mk (HS.out.below hbl); have HB1 := Zab.mk hbl; have HG := Zab.mk hgc; have HGE := Zab.mk hge; have HCS := Zab.mk hcs; clear hv0 hv1 hk0 hge hgc hcs hbl))
  have hcl := chs_len den (rd l i)
  have hnE : nE (d + 1) = 2 * nE d + 1 := rfl
  obtain ⟨L, hL⟩ : ∃ L, L = (chs den (rd l i)).length := ⟨_, rfl⟩
  go_loopg [11, 34] L (fun kq v11 v34 wr => ∃ j : Nat, v34 = .int .i64 j ∧ v11 = .int .i64 (accT den bd (l.drop (i + 1)) (rd l i) e j) ∧ Zab (kq + j = L) ∧ Zab (WSt w0 C den bd l A c (m + j * nE d) wr) ∧ Zab (wr.heap[g]? = some (.cells cs 2 (0, 0))) ∧ Zab (W.grownBy wr (some C.mb)))
  case atStart => exact ⟨0, rfl, by rw [accT_zero], ⟨rfl⟩, ⟨by rw [Nat.zero_mul, Nat.add_zero]; exact HS1.out⟩, HG, ⟨grown_of_below HB1.out _⟩⟩
  case round =>
    obtain ⟨j, rfl, rfl, hkq, HSj, HGj, HBj⟩ := hrel
    have hcl2 : True := trivial
    have hv0 : wr.cell? ⟨C.gv, 0, none⟩ = some (.int .i64 den) := (Zaj HSj.out.v 0).trans rfl
    have hv1 : wr.cell? ⟨C.gv, 1, none⟩ = some (.slice A l.length c) := (Zaj HSj.out.v 1).trans rfl
    have hk0 : wr.cell? ⟨C.gk, 0, none⟩ = some (.map (some C.mb)) := (Zaj HSj.out.k 0).trans rfl
    have hb0 : wr.cell? ⟨C.gb, 0, none⟩ = some (.int .i64 bd) := (Zaj HSj.out.b 0).trans rfl
    have hf0 : wr.cell? ⟨C.gf, 0, none⟩ = some C.fn := (Zaj HSj.out.f 0).trans rfl
    have hkq' := hkq.out
    have HLc := Zab.mk hL
    have hcl2' : (chs den (rd l i)).length ≤ 2 := hcl.2
    have hkq2 : gk + j = (chs den (rd l i)).length := by rw [← hL]; exact hkq'
    clear hkq' hL hcl hcl2
    by_cases hj : j < (chs den (rd l i)).length
    · have hjl : (j : Int) < ((chs den (rd l i)).length : Int) := by omega
      have hcell : wr.cell? ⟨g, j, none⟩ = some (.int .i64 (rd (chs den (rd l i)) j)) := (Zaj HGj.out j).trans (HCS.out j (by omega))
      have hnin := chs_in HH.out.d.1 hx (rd (chs den (rd l i)) j) (B.rd_mem (by omega))
      have hmul := mul_small HH.out.d hnin
      have hbd := HH.out.b
      have hts := Zab.mk (accT_succ (den := den) (bd := bd) (xs := l.drop (i + 1)) (x := rd l i) (e := e) (j := j) (by omega))
      have hdl : (l.drop (i + 1)).length ≤ 40 := by rw [List.length_drop]; omega
      have hacc := accT_in (den := den) (bd := bd) (x := rd l i) (e := e) hdl j
      obtain ⟨ad, ea, hx0⟩ := Kd.at_int HR.out i (by omega) (by omega)
      cases ea
      have hx0' : wr.cell? (ad.add i) = some (.int .i64 (rd l i)) := (HSj.out.B.cell (World.block_lt_of_cell? w0 _ hx0)).trans hx0
      have hp := eq_true (show (0 : Int) ≤ (i : Int) by omega)
      have hq := eq_true (show (i : Int) < (l.length : Int) by omega)
      obtain ⟨nj, hnj⟩ : ∃ n, n = rd (chs den (rd l i)) j := ⟨_, rfl⟩
      rw [← hnj] at hcell hnin hmul
      have HTS := hts
      clear hts
      have HNJ := Zab.mk hnj
      clear hnj
      obtain ⟨xi, hxi⟩ : ∃ x, x = rd l i := ⟨_, rfl⟩
      rw [← hxi] at hx hx0'
      have HXI := Zab.mk hxi
      clear hxi
      have hcw := cntW_40 (den := den) (bd := bd) hdl (e + den * nj - xi)
      have hje : j * nE d ≤ nE d := Nat.le_trans (Nat.mul_le_mul_right _ (by omega)) (Nat.le_of_eq (Nat.one_mul _))
      have hjs : (j + 1) * nE d = j * nE d + nE d := Nat.succ_mul ..
      obtain ⟨kq, rfl⟩ : ∃ n, gk = n + 1 := ⟨gk - 1, by omega⟩
      go_wp2
      go_region
      all_goals
        by_cases hT : -bd ≤ e + den * nj - xi ∧ e + den * nj - xi ≤ bd
        · have hw : Zab (impl_within.f (e + den * nj - xi) (-bd) bd = some true) := ⟨by rw [within_fn, decide_eq_true hT]⟩
          have hct : Zab (cntT den bd (l.drop (i + 1)) (rd l i) e (rd (chs den (rd l i)) j) = cntW den bd (l.drop (i + 1)) (e + den * nj - xi)) := ⟨by rw [← HNJ.out, ← HXI.out]; unfold cntT; rw [if_pos hT]⟩
          have hnx : -1000 ≤ e + den * nj - xi ∧ e + den * nj - xi ≤ 1000 := by omega
          clear hT
          go_wp2_with (first | ((with_reducible refine Zax (f := 44) rfl ?_); refine goesL_ (some 54) rfl rfl Try.func44 (by kernel_rfl) rfl #[.int .i64 (e + den * nj - xi), .int .i64 (-bd), .int .i64 bd] rfl (by (try simp only [List.map_toArray, List.map_cons, List.map_nil]); first | done | rfl) ?_; refine (impl_within.calls _ _ _ _ _ hw.out).mono ?_; rintro e1 w1 ⟨rfl, ⟨nd, rfl⟩⟩; refine ⟨_, rfl, ?_⟩) | ((with_reducible refine gate_through (j := 56) rfl ?_); refine goesV_ (some 60) rfl rfl Try.func60 (by kernel_rfl) rfl #[.int .i64 ((i : Int) + 1), .int .i64 (e + den * nj - xi), .pointer (some ⟨C.gv, 0, none⟩), .pointer (some ⟨C.gk, 0, none⟩), .pointer (some ⟨C.gb, 0, none⟩), .pointer (some ⟨C.gf, 0, none⟩)] rfl rfl (by (try simp only [List.map_toArray, List.map_cons, List.map_nil]); first | done | rfl) ?_; refine (HI.out (e + den * nj - xi) (m + j * nE d) _ hnx (by omega) (HSj.out.below (by repeat (first | exact Below.refl _ _ | apply Zaa | apply below_drew)))).mono ?_; rintro e1 W2 ⟨rfl, hs2, hg2⟩; refine ⟨_, rfl, ?_⟩; have HS2 := Zab.mk hs2; have HG2 := Zab.mk hg2; clear hs2 hg2 hv0 hv1 hk0 hb0 hf0 hcell hx0'))
          go_roundg kq
          case measure => omega
          case rel => exact ⟨j + 1, by simp, by rw [HTS.out, hct.out], ⟨by rw [HLc.out]; omega⟩, ⟨by rw [hjs, ← Nat.add_assoc]; exact HS2.out⟩, ⟨blk_grown HGj.out (grown_trans (grown_drewN wr _ _) HG2.out) (WSt.ne (W := wr) HSj.out HGj.out)⟩, ⟨grown_trans HBj.out (grown_trans (grown_drewN wr _ _) HG2.out)⟩⟩
        · have hw : Zab (impl_within.f (e + den * nj - xi) (-bd) bd = some false) := ⟨by rw [within_fn, decide_eq_false hT]⟩
          have hct : Zab (cntT den bd (l.drop (i + 1)) (rd l i) e (rd (chs den (rd l i)) j) = 0) := ⟨by rw [← HNJ.out, ← HXI.out]; unfold cntT; rw [if_neg hT]⟩
          clear hT
          go_wp2_with ((with_reducible refine Zax (f := 44) rfl ?_); refine goesL_ (some 54) rfl rfl Try.func44 (by kernel_rfl) rfl #[.int .i64 (e + den * nj - xi), .int .i64 (-bd), .int .i64 bd] rfl (by (try simp only [List.map_toArray, List.map_cons, List.map_nil]); first | done | rfl) ?_; refine (impl_within.calls _ _ _ _ _ hw.out).mono ?_; rintro e1 w1 ⟨rfl, ⟨nd, rfl⟩⟩; refine ⟨_, rfl, ?_⟩)
          go_roundg kq
          case measure => omega
          case rel => exact ⟨j + 1, by simp, by rw [HTS.out, hct.out, Int.add_zero], ⟨by rw [HLc.out]; omega⟩, ⟨(HSj.out.below (Zaa (Below.refl _ _) _)).mono (by omega)⟩, HGj, ⟨grown_trans HBj.out (grown_drewN wr _ _)⟩⟩
    · obtain rfl : j = (chs den (rd l i)).length := by omega
      have hacc : Zab (accT den bd (l.drop (i + 1)) (rd l i) e (chs den (rd l i)).length = cntW den bd (l.drop i) e) := ⟨by rw [accT_all, drop_cons hil]⟩
      have hdl : (l.drop (i + 1)).length ≤ 40 := by rw [List.length_drop]; omega
      have hai := accT_in (den := den) (bd := bd) (x := rd l i) (e := e) hdl (chs den (rd l i)).length
      obtain ⟨D2, hown2, him2, hgd2⟩ := HSj.out.D
      have hje : (chs den (rd l i)).length * nE d ≤ 2 * nE d := Nat.mul_le_mul_right _ hcl2'
      have hwf : (Lit.int .i64 (accT den bd (l.drop (i + 1)) (rd l i) e (chs den (rd l i)).length)).wf = true := by
        simp [Lit.wf, IntKind.min, IntKind.max, IntKind.signed, IntKind.bits]; omega
      have hval : plainElem (H := Unit) Try.prog 2 (.int .i64 (accT den bd (l.drop (i + 1)) (rd l i) e (chs den (rd l i)).length)) = some (.lit (.int .i64 (accT den bd (l.drop (i + 1)) (rd l i) e (chs den (rd l i)).length)), []) := plainElem_int Try.underlying2 hwf
      have hmx : m + (chs den (rd l i)).length * nE d < maxLen := by unfold maxLen; omega
      have HGD := Zab.mk hgd2
      have HIM := Zab.mk him2
      clear hgd2 him2 hwf
      go_wp2_with (at_mapUpdate; refine wpList_mapUpdate_own _ rfl _ _ _ 75 rfl 77 2 Ways.keyed Try.underlying75 (plainElem Try.prog 2) C.mb (m + (chs den (rd l i)).length * nE d) D2 rfl hown2 hmx (plc i e) (.int .i64 (accT den bd (l.drop (i + 1)) (rd l i) e (chs den (rd l i)).length)) kl rfl rfl hkey (.lit (.int .i64 (accT den bd (l.drop (i + 1)) (rd l i) e (chs den (rd l i)).length))) [] hval ?_; intro w5 hown5 hgrow5)
      go_ret
      have hg : GoodM den bd l (D2.put kl (.lit (.int .i64 (accT den bd (l.drop (i + 1)) (rd l i) e (chs den (rd l i)).length)))) := by rw [hacc.out]; exact GoodM.put HIM.out HGD.out hkey
      exact ⟨by rw [← hacc.out]; rfl, (HSj.out.put hgrow5 hown5 hg).mono (by omega), grown_trans HBj.out hgrow5⟩
theorem find.calls (hr : Kd.C (Kd.int .i64) w0 A l.length l) (hc : l.length ≤ c) (H : WOk den bd l) : ∀ (d i : Nat), i + d = l.length → ∀ (e : Int) (m : Nat) (W : World), (-1000 ≤ e ∧ e ≤ 1000) → m + nE d ≤ 4000000000000000 → WSt w0 C den bd l A c m W →
    Calls Try.prog 60 #[.int .i64 (i : Int), .int .i64 e, .pointer (some ⟨C.gv, 0, none⟩), .pointer (some ⟨C.gk, 0, none⟩), .pointer (some ⟨C.gb, 0, none⟩), .pointer (some ⟨C.gf, 0, none⟩)] W fun e' W' => FOut w0 C den bd l A c (m + nE d) (cntW den bd (l.drop i) e) W e' W' := by
  intro d
  induction d with
  | zero =>
    intro i hi e m W he hm hs
    obtain rfl : i = l.length := by omega
    rw [List.drop_length]
    exact find_end H e m W hs
  | succ d ih =>
    intro i hi e m W he hm hs
    have hil : i < l.length := by omega
    have hn := H.n
    obtain ⟨kl, hkey⟩ := Ways.key (i : Int) e (len_wf (by omega)) (err_wf he)
    obtain ⟨D, hown, him, hgd⟩ := hs.D
    cases hh : Maps.has D kl with
    | true =>
      refine (find_known H i hil e m W hs D hown kl hkey hh (cntW den bd (l.drop i) e) (hgd i e kl hkey hh)).mono fun e' W' ho => ⟨ho.e, ho.s.mono (by omega), ho.g⟩
    | false => exact find_new hr hc H d i hi (fun e m W he hm hs => ih (i + 1) (by omega) e m W he hm hs) e he m hm W hs D hown kl hkey hh
end
end Go.Proofs.Ytanflefkbbhimaa.P
namespace Go.Proofs.Ytanflefkbbhimaa.P
open Go Go.RowKit Go.Maps Go.Proofs.YtanflefkbbhimaaW.PrintWords Go.Proofs.YtanflefkbbhimaaW.PrintLast Go.Proofs.YtanflefkbbhimaaW.PrintMore
set_option linter.unusedVariables false
set_option linter.unusedSimpArgs false
structure WayOut (w0 : World) (den bd : Int) (l : List Int) (A : Option Addr) (c : Nat) (W : World) (e : Ending) (W' : World) : Prop where mk ::
  (out : ∃ C : Cap, e = .returned C.fn ∧ WSt w0 C den bd l A c 0 W' ∧ Below W.heap.size W W' ∧ W.heap.size ≤ C.gv ∧ W.heap.size ≤ C.gk ∧ W.heap.size ≤ C.gb ∧ W.heap.size ≤ C.gf ∧ W.heap.size ≤ C.mb)
set_option maxHeartbeats 2000000 in
set_option maxRecDepth 100000 in
theorem waysOn.calls (w0 : World) (den bd : Int) (l : List Int) (A : Option Addr) (c : Nat) (W : World) (hb : Below w0.heap.size w0 W) :
    Calls Try.prog 35 #[.agg #[.int .i64 den, .slice A l.length c], .int .i64 bd] W fun e W' => WayOut w0 den bd l A c W e W' := by
  have HB := Zab.mk hb
  clear hb
  have hmm := @run_makeMap Try.prog
  go_enter Try.func35, Try.ntmps35
  go_wp2
  go_ret
  refine ⟨⟨W.heap.size, W.heap.size + 1 + 1 + 1, W.heap.size + 1, W.heap.size + 1 + 1 + 1 + 1, W.heap.size + 1 + 1⟩, rfl, ⟨?_, ?_, ?_, ?_, ?_, ?_, ?_⟩, ?_, ?_, ?_, ?_, ?_, ?_⟩
  · exact Zaf (Zaf (Zaf (Zaf (blk_new W _) _) _) _) _
  · have := blk_new (((W.alloc (Obj.cells #[Value.int IntKind.i64 den, Value.slice A l.length c] 28)).alloc (Obj.cells #[Value.int IntKind.i64 bd] 2)).alloc (Obj.map #[] 0)) (Obj.cells #[Value.map (some (W.heap.size + 1 + 1))] 75)
    rw [World.size_alloc, World.size_alloc, World.size_alloc] at this
    exact Zaf this _
  · have := blk_new (W.alloc (Obj.cells #[Value.int IntKind.i64 den, Value.slice A l.length c] 28)) (Obj.cells #[Value.int IntKind.i64 bd] 2)
    rw [World.size_alloc] at this
    exact Zaf (Zaf (Zaf this _) _) _
  · have := blk_new ((((W.alloc (Obj.cells #[Value.int IntKind.i64 den, Value.slice A l.length c] 28)).alloc (Obj.cells #[Value.int IntKind.i64 bd] 2)).alloc (Obj.map #[] 0)).alloc (Obj.cells #[Value.map (some (W.heap.size + 1 + 1))] 75)) (Obj.cells #[Value.func (Fn.func 60) #[] #[Value.pointer (some { block := W.heap.size, off := 0 }), Value.pointer (some { block := W.heap.size + 1 + 1 + 1, off := 0 }), Value.pointer (some { block := W.heap.size + 1, off := 0 }), Value.pointer (some { block := W.heap.size + 1 + 1 + 1 + 1, off := 0 })]] 57)
    rw [World.size_alloc, World.size_alloc, World.size_alloc, World.size_alloc] at this
    exact this
  · exact Zac (Zac (Zac (Zac (Zac HB.out _) _) _) _) _
  · have := HB.out.size; show w0.heap.size ≤ W.heap.size + 1 + 1; omega
  · refine ⟨.map [], ?_, ⟨[], rfl⟩, fun i e kl _ hh => by simp [Maps.has] at hh⟩
    have := World.ownsMap_made ((W.alloc (Obj.cells #[Value.int IntKind.i64 den, Value.slice A l.length c] 28)).alloc (Obj.cells #[Value.int IntKind.i64 bd] 2)) Try.prog 77 (plainElem (H := Unit) Try.prog 2)
    rw [World.size_alloc, World.size_alloc] at this
    exact (this.alloc _).alloc _
  · exact Zac (Zac (Zac (Zac (Zac (Below.refl _ _) _) _) _) _) _
  all_goals (simp only; omega)
def okW (den : Int) (l : List Int) : Prop := (1 ≤ den ∧ den ≤ 1000) ∧ l.length ≤ 40 ∧ ∀ x ∈ l, -1000000 ≤ x ∧ x ≤ 1000000
instance (den : Int) (l : List Int) : Decidable (okW den l) := by unfold okW; infer_instance
def impl_CountRunning.f (k : Nat) (a0_0 : Int) (l0_1 : List Int) : Option (Int × Bool) := (Za0.f k a0_0 l0_1).bind fun t => if t = true then (if okW a0_0 l0_1 then some (cntW a0_0 (a0_0 - 1) l0_1 0, true) else none) else some (0, false)
theorem impl_CountRunning.mono : ∀ a0 a1 k, LeO (impl_CountRunning.f k a0 a1) (impl_CountRunning.f (k + 1) a0 a1) := by
  intro a0 a1 k
  unfold impl_CountRunning.f
  exact LeO.bind (Za0.mono _ _ _) (fun _ => LeO.refl _)
set_option maxHeartbeats 4000000 in
set_option maxRecDepth 100000 in
theorem impl_CountRunning.calls (k : Nat) (a0_0 : Int) (A0_1 : Option Addr) (c0_1 : Nat) (l0_1 : List Int) (r1 : Int) (r2 : Bool) (w : World) (hr0_1 : Kd.C (Kd.int .i64) w A0_1 l0_1.length l0_1) (hc0_1 : l0_1.length ≤ c0_1) (h : impl_CountRunning.f k a0_0 l0_1 = some (r1, r2)) :
    Calls Try.prog 9 #[.agg #[.int .i64 a0_0, .slice A0_1 l0_1.length c0_1]] w fun e w' => e = .returned (.tuple #[.int .i64 r1, .bool r2]) ∧ Below w.heap.size w w' := by
  unfold impl_CountRunning.f at h
  obtain ⟨t, A1, h⟩ := Option.bind_eq_some_iff.1 h
  have HA := Zab.mk A1
  have HR := Zab.mk hr0_1
  have HC := Zab.mk hc0_1
  have HB := Zab.mk (Zac (Below.refl w.heap.size w) (.cells #[.int .i64 a0_0, .slice A0_1 l0_1.length c0_1] 28))
  have HK := Zab.mk (blk_new w (.cells #[.int .i64 a0_0, .slice A0_1 l0_1.length c0_1] 28))
  clear A1 hr0_1 hc0_1
  by_cases c1 : t = true
  · subst c1
    rw [if_pos rfl] at h
    by_cases c2 : okW a0_0 l0_1
    · rw [if_pos c2] at h
      obtain ⟨rfl, rfl⟩ := Prod.mk.inj (Option.some.inj h)
      have HO := Zab.mk c2
      have hd := c2.1
      have hwrap : Zab (WOk a0_0 (a0_0 - 1) l0_1) := ⟨⟨c2.1, by omega, c2.2.1, c2.2.2⟩⟩
      have HNE : Zab (0 + nE l0_1.length ≤ 4000000000000000) := ⟨by
        have h1 := nE_lt l0_1.length
        have h2 : 2 ^ l0_1.length ≤ 2 ^ 40 := Nat.pow_le_pow_right (by decide) c2.2.1
        omega⟩
      clear h c2
      go_enter Try.func9, Try.ntmps9
      go_wp2_with (first | (go_at_call 34; refine (Za0.calls k a0_0 _ _ l0_1 _ _ (Kd.C_below HR.out HB.out) HC.out HA.out).mono ?_; rintro e w2 ⟨rfl, hb⟩; have HB3 := Zab.mk (Zal HB.out hb); have HK3 := Zab.mk (Zao HK.out hb); have hv0 : w2.cell? ⟨w.heap.size, 0, none⟩ = some (.int .i64 a0_0) := (Zaj HK3.out 0).trans rfl; have hv1 : w2.cell? ⟨w.heap.size, 1, none⟩ = some (.slice A0_1 l0_1.length c0_1) := (Zaj HK3.out 1).trans rfl; clear hb) | ((with_reducible refine Zax (f := 35) rfl ?_); refine goesL_ (some 11) rfl rfl Try.func35 (by kernel_rfl) rfl #[.agg #[.int .i64 a0_0, .slice A0_1 l0_1.length c0_1], .int .i64 (a0_0 - 1)] rfl (by (try simp only [List.map_toArray, List.map_cons, List.map_nil]); first | done | rfl) ?_; refine (waysOn.calls w a0_0 (a0_0 - 1) l0_1 A0_1 c0_1 _ HB3.out).mono ?_; rintro e w4 ho; obtain ⟨C, rfl, hs, hb, _⟩ := ho.out; clear ho; refine ⟨_, rfl, ?_⟩; have HS := Zab.mk hs; have HB4 := Zab.mk (Zal HB3.out hb); clear hs hb) | ((with_reducible refine gate_through (j := 11) rfl ?_); refine goesV_ (some 12) rfl rfl Try.func60 (by kernel_rfl) rfl #[.int .i64 0, .int .i64 0, .pointer (some ⟨C.gv, 0, none⟩), .pointer (some ⟨C.gk, 0, none⟩), .pointer (some ⟨C.gb, 0, none⟩), .pointer (some ⟨C.gf, 0, none⟩)] rfl rfl (by (try simp only [List.map_toArray, List.map_cons, List.map_nil]); first | done | rfl) ?_; refine (find.calls HR.out HC.out hwrap.out l0_1.length 0 (by omega) 0 0 _ (by omega) HNE.out HS.out).mono ?_; rintro e w5 ⟨rfl, hs, hg⟩; refine ⟨_, rfl, ?_⟩; rw [List.drop_zero]; have HB5 := Zab.mk (pw_below_grown HB4.out (some C.mb) HB4.out.size hg (fun k e => by cases e; exact HS.out.o)); clear hs hg))
      go_ret2
      exact ⟨rfl, HB5.out⟩
    · rw [if_neg c2] at h
      cases h
  · rw [if_neg c1] at h
    obtain ⟨rfl, rfl⟩ := Prod.mk.inj (Option.some.inj h)
    obtain rfl : t = false := by simpa using c1
    clear h c1
    go_enter Try.func9, Try.ntmps9
    go_wp2_with (go_at_call 34; refine (Za0.calls k a0_0 _ _ l0_1 _ _ (Kd.C_below HR.out HB.out) HC.out HA.out).mono ?_; rintro e w2 ⟨rfl, hb⟩; have HB3 := Zab.mk (Zal HB.out hb); have HK3 := Zab.mk (Zao HK.out hb); have hv0 : w2.cell? ⟨w.heap.size, 0, none⟩ = some (.int .i64 a0_0) := (Zaj HK3.out 0).trans rfl; have hv1 : w2.cell? ⟨w.heap.size, 1, none⟩ = some (.slice A0_1 l0_1.length c0_1) := (Zaj HK3.out 1).trans rfl; clear hb)
    go_ret2
    exact ⟨rfl, HB3.out⟩
end Go.Proofs.Ytanflefkbbhimaa.P
