import Derived.Test.YtanflefkbbhimaaXW1FnRunning
import Derived.Test.YtanflefkbbhimaaXLFnRunning
import Derived.Test.YtanflefkbbhimaaXLBFnRunning
import Derived.Test.YtanflefkbbhimaaXP1FnRunning
namespace Go.Proofs.Ytanflefkbbhimaa.P
open Go Go.RowKit Go.Maps Go.Proofs.YtanflefkbbhimaaW.PrintWords Go.Proofs.YtanflefkbbhimaaW.PrintLast Go.Proofs.YtanflefkbbhimaaW.PrintMore
set_option linter.unusedVariables false
set_option linter.unusedSimpArgs false
theorem nE_40 {n : Nat} (h : n ≤ 40) : nE n ≤ 1099511627776 := by
  have h1 := nE_lt n
  have h2 : 2 ^ n ≤ 2 ^ 40 := Nat.pow_le_pow_right (by decide) h
  omega
set_option maxHeartbeats 2000000 in
set_option maxRecDepth 100000 in
theorem best1.calls (den : Int) (l : List Int) (A : Option Addr) (c g : Nat) (b : Int) (w : World) (hr : Kd.C (Kd.int .i64) w A l.length l) (hc : l.length ≤ c) (H : WOk den b l) (hg : w.heap[g]? = some (.cells #[.int .i64 den, .slice A l.length c] 28 (0, 0))) :
    Calls Try.prog 42 #[.int .i64 b, .pointer (some ⟨g, 0, none⟩)] w fun e w' => e = .returned (.bool (decide (0 < cntW den b l 0))) ∧ Below w.heap.size w w' := by
  have hv0 : w.cell? ⟨g, 0, none⟩ = some (.int .i64 den) := (Zaj hg 0).trans rfl
  have hv1 : w.cell? ⟨g, 1, none⟩ = some (.slice A l.length c) := (Zaj hg 1).trans rfl
  have HR := Zab.mk hr
  have HC := Zab.mk hc
  have HW := Zab.mk H
  have HNE : Zab (0 + nE l.length ≤ 4000000000000000) := ⟨by have := nE_40 H.n; omega⟩
  clear hr hc H hg
  go_enter Try.func42, Try.ntmps42
  go_wp2_with (first | ((with_reducible refine Zax (f := 35) rfl ?_); refine goesL_ (some 6) rfl rfl Try.func35 (by kernel_rfl) rfl #[.agg #[.int .i64 den, .slice A l.length c], .int .i64 b] rfl (by (try simp only [List.map_toArray, List.map_cons, List.map_nil]); first | done | rfl) ?_; refine (waysOn.calls w den b l A c _ (Below.refl _ _)).mono ?_; rintro e w4 ho; obtain ⟨C, rfl, hs, hb, _⟩ := ho.out; clear ho; refine ⟨_, rfl, ?_⟩; have HS := Zab.mk hs; have HB4 := Zab.mk hb; clear hs hb) | ((with_reducible refine gate_through (j := 6) rfl ?_); refine goesV_ (some 7) rfl rfl Try.func60 (by kernel_rfl) rfl #[.int .i64 0, .int .i64 0, .pointer (some ⟨C.gv, 0, none⟩), .pointer (some ⟨C.gk, 0, none⟩), .pointer (some ⟨C.gb, 0, none⟩), .pointer (some ⟨C.gf, 0, none⟩)] rfl rfl (by (try simp only [List.map_toArray, List.map_cons, List.map_nil]); first | done | rfl) ?_; refine (find.calls HR.out HC.out HW.out l.length 0 (by omega) 0 0 _ (by omega) HNE.out HS.out).mono ?_; rintro e w5 ⟨rfl, hs, hg⟩; refine ⟨_, rfl, ?_⟩; rw [List.drop_zero]; have HB5 := Zab.mk (pw_below_grown HB4.out (some C.mb) HB4.out.size hg (fun k e => by cases e; exact HS.out.o)); clear hs hg))
  go_ret
  exact ⟨rfl, HB5.out⟩
def firstW (den : Int) (l : List Int) (bs : List Int) : Nat → Nat → Option Nat
  | _, 0 => none
  | j, d + 1 => if 0 < cntW den (rd bs j) l 0 then some j else firstW den l bs (j + 1) d
set_option maxHeartbeats 2000000 in
set_option maxRecDepth 100000 in
theorem indexFunc.calls (den : Int) (l : List Int) (A : Option Addr) (c g : Nat) (bs : List Int) (A2 : Option Addr) (c2 : Nat) (w : World) (hr : Kd.C (Kd.int .i64) w A l.length l) (hc : l.length ≤ c) (hbs : Kd.C (Kd.int .i64) w A2 bs.length bs) (H : ∀ j : Nat, j < bs.length → WOk den (rd bs j) l) (hg : w.heap[g]? = some (.cells #[.int .i64 den, .slice A l.length c] 28 (0, 0)))
    (hl : bs.length ≤ 1000) (r : Nat) (hf : firstW den l bs 0 bs.length = some r) :
    Calls Try.prog 41 #[.slice A2 bs.length c2, .func (.func 42) #[] #[.pointer (some ⟨g, 0, none⟩)]] w fun e w' => e = .returned (.int .i64 (r : Int)) ∧ Below w.heap.size w w' := by
  have HR := Zab.mk hr
  have HC := Zab.mk hc
  have HW := Zab.mk H
  have HG := Zab.mk hg
  have HS := Zab.mk hbs
  have HF := Zab.mk hf
  clear hr hc H hg hbs hf
  go_enter Try.func41, Try.ntmps41
  go_wp2
  go_loopg [8] bs.length (fun kq v8 wr => ∃ j : Nat, v8 = .int .i64 j ∧ Zab (kq + j = bs.length) ∧ Zab (firstW den l bs j kq = some r) ∧ Zab (Below w.heap.size w wr))
  case atStart => exact ⟨0, rfl, ⟨by omega⟩, HF, ⟨Below.refl _ _⟩⟩
  case round =>
    obtain ⟨j, rfl, hkq, hfj, HB⟩ := hrel
    have hkq' := hkq.out
    cases gk with
    | zero => exact absurd hfj.out (by simp [firstW])
    | succ kq =>
      have hj : j < bs.length := by omega
      have hjl : (j : Int) < (bs.length : Int) := by omega
      obtain ⟨ad, ea, hx0⟩ := Kd.at_int HS.out j (by omega) (by omega)
      cases ea
      have hx0' : wr.cell? (ad.add j) = some (.int .i64 (rd bs j)) := (HB.out.cell (World.block_lt_of_cell? w _ hx0)).trans hx0
      have hfj' := hfj.out
      simp only [firstW] at hfj'
      have hpred : Zab (Calls Try.prog 42 #[.int .i64 (rd bs j), .pointer (some ⟨g, 0, none⟩)] wr fun e w' => e = .returned (.bool (decide (0 < cntW den (rd bs j) l 0))) ∧ Below wr.heap.size wr w') := ⟨best1.calls den l A c g (rd bs j) wr (Kd.C_below HR.out HB.out) HC.out (HW.out j hj) (Zao HG.out HB.out)⟩
      clear hx0
      by_cases hT : 0 < cntW den (rd bs j) l 0
      · rw [if_pos hT] at hfj'
        obtain rfl := Option.some.inj hfj'
        have hd : Zab (decide (0 < cntW den (rd bs j) l 0) = true) := ⟨decide_eq_true hT⟩
        clear hT hfj'
        go_wp2_with ((with_reducible refine gate_through (j := 11) rfl ?_); refine goesV_ (some 16) rfl rfl Try.func42 (by kernel_rfl) rfl #[.int .i64 (rd bs j), .pointer (some ⟨g, 0, none⟩)] rfl rfl (by (try simp only [List.map_toArray, List.map_cons, List.map_nil]); first | done | rfl) ?_; refine hpred.out.mono ?_; rw [hd.out]; rintro e w5 ⟨rfl, hb5⟩; refine ⟨_, rfl, ?_⟩; have HB5 := Zab.mk (Zal HB.out hb5); clear hb5)
        go_ret
        exact ⟨rfl, HB5.out⟩
      · rw [if_neg hT] at hfj'
        have HFJ := Zab.mk hfj'
        have hd : Zab (decide (0 < cntW den (rd bs j) l 0) = false) := ⟨decide_eq_false hT⟩
        clear hT hfj'
        go_wp2_with ((with_reducible refine gate_through (j := 11) rfl ?_); refine goesV_ (some 16) rfl rfl Try.func42 (by kernel_rfl) rfl #[.int .i64 (rd bs j), .pointer (some ⟨g, 0, none⟩)] rfl rfl (by (try simp only [List.map_toArray, List.map_cons, List.map_nil]); first | done | rfl) ?_; refine hpred.out.mono ?_; rw [hd.out]; rintro e w5 ⟨rfl, hb5⟩; refine ⟨_, rfl, ?_⟩; have HB5 := Zab.mk (Zal HB.out hb5); clear hb5)
        go_roundg kq
        case measure => omega
        case rel => exact ⟨j + 1, by simp, ⟨by omega⟩, HFJ, HB5⟩
end Go.Proofs.Ytanflefkbbhimaa.P
namespace Go.Proofs.Ytanflefkbbhimaa.P
open Go Go.RowKit Go.Maps Go.Proofs.YtanflefkbbhimaaW.PrintWords Go.Proofs.YtanflefkbbhimaaW.PrintLast Go.Proofs.YtanflefkbbhimaaW.PrintMore
set_option linter.unusedVariables false
set_option linter.unusedSimpArgs false
theorem addr0 (b j : Nat) : (⟨b, 0, none⟩ : Addr).add j = ⟨b, j, none⟩ := by
  unfold Addr.add
  split
  · rename_i h; subst h; rfl
  · simp
theorem new_C (W : World) (ys : List Int) {n : Nat} (hn : ys.length = n) (hl : n ≤ 1000) : (Kd.scalar (Value.int .i64) (fun _ => rfl)).C (W.alloc (.cells (ys.map (Value.int .i64)).toArray 2)) (some ⟨W.heap.size, 0, none⟩) n ys := by
  refine ⟨hn, by omega, fun _ => ⟨_, rfl, fun j p hj => ⟨[.int .i64 p], rfl, rfl, fun i u hu => ?_⟩⟩⟩
  have hi : i = 0 := by
    have := (List.getElem?_eq_some_iff.1 hu).1
    simpa using this
  subst hi
  obtain rfl : Value.int .i64 p = u := by simpa using hu
  rw [show j * (Kd.scalar (Value.int IntKind.i64) (fun _ => rfl)).sz + 0 = j from Nat.mul_one j, addr0, Zaj (blk_new W _) j]
  simp [hj]
theorem new_R (W : World) (ys : List Int) {n : Nat} (hn : ys.length = n) (hl : n ≤ 1000) {base : Nat} (hb : base ≤ W.heap.size) {ok : Nat → Prop} (hok : ok W.heap.size) : Kd.R (Kd.int .i64) 2 (W.alloc (.cells (ys.map (Value.int .i64)).toArray 2)) base ok (.slice (some ⟨W.heap.size, 0, none⟩) n n) ys := by
  subst hn
  refine Kd.R_of_own ⟨by simp [encs], .inr ⟨W.heap.size, ys.length, _, rfl, hb, blk_new W _, Nat.le_refl _, by unfold maxLen; omega, by simp, ?_⟩⟩ (fun k hk => ?_)
  · simp only [Nat.mul_one, encs]
    exact List.take_of_length_le (by simp)
  · have : W.heap.size = k := by simpa [Value.ownBlock] using hk
    subst this
    exact hok
def RowAt (W : World) (A : Option Addr) (ρ : Nat) (cur : Array Value) (xs : List Int) : Prop := ∀ j : Nat, j < xs.length → A = some ⟨ρ, 0, none⟩ ∧ W.heap[ρ]? = some (.cells cur 2 (0, 0)) ∧ cur[j]? = some (.int .i64 (rd xs j))
theorem RowAt.grown {W W' : World} {A : Option Addr} {ρ : Nat} {cur : Array Value} {xs : List Int} (h : RowAt W A ρ cur xs) {r : Option Nat} (hg : W.grownBy W' r) (hne : some ρ ≠ r) : RowAt W' A ρ cur xs := fun j hj => ⟨(h j hj).1, blk_grown (h j hj).2.1 hg hne, (h j hj).2.2⟩
theorem RowAt.below {W W' : World} {A : Option Addr} {ρ : Nat} {cur : Array Value} {xs : List Int} (h : RowAt W A ρ cur xs) (hb : Below W.heap.size W W') : RowAt W' A ρ cur xs := fun j hj => ⟨(h j hj).1, Zao (h j hj).2.1 hb, (h j hj).2.2⟩
theorem rowAt_of_R {W : World} {base : Nat} {ok : Nat → Prop} {v : Value} {xs : List Int} (h : Kd.R (Kd.int .i64) 2 W base ok v xs) {g1 : Nat} (hg : g1 < W.heap.size) : ∃ A cap ρ cur, v = .slice A xs.length cap ∧ RowAt W A ρ cur xs ∧ ρ < W.heap.size ∧ (ρ = g1 ∨ base ≤ ρ) := by
  have ho := Kd.own_of_R h
  rcases ho.2 with ⟨rfl, h0⟩ | ⟨g, cap, cur, rfl, hb, hh, _, _, hs, ht⟩
  · refine ⟨none, 0, g1, #[], by rw [h0], fun j hj => by omega, hg, .inl rfl⟩
  · refine ⟨some ⟨g, 0, none⟩, cap, g, cur, rfl, fun j hj => ⟨rfl, hh, ?_⟩, blk_lt hh, .inr hb⟩
    rw [Nat.mul_one] at ht
    have h1 : (encs (Value.int .i64) xs)[j]? = some (.int .i64 (rd xs j)) := by
      rw [B.rd_nat hj]
      simp [encs, hj]
    rw [← ht, List.getElem?_take_of_lt hj] at h1
    rw [← Array.getElem?_toList]
    exact h1
def bndL (den : Int) : List Int → List Int
  | [] => []
  | p :: ps => (p - den * (p / den)) :: (-(p - den * (p / den)) % den) :: bndL den ps
theorem bndL_append (den : Int) : ∀ (xs ys : List Int), bndL den (xs ++ ys) = bndL den xs ++ bndL den ys
  | [], _ => rfl
  | p :: xs, ys => by simp only [List.cons_append, bndL, bndL_append den xs ys]
theorem bndL_len (den : Int) : ∀ xs : List Int, (bndL den xs).length = 2 * xs.length
  | [] => rfl
  | p :: xs => by simp only [bndL, List.length_cons, bndL_len den xs]; omega
theorem bndL_take {den : Int} {ps : List Int} {j : Nat} (h : j < ps.length) : bndL den (ps.take (j + 1)) = bndL den (ps.take j) ++ [rd ps j - den * (rd ps j / den), -(rd ps j - den * (rd ps j / den)) % den] := by
  rw [List.take_succ_eq_append_getElem h, bndL_append, B.rd_nat h]
  rfl
def pickC (den bd : Int) (xs : List Int) (x e : Int) : List Int → Option Int
  | [] => none
  | n :: ns => if (-bd ≤ e + den * n - x ∧ e + den * n - x ≤ bd) ∧ 0 < cntW den bd xs (e + den * n - x) then some n else pickC den bd xs x e ns
def grd (den bd : Int) : List Int → Int → List Int
  | [], _ => []
  | x :: xs, e => match pickC den bd xs x e (chs den x) with
    | some n => n :: grd den bd xs (e + den * n - x)
    | none => grd den bd xs e
def okP (l ps : List Int) : Prop := ps.length = l.length ∧ ∀ p ∈ ps, -1000000000 ≤ p ∧ p ≤ 1000000000
instance (l ps : List Int) : Decidable (okP l ps) := by unfold okP; infer_instance
def okB (bs : List Int) : Prop := bs.length ≤ 1000 ∧ ∀ b ∈ bs, 0 ≤ b ∧ b ≤ 1000
instance (bs : List Int) : Decidable (okB bs) := by unfold okB; infer_instance
def impl_BestRunning.f (k : Nat) (a0_0 : Int) (l0_1 : List Int) : Option (List Int × Int × Bool) := (Za0.f k a0_0 l0_1).bind fun t => if t = true then (if okW a0_0 l0_1 then (Zaz.f k l0_1).bind fun ps => (if okP l0_1 ps then (slices_Sort_int64_int64.f (0 :: bndL a0_0 ps)).bind fun bs => (if okB bs then (firstW a0_0 l0_1 bs 0 bs.length).bind fun r => some (grd a0_0 (rd bs r) l0_1 0, rd bs r, true) else none) else none) else none) else some ([], 0, false)
theorem impl_BestRunning.mono : ∀ a0 a1 k, LeO (impl_BestRunning.f k a0 a1) (impl_BestRunning.f (k + 1) a0 a1) := by
  intro a0 a1 k
  unfold impl_BestRunning.f
  exact LeO.bind (Za0.mono _ _ _) (fun _ => LeO.ite (LeO.ite (LeO.bind (Zaz.mono _ _) (fun _ => LeO.refl _)) (LeO.refl _)) (LeO.refl _))
theorem firstW_lt {den : Int} {l bs : List Int} : ∀ {d j r : Nat}, firstW den l bs j d = some r → j ≤ r ∧ r < j + d ∧ 0 < cntW den (rd bs r) l 0
  | 0, j, r, h => by simp [firstW] at h
  | d + 1, j, r, h => by
    simp only [firstW] at h
    split at h
    · rename_i c
      cases h
      exact ⟨Nat.le_refl _, by omega, c⟩
    · have := firstW_lt h
      omega
theorem pickC_drop {den bd : Int} {xs : List Int} {x e : Int} {j : Nat} (h : j < (chs den x).length) : pickC den bd xs x e ((chs den x).drop j) = if (-bd ≤ e + den * rd (chs den x) j - x ∧ e + den * rd (chs den x) j - x ≤ bd) ∧ 0 < cntW den bd xs (e + den * rd (chs den x) j - x) then some (rd (chs den x) j) else pickC den bd xs x e ((chs den x).drop (j + 1)) := by
  rw [List.drop_eq_getElem_cons h, B.rd_nat h]
  rfl
theorem grd_cons {den bd : Int} {l : List Int} {e : Int} {i : Nat} (h : i < l.length) : grd den bd (l.drop i) e = match pickC den bd (l.drop (i + 1)) (rd l i) e (chs den (rd l i)) with
    | some n => n :: grd den bd (l.drop (i + 1)) (e + den * n - rd l i)
    | none => grd den bd (l.drop (i + 1)) e := by
  rw [drop_cons h]
  rfl
def okS (w : World) (C : Cap) : Nat → Prop := fun k => k ≠ w.heap.size ∧ k ≠ C.gv ∧ k ≠ C.gk ∧ k ≠ C.gb ∧ k ≠ C.gf ∧ k ≠ C.mb
section
variable {w0 : World} {C : Cap} {den bd : Int} {l : List Int} {A : Option Addr} {c m : Nat} {W W' : World}
theorem okS_fresh {cs : Array Value} {t : TypeId} (hk : W.heap[w0.heap.size]? = some (.cells cs t (0, 0))) (h : WSt w0 C den bd l A c m W) {k : Nat} (hs : W.heap.size ≤ k) : okS w0 C k := by
  obtain ⟨D, ho, _⟩ := h.D
  have h1 := blk_lt hk
  have h2 := blk_lt h.v
  have h3 := blk_lt h.k
  have h4 := blk_lt h.b
  have h5 := blk_lt h.f
  have h6 := ho.lt
  exact ⟨by omega, by omega, by omega, by omega, by omega, by omega⟩
theorem WSt.row (h : WSt w0 C den bd l A c m W) {v : Value} (hg : W.grownBy W' v.ownBlock) (hb : Below w0.heap.size w0 W') (hv : ∀ k, v.ownBlock = some k → okS w0 C k) : WSt w0 C den bd l A c m W' := by
  obtain ⟨D, ho, h1, h2⟩ := h.D
  exact ⟨blk_grown h.v hg (fun z => (hv _ z.symm).2.1 rfl), blk_grown h.k hg (fun z => (hv _ z.symm).2.2.1 rfl), blk_grown h.b hg (fun z => (hv _ z.symm).2.2.2.1 rfl), blk_grown h.f hg (fun z => (hv _ z.symm).2.2.2.2.1 rfl), hb, h.o, ⟨D, ho.kept hg (fun z => (hv _ z.symm).2.2.2.2.2 rfl), h1, h2⟩⟩
end
theorem Best.info2 : (Try.prog.info? 2).map (fun i => (i.zero, i.size, i.bytes)) = some (some (.int .i64 0), 1, 8) := by kernel_rfl
set_option maxHeartbeats 8000000 in
set_option maxRecDepth 100000 in
theorem impl_BestRunning.calls (k : Nat) (a0_0 : Int) (A0_1 : Option Addr) (c0_1 : Nat) (l0_1 : List Int) (r1 : List Int) (r2 : Int) (r3 : Bool) (w : World) (hr0_1 : Kd.C (Kd.int .i64) w A0_1 l0_1.length l0_1) (hc0_1 : l0_1.length ≤ c0_1) (h : impl_BestRunning.f k a0_0 l0_1 = some (r1, r2, r3)) :
    Calls Try.prog 12 #[.agg #[.int .i64 a0_0, .slice A0_1 l0_1.length c0_1]] w fun e w' => ∃ v0_ : Value, e = .returned (.tuple #[v0_, .int .i64 r2, .bool r3]) ∧ Kd.R (Kd.int .i64) 2 w' w.heap.size (fun _ => True) v0_ r1 ∧ Below w.heap.size w w' := by
  unfold impl_BestRunning.f at h
  replace h := Option.bind_eq_some_iff.1 h
  obtain ⟨t, A1, h⟩ := h
  have HA := Zab.mk A1
  have HR := Zab.mk hr0_1
  have HC := Zab.mk hc0_1
  have HB := Zab.mk (Zac (Below.refl w.heap.size w) (.cells #[.int .i64 a0_0, .slice A0_1 l0_1.length c0_1] 28))
  have HK := Zab.mk (blk_new w (.cells #[.int .i64 a0_0, .slice A0_1 l0_1.length c0_1] 28))
  clear A1 hr0_1 hc0_1
  by_cases c1 : t = true
  · subst c1
    rw [if_pos rfl] at h
    by_cases c2 : okW a0_0 l0_1
    · rw [if_pos c2] at h
      replace h := Option.bind_eq_some_iff.1 h
      obtain ⟨ps, hps, h⟩ := h
      by_cases c3 : okP l0_1 ps
      · rw [if_pos c3] at h
        replace h := Option.bind_eq_some_iff.1 h
        obtain ⟨bs, hbs, h⟩ := h
        by_cases c4 : okB bs
        · rw [if_pos c4] at h
          replace h := Option.bind_eq_some_iff.1 h
          obtain ⟨r, hr, h⟩ := h
          obtain ⟨rfl, h2⟩ := Prod.mk.inj (Option.some.inj h)
          obtain ⟨rfl, rfl⟩ := Prod.mk.inj h2
          have HP := Zab.mk hps
          have HBS := Zab.mk hbs
          have HFW := Zab.mk hr
          have HO := Zab.mk c2
          have HOP := Zab.mk c3
          have HOB := Zab.mk c4
          have hln := c2.2.1
          have HLn := Zab.mk c3.1
          have hpl : ps.length ≤ 40 := by rw [c3.1]; exact c2.2.1
          have hdn := c2.1
          clear h hps hbs hr c2 c3 c4
          go_enter Try.func12, Try.ntmps12
          go_wp2_with (first | (go_at_call 34; refine (Za0.calls k a0_0 _ _ l0_1 _ _ (Kd.C_below HR.out HB.out) HC.out HA.out).mono ?_; rintro e w2 ⟨rfl, hb⟩; have HB3 := Zab.mk (Zal HB.out hb); have HK3 := Zab.mk (Zao HK.out hb); have hv0 : w2.cell? ⟨w.heap.size, 0, none⟩ = some (.int .i64 a0_0) := (Zaj HK3.out 0).trans rfl; have hv1 : w2.cell? ⟨w.heap.size, 1, none⟩ = some (.slice A0_1 l0_1.length c0_1) := (Zaj HK3.out 1).trans rfl; have hva1 := Lib.cell?_alloc_some (.cells #[.int .i64 0] 2) hv1; have hva0 := Lib.cell?_alloc_some (.cells #[.int .i64 0] 2) hv0; clear hb) | (go_at_call 38; refine (Zaz.calls k _ _ l0_1 ps _ (Kd.C_below HR.out (Zac HB3.out _)) HC.out HP.out).mono ?_; rintro e w4 ⟨vr, rfl, hRr, hb4⟩; have HBr := Zab.mk hb4; obtain ⟨Ar, cr, ρ, cur, rfl, hrow, hρ, hρ2⟩ := rowAt_of_R hRr (g1 := w.heap.size) (Nat.lt_of_lt_of_le (blk_lt (Zaf HK3.out (.cells #[.int .i64 0] 2))) hb4.size); have HRow := Zab.mk hrow; have HRho := Zab.mk hρ2; clear hb4 hRr hrow hρ2 hv0 hv1 hva0 hva1))
          have hg1 : w.heap.size < w4.heap.size := Nat.lt_of_lt_of_le (blk_lt (Zaf HK3.out (.cells #[.int .i64 0] 2))) HBr.out.size
          have HK4 := Zab.mk (Zao (Zaf HK3.out (.cells #[.int .i64 0] 2)) HBr.out)
          have HB4 := Zab.mk (Zal (Zac HB3.out (.cells #[.int .i64 0] 2)) HBr.out)
          have hwz : w.heap.size < w2.heap.size := blk_lt HK3.out
          have hρn : ρ ≠ w2.heap.size := by
            rcases HRho.out with z | z
            · omega
            · rw [World.size_alloc] at z; omega
          have HN := Zab.mk (Kd.R_below (new_R w2 [0] rfl (by decide) (base := w.heap.size) (by omega) (ok := fun k => k ≠ w.heap.size ∧ k ≠ ρ) ⟨by omega, fun z => hρn z.symm⟩) HBr.out)
          clear hρn
          go_loopg [5, 26] ps.length (fun kq v5 v26 wr => ∃ j : Nat, v26 = .int .i64 j ∧ Zab (kq + j = ps.length) ∧ Zab (Kd.R (Kd.int .i64) 2 wr w.heap.size (fun k => k ≠ w.heap.size ∧ k ≠ ρ) v5 (0 :: bndL a0_0 (ps.take j))) ∧ Zab (wr.heap[w.heap.size]? = some (.cells #[.int .i64 a0_0, .slice A0_1 l0_1.length c0_1] 28 (0, 0))) ∧ Zab (RowAt wr Ar ρ cur ps) ∧ Zab (Below w.heap.size w wr) ∧ Zab (ρ < wr.heap.size))
          case atStart => exact ⟨0, rfl, ⟨by omega⟩, HN, HK4, HRow, HB4, ⟨hρ⟩⟩
          case round =>
            obtain ⟨j, rfl, hkq, HNj, HKj, HRj, HBj, hρj⟩ := hrel
            have hkq' := hkq.out
            have hv0 : wr.cell? ⟨w.heap.size, 0, none⟩ = some (.int .i64 a0_0) := (Zaj HKj.out 0).trans rfl
            have hv1 : wr.cell? ⟨w.heap.size, 1, none⟩ = some (.slice A0_1 l0_1.length c0_1) := (Zaj HKj.out 1).trans rfl
            by_cases hj : j < ps.length
            · have hjl : (j : Int) < (ps.length : Int) := by omega
              obtain ⟨ea, hh, hcu⟩ := HRj.out j hj
              subst ea
              have hcell : wr.cell? ⟨ρ, j, none⟩ = some (.int .i64 (rd ps j)) := (Zaj hh j).trans hcu
              have hpb := HOP.out.2 _ (B.rd_mem hj)
              have hq := B.ediv_mul_le (a := rd ps j) hdn.1
              rw [Int.mul_comm] at hq
              have hqb := B.ediv_bounds (a := rd ps j) hdn.1 (M := 1000000000) (by omega) hpb.1 hpb.2
              have HFl := Zab.mk (floorR (a := rd ps j) hdn.1 (by omega) (by omega))
              have hmod1 := Int.emod_nonneg (-(rd ps j - a0_0 * (rd ps j / a0_0))) (show a0_0 ≠ 0 by omega)
              have hmod2 := Int.emod_lt_of_pos (-(rd ps j - a0_0 * (rd ps j / a0_0))) (show 0 < a0_0 by omega)
              have hw1 : wrap64 (a0_0 * (rd ps j / a0_0)) = a0_0 * (rd ps j / a0_0) := B.w64 (by omega) (by omega)
              have hw2 : wrap64 (rd ps j - a0_0 * (rd ps j / a0_0)) = rd ps j - a0_0 * (rd ps j / a0_0) := B.w64 (by omega) (by omega)
              have hbt := Zab.mk (bndL_take (den := a0_0) hj)
              have HHH := Zab.mk hv0
              clear hh hcu
              obtain ⟨kq, rfl⟩ : ∃ n, gk = n + 1 := ⟨gk - 1, by omega⟩
              go_wp2
              refine start_ (n := 10) (S := fun w' => w'.cell? ⟨w.heap.size, 0, none⟩ = some (.int .i64 a0_0)) (ds := []) #[false, false, false, false, false, false, false, false, false, false] (by kernel_rfl) rfl rfl HHH.out (fun hHeld => ?_)
              refine pure_ (i := 0) (N := some 30) (v := ?_) (a' := ?_) #[true, false, false, false, false, false, false, false, false, false] rfl rfl (by kernel_rfl) (fun _ _ _ h => h) (Or.inl ⟨by rfl, ?_⟩) ?_ ?_
              rotate_left
              · intro w'
                go_simp
                with_reducible rfl
              rotate_left
              · simp only [Act.put, ZA, ZB, ZC, i64_w, i32_w]
                rfl
              refine pure_ (i := 1) (N := some 31) (v := ?_) (a' := ?_) #[true, true, false, false, false, false, false, false, false, false] rfl rfl (by kernel_rfl) (fun _ _ _ h => h) (Or.inl ⟨by rfl, ?_⟩) ?_ ?_
              rotate_left
              · intro w'
                go_simp
                with_reducible rfl
              rotate_left
              · simp only [Act.put, ZA, ZB, ZC, i64_w, i32_w]
                rfl
              refine pure_ (i := 3) (N := some 33) (v := ?_) (a' := ?_) #[true, true, false, true, false, false, false, false, false, false] rfl rfl (by kernel_rfl) (fun _ _ _ h => h) (Or.inl ⟨by rfl, ?_⟩) ?_ ?_
              rotate_left
              · intro w'
                go_simp
                with_reducible rfl
              rotate_left
              · simp only [Act.put, ZA, ZB, ZC, i64_w, i32_w]
                rfl
              refine pure_ (i := 4) (N := some 34) (v := ?_) (a' := ?_) #[true, true, false, true, true, false, false, false, false, false] rfl rfl (by kernel_rfl) (fun _ _ _ h => h) (Or.inl ⟨by rfl, ?_⟩) ?_ ?_
              rotate_left
              · intro w'
                go_simp
                with_reducible rfl
              rotate_left
              · simp only [Act.put, ZA, ZB, ZC, i64_w, i32_w]
                rfl
              refine take_ (i := 2) (N := some 32) (v := ?_) (a' := ?_) #[true, true, true, true, true, false, false, false, false, false] rfl rfl (by kernel_rfl) (fun _ _ _ h => h) (Or.inl ⟨by rfl, ?_⟩) hHeld ?_ ?_
              rotate_left
              · intro w' s0
                go_simp
                with_reducible rfl
              rotate_left
              · simp only [Act.put, ZA, ZB, ZC, i64_w, i32_w]
                rfl
              refine take_ (i := 5) (N := some 35) (v := ?_) (a' := ?_) #[true, true, true, true, true, true, false, false, false, false] rfl rfl (by kernel_rfl) (fun _ _ _ h => h) (Or.inl ⟨by rfl, ?_⟩) hHeld ?_ ?_
              rotate_left
              · intro w' s0
                go_simp
                with_reducible rfl
              rotate_left
              · simp only [Act.put, ZA, ZB, ZC, i64_w, i32_w]
                rfl
              refine one_ (i := 6) (N := some 36) #[true, true, true, true, true, true, true, false, false, false] rfl rfl (by kernel_rfl) (by decide) (fun K hK => ?_)
              refine goes_ Try.func39 (by kernel_rfl) rfl #[.int .i64 (rd ps j), .int .i64 a0_0] (by rfl) rfl rfl (by (try simp only [List.map_toArray, List.map_cons, List.map_nil]); first | done | rfl) ?_
              refine (impl_floor.calls _ _ _ _ HFl.out).mono ?_
              rintro e w' ⟨rfl, ⟨nd, rfl⟩⟩
              refine ⟨_, rfl, ?_⟩
              refine hK.out _ _ hHeld (fun hHeld2 => ?_)
              clear hK K
              refine norm_ (a' := ?_) ?_ ?_
              rotate_left
              · show Act.put _ (some 36) _ = _
                simp only [Act.put, ZA, ZB, ZC, i64_w, i32_w]
                rfl
              refine pure_ (i := 7) (N := some 37) (v := ?_) (a' := ?_) #[true, true, true, true, true, true, true, true, false, false] rfl rfl (by kernel_rfl) (fun _ _ _ h => h) (Or.inl ⟨by rfl, ?_⟩) ?_ ?_
              rotate_left
              · intro w'
                go_simp
                with_reducible rfl
              rotate_left
              · simp only [Act.put, ZA, ZB, ZC, i64_w, i32_w]
                rfl
              refine pure_ (i := 8) (N := some 38) (v := ?_) (a' := ?_) #[true, true, true, true, true, true, true, true, true, false] rfl rfl (by kernel_rfl) (fun _ _ _ h => h) (Or.inl ⟨by rfl, ?_⟩) ?_ ?_
              rotate_left
              · intro w'
                go_simp
                with_reducible rfl
              rotate_left
              · simp only [Act.put, ZA, ZB, ZC, i64_w, i32_w]
                rfl
              refine pure_ (i := 9) (N := some 8) (v := ?_) (a' := ?_) #[true, true, true, true, true, true, true, true, true, true] rfl rfl (by kernel_rfl) (fun _ _ _ h => h) (Or.inl ⟨by rfl, ?_⟩) ?_ ?_
              rotate_left
              · intro w'
                go_simp
                with_reducible rfl
              rotate_left
              · simp only [Act.put, ZA, ZB, ZC, i64_w, i32_w]
                rfl
              refine done_ (by kernel_rfl) ?_
              clear hHeld hHeld2
              simp only [hw1, hw2]
              go_wp2_with (at_builtin; refine Kd.R_append_row (Value.int .i64) (0 : Int) (h1 := fun _ => rfl) (w0 := w) w.heap.size rfl (.tmp 39) (.tmp 48) 22 2 (.int .i64 0) 8 rfl Try.underlying22 Best.info2 rfl (by decide) u5 (0 :: bndL a0_0 (ps.take j)) [rd ps j - a0_0 * (rd ps j / a0_0), -(rd ps j - a0_0 * (rd ps j / a0_0)) % a0_0] (some ⟨wr.heap.size, 0, none⟩) 2 2 (fun k => k ≠ w.heap.size ∧ k ≠ ρ) rfl rfl (fun k hk => ⟨fun z => by have h1 := blk_lt HKj.out; have h2 : wr.heap.size + 1 ≤ k := (by rw [World.size_alloc] at hk; exact hk); omega, fun z => by have h1 := hρj.out; have h2 : wr.heap.size + 1 ≤ k := (by rw [World.size_alloc] at hk; exact hk); omega⟩) (Kd.R_alloc (Kd.R_drewN HNj.out _) _) (new_C (wr.drewN _) [rd ps j - a0_0 * (rd ps j / a0_0), -(rd ps j - a0_0 * (rd ps j / a0_0)) % a0_0] rfl (by decide)) (Zac (Zaa HBj.out _) _) (by rw [World.size_alloc]; exact Nat.le_succ_of_le HBj.out.size) (by rw [List.length_cons, bndL_len, List.length_take]; omega) ?_; intro v1 w1 hR1 hB1 hg2 hat)
              go_roundg kq
              case measure => omega
              case rel =>
                have hsz : wr.heap.size ≤ w1.heap.size := Nat.le_trans (Nat.le_succ _) (by have := hg2.size; rw [World.size_alloc] at this; exact this)
                refine ⟨j + 1, by simp, ⟨by omega⟩, ⟨by rw [hbt.out]; exact hR1⟩, ⟨blk_grown (Zaf (Zag HKj.out _) _) hg2 (fun z => (HNj.out.1 _ z.symm).1 rfl)⟩, ⟨RowAt.grown (RowAt.below HRj.out (Zac (Zaa (Below.refl _ _) _) _)) hg2 (fun z => (HNj.out.1 _ z.symm).2 rfl)⟩, ⟨hB1⟩, ⟨Nat.lt_of_lt_of_le hρj.out hsz⟩⟩
            · obtain rfl : j = ps.length := by omega
              have HNs := Zab.mk (show Kd.R (Kd.int .i64) 2 wr w.heap.size (fun k => k ≠ w.heap.size ∧ k ≠ ρ) u5 (0 :: bndL a0_0 ps) by have := HNj.out; rw [List.take_length] at this; exact this)
              have hrl := Zab.mk (firstW_lt HFW.out)
              have hrlt : (r : Int) < (bs.length : Int) := by have := hrl.out; omega
              clear hkq'
              go_wp2_with (first | (go_at_call 40; refine (slices_Sort_int64_int64.calls (fun k => k ≠ w.heap.size ∧ k ≠ ρ) u5 (0 :: bndL a0_0 ps) bs w _ HBj.out HNs.out HBS.out).mono ?_; rintro e w5 ⟨rfl, hR5, hB5, hK5⟩; obtain ⟨A2, c2, e2⟩ := Kd.R_slice hR5; subst e2; obtain ⟨ad2, e2, hx2⟩ := Kd.at_int (Kd.R_reads' hR5).2.2 (r : Int) (by omega) (by have := hrl.out; omega); subst e2; have HK5 := Zab.mk ((hK5.2 _ (blk_lt HKj.out) (fun z => z.1 rfl)).trans HKj.out); have HB5 := Zab.mk hB5; have HBS5 := Zab.mk (Kd.R_reads' hR5).2.2; have HX5 := Zab.mk hx2; clear hR5 hB5 hK5 hx2 hv0 hv1) | (go_at_call 41; refine (indexFunc.calls a0_0 l0_1 A0_1 c0_1 w.heap.size bs (some ad2) c2 _ (Kd.C_below HR.out HB5.out) HC.out HBS5.out (fun j hj => ⟨HO.out.1, HOB.out.2 _ (B.rd_mem hj), HO.out.2.1, HO.out.2.2⟩) HK5.out HOB.out.1 r HFW.out).mono ?_; rintro e w6 ⟨rfl, hb6⟩; have HB6 := Zab.mk (Zal HB5.out hb6); have HK6 := Zab.mk (Zao HK5.out hb6); have hx6 : w6.cell? (ad2.add r) = some (.int .i64 (rd bs r)) := (hb6.cell (World.block_lt_of_cell? w5 _ HX5.out)).trans HX5.out; have hva0 := Lib.cell?_alloc_some (.cells #[] 2) ((Zaj HK6.out 0).trans rfl : w6.cell? ⟨w.heap.size, 0, none⟩ = some (.int .i64 a0_0)); have hva1 := Lib.cell?_alloc_some (.cells #[] 2) ((Zaj HK6.out 1).trans rfl : w6.cell? ⟨w.heap.size, 1, none⟩ = some (.slice A0_1 l0_1.length c0_1)); clear hb6) | ((with_reducible refine Zax (f := 35) rfl ?_); refine goesL_ (some 63) rfl rfl Try.func35 (by kernel_rfl) rfl #[.agg #[.int .i64 a0_0, .slice A0_1 l0_1.length c0_1], .int .i64 (rd bs r)] rfl (by (try simp only [List.map_toArray, List.map_cons, List.map_nil]); first | done | rfl) ?_; refine (waysOn.calls w a0_0 (rd bs r) l0_1 A0_1 c0_1 _ (Zac HB6.out _)).mono ?_; rintro e w8 ho; obtain ⟨C, rfl, hs, hb, hC1, hC2, hC3, hC4, hC5⟩ := ho.out; clear ho; refine ⟨_, rfl, ?_⟩; unfold Cap.fn; have HS8 := Zab.mk hs; have HB8 := Zab.mk hb; have HK8 := Zab.mk (Zao (Zaf HK6.out (.cells #[] 2)) hb); have hw0 : w8.cell? ⟨w.heap.size, 0, none⟩ = some (.int .i64 a0_0) := (Zaj HK8.out 0).trans rfl; have hw1 : w8.cell? ⟨w.heap.size, 1, none⟩ = some (.slice A0_1 l0_1.length c0_1) := (Zaj HK8.out 1).trans rfl; clear hs hb hva0 hva1 hx6))
              have hbase : w.heap.size ≤ w6.heap.size := HB6.out.size
              have hg1lt := blk_lt HK6.out
              have HO8 := Zab.mk (Kd.R_below (new_R w6 [] rfl (by decide) (base := w.heap.size) hbase (ok := okS w C) ⟨by omega, by rw [World.size_alloc] at hC1; omega, by rw [World.size_alloc] at hC2; omega, by rw [World.size_alloc] at hC3; omega, by rw [World.size_alloc] at hC4; omega, by rw [World.size_alloc] at hC5; omega⟩) HB8.out)
              have HWok : Zab (WOk a0_0 (rd bs r) l0_1) := ⟨⟨HO.out.1, HOB.out.2 _ (B.rd_mem (by omega)), HO.out.2.1, HO.out.2.2⟩⟩
              clear hC1 hC2 hC3 hC4 hC5 hbase hg1lt hw0 hw1 hj hpl
              go_loopg [11, 12, 67] l0_1.length (fun kq v11 v12 v67 wr => ∃ (i : Nat) (e : Int) (out : List Int), v67 = .int .i64 i ∧ v12 = .int .i64 e ∧ Zab (kq + i = l0_1.length) ∧ Zab (-1000 ≤ e ∧ e ≤ 1000) ∧ Zab (out ++ grd a0_0 (rd bs r) (l0_1.drop i) e = grd a0_0 (rd bs r) l0_1 0) ∧ Zab (out.length ≤ i) ∧ Zab (Kd.R (Kd.int .i64) 2 wr w.heap.size (okS w C) v11 out) ∧ Zab (WSt w C a0_0 (rd bs r) l0_1 A0_1 c0_1 (i * 2199023255552) wr) ∧ Zab (wr.heap[w.heap.size]? = some (.cells #[.int .i64 a0_0, .slice A0_1 l0_1.length c0_1] 28 (0, 0))))
              case atStart => exact ⟨0, 0, [], rfl, rfl, ⟨rfl⟩, ⟨by omega⟩, ⟨by simp⟩, ⟨Nat.le_refl _⟩, HO8, ⟨HS8.out.mono (by omega)⟩, HK8⟩
              case round =>
                obtain ⟨i, e, out, rfl, rfl, hkq, he, hgr, hol, HOi, HSi, HKi⟩ := hrel
                have hkq' := hkq.out
                have he' := he.out
                have hv0 : wr.cell? ⟨w.heap.size, 0, none⟩ = some (.int .i64 a0_0) := (Zaj HKi.out 0).trans rfl
                have hv1 : wr.cell? ⟨w.heap.size, 1, none⟩ = some (.slice A0_1 l0_1.length c0_1) := (Zaj HKi.out 1).trans rfl
                by_cases hi : i < l0_1.length
                · have hil : (i : Int) < (l0_1.length : Int) := by omega
                  obtain ⟨kq, rfl⟩ : ∃ n, gk = n + 1 := ⟨gk - 1, by omega⟩
                  have hx := HWok.out.rd hi
                  have hcl := (chs_len a0_0 (rd l0_1 i)).2
                  have HI : Zab (∀ (e : Int) (m : Nat) (W : World), (-1000 ≤ e ∧ e ≤ 1000) → m + nE (l0_1.length - (i + 1)) ≤ 4000000000000000 → WSt w C a0_0 (rd bs r) l0_1 A0_1 c0_1 m W → Calls Try.prog 60 #[.int .i64 ((i : Int) + 1), .int .i64 e, .pointer (some ⟨C.gv, 0, none⟩), .pointer (some ⟨C.gk, 0, none⟩), .pointer (some ⟨C.gb, 0, none⟩), .pointer (some ⟨C.gf, 0, none⟩)] W fun e' W' => FOut w C a0_0 (rd bs r) l0_1 A0_1 c0_1 (m + nE (l0_1.length - (i + 1))) (cntW a0_0 (rd bs r) (l0_1.drop (i + 1)) e) W e' W') := ⟨fun e m W he hm hs => find.calls HR.out HC.out HWok.out (l0_1.length - (i + 1)) (i + 1) (by omega) e m W he hm hs⟩
                  have hol' := hol.out
                  have hne := nE_40 (n := l0_1.length - (i + 1)) (by omega)
                  go_wp2_with ((with_reducible refine Zax (f := 43) rfl ?_); refine goesL_ (some 72) rfl rfl Try.func43 (by kernel_rfl) rfl #[.agg #[.int .i64 a0_0, .slice A0_1 l0_1.length c0_1], .int .i64 i] rfl (by (try simp only [List.map_toArray, List.map_cons, List.map_nil]); first | done | rfl) ?_; refine (choices.calls a0_0 A0_1 c0_1 l0_1 i _ (Kd.C_below HR.out HSi.out.B) HC.out hdn.1 hi (by omega)).mono ?_; rintro e1 W1 ho; obtain ⟨g, cs, rfl, hge, hgc, hcs, hbl⟩ := ho.out; clear ho; refine ⟨_, rfl, ?_⟩; have HS1 := Zab.mk (HSi.out.below hbl); have HO1 := Zab.mk (Kd.R_below HOi.out hbl); have HK1 := Zab.mk (Zao HKi.out hbl); have HG := Zab.mk hgc; have HCS := Zab.mk hcs; clear hv0 hv1 hge hgc hcs hbl)
                  go_loopg [11, 12, 74] (chs a0_0 (rd l0_1 i)).length (fun kp v11 v12 v74 wr => ∃ (j : Nat), v74 = .int .i64 j ∧ v12 = .int .i64 e ∧ Zab (kp + j = (chs a0_0 (rd l0_1 i)).length) ∧ Zab (pickC a0_0 (rd bs r) (l0_1.drop (i + 1)) (rd l0_1 i) e (chs a0_0 (rd l0_1 i)) = pickC a0_0 (rd bs r) (l0_1.drop (i + 1)) (rd l0_1 i) e ((chs a0_0 (rd l0_1 i)).drop j)) ∧ Zab (Kd.R (Kd.int .i64) 2 wr w.heap.size (okS w C) v11 out) ∧ Zab (WSt w C a0_0 (rd bs r) l0_1 A0_1 c0_1 (i * 2199023255552 + j * 1099511627776) wr) ∧ Zab (wr.heap[g]? = some (.cells cs 2 (0, 0))) ∧ Zab (wr.heap[w.heap.size]? = some (.cells #[.int .i64 a0_0, .slice A0_1 l0_1.length c0_1] 28 (0, 0))))
                  case atStart => exact ⟨0, rfl, rfl, ⟨rfl⟩, ⟨rfl⟩, HO1, ⟨HS1.out.mono (by omega)⟩, HG, HK1⟩
                  case round =>
                    obtain ⟨j, rfl, rfl, hkp, hpk, HOj, HSj, HGj, HKj⟩ := hrel
                    have hkp' := hkp.out
                    have hv0 : wr.cell? ⟨w.heap.size, 0, none⟩ = some (.int .i64 a0_0) := (Zaj HKj.out 0).trans rfl
                    have hv1 : wr.cell? ⟨w.heap.size, 1, none⟩ = some (.slice A0_1 l0_1.length c0_1) := (Zaj HKj.out 1).trans rfl
                    have hgc := Zab.mk (grd_cons (den := a0_0) (bd := rd bs r) (e := e) hi)
                    by_cases hj : j < (chs a0_0 (rd l0_1 i)).length
                    · have hjl : (j : Int) < ((chs a0_0 (rd l0_1 i)).length : Int) := by omega
                      obtain ⟨kp, rfl⟩ : ∃ n, gk = n + 1 := ⟨gk - 1, by omega⟩
                      have hcell : wr.cell? ⟨g, j, none⟩ = some (.int .i64 (rd (chs a0_0 (rd l0_1 i)) j)) := (Zaj HGj.out j).trans (HCS.out j (by omega))
                      have hnin := chs_in hdn.1 hx (rd (chs a0_0 (rd l0_1 i)) j) (B.rd_mem (by omega))
                      have hmul := mul_small hdn hnin
                      have hbd := HWok.out.b
                      have hdrop := Zab.mk (pickC_drop (den := a0_0) (bd := rd bs r) (xs := l0_1.drop (i + 1)) (x := rd l0_1 i) (e := e) hj)
                      obtain ⟨ad, ea, hx0⟩ := Kd.at_int HR.out i (by omega) (by omega)
                      cases ea
                      have hx0' : wr.cell? (ad.add i) = some (.int .i64 (rd l0_1 i)) := (HSj.out.B.cell (World.block_lt_of_cell? w _ hx0)).trans hx0
                      have hp := eq_true (show (0 : Int) ≤ (i : Int) by omega)
                      have hq := eq_true (show (i : Int) < (l0_1.length : Int) by omega)
                      clear hx0
                      obtain ⟨nj, hnj⟩ : ∃ n, n = rd (chs a0_0 (rd l0_1 i)) j := ⟨_, rfl⟩
                      rw [← hnj] at hcell hnin hmul
                      have HNJ := Zab.mk hnj
                      clear hnj
                      obtain ⟨xi, hxi⟩ : ∃ x, x = rd l0_1 i := ⟨_, rfl⟩
                      have hxx := hx
                      rw [← hxi] at hxx hx0'
                      have HXI := Zab.mk hxi
                      clear hxi
                      go_wp2
                      go_region
                      all_goals
                        by_cases hT : -(rd bs r) ≤ e + a0_0 * nj - xi ∧ e + a0_0 * nj - xi ≤ rd bs r
                        · have hw : Zab (impl_within.f (e + a0_0 * nj - xi) (-(rd bs r)) (rd bs r) = some true) := ⟨by rw [within_fn, decide_eq_true hT]⟩
                          have hnx : -1000 ≤ e + a0_0 * nj - xi ∧ e + a0_0 * nj - xi ≤ 1000 := by omega
                          by_cases hP : 0 < cntW a0_0 (rd bs r) (l0_1.drop (i + 1)) (e + a0_0 * nj - xi)
                          · have hpick : Zab (pickC a0_0 (rd bs r) (l0_1.drop (i + 1)) (rd l0_1 i) e (chs a0_0 (rd l0_1 i)) = some nj) := ⟨by rw [hpk.out, hdrop.out, ← HNJ.out, ← HXI.out, if_pos ⟨hT, hP⟩]⟩
                            clear hT
                            go_wp2_with (first | ((with_reducible refine Zax (f := 44) rfl ?_); refine goesL_ (some 94) rfl rfl Try.func44 (by kernel_rfl) rfl #[.int .i64 (e + a0_0 * nj - xi), .int .i64 (-(rd bs r)), .int .i64 (rd bs r)] rfl (by (try simp only [List.map_toArray, List.map_cons, List.map_nil]); first | done | rfl) ?_; refine (impl_within.calls _ _ _ _ _ hw.out).mono ?_; rintro e1 w1 ⟨rfl, ⟨nd, rfl⟩⟩; refine ⟨_, rfl, ?_⟩) | (go_at_call 60; refine (HI.out (e + a0_0 * nj - xi) (i * 2199023255552 + j * 1099511627776) _ hnx (by omega) (HSj.out.below (by repeat (first | exact Below.refl _ _ | apply Zaa | apply below_drew)))).mono ?_; rintro e1 W2 ⟨rfl, hs2, hg2⟩; have HS2 := Zab.mk hs2; have HG2 := Zab.mk (grown_trans (grown_drewN wr _ _) hg2); have HO2 := Zab.mk (Kd.R_grown HOj.out HG2.out (fun k hk z => hk.2.2.2.2.2 (by cases z; rfl))); clear hs2 hg2 hv0 hv1 hcell hx0') | (at_builtin; refine Kd.R_append_row (Value.int .i64) (0 : Int) (h1 := fun _ => rfl) (w0 := w) w.heap.size rfl (.tmp 103) (.tmp 105) 22 2 (.int .i64 0) 8 rfl Try.underlying22 Best.info2 rfl (by decide) u11 out [nj] (some ⟨W2.heap.size, 0, none⟩) 1 1 (okS w C) rfl rfl (fun k hk => okS_fresh (Zaf (blk_grown HKj.out HG2.out (WSt.ne HSj.out HKj.out)) _) (HS2.out.below (Zac (Below.refl _ _) _)) hk) (Kd.R_alloc HO2.out _) (new_C W2 [nj] rfl (by decide)) (Zac HS2.out.B _) (by rw [World.size_alloc]; exact Nat.le_succ_of_le HS2.out.B.size) (by omega) ?_; intro v1 w1 hR1 hB1 hg3 hat))
                            go_roundg kq
                            case measure => omega
                            case rel => exact ⟨i + 1, e + a0_0 * nj - xi, out ++ [nj], by simp, rfl, ⟨by omega⟩, ⟨hnx⟩, ⟨by rw [← hgr.out, hgc.out, hpick.out, List.append_assoc, HXI.out]; rfl⟩, ⟨by rw [List.length_append, List.length_singleton]; omega⟩, ⟨hR1⟩, ⟨((HS2.out.below (Zac (Below.refl _ _) _)).row hg3 hB1 HO2.out.1).mono (by omega)⟩, ⟨blk_grown (Zaf (blk_grown HKj.out HG2.out (WSt.ne HSj.out HKj.out)) _) hg3 (fun z => (HO2.out.1 _ z.symm).1 rfl)⟩⟩
                          · have hpick : Zab (pickC a0_0 (rd bs r) (l0_1.drop (i + 1)) (rd l0_1 i) e (chs a0_0 (rd l0_1 i)) = pickC a0_0 (rd bs r) (l0_1.drop (i + 1)) (rd l0_1 i) e ((chs a0_0 (rd l0_1 i)).drop (j + 1))) := ⟨by rw [hpk.out, hdrop.out, ← HNJ.out, ← HXI.out, if_neg (fun z => hP z.2)]⟩
                            clear hT
                            go_wp2_with (first | ((with_reducible refine Zax (f := 44) rfl ?_); refine goesL_ (some 94) rfl rfl Try.func44 (by kernel_rfl) rfl #[.int .i64 (e + a0_0 * nj - xi), .int .i64 (-(rd bs r)), .int .i64 (rd bs r)] rfl (by (try simp only [List.map_toArray, List.map_cons, List.map_nil]); first | done | rfl) ?_; refine (impl_within.calls _ _ _ _ _ hw.out).mono ?_; rintro e1 w1 ⟨rfl, ⟨nd, rfl⟩⟩; refine ⟨_, rfl, ?_⟩) | (go_at_call 60; refine (HI.out (e + a0_0 * nj - xi) (i * 2199023255552 + j * 1099511627776) _ hnx (by omega) (HSj.out.below (by repeat (first | exact Below.refl _ _ | apply Zaa | apply below_drew)))).mono ?_; rintro e1 W2 ⟨rfl, hs2, hg2⟩; have HS2 := Zab.mk hs2; have HG2 := Zab.mk (grown_trans (grown_drewN wr _ _) hg2); have HO2 := Zab.mk (Kd.R_grown HOj.out HG2.out (fun k hk z => hk.2.2.2.2.2 (by cases z; rfl))); clear hs2 hg2 hv0 hv1 hcell hx0'))
                            go_roundg kp
                            case measure => omega
                            case rel => exact ⟨j + 1, by simp, rfl, ⟨by omega⟩, hpick, HO2, ⟨HS2.out.mono (by omega)⟩, ⟨blk_grown HGj.out HG2.out (WSt.ne HSj.out HGj.out)⟩, ⟨blk_grown HKj.out HG2.out (WSt.ne HSj.out HKj.out)⟩⟩
                        · have hw : Zab (impl_within.f (e + a0_0 * nj - xi) (-(rd bs r)) (rd bs r) = some false) := ⟨by rw [within_fn, decide_eq_false hT]⟩
                          have hpick : Zab (pickC a0_0 (rd bs r) (l0_1.drop (i + 1)) (rd l0_1 i) e (chs a0_0 (rd l0_1 i)) = pickC a0_0 (rd bs r) (l0_1.drop (i + 1)) (rd l0_1 i) e ((chs a0_0 (rd l0_1 i)).drop (j + 1))) := ⟨by rw [hpk.out, hdrop.out, ← HNJ.out, ← HXI.out, if_neg (fun z => hT z.1)]⟩
                          clear hT
                          go_wp2_with ((with_reducible refine Zax (f := 44) rfl ?_); refine goesL_ (some 94) rfl rfl Try.func44 (by kernel_rfl) rfl #[.int .i64 (e + a0_0 * nj - xi), .int .i64 (-(rd bs r)), .int .i64 (rd bs r)] rfl (by (try simp only [List.map_toArray, List.map_cons, List.map_nil]); first | done | rfl) ?_; refine (impl_within.calls _ _ _ _ _ hw.out).mono ?_; rintro e1 w1 ⟨rfl, ⟨nd, rfl⟩⟩; refine ⟨_, rfl, ?_⟩)
                          go_roundg kp
                          case measure => omega
                          case rel => exact ⟨j + 1, by simp, rfl, ⟨by omega⟩, hpick, ⟨Kd.R_drewN HOj.out _⟩, ⟨(HSj.out.below (Zaa (Below.refl _ _) _)).mono (by omega)⟩, HGj, HKj⟩
                    · have hjL : j = (chs a0_0 (rd l0_1 i)).length := by omega
                      have hpn : Zab (pickC a0_0 (rd bs r) (l0_1.drop (i + 1)) (rd l0_1 i) e (chs a0_0 (rd l0_1 i)) = none) := ⟨by rw [hpk.out, hjL, List.drop_length]; rfl⟩
                      clear hjL
                      go_wp2
                      go_roundg kq
                      case measure => omega
                      case rel => exact ⟨i + 1, e, out, by simp, rfl, ⟨by omega⟩, he, ⟨by rw [← hgr.out, hgc.out, hpn.out]⟩, ⟨by omega⟩, HOj, ⟨HSj.out.mono (by omega)⟩, HKj⟩
                · have hfin : Zab (Kd.R (Kd.int .i64) 2 wr w.heap.size (okS w C) u11 (grd a0_0 (rd bs r) l0_1 0)) := ⟨by
                    have h1 := hgr.out
                    rw [List.drop_of_length_le (by omega)] at h1
                    have h2 : out = grd a0_0 (rd bs r) l0_1 0 := by rw [← h1]; simp [grd]
                    rw [← h2]; exact HOi.out⟩
                  go_wp2
                  go_ret3
                  exact ⟨_, rfl, Kd.R_mono hfin.out (fun _ _ => trivial), HSi.out.B⟩
        · rw [if_neg c4] at h
          cases h
      · rw [if_neg c3] at h
        cases h
    · rw [if_neg c2] at h
      cases h
  · rw [if_neg c1] at h
    obtain ⟨rfl, h2⟩ := Prod.mk.inj (Option.some.inj h)
    obtain ⟨rfl, rfl⟩ := Prod.mk.inj h2
    obtain rfl : t = false := by simpa using c1
    clear h c1
    go_enter Try.func12, Try.ntmps12
    go_wp2_with (go_at_call 34; refine (Za0.calls k a0_0 _ _ l0_1 _ _ (Kd.C_below HR.out HB.out) HC.out HA.out).mono ?_; rintro e w2 ⟨rfl, hb⟩; have HB3 := Zab.mk (Zal HB.out hb); have HK3 := Zab.mk (Zao HK.out hb); have hv0 : w2.cell? ⟨w.heap.size, 0, none⟩ = some (.int .i64 a0_0) := (Zaj HK3.out 0).trans rfl; have hv1 : w2.cell? ⟨w.heap.size, 1, none⟩ = some (.slice A0_1 l0_1.length c0_1) := (Zaj HK3.out 1).trans rfl; clear hb)
    go_ret3
    exact ⟨_, rfl, Kd.R_nil _ _ _ _ _, HB3.out⟩
end Go.Proofs.Ytanflefkbbhimaa.P
