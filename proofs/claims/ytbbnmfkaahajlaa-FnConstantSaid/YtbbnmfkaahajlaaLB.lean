/- impl.BlockSums, told by hand: slices.Chunk's closure, and a range over it. -/
import Derived.RangeFuncBox
import Derived.RangeFuncCalls
import Derived.RangeFuncNested
import Derived.RangeFuncLeaves
import Derived.Shelf.Abstract
import Derived.Shelf.RegionOpen
import Derived.WalkKit
import Derived.OwnWalkIn
import Derived.TacticsInMore
import Derived.LoopNIn
import Derived.LoopIn
import Derived.Maps.AppendAt
import Derived.Test.YtbbnmfkaahajlaaP1
namespace Go.Proofs.Ytbbnmfkaahajlaa.P
open Go Go.RowKit Go.Shelf Go.Proofs.YtbbnmfkaahajlaaW.PrintWords Go.Proofs.YtbbnmfkaahajlaaW.PrintLast Go.Proofs.YtbbnmfkaahajlaaW.PrintMore
attribute [local go_sem] Oper.semAt_some

/-- What a round keeps: what lay below n, and the two boxes of slices.Chunk. -/
def KpC (n Bs Bn : Nat) (sv nv : Value) (W W' : World) : Prop := Below n W W' ∧ (Boxed W Bs 22 sv → Boxed W' Bs 22 sv) ∧ (Boxed W Bn 3 nv → Boxed W' Bn 3 nv)
theorem KpC_t {n Bs Bn : Nat} {sv nv : Value} {A B C : World} (h : KpC n Bs Bn sv nv A B) (k : KpC n Bs Bn sv nv B C) : KpC n Bs Bn sv nv A C := ⟨h.1.trans k.1, fun z => k.2.1 (h.2.1 z), fun z => k.2.2 (h.2.2 z)⟩
theorem boxed_putObj {W : World} {B l : Nat} {t : TypeId} {v : Value} {o : Obj} (o' : Obj) (h : Boxed W B t v) (hl : W.heap[l]? = some o) (hc : o.isCells = false) : Boxed (W.putObj l o') B t v :=
  h.kept (grownBy_putObj' W l o') (fun e => by
    obtain rfl : B = l := by simpa using e
    rw [show W.heap[B]? = _ from h] at hl
    cases hl
    cases hc)
theorem KpC_b {n Bs Bn : Nat} {sv nv : Value} {w : World} (hn : n ≤ w.heap.size) (W : World) (l : Nat) (o o' : Obj) (hl : w.heap.size ≤ l) (h : W.heap[l]? = some o) (hc : o.isCells = false) (hw : o.isWalk = false) : KpC n Bs Bn sv nv W (W.putObj l o') :=
  ⟨belowK_b hn W l o o' hl h hc hw, fun z => boxed_putObj o' z h hc, fun z => boxed_putObj o' z h hc⟩
/-- The first k numbers. -/
theorem range_snoc (k : Nat) : List.range (k + 1) = List.range k ++ [k] := List.range_succ

set_option maxRecDepth 100000 in
set_option maxHeartbeats 2000000 in
theorem chunk1_some (F : Fence) (n : Nat) (hf : F.fn 51) (hro : F.round = none) (hn : 1 ≤ n) (l Bs Bn n0 b off len cap m q : Nat) (hm : 1 ≤ m) (hq : q * m = len) (hlc : len ≤ cap) (hlen : len ≤ 1000) (J Jx : List (Fin q) → World → Prop)
    (hY : ∀ pre x W, J pre W → pre.length < q → YieldAt F (n - 1) Try.prog l #[.slice (some ⟨b, off + x.1 * m, none⟩) m m] W fun e W' =>
      (e = .returned (.bool true) ∧ J (pre ++ [x]) W' ∧ KpC n0 Bs Bn (.slice (some ⟨b, off, none⟩) len cap) (.int .i64 m) W W') ∨ (e = .returned (.bool false) ∧ Jx (pre ++ [x]) W'))
    (hJd : ∀ pre W, J pre W → J pre W.drew) (W : World) (hBs : Boxed W Bs 22 (.slice (some ⟨b, off, none⟩) len cap)) (hBn : Boxed W Bn 3 (.int .i64 m)) (h0 : J [] W) :
    CallsIn F n Try.prog 51 #[.func (.yield l) #[] #[], .pointer (some ⟨Bs, 0, none⟩), .pointer (some ⟨Bn, 0, none⟩)] W fun e W' => (∃ v, e = .returned v) ∧
      ((∃ ys, ys.map Fin.val = List.range q ∧ J ys W') ∨ (∃ pre : List (Fin q), (∃ k, k ≤ q ∧ pre.map Fin.val = List.range k) ∧ Jx pre W')) := by
  refine callsIn_of_wp Try.func51 rfl hf ?_ hro
  simp only [Try.ntmps51, List.size_toArray, List.length_cons, List.length_nil, Nat.reduceAdd, Nat.reduceSub, Array.replicate_succ, Array.replicate_zero, List.push_toArray, List.append_toArray, List.nil_append, List.cons_append]
  gi_wp2
  gi_loopw [4] (fun i wr => ∃ (k j : Nat) (pre : List (Fin q)), pre.map Fin.val = List.range k ∧ j = k * m ∧ k ≤ q ∧ i = .int .i64 j ∧ J pre wr ∧ Boxed wr Bs 22 (.slice (some ⟨b, off, none⟩) len cap) ∧ Boxed wr Bn 3 (.int .i64 m))
    (fun i _ => len - (intOf i).toNat)
  case atStart => exact ⟨0, 0, [], rfl, by simp, Nat.zero_le _, rfl, h0, hBs, hBn⟩
  case round =>
    obtain ⟨k, j, pre, hpre, hj, hk, rfl, hJs, hs, hb⟩ := hrel
    have hpl : pre.length = k := by rw [← List.length_map (f := Fin.val), hpre, List.length_range]
    have hc1 := hs.cell
    have hc2 := hb.cell
    by_cases hlt : k < q
    · have hjm : j + m ≤ len := by
        have : (k + 1) * m ≤ q * m := Nat.mul_le_mul_right _ hlt
        rw [Nat.succ_mul] at this
        omega
      obtain ⟨fn, tmps, assign, body, hy, hR⟩ := hY _ ⟨k, hlt⟩ wr.drew (hJd _ _ hJs) (by rw [hpl]; exact hlt)
      dsimp only at hy
      rw [← hj] at hy
      have hjl : (j : Int) < (len : Int) := by omega
      have hcap : ¬ cap = j := by omega
      have hjle : j ≤ len := by omega
      have hjm2 : ¬ len - j < m := by omega
      have HJ := Aside0.mk hj
      have HQ := Aside0.mk hq
      clear hj hq
      have hfol : Try.prog.follows .mixedOrders = true := by kernel_rfl
      gi_wp2
      gi_region
      all_goals (
        gi_wp2
        refine hR.mono ?_
        rintro e W3 (⟨rfl, hJ3, hk3⟩ | ⟨rfl, hJx3⟩)
        · have hb3 := hk3.2.2 (hb : Boxed wr.drew _ _ _)
          have hs3 := hk3.2.1 (hs : Boxed wr.drew _ _ _)
          have hc3 := hb3.cell
          gi_wp2
          go_roundw
          case rel => exact ⟨k + 1, j + m, _, by rw [List.map_append, hpre, List.range_succ]; rfl, by rw [HJ.out, Nat.succ_mul], by omega, by simp, hJ3, hs3, hb3⟩
          case measure => simp [intOf]; omega
        · gi_wp2
          refine bodyPost_ret (results_none rfl _ _ _) rfl ?_
          exact ⟨⟨_, rfl⟩, .inr ⟨_, ⟨k + 1, by omega, by rw [List.map_append, hpre, List.range_succ]; rfl⟩, hJx3⟩⟩)
    · obtain rfl : k = q := by omega
      obtain rfl : j = len := by omega
      have HJ := Aside0.mk hj
      clear hj hq
      gi_wp2
      go_end0
      exact ⟨⟨_, rfl⟩, .inl ⟨_, hpre, hJs⟩⟩

set_option maxRecDepth 100000 in
set_option maxHeartbeats 1000000 in
theorem chunk1_none (F : Fence) (n : Nat) (hf : F.fn 51) (hro : F.round = none) (l Bs Bn cap : Nat) (A : Option Addr) {α : Type} (J : List α → World → Prop) (W : World) (hBs : Boxed W Bs 22 (.slice A 0 cap)) (h0 : J [] W) :
    CallsIn F n Try.prog 51 #[.func (.yield l) #[] #[], .pointer (some ⟨Bs, 0, none⟩), .pointer (some ⟨Bn, 0, none⟩)] W fun e W' => (∃ v, e = .returned v) ∧ J [] W' := by
  refine callsIn_of_wp Try.func51 rfl hf ?_ hro
  simp only [Try.ntmps51, List.size_toArray, List.length_cons, List.length_nil, Nat.reduceAdd, Nat.reduceSub, Array.replicate_succ, Array.replicate_zero, List.push_toArray, List.append_toArray, List.nil_append, List.cons_append]
  gi_wp2
  gi_loopw [4] (fun i wr => i = .int .i64 0 ∧ J [] wr ∧ Boxed wr Bs 22 (.slice A 0 cap)) (fun _ _ => 0)
  case atStart => exact ⟨rfl, h0, hBs⟩
  case round =>
    obtain ⟨rfl, hJs, hs⟩ := hrel
    have hc1 := hs.cell
    gi_wp2
    go_end0
    exact ⟨⟨_, rfl⟩, hJs⟩
set_option maxHeartbeats 1000000 in
theorem chunk_in (F : Fence) (n : Nat) (hf : F.fn 32) (hro : F.round = none) (a : Option Addr) (len cap m : Nat) (hm : 1 ≤ m) (w : World) :
    CallsIn F n Try.prog 32 #[.slice a len cap, .int .i64 m] w fun e w' => e = .returned (.func (.func 51) #[] #[.pointer (some ⟨w.heap.size, 0, none⟩), .pointer (some ⟨w.heap.size + 1, 0, none⟩)]) ∧ w' = (w.alloc (.cells #[.slice a len cap] 22)).alloc (.cells #[.int .i64 m] 3) := by
  refine callsIn_of_wp Try.func32 rfl hf ?_ hro
  simp only [Try.ntmps32, List.size_toArray, List.length_cons, List.length_nil, Nat.reduceAdd, Nat.reduceSub, Array.replicate_succ, Array.replicate_zero, List.push_toArray, List.append_toArray, List.nil_append, List.cons_append]
  have h1 : ¬ ((m : Int) < 1) := by omega
  gi_wp2
  go_ret
  exact ⟨rfl, rfl⟩
/-- Where a chunk lies. -/
def chAt (A : Option Addr) (m x : Nat) : Value := .slice (some ((A.getD ⟨0, 0, none⟩).add (x * m))) m m
theorem add0 (b o j : Nat) : (⟨b, o, none⟩ : Addr).add j = ⟨b, o + j, none⟩ := by
  unfold Addr.add
  split
  · rename_i h; subst h; rfl
  · rfl
theorem chunk_stops (F : Fence) (n : Nat) (hf : F.fn 51) (hro : F.round = none) (hn : 1 ≤ n) (Bs Bn n0 cap m q len : Nat) (A : Option Addr) (hA : 0 < len → ∃ b off, A = some ⟨b, off, none⟩) (hm : 1 ≤ m) (hq : q * m = len) (hlc : len ≤ cap) (hlen : len ≤ 1000) (w : World)
    (hBs : Boxed w Bs 22 (.slice A len cap)) (hBn : Boxed w Bn 3 (.int .i64 m)) :
    SeqStopsK F n Try.prog 51 #[.pointer (some ⟨Bs, 0, none⟩), .pointer (some ⟨Bn, 0, none⟩)] (fun x : Fin q => #[chAt A m x.1]) (KpC n0 Bs Bn (.slice A len cap) (.int .i64 m)) (fun ys => ys.map Fin.val = List.range q) (fun pre => ∃ k, k ≤ q ∧ pre.map Fin.val = List.range k) q w := fun l J Jx W hW hJ hJx hY h0 => by
  have hs : Boxed W Bs 22 (.slice A len cap) := (hW.block _ hBs.lt).trans hBs
  have hb : Boxed W Bn 3 (.int .i64 m) := (hW.block _ hBn.lt).trans hBn
  rcases Nat.eq_zero_or_pos len with h | h
  · subst h
    have hq0 : q = 0 := by
      rcases Nat.eq_zero_or_pos q with h | h
      · exact h
      · have := Nat.mul_pos h hm; omega
    subst hq0
    exact (chunk1_none F n hf hro l Bs Bn cap A J W hs h0).mono fun e W' ⟨he, hj⟩ => ⟨he, .inl ⟨_, rfl, hj⟩⟩
  · obtain ⟨b, off, rfl⟩ := hA h
    refine chunk1_some F n hf hro hn l Bs Bn n0 b off len cap m q hm hq hlc hlen J Jx ?_ (fun pre W1 h1 => hJ pre W1 W1.drew none h1 ⟨rfl, rfl, rfl, Nat.le_refl _, fun _ _ _ => rfl⟩ (fun r e => by cases e)) W hs hb h0
    intro pre x W1 hJ1 hlt
    have := hY pre x W1 hJ1 hlt
    unfold chAt at this
    simp only [Option.getD_some, add0] at this
    exact this

/-- A block of a list, its sum, all sums. -/
def blk (l : List Int) (m j : Nat) : List Int := (l.drop (j * m)).take m
def blkSums (k : Nat) (l : List Int) (m : Nat) : Nat → Option (List Int)
  | 0 => some []
  | q + 1 => (blkSums k l m q).bind fun t => (impl_sum.f k (blk l m q)).bind fun s => some (t ++ [s])
theorem blkSums.mono (k : Nat) (l : List Int) (m : Nat) : ∀ q, LeO (blkSums k l m q) (blkSums (k + 1) l m q)
  | 0 => LeO.refl _
  | q + 1 => LeO.bind (blkSums.mono k l m q) (fun _ => LeO.bind (impl_sum.mono _ _) (fun _ => LeO.refl _))
theorem blkSums_all {k : Nat} {l : List Int} {m : Nat} : ∀ {q : Nat} {r : List Int}, blkSums k l m q = some r → r.length = q ∧ ∀ j (h : j < r.length), impl_sum.f k (blk l m j) = some r[j]
  | 0, r, h => by
    simp only [blkSums, Option.some.injEq] at h
    subst h
    exact ⟨rfl, fun j h => by simp at h⟩
  | q + 1, r, h => by
    simp only [blkSums] at h
    obtain ⟨t, ht, h⟩ := Option.bind_eq_some_iff.1 h
    obtain ⟨s, hs, h⟩ := Option.bind_eq_some_iff.1 h
    obtain rfl := Option.some.inj h
    obtain ⟨h1, h2⟩ := blkSums_all ht
    refine ⟨by rw [List.length_append, h1]; rfl, fun j hj => ?_⟩
    by_cases c : j < t.length
    · rw [List.getElem_append_left c]; exact h2 j c
    · have e : j = q := by rw [List.length_append, List.length_singleton] at hj; omega
      subst e
      rw [List.getElem_append_right (by omega)]
      simpa [h1] using hs
/-- impl.BlockSums. -/
def impl_BlockSums.f (k : Nat) (l0 : List Int) (a1 : Int) : Option (List Int × Bool) := (impl_isList.f k l0).bind fun t => if t = true then (if 1 ≤ a1 ∧ a1 ≤ 40 then (if Int.tmod (l0.length : Int) a1 = 0 then (if l0.length ≤ 1000 then (blkSums k l0 a1.toNat (l0.length / a1.toNat)).bind fun r => some (r, true) else none) else some ([], false)) else some ([], false)) else some ([], false)
theorem impl_BlockSums.mono : ∀ a0 a1 k, LeO (impl_BlockSums.f k a0 a1) (impl_BlockSums.f (k + 1) a0 a1) := by
  intro a0 a1 k
  unfold impl_BlockSums.f
  refine LeO.bind (impl_isList.mono _ _) (fun _ => LeO.ite (LeO.ite (LeO.ite (LeO.ite (LeO.bind (blkSums.mono _ _ _ _) (fun _ => LeO.refl _)) (LeO.refl _)) (LeO.refl _)) (LeO.refl _)) (LeO.refl _))
theorem Try.infoI64 : (Try.prog.info? 2).map (fun i => (i.zero, i.size, i.bytes)) = some (some (.int .i64 0), 1, 8) := by kernel_rfl
theorem blk_C {w : World} {A : Option Addr} {l : List Int} (h : Kd.C (Kd.int .i64) w A l.length l) {m x : Nat} (hx : x * m + m ≤ l.length) (hm : 1 ≤ m) : Kd.C (Kd.int .i64) w (some ((A.getD ⟨0, 0, none⟩).add (x * m))) (blk l m x).length (blk l m x) ∧ (blk l m x).length = m := by
  have hlen : (blk l m x).length = m := by unfold blk; rw [List.length_take, List.length_drop]; omega
  refine ⟨⟨rfl, by have := h.2.1; omega, fun hp => ?_⟩, hlen⟩
  obtain ⟨⟨b, o, sp⟩, rfl, hc⟩ := h.2.2 (by omega)
  refine ⟨_, rfl, fun j p hj => ?_⟩
  have hj' : l[x * m + j]? = some p := by
    unfold blk at hj
    rw [List.getElem?_take] at hj
    split at hj
    · rw [List.getElem?_drop] at hj; exact hj
    · cases hj
  obtain ⟨c, h1, h2, h3⟩ := hc _ _ hj'
  refine ⟨c, h1, h2, fun i u hu => ?_⟩
  have := h3 i u hu
  have h0 : l[0]? = some l[0] := List.getElem?_eq_getElem (by omega)
  obtain ⟨c0, g1, g2, g3⟩ := hc 0 _ h0
  have e0 : c0 = [.int .i64 l[0]] := g2
  have hcell := g3 0 (.int .i64 l[0]) (by rw [e0]; rfl)
  have hsp : sp = none := by
    cases sp with
    | none => rfl
    | some z =>
      simp only [Addr.add, World.cell?] at hcell
      split at hcell <;> simp at hcell
  subst hsp
  simp only [Option.getD_some, add0] at this ⊢
  rw [show (x * m + j) * (Kd.int .i64).sz + i = x * m + (j * (Kd.int .i64).sz + i) by show (x * m + j) * 1 + i = x * m + (j * 1 + i); omega, ← Nat.add_assoc] at this
  exact this

theorem below_drew_ {B : Nat} {w W : World} (h : Below B w W) : Below B w W.drew := ⟨h.os, h.tape, h.output, h.size, h.block⟩
theorem oper_append_own {F : Fence} {n : Nat} {P : Program} (w : World) {o : Oper} {a : Act} {K : Act → World → Prop} {Q : Exit → Act → World → Prop}
    (s x : Operand) (t : TypeId) (hop : o.op = Op.call { callee := Callee.builtin Builtin.append, args := #[s, x], argTypes := #[t, t] })
    (base : Nat) (e : TypeId) (i : TypeInfo) (z : Value) (size bytes : Nat) (h1 : P.underlying t = some (.slice e)) (h2 : P.info? e = some i) (h3 : i.zero = some z) (h4 : i.size = size) (h5 : i.bytes = bytes) (h6 : z.cells.size = size) (h7 : 0 < size)
    (v : Value) (k : Nat) (xs : List Value) (hs : a.eval s = v) (hown : w.ownsRow base e size v k xs) (ad : Addr) (m c : Nat) (news : List Value) (hx : a.eval x = .slice (some ad) m c) (hn : news.length = m * size)
    (hc : ∀ j u, news[j]? = some u → w.cell? (ad.add j) = some u) (h1c : ∀ u ∈ news, u.oneCell' = true) (b1 : k + m ≤ maxLen) (b2 : (k + m) * bytes ≤ 140737488355328) (b3 : base ≤ w.heap.size)
    (hK : ∀ v' w', w'.ownsRow base e size v' (k + m) (xs ++ news) → w.grownBy w' v.ownBlock → K (a.put o.dst v') w') :
    Oper.wpIn F n P o a w K Q := by
  obtain ⟨v', w', hrun, r1, r2, r3⟩ := run_append_own (P := P) w base t o.type e i z size bytes h1 h2 h3 h4 h5 h6 h7 v k xs hown ad m c news hn hc h1c b1 b2 b3
  unfold Oper.wpIn
  refine ⟨?_, ?_⟩
  · simp [Oper.about, hop, resolve, Target.leads, Sem.run_pure]
  · rw [Oper.semAt_plain F _ _ (by rw [hop]; intro c hc'; cases hc')]
    simp [execOp, hop, resolve, invoke, builtin, hs, hx, hrun, Result.andThen]
    exact hK v' w' r1 r2
theorem ys_map {q : Nat} {r : List Int} (hr : r.length = q) {ys : List (Fin q)} (h : ys.map Fin.val = List.range q) : ys.length = r.length ∧ (ys.map fun x => Value.int .i64 (rd r x.1)) = encs (Value.int .i64) r := by
  have hl : ys.length = q := by rw [← List.length_map (f := Fin.val), h, List.length_range]
  refine ⟨by omega, ?_⟩
  have e : (ys.map fun x => Value.int .i64 (rd r x.1)) = (ys.map Fin.val).map fun j : Nat => Value.int .i64 (rd r (j : Int)) := by rw [List.map_map]; rfl
  rw [e, h]
  apply List.ext_getElem
  · simp [encs, hr]
  · intro i h1 h2
    have hi : i < r.length := by simpa [encs] using h2
    simp only [List.getElem_map, List.getElem_range, encs]
    unfold rd
    rw [Int.toNat_natCast, List.getD_eq_getElem?_getD, List.getElem?_eq_getElem hi]
    rfl
/-- The sum of a block, called in a round. -/
theorem sum_blk {k : Nat} {A0 : Option Addr} {l0 r : List Int} {m x : Nat} {w W : World} (hr0 : Kd.C (Kd.int .i64) w A0 l0.length l0) (hm : 1 ≤ m) (hx : x * m + m ≤ l0.length) (hs : impl_sum.f k (blk l0 m x) = some (rd r x)) (hB : Below w.heap.size w W) :
    Calls Try.prog 33 #[chAt A0 m x] W fun e w' => e = .returned (.int .i64 (rd r x)) ∧ Drawn0 W w' := by
  obtain ⟨h1, h2⟩ := blk_C hr0 hx hm
  have := impl_sum.calls k _ m (blk l0 m x) (rd r x) W (Kd.C_below h1 hB) (by omega) hs
  rw [h2] at this
  exact this
set_option maxRecDepth 100000 in
set_option maxHeartbeats 4000000 in
theorem impl_BlockSums.calls (k : Nat) (A0 : Option Addr) (c0 : Nat) (l0 : List Int) (a1 : Int) (r1 : List Int) (r2 : Bool) (w : World) (hr0 : Kd.C (Kd.int .i64) w A0 l0.length l0) (hc0 : l0.length ≤ c0) (h : impl_BlockSums.f k l0 a1 = some (r1, r2)) :
    Calls Try.prog 9 #[.slice A0 l0.length c0, .int .i64 a1] w fun e w' => ∃ v0_ : Value, e = .returned (.tuple #[v0_, .bool r2]) ∧ Kd.R (Kd.int .i64) 2 w' w.heap.size (fun _ => True) v0_ r1 ∧ Below w.heap.size w w' := by
  unfold impl_BlockSums.f at h
  obtain ⟨t, A1, h⟩ := Option.bind_eq_some_iff.1 h
  have HA := Aside0.mk A1
  have HR := Aside0.mk hr0
  have HC := Aside0.mk hc0
  have HB := Aside0.mk (Below.refl w.heap.size w)
  clear A1 hr0 hc0
  by_cases c1 : t = true
  · subst c1
    rw [if_pos rfl] at h
    by_cases c2 : 1 ≤ a1 ∧ a1 ≤ 40
    · rw [if_pos c2] at h
      have a1n : ¬ a1 = 0 := by omega
      have HW : Aside0 (impl_within.f a1 1 40 = some true) := Aside0.mk (by unfold impl_within.f; rw [if_pos c2.1, decide_eq_true c2.2])
      by_cases c3 : Int.tmod (l0.length : Int) a1 = 0
      · rw [if_pos c3] at h
        have c4 : ((l0.length : Int) % a1 != 0) = false := by
          rw [bne_eq_false_iff_eq]
          rw [Int.tmod_eq_emod_of_nonneg (by omega)] at c3
          exact c3
        obtain ⟨m, rfl⟩ : ∃ m : Nat, a1 = (m : Int) := ⟨a1.toNat, by omega⟩
        have hm : 1 ≤ m := by omega
        by_cases c5 : l0.length ≤ 1000
        · rw [if_pos c5, Int.toNat_natCast] at h
          obtain ⟨r, hr, h⟩ := Option.bind_eq_some_iff.1 h
          obtain ⟨rfl, rfl⟩ := Prod.mk.inj (Option.some.inj h)
          obtain ⟨hrl, hrs⟩ := blkSums_all hr
          clear h hr
          have hq : l0.length / m * m = l0.length := by
            rw [Int.tmod_eq_emod_of_nonneg (by omega)] at c3
            have : l0.length % m = 0 := by
              have : ((l0.length % m : Nat) : Int) = 0 := by rw [Int.natCast_emod]; exact c3
              omega
            exact Nat.div_mul_cancel (Nat.dvd_of_mod_eq_zero this)
          clear c3 c2
          have HF := Aside0.mk (And.intro hrl hrs)
          have HQ := Aside0.mk hq
          have HM := Aside0.mk hm
          have HL := Aside0.mk c5
          clear hrl hrs
          obtain ⟨i0, hi, hz0, hz1, hz2⟩ := info_parts Try.infoI64
          refine (callsIn_wide (n := 6)).1 ?_
          refine callsIn_of_wp_marks Try.func9 rfl trivial ?_ rfl
          simp only [Try.ntmps9, List.size_toArray, List.length_cons, List.length_nil, Nat.reduceAdd, Nat.reduceSub, Array.replicate_succ, Array.replicate_zero, List.push_toArray, List.append_toArray, List.nil_append, List.cons_append]
          gi_wp2_with (first | (refine ⟨trivial, ?_⟩; gi_at_call 30; refine (callsIn_wide.2 (impl_isList.calls k _ _ l0 true _ (Kd.C_below HR.out HB.out) HC.out HA.out)).mono ?_; rintro e w3 ⟨rfl, hb⟩; have n0_ := Aside0.mk (below_step HB.out hb); clear HB; have HB := n0_; clear n0_ hb) | (refine ⟨trivial, ?_⟩; gi_at_call 31; refine (callsIn_wide.2 (impl_within.calls (m : Int) 1 40 true _ HW.out)).mono ?_; rintro e w' ⟨rfl, ⟨nd, rfl⟩⟩) | (refine ⟨trivial, ?_⟩; gi_at_call 32; refine (chunk_in Fence.wide _ trivial rfl _ _ _ m HM.out _).mono ?_; rintro e w' ⟨rfl, rfl⟩))
          have gle : w.heap.size ≤ w3.heap.size := HB.out.size
          obtain ⟨g, hg⟩ : ∃ g, w3.heap.size = g := ⟨_, rfl⟩
          have hbo : Boxed (((((w3.drewN nd).alloc (Obj.cells #[] 2)).alloc (Obj.cells #[Value.slice (some ⟨w3.heap.size, 0, none⟩) 0 0] 22)).alloc (Obj.cells #[Value.slice A0 l0.length c0] 22)).alloc (Obj.cells #[Value.int IntKind.i64 ↑m] 3)) (w3.heap.size + 1) 22 (Value.slice (some ⟨w3.heap.size, 0, none⟩) 0 0) := by
            have := ((Boxed.new ((w3.drewN nd).alloc (Obj.cells #[] 2)) 22 (Value.slice (some ⟨w3.heap.size, 0, none⟩) 0 0)).alloc (Obj.cells #[Value.slice A0 l0.length c0] 22)).alloc (Obj.cells #[Value.int IntKind.i64 ↑m] 3)
            rw [World.size_alloc] at this
            exact this
          have hbs : Boxed (((((w3.drewN nd).alloc (Obj.cells #[] 2)).alloc (Obj.cells #[Value.slice (some ⟨w3.heap.size, 0, none⟩) 0 0] 22)).alloc (Obj.cells #[Value.slice A0 l0.length c0] 22)).alloc (Obj.cells #[Value.int IntKind.i64 ↑m] 3)) (w3.heap.size + 1 + 1) 22 (Value.slice A0 l0.length c0) := by
            have := (Boxed.new (((w3.drewN nd).alloc (Obj.cells #[] 2)).alloc (Obj.cells #[Value.slice (some ⟨w3.heap.size, 0, none⟩) 0 0] 22)) 22 (Value.slice A0 l0.length c0)).alloc (Obj.cells #[Value.int IntKind.i64 ↑m] 3)
            rw [World.size_alloc, World.size_alloc] at this
            exact this
          have hbn : Boxed (((((w3.drewN nd).alloc (Obj.cells #[] 2)).alloc (Obj.cells #[Value.slice (some ⟨w3.heap.size, 0, none⟩) 0 0] 22)).alloc (Obj.cells #[Value.slice A0 l0.length c0] 22)).alloc (Obj.cells #[Value.int IntKind.i64 ↑m] 3)) (w3.heap.size + 1 + 1 + 1) 3 (Value.int IntKind.i64 ↑m) := by
            have := Boxed.new ((((w3.drewN nd).alloc (Obj.cells #[] 2)).alloc (Obj.cells #[Value.slice (some ⟨w3.heap.size, 0, none⟩) 0 0] 22)).alloc (Obj.cells #[Value.slice A0 l0.length c0] 22)) 3 (Value.int IntKind.i64 ↑m)
            rw [World.size_alloc, World.size_alloc, World.size_alloc] at this
            exact this
          have hrow : (((((w3.drewN nd).alloc (Obj.cells #[] 2)).alloc (Obj.cells #[Value.slice (some ⟨w3.heap.size, 0, none⟩) 0 0] 22)).alloc (Obj.cells #[Value.slice A0 l0.length c0] 22)).alloc (Obj.cells #[Value.int IntKind.i64 ↑m] 3)).ownsRow w.heap.size 2 1 (Value.slice (some ⟨w3.heap.size, 0, none⟩) 0 0) 0 [] :=
            (((World.ownsRow_made (w3.drewN nd) #[] 0 gle (by decide) rfl).alloc _).alloc _).alloc _
          have hBX : Below w.heap.size w (((((w3.drewN nd).alloc (Obj.cells #[] 2)).alloc (Obj.cells #[Value.slice (some ⟨w3.heap.size, 0, none⟩) 0 0] 22)).alloc (Obj.cells #[Value.slice A0 l0.length c0] 22)).alloc (Obj.cells #[Value.int IntKind.i64 ↑m] 3)) :=
            below_alloc (below_alloc (below_alloc (below_alloc (pw_below_drewN HB.out _) _) _) _) _
          have hsz : (((((w3.drewN nd).alloc (Obj.cells #[] 2)).alloc (Obj.cells #[Value.slice (some ⟨w3.heap.size, 0, none⟩) 0 0] 22)).alloc (Obj.cells #[Value.slice A0 l0.length c0] 22)).alloc (Obj.cells #[Value.int IntKind.i64 ↑m] 3)).heap.size = w3.heap.size + 4 := by
            rw [World.size_alloc, World.size_alloc, World.size_alloc, World.size_alloc]; rfl
          rw [hg] at hbo hbs hbn hrow hBX hsz gle ⊢
          generalize (((((w3.drewN nd).alloc (Obj.cells #[] 2)).alloc (Obj.cells #[Value.slice (some ⟨g, 0, none⟩) 0 0] 22)).alloc (Obj.cells #[Value.slice A0 l0.length c0] 22)).alloc (Obj.cells #[Value.int IntKind.i64 ↑m] 3)) = WX at hbo hbs hbn hrow hBX hsz ⊢
          clear hg HB
          have hA : 0 < l0.length → ∃ b off, A0 = some ⟨b, off, none⟩ := fun hp => by
            obtain ⟨⟨b, o, sp⟩, rfl, hc⟩ := HR.out.2.2 hp
            have h0 : l0[0]? = some l0[0] := List.getElem?_eq_getElem hp
            obtain ⟨cs, g1, g2, g3⟩ := hc 0 _ h0
            have e0 : cs = [.int .i64 l0[0]] := g2
            have hcell := g3 0 (.int .i64 l0[0]) (by rw [e0]; rfl)
            cases sp with
            | none => exact ⟨b, o, rfl⟩
            | some z =>
              simp only [Addr.add, World.cell?] at hcell
              split at hcell <;> simp at hcell
          refine wpIn_rangeFunc_ownG rfl (by omega) (gf := 51) (lb := #[.pointer (some ⟨g + 1 + 1, 0, none⟩), .pointer (some ⟨g + 1 + 1 + 1, 0, none⟩)]) rfl trivial (enters_of Try.func51 (by kernel_rfl) rfl)
            (chunk_stops Fence.wide _ trivial rfl (by omega) (g + 1 + 1) (g + 1 + 1 + 1) w.heap.size c0 m (l0.length / m) l0.length A0 hA HM.out HQ.out HC.out HL.out WX hbs hbn) KpC_t (KpC_b (by omega)) (Below.refl _ _) (fun _ => rfl)
            (fun (pre : List (Fin (l0.length / m))) W => (∃ v, Boxed W (g + 1) 22 v ∧ W.ownsRow w.heap.size 2 1 v pre.length (pre.map fun x => .int .i64 (rd r x.1)) ∧ True) ∧ (Boxed W (g + 1 + 1) 22 (.slice A0 l0.length c0) ∧ Boxed W (g + 1 + 1 + 1) 3 (.int .i64 m)) ∧ Below w.heap.size w W)
            (fun _ _ _ => False)
            (OwnFrom.and (Own.from (holdsRow_own w.heap.size (g + 1) 22 2 1 (fun pre : List (Fin (l0.length / m)) => pre.length) (fun pre : List (Fin (l0.length / m)) => pre.map fun x => Value.int .i64 (rd r x.1)) (fun _ _ => True)) _) (OwnFrom.and (OwnFrom.and (Own.from (boxed_own (g + 1 + 1) 22 (fun _ => .slice A0 l0.length c0)) _) (Own.from (boxed_own (g + 1 + 1 + 1) 3 (fun _ => .int .i64 m)) _)) (ownFrom_below (Nat.le_refl _) (by omega))))
            (fun _ _ _ _ _ hs _ _ => hs)
            ⟨⟨_, hbo, hrow, trivial⟩, ⟨hbs, hbn⟩, hBX⟩
            (fun x => { tmps := #[Value.slice A0 l0.length c0, Value.int IntKind.i64 ↑m, undef, undef, Value.slice none 0 0, Value.bool false,
          Value.pointer (some { block := g + 1, off := 0 }), chAt A0 m x.1, Value.slice A0 l0.length c0,
          Value.bool true, Value.bool false, Value.bool false, Value.int IntKind.i64 ↑m, Value.bool true,
          Value.bool false, Value.bool false, Value.bool false, Value.slice A0 l0.length c0,
          Value.int IntKind.i64 ↑l0.length, Value.int IntKind.i64 ↑m, Value.int IntKind.i64 (↑l0.length % ↑m),
          Value.bool false, Value.bool false, Value.slice (some { block := g, off := 0 }) 0 0,
          Value.slice A0 l0.length c0, Value.int IntKind.i64 ↑m,
          Value.func (Fn.func 51) #[]
            #[Value.pointer (some { block := g + 1 + 1, off := 0 }),
              Value.pointer (some { block := g + 1 + 1 + 1, off := 0 })],
          chAt A0 m x.1, undef, undef, undef, undef, undef, undef], defers := [] }) ?assign ?body ?done ?stop
          case assign =>
            intro l x W K hK
            gi_wp2
            exact hK
          case body =>
            rintro l pre x W ⟨⟨v, hv, hrow, _⟩, ⟨hs, hn⟩, hB⟩ hlt
            have hc := hv.cell
            have hxm : x.1 * m + m ≤ l0.length := by
              have h1 : (x.1 + 1) * m ≤ l0.length / m * m := Nat.mul_le_mul_right _ x.2
              rw [Nat.succ_mul, HQ.out] at h1
              exact h1
            have hsum : impl_sum.f k (blk l0 m x.1) = some (rd r x.1) := by
              have hxr : x.1 < r.length := by rw [HF.out.1]; exact x.2
              rw [HF.out.2 x.1 hxr]
              unfold rd
              rw [Int.toNat_natCast, List.getD_eq_getElem?_getD, List.getElem?_eq_getElem hxr]
              rfl
            have hsz1 : w.heap.size ≤ W.heap.size := hB.size
            have hpl : pre.length ≤ 1000 := by
              have h1 := HL.out
              have h2 : l0.length / m ≤ l0.length := Nat.div_le_self _ _
              omega
            have hd : 1 ≤ 6 - 1 - 1 := by omega
            have hmx : Try.prog.follows .mixedOrders = true := by kernel_rfl
            gi_wp2
            refine wpIn_region_any (by assumption) ?_
            change wpAnyIn _ _ _ _ _ _ _ _ _ (World.drew _)
            refine wpAnyIn_ready (rs := [0, 1]) (by kernel_rfl) (by simp) ?_
            refine AllReadyIn.cons rfl (fun K hK => ?_) (AllReadyIn.cons rfl (fun K hK => ?_) AllReadyIn.nil)
            · go_simp
              refine hK _ _ ?_; clear hK K
              refine wpAnyIn_ready (rs := [1]) (by kernel_rfl) (by simp) ?_
              refine AllReadyIn.cons rfl (fun K hK => ?_) AllReadyIn.nil
              go_simp
              refine hK _ _ ?_; clear hK K
              refine wpAnyIn_ready (rs := [2]) (by kernel_rfl) (by simp) ?_
              refine AllReadyIn.cons rfl (fun K hK => ?_) AllReadyIn.nil
              go_simp
              refine ⟨trivial, (CallsIn.inRound l (callsIn_wide.2 (sum_blk (W := W.drew) HR.out HM.out hxm hsum (below_drew_ hB)))).mono ?_⟩
              rintro e w' ⟨rfl, ⟨nd, rfl⟩⟩
              go_simp
              refine hK _ _ ?_; clear hK K
              refine wpAnyIn_ready (rs := [3]) (by kernel_rfl) (by simp) ?_
              refine AllReadyIn.cons rfl (fun K hK => ?_) AllReadyIn.nil
              go_simp
              refine hK _ _ ?_; clear hK K
              refine wpAnyIn_ready (rs := [4]) (by kernel_rfl) (by simp) ?_
              refine AllReadyIn.cons rfl (fun K hK => ?_) AllReadyIn.nil
              rw [if_pos (by rfl)]
              refine oper_append_own _ _ _ 22 rfl w.heap.size 2 i0 (.int .i64 0) 1 8 Try.underlying22 hi hz0 hz1 hz2 rfl (by decide) v pre.length _ rfl (World.ownsRow.alloc (w := W.drewN (1 + nd)) hrow _) ⟨W.heap.size, 0, none⟩ 1 1 [.int .i64 (rd r x.1)] rfl rfl (cell_one_new (W.drewN (1 + nd)) _ _) (by simp [Value.oneCell']) (by unfold maxLen; omega) (by omega) (by simp; omega) ?_
              intro v' w1 hown' hgrow
              obtain ⟨g', cap', rfl⟩ := ownsRow_succ hown'
              obtain ⟨hv1, hv2, hr2, hk2, hb2⟩ := Boxed.appended (W := W.drewN (1 + nd)) hv (by decide) hrow hB.size (by omega) hown' hgrow
              have hs2 := ((Boxed.alloc (W := W.drewN (1 + nd)) hs _).kept hgrow (hs.not_row (by decide) hrow)).other (B' := g + 1) (by omega) (.slice (some ⟨g', 0, none⟩) (pre.length + 1) cap')
              have hn2 := ((Boxed.alloc (W := W.drewN (1 + nd)) hn _).kept hgrow (hn.not_row (by decide) hrow)).other (B' := g + 1) (by omega) (.slice (some ⟨g', 0, none⟩) (pre.length + 1) cap')
              have hc1 := hv1.cell
              have hf1 := hv1.frozen
              refine hK _ _ ?_; clear hK K
              refine wpAnyIn_ready (rs := [5]) (by kernel_rfl) (by simp) ?_
              refine AllReadyIn.cons rfl (fun K hK => ?_) AllReadyIn.nil
              go_simp
              refine hK _ _ ?_; clear hK K
              refine wpAnyIn_done (by kernel_rfl) ?_ _
              have hbW : Below w.heap.size W (W.drewN (1 + nd)) := pw_below_drewN (Below.refl _ _) _
              exact ⟨((show KeepsOthers W (W.drewN (1 + nd)) from ⟨Nat.le_refl _, fun _ _ h _ => h⟩).trans hk2).from _, ⟨hbW.trans hb2, fun _ => hs2, fun _ => hn2⟩, ⟨⟨_, hv2, by rw [List.length_append, List.map_append]; exact hr2, trivial⟩, ⟨hs2, hn2⟩, hB.trans (hbW.trans hb2)⟩⟩
            · go_simp
              refine hK _ _ ?_; clear hK K
              refine wpAnyIn_ready (rs := [0, 2]) (by kernel_rfl) (by simp) ?_
              refine AllReadyIn.cons rfl (fun K hK => ?_) (AllReadyIn.cons rfl (fun K hK => ?_) AllReadyIn.nil)
              · go_simp
                refine hK _ _ ?_; clear hK K
                refine wpAnyIn_ready (rs := [2]) (by kernel_rfl) (by simp) ?_
                refine AllReadyIn.cons rfl (fun K hK => ?_) AllReadyIn.nil
                go_simp
                refine ⟨trivial, (CallsIn.inRound l (callsIn_wide.2 (sum_blk (W := W.drew) HR.out HM.out hxm hsum (below_drew_ hB)))).mono ?_⟩
                rintro e w' ⟨rfl, ⟨nd, rfl⟩⟩
                go_simp
                refine hK _ _ ?_; clear hK K
                refine wpAnyIn_ready (rs := [3]) (by kernel_rfl) (by simp) ?_
                refine AllReadyIn.cons rfl (fun K hK => ?_) AllReadyIn.nil
                go_simp
                refine hK _ _ ?_; clear hK K
                refine wpAnyIn_ready (rs := [4]) (by kernel_rfl) (by simp) ?_
                refine AllReadyIn.cons rfl (fun K hK => ?_) AllReadyIn.nil
                rw [if_pos (by rfl)]
                refine oper_append_own _ _ _ 22 rfl w.heap.size 2 i0 (.int .i64 0) 1 8 Try.underlying22 hi hz0 hz1 hz2 rfl (by decide) v pre.length _ rfl (World.ownsRow.alloc (w := W.drewN (1 + nd)) hrow _) ⟨W.heap.size, 0, none⟩ 1 1 [.int .i64 (rd r x.1)] rfl rfl (cell_one_new (W.drewN (1 + nd)) _ _) (by simp [Value.oneCell']) (by unfold maxLen; omega) (by omega) (by simp; omega) ?_
                intro v' w1 hown' hgrow
                obtain ⟨g', cap', rfl⟩ := ownsRow_succ hown'
                obtain ⟨hv1, hv2, hr2, hk2, hb2⟩ := Boxed.appended (W := W.drewN (1 + nd)) hv (by decide) hrow hB.size (by omega) hown' hgrow
                have hs2 := ((Boxed.alloc (W := W.drewN (1 + nd)) hs _).kept hgrow (hs.not_row (by decide) hrow)).other (B' := g + 1) (by omega) (.slice (some ⟨g', 0, none⟩) (pre.length + 1) cap')
                have hn2 := ((Boxed.alloc (W := W.drewN (1 + nd)) hn _).kept hgrow (hn.not_row (by decide) hrow)).other (B' := g + 1) (by omega) (.slice (some ⟨g', 0, none⟩) (pre.length + 1) cap')
                have hc1 := hv1.cell
                have hf1 := hv1.frozen
                refine hK _ _ ?_; clear hK K
                refine wpAnyIn_ready (rs := [5]) (by kernel_rfl) (by simp) ?_
                refine AllReadyIn.cons rfl (fun K hK => ?_) AllReadyIn.nil
                go_simp
                refine hK _ _ ?_; clear hK K
                refine wpAnyIn_done (by kernel_rfl) ?_ _
                have hbW : Below w.heap.size W (W.drewN (1 + nd)) := pw_below_drewN (Below.refl _ _) _
                exact ⟨((show KeepsOthers W (W.drewN (1 + nd)) from ⟨Nat.le_refl _, fun _ _ h _ => h⟩).trans hk2).from _, ⟨hbW.trans hb2, fun _ => hs2, fun _ => hn2⟩, ⟨⟨_, hv2, by rw [List.length_append, List.map_append]; exact hr2, trivial⟩, ⟨hs2, hn2⟩, hB.trans (hbW.trans hb2)⟩⟩
              · go_simp
                refine ⟨trivial, (CallsIn.inRound l (callsIn_wide.2 (sum_blk (W := W.drew) HR.out HM.out hxm hsum (below_drew_ hB)))).mono ?_⟩
                rintro e w' ⟨rfl, ⟨nd, rfl⟩⟩
                go_simp
                refine hK _ _ ?_; clear hK K
                refine wpAnyIn_ready (rs := [0, 3]) (by kernel_rfl) (by simp) ?_
                refine AllReadyIn.cons rfl (fun K hK => ?_) (AllReadyIn.cons rfl (fun K hK => ?_) AllReadyIn.nil)
                · go_simp
                  refine hK _ _ ?_; clear hK K
                  refine wpAnyIn_ready (rs := [3]) (by kernel_rfl) (by simp) ?_
                  refine AllReadyIn.cons rfl (fun K hK => ?_) AllReadyIn.nil
                  have hc9 := (Boxed.alloc (W := W.drewN (1 + nd)) hv (.cells #[.int .i64 (rd r x.1)] 2)).cell
                  go_simp
                  refine hK _ _ ?_; clear hK K
                  refine wpAnyIn_ready (rs := [4]) (by kernel_rfl) (by simp) ?_
                  refine AllReadyIn.cons rfl (fun K hK => ?_) AllReadyIn.nil
                  rw [if_pos (by rfl)]
                  refine oper_append_own _ _ _ 22 rfl w.heap.size 2 i0 (.int .i64 0) 1 8 Try.underlying22 hi hz0 hz1 hz2 rfl (by decide) v pre.length _ rfl (World.ownsRow.alloc (w := W.drewN (1 + nd)) hrow _) ⟨W.heap.size, 0, none⟩ 1 1 [.int .i64 (rd r x.1)] rfl rfl (cell_one_new (W.drewN (1 + nd)) _ _) (by simp [Value.oneCell']) (by unfold maxLen; omega) (by omega) (by simp; omega) ?_
                  intro v' w1 hown' hgrow
                  obtain ⟨g', cap', rfl⟩ := ownsRow_succ hown'
                  obtain ⟨hv1, hv2, hr2, hk2, hb2⟩ := Boxed.appended (W := W.drewN (1 + nd)) hv (by decide) hrow hB.size (by omega) hown' hgrow
                  have hs2 := ((Boxed.alloc (W := W.drewN (1 + nd)) hs _).kept hgrow (hs.not_row (by decide) hrow)).other (B' := g + 1) (by omega) (.slice (some ⟨g', 0, none⟩) (pre.length + 1) cap')
                  have hn2 := ((Boxed.alloc (W := W.drewN (1 + nd)) hn _).kept hgrow (hn.not_row (by decide) hrow)).other (B' := g + 1) (by omega) (.slice (some ⟨g', 0, none⟩) (pre.length + 1) cap')
                  have hc1 := hv1.cell
                  have hf1 := hv1.frozen
                  refine hK _ _ ?_; clear hK K
                  refine wpAnyIn_ready (rs := [5]) (by kernel_rfl) (by simp) ?_
                  refine AllReadyIn.cons rfl (fun K hK => ?_) AllReadyIn.nil
                  go_simp
                  refine hK _ _ ?_; clear hK K
                  refine wpAnyIn_done (by kernel_rfl) ?_ _
                  have hbW : Below w.heap.size W (W.drewN (1 + nd)) := pw_below_drewN (Below.refl _ _) _
                  exact ⟨((show KeepsOthers W (W.drewN (1 + nd)) from ⟨Nat.le_refl _, fun _ _ h _ => h⟩).trans hk2).from _, ⟨hbW.trans hb2, fun _ => hs2, fun _ => hn2⟩, ⟨⟨_, hv2, by rw [List.length_append, List.map_append]; exact hr2, trivial⟩, ⟨hs2, hn2⟩, hB.trans (hbW.trans hb2)⟩⟩
                · go_simp
                  refine hK _ _ ?_; clear hK K
                  refine wpAnyIn_ready (rs := [0]) (by kernel_rfl) (by simp) ?_
                  refine AllReadyIn.cons rfl (fun K hK => ?_) AllReadyIn.nil
                  have hc9 := (Boxed.alloc (W := W.drewN (1 + nd)) hv (.cells #[.int .i64 (rd r x.1)] 2)).cell
                  go_simp
                  refine hK _ _ ?_; clear hK K
                  refine wpAnyIn_ready (rs := [4]) (by kernel_rfl) (by simp) ?_
                  refine AllReadyIn.cons rfl (fun K hK => ?_) AllReadyIn.nil
                  rw [if_pos (by rfl)]
                  refine oper_append_own _ _ _ 22 rfl w.heap.size 2 i0 (.int .i64 0) 1 8 Try.underlying22 hi hz0 hz1 hz2 rfl (by decide) v pre.length _ rfl (World.ownsRow.alloc (w := W.drewN (1 + nd)) hrow _) ⟨W.heap.size, 0, none⟩ 1 1 [.int .i64 (rd r x.1)] rfl rfl (cell_one_new (W.drewN (1 + nd)) _ _) (by simp [Value.oneCell']) (by unfold maxLen; omega) (by omega) (by simp; omega) ?_
                  intro v' w1 hown' hgrow
                  obtain ⟨g', cap', rfl⟩ := ownsRow_succ hown'
                  obtain ⟨hv1, hv2, hr2, hk2, hb2⟩ := Boxed.appended (W := W.drewN (1 + nd)) hv (by decide) hrow hB.size (by omega) hown' hgrow
                  have hs2 := ((Boxed.alloc (W := W.drewN (1 + nd)) hs _).kept hgrow (hs.not_row (by decide) hrow)).other (B' := g + 1) (by omega) (.slice (some ⟨g', 0, none⟩) (pre.length + 1) cap')
                  have hn2 := ((Boxed.alloc (W := W.drewN (1 + nd)) hn _).kept hgrow (hn.not_row (by decide) hrow)).other (B' := g + 1) (by omega) (.slice (some ⟨g', 0, none⟩) (pre.length + 1) cap')
                  have hc1 := hv1.cell
                  have hf1 := hv1.frozen
                  refine hK _ _ ?_; clear hK K
                  refine wpAnyIn_ready (rs := [5]) (by kernel_rfl) (by simp) ?_
                  refine AllReadyIn.cons rfl (fun K hK => ?_) AllReadyIn.nil
                  go_simp
                  refine hK _ _ ?_; clear hK K
                  refine wpAnyIn_done (by kernel_rfl) ?_ _
                  have hbW : Below w.heap.size W (W.drewN (1 + nd)) := pw_below_drewN (Below.refl _ _) _
                  exact ⟨((show KeepsOthers W (W.drewN (1 + nd)) from ⟨Nat.le_refl _, fun _ _ h _ => h⟩).trans hk2).from _, ⟨hbW.trans hb2, fun _ => hs2, fun _ => hn2⟩, ⟨⟨_, hv2, by rw [List.length_append, List.map_append]; exact hr2, trivial⟩, ⟨hs2, hn2⟩, hB.trans (hbW.trans hb2)⟩⟩
          case done =>
            rintro D ys W hD hS ⟨⟨v, hv, hrow, _⟩, ⟨hs, hn⟩, hB⟩ hK
            have hc := hv.cell
            obtain ⟨y1, y2⟩ := ys_map HF.out.1 hS
            gi_wp2
            refine ⟨by simp, .inl ⟨_, _, rfl, run_takeDeferred hK, ?_⟩⟩
            rw [y1, y2] at hrow
            exact ⟨_, results_tmp2 rfl _ _ _, v, rfl, Kd.R_of_own (ownsRow_putObj hrow _ hK rfl) (fun _ _ => trivial), hB.trans (belowK_b (w := WX) hBX.size W D _ _ hD hK rfl rfl)⟩
          case stop =>
            rintro D c pre W _ _ h _
            exact h.elim
        · rw [if_neg c5] at h; cases h
      · rw [if_neg c3] at h
        obtain ⟨rfl, rfl⟩ := Prod.mk.inj (Option.some.inj h)
        clear h
        have c4 : ((l0.length : Int) % a1 != 0) = true := by
          rw [bne_iff_ne]
          rw [Int.tmod_eq_emod_of_nonneg (by omega)] at c3
          exact c3
        go_enter Try.func9, Try.ntmps9
        go_wp2_with (first | (go_at_call 30; (with_reducible refine (impl_isList.calls k _ _ l0 true _ (Kd.C_below HR.out HB.out) HC.out HA.out).mono ?_); rintro e w3 ⟨rfl, hb⟩; have n0_ := Aside0.mk (below_step HB.out hb); clear HB; have HB := n0_; clear n0_ hb) | (go_at_call 31; (with_reducible refine (impl_within.calls a1 1 40 true _ HW.out).mono ?_); rintro e w' ⟨rfl, ⟨nd, rfl⟩⟩))
        go_ret2
        exact ⟨_, rfl, Kd.R_nil _ _ _ _ _, pw_below_drewN HB.out _⟩
    · rw [if_neg c2] at h
      obtain ⟨rfl, rfl⟩ := Prod.mk.inj (Option.some.inj h)
      clear h
      have HW : Aside0 (impl_within.f a1 1 40 = some false) := Aside0.mk (by
        unfold impl_within.f
        by_cases c : 1 ≤ a1
        · rw [if_pos c, decide_eq_false (fun z => c2 ⟨c, z⟩)]
        · rw [if_neg c])
      clear c2
      go_enter Try.func9, Try.ntmps9
      go_wp2_with (first | (go_at_call 30; (with_reducible refine (impl_isList.calls k _ _ l0 true _ (Kd.C_below HR.out HB.out) HC.out HA.out).mono ?_); rintro e w3 ⟨rfl, hb⟩; have n0_ := Aside0.mk (below_step HB.out hb); clear HB; have HB := n0_; clear n0_ hb) | (go_at_call 31; (with_reducible refine (impl_within.calls a1 1 40 false _ HW.out).mono ?_); rintro e w' ⟨rfl, ⟨nd, rfl⟩⟩))
      go_ret2
      exact ⟨_, rfl, Kd.R_nil _ _ _ _ _, pw_below_drewN HB.out _⟩
  · replace c1 := Bool.eq_false_iff.mpr c1
    subst c1
    rw [if_neg (by decide)] at h
    obtain ⟨rfl, rfl⟩ := Prod.mk.inj (Option.some.inj h)
    clear h
    go_enter Try.func9, Try.ntmps9
    go_wp2_with (go_at_call 30; (with_reducible refine (impl_isList.calls k _ _ l0 false _ (Kd.C_below HR.out HB.out) HC.out HA.out).mono ?_); rintro e w3 ⟨rfl, hb⟩; have n0_ := Aside0.mk (below_step HB.out hb); clear HB; have HB := n0_; clear n0_ hb)
    go_ret2
    exact ⟨_, rfl, Kd.R_nil _ _ _ _ _, HB.out⟩
end Go.Proofs.Ytbbnmfkaahajlaa.P
