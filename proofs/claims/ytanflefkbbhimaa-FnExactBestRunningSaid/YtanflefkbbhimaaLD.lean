/- spec.l03Least and spec.BestRunning, told by hand: rows of states in a row of rows. The numbers of functions and types are those of seat r9. -/
import Derived.Test.YtanflefkbbhimaaWOwn
import Derived.BigQuiet
import Derived.Test.YtanflefkbbhimaaLC
import Derived.Test.YtanflefkbbhimaaP7
import Derived.Test.YtanflefkbbhimaaP8
import Derived.Test.YtanflefkbbhimaaP9
namespace Go.Proofs.Ytanflefkbbhimaa.P
open Go Go.RowKit Go.Maps Go.Proofs.YtanflefkbbhimaaW.PrintWords Go.Proofs.YtanflefkbbhimaaW.PrintLast Go.Proofs.YtanflefkbbhimaaW.PrintMore
set_option linter.unusedVariables false
set_option linter.unusedSimpArgs false
/-- The least of what is met one after another. -/
def stepB (best v : Int) : Int := if best < 0 ∨ v < best then v else best
/-- The least greatest absolute running error, as the specification finds it. -/
def lstS (den : Int) : List Int → Int → Int
  | [], _ => 0
  | x :: xs, e => ((chs den x).map fun n => max (max (e + den * n - x) (-(e + den * n - x))) (lstS den xs (e + den * n - x))).foldl stepB (-1)
def lstV (den : Int) (xs : List Int) (x e n : Int) : Int := max (max (e + den * n - x) (-(e + den * n - x))) (lstS den xs (e + den * n - x))
theorem lstS_cons (den x : Int) (xs : List Int) (e : Int) : lstS den (x :: xs) e = ((chs den x).map (lstV den xs x e)).foldl stepB (-1) := rfl
/-- Cells of states. -/
def flat : List (Int × Int) → List Value
  | [] => []
  | s :: t => .int .i64 s.1 :: .int .i64 s.2 :: flat t
theorem flat_len : ∀ t, (flat t).length = 2 * t.length
  | [] => rfl
  | s :: t => by simp only [flat, List.length_cons, flat_len t]; omega
theorem flat_append : ∀ a b, flat (a ++ b) = flat a ++ flat b
  | [], _ => rfl
  | s :: a, b => by simp only [List.cons_append, flat, flat_append a b]
theorem flat_get : ∀ (t : List (Int × Int)) (j : Nat) (h : j < t.length), (flat t)[j * 2]? = some (.int .i64 t[j].1) ∧ (flat t)[j * 2 + 1]? = some (.int .i64 t[j].2)
  | s :: t, 0, _ => ⟨rfl, rfl⟩
  | s :: t, j + 1, h => by
    have := flat_get t j (by simpa using h)
    rw [show (j + 1) * 2 = j * 2 + 2 by omega]
    exact this
/-- What a row's states say. -/
def GoodS (den : Int) (l : List Int) (i : Nat) (t : List (Int × Int)) : Prop := (∀ s ∈ t, s.2 = lstS den (l.drop i) s.1 ∧ -40000 ≤ s.1 ∧ s.1 ≤ 40000) ∧ (t.map Prod.fst).Nodup
theorem nodup_len : ∀ {T L : List Int}, T.Nodup → (∀ x ∈ T, x ∈ L) → T.length ≤ L.length
  | [], L, _, _ => by simp
  | a :: T, L, hd, hm => by
    have h1 := List.nodup_cons.1 hd
    have := nodup_len (L := L.erase a) h1.2 (fun x hx => (List.mem_erase_of_ne (fun z => h1.1 (by rw [← z]; exact hx))).2 (hm x (List.mem_cons_of_mem _ hx)))
    rw [List.length_erase_of_mem (hm a List.mem_cons_self)] at this
    have h3 := List.length_pos_of_mem (hm a List.mem_cons_self)
    rw [List.length_cons]
    omega
theorem GoodS.len {den : Int} {l : List Int} {i : Nat} {t : List (Int × Int)} (h : GoodS den l i t) : t.length ≤ 80001 := by
  have h1 := nodup_len h.2 (L := (List.range 80001).map fun n : Nat => (n : Int) - 40000) (fun x hx => by
    obtain ⟨s, hs, rfl⟩ := List.mem_map.1 hx
    have := (h.1 s hs).2
    exact List.mem_map.2 ⟨(s.1 + 40000).toNat, List.mem_range.2 (by omega), by omega⟩)
  simpa using h1
theorem GoodS.snoc {den : Int} {l : List Int} {i : Nat} {t : List (Int × Int)} (h : GoodS den l i t) {s : Int} (hs : -40000 ≤ s ∧ s ≤ 40000) (hn : ∀ j (h : j < t.length), t[j].1 ≠ s) : GoodS den l i (t ++ [(s, lstS den (l.drop i) s)]) := by
  refine ⟨fun x hx => ?_, ?_⟩
  · rcases List.mem_append.1 hx with hx | hx
    · exact h.1 x hx
    · rw [List.mem_singleton.1 hx]; exact ⟨rfl, hs⟩
  · rw [List.map_append, List.nodup_append]
    refine ⟨h.2, by simp, fun a ha b hb => ?_⟩
    obtain ⟨x, hx, rfl⟩ := List.mem_map.1 ha
    obtain ⟨j, hj, rfl⟩ := List.getElem_of_mem hx
    have hb : b = s := by simpa using hb
    rw [hb]
    exact hn j hj
/-- The memo: a row of rows of states, and what else the calls lean on. -/
structure MSt (w0 : World) (g1 M : Nat) (den : Int) (l : List Int) (A : Option Addr) (c : Nat) (S : Nat → List (Int × Int)) (W : World) : Prop where
  v : W.heap[g1]? = some (.cells #[.int .i64 den, .slice A l.length c] 28 (0, 0))
  B : Below w0.heap.size w0 W
  o : w0.heap.size ≤ M
  r : ∃ ms : List Value, W.heap[M]? = some (.cells ms.toArray 52 (0, 0)) ∧ ms.length = l.length ∧ (∀ i (h : i < ms.length), W.ownsRow w0.heap.size 51 2 ms[i] (S i).length (flat (S i))) ∧ (∀ i j (hi : i < ms.length) (hj : j < ms.length), i ≠ j → ∀ b, ms[i].ownBlock = some b → ms[j].ownBlock ≠ some b)
  s : ∀ i, i < l.length → GoodS den l i (S i)
/-- Blocks of other kinds stay. -/
def Frm (M : Nat) (W W' : World) : Prop := W.heap.size ≤ W'.heap.size ∧ ∀ g cs t, W.heap[g]? = some (.cells cs t (0, 0)) → t ≠ 51 → g ≠ M → W'.heap[g]? = some (.cells cs t (0, 0))
theorem Frm.refl (M : Nat) (W : World) : Frm M W W := ⟨Nat.le_refl _, fun _ _ _ h _ _ => h⟩
theorem Frm.trans {M : Nat} {a b c : World} (h : Frm M a b) (k : Frm M b c) : Frm M a c := ⟨Nat.le_trans h.1 k.1, fun g cs t hg h1 h2 => k.2 g cs t (h.2 g cs t hg h1 h2) h1 h2⟩
theorem Frm.below {M : Nat} {a b : World} (h : Below a.heap.size a b) : Frm M a b := ⟨h.size, fun g cs t hg _ _ => blk_below hg h⟩
section
variable {w0 : World} {g1 M : Nat} {den : Int} {l : List Int} {A : Option Addr} {c : Nat} {S : Nat → List (Int × Int)} {W W' : World}
theorem MSt.below (h : MSt w0 g1 M den l A c S W) (hb : Below W.heap.size W W') : MSt w0 g1 M den l A c S W' := by
  obtain ⟨ms, h1, h2, h3, h4⟩ := h.r
  exact ⟨blk_below h.v hb, below_step h.B hb, h.o, ⟨ms, blk_below h1 hb, h2, fun i hi => pw_own_below (h3 i hi) hb, h4⟩, h.s⟩
/-- A row's value, and its cells. -/
theorem MSt.row (h : MSt w0 g1 M den l A c S W) {i : Nat} (hi : i < l.length) : ∃ Ar cap, W.cell? ⟨M, i, none⟩ = some (.slice Ar (S i).length cap) ∧ ∀ j (hj : j < (S i).length), ∃ b, Ar = some ⟨b, 0, none⟩ ∧ W.cell? ⟨b, j * 2, none⟩ = some (.int .i64 (S i)[j].1) ∧ W.cell? ⟨b, j * 2 + 1, none⟩ = some (.int .i64 (S i)[j].2) := by
  obtain ⟨ms, h1, h2, h3, h4⟩ := h.r
  have hi' : i < ms.length := by omega
  have hc : W.cell? ⟨M, i, none⟩ = some ms[i] := by rw [blk_cell h1 i]; simp [hi']
  obtain ⟨ho1, ho⟩ := h3 i hi'
  rcases ho with ⟨e, h0⟩ | ⟨g, cap, cur, e, _, hh, _, _, _, ht⟩
  · exact ⟨none, 0, by rw [hc, e, h0], fun j hj => by omega⟩
  · refine ⟨some ⟨g, 0, none⟩, cap, by rw [hc, e], fun j hj => ⟨g, rfl, ?_⟩⟩
    have hg := flat_get (S i) j hj
    rw [← ht] at hg
    have e1 : ∀ q v, (cur.toList.take ((S i).length * 2))[q]? = some v → W.cell? ⟨g, q, none⟩ = some v := fun q v hq => by
      rw [blk_cell hh q, ← Array.getElem?_toList]
      have hql : q < (S i).length * 2 := by
        have := (List.getElem?_eq_some_iff.1 hq).1
        rw [List.length_take] at this
        omega
      rw [List.getElem?_take_of_lt hql] at hq
      exact hq
    exact ⟨e1 _ _ hg.1, e1 _ _ hg.2⟩
theorem MSt.own (h : MSt w0 g1 M den l A c S W) {i : Nat} (hi : i < l.length) {v : Value} (hv : W.cell? ⟨M, i, none⟩ = some v) : W.ownsRow w0.heap.size 51 2 v (S i).length (flat (S i)) := by
  obtain ⟨ms, h1, h2, h3, h4⟩ := h.r
  have hi' : i < ms.length := by omega
  rw [blk_cell h1 i] at hv
  obtain rfl : ms[i] = v := by simpa [hi'] using hv
  exact h3 i hi'
theorem ty_ne {g : Nat} {cs : Array Value} {t : TypeId} {v : Value} {n : Nat} {xs : List Value} {b : Nat} (hg : W.heap[g]? = some (.cells cs t (0, 0))) (ht : t ≠ 51) (ho : W.ownsRow b 51 2 v n xs) : some g ≠ v.ownBlock := by
  intro e
  obtain ⟨cells, hc⟩ := own_typed ho g e.symm
  rw [hc] at hg
  injection hg with hg
  injection hg with _ h2
  exact ht h2.symm
/-- A state has been put to a row. -/
theorem MSt.push (h : MSt w0 g1 M den l A c S W) {i : Nat} (hi : i < l.length) {v v1 : Value} {w1 : World} {s : Int} (hv : W.cell? ⟨M, i, none⟩ = some v) (hs : -40000 ≤ s ∧ s ≤ 40000) (hn : ∀ j (h : j < (S i).length), (S i)[j].1 ≠ s)
    (ho : w1.ownsRow w0.heap.size 51 2 v1 ((S i).length + 1) (flat (S i) ++ [.int .i64 s, .int .i64 (lstS den (l.drop i) s)])) (hb : Below w0.heap.size w0 w1) (hg : W.grownBy w1 v.ownBlock) (hat : v1.ownBlock = v.ownBlock ∨ ∃ b, v1.ownBlock = some b ∧ W.heap.size ≤ b) :
    MSt w0 g1 M den l A c (fun j => if j = i then S i ++ [(s, lstS den (l.drop i) s)] else S j) (w1.setCell ⟨M, i, none⟩ v1) ∧ Frm M W (w1.setCell ⟨M, i, none⟩ v1) := by
  have hov := h.own hi hv
  obtain ⟨ms, h1, h2, h3, h4⟩ := h.r
  have hi' : i < ms.length := by omega
  have hvi : ms[i] = v := by
    rw [blk_cell h1 i] at hv
    simpa [hi'] using hv
  have hM1 : w1.heap[M]? = some (.cells ms.toArray 52 (0, 0)) := blk_grown h1 hg (ty_ne h1 (by decide) hov)
  have hv1 : w1.heap[g1]? = some (.cells #[.int .i64 den, .slice A l.length c] 28 (0, 0)) := blk_grown h.v hg (ty_ne h.v (by decide) hov)
  have hgM : g1 ≠ M := fun z => by
    subst z
    rw [hv1] at hM1
    injection hM1 with hM1
    injection hM1 with _ h2
    exact absurd h2 (by decide)
  refine ⟨⟨blk_far hv1 hgM _, hb.setCell h.o _, h.o, ⟨ms.set i v1, ?_, by rw [List.length_set]; exact h2, fun j hj => ?_, fun j k hj hk hjk b hjb => ?_⟩, fun j hj => ?_⟩, ?_, ?_⟩
  · have := blk_set hM1 i v1
    rw [this]
    simp
  · have hj' : j < ms.length := by rw [List.length_set] at hj; exact hj
    by_cases e : j = i
    · subst e
      simp only [List.getElem_set_self, if_true]
      have := own_setCell (p := ⟨M, j, none⟩) ho (own_ne ho hM1 (by decide)) v1
      rw [flat_append, List.length_append]
      exact this
    · simp only [if_neg e]
      rw [List.getElem_set_ne (fun z => e z.symm)]
      have hoj := own_other (h3 j hj') hg (by
        cases hb' : ms[j].ownBlock with
        | none => exact .inl rfl
        | some b => exact .inr (fun z => h4 j i hj' hi' e b hb' (by rw [hvi]; exact z.symm)))
      exact own_setCell (p := ⟨M, i, none⟩) hoj (own_ne hoj hM1 (by decide)) v1
  · have hj' : j < ms.length := by rw [List.length_set] at hj; exact hj
    have hk' : k < ms.length := by rw [List.length_set] at hk; exact hk
    by_cases e : j = i
    · subst e
      have hkj : ¬ j = k := hjk
      rw [List.getElem_set_self] at hjb
      rw [List.getElem_set_ne hkj]
      rcases hat with z | ⟨b', z, hlt⟩
      · exact h4 j k hj' hk' hjk b (by rw [hvi, ← z]; exact hjb)
      · rw [hjb] at z
        injection z with z
        subst z
        intro hz
        have := own_lt (h3 k hk') b hz
        omega
    · rw [List.getElem_set_ne (fun z => e z.symm)] at hjb
      by_cases e2 : k = i
      · subst e2
        rw [List.getElem_set_self]
        rcases hat with z | ⟨b', z, hlt⟩
        · rw [z, ← hvi]
          exact h4 j k hj' hk' hjk b hjb
        · rw [z]
          intro hz
          injection hz with hz
          subst hz
          have := own_lt (h3 j hj') b' hjb
          omega
      · rw [List.getElem_set_ne (fun z => e2 z.symm)]
        exact h4 j k hj' hk' hjk b hjb
  · by_cases e : j = i
    · subst e
      simp only [if_true]
      exact (h.s j hj).snoc hs hn
    · simp only [if_neg e]
      exact h.s j hj
  · have := hg.size
    simp only [World.setCell]
    simpa using this
  · intro g cs t hgc ht hne
    exact blk_far (blk_grown hgc hg (ty_ne hgc ht hov)) hne _
end
theorem l01FloorR {a b : Int} (hb : 1 ≤ b) (h1 : -1000000000000000 ≤ a) (h2 : a ≤ 1000000000000000) (hb2 : b ≤ 1000000000000000) : spec_l01Floor.f a b = some (a / b) := by
  have hd := B.ediv_bounds (a := a) hb (M := 1000000000000000) (by omega) h1 h2
  have hq := B.ediv_mul_le (a := a) hb
  have hm := Int.emod_nonneg a (show b ≠ 0 by omega)
  have he := Int.emod_add_mul_ediv a b
  rw [Int.mul_comm] at he
  unfold spec_l01Floor.f
  rw [if_neg (by omega), B.tdiv_pos hb]
  by_cases c : 0 ≤ a ∨ b ∣ a
  · simp only [if_pos c, Int.add_zero]
    rw [B.w64 (x := a / b) (by omega) (by omega), B.w64 (x := a / b * b) (by omega) (by omega), if_neg (by omega)]
  · simp only [if_neg c]
    have hm0 : a % b ≠ 0 := fun e => c (.inr (Int.dvd_of_emod_eq_zero e))
    rw [B.w64 (x := a / b + 1) (by omega) (by omega), Int.add_mul, Int.one_mul, B.w64 (x := a / b * b + b) (by omega) (by omega), if_pos (by omega), B.w64 (by omega) (by omega)]
    congr 1; omega
theorem l01CeilR {a b : Int} (hb : 1 ≤ b) (h1 : -1000000000000000 ≤ a) (h2 : a ≤ 1000000000000000) (hb2 : b ≤ 1000000000000000) : spec_l01Ceil.f a b = some (B.cl a b) := by
  have hd := B.ediv_bounds (a := -a) hb (M := 1000000000000000) (by omega) (by omega) (by omega)
  unfold spec_l01Ceil.f
  rw [B.w64 (by omega) (by omega), l01FloorR hb (by omega) (by omega) hb2]
  simp only [Option.bind_some]
  rw [B.w64 (by omega) (by omega)]; rfl
theorem l03ChoicesR {den : Int} {l : List Int} {i : Nat} (hd : 1 ≤ den ∧ den ≤ 1000) (hi : i < l.length) (hx : -1000000 ≤ rd l i ∧ rd l i ≤ 1000000) : spec_l03Choices.f den l (i : Int) = some (chs den (rd l i)) := by
  unfold spec_l03Choices.f chs
  rw [if_pos (by omega), if_pos (by omega), l01FloorR hd.1 (by omega) (by omega) (by omega), Option.bind_some, l01CeilR hd.1 (by omega) (by omega) (by omega), Option.bind_some]
  split <;> rfl
theorem l00MaxR (a b : Int) : spec_l00Max.f a b = some (max a b) := by
  unfold spec_l00Max.f
  split <;> (congr 1; omega)
/-- What a call of l03Least leaves. -/
structure LOut (w0 : World) (g1 M : Nat) (den : Int) (l : List Int) (A : Option Addr) (c : Nat) (S : Nat → List (Int × Int)) (i : Nat) (s : Int) (W : World) (e : Ending) (W' : World) : Prop where mk ::
  e : e = .returned (.int .i64 (lstS den (l.drop i) s))
  s : ∃ S', MSt w0 g1 M den l A c S' W' ∧ (∀ j, j < i → S' j = S j)
  f : Frm M W W'
theorem fold_take {f : Int → Int} {L : List Int} {j : Nat} (h : j < L.length) (b : Int) : ((L.take (j + 1)).map f).foldl stepB b = stepB (((L.take j).map f).foldl stepB b) (f (rd L j)) := by
  rw [List.take_succ_eq_append_getElem h, List.map_append, List.foldl_append, B.rd_nat h]
  rfl
theorem Frm.row {M : Nat} {W W' : World} {A : Option Addr} {ρ : Nat} {cur : Array Value} {xs : List Int} (h : RowAt W A ρ cur xs) (hf : Frm M W W') (hne : xs ≠ [] → ρ ≠ M) : RowAt W' A ρ cur xs := fun j hj => ⟨(h j hj).1, hf.2 _ _ _ (h j hj).2.1 (by decide) (hne (by intro z; subst z; simp at hj)), (h j hj).2.2⟩
/-- Values as they may be. -/
structure VOk (den : Int) (l : List Int) : Prop where
  d : 1 ≤ den ∧ den ≤ 1000
  n : l.length ≤ 40
  v : ∀ x ∈ l, -1000000 ≤ x ∧ x ≤ 1000000
theorem VOk.rd {den : Int} {l : List Int} (h : VOk den l) {i : Nat} (hi : i < l.length) : -1000000 ≤ rd l i ∧ rd l i ≤ 1000000 := h.v _ (B.rd_mem hi)
/-- A choice moves the error by less than the denominator. -/
theorem chs_err {den x n : Int} (hd : 1 ≤ den ∧ den ≤ 1000) (hn : n ∈ chs den x) : -1000 ≤ den * n - x ∧ den * n - x ≤ 1000 := by
  have h1 := B.ediv_mul_le (a := x) hd.1
  have h2 := B.cl_mul (a := x) hd.1
  have e1 : den * (x / den) = x / den * den := Int.mul_comm _ _
  have e2 : den * B.cl x den = B.cl x den * den := Int.mul_comm _ _
  unfold chs at hn
  split at hn
  · rw [List.mem_singleton.1 hn]; omega
  · rcases List.mem_cons.1 hn with rfl | hn
    · omega
    · rw [List.mem_singleton.1 hn]; omega
section
variable {w0 : World} {g1 M : Nat} {den : Int} {l : List Int} {A : Option Addr} {c : Nat}
theorem own_slice {w : World} {base n : Nat} {e : TypeId} {size : Nat} {v : Value} {xs : List Value} (h : w.ownsRow base e size v (n + 1) xs) : ∃ g cap, v = .slice (some ⟨g, 0, none⟩) (n + 1) cap := by
  rcases h.2 with ⟨_, h0⟩ | ⟨g, cap, cur, e, _⟩
  · omega
  · exact ⟨g, cap, e⟩
theorem Best.info51 : (Try.prog.info? 51).map (fun i => (i.zero, i.size, i.bytes)) = some (some (.agg #[.int .i64 0, .int .i64 0]), 2, 16) := by kernel_rfl
set_option maxHeartbeats 2000000 in
set_option maxRecDepth 100000 in
theorem least_end (H : VOk den l) (e : Int) (S : Nat → List (Int × Int)) (W : World) (hs : MSt w0 g1 M den l A c S W) :
    Calls Try.prog 36 #[.pointer (some ⟨g1, 0, none⟩), .int .i64 (l.length : Int), .int .i64 e, .slice (some ⟨M, 0, none⟩) l.length l.length] W fun e' W' => LOut w0 g1 M den l A c S l.length e W e' W' := by
  have hv1 : W.cell? ⟨g1, 1, none⟩ = some (.slice A l.length c) := (blk_cell hs.v 1).trans rfl
  have hn := H.n
  have HS := Aside0.mk hs
  clear hs
  go_enter Try.func36, Try.ntmps36
  go_wp2
  go_ret
  exact ⟨by rw [List.drop_length]; rfl, ⟨S, HS.out, fun _ _ => rfl⟩, Frm.refl _ _⟩
set_option maxHeartbeats 8000000 in
set_option maxRecDepth 100000 in
theorem least_step (hr : Kd.C (Kd.int .i64) w0 A l.length l) (hc : l.length ≤ c) (H : VOk den l) (d i : Nat) (hi : i + (d + 1) = l.length)
    (ih : ∀ (e : Int) (S : Nat → List (Int × Int)) (W : World), (-(1000 * ((i : Int) + 1)) ≤ e ∧ e ≤ 1000 * ((i : Int) + 1)) → MSt w0 g1 M den l A c S W → Calls Try.prog 36 #[.pointer (some ⟨g1, 0, none⟩), .int .i64 ((i : Int) + 1), .int .i64 e, .slice (some ⟨M, 0, none⟩) l.length l.length] W fun e' W' => LOut w0 g1 M den l A c S (i + 1) e W e' W')
    (e : Int) (S : Nat → List (Int × Int)) (W : World) (he : -(1000 * (i : Int)) ≤ e ∧ e ≤ 1000 * (i : Int)) (hs : MSt w0 g1 M den l A c S W) :
    Calls Try.prog 36 #[.pointer (some ⟨g1, 0, none⟩), .int .i64 (i : Int), .int .i64 e, .slice (some ⟨M, 0, none⟩) l.length l.length] W fun e' W' => LOut w0 g1 M den l A c S i e W e' W' := by
  have hil : i < l.length := by omega
  obtain ⟨Ar, cap, hrow, hcells⟩ := hs.row hil
  have hv0 : W.cell? ⟨g1, 0, none⟩ = some (.int .i64 den) := (blk_cell hs.v 0).trans rfl
  have hv1 : W.cell? ⟨g1, 1, none⟩ = some (.slice A l.length c) := (blk_cell hs.v 1).trans rfl
  have hn := H.n
  have hin : ¬ (i : Int) = (l.length : Int) := by omega
  have hill : (i : Int) < (l.length : Int) := by omega
  have hsl := (hs.s i hil).len
  have HCells := Aside0.mk hcells
  have HS := Aside0.mk hs
  have HH := Aside0.mk H
  have HR := Aside0.mk hr
  have HC := Aside0.mk hc
  have HI := Aside0.mk ih
  clear hs H hr hc ih hcells
  go_enter Try.func36, Try.ntmps36
  go_wp2
  go_loopg [9] (S i).length (fun kq v9 wr => ∃ k : Nat, v9 = .int .i64 k ∧ Aside0 (kq + k = (S i).length) ∧ Aside0 (∀ j (h : j < (S i).length), j < k → (S i)[j].1 ≠ e) ∧ wr = W)
  case atStart => exact ⟨0, rfl, ⟨rfl⟩, ⟨fun j _ h => by omega⟩, rfl⟩
  case round =>
    obtain ⟨k, rfl, hkq, hno, rfl⟩ := hrel
    have hkq' := hkq.out
    by_cases hk : k < (S i).length
    · have hkl : (k : Int) < ((S i).length : Int) := by omega
      obtain ⟨b, eb, hc0, hc1⟩ := HCells.out k hk
      subst eb
      by_cases hT : (S i)[k].1 = e
      · have hg := (HS.out.s i hil).1 _ (List.getElem_mem hk)
        have hres : Aside0 ((S i)[k].2 = lstS den (l.drop i) e) := ⟨by rw [hg.1, hT]⟩
        clear hg
        go_wp2
        go_ret
        exact ⟨by rw [← hres.out]; rfl, ⟨S, HS.out, fun _ _ => rfl⟩, Frm.refl _ _⟩
      · obtain ⟨kq, rfl⟩ : ∃ n, gk = n + 1 := ⟨gk - 1, by omega⟩
        go_wp2
        go_roundg kq
        case measure => omega
        case rel => exact ⟨k + 1, by simp, ⟨by omega⟩, ⟨fun j h hj => by
          by_cases e1 : j = k
          · subst e1; exact hT
          · exact hno.out j h (by omega)⟩, rfl⟩
    · have hnone : Aside0 (∀ j (h : j < (S i).length), (S i)[j].1 ≠ e) := ⟨fun j h => hno.out j h (by omega)⟩
      have hx := HH.out.rd hil
      have hch := Aside0.mk (l03ChoicesR HH.out.d hil hx)
      have hdn := HH.out.d
      go_wp2_with (go_at_call 31; refine (spec_l03Choices.calls g1 den A c l (i : Int) (chs den (rd l i)) _ HS.out.v (Kd.C_below HR.out HS.out.B) HC.out hch.out).mono ?_; rintro e1 W1 ⟨vc, rfl, hRc, hbc⟩; obtain ⟨Ac, cc, ρ, cur, rfl, hrowc, hρ, _⟩ := rowAt_of_R hRc (g1 := g1) (Nat.lt_of_lt_of_le (blk_lt HS.out.v) hbc.size); have HS1 := Aside0.mk (HS.out.below hbc); have HF1 := Aside0.mk (Frm.below (M := M) hbc); have HRow := Aside0.mk hrowc; clear hRc hbc hrowc hv0 hv1 hrow hsl)
      go_loopg [10, 12] (chs den (rd l i)).length (fun kq v10 v12 wq => ∃ (j : Nat) (S' : Nat → List (Int × Int)) (Bv : Int), v12 = .int .i64 j ∧ v10 = .int .i64 Bv ∧ Aside0 (Bv = (((chs den (rd l i)).take j).map (lstV den (l.drop (i + 1)) (rd l i) e)).foldl stepB (-1)) ∧ Aside0 (kq + j = (chs den (rd l i)).length) ∧ Aside0 (MSt w0 g1 M den l A c S' wq) ∧ Aside0 (∀ q, q ≤ i → S' q = S q) ∧ Aside0 (Frm M W1 wq) ∧ Aside0 (RowAt wq Ac ρ cur (chs den (rd l i))))
      case atStart => exact ⟨0, S, -1, rfl, rfl, ⟨rfl⟩, ⟨rfl⟩, HS1, ⟨fun _ _ => rfl⟩, ⟨Frm.refl _ _⟩, HRow⟩
      case round =>
        obtain ⟨j, S', Bv, rfl, rfl, hBv, hkj, HSj, HQj, HFj, HRj⟩ := hrel
        have hkj' := hkj.out
        have hcl := (chs_len den (rd l i)).2
        have hv0 : wr.cell? ⟨g1, 0, none⟩ = some (.int .i64 den) := (blk_cell HSj.out.v 0).trans rfl
        have hv1 : wr.cell? ⟨g1, 1, none⟩ = some (.slice A l.length c) := (blk_cell HSj.out.v 1).trans rfl
        by_cases hj : j < (chs den (rd l i)).length
        · have hjl : (j : Int) < ((chs den (rd l i)).length : Int) := by omega
          obtain ⟨kp, rfl⟩ : ∃ n, gk = n + 1 := ⟨gk - 1, by omega⟩
          obtain ⟨ea, hh, hcu⟩ := HRj.out j hj
          subst ea
          have hcell : wr.cell? ⟨ρ, j, none⟩ = some (.int .i64 (rd (chs den (rd l i)) j)) := (blk_cell hh j).trans hcu
          have hρM : Aside0 (ρ ≠ M) := ⟨by
            obtain ⟨ms, h1, _⟩ := HSj.out.r
            exact blk_ne hh h1 (by decide)⟩
          have hmem := B.rd_mem hj
          have hnin := chs_in hdn.1 hx _ hmem
          have hmul := mul_small hdn hnin
          have herr := chs_err hdn hmem
          have hft := Aside0.mk (fold_take (f := lstV den (l.drop (i + 1)) (rd l i) e) hj (-1))
          obtain ⟨ad, ea, hx0⟩ := Kd.at_int HR.out i (by omega) (by omega)
          cases ea
          have hx0' : wr.cell? (ad.add i) = some (.int .i64 (rd l i)) := (HSj.out.B.cell (World.block_lt_of_cell? w0 _ hx0)).trans hx0
          have hp := eq_true (show (0 : Int) ≤ (i : Int) by omega)
          have hq := eq_true (show (i : Int) < (l.length : Int) by omega)
          clear hx0 hh hcu hmem
          obtain ⟨nj, hnj⟩ : ∃ n, n = rd (chs den (rd l i)) j := ⟨_, rfl⟩
          rw [← hnj] at hcell hnin hmul herr
          have HNJ := Aside0.mk hnj
          clear hnj
          obtain ⟨xi, hxi⟩ : ∃ x, x = rd l i := ⟨_, rfl⟩
          have hxx := hx
          rw [← hxi] at hxx hx0' herr
          have HXI := Aside0.mk hxi
          clear hxi
          have hnx : -(1000 * ((i : Int) + 1)) ≤ e + den * nj - xi ∧ e + den * nj - xi ≤ 1000 * ((i : Int) + 1) := by omega
          obtain ⟨V1, hV1⟩ : ∃ v, v = max (e + den * nj - xi) (-(e + den * nj - xi)) := ⟨_, rfl⟩
          have H1 : Aside0 (spec_l00Max.f (e + den * nj - xi) (-(e + den * nj - xi)) = some V1) := ⟨by rw [l00MaxR, hV1]⟩
          obtain ⟨LV, hLV⟩ : ∃ v, lstS den (l.drop (i + 1)) (e + den * nj - xi) = v := ⟨_, rfl⟩
          obtain ⟨V, hV⟩ : ∃ v, v = max V1 LV := ⟨_, rfl⟩
          have H2 : Aside0 (spec_l00Max.f V1 LV = some V) := ⟨by rw [l00MaxR, hV]⟩
          have HV : Aside0 (lstV den (l.drop (i + 1)) (rd l i) e (rd (chs den (rd l i)) j) = V) := ⟨by rw [← HNJ.out, ← HXI.out]; unfold lstV; rw [hLV, hV, hV1]⟩
          have hLV := Aside0.mk hLV
          clear hV hV1
          go_wp2
          go_quiet (fail)
          have hnz : -41000 ≤ e + den * nj - xi ∧ e + den * nj - xi ≤ 41000 := by omega
          have HCL := Aside0.mk hcl
          clear hnin hmul herr hxx hx hcl hkj' hp hq
          all_goals
            by_cases hB1 : Bv < 0
            · have hst : Aside0 (stepB Bv V = V) := ⟨by unfold stepB; rw [if_pos (.inl hB1)]⟩
              go_wp2_with (first | (go_at_call 37; refine (spec_l00Max.calls (e + den * nj - xi) (-(e + den * nj - xi)) V1 _ H1.out).mono ?_; rintro e1 w1 ⟨rfl, ⟨nd, rfl⟩⟩) | (go_at_call 36; refine (HI.out (e + den * nj - xi) S' _ hnx (HSj.out.below (by repeat (first | exact Below.refl _ _ | apply pw_below_drewN | apply below_drew)))).mono ?_; rintro e1 W2 ⟨he1, hs2, hf2⟩; rw [hLV.out] at he1; subst he1; obtain ⟨S2, hS2, hq2⟩ := hs2; have HS2 := Aside0.mk hS2; have HQ2 := Aside0.mk hq2; have HF2 := Aside0.mk (Frm.trans (Frm.below (M := M) (pw_below_drewN (Below.refl _ _) _)) hf2); clear hS2 hq2 hf2 hv0 hv1 hcell hx0') | (go_at_call 37; refine (spec_l00Max.calls V1 LV V _ H2.out).mono ?_; rintro e1 w1 ⟨rfl, ⟨nd2, rfl⟩⟩))
              go_roundg kp
              case measure => omega
              case rel => exact ⟨j + 1, S2, V, by have := HCL.out; simp; exact B.w64 (by omega) (by omega), rfl, ⟨by rw [hft.out, ← hBv.out, HV.out, hst.out]⟩, ⟨by have := hkj.out; omega⟩, ⟨HS2.out.below (pw_below_drewN (Below.refl _ _) nd2)⟩, ⟨fun q hq => (HQ2.out q (by omega)).trans (HQj.out q hq)⟩, ⟨HFj.out.trans (HF2.out.trans (Frm.below (pw_below_drewN (Below.refl _ _) nd2)))⟩, ⟨Frm.row HRj.out (HF2.out.trans (Frm.below (pw_below_drewN (Below.refl _ _) nd2))) (fun _ => hρM.out)⟩⟩
            · by_cases hB2 : V < Bv
              · have hst : Aside0 (stepB Bv V = V) := ⟨by unfold stepB; rw [if_pos (.inr hB2)]⟩
                go_wp2_with (first | (go_at_call 37; refine (spec_l00Max.calls (e + den * nj - xi) (-(e + den * nj - xi)) V1 _ H1.out).mono ?_; rintro e1 w1 ⟨rfl, ⟨nd, rfl⟩⟩) | (go_at_call 36; refine (HI.out (e + den * nj - xi) S' _ hnx (HSj.out.below (by repeat (first | exact Below.refl _ _ | apply pw_below_drewN | apply below_drew)))).mono ?_; rintro e1 W2 ⟨he1, hs2, hf2⟩; rw [hLV.out] at he1; subst he1; obtain ⟨S2, hS2, hq2⟩ := hs2; have HS2 := Aside0.mk hS2; have HQ2 := Aside0.mk hq2; have HF2 := Aside0.mk (Frm.trans (Frm.below (M := M) (pw_below_drewN (Below.refl _ _) _)) hf2); clear hS2 hq2 hf2 hv0 hv1 hcell hx0') | (go_at_call 37; refine (spec_l00Max.calls V1 LV V _ H2.out).mono ?_; rintro e1 w1 ⟨rfl, ⟨nd2, rfl⟩⟩))
                go_roundg kp
                case measure => omega
                case rel => exact ⟨j + 1, S2, V, by have := HCL.out; simp; exact B.w64 (by omega) (by omega), rfl, ⟨by rw [hft.out, ← hBv.out, HV.out, hst.out]⟩, ⟨by have := hkj.out; omega⟩, ⟨HS2.out.below (pw_below_drewN (Below.refl _ _) nd2)⟩, ⟨fun q hq => (HQ2.out q (by omega)).trans (HQj.out q hq)⟩, ⟨HFj.out.trans (HF2.out.trans (Frm.below (pw_below_drewN (Below.refl _ _) nd2)))⟩, ⟨Frm.row HRj.out (HF2.out.trans (Frm.below (pw_below_drewN (Below.refl _ _) nd2))) (fun _ => hρM.out)⟩⟩
              · have hst : Aside0 (stepB Bv V = Bv) := ⟨by unfold stepB; rw [if_neg (fun z => z.elim hB1 hB2)]⟩
                go_wp2_with (first | (go_at_call 37; refine (spec_l00Max.calls (e + den * nj - xi) (-(e + den * nj - xi)) V1 _ H1.out).mono ?_; rintro e1 w1 ⟨rfl, ⟨nd, rfl⟩⟩) | (go_at_call 36; refine (HI.out (e + den * nj - xi) S' _ hnx (HSj.out.below (by repeat (first | exact Below.refl _ _ | apply pw_below_drewN | apply below_drew)))).mono ?_; rintro e1 W2 ⟨he1, hs2, hf2⟩; rw [hLV.out] at he1; subst he1; obtain ⟨S2, hS2, hq2⟩ := hs2; have HS2 := Aside0.mk hS2; have HQ2 := Aside0.mk hq2; have HF2 := Aside0.mk (Frm.trans (Frm.below (M := M) (pw_below_drewN (Below.refl _ _) _)) hf2); clear hS2 hq2 hf2 hv0 hv1 hcell hx0') | (go_at_call 37; refine (spec_l00Max.calls V1 LV V _ H2.out).mono ?_; rintro e1 w1 ⟨rfl, ⟨nd2, rfl⟩⟩))
                go_roundg kp
                case measure => omega
                case rel => exact ⟨j + 1, S2, Bv, by have := HCL.out; simp; exact B.w64 (by omega) (by omega), rfl, ⟨by rw [hft.out, ← hBv.out, HV.out, hst.out]⟩, ⟨by have := hkj.out; omega⟩, ⟨HS2.out.below (pw_below_drewN (Below.refl _ _) nd2)⟩, ⟨fun q hq => (HQ2.out q (by omega)).trans (HQj.out q hq)⟩, ⟨HFj.out.trans (HF2.out.trans (Frm.below (pw_below_drewN (Below.refl _ _) nd2)))⟩, ⟨Frm.row HRj.out (HF2.out.trans (Frm.below (pw_below_drewN (Below.refl _ _) nd2))) (fun _ => hρM.out)⟩⟩
        · have hjL : j = (chs den (rd l i)).length := by omega
          have hBf : Aside0 (Bv = lstS den (l.drop i) e) := ⟨by rw [hBv.out, hjL, List.take_length, drop_cons hil, lstS_cons]⟩
          have hSi : Aside0 (S' i = S i) := ⟨HQj.out i (Nat.le_refl _)⟩
          obtain ⟨Ar2, cap2, hrow2, _⟩ := HSj.out.row hil
          have HOwn := Aside0.mk (HSj.out.own hil hrow2)
          have hlen2 := (HSj.out.s i hil).len
          have HRow2 := Aside0.mk hrow2
          have HCm : Aside0 (∀ w1 : World, wr.grownBy w1 (Value.slice Ar2 (S' i).length cap2).ownBlock → w1.cell? ⟨M, i, none⟩ = some (.slice Ar2 (S' i).length cap2) ∧ w1.frozen? ⟨M, i, none⟩ = false) := ⟨fun w1 hg => by
            obtain ⟨ms, h1, h2, _⟩ := HSj.out.r
            have hM1 := blk_grown h1 hg (ty_ne h1 (by decide) HOwn.out)
            refine ⟨?_, blk_frozen hM1 i⟩
            have := HRow2.out
            rw [blk_cell h1 i] at this
            rw [blk_cell hM1 i]
            exact this⟩
          clear hjL hcl
          go_wp2_with (at_builtin; refine print_append_cells (w0 := w0) w0.heap.size rfl (.tmp 101) (.tmp 105) 52 51 (.agg #[.int .i64 0, .int .i64 0]) 2 16 rfl Try.underlying52 Best.info51 rfl (by decide) (by decide) (.slice Ar2 (S' i).length cap2) (S' i).length (flat (S' i)) [.int .i64 e, .int .i64 Bv] rfl rfl rfl (by simp [Value.oneCell']) HOwn.out HSj.out.B HSj.out.B.size (by omega) ?_; intro v1 w1 hown hB1 hg1 hat; obtain ⟨gq, cq, rfl⟩ := own_slice hown; have hM1 := HCm.out w1 hg1; have hm1 := hM1.1; have hm2 := hM1.2; have HOw := Aside0.mk hown; have HB1 := Aside0.mk hB1; have HG1 := Aside0.mk hg1; have HAt := Aside0.mk hat; clear hM1 hown hB1 hg1 hat)
          go_ret
          have hp := HSj.out.push hil HRow2.out (s := e) (by omega) (fun q hq => by rw [hSi.out] at hq; have := hnone.out q hq; simp only [hSi.out]; exact this) (by rw [← hBf.out]; exact HOw.out) HB1.out HG1.out HAt.out
          exact ⟨by rw [← hBf.out]; rfl, ⟨_, hp.1, fun q hq => by rw [if_neg (by omega)]; exact HQj.out q (by omega)⟩, HF1.out.trans (HFj.out.trans hp.2)⟩
end
end Go.Proofs.Ytanflefkbbhimaa.P
/- spec.BestRunning, told by hand: the memo is made, the least found, then a number for each value. The numbers of functions and types are those of seat r9. -/
namespace Go.Proofs.Ytanflefkbbhimaa.P
open Go Go.RowKit Go.Maps Go.Proofs.YtanflefkbbhimaaW.PrintWords Go.Proofs.YtanflefkbbhimaaW.PrintLast Go.Proofs.YtanflefkbbhimaaW.PrintMore
set_option linter.unusedVariables false
set_option linter.unusedSimpArgs false
theorem least.calls {w0 : World} {g1 M : Nat} {den : Int} {l : List Int} {A : Option Addr} {c : Nat} (hr : Kd.C (Kd.int .i64) w0 A l.length l) (hc : l.length ≤ c) (H : VOk den l) : ∀ (d i : Nat), i + d = l.length → ∀ (e : Int) (S : Nat → List (Int × Int)) (W : World), (-(1000 * (i : Int)) ≤ e ∧ e ≤ 1000 * (i : Int)) → MSt w0 g1 M den l A c S W →
    Calls Try.prog 36 #[.pointer (some ⟨g1, 0, none⟩), .int .i64 (i : Int), .int .i64 e, .slice (some ⟨M, 0, none⟩) l.length l.length] W fun e' W' => LOut w0 g1 M den l A c S i e W e' W' := by
  intro d
  induction d with
  | zero =>
    intro i hi e S W he hs
    obtain rfl : i = l.length := by omega
    exact least_end H e S W hs
  | succ d ih =>
    intro i hi e S W he hs
    exact least_step hr hc H d i hi (fun e S W he hs => ih (i + 1) (by omega) e S W (by omega) hs) e S W he hs
/-- The list that the specification finds. -/
def pickS (den least : Int) (xs : List Int) (x e : Int) : List Int → Option Int
  | [] => none
  | n :: ns => if max (e + den * n - x) (-(e + den * n - x)) ≤ least ∧ lstS den xs (e + den * n - x) ≤ least then some n else pickS den least xs x e ns
def grdS (den least : Int) : List Int → Int → List Int
  | [], _ => []
  | x :: xs, e => match pickS den least xs x e (chs den x) with
    | some n => n :: grdS den least xs (e + den * n - x)
    | none => grdS den least xs e
theorem pickS_drop {den bd : Int} {xs : List Int} {x e : Int} {j : Nat} (h : j < (chs den x).length) : pickS den bd xs x e ((chs den x).drop j) = if max (e + den * rd (chs den x) j - x) (-(e + den * rd (chs den x) j - x)) ≤ bd ∧ lstS den xs (e + den * rd (chs den x) j - x) ≤ bd then some (rd (chs den x) j) else pickS den bd xs x e ((chs den x).drop (j + 1)) := by
  rw [List.drop_eq_getElem_cons h, B.rd_nat h]
  rfl
theorem grdS_cons {den bd : Int} {l : List Int} {e : Int} {i : Nat} (h : i < l.length) : grdS den bd (l.drop i) e = match pickS den bd (l.drop (i + 1)) (rd l i) e (chs den (rd l i)) with
    | some n => n :: grdS den bd (l.drop (i + 1)) (e + den * n - rd l i)
    | none => grdS den bd (l.drop (i + 1)) e := by
  rw [drop_cons h]
  rfl
/-- spec.BestRunning. -/
def spec_BestRunning.f (k : Nat) (a0_0 : Int) (l0_1 : List Int) : Option (List Int × Int × Bool) := (spec_l01Is.f k a0_0 l0_1).bind fun t => if t = true then (if okW a0_0 l0_1 then some (grdS a0_0 (lstS a0_0 l0_1 0) l0_1 0, lstS a0_0 l0_1 0, true) else none) else some ([], 0, false)
theorem spec_BestRunning.mono : ∀ a0 a1 k, LeO (spec_BestRunning.f k a0 a1) (spec_BestRunning.f (k + 1) a0 a1) := by
  intro a0 a1 k
  unfold spec_BestRunning.f
  exact LeO.bind (spec_l01Is.mono _ _ _) (fun _ => LeO.refl _)
theorem least.calls0 {w0 : World} {g1 M : Nat} {den : Int} {l : List Int} {A : Option Addr} {c : Nat} (hr : Kd.C (Kd.int .i64) w0 A l.length l) (hc : l.length ≤ c) (H : VOk den l) (S : Nat → List (Int × Int)) (W : World) (hs : MSt w0 g1 M den l A c S W) :
    Calls Try.prog 36 #[.pointer (some ⟨g1, 0, none⟩), .int .i64 0, .int .i64 0, .slice (some ⟨M, 0, none⟩) l.length l.length] W fun e' W' => LOut w0 g1 M den l A c S 0 0 W e' W' := least.calls hr hc H l.length 0 (by omega) 0 S W (by omega) hs
theorem MSt.start {w0 W : World} {g1 : Nat} {den : Int} {l : List Int} {A : Option Addr} {c : Nat} (hv : W.heap[g1]? = some (.cells #[.int .i64 den, .slice A l.length c] 28 (0, 0))) (hB : Below w0.heap.size w0 W) :
    MSt w0 g1 W.heap.size den l A c (fun _ => []) (W.alloc (.cells (madeCells #[.slice none 0 0] l.length) 52)) := by
  have hs : (madeCells #[Value.slice none 0 0] l.length).toList.length = l.length := by rw [Array.length_toList, size_madeCells]
  have hz : ∀ i (h : i < (madeCells #[Value.slice none 0 0] l.length).toList.length), (madeCells #[Value.slice none 0 0] l.length).toList[i] = .slice none 0 0 := fun i h => by simp [madeCells, Nat.mod_one]
  refine ⟨blk_alloc hv _, below_alloc hB _, hB.size, ⟨_, ?_, hs, fun i hi => ?_, fun i j hi hj hij b hb => ?_⟩, fun i _ => ⟨fun s h => by simp at h, by simp⟩⟩
  · rw [Array.toArray_toList]; exact blk_new W _
  · rw [hz]; exact ⟨rfl, .inl ⟨rfl, rfl⟩⟩
  · rw [hz] at hb; simp [Value.ownBlock] at hb
theorem Frm.R {M : Nat} {W W' : World} {base : Nat} {ok : Nat → Prop} {v : Value} {xs : List Int} (h : Kd.R (Kd.int .i64) 2 W base ok v xs) (hf : Frm M W W') (hM : ∀ k, ok k → k ≠ M) : Kd.R (Kd.int .i64) 2 W' base ok v xs :=
  Kd.R_mono (Kd.R_move (Kd.R_bound h) (fun k hk => by
    obtain ⟨h1, _, _, q, hq, cells, hc⟩ := hk
    have hq2 : q = 2 := by
      rcases List.mem_cons.1 hq with h | h
      · exact h
      · cases h
    subst hq2
    rw [hc]
    exact hf.2 _ _ _ hc (by decide) (hM k h1))) (fun _ hk => hk.1)
theorem MSt.grown {w0 W W' : World} {g1 M : Nat} {den : Int} {l : List Int} {A : Option Addr} {c : Nat} {S : Nat → List (Int × Int)} (h : MSt w0 g1 M den l A c S W) {v : Value} {xs : List Int} {ok : Nat → Prop} {base : Nat} (hR : Kd.R (Kd.int .i64) 2 W base ok v xs) (hok : ∀ k, ok k → k ≠ g1 ∧ k ≠ M) (hg : W.grownBy W' v.ownBlock) (hb : Below w0.heap.size w0 W') : MSt w0 g1 M den l A c S W' := by
  obtain ⟨ms, h1, h2, h3, h4⟩ := h.r
  obtain ⟨hne, inner, ho, _⟩ := hR
  exact ⟨blk_grown h.v hg (fun z => (hok _ (hne _ z.symm)).1 rfl), hb, h.o, ⟨ms, blk_grown h1 hg (fun z => (hok _ (hne _ z.symm)).2 rfl), h2, fun i hi => own_other (h3 i hi) hg (own_type_ne (h3 i hi) ho (by decide)), h4⟩, h.s⟩
theorem MSt.lt {w0 W : World} {g1 M : Nat} {den : Int} {l : List Int} {A : Option Addr} {c : Nat} {S : Nat → List (Int × Int)} (h : MSt w0 g1 M den l A c S W) : g1 < W.heap.size ∧ M < W.heap.size := by
  obtain ⟨ms, h1, _⟩ := h.r
  exact ⟨blk_lt h.v, blk_lt h1⟩
theorem Best.info52 : (Try.prog.info? 52).map (fun i => (i.zero, i.size, i.bytes)) = some (some (.slice none 0 0), 1, 24) := by kernel_rfl
set_option maxHeartbeats 8000000 in
set_option maxRecDepth 100000 in
theorem spec_BestRunning.calls (k : Nat) (a0_0 : Int) (A0_1 : Option Addr) (c0_1 : Nat) (l0_1 : List Int) (r1 : List Int) (r2 : Int) (r3 : Bool) (w : World) (hr0_1 : Kd.C (Kd.int .i64) w A0_1 l0_1.length l0_1) (hc0_1 : l0_1.length ≤ c0_1) (h : spec_BestRunning.f k a0_0 l0_1 = some (r1, r2, r3)) :
    Calls Try.prog 11 #[.agg #[.int .i64 a0_0, .slice A0_1 l0_1.length c0_1]] w fun e w' => ∃ v0_ : Value, e = .returned (.tuple #[v0_, .int .i64 r2, .bool r3]) ∧ Kd.R (Kd.int .i64) 2 w' w.heap.size (fun _ => True) v0_ r1 ∧ Below w.heap.size w w' := by
  unfold spec_BestRunning.f at h
  replace h := Option.bind_eq_some_iff.1 h
  obtain ⟨t, A1, h⟩ := h
  have HA := Aside0.mk A1
  have HR := Aside0.mk hr0_1
  have HC := Aside0.mk hc0_1
  have HB := Aside0.mk (below_alloc (Below.refl w.heap.size w) (.cells #[.int .i64 a0_0, .slice A0_1 l0_1.length c0_1] 28))
  have HK := Aside0.mk (blk_new w (.cells #[.int .i64 a0_0, .slice A0_1 l0_1.length c0_1] 28))
  clear A1 hr0_1 hc0_1
  by_cases c1 : t = true
  · subst c1
    rw [if_pos rfl] at h
    by_cases c2 : okW a0_0 l0_1
    · rw [if_pos c2] at h
      obtain ⟨rfl, h2⟩ := Prod.mk.inj (Option.some.inj h)
      obtain ⟨rfl, rfl⟩ := Prod.mk.inj h2
      have HV : Aside0 (VOk a0_0 l0_1) := ⟨⟨c2.1, c2.2.1, c2.2.2⟩⟩
      have hln := c2.2.1
      have hdn := c2.1
      clear h c2
      obtain ⟨bd, hbd⟩ : ∃ b, lstS a0_0 l0_1 0 = b := ⟨_, rfl⟩
      rw [hbd]
      have HBD := Aside0.mk hbd
      clear hbd
      have hmk := print_make_of (P := Try.prog) 59 52 (.slice none 0 0) 24 rfl Best.info52 rfl (by decide) l0_1.length (by omega)
      go_enter Try.func11, Try.ntmps11
      go_wp2_with (first | (go_at_call 30; refine (spec_l01Is.calls k w.heap.size a0_0 A0_1 c0_1 l0_1 _ _ HK.out (Kd.C_below HR.out HB.out) HC.out HA.out).mono ?_; rintro e w2 ⟨rfl, hb⟩; have HB3 := Aside0.mk (below_step HB.out hb); have HK3 := Aside0.mk (blk_below HK.out hb); have hv0 : w2.cell? ⟨w.heap.size, 0, none⟩ = some (.int .i64 a0_0) := (blk_cell HK3.out 0).trans rfl; have hv1 : w2.cell? ⟨w.heap.size, 1, none⟩ = some (.slice A0_1 l0_1.length c0_1) := (blk_cell HK3.out 1).trans rfl; clear hb) | (go_at_call 36; refine (least.calls0 HR.out HC.out HV.out (fun _ => []) _ (MSt.start HK3.out HB3.out)).mono ?_; rintro e w4 ⟨he4, hs4, hf4⟩; rw [List.drop_zero, HBD.out] at he4; subst he4; obtain ⟨S0, hS0, _⟩ := hs4; have HS4 := Aside0.mk hS0; clear hS0 hf4 hv0 hv1))
      have hbase : w.heap.size ≤ w4.heap.size := HS4.out.B.size
      have HO5 := Aside0.mk (new_R w4 [] rfl (by decide) (base := w.heap.size) hbase (ok := (fun k => k ≠ w.heap.size ∧ k ≠ w2.heap.size)) ⟨by have := HS4.out.lt; omega, by have := HS4.out.lt; omega⟩)
      have HS5 := Aside0.mk (HS4.out.below (below_alloc (Below.refl _ _) (.cells #[] 2)))
      clear hbase hmk
      go_loopg [7, 8, 9] l0_1.length (fun kq v7 v8 v9 wr => ∃ (i : Nat) (e : Int) (out : List Int) (S : Nat → List (Int × Int)), v9 = .int .i64 i ∧ v8 = .int .i64 e ∧ Aside0 (kq + i = l0_1.length) ∧ Aside0 (-(1000 * (i : Int)) ≤ e ∧ e ≤ 1000 * (i : Int)) ∧ Aside0 (out ++ grdS a0_0 bd (l0_1.drop i) e = grdS a0_0 bd l0_1 0) ∧ Aside0 (out.length ≤ i) ∧ Aside0 (Kd.R (Kd.int .i64) 2 wr w.heap.size (fun k => k ≠ w.heap.size ∧ k ≠ w2.heap.size) v7 out) ∧ Aside0 (MSt w w.heap.size w2.heap.size a0_0 l0_1 A0_1 c0_1 S wr))
      case atStart => exact ⟨0, 0, [], S0, rfl, rfl, ⟨rfl⟩, ⟨by omega⟩, ⟨by simp⟩, ⟨Nat.le_refl _⟩, HO5, HS5⟩
      case round =>
        obtain ⟨i, e, out, S, rfl, rfl, hkq, he, hgr, hol, HOi, HSi⟩ := hrel
        have hkq' := hkq.out
        have he' := he.out
        have hv0 : wr.cell? ⟨w.heap.size, 0, none⟩ = some (.int .i64 a0_0) := (blk_cell HSi.out.v 0).trans rfl
        have hv1 : wr.cell? ⟨w.heap.size, 1, none⟩ = some (.slice A0_1 l0_1.length c0_1) := (blk_cell HSi.out.v 1).trans rfl
        by_cases hi : i < l0_1.length
        · have hil : (i : Int) < (l0_1.length : Int) := by omega
          obtain ⟨kq, rfl⟩ : ∃ n, gk = n + 1 := ⟨gk - 1, by omega⟩
          have hx := HV.out.rd hi
          have hcl := (chs_len a0_0 (rd l0_1 i)).2
          have hch := Aside0.mk (l03ChoicesR HV.out.d hi hx)
          have HI : Aside0 (∀ (e : Int) (S : Nat → List (Int × Int)) (W : World), (-(1000 * ((i : Int) + 1)) ≤ e ∧ e ≤ 1000 * ((i : Int) + 1)) → MSt w w.heap.size w2.heap.size a0_0 l0_1 A0_1 c0_1 S W → Calls Try.prog 36 #[.pointer (some ⟨w.heap.size, 0, none⟩), .int .i64 ((i : Int) + 1), .int .i64 e, .slice (some ⟨w2.heap.size, 0, none⟩) l0_1.length l0_1.length] W fun e' W' => LOut w w.heap.size w2.heap.size a0_0 l0_1 A0_1 c0_1 S (i + 1) e W e' W') := ⟨fun e S W he hs => least.calls HR.out HC.out HV.out (l0_1.length - (i + 1)) (i + 1) (by omega) e S W (by omega) hs⟩
          have hol' := hol.out
          have hw9 : wrap64 ((i : Int) + 1) = (i : Int) + 1 := B.w64 (by omega) (by omega)
          go_wp2_with (go_at_call 31; refine (spec_l03Choices.calls w.heap.size a0_0 A0_1 c0_1 l0_1 (i : Int) (chs a0_0 (rd l0_1 i)) _ HSi.out.v (Kd.C_below HR.out HSi.out.B) HC.out hch.out).mono ?_; rintro e1 W1 ⟨vc, rfl, hRc, hbc⟩; obtain ⟨Ac, cc, ρ, cur, rfl, hrowc, hρ, _⟩ := rowAt_of_R hRc (g1 := w.heap.size) (Nat.lt_of_lt_of_le (blk_lt HSi.out.v) hbc.size); have HS1 := Aside0.mk (HSi.out.below hbc); have HO1 := Aside0.mk (Kd.R_below HOi.out hbc); have HRow := Aside0.mk hrowc; clear hRc hbc hrowc hv0 hv1)
          go_loopg [7, 8, 11] (chs a0_0 (rd l0_1 i)).length (fun kp v7 v8 v11 wr => ∃ (j : Nat) (S' : Nat → List (Int × Int)), v11 = .int .i64 j ∧ v8 = .int .i64 e ∧ Aside0 (kp + j = (chs a0_0 (rd l0_1 i)).length) ∧ Aside0 (pickS a0_0 bd (l0_1.drop (i + 1)) (rd l0_1 i) e (chs a0_0 (rd l0_1 i)) = pickS a0_0 bd (l0_1.drop (i + 1)) (rd l0_1 i) e ((chs a0_0 (rd l0_1 i)).drop j)) ∧ Aside0 (Kd.R (Kd.int .i64) 2 wr w.heap.size (fun k => k ≠ w.heap.size ∧ k ≠ w2.heap.size) v7 out) ∧ Aside0 (MSt w w.heap.size w2.heap.size a0_0 l0_1 A0_1 c0_1 S' wr) ∧ Aside0 (RowAt wr Ac ρ cur (chs a0_0 (rd l0_1 i))))
          case atStart => exact ⟨0, S, rfl, rfl, ⟨rfl⟩, ⟨rfl⟩, HO1, HS1, HRow⟩
          case round =>
            obtain ⟨j, S', rfl, rfl, hkp, hpk, HOj, HSj, HRj⟩ := hrel
            have hkp' := hkp.out
            have hv0 : wr.cell? ⟨w.heap.size, 0, none⟩ = some (.int .i64 a0_0) := (blk_cell HSj.out.v 0).trans rfl
            have hv1 : wr.cell? ⟨w.heap.size, 1, none⟩ = some (.slice A0_1 l0_1.length c0_1) := (blk_cell HSj.out.v 1).trans rfl
            have hgc := Aside0.mk (grdS_cons (den := a0_0) (bd := bd) (e := e) hi)
            by_cases hj : j < (chs a0_0 (rd l0_1 i)).length
            · have hjl : (j : Int) < ((chs a0_0 (rd l0_1 i)).length : Int) := by omega
              obtain ⟨kp, rfl⟩ : ∃ n, gk = n + 1 := ⟨gk - 1, by omega⟩
              obtain ⟨ea, hh, hcu⟩ := HRj.out j hj
              subst ea
              have hcell : wr.cell? ⟨ρ, j, none⟩ = some (.int .i64 (rd (chs a0_0 (rd l0_1 i)) j)) := (blk_cell hh j).trans hcu
              have hρM : Aside0 (ρ ≠ w2.heap.size) := ⟨by
                obtain ⟨ms, h1, _⟩ := HSj.out.r
                exact blk_ne hh h1 (by decide)⟩
              have hmem := B.rd_mem hj
              have hnin := chs_in hdn.1 hx _ hmem
              have hmul := mul_small hdn hnin
              have herr := chs_err hdn hmem
              have hdrop := Aside0.mk (pickS_drop (den := a0_0) (bd := bd) (xs := l0_1.drop (i + 1)) (x := rd l0_1 i) (e := e) hj)
              obtain ⟨ad, ea, hx0⟩ := Kd.at_int HR.out i (by omega) (by omega)
              cases ea
              have hx0' : wr.cell? (ad.add i) = some (.int .i64 (rd l0_1 i)) := (HSj.out.B.cell (World.block_lt_of_cell? w _ hx0)).trans hx0
              have hp := eq_true (show (0 : Int) ≤ (i : Int) by omega)
              have hq := eq_true (show (i : Int) < (l0_1.length : Int) by omega)
              clear hx0 hcu hmem
              obtain ⟨nj, hnj⟩ : ∃ n, n = rd (chs a0_0 (rd l0_1 i)) j := ⟨_, rfl⟩
              rw [← hnj] at hcell hnin hmul herr
              have HNJ := Aside0.mk hnj
              clear hnj
              obtain ⟨xi, hxi⟩ : ∃ x, x = rd l0_1 i := ⟨_, rfl⟩
              have hxx := hx
              rw [← hxi] at hxx hx0' herr
              have HXI := Aside0.mk hxi
              clear hxi
              have hnx : -(1000 * ((i : Int) + 1)) ≤ e + a0_0 * nj - xi ∧ e + a0_0 * nj - xi ≤ 1000 * ((i : Int) + 1) := by omega
              obtain ⟨V1, hV1⟩ : ∃ v, v = max (e + a0_0 * nj - xi) (-(e + a0_0 * nj - xi)) := ⟨_, rfl⟩
              have H1 : Aside0 (spec_l00Max.f (e + a0_0 * nj - xi) (-(e + a0_0 * nj - xi)) = some V1) := ⟨by rw [l00MaxR, hV1]⟩
              have HV1 := Aside0.mk hV1
              clear hV1
              obtain ⟨LV, hLV⟩ : ∃ v, lstS a0_0 (l0_1.drop (i + 1)) (e + a0_0 * nj - xi) = v := ⟨_, rfl⟩
              have hLV := Aside0.mk hLV
              have HH := Aside0.mk hh
              clear hh
              go_wp2
              go_quiet (fail)
              have hnz : -41000 ≤ e + a0_0 * nj - xi ∧ e + a0_0 * nj - xi ≤ 41000 := by omega
              have HCL := Aside0.mk hcl
              clear hnin hmul herr hxx hx hcl hp hq
              all_goals
                by_cases hT : V1 ≤ bd
                · by_cases hP : LV ≤ bd
                  · have hpick : Aside0 (pickS a0_0 bd (l0_1.drop (i + 1)) (rd l0_1 i) e (chs a0_0 (rd l0_1 i)) = some nj) := ⟨by rw [hpk.out, hdrop.out, ← HNJ.out, ← HXI.out, if_pos ⟨by rw [← HV1.out]; exact hT, by rw [hLV.out]; exact hP⟩]⟩
                    go_wp2_with (first | (go_at_call 37; refine (spec_l00Max.calls (e + a0_0 * nj - xi) (-(e + a0_0 * nj - xi)) V1 _ H1.out).mono ?_; rintro e1 w1 ⟨rfl, ⟨nd, rfl⟩⟩) | (go_at_call 36; refine (HI.out (e + a0_0 * nj - xi) S' _ hnx (HSj.out.below (by repeat (first | exact Below.refl _ _ | apply pw_below_drewN | apply below_drew)))).mono ?_; rintro e1 W2 ⟨he1, hs2, hf2⟩; rw [hLV.out] at he1; subst he1; obtain ⟨S2, hS2, _⟩ := hs2; have HS2 := Aside0.mk hS2; have HF2 := Aside0.mk (Frm.trans (Frm.below (M := w2.heap.size) (pw_below_drewN (Below.refl _ _) _)) hf2); have HO2 := Aside0.mk (Frm.R HOj.out HF2.out (fun k hk => hk.2)); have hcell2 : W2.cell? ⟨ρ, j, none⟩ = some (.int .i64 nj) := (by rw [HNJ.out]; exact (blk_cell (Frm.row HRj.out HF2.out (fun _ => hρM.out) j hj).2.1 j).trans (Frm.row HRj.out HF2.out (fun _ => hρM.out) j hj).2.2); clear hS2 hf2 hv0 hv1 hcell hx0') | (at_builtin; refine Kd.R_append_row (Value.int .i64) (0 : Int) (h1 := fun _ => rfl) (w0 := w) w.heap.size rfl (.tmp 67) (.tmp 72) 22 2 (.int .i64 0) 8 rfl Try.underlying22 Best.info2 rfl (by decide) u7 out [nj] (some ⟨W2.heap.size, 0, none⟩) 1 1 (fun k => k ≠ w.heap.size ∧ k ≠ w2.heap.size) rfl rfl (fun k hk => by have h1 := HS2.out.lt; rw [World.size_alloc] at hk; exact ⟨by omega, by omega⟩) (Kd.R_alloc HO2.out _) (new_C W2 [nj] rfl (by decide)) (below_alloc HS2.out.B _) (by rw [World.size_alloc]; exact Nat.le_succ_of_le HS2.out.B.size) (by omega) ?_; intro v1 w1 hR1 hB1 hg3 hat))
                    go_roundg kq
                    case measure => omega
                    case rel => exact ⟨i + 1, e + a0_0 * nj - xi, out ++ [nj], S2, by simp, rfl, ⟨by omega⟩, ⟨by have := hnx; omega⟩, ⟨by rw [← hgr.out, hgc.out, hpick.out, List.append_assoc, HXI.out]; rfl⟩, ⟨by rw [List.length_append, List.length_singleton]; omega⟩, ⟨hR1⟩, ⟨(HS2.out.below (below_alloc (Below.refl _ _) _)).grown (Kd.R_alloc HO2.out _) (fun k hk => hk) hg3 hB1⟩⟩
                  · have hpick : Aside0 (pickS a0_0 bd (l0_1.drop (i + 1)) (rd l0_1 i) e (chs a0_0 (rd l0_1 i)) = pickS a0_0 bd (l0_1.drop (i + 1)) (rd l0_1 i) e ((chs a0_0 (rd l0_1 i)).drop (j + 1))) := ⟨by rw [hpk.out, hdrop.out, ← HNJ.out, ← HXI.out, if_neg (fun z => hP (by rw [← hLV.out]; exact z.2))]⟩
                    go_wp2_with (first | (go_at_call 37; refine (spec_l00Max.calls (e + a0_0 * nj - xi) (-(e + a0_0 * nj - xi)) V1 _ H1.out).mono ?_; rintro e1 w1 ⟨rfl, ⟨nd, rfl⟩⟩) | (go_at_call 36; refine (HI.out (e + a0_0 * nj - xi) S' _ hnx (HSj.out.below (by repeat (first | exact Below.refl _ _ | apply pw_below_drewN | apply below_drew)))).mono ?_; rintro e1 W2 ⟨he1, hs2, hf2⟩; rw [hLV.out] at he1; subst he1; obtain ⟨S2, hS2, _⟩ := hs2; have HS2 := Aside0.mk hS2; have HF2 := Aside0.mk (Frm.trans (Frm.below (M := w2.heap.size) (pw_below_drewN (Below.refl _ _) _)) hf2); have HO2 := Aside0.mk (Frm.R HOj.out HF2.out (fun k hk => hk.2)); have hcell2 : W2.cell? ⟨ρ, j, none⟩ = some (.int .i64 nj) := (by rw [HNJ.out]; exact (blk_cell (Frm.row HRj.out HF2.out (fun _ => hρM.out) j hj).2.1 j).trans (Frm.row HRj.out HF2.out (fun _ => hρM.out) j hj).2.2); clear hS2 hf2 hv0 hv1 hcell hx0'))
                    go_roundg kp
                    case measure => omega
                    case rel => exact ⟨j + 1, S2, by have := HCL.out; simp; exact B.w64 (by omega) (by omega), rfl, ⟨by have := hkp.out; omega⟩, hpick, HO2, HS2, ⟨Frm.row HRj.out HF2.out (fun _ => hρM.out)⟩⟩
                · have hpick : Aside0 (pickS a0_0 bd (l0_1.drop (i + 1)) (rd l0_1 i) e (chs a0_0 (rd l0_1 i)) = pickS a0_0 bd (l0_1.drop (i + 1)) (rd l0_1 i) e ((chs a0_0 (rd l0_1 i)).drop (j + 1))) := ⟨by rw [hpk.out, hdrop.out, ← HNJ.out, ← HXI.out, if_neg (fun z => hT (by rw [HV1.out]; exact z.1))]⟩
                  go_wp2_with (go_at_call 37; refine (spec_l00Max.calls (e + a0_0 * nj - xi) (-(e + a0_0 * nj - xi)) V1 _ H1.out).mono ?_; rintro e1 w1 ⟨rfl, ⟨nd, rfl⟩⟩)
                  go_roundg kp
                  case measure => omega
                  case rel => exact ⟨j + 1, S', by have := HCL.out; simp; exact B.w64 (by omega) (by omega), rfl, ⟨by have := hkp.out; omega⟩, hpick, ⟨Kd.R_drewN HOj.out _⟩, ⟨HSj.out.below (pw_below_drewN (Below.refl _ _) _)⟩, ⟨RowAt.below HRj.out (pw_below_drewN (Below.refl _ _) _)⟩⟩
            · have hjL : j = (chs a0_0 (rd l0_1 i)).length := by omega
              have hpn : Aside0 (pickS a0_0 bd (l0_1.drop (i + 1)) (rd l0_1 i) e (chs a0_0 (rd l0_1 i)) = none) := ⟨by rw [hpk.out, hjL, List.drop_length]; rfl⟩
              clear hjL
              go_wp2
              go_roundg kq
              case measure => omega
              case rel => exact ⟨i + 1, e, out, S', by simp, rfl, ⟨by omega⟩, ⟨by omega⟩, ⟨by rw [← hgr.out, hgc.out, hpn.out]⟩, ⟨by omega⟩, HOj, HSj⟩
        · have hfin : Aside0 (Kd.R (Kd.int .i64) 2 wr w.heap.size (fun k => k ≠ w.heap.size ∧ k ≠ w2.heap.size) u7 (grdS a0_0 bd l0_1 0)) := ⟨by
            have h1 := hgr.out
            rw [List.drop_of_length_le (by omega)] at h1
            have h2 : out = grdS a0_0 bd l0_1 0 := by rw [← h1]; simp [grdS]
            rw [← h2]; exact HOi.out⟩
          go_wp2
          go_ret3
          exact ⟨_, rfl, Kd.R_mono hfin.out (fun _ _ => trivial), HSi.out.B⟩
    · rw [if_neg c2] at h
      cases h
  · rw [if_neg c1] at h
    obtain ⟨rfl, h2⟩ := Prod.mk.inj (Option.some.inj h)
    obtain ⟨rfl, rfl⟩ := Prod.mk.inj h2
    obtain rfl : t = false := by simpa using c1
    clear h c1
    go_enter Try.func11, Try.ntmps11
    go_wp2_with (go_at_call 30; refine (spec_l01Is.calls k w.heap.size a0_0 A0_1 c0_1 l0_1 _ _ HK.out (Kd.C_below HR.out HB.out) HC.out HA.out).mono ?_; rintro e w2 ⟨rfl, hb⟩; have HB3 := Aside0.mk (below_step HB.out hb); have HK3 := Aside0.mk (blk_below HK.out hb); have hv0 : w2.cell? ⟨w.heap.size, 0, none⟩ = some (.int .i64 a0_0) := (blk_cell HK3.out 0).trans rfl; have hv1 : w2.cell? ⟨w.heap.size, 1, none⟩ = some (.slice A0_1 l0_1.length c0_1) := (blk_cell HK3.out 1).trans rfl; clear hb)
    go_ret3
    exact ⟨_, rfl, Kd.R_nil _ _ _ _ _, HB3.out⟩
end Go.Proofs.Ytanflefkbbhimaa.P
