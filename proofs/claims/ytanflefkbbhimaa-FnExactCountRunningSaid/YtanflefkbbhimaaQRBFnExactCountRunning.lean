/- How many lists run with values: the specification's states and the program's ways. -/
import Derived.Test.YtanflefkbbhimaaQ4FnExactCountRunning
import Derived.Test.YtanflefkbbhimaaLB
import Derived.Test.YtanflefkbbhimaaP1
import Derived.Test.YtanflefkbbhimaaP2
namespace Go.Proofs.Ytanflefkbbhimaa.Q
open Go.RowKit Go.Proofs.YtanflefkbbhimaaW.PrintWords Go.Proofs.YtanflefkbbhimaaW.PrintLast Go.Proofs.Ytanflefkbbhimaa.P Go.Proofs.Ytanflefkbbhimaa.B
set_option linter.unusedVariables false
set_option linter.unusedSimpArgs false

theorem l03Choices_eq {den : Int} {l : List Int} {i : Nat} (hd : 1 ≤ den ∧ den ≤ 1000) (hi : i < l.length) (hx : -1000000 ≤ rd l i ∧ rd l i ≤ 1000000) : spec_l03Choices.f den l (i : Int) = some (chs den (rd l i)) := by
  unfold spec_l03Choices.f chs
  rw [if_pos (by omega), if_pos (by omega), l01Floor_eq hd.1 (by omega) (by omega) (by omega), Option.bind_some, l01Ceil_eq hd.1 (by omega) (by omega) (by omega), Option.bind_some]
  split <;> rfl
/-- The states' numbers, each times something that its sum tells. -/
def wt (h : Int → Int) (x : List S51) : Int := (x.map fun s => s.f1 * h s.f0).sum
theorem wt_nil (h : Int → Int) : wt h [] = 0 := rfl
theorem wt_cons (h : Int → Int) (a : S51) (x : List S51) : wt h (a :: x) = a.f1 * h a.f0 + wt h x := by unfold wt; rw [List.map_cons, List.sum_cons]
theorem wt_append (h : Int → Int) (x y : List S51) : wt h (x ++ y) = wt h x + wt h y := by unfold wt; rw [List.map_append, List.sum_append]
theorem wt_set (h : Int → Int) {x : List S51} {j : Nat} (hj : j < x.length) (v : S51) : wt h (x.set j v) = wt h x - x[j].f1 * h x[j].f0 + v.f1 * h v.f0 := by
  unfold wt
  rw [List.map_set, sum_set (by rw [List.length_map]; exact hj)]
  simp
theorem rdT_nat {x : List S51} {j : Nat} (hj : j < x.length) : rd_T51 x (j : Int) = x[j] := by
  unfold rd_T51
  rw [Int.toNat_natCast, List.getD_eq_getElem?_getD, List.getElem?_eq_getElem hj]
  rfl
/-- States as they may be. -/
def sok (x : List S51) : Prop := ∀ s ∈ x, 0 ≤ s.f1 ∧ -1000 ≤ s.f0 ∧ s.f0 ≤ 1000
theorem wt_le : ∀ {x : List S51}, sok x → ∀ s ∈ x, s.f1 ≤ wt (fun _ => 1) x
  | [], _, s, hs => by cases hs
  | a :: x, h, s, hs => by
    have e : wt (fun _ => 1) (a :: x) = a.f1 + wt (fun _ => 1) x := by simp [wt]
    have h0 := (h a List.mem_cons_self).1
    have hn : 0 ≤ wt (fun _ => 1) x := wt_nn (fun y hy => h y (List.mem_cons_of_mem _ hy))
    rw [e]
    rcases List.mem_cons.1 hs with rfl | hs
    · omega
    · have := wt_le (fun y hy => h y (List.mem_cons_of_mem _ hy)) s hs
      omega
where
  wt_nn : ∀ {x : List S51}, sok x → 0 ≤ wt (fun _ => 1) x
    | [], _ => by simp [wt]
    | a :: x, h => by
      have e : wt (fun _ => 1) (a :: x) = a.f1 + wt (fun _ => 1) x := by simp [wt]
      have h0 := (h a List.mem_cons_self).1
      have := wt_nn (x := x) (fun y hy => h y (List.mem_cons_of_mem _ hy))
      omega
theorem wt_nn {x : List S51} (h : sok x) : 0 ≤ wt (fun _ => 1) x := wt_le.wt_nn h
theorem sok_take {x : List S51} (h : sok x) (n : Nat) : sok (x.take n) := fun s hs => h s (List.mem_of_mem_take hs)
theorem wt_take (h : Int → Int) {x : List S51} {n : Nat} (hn : n < x.length) : wt h (x.take (n + 1)) = wt h (x.take n) + x[n].f1 * h x[n].f0 := by
  rw [List.take_succ_eq_append_getElem hn, wt_append]
  simp [wt]
theorem wt_take_le {x : List S51} (h : sok x) (n : Nat) : wt (fun _ => 1) (x.take n) ≤ wt (fun _ => 1) x := by
  have e : wt (fun _ => 1) x = wt (fun _ => 1) (x.take n) + wt (fun _ => 1) (x.drop n) := by rw [← wt_append, List.take_append_drop]
  have := wt_nn (x := x.drop n) (fun s hs => h s (List.mem_of_mem_drop hs))
  omega
/-- A number put to a sum. -/
theorem l03Put_eq {x : List S51} (hx : sok x) (hl : x.length ≤ 4000000000000) {s c : Int} (hs : -1000 ≤ s ∧ s ≤ 1000) (hc : 0 ≤ c) (hT : wt (fun _ => 1) x + c ≤ 4000000000000) {k : Nat} (hk : x.length < k) :
    ∃ y, spec_l03Put.f k x s c = some y ∧ sok y ∧ y.length ≤ x.length + 1 ∧ ∀ h, wt h y = wt h x + c * h s := by
  unfold spec_l03Put.f
  refine loopI0 (m := x.length) (F := fun k i (_ : Unit) => spec_l03Put.l0 k x s c i) (fun _ _ => True) (fun r => ∃ y, r = some y ∧ sok y ∧ y.length ≤ x.length + 1 ∧ ∀ h, wt h y = wt h x + c * h s) ?_ ?_ (k := k) (s := ()) hk trivial
  · intro k _ _
    simp only [spec_l03Put.l0]
    rw [if_neg (by omega), if_pos (by omega)]
    refine ⟨_, rfl, fun t ht => ?_, by rw [List.length_append]; exact Nat.le_refl _, fun h => ?_⟩
    · rcases List.mem_append.1 ht with ht | ht
      · exact hx t ht
      · rw [List.mem_singleton.1 ht]; exact ⟨hc, hs⟩
    · rw [wt_append]; simp [wt]
  · intro k j _ hj _
    simp only [spec_l03Put.l0]
    rw [if_pos (by omega), if_pos (by omega), rdT_nat hj, Int.toNat_natCast]
    have h1 := hx _ (List.getElem_mem hj)
    have h2 := wt_le hx _ (List.getElem_mem hj)
    by_cases e : x[j].f0 = s
    · rw [if_pos e, w64 (by omega) (by omega)]
      refine .inr ⟨_, rfl, fun t ht => ?_, by rw [List.length_set]; omega, fun h => ?_⟩
      · rcases List.mem_or_eq_of_mem_set ht with ht | rfl
        · exact hx t ht
        · exact ⟨by show 0 ≤ x[j].f1 + c; omega, h1.2⟩
      · rw [wt_set h hj]
        show _ - x[j].f1 * h x[j].f0 + (x[j].f1 + c) * h x[j].f0 = _
        rw [e, Int.add_mul]
        omega
    · rw [if_neg e, wrap_nat (by omega)]
      exact .inl ⟨(), trivial, rfl⟩
/-- What the choices from one on add for a state. -/
def tailS (den bd : Int) (xs : List Int) (x e : Int) (L : List Int) : Int := (L.map (cntT den bd xs x e)).sum
section
variable {den : Int} {l : List Int} {i : Nat}
set_option maxRecDepth 100000 in
theorem specCount_l2 (hd : 1 ≤ den ∧ den ≤ 1000) (hi : i < l.length) (hx : -1000000 ≤ rd l i ∧ rd l i ≤ 1000000) {x4 : List S51} (h4 : sok x4) (hM : wt (fun _ => 1) x4 ≤ 1099511627776) (hl4 : x4.length ≤ 1099511627776) {p : Nat} (hp : p < x4.length) {c : Nat} (hc : 3000000000000 ≤ c) {pend : Int}
    (hnext : ∀ y k, c ≤ k → sok y → wt (fun _ => 1) y ≤ 2 * wt (fun _ => 1) (x4.take (p + 1)) → y.length ≤ 2 * (p + 1) → spec_CountRunning.l1 k x4 (i : Int) y (chs den (rd l i)) ((p + 1 : Nat) : Int) den l = some (wt (cntW den (den - 1) (l.drop (i + 1))) y + pend, true)) :
    ∀ e j x6 k, j + e = (chs den (rd l i)).length → c + e + 2 ≤ k → sok x6 → wt (fun _ => 1) x6 ≤ 2 * wt (fun _ => 1) (x4.take p) + j * x4[p].f1 → x6.length ≤ 2 * p + j →
    spec_CountRunning.l2 k x4 (i : Int) x6 (chs den (rd l i)) (p : Int) (j : Int) den l = some (wt (cntW den (den - 1) (l.drop (i + 1))) x6 + x4[p].f1 * tailS den (den - 1) (l.drop (i + 1)) (rd l i) x4[p].f0 ((chs den (rd l i)).drop j) + pend, true) := by
  have hL := (chs_len den (rd l i)).2
  have hs := h4 _ (List.getElem_mem hp)
  have htk := wt_take (fun _ => 1) hp
  have htl := wt_take_le h4 (p + 1)
  have htn := wt_nn (sok_take h4 p)
  rw [Int.mul_one] at htk
  intro e
  induction e with
  | zero =>
    intro j x6 k hj hk h6 hT hl6
    obtain ⟨k, rfl, _⟩ := succ_of_lt (show c + 1 < k by omega)
    have hj2 : ((j : Int)) * x4[p].f1 ≤ 2 * x4[p].f1 := Int.mul_le_mul_of_nonneg_right (by omega) hs.1
    simp only [spec_CountRunning.l2]
    rw [if_neg (by omega), wrap_nat (by omega), hnext x6 k (by omega) h6 (by omega) (by omega), show (chs den (rd l i)).drop j = [] from List.drop_of_length_le (by omega)]
    simp [tailS]
  | succ e ih =>
    intro j x6 k hj hk h6 hT hl6
    obtain ⟨k, rfl, _⟩ := succ_of_lt (show c + 1 < k by omega)
    have hjl : j < (chs den (rd l i)).length := by omega
    have hnin := chs_in hd.1 hx (rd (chs den (rd l i)) j) (rd_mem hjl)
    have hmul := mul_small hd hnin
    have hj1 : ((j : Int)) * x4[p].f1 ≤ 1 * x4[p].f1 := Int.mul_le_mul_of_nonneg_right (by omega) hs.1
    have hjs : (((j + 1 : Nat) : Int)) * x4[p].f1 = j * x4[p].f1 + x4[p].f1 := by rw [Int.natCast_add, Int.add_mul]; simp
    have hdrop : tailS den (den - 1) (l.drop (i + 1)) (rd l i) x4[p].f0 ((chs den (rd l i)).drop j) = cntT den (den - 1) (l.drop (i + 1)) (rd l i) x4[p].f0 (rd (chs den (rd l i)) j) + tailS den (den - 1) (l.drop (i + 1)) (rd l i) x4[p].f0 ((chs den (rd l i)).drop (j + 1)) := by
      rw [List.drop_eq_getElem_cons hjl, ← rd_nat hjl]; simp [tailS]
    simp only [spec_CountRunning.l2]
    rw [if_pos (by omega), if_pos (by omega), if_pos (by omega), if_pos (by omega), if_pos (by omega), if_pos (by omega), rdT_nat hp, w64 (x := den * rd (chs den (rd l i)) j) (by omega) (by omega), w64 (x := x4[p].f0 + den * rd (chs den (rd l i)) j) (by omega) (by omega), w64 (x := x4[p].f0 + den * rd (chs den (rd l i)) j - rd l i) (by omega) (by omega), w64 (x := -den) (by omega) (by omega), wrap_nat (by omega)]
    have no : ¬ (-(den - 1) ≤ x4[p].f0 + den * rd (chs den (rd l i)) j - rd l i ∧ x4[p].f0 + den * rd (chs den (rd l i)) j - rd l i ≤ den - 1) → spec_CountRunning.l2 k x4 (i : Int) x6 (chs den (rd l i)) (p : Int) ((j + 1 : Nat) : Int) den l = some (wt (cntW den (den - 1) (l.drop (i + 1))) x6 + x4[p].f1 * tailS den (den - 1) (l.drop (i + 1)) (rd l i) x4[p].f0 ((chs den (rd l i)).drop j) + pend, true) := fun z => by
      have hz : cntT den (den - 1) (l.drop (i + 1)) (rd l i) x4[p].f0 (rd (chs den (rd l i)) j) = 0 := by unfold cntT; rw [if_neg z]
      rw [hdrop, hz, Int.zero_add]
      exact ih (j + 1) x6 k (by omega) (by omega) h6 (by omega) (by omega)
    by_cases c1 : x4[p].f0 + den * rd (chs den (rd l i)) j - rd l i > -den
    · rw [if_pos c1]
      by_cases c2 : x4[p].f0 + den * rd (chs den (rd l i)) j - rd l i < den
      · rw [if_pos c2]
        obtain ⟨y, hy, hy1, hy2, hy3⟩ := l03Put_eq h6 (by omega) (s := x4[p].f0 + den * rd (chs den (rd l i)) j - rd l i) (c := x4[p].f1) (by omega) hs.1 (by omega) (k := k) (by omega)
        have h1 := hy3 (fun _ => 1)
        rw [Int.mul_one] at h1
        have hz : cntT den (den - 1) (l.drop (i + 1)) (rd l i) x4[p].f0 (rd (chs den (rd l i)) j) = cntW den (den - 1) (l.drop (i + 1)) (x4[p].f0 + den * rd (chs den (rd l i)) j - rd l i) := by unfold cntT; rw [if_pos (by omega)]
        rw [hy, Option.bind_some, ih (j + 1) y k (by omega) (by omega) hy1 (by omega) (by omega), hy3, hdrop, hz, Int.mul_add]
        congr 2
        omega
      · rw [if_neg c2]
        exact no (fun z => by omega)
    · rw [if_neg c1]
      exact no (fun z => by omega)
set_option maxRecDepth 100000 in
theorem specCount_l1 (hd : 1 ≤ den ∧ den ≤ 1000) (hi : i < l.length) (hx : -1000000 ≤ rd l i ∧ rd l i ≤ 1000000) {x4 : List S51} (h4 : sok x4) (hM : wt (fun _ => 1) x4 ≤ 1099511627776) (hl4 : x4.length ≤ 1099511627776) (hln : l.length ≤ 1048576) {c : Nat} (hc : 3000000000000 ≤ c)
    (hnext : ∀ y k, c ≤ k → sok y → wt (fun _ => 1) y ≤ 2 * wt (fun _ => 1) x4 → y.length ≤ 2 * x4.length → spec_CountRunning.l0 k y ((i + 1 : Nat) : Int) den l = some (wt (cntW den (den - 1) (l.drop (i + 1))) y, true)) :
    ∀ e p x6 k, p + e = x4.length → c + 6 * e + 2 ≤ k → sok x6 → wt (fun _ => 1) x6 ≤ 2 * wt (fun _ => 1) (x4.take p) → x6.length ≤ 2 * p →
    spec_CountRunning.l1 k x4 (i : Int) x6 (chs den (rd l i)) (p : Int) den l = some (wt (cntW den (den - 1) (l.drop (i + 1))) x6 + wt (cntW den (den - 1) (l.drop i)) (x4.drop p), true) := by
  have hL := (chs_len den (rd l i)).2
  intro e
  induction e with
  | zero =>
    intro p x6 k hp hk h6 hT hl6
    obtain ⟨k, rfl, _⟩ := succ_of_lt (show c + 1 < k by omega)
    have := wt_take_le h4 p
    simp only [spec_CountRunning.l1]
    rw [if_neg (by omega), wrap_nat (by omega), hnext x6 k (by omega) h6 (by omega) (by omega), show x4.drop p = [] from List.drop_of_length_le (by omega), wt_nil, Int.add_zero]
  | succ e ih =>
    intro p x6 k hp hk h6 hT hl6
    obtain ⟨k, rfl, _⟩ := succ_of_lt (show c + 6 * e + 7 < k by omega)
    have hpl : p < x4.length := by omega
    simp only [spec_CountRunning.l1]
    rw [if_pos (by omega)]
    have h2 := specCount_l2 hd hi hx h4 hM hl4 hpl (c := c + 6 * e + 2) (by omega) (pend := wt (cntW den (den - 1) (l.drop i)) (x4.drop (p + 1))) (fun y k hk hy hyT hyl => ih (p + 1) y k (by omega) hk hy hyT hyl) (chs den (rd l i)).length 0 x6 k (by omega) (by omega) h6 (by simpa using hT) (by simpa using hl6)
    have e0 : ((0 : Nat) : Int) = 0 := rfl
    rw [e0] at h2
    rw [h2, List.drop_zero, List.drop_eq_getElem_cons hpl]
    have e1 : wt (cntW den (den - 1) (l.drop i)) (x4[p] :: x4.drop (p + 1)) = x4[p].f1 * cntW den (den - 1) (l.drop i) x4[p].f0 + wt (cntW den (den - 1) (l.drop i)) (x4.drop (p + 1)) := wt_cons _ _ _
    rw [e1, drop_cons hi, cntW_cons]
    unfold tailS
    rw [Int.add_assoc]
end
theorem pow_dbl (i : Nat) : 2 ^ (i + 1) = 2 * 2 ^ i := by rw [Nat.pow_succ]; omega
theorem pow_le40 {i : Nat} (h : i ≤ 40) : 2 ^ i ≤ 1099511627776 := Nat.pow_le_pow_right (n := 2) (by decide) h
set_option maxRecDepth 100000 in
theorem specCount_l3 {x : List S51} (hx : sok x) (hM : wt (fun _ => 1) x ≤ 2000000000000) (hl : x.length ≤ 2000000000000) {k : Nat} (hk : x.length < k) : spec_CountRunning.l3 k x 0 0 = some (wt (fun _ => 1) x, true) := by
  refine loopI0 (m := x.length) (F := fun k i (s : Int) => spec_CountRunning.l3 k x s i) (fun j s => s = wt (fun _ => 1) (x.take j)) (fun r => r = some (wt (fun _ => 1) x, true)) ?_ ?_ (k := k) hk rfl
  · rintro k s rfl
    simp only [spec_CountRunning.l3]
    rw [if_neg (by omega), List.take_length]
  · rintro k j s hj rfl
    have h1 := wt_take (fun _ => 1) hj
    have h2 := wt_take_le hx (j + 1)
    have h3 := wt_nn (sok_take hx (j + 1))
    rw [Int.mul_one] at h1
    simp only [spec_CountRunning.l3]
    rw [if_pos (by omega), if_pos (by omega), rdT_nat hj, w64 (by omega) (by omega), wrap_nat (by omega)]
    exact .inl ⟨_, h1.symm, rfl⟩
set_option maxRecDepth 100000 in
theorem specCount_l0 {den : Int} {l : List Int} (hv : vv den l = true) : ∀ d i x k, i + d = l.length → d * 10000000000000 + 4000000000000 ≤ k → sok x → wt (fun _ => 1) x ≤ ((2 ^ i : Nat) : Int) → x.length ≤ 2 ^ i →
    spec_CountRunning.l0 k x (i : Int) den l = some (wt (cntW den (den - 1) (l.drop i)) x, true) := by
  have h := vv_iff.1 hv
  intro d
  induction d with
  | zero =>
    intro i x k hi hk hx hT hl
    have hp := pow_le40 (i := i) (by omega)
    obtain ⟨k, rfl, _⟩ := succ_of_lt (show 3000000000000 < k by omega)
    simp only [spec_CountRunning.l0]
    rw [if_neg (by omega), specCount_l3 hx (by omega) (by omega) (by omega), List.drop_of_length_le (by omega)]
    rfl
  | succ d ih =>
    intro i x k hi hk hx hT hl
    have hp := pow_le40 (i := i) (by omega)
    have hp2 := pow_dbl i
    have hil : i < l.length := by omega
    obtain ⟨k, rfl, _⟩ := succ_of_lt (show 3000000000000 < k by omega)
    have hxi := h.2.2 _ (rd_mem hil)
    simp only [spec_CountRunning.l0]
    rw [if_pos (by omega), l03Choices_eq h.1 hil hxi, Option.bind_some]
    have := specCount_l1 h.1 hil hxi hx (by omega) (by omega) (by omega) (c := d * 10000000000000 + 4000000000000) (by omega) (fun y k hk hy hyT hyl => ih (i + 1) y k (by omega) hk hy (by omega) (by omega)) x.length 0 [] k (by omega) (by omega) (fun s hs => by cases hs) (by simp [wt]) (by simp)
    rw [wt_nil, Int.zero_add, List.drop_zero] at this
    exact this
/-- How many lists run with values. -/
def CountRunning_res (den : Int) (l : List Int) : Int × Bool := if vv den l = true then (cntW den (den - 1) l 0, true) else (0, false)
set_option maxRecDepth 100000 in
theorem CountRunning_spec {den : Int} {l : List Int} (hl : l.length ≤ 1048576) {k : Nat} (hk : 500000000000000 < k) : spec_CountRunning.f k den l = some (CountRunning_res den l) := by
  unfold spec_CountRunning.f CountRunning_res
  rw [l01Is_eq (by omega) den (by omega), Option.bind_some]
  by_cases c : vv den l = true
  · have h := vv_iff.1 c
    rw [if_pos c, if_pos c]
    have := specCount_l0 c l.length 0 [⟨0, 1⟩] k (by omega) (by omega) (fun s hs => by rw [List.mem_singleton.1 hs]; exact ⟨by decide, by decide, by decide⟩) (by simp [wt]) (by simp)
    rw [List.drop_zero] at this
    have e : wt (cntW den (den - 1) l) [⟨0, 1⟩] = cntW den (den - 1) l 0 := by simp [wt]
    rw [e] at this
    exact this
  · rw [if_neg c, if_neg c]
theorem CountRunning_impl {den : Int} {l : List Int} (hl : l.length ≤ 1048576) {k : Nat} (hk : 1048576 < k) : impl_CountRunning.f k den l = some (CountRunning_res den l) := by
  unfold impl_CountRunning.f CountRunning_res
  rw [validValues_eq (by omega) den (by omega), Option.bind_some]
  by_cases c : vv den l = true
  · rw [if_pos c, if_pos c, if_pos (show okW den l from vv_iff.1 c)]
  · rw [if_neg c, if_neg c]
end Go.Proofs.Ytanflefkbbhimaa.Q
