import Derived.Test.YtanflefkbbhimaaXQ3FnRunning
import Derived.Test.YtanflefkbbhimaaXQ1FnRunning
import Derived.Test.YtanflefkbbhimaaXP2FnRunning
import Derived.Test.YtanflefkbbhimaaXP4FnRunning
import Derived.Test.YtanflefkbbhimaaXP5FnRunning
import Derived.Test.YtanflefkbbhimaaXP8FnRunning
namespace Go.Proofs.Ytanflefkbbhimaa.Q
open Go.RowKit Go.Proofs.YtanflefkbbhimaaW.PrintWords Go.Proofs.YtanflefkbbhimaaW.PrintLast Go.Proofs.Ytanflefkbbhimaa.P Go.Proofs.Ytanflefkbbhimaa.B
set_option linter.unusedVariables false
set_option linter.unusedSimpArgs false
abbrev i64 (a : Int) : Prop := -9223372036854775808 ≤ a ∧ a ≤ 9223372036854775807
theorem vv_sum {den : Int} {l : List Int} (h : vv den l = true) : l.length ≤ 1000000 ∧ ∀ x ∈ l, -1000000000000 ≤ x ∧ x ≤ 1000000000000 := by
  have h := vv_iff.1 h
  exact ⟨by omega, fun x hx => by have := h.2.2 x hx; omega⟩
theorem take_sum_in {l : List Int} {M : Int} (hM : 0 ≤ M) (h : ∀ x ∈ l, -M ≤ x ∧ x ≤ M) (n : Nat) : -(l.length * M) ≤ (l.take n).sum ∧ (l.take n).sum ≤ l.length * M := by
  have h1 := sumS (l.take n) 0 M (fun x hx => h x (List.mem_of_mem_take hx)) hM
  have h2 : ((l.take n).length : Int) ≤ l.length := by rw [List.length_take]; omega
  have h3 := Int.mul_le_mul_of_nonneg_right h2 hM
  omega
theorem vv_take {den : Int} {l : List Int} (h : vv den l = true) (n : Nat) : -40000000 ≤ (l.take n).sum ∧ (l.take n).sum ≤ 40000000 := by
  have h := vv_iff.1 h
  have := take_sum_in (M := 1000000) (by omega) h.2.2 n
  omega
theorem take_snoc {l : List Int} {n : Nat} (h : n < l.length) : l.take (n + 1) = l.take n ++ [l[n]] := by
  rw [List.take_add_one, List.getElem?_eq_getElem h, Option.toList_some]
theorem first_bad {α : Type} {l : List α} {p : α → Bool} (h : ¬ l.all p = true) : ∃ j, ∃ h : j < l.length, p l[j] = false := by
  apply Classical.byContradiction; intro hc
  refine h (List.all_eq_true.2 fun x hx => ?_)
  obtain ⟨j, hj, rfl⟩ := List.getElem_of_mem hx
  cases hp : p l[j]
  · exact absurd ⟨j, hj, hp⟩ hc
  · rfl
theorem loopAll {α ρ : Type} {l : List α} {m : Nat} (hm : l.length = m) {F : Nat → Int → Option ρ} (p : α → Bool) (T E : Option ρ)
    (hD : ∀ k, F (k + 1) (m : Int) = T)
    (hS : ∀ k (n : Nat) (h : n < l.length), F (k + 1) (n : Int) = if p l[n] = true then F k ((n + 1 : Nat) : Int) else E)
    {k : Nat} (hk : m < k) : F k 0 = if l.all p = true then T else E := by
  subst hm
  by_cases h : l.all p = true
  · rw [if_pos h]
    exact loopI0 (m := l.length) (F := fun k i (_ : Unit) => F k i) (fun _ _ => True) (fun r => r = T) (fun k s _ => hD k)
      (fun k n s hn _ => .inl ⟨(), trivial, by rw [hS k n hn, if_pos (List.all_eq_true.1 h _ (List.getElem_mem hn))]⟩) hk (s := ()) trivial
  · rw [if_neg h]
    obtain ⟨j, hj, hx⟩ := first_bad h
    refine loopI0 (m := l.length) (F := fun k i (_ : Unit) => F k i) (fun n _ => n ≤ j) (fun r => r = E) (fun k s hi => by omega) ?_ hk (s := ()) (by omega)
    intro k n s hn hi
    rw [hS k n hn]
    by_cases hb : p l[n] = true
    · refine .inl ⟨(), ?_, by rw [if_pos hb]⟩
      rcases Nat.lt_or_ge n j with h | h
      · omega
      · obtain rfl : n = j := by omega
        rw [hx] at hb; exact absurd hb (by simp)
    · exact .inr (by rw [if_neg hb])
def pf (f : Int → Int) : Int → List Int → List Int
  | _, [] => []
  | s, x :: xs => (f (s + x) - f s) :: pf f (s + x) xs
theorem pf_pd (f : Int → Int) : ∀ (l : List Int) (s : Int), pf f s l = pd f (f s) (ps s l)
  | [], _ => rfl
  | x :: xs, s => by simp only [pf, ps, pd]; rw [pf_pd f xs]
theorem pf_length (f : Int → Int) (l : List Int) (s : Int) : (pf f s l).length = l.length := by rw [pf_pd, pd_length, ps_length]
theorem ps_get : ∀ (l : List Int) (s : Int) (n : Nat) (h : n < l.length), (ps s l)[n]'(by rw [ps_length]; exact h) = s + (l.take (n + 1)).sum
  | x :: xs, s, 0, _ => by simp [ps]
  | x :: xs, s, n + 1, h => by
    simp only [ps, List.getElem_cons_succ]
    rw [ps_get xs (s + x) n (by simpa using h)]
    simp only [List.take_succ_cons, List.sum_cons]
    omega
theorem pf_get (f : Int → Int) : ∀ (l : List Int) (s : Int) (n : Nat) (h : n < l.length), (pf f s l)[n]'(by rw [pf_length]; exact h) = f (s + (l.take (n + 1)).sum) - f (s + (l.take n).sum)
  | x :: xs, s, 0, _ => by simp [pf]
  | x :: xs, s, n + 1, h => by
    simp only [pf, List.getElem_cons_succ]
    rw [pf_get f xs (s + x) n (by simpa using h)]
    simp only [List.take_succ_cons, List.sum_cons, Int.add_assoc]
def rnd (den : Int) (l list : List Int) : Bool := (list.zip l).all fun p => decide (p.1 = p.2 / den) || decide (p.1 = cl p.2 den)
def RunningErrors_res (den : Int) (l list : List Int) : List Int × Bool := if vv den l = true ∧ list.length = l.length ∧ allIn list (-1000000) 1000000 = true then (ps 0 (ers den l list), true) else ([], false)
theorem running_oke {den : Int} {l list : List Int} (h : vv den l = true) (h2 : list.length = l.length) (h3 : allIn list (-1000000) 1000000 = true) : oke den l list := oke_of h h2 fun x hx => by have := allIn_iff.1 h3 x hx; omega
theorem specRunning_eq {den : Int} {l list : List Int} (h : vv den l = true) (h2 : list.length = l.length) {k : Nat} (hk : list.length + 100 < k) : Zap.l0 k list 0 den l = if allIn list (-1000000) 1000000 = true then some (ps 0 (ers den l list), true) else some ([], false) := by
  have hv := (vv_iff.1 h).2.1
  by_cases h3 : allIn list (-1000000) 1000000 = true
  · rw [if_pos h3]
    have h1 := loopI (m := list.length) (F := fun k i (_ : Unit) => Zap.l0 (k + 50) list i den l) (fun _ _ => True) (fun r => r = some (ps 0 (ers den l list), true))
      (fun k s _ => by
        obtain ⟨m, hm⟩ : ∃ m, m = k + 50 := ⟨_, rfl⟩
        show Zap.l0 (k + 1 + 50) list _ den l = _
        rw [show k + 1 + 50 = m + 1 by omega]
        simp only [Zap.l0]
        rw [if_neg (by omega), l03Running_eq (running_oke h h2 h3) (by omega)]
        rfl)
      (fun k n s hn _ => by
        refine .inl ⟨(), trivial, ?_⟩
        obtain ⟨m, hm⟩ : ∃ m, m = k + 50 := ⟨_, rfl⟩
        show Zap.l0 (k + 1 + 50) list _ den l = Zap.l0 (k + 50) list _ den l
        rw [show k + 1 + 50 = m + 1 by omega, ← hm]
        simp only [Zap.l0]
        rw [if_pos (by omega), if_pos (by omega), rd_nat hn, l00In_eq, Option.bind_some, if_pos (decide_eq_true (allIn_iff.1 h3 _ (List.getElem_mem hn))), wrap_nat (by omega)])
      list.length 0 (k - 50) () (by omega) (by omega) (by omega) trivial
    rw [show k = (k - 50) + 50 by omega]
    exact h1
  · rw [if_neg h3]
    obtain ⟨j, hj, hx⟩ : ∃ j, ∃ h : j < list.length, ¬ (-1000000 ≤ list[j] ∧ list[j] ≤ 1000000) := by
      apply Classical.byContradiction; intro hc
      refine h3 (allIn_iff.2 fun x hx => Classical.byContradiction fun hb => hc ?_)
      obtain ⟨j, hj, rfl⟩ := List.getElem_of_mem hx
      exact ⟨j, hj, hb⟩
    refine loopI0 (m := list.length) (F := fun k i (_ : Unit) => Zap.l0 k list i den l) (fun n _ => n ≤ j) (fun r => r = some ([], false)) (fun k s hi => by omega) ?_ (k := k) (s := ()) (by omega) (by omega)
    intro k n s hn hi
    simp only [Zap.l0]
    rw [if_pos (by omega), if_pos (by omega), rd_nat hn, l00In_eq, Option.bind_some]
    by_cases hb : -1000000 ≤ list[n] ∧ list[n] ≤ 1000000
    · refine .inl ⟨(), ?_, ?_⟩
      · rcases Nat.lt_or_ge n j with h | h
        · omega
        · obtain rfl : n = j := by omega
          exact absurd hb hx
      · rw [if_pos (decide_eq_true hb), wrap_nat (by omega)]
    · exact .inr (by rw [if_neg (by simp only [decide_eq_true_eq]; exact hb)])
theorem RunningErrors_spec {den : Int} {l list : List Int} (_ : i64 den) (_ : ∀ x ∈ l, i64 x) (_ : ∀ x ∈ list, i64 x) (hl : l.length ≤ 1048576) (hl2 : list.length ≤ 1048576) {k : Nat} (hk : l.length + list.length + 200 < k) : Zap.f k den l list = some (RunningErrors_res den l list) := by
  obtain ⟨k, rfl, _⟩ := succ_of_lt hk
  unfold Zap.f RunningErrors_res
  rw [l01Is_eq (by omega) den (by omega), Option.bind_some]
  by_cases h : vv den l = true
  · rw [if_pos h]
    simp only [Zap.j0]
    by_cases h2 : list.length = l.length
    · rw [if_neg (by simp [h2]), specRunning_eq h h2 (by omega)]
      by_cases h3 : allIn list (-1000000) 1000000 = true
      · rw [if_pos h3, if_pos ⟨h, h2, h3⟩]
      · rw [if_neg h3, if_neg (by simp [h3])]
    · rw [if_pos (by simp only [bne_iff_ne]; omega), if_neg (by simp [h2])]
  · rw [if_neg h, if_neg (by simp [h])]
    simp only [Zap.j0]
    rw [if_pos trivial]
theorem RunningErrors_impl {den : Int} {l list : List Int} (_ : i64 den) (_ : ∀ x ∈ l, i64 x) (_ : ∀ x ∈ list, i64 x) (hl : l.length ≤ 1048576) (hl2 : list.length ≤ 1048576) {k : Nat} (hk : l.length + list.length + 200 < k) : Zav.f k den l list = some (RunningErrors_res den l list) := by
  obtain ⟨k, rfl, _⟩ := succ_of_lt hk
  unfold Zav.f RunningErrors_res
  rw [validValues_eq (by omega) den (by omega), Option.bind_some]
  by_cases h : vv den l = true
  · rw [if_pos h]
    have hv := (vv_iff.1 h).2.1
    by_cases h2 : list.length = l.length
    · rw [if_pos (by omega), areWithin_eq (by omega) _ _ (by omega), Option.bind_some]
      simp only [Zav.j0]
      by_cases h3 : allIn list (-1000000) 1000000 = true
      · have hin := ers_in (M := 1000000) (L := 1000000000) (running_oke h h2 h3).1 (by omega) (running_oke h h2 h3).2.2.2.1 (running_oke h h2 h3).2.2.2.2
        rw [if_neg (by simp [h3]), if_pos ⟨h, h2, h3⟩, errors_eq (running_oke h h2 h3) (by omega), Option.bind_some, running_eq (by rw [ers_length h2]; omega) (fun x hx => by have := hin x hx; have := (vv_iff.1 h).1; simp only [ers, List.mem_map] at hx; obtain ⟨⟨a, b⟩, hp, rfl⟩ := hx; have ha := allIn_iff.1 h3 a (List.of_mem_zip hp).1; have hb := (vv_iff.1 h).2.2 b (List.of_mem_zip hp).2; have := mul_in (a := den) (b := a) (A := 1000) (B := 1000000) (by omega) ha (by omega); simp only; omega) (by rw [ers_length h2]; omega)]; rfl
      · rw [if_pos (by simp [h3]), if_neg (by simp [h3])]
    · rw [if_neg (by omega), if_neg (by simp [h2])]
      simp only [Zav.j0]
      rw [if_pos trivial]
  · rw [if_neg h, if_neg (by simp [h])]
    simp only [Zav.j0]
    rw [if_pos trivial]
def PrefixFloors_res (den : Int) (l : List Int) : List Int × Bool := if vv den l = true then (pf (· / den) 0 l, true) else ([], false)
theorem PrefixFloors_impl {den : Int} {l : List Int} (_ : i64 den) (_ : ∀ x ∈ l, i64 x) (hl : l.length ≤ 1048576) {k : Nat} (hk : l.length + 200 < k) : impl_PrefixFloors.f k den l = some (PrefixFloors_res den l) := by
  unfold impl_PrefixFloors.f Za2.f PrefixFloors_res
  rw [validValues_eq (by omega) den (by omega), Option.bind_some]
  by_cases h : vv den l = true
  · rw [if_pos h, if_pos h, running_eq (vv_sum h).1 (vv_sum h).2 (by omega), Option.bind_some]
    have hv := vv_iff.1 h
    rw [show Za2.l0 k [] 0 (ps 0 l) (((ps 0 l).length : Nat) : Int) 0 den l = some (pf (· / den) 0 l, true) from ?_]
    · rfl
    rw [ps_length]
    refine loopI0 (m := l.length) (F := fun k i (s : List Int × Int) => Za2.l0 k s.1 s.2 (ps 0 l) (l.length : Int) i den l) (fun n s => s = ((pf (· / den) 0 l).take n, (l.take n).sum / den)) (fun r => r = some (pf (· / den) 0 l, true)) ?_ ?_ (k := k) (s := ([], 0)) (by omega) (by simp)
    · rintro k s rfl
      simp only [Za2.l0]
      rw [if_neg (by omega), List.take_of_length_le (by rw [pf_length]; omega)]
    · rintro k n s hn rfl
      have hf : n < (pf (· / den) 0 l).length := by rw [pf_length]; exact hn
      have hp : n < (ps 0 l).length := by rw [ps_length]; exact hn
      have b0 := vv_take h n
      have b1 := vv_take h (n + 1)
      have hg := pf_get (· / den) l 0 n hn
      rw [Int.zero_add, Int.zero_add] at hg
      have hq := ps_get l 0 n hn
      rw [Int.zero_add] at hq
      have d0 := ediv_bounds (a := (l.take n).sum) hv.1.1 (M := 40000000) (by omega) (by omega) (by omega)
      have d1 := ediv_bounds (a := (l.take (n + 1)).sum) hv.1.1 (M := 40000000) (by omega) (by omega) (by omega)
      refine .inl ⟨_, rfl, ?_⟩
      simp only [Za2.l0]
      rw [if_pos (by omega), if_pos (by omega), if_pos (by omega), rd_nat hp, wrap_nat (by omega), hq, floor_eq hv.1.1 (by omega) (by omega), Option.bind_some,
        if_pos (by rw [List.length_take, pf_length]; omega), w64 (by omega) (by omega), take_snoc hf, hg]
  · rw [if_neg h, if_neg h]; rfl
def IsRounding_res (den : Int) (l list : List Int) : Bool := vv den l && (decide (list.length = l.length) && rnd den l list)
theorem IsRounding_impl {den : Int} {l list : List Int} (_ : i64 den) (_ : ∀ x ∈ l, i64 x) (_ : ∀ x ∈ list, i64 x) (hl : l.length ≤ 1048576) (hl2 : list.length ≤ 1048576) {k : Nat} (hk : l.length + list.length + 200 < k) : Zan.f k den l list = some (IsRounding_res den l list) := by
  obtain ⟨k, rfl, _⟩ := succ_of_lt hk
  unfold Zan.f IsRounding_res
  rw [validValues_eq (by omega) den (by omega), Option.bind_some]
  by_cases h : vv den l = true
  · rw [if_pos h, h, Bool.true_and]
    simp only [Zan.j0]
    by_cases h2 : list.length = l.length
    · have hz : (list.zip l).length = l.length := by rw [List.length_zip]; omega
      have hf := fls_length den l
      have hc := cls_length den l
      rw [if_neg (by simp [h2]), floors_eq (okd_vv h) (by omega), Option.bind_some, ceilings_eq (okd_vv h) (by omega), Option.bind_some, decide_eq_true h2, Bool.true_and,
       h2, loopAll hz (F := fun k i => Zan.l0 k (fls den l) (cls den l) list (l.length : Int) i) (fun p => decide (p.1 = p.2 / den) || decide (p.1 = cl p.2 den)) (some true) (some false) (fun k => by simp only [Zan.l0]; rw [if_neg (by omega)])
        (fun k n hn => by
          obtain ⟨g1, g2, e1, e2⟩ := zip_get1 hn
          have g3 : n < (fls den l).length := by omega
          have g4 : n < (cls den l).length := by omega
          have hf2 : (fls den l)[n] = l[n] / den := by simp [fls]
          have hc2 : (cls den l)[n] = cl l[n] den := by simp [cls]
          simp only [Zan.l0]
          rw [if_pos (by omega), if_pos (by omega), if_pos (by omega), if_pos (by omega), rd_nat g1, rd_nat g3, hf2, wrap_nat (by omega), e1, e2]
          by_cases c1 : list[n] = l[n] / den
          · rw [if_pos c1, if_pos (by simp [c1])]
          · rw [if_neg c1, if_pos (by omega), rd_nat g4, hc2]
            by_cases c2 : list[n] = cl l[n] den
            · rw [if_pos c2, if_pos (by simp [c2])]
            · rw [if_neg c2, if_neg (by simp [c1, c2])]) (by omega)]
      unfold rnd
      split
      · rename_i h; rw [h]
      · rename_i h; simp only [Bool.not_eq_true] at h; rw [h]
    · rw [if_pos (by simp only [bne_iff_ne]; omega), decide_eq_false h2]; rfl
  · rw [if_neg h]
    simp only [Zan.j0]
    rw [if_pos trivial]; simp only [Bool.not_eq_true] at h; rw [h]; rfl
end Go.Proofs.Ytanflefkbbhimaa.Q
