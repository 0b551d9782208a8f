/- More exact functions of the program and of the reference, each told as one plain value. -/
import Derived.Test.YtanflefkbbhimaaQ4FnExactBestRunning

namespace Go.Proofs.Ytanflefkbbhimaa.Q
open Go.RowKit Go.Proofs.YtanflefkbbhimaaW.PrintWords Go.Proofs.YtanflefkbbhimaaW.PrintLast Go.Proofs.Ytanflefkbbhimaa.P Go.Proofs.Ytanflefkbbhimaa.B
set_option linter.unusedVariables false
set_option linter.unusedSimpArgs false

def NearestOf_res (den : Int) (l : List Int) : List Int × Bool := if vv den l = true then (nrs den l, true) else ([], false)
theorem NearestOf_len (den : Int) (l : List Int) : (NearestOf_res den l).1.length ≤ 100 := by
  unfold NearestOf_res
  split
  · rename_i h; rw [nrs_length]; have := (vv_iff.1 h).2.1; omega
  · simp
theorem nr_zero {den : Int} (h : 1 ≤ den) : nr 0 den = 0 := by
  unfold nr
  rw [Int.zero_ediv, if_neg (by omega), if_neg (by omega)]
theorem nr_bounds {a b : Int} (hb : 1 ≤ b) {M : Int} (hM : 0 ≤ M) (h1 : -M ≤ a) (h2 : a ≤ M) : -M ≤ nr a b ∧ nr a b ≤ M + 1 := by
  have h := ediv_bounds hb hM h1 h2
  rcases nr_cases a b with h' | h' <;> omega
def PrefixNearest_res (den : Int) (l : List Int) : List Int × Bool := if vv den l = true then (pf (nr · den) 0 l, true) else ([], false)
theorem PrefixNearest_len (den : Int) (l : List Int) : (PrefixNearest_res den l).1.length ≤ 100 := by
  unfold PrefixNearest_res
  split
  · rename_i h; rw [pf_length]; have := (vv_iff.1 h).2.1; omega
  · simp
/-- A list are seats for votes. -/
def sl (votes list : List Int) : Bool := decide (list.length = votes.length) && (allIn list 0 100 && decide (list.sum ≤ 100))
theorem sl_iff {votes list : List Int} : sl votes list = true ↔ list.length = votes.length ∧ (∀ x ∈ list, 0 ≤ x ∧ x ≤ 100) ∧ list.sum ≤ 100 := by
  simp only [sl, Bool.and_eq_true, decide_eq_true_eq, allIn_iff]
/-- The indices below a bound where numbers are not between two others. -/
def oq (lo hi l : List Int) (n : Nat) : List Int := ((List.range n).filter fun (i : Nat) => decide (rd l (i : Int) < rd lo (i : Int)) || decide (rd l (i : Int) > rd hi (i : Int))).map Int.ofNat
theorem oq_length (lo hi l : List Int) (n : Nat) : (oq lo hi l n).length ≤ n := by
  unfold oq
  rw [List.length_map]
  have := List.length_filter_le (fun (i : Nat) => decide (rd l (i : Int) < rd lo (i : Int)) || decide (rd l (i : Int) > rd hi (i : Int))) (List.range n)
  rw [List.length_range] at this
  exact this
theorem oq_succ (lo hi l : List Int) (n : Nat) : oq lo hi l (n + 1) = if rd l n < rd lo n ∨ rd l n > rd hi n then oq lo hi l n ++ [(n : Int)] else oq lo hi l n := by
  unfold oq
  rw [List.range_succ, List.filter_append, List.map_append]
  by_cases h : rd l n < rd lo n ∨ rd l n > rd hi n
  · rw [if_pos h]
    simp only [List.filter_cons, List.filter_nil]
    rw [if_pos (by simpa using h)]
    rfl
  · rw [if_neg h]
    simp only [List.filter_cons, List.filter_nil]
    rw [if_neg (by simpa using h)]
    simp
def OutsideQuotas_res (votes list : List Int) : List Int × Bool := if vt votes = true ∧ sl votes list = true then (oq (fls votes.sum (votes.map (list.sum * ·))) (cls votes.sum (votes.map (list.sum * ·))) list list.length, true) else ([], false)
theorem sl_sum {votes list : List Int} (h : sl votes list = true) : 0 ≤ list.sum ∧ list.sum ≤ 100 := by
  have h := sl_iff.1 h
  exact ⟨sum_nonneg fun x hx => (h.2.1 x hx).1, h.2.2⟩
theorem sl_sums {votes list : List Int} (hv : vt votes = true) (h : sl votes list = true) : list.length ≤ 1000000 ∧ ∀ x ∈ list, -1000000000000 ≤ x ∧ x ≤ 1000000000000 := by
  have h := sl_iff.1 h
  have hv := vt_iff.1 hv
  exact ⟨by omega, fun x hx => by have := h.2.1 x hx; omega⟩
theorem OutsideQuotas_len (votes list : List Int) : (OutsideQuotas_res votes list).1.length ≤ 100 := by
  unfold OutsideQuotas_res
  split
  · rename_i h
    have h1 := vt_iff.1 h.1
    have h2 := sl_iff.1 h.2
    exact Nat.le_trans (oq_length ..) (by omega)
  · simp
/-- Errors of roundings are small. -/
theorem rnd_get {den : Int} {l list : List Int} (hd : 1 ≤ den) (hl : list.length = l.length) (h : rnd den l list = true) : ∀ e ∈ ers den l list, -den < e ∧ e < den := by
  intro e he
  simp only [ers, List.mem_map] at he
  obtain ⟨⟨a, b⟩, hp, rfl⟩ := he
  have h1 := List.all_eq_true.1 h (a, b) hp
  simp only [Bool.or_eq_true, decide_eq_true_eq] at h1
  have h2 := ediv_mul_le (a := b) hd
  have h3 := cl_mul (a := b) hd
  simp only
  rw [Int.mul_comm]
  rcases h1 with rfl | rfl <;> omega
theorem rnd_in {den : Int} {l list : List Int} (h : okd den l) (hl : list.length = l.length) (hr : rnd den l list = true) {M : Int} (hM : 0 ≤ M) (hb : ∀ x ∈ l, -M ≤ x ∧ x ≤ M) : ∀ x ∈ list, -M ≤ x ∧ x ≤ M := by
  intro x hx
  obtain ⟨n, hn, rfl⟩ := List.getElem_of_mem hx
  have hz : n < (list.zip l).length := by rw [List.length_zip]; omega
  have h1 := List.all_eq_true.1 hr _ (List.getElem_mem hz)
  obtain ⟨g1, g2, e1, e2⟩ := zip_get1 hz
  rw [e1, e2] at h1
  simp only [Bool.or_eq_true, decide_eq_true_eq] at h1
  have h2 := hb _ (List.getElem_mem g2)
  rcases h1 with h1 | h1 <;> rw [h1]
  · exact ediv_bounds h.1 hM h2.1 h2.2
  · exact cl_bounds h.1 hM h2.1 h2.2
theorem rnd_oke {den : Int} {l list : List Int} (h : vv den l = true) (hl : list.length = l.length) (hr : rnd den l list = true) : oke den l list :=
  oke_of h hl fun x hx => by have := rnd_in (okd_vv h) hl hr (M := 1000000) (by omega) (vv_iff.1 h).2.2 x hx; omega
def IsRunning_res (den : Int) (l list : List Int) : Bool := IsRounding_res den l list && allIn (ps 0 (ers den l list)) (1 - den) (den - 1)
theorem IsRounding_iff {den : Int} {l list : List Int} : IsRounding_res den l list = true ↔ vv den l = true ∧ list.length = l.length ∧ rnd den l list = true := by
  simp only [IsRounding_res, Bool.and_eq_true, decide_eq_true_eq]
/-- The norm of errors, one more error. -/
def nf (a : Int) (s e : Int) : Int := if a = 0 then s + (e.natAbs : Int) else if a = 1 then s + e * e else max s (e.natAbs : Int)
def nrm (a : Int) (es : List Int) : Int := es.foldl (nf a) 0
theorem nrm_succ (a : Int) {es : List Int} {n : Nat} (h : n < es.length) : nrm a (es.take (n + 1)) = nf a (nrm a (es.take n)) es[n] := by
  unfold nrm
  rw [take_snoc h, List.foldl_append]; rfl
theorem nf_in {a s e M : Int} (hs : 0 ≤ s ∧ s ≤ M) (he : -1000 ≤ e ∧ e ≤ 1000) : 0 ≤ nf a s e ∧ nf a s e ≤ M + 1000000 := by
  unfold nf
  have h1 : 0 ≤ e * e := by rcases Int.le_total 0 e with h | h; exact Int.mul_nonneg h h; exact Int.mul_nonneg_of_nonpos_of_nonpos h h
  have h2 : e * e ≤ 1000 * 1000 := by
    rcases Int.le_total 0 e with h | h
    · exact Int.mul_le_mul he.2 he.2 h (by omega)
    · have := Int.mul_le_mul (a := -e) (b := -e) (c := 1000) (d := 1000) (by omega) (by omega) (by omega) (by omega)
      rwa [Int.neg_mul_neg] at this
  split
  · omega
  · split <;> omega
theorem nrm_in {a : Int} {es : List Int} (h : ∀ e ∈ es, -1000 ≤ e ∧ e ≤ 1000) : ∀ n, n ≤ es.length → 0 ≤ nrm a (es.take n) ∧ nrm a (es.take n) ≤ n * 1000000
  | 0, _ => by simp [nrm]
  | n + 1, hn => by
    have h1 := nrm_in (a := a) h n (by omega)
    rw [nrm_succ a (by omega)]
    have h2 := nf_in (a := a) h1 (h _ (List.getElem_mem (show n < es.length by omega)))
    omega
theorem gr_nrm : ∀ (es : List Int) (s : Int), gr s es = es.foldl (nf 2) s
  | [], _ => rfl
  | e :: es, s => by
    simp only [gr, List.foldl_cons]
    rw [gr_nrm es]
    rfl
theorem mx_abs {e : Int} (h : -4611686018427387904 ≤ e ∧ e ≤ 4611686018427387904) : mx e (wrap64 (-e)) = (e.natAbs : Int) := by
  rw [w64 (by omega) (by omega), mx_eq]; omega
def ErrorOf_res (den : Int) (l list : List Int) (a : Int) : Int × Bool := if IsRounding_res den l list = true ∧ 0 ≤ a ∧ a ≤ 2 then (nrm a (ers den l list), true) else (0, false)
theorem rnd_small {den : Int} {l list : List Int} (h : vv den l = true) (hl : list.length = l.length) (hr : rnd den l list = true) : ∀ e ∈ ers den l list, -1000 ≤ e ∧ e ≤ 1000 := fun e he => by
  have h1 := rnd_get (vv_iff.1 h).1.1 hl hr e he
  have := (vv_iff.1 h).1
  omega
/-- Levels and what is left over, where the last one and the one before it count so many times. -/
def fd (den lo hi c d : Int) : List Int → List Int → Int → Int → List Int → List Int × List Int × Bool
  | lv, lf, _, _, [] => (lv, lf, true)
  | lv, lf, one, two, x :: xs =>
    if -1000000000 ≤ x + c * one + d * two - den * max lo (min hi (nr (x + c * one + d * two) den)) ∧ x + c * one + d * two - den * max lo (min hi (nr (x + c * one + d * two) den)) ≤ 1000000000 then
      fd den lo hi c d (lv ++ [max lo (min hi (nr (x + c * one + d * two) den))]) (lf ++ [x + c * one + d * two - den * max lo (min hi (nr (x + c * one + d * two) den))]) (x + c * one + d * two - den * max lo (min hi (nr (x + c * one + d * two) den))) one xs
    else ([], [], false)
theorem fd_length (den lo hi c d : Int) : ∀ (l lv lf : List Int) (one two : Int), (fd den lo hi c d lv lf one two l).1.length ≤ lv.length + l.length ∧ (fd den lo hi c d lv lf one two l).2.1.length ≤ lf.length + l.length
  | [], lv, lf, _, _ => by simp [fd]
  | x :: xs, lv, lf, one, two => by
    simp only [fd]
    split
    · have h := fd_length den lo hi c d xs (lv ++ [max lo (min hi (nr (x + c * one + d * two) den))]) (lf ++ [x + c * one + d * two - den * max lo (min hi (nr (x + c * one + d * two) den))]) (x + c * one + d * two - den * max lo (min hi (nr (x + c * one + d * two) den))) one
      simp only [List.length_append, List.length_cons, List.length_nil] at h ⊢
      omega
    · simp
theorem mn_eq (a b : Int) : mn a b = min a b := by unfold mn; omega
def fdok (den lo hi : Int) (l : List Int) : Prop := vv den l = true ∧ -1000 ≤ lo ∧ lo ≤ hi ∧ hi ≤ 1000
theorem lev_in {den lo hi x : Int} (h : -1000 ≤ lo ∧ lo ≤ hi ∧ hi ≤ 1000) (hd : 1 ≤ den ∧ den ≤ 1000) : -1000000 ≤ den * max lo (min hi x) ∧ den * max lo (min hi x) ≤ 1000000 := by
  have := mul_in (a := den) (b := max lo (min hi x)) (A := 1000) (B := 1000) (by omega) (by omega) (by omega)
  omega
def Feed_res (den : Int) (l : List Int) (lo hi c d : Int) : List Int × List Int × Bool := if vv den l = true ∧ -1000 ≤ lo ∧ lo ≤ hi ∧ hi ≤ 1000 then fd den lo hi c d [] [] 0 0 l else ([], [], false)
theorem Feed_len (den : Int) (l : List Int) (lo hi c d : Int) : (Feed_res den l lo hi c d).1.length ≤ 100 ∧ (Feed_res den l lo hi c d).2.1.length ≤ 100 := by
  unfold Feed_res
  split
  · rename_i h
    have := fd_length den lo hi c d l [] [] 0 0
    have h1 := (vv_iff.1 h.1).2.1
    simp only [List.length_nil] at this
    omega
  · simp
theorem two_in {a b : Int} : allIn [a, b] (-1000) 1000 = decide ((-1000 ≤ a ∧ a ≤ 1000) ∧ -1000 ≤ b ∧ b ≤ 1000) := by
  simp [allIn]
def FeedbackOf_res (den : Int) (l : List Int) (lo hi : Int) : List Int × List Int × Bool := Feed_res den l lo hi 1 0
def SecondOf_res (den : Int) (l : List Int) (lo hi : Int) : List Int × List Int × Bool := Feed_res den l lo hi 2 (-1)
theorem FeedbackOf_len (den : Int) (l : List Int) (lo hi : Int) : (FeedbackOf_res den l lo hi).1.length ≤ 100 ∧ (FeedbackOf_res den l lo hi).2.1.length ≤ 100 := Feed_len ..
theorem SecondOf_len (den : Int) (l : List Int) (lo hi : Int) : (SecondOf_res den l lo hi).1.length ≤ 100 ∧ (SecondOf_res den l lo hi).2.1.length ≤ 100 := Feed_len ..
end Go.Proofs.Ytanflefkbbhimaa.Q
