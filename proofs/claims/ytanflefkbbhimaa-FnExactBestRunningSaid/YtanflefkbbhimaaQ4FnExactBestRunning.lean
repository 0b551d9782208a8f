/- Exact functions of the program and of the reference, each told as one plain value. -/
import Derived.Test.YtanflefkbbhimaaQ3FnExactBestRunning
import Derived.Test.YtanflefkbbhimaaQVFnExactBestRunning

namespace Go.Proofs.Ytanflefkbbhimaa.Q
open Go.RowKit Go.Proofs.YtanflefkbbhimaaW.PrintWords Go.Proofs.YtanflefkbbhimaaW.PrintLast Go.Proofs.Ytanflefkbbhimaa.P Go.Proofs.Ytanflefkbbhimaa.B
set_option linter.unusedVariables false
set_option linter.unusedSimpArgs false

/-- Numbers of 64 bits. -/
abbrev i64 (a : Int) : Prop := -9223372036854775808 ≤ a ∧ a ≤ 9223372036854775807
theorem vv_sum {den : Int} {l : List Int} (h : vv den l = true) : l.length ≤ 1000000 ∧ ∀ x ∈ l, -1000000000000 ≤ x ∧ x ≤ 1000000000000 := by
  have h := vv_iff.1 h
  exact ⟨by omega, fun x hx => by have := h.2.2 x hx; omega⟩
theorem okd_sum {den : Int} {l : List Int} (h : okd den l) : (fls den l).length ≤ 1000000 ∧ (cls den l).length ≤ 1000000 ∧ (∀ x ∈ fls den l, -1000000000000 ≤ x ∧ x ≤ 1000000000000) ∧ (∀ x ∈ cls den l, -1000000000000 ≤ x ∧ x ≤ 1000000000000) :=
  ⟨by rw [fls_length]; exact h.2.2.1, by rw [cls_length]; exact h.2.2.1, fun x hx => by have := fls_in h x hx; omega, fun x hx => by have := cls_in h x hx; omega⟩
theorem rd_set {a : List Int} {b : Nat} (hb : b < a.length) (x : Int) (i : Nat) : rd (a.set b x) (i : Int) = if i = b then x else rd a i := by
  by_cases hi : i < a.length
  · rw [rd_nat (by simpa using hi), List.getElem_set]
    by_cases h : i = b
    · rw [if_pos h.symm, if_pos h]
    · rw [if_neg (fun h' => h h'.symm), if_neg h, rd_nat hi]
  · have h : i ≠ b := by omega
    rw [if_neg h]
    unfold rd
    simp only [Int.toNat_natCast]
    rw [List.getD_eq_getElem?_getD, List.getD_eq_getElem?_getD, List.getElem?_eq_none (by simp; omega), List.getElem?_eq_none (by omega)]
theorem sum_set : ∀ {a : List Int} {b : Nat} (hb : b < a.length) (x : Int), (a.set b x).sum = a.sum - a[b] + x
  | y :: ys, 0, _, x => by simp; omega
  | y :: ys, b + 1, h, x => by
    simp only [List.set_cons_succ, List.sum_cons, List.getElem_cons_succ]
    rw [sum_set (by simpa using h)]
    omega
theorem take_sum_succ {l : List Int} {n : Nat} (h : n < l.length) : (l.take (n + 1)).sum = (l.take n).sum + l[n] := by
  rw [List.take_add_one, List.getElem?_eq_getElem h, Option.toList_some, List.sum_append]; simp
theorem take_sum_in {l : List Int} {M : Int} (hM : 0 ≤ M) (h : ∀ x ∈ l, -M ≤ x ∧ x ≤ M) (n : Nat) : -(l.length * M) ≤ (l.take n).sum ∧ (l.take n).sum ≤ l.length * M := by
  have h1 := sumS (l.take n) 0 M (fun x hx => h x (List.mem_of_mem_take hx)) hM
  have h2 : ((l.take n).length : Int) ≤ l.length := by rw [List.length_take]; omega
  have h3 := Int.mul_le_mul_of_nonneg_right h2 hM
  omega
theorem vt_sum {l : List Int} (h : vt l = true) : 1 ≤ l.sum ∧ l.sum ≤ 12000000 := by
  have h := vt_iff.1 h
  have h1 := sumS l 0 1000000 (fun x hx => by have := h.2.1 x hx; omega) (by omega)
  omega
theorem vt_sums {l : List Int} (h : vt l = true) : l.length ≤ 1000000 ∧ ∀ x ∈ l, -1000000000000 ≤ x ∧ x ≤ 1000000000000 := by
  have h := vt_iff.1 h
  exact ⟨by omega, fun x hx => by have := h.2.1 x hx; omega⟩
theorem tdiv_up {a b : Int} (ha : 0 ≤ a) (hb : 1 ≤ b) : Int.tdiv (a + b - 1) b = cl a b := by
  rw [Int.tdiv_eq_ediv_of_nonneg (by omega)]
  have h1 := cl_mul (a := a) hb
  have h2 := ediv_mul_le (a := a + b - 1) hb
  generalize (a + b - 1) / b = q at h2 ⊢
  generalize cl a b = c at h1 ⊢
  have h3 : (q - c) * b = q * b - c * b := Int.sub_mul ..
  rcases Int.lt_trichotomy q c with h | h | h
  · have : (q - c) * b ≤ -1 * b := Int.mul_le_mul_of_nonneg_right (by omega) (by omega)
    omega
  · exact h
  · have : 1 * b ≤ (q - c) * b := Int.mul_le_mul_of_nonneg_right (by omega) (by omega)
    omega
theorem vv_take {den : Int} {l : List Int} (h : vv den l = true) (n : Nat) : -40000000 ≤ (l.take n).sum ∧ (l.take n).sum ≤ 40000000 := by
  have h := vv_iff.1 h
  have := take_sum_in (M := 1000000) (by omega) h.2.2 n
  omega
theorem take_snoc {l : List Int} {n : Nat} (h : n < l.length) : l.take (n + 1) = l.take n ++ [l[n]] := by
  rw [List.take_add_one, List.getElem?_eq_getElem h, Option.toList_some]
theorem first_bad {α : Type} {l : List α} {p : α → Bool} (h : ¬ l.all p = true) : ∃ j, ∃ h : j < l.length, p l[j] = false := by
  apply Classical.byContradiction; intro hc
  refine h (List.all_eq_true.2 fun x hx => ?_)
  obtain ⟨j, hj, rfl⟩ := List.getElem_of_mem hx
  cases hp : p l[j]
  · exact absurd ⟨j, hj, hp⟩ hc
  · rfl
/-- A loop that ends at the first that is not as asked. -/
theorem loopAll {α ρ : Type} {l : List α} {m : Nat} (hm : l.length = m) {F : Nat → Int → Option ρ} (p : α → Bool) (T E : Option ρ)
    (hD : ∀ k, F (k + 1) (m : Int) = T)
    (hS : ∀ k (n : Nat) (h : n < l.length), F (k + 1) (n : Int) = if p l[n] = true then F k ((n + 1 : Nat) : Int) else E)
    {k : Nat} (hk : m < k) : F k 0 = if l.all p = true then T else E := by
  subst hm
  by_cases h : l.all p = true
  · rw [if_pos h]
    exact loopI0 (m := l.length) (F := fun k i (_ : Unit) => F k i) (fun _ _ => True) (fun r => r = T) (fun k s _ => hD k)
      (fun k n s hn _ => .inl ⟨(), trivial, by rw [hS k n hn, if_pos (List.all_eq_true.1 h _ (List.getElem_mem hn))]⟩) hk (s := ()) trivial
  · rw [if_neg h]
    obtain ⟨j, hj, hx⟩ := first_bad h
    refine loopI0 (m := l.length) (F := fun k i (_ : Unit) => F k i) (fun n _ => n ≤ j) (fun r => r = E) (fun k s hi => by omega) ?_ hk (s := ()) (by omega)
    intro k n s hn hi
    rw [hS k n hn]
    by_cases hb : p l[n] = true
    · refine .inl ⟨(), ?_, by rw [if_pos hb]⟩
      rcases Nat.lt_or_ge n j with h | h
      · omega
      · obtain rfl : n = j := by omega
        rw [hx] at hb; exact absurd hb (by simp)
    · exact .inr (by rw [if_neg hb])
/-- What rounds of differences of rounded running sums come to. -/
def pf (f : Int → Int) : Int → List Int → List Int
  | _, [] => []
  | s, x :: xs => (f (s + x) - f s) :: pf f (s + x) xs
theorem pf_pd (f : Int → Int) : ∀ (l : List Int) (s : Int), pf f s l = pd f (f s) (ps s l)
  | [], _ => rfl
  | x :: xs, s => by simp only [pf, ps, pd]; rw [pf_pd f xs]
theorem pf_length (f : Int → Int) (l : List Int) (s : Int) : (pf f s l).length = l.length := by rw [pf_pd, pd_length, ps_length]
theorem ps_get : ∀ (l : List Int) (s : Int) (n : Nat) (h : n < l.length), (ps s l)[n]'(by rw [ps_length]; exact h) = s + (l.take (n + 1)).sum
  | x :: xs, s, 0, _ => by simp [ps]
  | x :: xs, s, n + 1, h => by
    simp only [ps, List.getElem_cons_succ]
    rw [ps_get xs (s + x) n (by simpa using h)]
    simp only [List.take_succ_cons, List.sum_cons]
    omega
theorem pf_get (f : Int → Int) : ∀ (l : List Int) (s : Int) (n : Nat) (h : n < l.length), (pf f s l)[n]'(by rw [pf_length]; exact h) = f (s + (l.take (n + 1)).sum) - f (s + (l.take n).sum)
  | x :: xs, s, 0, _ => by simp [pf]
  | x :: xs, s, n + 1, h => by
    simp only [pf, List.getElem_cons_succ]
    rw [pf_get f xs (s + x) n (by simpa using h)]
    simp only [List.take_succ_cons, List.sum_cons, Int.add_assoc]
/-- A list is a rounding of the values. -/
def rnd (den : Int) (l list : List Int) : Bool := (list.zip l).all fun p => decide (p.1 = p.2 / den) || decide (p.1 = cl p.2 den)
def SumOf_res (den : Int) (l : List Int) : Int × Bool := if vv den l = true then (l.sum, true) else (0, false)
def CeilingsOf_res (den : Int) (l : List Int) : List Int × Bool := if vv den l = true then (cls den l, true) else ([], false)
theorem CeilingsOf_len (den : Int) (l : List Int) : (CeilingsOf_res den l).1.length ≤ 100 := by
  unfold CeilingsOf_res
  split
  · rename_i h; rw [cls_length]; have := (vv_iff.1 h).2.1; omega
  · simp
def ErrorsOf_res (den : Int) (l list : List Int) : List Int × Bool := if vv den l = true ∧ list.length = l.length ∧ ll list = true then (ers den l list, true) else ([], false)
theorem ErrorsOf_len (den : Int) (l list : List Int) : (ErrorsOf_res den l list).1.length ≤ 100 := by
  unfold ErrorsOf_res
  split
  · rename_i h; rw [ers_length h.2.1]; have := (vv_iff.1 h.1).2.1; omega
  · simp
def RunningErrors_res (den : Int) (l list : List Int) : List Int × Bool := if vv den l = true ∧ list.length = l.length ∧ allIn list (-1000000) 1000000 = true then (ps 0 (ers den l list), true) else ([], false)
theorem running_oke {den : Int} {l list : List Int} (h : vv den l = true) (h2 : list.length = l.length) (h3 : allIn list (-1000000) 1000000 = true) : oke den l list := oke_of h h2 fun x hx => by have := allIn_iff.1 h3 x hx; omega
theorem RunningErrors_len (den : Int) (l list : List Int) : (RunningErrors_res den l list).1.length ≤ 100 := by
  unfold RunningErrors_res
  split
  · rename_i h; rw [ps_length, ers_length h.2.1]; have := (vv_iff.1 h.1).2.1; omega
  · simp
def SumBounds_res (den : Int) (l : List Int) : Int × Int × Bool := if vv den l = true then ((fls den l).sum, (cls den l).sum, true) else (0, 0, false)
theorem okd_quotas {l : List Int} (h : vt l = true) {a : Int} (ha : 0 ≤ a ∧ a ≤ 100) : okd l.sum (l.map (a * ·)) := by
  have hs := vt_sum h
  have hv := vt_iff.1 h
  refine ⟨hs.1, by omega, by rw [List.length_map]; omega, fun x hx => ?_⟩
  rw [List.mem_map] at hx
  obtain ⟨y, hy, rfl⟩ := hx
  have := hv.2.1 y hy
  have hm := mul_in (a := a) (b := y) (A := 100) (B := 1000000) ha (by omega) (by omega)
  omega
def QuotasOf_res (l : List Int) (a : Int) : List Int × List Int × Bool := if vt l = true ∧ 0 ≤ a ∧ a ≤ 100 then (fls l.sum (l.map (a * ·)), cls l.sum (l.map (a * ·)), true) else ([], [], false)
theorem QuotasOf_len (l : List Int) (a : Int) : (QuotasOf_res l a).1.length ≤ 100 ∧ (QuotasOf_res l a).2.1.length ≤ 100 := by
  unfold QuotasOf_res
  split
  · rename_i h; have := (vt_iff.1 h.1).1; simp only [fls_length, cls_length, List.length_map]; omega
  · simp
def PrefixFloors_res (den : Int) (l : List Int) : List Int × Bool := if vv den l = true then (pf (· / den) 0 l, true) else ([], false)
theorem PrefixFloors_len (den : Int) (l : List Int) : (PrefixFloors_res den l).1.length ≤ 100 := by
  unfold PrefixFloors_res
  split
  · rename_i h; rw [pf_length]; have := (vv_iff.1 h).2.1; omega
  · simp
def IsRounding_res (den : Int) (l list : List Int) : Bool := vv den l && (decide (list.length = l.length) && rnd den l list)
end Go.Proofs.Ytanflefkbbhimaa.Q
