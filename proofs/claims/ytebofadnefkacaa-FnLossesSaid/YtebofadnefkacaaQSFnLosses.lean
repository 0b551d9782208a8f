/- Seats given one by one: what the program and the reference come to, and what holds of it. -/
import Derived.Test.YtebofadnefkacaaQWFnLosses

namespace Go.Proofs.Ytebofadnefkacaa.Q
open Go.RowKit Go.Proofs.YtebofadnefkacaaW.PrintWords Go.Proofs.YtebofadnefkacaaW.PrintLast Go.Proofs.Ytebofadnefkacaa.P Go.Proofs.Ytebofadnefkacaa.B
set_option linter.unusedVariables false
set_option linter.unusedSimpArgs false

/-- The two parts of a worth. -/
def cc (m v : Int) : Int := if m = 0 then v else if m = 1 then v * v else if m = 2 then 2 * v else v
def dd (m k : Int) : Int := if m = 0 then k else if m = 1 then k * (k + 1) else if m = 2 then 2 * k + 1 else k + 1
theorem wo_parts {m v k : Int} (h : v ≠ 0) : wo m v k = (cc m v, dd m k) := by
  unfold wo cc dd
  rw [if_neg h]
  split
  · rfl
  · split
    · rfl
    · split <;> rfl
theorem cc_pos {m v : Int} (h : 1 ≤ v) : 1 ≤ cc m v := by
  unfold cc
  have := Int.mul_le_mul (a := 1) (b := 1) (c := v) (d := v) (by omega) (by omega) (by omega) (by omega)
  split
  · omega
  · split
    · omega
    · split <;> omega
theorem cc_lt {m v v' : Int} (h : 1 ≤ v) (h2 : v < v') : cc m v < cc m v' := by
  unfold cc
  have := Int.mul_lt_mul (a := v) (b := v) (c := v') (d := v') h2 (by omega) (by omega) (by omega)
  split
  · omega
  · split
    · omega
    · split <;> omega
theorem dd_nn {m k : Int} (h : 0 ≤ k) : 0 ≤ dd m k := by
  unfold dd
  have := Int.mul_nonneg h (show 0 ≤ k + 1 by omega)
  split
  · omega
  · split
    · omega
    · split <;> omega
theorem dd_lt {m k k' : Int} (h : 0 ≤ k) (h2 : k < k') : dd m k < dd m k' := by
  unfold dd
  have := Int.mul_lt_mul' (a := k) (b := k + 1) (c := k') (d := k' + 1) (by omega) (by omega) (by omega) (by omega)
  split
  · omega
  · split
    · omega
    · split <;> omega
theorem ag_lt {p q : Int × Int} (hp : wk p) (hq : wk q) (h : ¬ (if p.2 = 0 then (q.2 = 0 → q.1 ≤ p.1) else q.2 ≠ 0 ∧ q.1 * p.2 ≤ p.1 * q.2)) : ag p q < 0 := by
  have h1 : ¬ ag q p ≤ 0 := fun h2 => h ((ag_le hq hp).1 h2)
  have := ag_swap (p := p) (q := q)
  omega
abbrev vin (v : Int) : Prop := 0 ≤ v ∧ v ≤ 1000000
abbrev kin (k : Int) : Prop := 0 ≤ k ∧ k ≤ 102
/-- One seat more is worth less. -/
theorem wo_anti {m v k k' : Int} (hv : vin v) (hk : kin k) (hk' : kin k') (h : k ≤ k') : ag (wo m v k') (wo m v k) ≤ 0 := by
  by_cases v0 : v = 0
  · subst v0
    have e : ∀ k, wo m 0 k = (0, 1) := fun k => by unfold wo; rw [if_pos rfl]
    rw [e, e, ag_refl]; omega
  · rcases Int.lt_or_le k k' with h2 | h2
    · have := dd_lt (m := m) hk.1 h2
      have := dd_nn (m := m) hk.1
      have hc := cc_pos (m := m) (v := v) (by omega)
      rw [ag_le (wo_wk hv hk') (wo_wk hv hk), wo_parts v0, wo_parts v0]
      simp only
      split
      · omega
      · exact ⟨by omega, Int.mul_le_mul_of_nonneg_left (by omega) (by omega)⟩
    · obtain rfl : k = k' := by omega
      rw [ag_refl]; omega
theorem wo_anti_lt {m v k k' : Int} (hv : vin v) (v0 : v ≠ 0) (hk : kin k) (hk' : kin k') (h : k < k') : ag (wo m v k') (wo m v k) < 0 := by
  have h1 := dd_lt (m := m) hk.1 h
  have h2 := dd_nn (m := m) hk.1
  have hc := cc_pos (m := m) (v := v) (by omega)
  apply ag_lt (wo_wk hv hk') (wo_wk hv hk)
  rw [wo_parts v0, wo_parts v0]
  simp only
  rw [if_neg (by omega)]
  intro h3
  have := Int.le_of_mul_le_mul_left h3.2 (show 0 < cc m v by omega)
  omega
/-- More votes are worth more. -/
theorem wo_more_lt {m v v' k : Int} (hv : vin v) (hv' : vin v') (hk : kin k) (h : v < v') : ag (wo m v k) (wo m v' k) < 0 := by
  apply ag_lt (wo_wk hv hk) (wo_wk hv' hk)
  rw [wo_parts (v := v') (by omega)]
  have hc := cc_pos (m := m) (v := v') (by omega)
  have h2 := dd_nn (m := m) hk.1
  by_cases v0 : v = 0
  · subst v0
    have e : wo m 0 k = (0, 1) := by unfold wo; rw [if_pos rfl]
    rw [e]
    simp only
    rw [if_neg (by omega)]
    omega
  · rw [wo_parts v0]
    have h1 := cc_lt (m := m) (v := v) (v' := v') (by omega) h
    simp only
    split
    · omega
    · intro h3
      have := Int.le_of_mul_le_mul_right h3.2 (show 0 < dd m k by omega)
      omega
/-- A party without votes is never worth as much as one with votes. -/
theorem wo_zero_lt {m v k l : Int} (hv : vin v) (hk : kin k) (hl : kin l) (h : v ≠ 0) : ag (wo m 0 l) (wo m v k) < 0 := by
  apply ag_lt (wo_wk (by omega) hl) (wo_wk hv hk)
  rw [wo_parts h]
  have hc := cc_pos (m := m) (v := v) (by omega)
  have e : wo m 0 l = (0, 1) := by unfold wo; rw [if_pos rfl]
  rw [e]
  simp only
  rw [if_neg (by omega)]
  omega
/-- The worth of one more seat for a party. -/
def Wt (m : Int) (votes a : List Int) (i : Nat) : Int × Int := wo m (rd votes i) (rd a i)
/-- The first party, of so many, for which one more seat is worth most. -/
def bst (m : Int) (votes a : List Int) : Nat → Nat
  | 0 => 0
  | n + 1 => if ag (Wt m votes a n) (Wt m votes a (bst m votes a n)) > 0 then n else bst m votes a n
theorem bst_lt (m : Int) (votes a : List Int) : ∀ n, 0 < n → bst m votes a n < n
  | 0, h => by omega
  | n + 1, _ => by
    simp only [bst]
    split
    · omega
    · cases n with
      | zero => simp [bst]
      | succ n => have := bst_lt m votes a (n + 1) (by omega); omega
/-- Seats and votes. -/
def aok (votes a : List Int) : Prop := a.length = votes.length ∧ ∀ x ∈ a, kin x
theorem aok.rd {votes a : List Int} (h : aok votes a) {i : Nat} (hi : i < votes.length) : kin (rd a i) := by
  rw [rd_nat (by rw [h.1]; exact hi)]
  exact h.2 _ (List.getElem_mem _)
theorem vt_rd {votes : List Int} (h : vt votes = true) {i : Nat} (hi : i < votes.length) : vin (rd votes i) := by
  rw [rd_nat hi]
  exact (vt_iff.1 h).2.1 _ (List.getElem_mem _)
theorem Wt_wk {m : Int} {votes a : List Int} (hv : vt votes = true) (ha : aok votes a) {i : Nat} (hi : i < votes.length) : wk (Wt m votes a i) := wo_wk (vt_rd hv hi) (ha.rd hi)
theorem bst_max {m : Int} {votes a : List Int} (hv : vt votes = true) (ha : aok votes a) : ∀ n, n ≤ votes.length → ∀ i, i < n → ag (Wt m votes a i) (Wt m votes a (bst m votes a n)) ≤ 0
  | 0, _, i, h => by omega
  | n + 1, hn, i, hi => by
    have ih := bst_max (m := m) hv ha n (by omega)
    have hb : bst m votes a n < n + 1 := by
      cases n with
      | zero => simp [bst]
      | succ n => have := bst_lt m votes a (n + 1) (by omega); omega
    simp only [bst]
    split
    · rename_i h
      rcases Nat.lt_or_ge i n with h2 | h2
      · have hs := ag_swap (p := Wt m votes a n) (q := Wt m votes a (bst m votes a n))
        exact ag_trans (Wt_wk hv ha (by omega)) (Wt_wk hv ha (by omega)) (Wt_wk hv ha (by omega)) (ih i h2) (by omega)
      · obtain rfl : i = n := by omega
        rw [ag_refl]; omega
    · rename_i h
      rcases Nat.lt_or_ge i n with h2 | h2
      · exact ih i h2
      · obtain rfl : i = n := by omega
        omega
/-- One more seat. -/
def stp (m : Int) (votes a : List Int) : List Int := a.set (bst m votes a votes.length) (rd a (bst m votes a votes.length) + 1)
/-- Seats given one by one. -/
def gv (m : Int) (votes : List Int) : Nat → List Int
  | 0 => List.replicate votes.length 0
  | s + 1 => stp m votes (gv m votes s)
theorem gv_length (m : Int) (votes : List Int) : ∀ s, (gv m votes s).length = votes.length
  | 0 => by simp [gv]
  | s + 1 => by simp [gv, stp, gv_length m votes s]
theorem vt_len {votes : List Int} (h : vt votes = true) : 0 < votes.length ∧ votes.length ≤ 12 := by have := (vt_iff.1 h).1; omega
theorem gv_in {m : Int} {votes : List Int} (hv : vt votes = true) : ∀ s, ∀ x ∈ gv m votes s, 0 ≤ x ∧ x ≤ s
  | 0, x, hx => by simp only [gv, List.mem_replicate] at hx; omega
  | s + 1, x, hx => by
    have ih := gv_in (m := m) hv s
    have hb := bst_lt m votes (gv m votes s) votes.length (vt_len hv).1
    simp only [gv, stp] at hx
    rcases List.mem_or_eq_of_mem_set hx with h | h
    · have := ih x h; omega
    · have h2 : bst m votes (gv m votes s) votes.length < (gv m votes s).length := by rw [gv_length]; exact hb
      rw [rd_nat h2] at h
      have := ih _ (List.getElem_mem h2)
      omega
theorem gv_aok {m : Int} {votes : List Int} (hv : vt votes = true) {s : Nat} (hs : s ≤ 102) : aok votes (gv m votes s) :=
  ⟨gv_length .., fun x hx => by have := gv_in hv s x hx; exact ⟨by omega, by omega⟩⟩
theorem gv_sum {m : Int} {votes : List Int} (hv : vt votes = true) : ∀ s : Nat, (gv m votes s).sum = s
  | 0 => by
    simp only [gv]
    generalize votes.length = n
    induction n with
    | zero => rfl
    | succ n ih => rw [List.replicate_succ, List.sum_cons, ih]; rfl
  | s + 1 => by
    have hb : bst m votes (gv m votes s) votes.length < (gv m votes s).length := by rw [gv_length]; exact bst_lt m votes _ votes.length (vt_len hv).1
    simp only [gv, stp]
    rw [sum_set hb, gv_sum hv s, rd_nat hb]
    omega
theorem stp_rd {m : Int} {votes a : List Int} (hv : vt votes = true) (ha : a.length = votes.length) (i : Nat) : rd (stp m votes a) i = if i = bst m votes a votes.length then rd a i + 1 else rd a i := by
  have hb : bst m votes a votes.length < a.length := by rw [ha]; exact bst_lt m votes _ votes.length (vt_len hv).1
  unfold stp
  rw [rd_set hb]
  split
  · rename_i h; rw [h]
  · rfl
/-- Behind one more seat, nobody is worth more. -/
theorem stp_W {m : Int} {votes a : List Int} (hv : vt votes = true) (ha : aok votes a) (ha' : aok votes (stp m votes a)) {i : Nat} (hi : i < votes.length) : ag (Wt m votes (stp m votes a) i) (Wt m votes a i) ≤ 0 := by
  have h1 := ha'.rd hi
  have h2 := ha.rd hi
  have h3 := vt_rd hv hi
  unfold Wt
  have h4 := stp_rd (m := m) hv ha.1 i
  refine wo_anti h3 h2 h1 ?_
  rw [h4]
  split <;> omega
/-- Seats as a method can give them: nobody's last seat is worth less than one more seat of another. -/
def INV (m : Int) (votes a : List Int) : Prop := ∀ i j, i < votes.length → j < votes.length → 0 < rd a i → ag (Wt m votes a j) (wo m (rd votes i) (rd a i - 1)) ≤ 0
theorem stp_INV {m : Int} {votes a : List Int} (hv : vt votes = true) (ha : aok votes a) (ha' : aok votes (stp m votes a)) (h : INV m votes a) : INV m votes (stp m votes a) := by
  intro i j hi hj hp
  have hW := stp_W (m := m) hv ha ha' hj
  have h4 := stp_rd (m := m) hv ha.1 i
  have hb := bst_lt m votes a votes.length (vt_len hv).1
  have k1 := ha'.rd hi
  have k2 := ha.rd hi
  refine ag_trans (Wt_wk hv ha' hj) (Wt_wk hv ha hj) (wo_wk (vt_rd hv hi) (by omega)) hW ?_
  by_cases c : i = bst m votes a votes.length
  · rw [if_pos c] at h4
    rw [h4, show rd a i + 1 - 1 = rd a i by omega, c]
    exact bst_max hv ha votes.length (Nat.le_refl _) j hj
  · rw [if_neg c] at h4
    rw [h4] at hp ⊢
    exact h i j hi hj hp
theorem rd_replicate (n i : Nat) : rd (List.replicate n 0) (i : Int) = 0 := by
  unfold rd
  simp only [Int.toNat_natCast]
  rw [List.getD_eq_getElem?_getD]
  by_cases h : i < n
  · rw [List.getElem?_eq_getElem (by simpa using h)]; simp
  · rw [List.getElem?_eq_none (by simp; omega)]; rfl
theorem gv_INV {m : Int} {votes : List Int} (hv : vt votes = true) : ∀ s, s ≤ 102 → INV m votes (gv m votes s)
  | 0, _ => by
    intro i j _ _ h
    simp only [gv] at h
    rw [rd_replicate] at h
    omega
  | s + 1, hs => stp_INV hv (gv_aok hv (by omega)) (gv_aok hv (s := s + 1) hs) (gv_INV hv s (by omega))
/-- Somebody has votes. -/
theorem vt_some {votes : List Int} (h : vt votes = true) : ∃ j, j < votes.length ∧ rd votes j ≠ 0 := by
  apply Classical.byContradiction; intro hc
  have h0 : ∀ x ∈ votes, x = 0 := by
    intro x hx
    obtain ⟨j, hj, rfl⟩ := List.getElem_of_mem hx
    apply Classical.byContradiction; intro h0
    exact hc ⟨j, hj, by rw [rd_nat hj]; exact h0⟩
  have h1 := (vt_iff.1 h).2.2
  have h2 : ∀ l : List Int, (∀ x ∈ l, x = 0) → l.sum = 0 := by
    intro l
    induction l with
    | nil => intro _; rfl
    | cons y ys ih => intro h; rw [List.sum_cons, ih fun x hx => h x (List.mem_cons_of_mem _ hx), h y (List.mem_cons_self ..)]; rfl
  rw [h2 votes h0] at h1
  omega
theorem bst_votes {m : Int} {votes a : List Int} (hv : vt votes = true) (ha : aok votes a) : rd votes (bst m votes a votes.length) ≠ 0 := by
  intro h0
  obtain ⟨j, hj, hj0⟩ := vt_some hv
  have hb := bst_lt m votes a votes.length (vt_len hv).1
  have h1 := bst_max (m := m) hv ha votes.length (Nat.le_refl _) j hj
  have h2 := wo_zero_lt (m := m) (vt_rd hv hj) (ha.rd hj) (ha.rd hb) hj0
  unfold Wt at h1
  rw [h0] at h1
  have := ag_swap (p := wo m 0 (rd a (bst m votes a votes.length))) (q := wo m (rd votes j) (rd a j))
  omega
theorem gv_zero {m : Int} {votes : List Int} (hv : vt votes = true) {i : Nat} (hz : rd votes i = 0) : ∀ s, s ≤ 102 → rd (gv m votes s) i = 0
  | 0, _ => by simp only [gv]; exact rd_replicate ..
  | s + 1, hs => by
    simp only [gv]
    rw [stp_rd hv (gv_length ..), if_neg, gv_zero hv hz s (by omega)]
    intro h
    exact bst_votes hv (gv_aok hv (by omega)) (h ▸ hz)
/-- What the seat given after s others is worth. -/
def gw (m : Int) (votes : List Int) (s : Nat) : Int × Int := Wt m votes (gv m votes s) (bst m votes (gv m votes s) votes.length)
theorem gw_wk {m : Int} {votes : List Int} (hv : vt votes = true) {s : Nat} (hs : s ≤ 102) : wk (gw m votes s) := Wt_wk hv (gv_aok hv hs) (bst_lt m votes _ votes.length (vt_len hv).1)
theorem gw_max {m : Int} {votes : List Int} (hv : vt votes = true) {s : Nat} (hs : s ≤ 102) {i : Nat} (hi : i < votes.length) : ag (Wt m votes (gv m votes s) i) (gw m votes s) ≤ 0 :=
  bst_max hv (gv_aok hv hs) votes.length (Nat.le_refl _) i hi
theorem gw_anti1 {m : Int} {votes : List Int} (hv : vt votes = true) {s : Nat} (hs : s + 1 ≤ 102) : ag (gw m votes (s + 1)) (gw m votes s) ≤ 0 := by
  have hb := bst_lt m votes (gv m votes (s + 1)) votes.length (vt_len hv).1
  exact ag_trans (gw_wk hv hs) (Wt_wk hv (gv_aok hv (by omega)) hb) (gw_wk hv (by omega)) (stp_W hv (gv_aok hv (by omega)) (gv_aok hv (s := s + 1) hs) hb) (gw_max hv (by omega) hb)
theorem gw_anti {m : Int} {votes : List Int} (hv : vt votes = true) {s : Nat} : ∀ d, s + d ≤ 102 → ag (gw m votes (s + d)) (gw m votes s) ≤ 0
  | 0, _ => by rw [Nat.add_zero, ag_refl]; omega
  | d + 1, h => ag_trans (gw_wk hv h) (gw_wk hv (s := s + d) (by omega)) (gw_wk hv (by omega)) (gw_anti1 hv (s := s + d) h) (gw_anti hv d (by omega))
/-! What the printed functions compute. -/
/-- The seats that are given, for whom and what each is worth. -/
def gs (m : Int) (votes : List Int) (s : Nat) : List S76 := (List.range s).map fun t => ⟨(bst m votes (gv m votes t) votes.length : Nat), ⟨(gw m votes t).1, (gw m votes t).2⟩⟩
theorem gs_length (m : Int) (votes : List Int) (s : Nat) : (gs m votes s).length = s := by simp [gs]
def SeatsBy_res (m : Int) (votes : List Int) (s : Int) : List Int × Bool := if (0 ≤ m ∧ m ≤ 3) ∧ vt votes = true ∧ 0 ≤ s ∧ s ≤ 100 then (gv m votes s.toNat, true) else ([], false)
theorem SeatsBy_len (m : Int) (votes : List Int) (s : Int) : (SeatsBy_res m votes s).1.length ≤ 100 := by
  unfold SeatsBy_res
  split
  · rename_i h; rw [gv_length]; have := vt_len h.2.1; omega
  · simp
/-- Seats can arise by a method. -/
def isb (m : Int) (votes a : List Int) : Bool := (List.range votes.length).all fun i => (List.range votes.length).all fun j => decide (i = j) || (decide (rd a i ≤ 0) || decide (0 ≤ ag (wo m (rd votes i) (rd a i - 1)) (Wt m votes a j)))
theorem isb_iff {m : Int} {votes a : List Int} : isb m votes a = true ↔ ∀ i, i < votes.length → ∀ j, j < votes.length → i ≠ j → 0 < rd a i → 0 ≤ ag (wo m (rd votes i) (rd a i - 1)) (Wt m votes a j) := by
  unfold isb
  simp only [List.all_eq_true, List.mem_range, Bool.or_eq_true, decide_eq_true_eq]
  constructor
  · intro h i hi j hj h1 h2
    rcases h i hi j hj with h | h | h <;> first | omega | exact h
  · intro h i hi j hj
    by_cases h1 : i = j
    · exact .inl h1
    · by_cases h2 : rd a i ≤ 0
      · exact .inr (.inl h2)
      · exact .inr (.inr (h i hi j hj h1 (by omega)))
theorem INV_isb {m : Int} {votes a : List Int} (h : INV m votes a) : isb m votes a = true := isb_iff.2 fun i hi j hj _ h2 => by
  have h1 := h i j hi hj h2
  have := ag_swap (p := wo m (rd votes i) (rd a i - 1)) (q := Wt m votes a j)
  omega
def IsSeatsBy_res (m : Int) (votes a : List Int) : Bool := decide (0 ≤ m ∧ m ≤ 3) && (vt votes && (sl votes a && isb m votes a))
theorem sl_aok {votes a : List Int} (h : sl votes a = true) : aok votes a := ⟨(sl_iff.1 h).1, fun x hx => by have := (sl_iff.1 h).2.1 x hx; exact ⟨by omega, by omega⟩⟩
theorem range_all_first {n : Nat} {p : Nat → Bool} (h : ¬ (List.range n).all p = true) : ∃ j, j < n ∧ p j = false := by
  apply Classical.byContradiction; intro hc
  refine h (List.all_eq_true.2 fun x hx => ?_)
  rw [List.mem_range] at hx
  cases hp : p x
  · exact absurd ⟨x, hx, hp⟩ hc
  · rfl
/-- Two loops, the one in the other, that end at the first that is not as asked. -/
theorem loop2 {n : Nat} {F : Nat → Int → Option Bool} {G : Nat → Int → Int → Option Bool} (p : Nat → Nat → Bool)
    (hF : ∀ k, F (k + 1) (n : Int) = some true)
    (hF2 : ∀ k (i : Nat), i < n → F (k + 1) (i : Int) = G k (i : Int) 0)
    (hG : ∀ k (i : Nat), i < n → G (k + 1) (i : Int) (n : Int) = F k ((i + 1 : Nat) : Int))
    (hG2 : ∀ k (i j : Nat), i < n → j < n → 10 < k → G (k + 1) (i : Int) (j : Int) = if p i j = true then G k (i : Int) ((j + 1 : Nat) : Int) else some false)
    {k : Nat} (hkk : (n + 3) * n + 20 < k) : F k 0 = some ((List.range n).all fun i => (List.range n).all fun j => p i j) := by
  classical
  have inner : ∀ i, i < n → ∀ d j k, n - j = d → j ≤ n → 12 + d < k → G k (i : Int) (j : Int) = if (∀ q, j ≤ q → q < n → p i q = true) then F (k - d - 1) ((i + 1 : Nat) : Int) else some false := by
    intro i hi d
    induction d with
    | zero =>
      intro j k hd hj hk
      obtain rfl : j = n := by omega
      obtain ⟨k, rfl, _⟩ := succ_of_lt hk
      rw [hG k i hi, if_pos (fun q h1 h2 => by omega)]
      try rfl
    | succ d ih =>
      intro j k hd hj hk
      obtain ⟨k, rfl, _⟩ := succ_of_lt hk
      rw [hG2 k i j hi (by omega) (by omega)]
      by_cases c : p i j = true
      · rw [if_pos c, ih (j + 1) k (by omega) (by omega) (by omega)]
        by_cases c2 : ∀ q, j + 1 ≤ q → q < n → p i q = true
        · rw [if_pos c2, if_pos (fun q h1 h2 => by
            rcases Nat.lt_or_ge j q with h | h
            · exact c2 q h h2
            · obtain rfl : q = j := by omega
              exact c), show k + 1 - (d + 1) - 1 = k - d - 1 by omega]
        · rw [if_neg c2, if_neg (fun h => c2 fun q h1 h2 => h q (by omega) h2)]
      · rw [if_neg c, if_neg (fun h => c (h j (Nat.le_refl _) (by omega)))]
  have outer : ∀ d i k, n - i = d → i ≤ n → (n + 3) * d + 20 < k → F k (i : Int) = some (decide (∀ q, i ≤ q → q < n → ∀ r, r < n → p q r = true)) := by
    intro d
    induction d with
    | zero =>
      intro i k hd hi hk
      obtain rfl : i = n := by omega
      obtain ⟨k, rfl, _⟩ := succ_of_lt hk
      rw [hF, decide_eq_true (fun q h1 h2 => by omega)]
    | succ d ih =>
      intro i k hd hi hk
      obtain ⟨k, rfl, _⟩ := succ_of_lt hk
      rw [Nat.mul_succ] at hk
      rw [hF2 k i (by omega)]
      have e := inner i (by omega) n 0 k (by omega) (by omega) (by omega)
      rw [show ((0 : Nat) : Int) = 0 from rfl] at e
      rw [e]
      by_cases c : ∀ q, 0 ≤ q → q < n → p i q = true
      · rw [if_pos c, ih (i + 1) _ (by omega) (by omega) (by omega)]
        congr 1
        refine decide_eq_decide.2 ⟨fun h q h1 h2 r h3 => ?_, fun h q h1 h2 r h3 => h q (by omega) h2 r h3⟩
        rcases Nat.lt_or_ge i q with h4 | h4
        · exact h q h4 h2 r h3
        · obtain rfl : q = i := by omega
          exact c r (by omega) h3
      · rw [if_neg c, decide_eq_false (fun h => c fun q _ h2 => h i (Nat.le_refl _) (by omega) q h2)]
  have h := outer n 0 k (by omega) (by omega) hkk
  rw [show ((0 : Nat) : Int) = 0 from rfl] at h
  rw [h]
  congr 1
  rw [Bool.eq_iff_iff]
  simp only [decide_eq_true_eq, List.all_eq_true, List.mem_range]
  exact ⟨fun h x hx y hy => h x (by omega) hx y hy, fun h q _ h2 r h3 => h q h2 r h3⟩
end Go.Proofs.Ytebofadnefkacaa.Q
