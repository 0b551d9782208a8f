import Derived.Test.YtgmmfdilfpkbmaaXV2FnCountedBest
section
namespace Go.Proofs.Ytgmmfdilfpkbmaa.Q
open Go.RowKit Go.Proofs.YtgmmfdilfpkbmaaW.PrintWords Go.Proofs.YtgmmfdilfpkbmaaW.PrintLast Go.Proofs.Ytgmmfdilfpkbmaa.P Go.Proofs.Ytgmmfdilfpkbmaa.B
set_option linter.unusedVariables false
set_option linter.unusedSimpArgs false
def cn (P : Nat → Bool) : Nat → Nat
  | 0 => 0
  | n + 1 => cn P n + if P n = true then 1 else 0
theorem cn_congr {P Q : Nat → Bool} : ∀ n, (∀ w, w < n → P w = Q w) → cn P n = cn Q n
  | 0, _ => rfl
  | n + 1, h => by
    simp only [cn]
    rw [cn_congr n (fun w hw => h w (by omega)), h n (by omega)]
theorem cn_add (P : Nat → Bool) (a : Nat) : ∀ b, cn P (a + b) = cn P a + cn (fun w => P (a + w)) b
  | 0 => rfl
  | b + 1 => by
    show cn P (a + b) + (if P (a + b) = true then 1 else 0) = cn P a + (cn (fun w => P (a + w)) b + if P (a + b) = true then 1 else 0)
    rw [cn_add P a b]
    omega
theorem cn_none {P : Nat → Bool} : ∀ n, (∀ w, w < n → P w = false) → cn P n = 0
  | 0, _ => rfl
  | n + 1, h => by
    simp only [cn]
    rw [cn_none n (fun w hw => h w (by omega)), h n (by omega)]
    rfl
theorem cn_some {P : Nat → Bool} {n : Nat} (h : 0 < cn P n) : ∃ w, w < n ∧ P w = true := by
  apply Classical.byContradiction; intro hc
  have := cn_none (P := P) n (fun w hw => by
    cases hp : P w
    · rfl
    · exact absurd ⟨w, hw, hp⟩ hc)
  omega
theorem cn_zero_all {P : Nat → Bool} : ∀ {n : Nat}, cn P n = 0 → ∀ w, w < n → P w = false
  | 0, _, w, hw => by omega
  | n + 1, h, w, hw => by
    simp only [cn] at h
    rcases Nat.lt_or_ge w n with h1 | h1
    · exact cn_zero_all (by omega) w h1
    · obtain rfl : w = n := by omega
      cases hp : P w
      · rfl
      · rw [hp, if_pos rfl] at h; omega
def bitL : Nat → Nat → List Int
  | 0, _ => []
  | n + 1, w => ((w / 2 ^ n % 2 : Nat) : Int) :: bitL n w
theorem bitL_length : ∀ n w, (bitL n w).length = n
  | 0, _ => rfl
  | n + 1, w => by simp [bitL, bitL_length n w]
theorem bitL_low {n u : Nat} : ∀ j, j ≤ n → bitL j (2 ^ n + u) = bitL j u
  | 0, _ => rfl
  | j + 1, h => by
    simp only [bitL]
    rw [bitL_low j (by omega)]
    congr 2
    have e : 2 ^ n = 2 ^ j * (2 * 2 ^ (n - j - 1)) := by
      rw [← Nat.mul_assoc, ← Nat.pow_succ, ← Nat.pow_add]
      congr 1; omega
    rw [e, Nat.mul_add_div (Nat.two_pow_pos j), Nat.mul_add_mod]
theorem bitL_rd : ∀ (n w i : Nat), i < n → rd (bitL n w) (i : Int) = ((w / 2 ^ (n - 1 - i) % 2 : Nat) : Int)
  | n + 1, w, 0, _ => by
    rw [show n + 1 - 1 - 0 = n by omega]; rfl
  | n + 1, w, i + 1, h => by
    simp only [bitL]
    rw [rd_succB, bitL_rd n w i (by omega), show n + 1 - 1 - (i + 1) = n - 1 - i by omega]
def G : List Int → Nat → List Int → Bool
  | [], k, [] => k == 0
  | [], _, _ :: _ => false
  | _ :: _, _, [] => false
  | z :: c, k, b :: v => if b = 1 then (z != -1) && (match k with | 0 => false | k + 1 => G c k v) else (z != 1) && G c k v
def ons : List Int → Nat
  | [] => 0
  | z :: c => ons c + if z = 1 then 1 else 0
def zrs : List Int → Nat
  | [] => 0
  | z :: c => zrs c + if z = 0 then 1 else 0
def dropV : List Int → Nat → List Int
  | [], _ => []
  | z :: c, d => if z = 1 then 1 :: dropV c d else if z = 0 then (match d with | 0 => 1 :: dropV c 0 | d + 1 => 0 :: dropV c d) else 0 :: dropV c d
theorem ch_posC : ∀ n k, k ≤ n → 0 < ch n k
  | n, 0, _ => by rw [ch_zero]; omega
  | n + 1, k + 1, h => by
    have := ch_posC n k (by omega)
    show 0 < ch n k + ch n (k + 1)
    omega
abbrev czs (c : List Int) : Prop := ∀ z ∈ c, z = 1 ∨ z = 0 ∨ z = -1
theorem ons1 (c : List Int) : ons (1 :: c) = ons c + 1 := rfl
theorem ons0 (c : List Int) : ons (0 :: c) = ons c := rfl
theorem onsm (c : List Int) : ons (-1 :: c) = ons c := rfl
theorem zrs1 (c : List Int) : zrs (1 :: c) = zrs c := rfl
theorem zrs0 (c : List Int) : zrs (0 :: c) = zrs c + 1 := rfl
theorem zrsm (c : List Int) : zrs (-1 :: c) = zrs c := rfl
theorem drop1 (c : List Int) (d : Nat) : dropV (1 :: c) d = 1 :: dropV c d := by simp [dropV]
theorem drop0z (c : List Int) : dropV (0 :: c) 0 = 1 :: dropV c 0 := by simp [dropV]
theorem drop0s (c : List Int) (d : Nat) : dropV (0 :: c) (d + 1) = 0 :: dropV c d := by simp [dropV]
theorem dropm (c : List Int) (d : Nat) : dropV (-1 :: c) d = 0 :: dropV c d := by simp [dropV]
theorem G_bounds : ∀ (c : List Int) (k : Nat) (v : List Int), czs c → G c k v = true → ons c ≤ k ∧ k ≤ ons c + zrs c
  | [], k, [], _, h => by simp [G] at h; subst h; simp [ons, zrs]
  | [], _, _ :: _, _, h => by simp [G] at h
  | _ :: _, _, [], _, h => by simp [G] at h
  | z :: c, k, b :: v, hc, h => by
    have hc' : czs c := fun y hy => hc y (List.mem_cons_of_mem z hy)
    simp only [G] at h
    by_cases hb : b = 1
    · rw [if_pos hb] at h
      cases k with
      | zero => simp at h
      | succ k =>
        simp only [Bool.and_eq_true, bne_iff_ne] at h
        have := G_bounds c k v hc' h.2
        rcases hc z (List.mem_cons_self ..) with rfl | rfl | rfl
        · rw [ons1, zrs1]; omega
        · rw [ons0, zrs0]; omega
        · exact absurd rfl h.1
    · rw [if_neg hb, Bool.and_eq_true, bne_iff_ne] at h
      have := G_bounds c k v hc' h.2
      rcases hc z (List.mem_cons_self ..) with rfl | rfl | rfl
      · exact absurd rfl h.1
      · rw [ons0, zrs0]; omega
      · rw [onsm, zrsm]; omega
theorem top0 {n w : Nat} (h : w < 2 ^ n) : bitL (n + 1) w = 0 :: bitL n w := by
  simp only [bitL]
  rw [Nat.div_eq_of_lt h]; rfl
theorem top1 {n u : Nat} (h : u < 2 ^ n) : bitL (n + 1) (2 ^ n + u) = 1 :: bitL n u := by
  simp only [bitL]
  rw [bitL_low n (Nat.le_refl _), Nat.add_div_left _ (Nat.two_pow_pos n), Nat.div_eq_of_lt h]; rfl
theorem G0 (z : Int) (c : List Int) (k : Nat) (v : List Int) : G (z :: c) k (0 :: v) = ((z != 1) && G c k v) := by
  simp only [G]
  rw [if_neg (by decide)]
theorem G1 (z : Int) (c : List Int) (k : Nat) (v : List Int) : G (z :: c) (k + 1) (1 :: v) = ((z != -1) && G c k v) := by
  simp only [G]
  rw [if_pos trivial]
theorem G1z (z : Int) (c : List Int) (v : List Int) : G (z :: c) 0 (1 :: v) = false := by
  simp only [G]
  rw [if_pos trivial]; simp
theorem cnG : ∀ (c : List Int) (k : Nat), czs c → cn (fun w => G c k (bitL c.length w)) (2 ^ c.length) = if ons c ≤ k then ch (zrs c) (k - ons c) else 0
  | [], k, _ => by
    rw [if_pos (show ons [] ≤ k from Nat.zero_le _)]
    cases k with
    | zero => rfl
    | succ k => rfl
  | z :: c, k, hc => by
    have hc' : czs c := fun y hy => hc y (List.mem_cons_of_mem z hy)
    rw [List.length_cons, Nat.pow_succ, Nat.mul_two, cn_add]
    have e1 : cn (fun w => G (z :: c) k (bitL (c.length + 1) w)) (2 ^ c.length) = cn (fun w => (z != 1) && G c k (bitL c.length w)) (2 ^ c.length) := cn_congr _ fun w hw => by
      rw [top0 hw, G0]
    have i0 := cnG c k hc'
    cases k with
    | zero =>
      have e2 : cn (fun w => G (z :: c) 0 (bitL (c.length + 1) (2 ^ c.length + w))) (2 ^ c.length) = 0 := cn_none _ fun w hw => by
        rw [top1 hw, G1z]
      rw [e1, e2]
      rcases hc z (List.mem_cons_self ..) with rfl | rfl | rfl
      · rw [cn_none _ (fun w hw => by simp), ons1, if_neg (by omega)]
      · rw [ons0, zrs0]
        simp only [show ((0 : Int) != 1) = true from rfl, Bool.true_and, i0]
        by_cases c1 : ons c ≤ 0
        · rw [if_pos c1, if_pos c1, Nat.zero_sub, ch_zero, ch_zero]
        · rw [if_neg c1, if_neg c1]
      · rw [onsm, zrsm]
        simp only [show ((-1 : Int) != 1) = true from rfl, Bool.true_and, i0]
        rfl
    | succ k =>
      have i1 := cnG c k hc'
      have e2 : cn (fun w => G (z :: c) (k + 1) (bitL (c.length + 1) (2 ^ c.length + w))) (2 ^ c.length) = cn (fun w => (z != -1) && G c k (bitL c.length w)) (2 ^ c.length) := cn_congr _ fun w hw => by
        rw [top1 hw, G1]
      rw [e1, e2]
      rcases hc z (List.mem_cons_self ..) with rfl | rfl | rfl
      · rw [cn_none (P := fun w => ((1 : Int) != 1) && G c (k + 1) (bitL c.length w)) _ (fun w hw => by simp), ons1, zrs1]
        simp only [show ((1 : Int) != -1) = true from rfl, Bool.true_and, i1]
        by_cases c1 : ons c ≤ k
        · rw [if_pos c1, if_pos (by omega), Nat.zero_add]; congr 1; omega
        · rw [if_neg c1, if_neg (by omega)]
      · rw [ons0, zrs0]
        simp only [show ((0 : Int) != 1) = true from rfl, show ((0 : Int) != -1) = true from rfl, Bool.true_and, i0, i1]
        by_cases c1 : ons c ≤ k
        · rw [if_pos c1, if_pos (by omega), if_pos (by omega), show k + 1 - ons c = (k - ons c) + 1 by omega]
          show ch _ _ + ch _ _ = ch _ _ + ch _ _
          omega
        · rw [if_neg c1]
          by_cases c2 : ons c ≤ k + 1
          · rw [if_pos c2, if_pos c2, show k + 1 - ons c = 0 by omega, ch_zero, ch_zero]
          · rw [if_neg c2, if_neg c2]
      · rw [cn_none (P := fun w => ((-1 : Int) != -1) && G c k (bitL c.length w)) _ (fun w hw => by simp), onsm, zrsm]
        simp only [show ((-1 : Int) != 1) = true from rfl, Bool.true_and, i0]
        rfl
theorem firstV : ∀ (c : List Int) (k w : Nat), czs c → w < 2 ^ c.length → G c k (bitL c.length w) = true → (∀ u, u < w → G c k (bitL c.length u) = false) → bitL c.length w = dropV c (zrs c - (k - ons c))
  | [], _, _, _, _, _, _ => rfl
  | z :: c, k, w, hc, hw, hg, hu => by
    have hc' : czs c := fun y hy => hc y (List.mem_cons_of_mem z hy)
    rw [List.length_cons] at hw hg hu ⊢
    rw [Nat.pow_succ] at hw
    rcases Nat.lt_or_ge w (2 ^ c.length) with h1 | h1
    · rw [top0 h1, G0, Bool.and_eq_true, bne_iff_ne] at hg
      have hb := G_bounds _ _ _ hc' hg.2
      have ih := firstV c k w hc' h1 hg.2 (fun u h2 => by
        have := hu u h2
        rw [top0 (by omega), G0] at this
        rw [bne_iff_ne.2 hg.1, Bool.true_and] at this
        exact this)
      rw [top0 h1, ih]
      rcases hc z (List.mem_cons_self ..) with rfl | rfl | rfl
      · exact absurd rfl hg.1
      · rw [ons0, zrs0, show zrs c + 1 - (k - ons c) = (zrs c - (k - ons c)) + 1 by omega, drop0s]
      · rw [onsm, zrsm, dropm]
    · obtain ⟨u, rfl⟩ : ∃ u, w = 2 ^ c.length + u := ⟨w - 2 ^ c.length, by omega⟩
      have h2 : u < 2 ^ c.length := by omega
      rw [top1 h2] at hg
      cases k with
      | zero => rw [G1z] at hg; cases hg
      | succ k =>
        rw [G1, Bool.and_eq_true, bne_iff_ne] at hg
        have hb := G_bounds _ _ _ hc' hg.2
        have ih := firstV c k u hc' h2 hg.2 (fun t h3 => by
          have := hu (2 ^ c.length + t) (by omega)
          rw [top1 (by omega), G1] at this
          rw [bne_iff_ne.2 hg.1, Bool.true_and] at this
          exact this)
        rw [top1 h2, ih]
        rcases hc z (List.mem_cons_self ..) with rfl | rfl | rfl
        · rw [ons1, zrs1, drop1, show zrs c - (k + 1 - (ons c + 1)) = zrs c - (k - ons c) by omega]
        · have hk : ¬ k + 1 ≤ ons c + zrs c := fun hle => by
            have hp : 0 < cn (fun w => G c (k + 1) (bitL c.length w)) (2 ^ c.length) := by
              rw [cnG c (k + 1) hc', if_pos (by omega)]
              exact ch_posC _ _ (by omega)
            obtain ⟨t, h3, h4⟩ := cn_some hp
            have := hu t (by omega)
            rw [top0 h3, G0] at this
            rw [h4] at this
            simp at this
          rw [ons0, zrs0, show zrs c + 1 - (k + 1 - ons c) = 0 by omega, show zrs c - (k - ons c) = 0 by omega, drop0z]
        · exact absurd rfl hg.1
theorem mapV {f : Nat → Int} : ∀ (l : List Nat) (d : Nat), l.Nodup → (l.map fun i => if i ∈ (l.filter fun i => decide (f i = 1)) ++ (l.filter fun i => decide (f i = 0)).drop d then (1 : Int) else 0) = dropV (l.map f) d
  | [], _, _ => rfl
  | a :: l, d, h => by
    rw [List.nodup_cons] at h
    have n1 : a ∉ l.filter fun i => decide (f i = 1) := fun hh => h.1 (List.mem_filter.1 hh).1
    have n0 : ∀ d, a ∉ (l.filter fun i => decide (f i = 0)).drop d := fun d hh => h.1 (List.mem_filter.1 (List.mem_of_mem_drop hh)).1
    rw [List.map_cons, List.map_cons]
    simp only [dropV]
    by_cases c1 : f a = 1
    · rw [if_pos c1, List.filter_cons_of_pos (by simpa using c1), List.filter_cons_of_neg (by simp [c1]), if_pos (by simp), ← mapV l d h.2]
      congr 1
      refine List.map_congr_left fun i hi => ?_
      have : i ≠ a := fun e => h.1 (e ▸ hi)
      simp [this]
    · rw [if_neg c1, List.filter_cons_of_neg (by simpa using c1)]
      by_cases c0 : f a = 0
      · rw [if_pos c0, List.filter_cons_of_pos (by simpa using c0)]
        cases d with
        | zero =>
          simp only
          rw [if_pos (by simp), ← mapV l 0 h.2]
          congr 1
          refine List.map_congr_left fun i hi => ?_
          have : i ≠ a := fun e => h.1 (e ▸ hi)
          simp [this]
        | succ d =>
          simp only [List.drop_succ_cons]
          rw [if_neg (fun hh => by
            rcases List.mem_append.1 hh with hh | hh
            · exact n1 hh
            · exact n0 _ hh), ← mapV l d h.2]
      · rw [if_neg c0, List.filter_cons_of_neg (by simpa using c0), if_neg (fun hh => by
            rcases List.mem_append.1 hh with hh | hh
            · exact n1 hh
            · exact n0 _ hh), ← mapV l d h.2]
theorem ons_map {f : Nat → Int} : ∀ l : List Nat, ons (l.map f) = (l.filter fun i => decide (f i = 1)).length
  | [] => rfl
  | a :: l => by
    rw [List.map_cons]
    simp only [ons]
    rw [ons_map l]
    by_cases c : f a = 1
    · rw [if_pos c, List.filter_cons_of_pos (by simpa using c)]; rfl
    · rw [if_neg c, List.filter_cons_of_neg (by simpa using c)]; rfl
theorem zrs_map {f : Nat → Int} : ∀ l : List Nat, zrs (l.map f) = (l.filter fun i => decide (f i = 0)).length
  | [] => rfl
  | a :: l => by
    rw [List.map_cons]
    simp only [zrs]
    rw [zrs_map l]
    by_cases c : f a = 0
    · rw [if_pos c, List.filter_cons_of_pos (by simpa using c)]; rfl
    · rw [if_neg c, List.filter_cons_of_neg (by simpa using c)]; rfl
theorem G_iff : ∀ (c : List Int) (k : Nat) (v : List Int), v.length = c.length → (∀ b ∈ v, b = 0 ∨ b = 1) → (G c k v = true ↔ v.sum = (k : Int) ∧ ∀ i : Nat, i < c.length → (rd v i = 1 → rd c i ≠ -1) ∧ (rd v i = 0 → rd c i ≠ 1))
  | [], k, [], _, _ => by
    simp [G]
    omega
  | [], _, _ :: _, h, _ => by simp at h
  | _ :: _, _, [], h, _ => by simp at h
  | z :: c, k, b :: v, h, hv => by
    have hl : v.length = c.length := by simpa using h
    have hv' : ∀ b ∈ v, b = 0 ∨ b = 1 := fun x hx => hv x (List.mem_cons_of_mem b hx)
    have split : ∀ P : Nat → Prop, (∀ i : Nat, i < (z :: c).length → P i) ↔ P 0 ∧ ∀ i : Nat, i < c.length → P (i + 1) := fun P =>
      ⟨fun hh => ⟨hh 0 (by simp), fun i hi => hh (i + 1) (by rw [List.length_cons]; omega)⟩, fun hh i hi => by
        cases i with
        | zero => exact hh.1
        | succ i => exact hh.2 i (by rw [List.length_cons] at hi; omega)⟩
    rw [split, List.sum_cons]
    have r0 : rd (b :: v) ((0 : Nat) : Int) = b := rfl
    have r0' : rd (z :: c) ((0 : Nat) : Int) = z := rfl
    have rs : ∀ i : Nat, rd (b :: v) ((i + 1 : Nat) : Int) = rd v i := rd_succB b v
    have rs' : ∀ i : Nat, rd (z :: c) ((i + 1 : Nat) : Int) = rd c i := rd_succB z c
    simp only [r0, r0', rs, rs']
    have nn := sum_nonneg (l := v) fun x hx => by have := hv' x hx; omega
    rcases hv b (List.mem_cons_self ..) with rfl | rfl
    · rw [G0, Bool.and_eq_true, bne_iff_ne, G_iff c k v hl hv']
      constructor
      · rintro ⟨h1, h2, h3⟩
        exact ⟨by omega, ⟨by simp, fun _ => h1⟩, h3⟩
      · rintro ⟨h1, ⟨_, h2⟩, h3⟩
        exact ⟨h2 rfl, by omega, h3⟩
    · cases k with
      | zero =>
        rw [G1z]
        constructor
        · intro hh; cases hh
        · rintro ⟨h1, _⟩; omega
      | succ k =>
        rw [G1, Bool.and_eq_true, bne_iff_ne, G_iff c k v hl hv']
        constructor
        · rintro ⟨h1, h2, h3⟩
          exact ⟨by omega, ⟨fun _ => h1, by simp⟩, h3⟩
        · rintro ⟨h1, ⟨h2, _⟩, h3⟩
          exact ⟨h2 rfl, by omega, h3⟩
theorem lag2 {V lam : Int} {g : Int → Int} : ∀ (nums x y : List Int), x.length = nums.length → y.length = nums.length → (∀ i : Nat, i < nums.length → g (V * rd y i - rd nums i) + lam * rd y i ≤ g (V * rd x i - rd nums i) + lam * rd x i) → (∃ i : Nat, i < nums.length ∧ g (V * rd y i - rd nums i) + lam * rd y i < g (V * rd x i - rd nums i) + lam * rd x i) → ((ers V nums y).map g).sum + lam * y.sum < ((ers V nums x).map g).sum + lam * x.sum
  | [], x, y, hx, hy, _, ⟨i, hi, _⟩ => by simp at hi
  | a :: nums, [], _, hx, _, _, _ => by simp at hx
  | a :: nums, _ :: _, [], _, hy, _, _ => by simp at hy
  | a :: nums, b :: x, c :: y, hx, hy, h, ⟨i, hi, hlt⟩ => by
    have hx' : x.length = nums.length := by simpa using hx
    have hy' : y.length = nums.length := by simpa using hy
    have h0 : g (V * c - a) + lam * c ≤ g (V * b - a) + lam * b := h 0 (by rw [List.length_cons]; omega)
    have hs : ∀ i : Nat, i < nums.length → g (V * rd y i - rd nums i) + lam * rd y i ≤ g (V * rd x i - rd nums i) + lam * rd x i := fun i hi => by
      have := h (i + 1) (by rw [List.length_cons]; omega)
      rw [rd_succB, rd_succB, rd_succB] at this
      exact this
    have e1 : ((ers V (a :: nums) (c :: y)).map g).sum = g (V * c - a) + ((ers V nums y).map g).sum := rfl
    have e2 : ((ers V (a :: nums) (b :: x)).map g).sum = g (V * b - a) + ((ers V nums x).map g).sum := rfl
    rw [e1, e2, List.sum_cons, List.sum_cons, Int.mul_add, Int.mul_add]
    cases i with
    | zero =>
      have h1 : g (V * c - a) + lam * c < g (V * b - a) + lam * b := hlt
      have := lag nums x y hx' hy' hs
      omega
    | succ i =>
      rw [rd_succB, rd_succB, rd_succB] at hlt
      have := lag2 nums x y hx' hy' hs ⟨i, by rw [List.length_cons] at hi; omega, hlt⟩
      omega
def keeps (V : Int) (nums : List Int) (nm : Int) (B : Nat) (T : List Nat) : Prop := ∀ i, i < nums.length → (i ∈ T → cz V nm B (rst V nums i) ≠ -1) ∧ (i ∉ T → cz V nm B (rst V nums i) ≠ 1)
theorem cz_three (V nm b r : Int) : cz V nm b r = 1 ∨ cz V nm b r = 0 ∨ cz V nm b r = -1 := by
  unfold cz
  split
  · exact .inr (.inr rfl)
  · split
    · split
      · exact .inl rfl
      · split
        · exact .inr (.inr rfl)
        · exact .inr (.inl rfl)
    · split
      · exact .inl rfl
      · split
        · exact .inr (.inr rfl)
        · exact .inr (.inl rfl)
theorem opt {V : Int} {nums : List Int} (h : okd V nums) {nm : Int} {m B : Nat} (hB : BD V nums nm m B) (hnm : 0 ≤ nm ∧ nm ≤ 2) {T : List Nat} (hT : T.Nodup) (hTi : ∀ i ∈ T, i < nums.length) (hTl : T.length = m) (hk : keeps V nums nm B T) {D : List Nat} (hD : D.Nodup) (hDi : ∀ i ∈ D, i < nums.length ∧ 0 < rst V nums i) (hDl : D.length = m) :
    nrm nm (ers V nums (incs (fls V nums) T)) ≤ nrm nm (ers V nums (incs (fls V nums) D)) ∧ (¬ keeps V nums nm B D → nrm nm (ers V nums (incs (fls V nums) T)) < nrm nm (ers V nums (incs (fls V nums) D))) := by
  have hTi' : ∀ q ∈ T, q < (fls V nums).length := fun q hq => by rw [fls_length]; exact hTi q hq
  have hDi' : ∀ q ∈ D, q < (fls V nums).length := fun q hq => by rw [fls_length]; exact (hDi q hq).1
  have ry := incs_rd T (fls V nums) hT hTi'
  have rx := incs_rd D (fls V nums) hD hDi'
  have ly : (incs (fls V nums) T).length = nums.length := by rw [incs_length, fls_length]
  have lx : (incs (fls V nums) D).length = nums.length := by rw [incs_length, fls_length]
  have sy : (incs (fls V nums) T).sum = (incs (fls V nums) D).sum := by rw [incs_sum _ _ hTi', incs_sum _ _ hDi', hTl, hDl]
  generalize incs (fls V nums) T = y at *
  generalize incs (fls V nums) D = x at *
  have ef : ∀ i : Nat, i < nums.length → rd (fls V nums) i = rd nums i / V := fun i hi => rd_mapB hi
  have hV := h.1
  have hBV := hB.1
  have T0 : ∀ i, i < nums.length → i ∈ T → 0 < rst V nums i := fun i hi hiT => by
    have := (hk i hi).1 hiT
    have r0 := (rst_inB hV nums i).1
    apply Classical.byContradiction; intro hcc
    unfold cz at this
    rw [if_pos (by omega)] at this
    omega
  have badAt : ¬ keeps V nums nm B D → ∃ i, i < nums.length ∧ (i ∈ D ∧ cz V nm B (rst V nums i) = -1 ∨ i ∉ D ∧ cz V nm B (rst V nums i) = 1) := fun hn => by
    apply Classical.byContradiction; intro hno
    refine hn fun i hi => ⟨fun c e => hno ⟨i, hi, .inl ⟨c, e⟩⟩, fun c e => hno ⟨i, hi, .inr ⟨c, e⟩⟩⟩
  by_cases n2 : nm = 2
  · subst n2
    have hE : ∀ i : Nat, i < nums.length → ((V * rd x i - rd nums i).natAbs : Int) ≤ nrm 2 (ers V nums x) := fun i hi => by
      rw [← rd_ersB lx hi]
      exact (fold2 (ers V nums x) 0).2.1 _ (rd_mem (by rw [ers_length lx]; exact hi))
    have E0 : 0 ≤ nrm 2 (ers V nums x) := (fold2 (ers V nums x) 0).1
    generalize nrm 2 (ers V nums x) = E at hE E0 ⊢
    have hEr : ∀ i : Nat, i < nums.length → (i ∈ D → V - rst V nums i ≤ E) ∧ (i ∉ D → rst V nums i ≤ E) := fun i hi => by
      have h1 := hE i hi
      have h2 := rst_inB hV nums i
      rw [rx, ef i hi, Int.mul_add, h2.2.2] at h1
      refine ⟨fun c => ?_, fun c => ?_⟩
      · rw [if_pos c, Int.mul_one] at h1; omega
      · rw [if_neg c, Int.mul_zero] at h1; omega
    have hBE : (B : Int) ≤ E := by
      apply Classical.byContradiction; intro hlt
      refine hB.2.2 E.toNat (by omega) ?_
      rw [Int.toNat_of_nonneg E0]
      refine ⟨fun _ i hi hh => ?_, ?_, ?_⟩
      · by_cases c : i ∈ D
        · have := (hEr i hi).1 c; omega
        · have := (hEr i hi).2 c; omega
      · rw [← hDl]
        refine nodup_leB ((List.nodup_range).filter _) fun i hi => ?_
        have h1 := onesL_mem.1 hi
        apply Classical.byContradiction; intro c
        have h2 := (hEr i h1.1).2 c
        have h3 := h1.2
        unfold cz at h3
        split at h3
        · omega
        · rw [if_pos rfl, if_neg (by omega)] at h3
          split at h3 <;> omega
      · rw [← List.length_append, ← hDl]
        refine nodup_leB hD fun i hi => ?_
        have h1 := hDi i hi
        have h2 := (hEr i h1.1).1 hi
        by_cases c : rst V nums i > E
        · refine List.mem_append_left _ (onesL_mem.2 ⟨h1.1, ?_⟩)
          unfold cz
          rw [if_neg (by omega), if_pos rfl, if_pos c]
        · refine List.mem_append_right _ (zerosL_mem.2 ⟨h1.1, ?_⟩)
          unfold cz
          rw [if_neg (by omega), if_pos rfl, if_neg c, if_neg (by omega)]
    have hyB : nrm 2 (ers V nums y) ≤ B := by
      refine (fold2 _ 0).2.2 B (by omega) fun q hq => ?_
      obtain ⟨i, hi, rfl⟩ := List.getElem_of_mem hq
      have hi2 : i < nums.length := by rw [ers_length ly] at hi; exact hi
      rw [← rd_nat hi, rd_ersB ly hi2, ry, ef i hi2, Int.mul_add]
      have h2 := rst_inB hV nums i
      have h3 := hB.2.1.1 rfl i hi2
      have h4 := hk i hi2
      rw [h2.2.2]
      by_cases c : i ∈ T
      · rw [if_pos c, Int.mul_one]
        have h5 := h4.1 c
        have h6 := T0 i hi2 c
        unfold cz at h5
        rw [if_neg (by omega), if_pos rfl] at h5
        by_cases c2 : rst V nums i > (B : Int)
        · omega
        · rw [if_neg c2] at h5
          by_cases c3 : V - rst V nums i > (B : Int)
          · rw [if_pos c3] at h5; omega
          · omega
      · rw [if_neg c, Int.mul_zero]
        have h5 := h4.2 c
        unfold cz at h5
        by_cases c1 : rst V nums i = 0
        · omega
        · rw [if_neg c1, if_pos rfl] at h5
          by_cases c2 : rst V nums i > (B : Int)
          · rw [if_pos c2] at h5; omega
          · omega
    refine ⟨by omega, fun hn => ?_⟩
    obtain ⟨i, hi, hb⟩ := badAt hn
    have h2 := hEr i hi
    rcases hb with ⟨c, e⟩ | ⟨c, e⟩
    · have h3 := h2.1 c
      have h4 := (hDi i c).2
      unfold cz at e
      rw [if_neg (by omega), if_pos rfl] at e
      by_cases c2 : rst V nums i > (B : Int)
      · rw [if_pos c2] at e; omega
      · rw [if_neg c2] at e
        by_cases c3 : V - rst V nums i > (B : Int)
        · omega
        · rw [if_neg c3] at e; omega
    · have h3 := h2.2 c
      unfold cz at e
      by_cases c1 : rst V nums i = 0
      · rw [if_pos c1] at e; omega
      · rw [if_neg c1, if_pos rfl] at e
        by_cases c2 : rst V nums i > (B : Int)
        · omega
        · rw [if_neg c2] at e
          split at e <;> omega
  · have cut : ∀ i, i < nums.length → (cz V nm B (rst V nums i) = 1 → V - B < rst V nums i) ∧ (cz V nm B (rst V nums i) = 0 → rst V nums i = V - B) ∧ (cz V nm B (rst V nums i) = -1 → rst V nums i < V - B ∨ rst V nums i = 0) := fun i hi => by
      unfold cz
      by_cases c1 : rst V nums i = 0
      · rw [if_pos c1]; omega
      · rw [if_neg c1, if_neg n2]
        by_cases c2 : rst V nums i > V - (B : Int)
        · rw [if_pos c2]; omega
        · rw [if_neg c2]
          by_cases c3 : rst V nums i < V - (B : Int)
          · rw [if_pos c3]; omega
          · rw [if_neg c3]; omega
    have hcut : ∀ i, i < nums.length → (i ∈ T → V - B ≤ rst V nums i) ∧ (i ∉ T → rst V nums i ≤ V - B) := fun i hi => by
      have h4 := hk i hi
      have h2 := rst_inB hV nums i
      have h3 := cut i hi
      have h5 := cz_three V nm B (rst V nums i)
      exact ⟨fun c => by have := h4.1 c; omega, fun c => by have := h4.2 c; omega⟩
    have badC : ∀ i, i < nums.length → (i ∈ D ∧ cz V nm B (rst V nums i) = -1 ∨ i ∉ D ∧ cz V nm B (rst V nums i) = 1) → (i ∈ D ∧ i ∉ T ∧ rst V nums i < V - B) ∨ (i ∉ D ∧ i ∈ T ∧ V - B < rst V nums i) := fun i hi hb => by
      have h4 := hk i hi
      have h3 := cut i hi
      rcases hb with ⟨c, e⟩ | ⟨c, e⟩
      · refine .inl ⟨c, fun hh => h4.1 hh e, ?_⟩
        have := (hDi i c).2
        omega
      · refine .inr ⟨c, ?_, h3.1 e⟩
        apply Classical.byContradiction; intro hh
        exact h4.2 hh e
    have sq : ∀ i, (V - rst V nums i) * (V - rst V nums i) = V * V - 2 * (V * rst V nums i) + rst V nums i * rst V nums i := fun i => by
      rw [Int.sub_mul, Int.mul_sub, Int.mul_sub, Int.mul_comm (rst V nums i) V]; omega
    have sr : ∀ i, (- rst V nums i) * (- rst V nums i) = rst V nums i * rst V nums i := fun i => Int.neg_mul_neg ..
    have t1 : ∀ i : Nat, rd nums ↑i - rst V nums i + V * 1 - rd nums ↑i = V - rst V nums i := fun i => by omega
    have t0 : ∀ i : Nat, rd nums ↑i - rst V nums i + V * 0 - rd nums ↑i = - rst V nums i := fun i => by omega
    by_cases n0 : nm = 0
    · subst n0
      have pt : ∀ i : Nat, i < nums.length → ((V * rd y i - rd nums i).natAbs : Int) + (2 * (V - B) - V) * rd y i ≤ ((V * rd x i - rd nums i).natAbs : Int) + (2 * (V - B) - V) * rd x i ∧ ((i ∈ D ∧ i ∉ T ∧ rst V nums i < V - B) ∨ (i ∉ D ∧ i ∈ T ∧ V - B < rst V nums i) → ((V * rd y i - rd nums i).natAbs : Int) + (2 * (V - B) - V) * rd y i < ((V * rd x i - rd nums i).natAbs : Int) + (2 * (V - B) - V) * rd x i) := fun i hi => by
        have h2 := rst_inB hV nums i
        have h3 := hcut i hi
        rw [rx, ry, ef i hi, Int.mul_add, Int.mul_add, Int.mul_add, Int.mul_add, h2.2.2]
        generalize (2 * (V - ↑B) - V) * (rd nums ↑i / V) = L
        by_cases c : i ∈ T
        · have := h3.1 c
          rw [if_pos c]
          by_cases c2 : i ∈ D
          · rw [if_pos c2]
            exact ⟨Int.le_refl _, fun hb => by
              rcases hb with hb | hb
              · exact absurd c hb.2.1
              · exact absurd c2 hb.1⟩
          · rw [if_neg c2]
            exact ⟨by omega, fun hb => by
              rcases hb with hb | hb
              · exact absurd hb.1 c2
              · have := hb.2.2; omega⟩
        · have := h3.2 c
          rw [if_neg c]
          by_cases c2 : i ∈ D
          · rw [if_pos c2]
            exact ⟨by omega, fun hb => by
              rcases hb with hb | hb
              · have := hb.2.2; omega
              · exact absurd hb.2.1 c⟩
          · rw [if_neg c2]
            exact ⟨Int.le_refl _, fun hb => by
              rcases hb with hb | hb
              · exact absurd hb.1 c2
              · exact absurd hb.2.1 c⟩
      unfold nrm
      rw [fold0, fold0]
      have le := lag (V := V) (lam := 2 * (V - B) - V) (g := fun e => (e.natAbs : Int)) nums x y lx ly (fun i hi => (pt i hi).1)
      rw [sy] at le
      refine ⟨by omega, fun hn => ?_⟩
      obtain ⟨i, hi, hb⟩ := badAt hn
      have lt := lag2 (V := V) (lam := 2 * (V - B) - V) (g := fun e => (e.natAbs : Int)) nums x y lx ly (fun i hi => (pt i hi).1) ⟨i, hi, (pt i hi).2 (badC i hi hb)⟩
      rw [sy] at lt
      omega
    · obtain rfl : nm = 1 := by omega
      have pt : ∀ i : Nat, i < nums.length → (V * rd y i - rd nums i) * (V * rd y i - rd nums i) + (2 * (V * (V - B)) - V * V) * rd y i ≤ (V * rd x i - rd nums i) * (V * rd x i - rd nums i) + (2 * (V * (V - B)) - V * V) * rd x i ∧ ((i ∈ D ∧ i ∉ T ∧ rst V nums i < V - B) ∨ (i ∉ D ∧ i ∈ T ∧ V - B < rst V nums i) → (V * rd y i - rd nums i) * (V * rd y i - rd nums i) + (2 * (V * (V - B)) - V * V) * rd y i < (V * rd x i - rd nums i) * (V * rd x i - rd nums i) + (2 * (V * (V - B)) - V * V) * rd x i) := fun i hi => by
        have h2 := rst_inB hV nums i
        have h3 := hcut i hi
        rw [rx, ry, ef i hi, Int.mul_add, Int.mul_add, Int.mul_add, Int.mul_add, h2.2.2]
        generalize (2 * (V * (V - ↑B)) - V * V) * (rd nums ↑i / V) = L
        by_cases c : i ∈ T
        · have h5 := h3.1 c
          rw [if_pos c]
          by_cases c2 : i ∈ D
          · rw [if_pos c2]
            exact ⟨Int.le_refl _, fun hb => by
              rcases hb with hb | hb
              · exact absurd c hb.2.1
              · exact absurd c2 hb.1⟩
          · rw [if_neg c2, t1, t0, sq, sr]
            have := Int.mul_le_mul_of_nonneg_left h5 (show 0 ≤ V by omega)
            exact ⟨by omega, fun hb => by
              rcases hb with hb | hb
              · exact absurd hb.1 c2
              · have := Int.mul_lt_mul_of_pos_left hb.2.2 (show 0 < V by omega); omega⟩
        · have h5 := h3.2 c
          rw [if_neg c]
          by_cases c2 : i ∈ D
          · rw [if_pos c2, t1, t0, sq, sr]
            have := Int.mul_le_mul_of_nonneg_left h5 (show 0 ≤ V by omega)
            exact ⟨by omega, fun hb => by
              rcases hb with hb | hb
              · have := Int.mul_lt_mul_of_pos_left hb.2.2 (show 0 < V by omega); omega
              · exact absurd hb.2.1 c⟩
          · rw [if_neg c2]
            exact ⟨Int.le_refl _, fun hb => by
              rcases hb with hb | hb
              · exact absurd hb.1 c2
              · exact absurd hb.2.1 c⟩
      unfold nrm
      rw [fold1, fold1]
      have le := lag (V := V) (lam := 2 * (V * (V - B)) - V * V) (g := fun e => e * e) nums x y lx ly (fun i hi => (pt i hi).1)
      rw [sy] at le
      refine ⟨by omega, fun hn => ?_⟩
      obtain ⟨i, hi, hb⟩ := badAt hn
      have lt := lag2 (V := V) (lam := 2 * (V * (V - B)) - V * V) (g := fun e => e * e) nums x y lx ly (fun i hi => (pt i hi).1) ⟨i, hi, (pt i hi).2 (badC i hi hb)⟩
      rw [sy] at lt
      omega
end Go.Proofs.Ytgmmfdilfpkbmaa.Q
end
