import Derived.Test.YtanflefkbbhimaaXQRCFnRunning
namespace Go.Proofs.Ytanflefkbbhimaa.Q
open Go.RowKit Go.Proofs.YtanflefkbbhimaaW.PrintWords Go.Proofs.YtanflefkbbhimaaW.PrintLast Go.Proofs.Ytanflefkbbhimaa.P Go.Proofs.Ytanflefkbbhimaa.B
set_option linter.unusedVariables false
set_option linter.unusedSimpArgs false
def cnm (P : Nat → Bool) : Nat → Nat
  | 0 => 0
  | n + 1 => cnm P n + if P n = true then 1 else 0
theorem cnm_le (P : Nat → Bool) : ∀ n, cnm P n ≤ n
  | 0 => Nat.le_refl _
  | n + 1 => by
    have := cnm_le P n
    simp only [cnm]
    split <;> omega
theorem cnm_congr {P Q : Nat → Bool} : ∀ n, (∀ w, w < n → P w = Q w) → cnm P n = cnm Q n
  | 0, _ => rfl
  | n + 1, h => by
    simp only [cnm]
    rw [cnm_congr n (fun w hw => h w (by omega)), h n (by omega)]
theorem cnm_none {P : Nat → Bool} : ∀ n, (∀ w, w < n → P w = false) → cnm P n = 0
  | 0, _ => rfl
  | n + 1, h => by
    simp only [cnm]
    rw [cnm_none n (fun w hw => h w (by omega)), h n (by omega)]
    rfl
theorem cnm_two (P : Nat → Bool) : ∀ n, cnm P (2 * n) = cnm (fun w => P (2 * w)) n + cnm (fun w => P (2 * w + 1)) n
  | 0 => rfl
  | n + 1 => by
    have ih := cnm_two P n
    show cnm P (2 * n) + (if P (2 * n) = true then 1 else 0) + (if P (2 * n + 1) = true then 1 else 0) = (cnm (fun w => P (2 * w)) n + if P (2 * n) = true then 1 else 0) + (cnm (fun w => P (2 * w + 1)) n + if P (2 * n + 1) = true then 1 else 0)
    rw [ih]
    omega
def chb (den : Int) : List Int → Nat → List Int
  | [], _ => []
  | x :: xs, w => (if w % 2 = 1 then cl x den else x / den) :: chb den xs (w / 2)
def agn (den : Int) : List Int → Nat → Bool
  | [], _ => false
  | x :: xs, w => (decide (w % 2 = 1) && decide (x % den = 0)) || agn den xs (w / 2)
theorem chb_length (den : Int) : ∀ (l : List Int) (w : Nat), (chb den l w).length = l.length
  | [], _ => rfl
  | x :: xs, w => by simp only [chb, List.length_cons, chb_length den xs]
theorem run_cons (den b e x n : Int) (xs c : List Int) : allIn (ps e (ers den (x :: xs) (n :: c))) (-b) b = (decide (-b ≤ e + den * n - x ∧ e + den * n - x ≤ b) && allIn (ps (e + den * n - x) (ers den xs c)) (-b) b) := by
  have h : e + (den * n - x) = e + den * n - x := by omega
  show (decide (-b ≤ e + (den * n - x) ∧ e + (den * n - x) ≤ b) && allIn (ps (e + (den * n - x)) (ers den xs c)) (-b) b) = _
  rw [h]
theorem mod_zero_iff {den x : Int} (hd : 1 ≤ den) : x % den = 0 ↔ x / den = cl x den := by
  have h1 := cl_eq (x := x) hd
  have h2 := Int.emod_add_mul_ediv x den
  constructor
  · intro h
    rcases h1 with h1 | h1 <;> omega
  · intro h
    rcases h1 with h1 | h1 <;> omega
theorem cnt_mask {den b : Int} (hd : 1 ≤ den) : ∀ (l : List Int) (e : Int), ((cnm (fun w => !agn den l w && allIn (ps e (ers den l (chb den l w))) (-b) b) (2 ^ l.length) : Nat) : Int) = cntW den b l e
  | [], e => rfl
  | x :: xs, e => by
    have half : ∀ n, ((cnm (fun w => !agn den xs w && (decide (-b ≤ e + den * n - x ∧ e + den * n - x ≤ b) && allIn (ps (e + den * n - x) (ers den xs (chb den xs w))) (-b) b)) (2 ^ xs.length) : Nat) : Int) = cntT den b xs x e n := fun n => by
      unfold cntT
      by_cases c : -b ≤ e + den * n - x ∧ e + den * n - x ≤ b
      · rw [if_pos c, ← cnt_mask hd xs (e + den * n - x), decide_eq_true c]
        simp only [Bool.true_and]
      · rw [if_neg c, decide_eq_false c, cnm_none _ (fun w _ => by simp)]
        rfl
    have h0 := half (x / den)
    have h1 := half (cl x den)
    have e0 : cnm (fun w => !agn den (x :: xs) (2 * w) && allIn (ps e (ers den (x :: xs) (chb den (x :: xs) (2 * w)))) (-b) b) (2 ^ xs.length) = cnm (fun w => !agn den xs w && (decide (-b ≤ e + den * (x / den) - x ∧ e + den * (x / den) - x ≤ b) && allIn (ps (e + den * (x / den) - x) (ers den xs (chb den xs w))) (-b) b)) (2 ^ xs.length) := cnm_congr _ fun w _ => by
      simp only [chb, agn]
      rw [show 2 * w % 2 = 0 by omega, show 2 * w / 2 = w by omega, if_neg (by decide), run_cons]
      simp
    rw [List.length_cons, Nat.pow_succ, Nat.mul_comm, cnm_two, e0, cntW_cons, Int.natCast_add, h0]
    by_cases c : x % den = 0
    · have hc := (mod_zero_iff hd).1 c
      have e1 : cnm (fun w => !agn den (x :: xs) (2 * w + 1) && allIn (ps e (ers den (x :: xs) (chb den (x :: xs) (2 * w + 1)))) (-b) b) (2 ^ xs.length) = 0 := cnm_none _ fun w _ => by
        simp only [agn]
        rw [show (2 * w + 1) % 2 = 1 by omega, decide_eq_true c]
        simp
      rw [e1]
      unfold chs
      rw [if_pos hc]
      simp
    · have hc : ¬ x / den = cl x den := fun z => c ((mod_zero_iff hd).2 z)
      have e1 : cnm (fun w => !agn den (x :: xs) (2 * w + 1) && allIn (ps e (ers den (x :: xs) (chb den (x :: xs) (2 * w + 1)))) (-b) b) (2 ^ xs.length) = cnm (fun w => !agn den xs w && (decide (-b ≤ e + den * cl x den - x ∧ e + den * cl x den - x ≤ b) && allIn (ps (e + den * cl x den - x) (ers den xs (chb den xs w))) (-b) b)) (2 ^ xs.length) := cnm_congr _ fun w _ => by
        simp only [chb, agn]
        rw [show (2 * w + 1) % 2 = 1 by omega, show (2 * w + 1) / 2 = w by omega, if_pos rfl, run_cons, decide_eq_false c]
        simp
      rw [e1, h1]
      unfold chs
      rw [if_neg hc]
      simp
theorem rnd_chb (den : Int) : ∀ (l : List Int) (w : Nat), rnd den l (chb den l w) = true
  | [], _ => rfl
  | x :: xs, w => by
    have ih := rnd_chb den xs (w / 2)
    show ((decide ((if w % 2 = 1 then cl x den else x / den) = x / den) || decide ((if w % 2 = 1 then cl x den else x / den) = cl x den)) && rnd den xs (chb den xs (w / 2))) = true
    rw [ih]
    split <;> simp
theorem lst_le {den B : Int} (hB : 0 ≤ B) : ∀ (l : List Int) (e : Int) (w : Nat), (∀ y ∈ ps e (ers den l (chb den l w)), -B ≤ y ∧ y ≤ B) → lst den l e ≤ B
  | [], _, _, _ => hB
  | x :: xs, e, w, h => by
    obtain ⟨n, hn⟩ : ∃ n, n = (if w % 2 = 1 then cl x den else x / den) := ⟨_, rfl⟩
    have hc : chb den (x :: xs) w = n :: chb den xs (w / 2) := by rw [hn]; rfl
    have hm : n ∈ chs den x := chs_mem.2 (by rw [hn]; split <;> simp)
    have he : e + (den * n - x) = e + den * n - x := by omega
    have hp : ps e (ers den (x :: xs) (n :: chb den xs (w / 2))) = (e + den * n - x) :: ps (e + den * n - x) (ers den xs (chb den xs (w / 2))) := by
      show (e + (den * n - x)) :: ps (e + (den * n - x)) (ers den xs (chb den xs (w / 2))) = _
      rw [he]
    rw [hc, hp] at h
    have h1 := h _ List.mem_cons_self
    have h2 := lst_le hB xs (e + den * n - x) (w / 2) (fun y hy => h y (List.mem_cons_of_mem _ hy))
    rw [lst]
    exact (minL_le (chs_ne den x) B).2 ⟨n, hm, by omega⟩
theorem pickC_some {den b : Int} {xs : List Int} {x e : Int} : ∀ L : List Int, (∃ n ∈ L, (-b ≤ e + den * n - x ∧ e + den * n - x ≤ b) ∧ 0 < cntW den b xs (e + den * n - x)) → ∃ n ∈ L, pickC den b xs x e L = some n ∧ (-b ≤ e + den * n - x ∧ e + den * n - x ≤ b) ∧ 0 < cntW den b xs (e + den * n - x)
  | [], ⟨n, h, _⟩ => by simp at h
  | m :: L, ⟨n, h, hn⟩ => by
    simp only [pickC]
    by_cases c : (-b ≤ e + den * m - x ∧ e + den * m - x ≤ b) ∧ 0 < cntW den b xs (e + den * m - x)
    · rw [if_pos c]; exact ⟨m, List.mem_cons_self, rfl, c⟩
    · rw [if_neg c]
      rcases List.mem_cons.1 h with rfl | h
      · exact absurd hn c
      · obtain ⟨k, h1, h2⟩ := pickC_some L ⟨n, h, hn⟩
        exact ⟨k, List.mem_cons_of_mem _ h1, h2⟩
theorem grd_mask {den b : Int} (hd : 1 ≤ den) (hb : 0 ≤ b) : ∀ (l : List Int) (e : Int), lst den l e ≤ b → ∃ w, w < 2 ^ l.length ∧ chb den l w = grd den b l e ∧ ∀ y ∈ ps e (ers den l (chb den l w)), -b ≤ y ∧ y ≤ b
  | [], _, _ => ⟨0, by decide, rfl, fun y hy => by simp [ers, ps] at hy⟩
  | x :: xs, e, h => by
    rw [lst] at h
    obtain ⟨n, hn, hle⟩ := (minL_le (chs_ne den x) b).1 h
    obtain ⟨m, hm, hp, hr, hc⟩ := pickC_some (den := den) (b := b) (xs := xs) (x := x) (e := e) (chs den x) ⟨n, hn, by omega, (cntW_pos den hb xs _).2 (by omega)⟩
    obtain ⟨w, hw, hcw, hys⟩ := grd_mask hd hb xs (e + den * m - x) ((cntW_pos den hb xs _).1 hc)
    have he : e + (den * m - x) = e + den * m - x := by omega
    have hg : grd den b (x :: xs) e = m :: grd den b xs (e + den * m - x) := by simp only [grd, hp]
    have fin : ∀ v, v < 2 ^ (x :: xs).length → chb den (x :: xs) v = m :: chb den xs w → ∃ w, w < 2 ^ (x :: xs).length ∧ chb den (x :: xs) w = grd den b (x :: xs) e ∧ ∀ y ∈ ps e (ers den (x :: xs) (chb den (x :: xs) w)), -b ≤ y ∧ y ≤ b := fun v hv hc => by
      refine ⟨v, hv, by rw [hc, hg, hcw], fun y hy => ?_⟩
      rw [hc] at hy
      have hy : y ∈ (e + (den * m - x)) :: ps (e + (den * m - x)) (ers den xs (chb den xs w)) := hy
      rw [he] at hy
      rcases List.mem_cons.1 hy with rfl | hy
      · exact hr
      · exact hys y hy
    have hpow : 2 ^ (x :: xs).length = 2 ^ xs.length * 2 := by rw [List.length_cons, Nat.pow_succ]
    rcases chs_mem.1 hm with e1 | e1
    · refine fin (2 * w) (by omega) ?_
      show (if 2 * w % 2 = 1 then cl x den else x / den) :: chb den xs (2 * w / 2) = _
      rw [if_neg (by omega), show 2 * w / 2 = w by omega, e1]
    · refine fin (2 * w + 1) (by omega) ?_
      show (if (2 * w + 1) % 2 = 1 then cl x den else x / den) :: chb den xs ((2 * w + 1) / 2) = _
      rw [if_pos (by omega), show (2 * w + 1) / 2 = w by omega, e1]
theorem fl_diff {den s x : Int} (hd : 1 ≤ den) : (s + x) / den - s / den = x / den ∨ (s + x) / den - s / den = cl x den := by
  have h1 := ediv_mul_le (a := s) hd
  have h2 := ediv_mul_le (a := x) hd
  have h3 := ediv_mul_le (a := s + x) hd
  have h4 := cl_eq (x := x) hd
  have e2 : den * (x / den) = x / den * den := Int.mul_comm _ _
  obtain ⟨u, hu⟩ : ∃ u, (s + x) / den = s / den + x / den + u := ⟨(s + x) / den - s / den - x / den, by omega⟩
  have e3 : (s + x) / den * den = s / den * den + x / den * den + u * den := by rw [hu, Int.add_mul, Int.add_mul]
  rw [e3] at h3
  have u0 : -1 < u := by
    apply Classical.byContradiction
    intro c
    have : u * den ≤ (-1) * den := Int.mul_le_mul_of_nonneg_right (by omega) (by omega)
    omega
  have u2 : u < 2 := by
    apply Classical.byContradiction
    intro c
    have : 2 * den ≤ u * den := Int.mul_le_mul_of_nonneg_right (by omega) (by omega)
    omega
  rcases (show u = 0 ∨ u = 1 by omega) with rfl | rfl
  · left; omega
  · right
    rw [Int.one_mul] at h3
    rcases h4 with h4 | h4 <;> omega
theorem rnd_pf {den : Int} (hd : 1 ≤ den) : ∀ (l : List Int) (s : Int), rnd den l (pf (· / den) s l) = true
  | [], _ => rfl
  | x :: xs, s => by
    have ih := rnd_pf hd xs (s + x)
    have h := fl_diff (s := s) (x := x) hd
    show ((decide ((s + x) / den - s / den = x / den) || decide ((s + x) / den - s / den = cl x den)) && rnd den xs (pf (· / den) (s + x) xs)) = true
    rw [ih]
    rcases h with h | h <;> simp [h]
theorem ps_pf (den : Int) (f : Int → Int) : ∀ (l : List Int) (s e : Int), e = den * f s - s → ps e (ers den l (pf f s l)) = (ps s l).map fun p => den * f p - p
  | [], _, _, _ => rfl
  | x :: xs, s, e, h => by
    have he : e + (den * (f (s + x) - f s) - x) = den * f (s + x) - (s + x) := by rw [h, Int.mul_sub]; omega
    have ih := ps_pf den f xs (s + x) (den * f (s + x) - (s + x)) rfl
    show (e + (den * (f (s + x) - f s) - x)) :: ps (e + (den * (f (s + x) - f s) - x)) (ers den xs (pf f (s + x) xs)) = _
    rw [he, ih]
    rfl
theorem pf_in {f : Int → Int} {M : Int} : ∀ (l : List Int) (s : Int), (-M ≤ f s ∧ f s ≤ M) → (∀ p ∈ ps s l, -M ≤ f p ∧ f p ≤ M) → ∀ y ∈ pf f s l, -(2 * M) ≤ y ∧ y ≤ 2 * M
  | [], _, _, _, y, hy => by simp [pf] at hy
  | x :: xs, s, hs, h, y, hy => by
    have h1 := h (s + x) (show s + x ∈ (s + x) :: ps (s + x) xs from List.mem_cons_self)
    rcases List.mem_cons.1 (show y ∈ (f (s + x) - f s) :: pf f (s + x) xs from hy) with rfl | hy
    · omega
    · exact pf_in xs (s + x) h1 (fun p hp => h p (show p ∈ (s + x) :: ps (s + x) xs from List.mem_cons_of_mem _ hp)) y hy
theorem chb_in {den M : Int} (hd : 1 ≤ den) (hM : 0 ≤ M) : ∀ (l : List Int) (w : Nat), (∀ x ∈ l, -M ≤ x ∧ x ≤ M) → ∀ y ∈ chb den l w, -M ≤ y ∧ y ≤ M
  | [], _, _, y, hy => by simp [chb] at hy
  | x :: xs, w, h, y, hy => by
    have hx := h x List.mem_cons_self
    rcases List.mem_cons.1 (show y ∈ (if w % 2 = 1 then cl x den else x / den) :: chb den xs (w / 2) from hy) with rfl | hy
    · split
      · exact cl_bounds hd hM hx.1 hx.2
      · exact ediv_bounds hd hM hx.1 hx.2
    · exact chb_in hd hM xs (w / 2) (fun x hx => h x (List.mem_cons_of_mem _ hx)) y hy
theorem ers_chb {den : Int} (hd : 1 ≤ den) : ∀ (l : List Int) (w : Nat), ∀ y ∈ ers den l (chb den l w), -den ≤ y ∧ y ≤ den
  | [], _, y, hy => by simp [chb, ers] at hy
  | x :: xs, w, y, hy => by
    have h1 := ediv_mul_le (a := x) hd
    have h2 := cl_mul (a := x) hd
    have e1 : den * (x / den) = x / den * den := Int.mul_comm _ _
    have e2 : den * cl x den = cl x den * den := Int.mul_comm _ _
    rcases List.mem_cons.1 (show y ∈ (den * (if w % 2 = 1 then cl x den else x / den) - x) :: ers den xs (chb den xs (w / 2)) from hy) with rfl | hy
    · split <;> omega
    · exact ers_chb hd xs (w / 2) y hy
theorem gr_le : ∀ (L : List Int) (s : Int), s ≤ gr s L ∧ ∀ y ∈ L, (y.natAbs : Int) ≤ gr s L
  | [], s => ⟨Int.le_refl _, fun y hy => by simp at hy⟩
  | x :: L, s => by
    have ih := gr_le L (max s (x.natAbs : Int))
    have e : gr s (x :: L) = gr (max s (x.natAbs : Int)) L := rfl
    rw [e]
    refine ⟨by omega, fun y hy => ?_⟩
    rcases List.mem_cons.1 hy with rfl | hy
    · omega
    · exact ih.2 y hy
theorem gr_most {B : Int} : ∀ (L : List Int) (s : Int), s ≤ B → (∀ y ∈ L, -B ≤ y ∧ y ≤ B) → gr s L ≤ B
  | [], s, h, _ => h
  | x :: L, s, h, hy => by
    have hx := hy x List.mem_cons_self
    exact gr_most L (max s (x.natAbs : Int)) (by omega) (fun y hm => hy y (List.mem_cons_of_mem _ hm))
end Go.Proofs.Ytanflefkbbhimaa.Q
