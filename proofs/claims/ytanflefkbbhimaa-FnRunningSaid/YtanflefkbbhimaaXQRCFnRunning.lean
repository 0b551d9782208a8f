import Derived.Test.YtanflefkbbhimaaXQ5FnRunning
import Derived.Test.YtanflefkbbhimaaXLCFnRunning
import Derived.Test.YtanflefkbbhimaaXLBFnRunning
import Derived.Test.YtanflefkbbhimaaXLFnRunning
namespace Go.Proofs.Ytanflefkbbhimaa.Q
open Go.RowKit Go.Proofs.YtanflefkbbhimaaW.PrintWords Go.Proofs.YtanflefkbbhimaaW.PrintLast Go.Proofs.Ytanflefkbbhimaa.P Go.Proofs.Ytanflefkbbhimaa.B
set_option linter.unusedVariables false
set_option linter.unusedSimpArgs false
def minL (f : Int → Int) : List Int → Int
  | [] => 0
  | [n] => f n
  | n :: m :: ns => min (f n) (minL f (m :: ns))
theorem minL_le {f : Int → Int} : ∀ {L : List Int}, L ≠ [] → ∀ b, minL f L ≤ b ↔ ∃ n ∈ L, f n ≤ b
  | [], h, _ => absurd rfl h
  | [n], _, b => by simp [minL]
  | n :: m :: ns, _, b => by
    have ih := minL_le (f := f) (L := m :: ns) (by simp) b
    rw [minL, show (min (f n) (minL f (m :: ns)) ≤ b ↔ f n ≤ b ∨ minL f (m :: ns) ≤ b) by omega, ih]
    simp
theorem minL_mem {f : Int → Int} : ∀ {L : List Int}, L ≠ [] → ∃ n ∈ L, minL f L = f n
  | [], h => absurd rfl h
  | [n], _ => ⟨n, by simp, rfl⟩
  | n :: m :: ns, _ => by
    obtain ⟨k, hk, e⟩ := minL_mem (f := f) (L := m :: ns) (by simp)
    rw [minL]
    rcases Int.le_total (f n) (minL f (m :: ns)) with h | h
    · exact ⟨n, by simp, by omega⟩
    · exact ⟨k, List.mem_cons_of_mem _ hk, by omega⟩
theorem chs_ne (den x : Int) : chs den x ≠ [] := by
  have := (chs_len den x).1
  intro h
  rw [h] at this
  simp at this
def lst (den : Int) : List Int → Int → Int
  | [], _ => 0
  | x :: xs, e => minL (fun n => max ((e + den * n - x).natAbs : Int) (lst den xs (e + den * n - x))) (chs den x)
theorem lst_nn (den : Int) : ∀ (l : List Int) (e : Int), 0 ≤ lst den l e
  | [], _ => Int.le_refl _
  | x :: xs, e => by
    obtain ⟨n, _, h⟩ := minL_mem (f := fun n => max ((e + den * n - x).natAbs : Int) (lst den xs (e + den * n - x))) (chs_ne den x)
    rw [lst, h]
    have := lst_nn den xs (e + den * n - x)
    omega
theorem sum_pos_iff {f : Int → Int} (hf : ∀ n, 0 ≤ f n) : ∀ L : List Int, 0 < (L.map f).sum ↔ ∃ n ∈ L, 0 < f n
  | [] => by simp
  | a :: L => by
    have ih := sum_pos_iff hf L
    have h1 := hf a
    have h2 : 0 ≤ (L.map f).sum := by
      have := sum_le_two_nn hf L
      exact this
    rw [List.map_cons, List.sum_cons]
    constructor
    · intro h
      by_cases c : 0 < f a
      · exact ⟨a, List.mem_cons_self, c⟩
      · obtain ⟨n, hn, hp⟩ := ih.1 (by omega)
        exact ⟨n, List.mem_cons_of_mem _ hn, hp⟩
    · rintro ⟨n, hn, hp⟩
      rcases List.mem_cons.1 hn with rfl | hn
      · omega
      · have := ih.2 ⟨n, hn, hp⟩
        omega
where
  sum_le_two_nn {f : Int → Int} (hf : ∀ n, 0 ≤ f n) : ∀ L : List Int, 0 ≤ (L.map f).sum
    | [] => by simp
    | a :: L => by
      have := sum_le_two_nn hf L
      have := hf a
      rw [List.map_cons, List.sum_cons]
      omega
theorem cntW_pos (den : Int) {b : Int} (hb : 0 ≤ b) : ∀ (l : List Int) (e : Int), 0 < cntW den b l e ↔ lst den l e ≤ b
  | [], e => by simp [cntW, lst, hb]
  | x :: xs, e => by
    rw [cntW_cons, sum_pos_iff (fun n => (cntT_in den b xs x e n).1), lst, minL_le (chs_ne den x)]
    constructor
    · rintro ⟨n, hn, h⟩
      refine ⟨n, hn, ?_⟩
      unfold cntT at h
      split at h
      · rename_i c
        have := (cntW_pos den hb xs _).1 h
        omega
      · omega
    · rintro ⟨n, hn, h⟩
      refine ⟨n, hn, ?_⟩
      unfold cntT
      rw [if_pos (by omega)]
      exact (cntW_pos den hb xs _).2 (by omega)
theorem cl_eq {den x : Int} (hd : 1 ≤ den) : (den * (x / den) = x ∧ cl x den = x / den) ∨ (den * (x / den) < x ∧ cl x den = x / den + 1) := by
  have h1 := ediv_mul_le (a := x) hd
  have h2 := cl_mul (a := x) hd
  have e : den * (x / den) = x / den * den := Int.mul_comm _ _
  rcases Int.lt_or_eq_of_le h1.1 with h | h
  · right
    refine ⟨by omega, ?_⟩
    have l1 : ¬ cl x den ≤ x / den := fun z => by
      have : cl x den * den ≤ x / den * den := Int.mul_le_mul_of_nonneg_right z (by omega)
      omega
    have l2 : ¬ x / den + 2 ≤ cl x den := fun z => by
      have : (x / den + 2) * den ≤ cl x den * den := Int.mul_le_mul_of_nonneg_right z (by omega)
      rw [Int.add_mul] at this
      omega
    omega
  · left
    refine ⟨by omega, ?_⟩
    have l1 : ¬ cl x den < x / den := fun z => by
      have : (cl x den + 1) * den ≤ x / den * den := Int.mul_le_mul_of_nonneg_right z (by omega)
      rw [Int.add_mul] at this
      omega
    have l2 : ¬ x / den + 1 ≤ cl x den := fun z => by
      have : (x / den + 1) * den ≤ cl x den * den := Int.mul_le_mul_of_nonneg_right z (by omega)
      rw [Int.add_mul] at this
      omega
    omega
theorem chs_mem {den x n : Int} : n ∈ chs den x ↔ n = x / den ∨ n = cl x den := by
  unfold chs
  split
  · rename_i h
    rw [List.mem_singleton, ← h]
    simp
  · simp
theorem lst_lt {den : Int} (hd : 1 ≤ den) : ∀ (l : List Int) (e : Int), -den < e ∧ e ≤ 0 → lst den l e < den
  | [], _, _ => by simp only [lst]; omega
  | x :: xs, e, he => by
    have h1 := ediv_mul_le (a := x) hd
    have e1 : den * (x / den) = x / den * den := Int.mul_comm _ _
    have fin : ∀ n, n ∈ chs den x → -den < e + den * n - x ∧ e + den * n - x ≤ 0 → lst den (x :: xs) e < den := fun n hn h => by
      have ih := lst_lt hd xs _ h
      have := (minL_le (f := fun n => max ((e + den * n - x).natAbs : Int) (lst den xs (e + den * n - x))) (chs_ne den x) (den - 1)).2 ⟨n, hn, by show max ((e + den * n - x).natAbs : Int) (lst den xs (e + den * n - x)) ≤ den - 1; omega⟩
      rw [lst]
      omega
    by_cases c : -den < e + den * (x / den) - x
    · exact fin (x / den) (chs_mem.2 (.inl rfl)) ⟨c, by omega⟩
    · rcases cl_eq (x := x) hd with ⟨h2, h3⟩ | ⟨h2, h3⟩
      · omega
      · refine fin (cl x den) (chs_mem.2 (.inr rfl)) ?_
        rw [h3, Int.mul_add, Int.mul_one]
        omega
theorem lst_at (den : Int) : ∀ (l : List Int) (e s : Int), (∃ t, e = den * t - s) → lst den l e = 0 ∨ ∃ p ∈ ps s l, ∃ t, lst den l e = ((den * t - p).natAbs : Int)
  | [], _, _, _ => .inl rfl
  | x :: xs, e, s, ⟨t, he⟩ => by
    obtain ⟨n, hn, h⟩ := minL_mem (f := fun n => max ((e + den * n - x).natAbs : Int) (lst den xs (e + den * n - x))) (chs_ne den x)
    have hl : lst den (x :: xs) e = max ((e + den * n - x).natAbs : Int) (lst den xs (e + den * n - x)) := h
    have hnx : e + den * n - x = den * (t + n) - (s + x) := by rw [he, Int.mul_add]; omega
    have ih := lst_at den xs (e + den * n - x) (s + x) ⟨t + n, hnx⟩
    have hps : ps s (x :: xs) = (s + x) :: ps (s + x) xs := rfl
    rw [hl, hps]
    by_cases c : lst den xs (e + den * n - x) ≤ ((e + den * n - x).natAbs : Int)
    · exact .inr ⟨s + x, List.mem_cons_self, t + n, by rw [hnx] at c ⊢; omega⟩
    · rcases ih with ih | ⟨p, hp, t', e'⟩
      · have := lst_nn den xs (e + den * n - x)
        omega
      · exact .inr ⟨p, List.mem_cons_of_mem _ hp, t', by omega⟩
theorem bndL_mem {den : Int} : ∀ {L : List Int} {p : Int}, p ∈ L → (p - den * (p / den)) ∈ bndL den L ∧ (-(p - den * (p / den)) % den) ∈ bndL den L
  | a :: L, p, h => by
    simp only [bndL]
    rcases List.mem_cons.1 h with rfl | h
    · exact ⟨by simp, by simp⟩
    · have := bndL_mem (den := den) h
      exact ⟨by simp [this.1], by simp [this.2]⟩
theorem bnd_near {den p t : Int} (hd : 1 ≤ den) (h : ((den * t - p).natAbs : Int) < den) : ((den * t - p).natAbs : Int) = p - den * (p / den) ∨ ((den * t - p).natAbs : Int) = -(p - den * (p / den)) % den := by
  have h1 := ediv_mul_le (a := p) hd
  have e1 : den * (p / den) = p / den * den := Int.mul_comm _ _
  obtain ⟨u, hu⟩ : ∃ u, t = p / den + u := ⟨t - p / den, by omega⟩
  have e2 : den * t - p = den * u - (p - den * (p / den)) := by rw [hu, Int.mul_add]; omega
  rw [e2] at h ⊢
  have hu0 : -1 < u := by
    apply Classical.byContradiction
    intro c
    have : den * u ≤ den * (-1) := Int.mul_le_mul_of_nonneg_left (by omega) (by omega)
    omega
  have hu2 : u < 2 := by
    apply Classical.byContradiction
    intro c
    have : den * 2 ≤ den * u := Int.mul_le_mul_of_nonneg_left (by omega) (by omega)
    omega
  rcases (show u = 0 ∨ u = 1 by omega) with rfl | rfl
  · left; rw [Int.mul_zero]; omega
  · right
    rw [Int.mul_one] at h ⊢
    have : -(p - den * (p / den)) % den = den - (p - den * (p / den)) := by
      rw [← Int.add_emod_right, Int.emod_eq_of_lt (by omega) (by omega)]
      omega
    rw [this]
    omega
theorem lst_bound {den : Int} (hd : 1 ≤ den) (l : List Int) : lst den l 0 ∈ (0 :: bndL den (ps 0 l)) := by
  have hlt := lst_lt hd l 0 (by omega)
  rcases lst_at den l 0 0 ⟨0, by simp⟩ with h | ⟨p, hp, t, h⟩
  · rw [h]; exact List.mem_cons_self
  · rw [h] at hlt ⊢
    have hm := bndL_mem (den := den) hp
    rcases bnd_near hd hlt with e | e
    · rw [e]; exact List.mem_cons_of_mem _ hm.1
    · rw [e]; exact List.mem_cons_of_mem _ hm.2
theorem bndL_in {den : Int} (hd : 1 ≤ den) : ∀ L : List Int, ∀ b ∈ bndL den L, 0 ≤ b ∧ b < den
  | [], b, h => by simp [bndL] at h
  | p :: L, b, h => by
    have h1 := ediv_mul_le (a := p) hd
    have e1 : den * (p / den) = p / den * den := Int.mul_comm _ _
    simp only [bndL] at h
    rcases List.mem_cons.1 h with rfl | h
    · omega
    · rcases List.mem_cons.1 h with rfl | h
      · exact ⟨Int.emod_nonneg _ (by omega), Int.emod_lt_of_pos _ (by omega)⟩
      · exact bndL_in hd L b h
theorem firstW_at {den : Int} {l bs : List Int} (hs : ∀ i j : Nat, i ≤ j → j < bs.length → rd bs i ≤ rd bs j) (hn : ∀ i : Nat, i < bs.length → 0 ≤ rd bs i) {m : Nat} (hm : m < bs.length) (hv : rd bs m = lst den l 0) :
    ∀ d j : Nat, j + d = bs.length → j ≤ m → (∀ i : Nat, i < j → rd bs i < lst den l 0) → ∃ r : Nat, r < bs.length ∧ firstW den l bs j d = some r ∧ rd bs r = lst den l 0
  | 0, j, hj, hjm, _ => by omega
  | d + 1, j, hj, hjm, hi => by
    simp only [firstW]
    have hp := cntW_pos den (hn j (by omega)) l 0
    have hle := hs j m hjm hm
    by_cases c : 0 < cntW den (rd bs j) l 0
    · rw [if_pos c]
      exact ⟨j, by omega, rfl, by have := hp.1 c; omega⟩
    · rw [if_neg c]
      have hlt : rd bs j < lst den l 0 := by
        apply Classical.byContradiction
        intro z
        exact c (hp.2 (by omega))
      have hne : j ≠ m := fun z => by subst z; omega
      exact firstW_at hs hn hm hv d (j + 1) (by omega) (by omega) (fun i hij => by
        by_cases e : i = j
        · subst e; exact hlt
        · exact hi i (by omega))
def CntRunning_res (den : Int) (l : List Int) : Int × Bool := if vv den l = true then (cntW den (den - 1) l 0, true) else (0, false)
theorem CntRunning_impl {den : Int} {l : List Int} (hl : l.length ≤ 1048576) {k : Nat} (hk : 1048576 < k) : impl_CountRunning.f k den l = some (CntRunning_res den l) := by
  unfold impl_CountRunning.f CntRunning_res
  rw [validValues_eq (by omega) den (by omega), Option.bind_some]
  by_cases c : vv den l = true
  · rw [if_pos c, if_pos c, if_pos (show okW den l from vv_iff.1 c)]
  · rw [if_neg c, if_neg c]
def BestRunning_res (den : Int) (l : List Int) : List Int × Int × Bool := if vv den l = true then (grd den (lst den l 0) l 0, lst den l 0, true) else ([], 0, false)
theorem sort_rd {L : List Int} : ∀ i j : Nat, i ≤ j → j < (L.mergeSort fun x y => decide (x ≤ y)).length → rd (L.mergeSort fun x y => decide (x ≤ y)) i ≤ rd (L.mergeSort fun x y => decide (x ≤ y)) j := by
  intro i j hij hj
  have hp := List.pairwise_mergeSort (le := fun x y : Int => decide (x ≤ y)) (fun a b c h1 h2 => by simp at h1 h2 ⊢; omega) (fun a b => by simp; omega) L
  rw [rd_nat hj, rd_nat (show i < _ by omega)]
  rcases Nat.lt_or_eq_of_le hij with h | h
  · have := List.pairwise_iff_getElem.1 hp i j (by omega) hj h
    simpa using this
  · subst h; exact Int.le_refl _
theorem BestRunning_impl {den : Int} {l : List Int} (hl : l.length ≤ 1048576) {k : Nat} (hk : 1048576 < k) : impl_BestRunning.f k den l = some (BestRunning_res den l) := by
  unfold impl_BestRunning.f BestRunning_res
  rw [validValues_eq (by omega) den (by omega), Option.bind_some]
  by_cases c : vv den l = true
  · have h := vv_iff.1 c
    rw [if_pos c, if_pos c, if_pos (show okW den l from h), running_eq (by omega) (fun x hx => by have := h.2.2 x hx; omega) (by omega), Option.bind_some]
    have hps : okP l (ps 0 l) := ⟨ps_length l 0, ps_in l 0 1000000 1000000000 h.2.2 (by omega) (by omega) (by omega)⟩
    have hlen : (0 :: bndL den (ps 0 l)).length = 1 + 2 * l.length := by rw [List.length_cons, bndL_len, ps_length]; omega
    have hperm := List.mergeSort_perm (0 :: bndL den (ps 0 l)) (fun x y => decide (x ≤ y))
    have hsl := hperm.length_eq
    have hb : ∀ b ∈ (0 :: bndL den (ps 0 l)), 0 ≤ b ∧ b < den := fun b hb => by
      rcases List.mem_cons.1 hb with rfl | hb
      · omega
      · exact bndL_in h.1.1 _ b hb
    have hokB : okB ((0 :: bndL den (ps 0 l)).mergeSort fun x y => decide (x ≤ y)) := ⟨by omega, fun b hb' => by have := hb b (hperm.mem_iff.1 hb'); omega⟩
    rw [if_pos hps]
    unfold slices_Sort_int64_int64.f
    rw [if_pos (by omega), Option.bind_some, if_pos hokB]
    have hmem : lst den l 0 ∈ ((0 :: bndL den (ps 0 l)).mergeSort fun x y => decide (x ≤ y)) := hperm.mem_iff.2 (lst_bound h.1.1 l)
    obtain ⟨m, hm, hv⟩ := List.getElem_of_mem hmem
    obtain ⟨r, hr, hf, hrv⟩ := firstW_at (den := den) (l := l) sort_rd (fun i hi => (hokB.2 _ (rd_mem hi)).1) hm (by rw [rd_nat hm]; exact hv) _ 0 (Nat.zero_add _) (Nat.zero_le _) (fun i hi => by omega)
    rw [hf, Option.bind_some, hrv]
  · rw [if_neg c, if_neg c]
end Go.Proofs.Ytanflefkbbhimaa.Q
