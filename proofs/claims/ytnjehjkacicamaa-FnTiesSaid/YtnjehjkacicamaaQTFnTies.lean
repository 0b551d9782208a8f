/- Tied seats: what the program and the reference come to. -/
import Derived.Test.YtnjehjkacicamaaQSFnTies
import Derived.Test.YtnjehjkacicamaaP11xFnTies
import Derived.Test.YtnjehjkacicamaaP12xFnTies
import Derived.Test.YtnjehjkacicamaaP13xFnTies
namespace Go.Proofs.Ytnjehjkacicamaa.Q
open Go.RowKit Go.Proofs.YtnjehjkacicamaaW.PrintWords Go.Proofs.YtnjehjkacicamaaW.PrintLast Go.Proofs.Ytnjehjkacicamaa.P Go.Proofs.Ytnjehjkacicamaa.B
set_option linter.unusedVariables false
set_option linter.unusedSimpArgs false

/-- The indices below a bound that are as asked. -/
def idx (p : Nat → Bool) (n : Nat) : List Int := ((List.range n).filter p).map Int.ofNat
theorem idx_length (p : Nat → Bool) (n : Nat) : (idx p n).length ≤ n := by
  unfold idx
  rw [List.length_map]
  have := List.length_filter_le p (List.range n)
  rwa [List.length_range] at this
theorem idx_succ (p : Nat → Bool) (n : Nat) : idx p (n + 1) = if p n = true then idx p n ++ [(n : Int)] else idx p n := by
  unfold idx
  rw [List.range_succ, List.filter_append, List.map_append]
  by_cases h : p n = true
  · rw [if_pos h]; simp [h]
  · rw [if_neg h]; simp [h]
theorem idx_mem {p : Nat → Bool} {n : Nat} {x : Int} : x ∈ idx p n ↔ ∃ i : Nat, x = i ∧ i < n ∧ p i = true := by
  unfold idx
  simp only [List.mem_map, List.mem_filter, List.mem_range]
  constructor
  · rintro ⟨i, ⟨h1, h2⟩, rfl⟩; exact ⟨i, rfl, h1, h2⟩
  · rintro ⟨i, rfl, h1, h2⟩; exact ⟨i, ⟨h1, h2⟩, rfl⟩
theorem idx_nodup (p : Nat → Bool) (n : Nat) : (idx p n).Nodup := by
  unfold idx
  rw [List.Nodup, List.pairwise_map]
  exact ((List.nodup_range (n := n)).filter p).imp fun h h' => h (Int.ofNat.inj h')
/-- Where the tied seats begin: going down from a place as long as the worth is not greater. -/
def bgr (m : Int) (votes : List Int) (last : Int × Int) : Nat → Nat
  | 0 => 0
  | n + 1 => if ag (gw m votes n) last > 0 then n + 1 else bgr m votes last n
theorem bgr_le (m : Int) (votes : List Int) (last : Int × Int) : ∀ n, bgr m votes last n ≤ n
  | 0 => Nat.le_refl _
  | n + 1 => by
    simp only [bgr]
    split
    · omega
    · have := bgr_le m votes last n; omega
theorem bgr_not (m : Int) (votes : List Int) (last : Int × Int) : ∀ n t, bgr m votes last n ≤ t → t < n → ¬ ag (gw m votes t) last > 0
  | 0, t, _, h => by omega
  | n + 1, t, h1, h2 => by
    simp only [bgr] at h1
    split at h1
    · omega
    · rename_i h
      rcases Nat.lt_or_ge t n with h3 | h3
      · exact bgr_not m votes last n t h1 h3
      · obtain rfl : t = n := by omega
        exact h
theorem bgr_gt (m : Int) (votes : List Int) (last : Int × Int) : ∀ n, bgr m votes last n = 0 ∨ ag (gw m votes (bgr m votes last n - 1)) last > 0
  | 0 => .inl rfl
  | n + 1 => by
    simp only [bgr]
    split
    · rename_i h; exact .inr h
    · exact bgr_gt m votes last n
/-- The first seat with the worth of the last one of so many. -/
def bg (m : Int) (votes : List Int) (s : Nat) : Nat := bgr m votes (gw m votes (s - 1)) (s - 1)
theorem bg_lt {m : Int} {votes : List Int} {s : Nat} (hs : 1 ≤ s) : bg m votes s < s := by
  have := bgr_le m votes (gw m votes (s - 1)) (s - 1)
  unfold bg; omega
theorem gw_anti' {m : Int} {votes : List Int} (hv : vt votes = true) {s t : Nat} (h : s ≤ t) (ht : t ≤ 102) : ag (gw m votes t) (gw m votes s) ≤ 0 := by
  obtain ⟨d, rfl⟩ := Nat.exists_eq_add_of_le h
  exact gw_anti hv d ht
theorem bg_eq {m : Int} {votes : List Int} (hv : vt votes = true) {s t : Nat} (hs : 1 ≤ s ∧ s ≤ 101) (h1 : bg m votes s ≤ t) (h2 : t < s) : ag (gw m votes t) (gw m votes (s - 1)) = 0 := by
  rcases Nat.lt_or_ge t (s - 1) with h | h
  · have h3 := bgr_not m votes (gw m votes (s - 1)) (s - 1) t h1 h
    have h4 := gw_anti' (m := m) hv (s := t) (t := s - 1) (by omega) (by omega)
    have h5 := ag_swap (p := gw m votes t) (q := gw m votes (s - 1))
    omega
  · obtain rfl : t = s - 1 := by omega
    exact ag_refl _
theorem bg_gt {m : Int} {votes : List Int} (hv : vt votes = true) {s t : Nat} (hs : 1 ≤ s ∧ s ≤ 101) (h : t < bg m votes s) : ag (gw m votes t) (gw m votes (s - 1)) > 0 := by
  have hb := bg_lt (m := m) (votes := votes) hs.1
  have h1 : ag (gw m votes (bg m votes s - 1)) (gw m votes (s - 1)) > 0 := by
    rcases bgr_gt m votes (gw m votes (s - 1)) (s - 1) with h' | h'
    · unfold bg at h; omega
    · exact h'
  have h2 := gw_anti' (m := m) hv (s := t) (t := bg m votes s - 1) (by omega) (by omega)
  apply Classical.byContradiction
  intro h3
  have := ag_trans (gw_wk (m := m) hv (s := bg m votes s - 1) (by omega)) (gw_wk (m := m) hv (s := t) (by omega)) (gw_wk (m := m) hv (s := s - 1) (by omega)) h2 (by omega)
  omega
/-- The parties with an equal claim. -/
def tp (m : Int) (votes : List Int) (s : Nat) (i : Nat) : Bool := decide (ag (Wt m votes (gv m votes (bg m votes s)) i) (gw m votes (s - 1)) = 0)
def TiedSeats_res (m : Int) (votes : List Int) (s : Int) : List Int × Int × Bool :=
  if (0 ≤ m ∧ m ≤ 3) ∧ vt votes = true ∧ 1 ≤ s ∧ s ≤ 100 then (idx (tp m votes s.toNat) votes.length, s - (bg m votes s.toNat : Nat), true) else ([], 0, false)
theorem rd_gs {m : Int} {votes : List Int} {s t : Nat} (h : t < s) : rd_T82 (gs m votes s) (t : Int) = ⟨(bst m votes (gv m votes t) votes.length : Nat), ⟨(gw m votes t).1, (gw m votes t).2⟩⟩ := by
  unfold rd_T82 gs
  rw [Int.toNat_natCast, List.getD_eq_getElem?_getD, List.getElem?_eq_getElem (by simpa using h)]
  simp
theorem TiedSeats_impl {m : Int} {votes : List Int} {s : Int} (_ : i64 m) (_ : ∀ x ∈ votes, i64 x) (_ : i64 s) (hl : votes.length ≤ 1048576) {k : Nat} (hk : votes.length + 3000 < k) : impl_TiedSeats.f k m votes s = some (TiedSeats_res m votes s) := by
  obtain ⟨k, rfl, _⟩ := succ_of_lt hk
  unfold impl_TiedSeats.f TiedSeats_res
  rw [isMethod_eq (by omega) (by omega), Option.bind_some]
  by_cases h : (0 ≤ m ∧ m ≤ 3) ∧ vt votes = true
  · obtain ⟨h1, h2⟩ := h
    have hn := vt_len h2
    rw [if_pos (by rw [decide_eq_true h1, h2]; rfl), within_eq, Option.bind_some]
    simp only [impl_TiedSeats.j0]
    by_cases h3 : 1 ≤ s ∧ s ≤ 100
    · rw [if_neg (by simp [h3]), if_pos ⟨h1, h2, h3⟩]
      obtain ⟨n, rfl⟩ : ∃ n : Nat, s = n := ⟨s.toNat, by omega⟩
      have hs : 1 ≤ n ∧ n ≤ 100 := by omega
      have hb := bg_lt (m := m) (votes := votes) hs.1
      have g3 := gv_aok (m := m) h2 (s := bg m votes n) (by omega)
      have l3 := g3.1
      rw [give_eq h2 (by omega) (by omega), Option.bind_some, Int.toNat_natCast]
      simp only [gs_length]
      rw [w64 (by omega) (by omega), show (n : Int) - 1 = ((n - 1 : Nat) : Int) by omega, if_pos (by omega), if_pos (by omega), rd_gs (by omega)]
      simp only
      have e : impl_given_TiedSeats_1.f k (gs m votes n) (gw m votes (n - 1)).1 (gw m votes (n - 1)).2 = some ((bg m votes n : Nat) : Int) := by
        unfold impl_given_TiedSeats_1.f
        rw [gs_length]
        refine loopIc0 (m := n) 5 (F := fun k i (_ : Unit) => impl_given_TiedSeats_1.l0 k (gs m votes n) (n : Int) i (gw m votes (n - 1)).1 (gw m votes (n - 1)).2) (fun t _ => t ≤ bg m votes n) (fun r => r = some ((bg m votes n : Nat) : Int)) (fun k _ _ hi => by omega) ?_ (k := k) (s := ()) (by omega) (by omega)
        intro k t _ hk5 ht hi
        simp only [impl_given_TiedSeats_1.l0, impl_TiedSeats_1_v.f]
        rw [if_pos (by omega), if_pos (by omega), if_pos (by rw [gs_length]; omega), rd_gs ht]
        simp only
        rw [against_eq (gw_wk h2 (by omega)) (gw_wk h2 (by omega)) (by omega), Option.bind_some, Option.bind_some, wrap_nat (by omega)]
        rcases Nat.lt_or_ge t (bg m votes n) with h4 | h4
        · have h5 := bg_gt (m := m) h2 (s := n) (by omega) h4
          exact .inl ⟨(), by omega, by rw [if_neg (by simp only [beq_iff_eq]; omega)]⟩
        · have h5 := bg_eq (m := m) h2 (s := n) (by omega) h4 ht
          obtain rfl : t = bg m votes n := by omega
          exact .inr (by rw [h5, if_pos (by rfl)])
      rw [e, Option.bind_some, give_eq h2 (by omega) (by omega), Option.bind_some]
      refine loopIc0 (m := votes.length) 5 (F := fun k i (o : List Int) => impl_TiedSeats.l0 k m (gs m votes n) ((bg m votes n : Nat) : Int) (gv m votes (bg m votes n)) o votes (votes.length : Int) i (gw m votes (n - 1)).1 (gw m votes (n - 1)).2) (fun i o => o = idx (tp m votes n) i) (fun r => r = some (idx (tp m votes n) votes.length, (n : Int) - ((bg m votes n : Nat) : Int), true)) ?_ ?_ (k := k) (s := []) (by omega) rfl
      · rintro k o _ rfl
        simp only [impl_TiedSeats.l0, impl_given_84.f]
        rw [if_neg (by omega), Option.bind_some, gs_length, w64 (by omega) (by omega)]
      · rintro k i o hk5 hi rfl
        have ho := idx_length (tp m votes n) i
        refine .inl ⟨_, rfl, ?_⟩
        simp only [impl_TiedSeats.l0]
        rw [if_pos (by omega), if_pos (by omega), if_pos (by omega), if_pos (by omega), worthOf_eq (vt_rd h2 hi) (g3.rd hi), Option.bind_some, against_eq (wo_wk (vt_rd h2 hi) (g3.rd hi)) (gw_wk h2 (by omega)) (by omega), Option.bind_some, wrap_nat (by omega), idx_succ]
        show (if ag (Wt m votes (gv m votes (bg m votes n)) i) (gw m votes (n - 1)) = 0 then _ else _) = _
        by_cases c : ag (Wt m votes (gv m votes (bg m votes n)) i) (gw m votes (n - 1)) = 0
        · rw [if_pos c, if_pos (by omega), if_pos (show tp m votes n i = true from decide_eq_true c)]
        · rw [if_neg c, if_neg (by unfold tp; simp only [decide_eq_true_eq]; exact c)]
    · rw [if_pos (by simp only [Bool.not_eq_true', decide_eq_false_iff_not]; exact h3), if_neg (fun h => h3 h.2.2)]
  · rw [if_neg (by simp only [Bool.and_eq_true, decide_eq_true_eq]; exact h), if_neg (fun h' => h ⟨h'.1, h'.2.1⟩)]
    simp only [impl_TiedSeats.j0]
    rw [if_pos trivial]
theorem TiedSeats_len (m : Int) (votes : List Int) (s : Int) : (TiedSeats_res m votes s).1.length ≤ 100 := by
  unfold TiedSeats_res
  split
  · rename_i h; have := vt_len h.2.1; have := idx_length (tp m votes s.toNat) votes.length; simp only; omega
  · simp
end Go.Proofs.Ytnjehjkacicamaa.Q
