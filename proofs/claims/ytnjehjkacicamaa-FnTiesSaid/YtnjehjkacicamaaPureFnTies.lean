/- FnTies answers true at all bytes. -/
import Derived.Test.YtnjehjkacicamaaQRFnTies
import Derived.Test.YtnjehjkacicamaaQTFnTies
import Derived.Test.YtnjehjkacicamaaP6xFnTies
import Derived.Test.YtnjehjkacicamaaP13xFnTies
import Derived.Test.YtnjehjkacicamaaP34xFnTies
namespace Go.Proofs.Ytnjehjkacicamaa.Pure
open Go.RowKit Go.Proofs.YtnjehjkacicamaaW.PrintWords Go.Proofs.YtnjehjkacicamaaW.PrintLast Go.Proofs.Ytnjehjkacicamaa.P Go.Proofs.Ytnjehjkacicamaa.B Go.Proofs.Ytnjehjkacicamaa.Q
set_option linter.unusedVariables false
set_option linter.unusedSimpArgs false

/-- The seats that the tied places go to. -/
theorem tied_distinct {m : Int} {votes : List Int} (hv : vt votes = true) {s : Nat} (hs : 1 ≤ s ∧ s ≤ 100) : ∀ d, bg m votes s + d ≤ s →
    ∃ T : List Nat, T.length = d ∧ T.Nodup ∧ (∀ i ∈ T, i < votes.length ∧ tp m votes s i = true) ∧
      ∀ i : Nat, rd (gv m votes (bg m votes s + d)) i = rd (gv m votes (bg m votes s)) i + if i ∈ T then 1 else 0
  | 0, _ => ⟨[], rfl, List.nodup_nil, by simp, fun i => by simp⟩
  | d + 1, hd => by
    obtain ⟨T, hT, hnd, hin, hrd⟩ := tied_distinct (m := m) hv hs d (by omega)
    have hl := vt_len hv
    have hg := gv_aok (m := m) hv (s := bg m votes s + d) (by omega)
    have hg0 := gv_aok (m := m) hv (s := bg m votes s) (by omega)
    have hb := bst_lt m votes (gv m votes (bg m votes s + d)) votes.length hl.1
    have hvz := bst_votes (m := m) hv hg
    have hlast := bg_eq (m := m) hv (s := s) (t := bg m votes s + d) (by omega) (by omega) (by omega)
    have hst : ∀ i : Nat, rd (gv m votes (bg m votes s + (d + 1))) i = _ := fun i => stp_rd (m := m) hv hg.1 i
    generalize hbe : bst m votes (gv m votes (bg m votes s + d)) votes.length = b at *
    have hgw : gw m votes (bg m votes s + d) = Wt m votes (gv m votes (bg m votes s + d)) b := by unfold gw; rw [hbe]
    have hw0 := gw_max (m := m) hv (s := bg m votes s) (by omega) hb
    have hb0 := bg_eq (m := m) hv (s := s) (t := bg m votes s) (by omega) (by omega) (by omega)
    have hwk1 := gw_wk (m := m) hv (s := bg m votes s) (by omega)
    have hwk2 := gw_wk (m := m) hv (s := s - 1) (by omega)
    have hnot : b ∉ T := by
      intro hbT
      have h1 := hrd b
      rw [if_pos hbT] at h1
      have h2 := wo_anti_lt (m := m) (vt_rd hv hb) hvz (hg0.rd hb) (hg.rd hb) (by omega)
      have h3 := ag_trans (p := gw m votes (s - 1)) (q := gw m votes (bg m votes s + d)) (r := Wt m votes (gv m votes (bg m votes s)) b) hwk2 (gw_wk hv (by omega)) (Wt_wk hv hg0 hb) (by have := ag_swap (p := gw m votes (bg m votes s + d)) (q := gw m votes (s - 1)); omega)
        (by rw [hgw]; unfold Wt; omega)
      have h4 := (ag_trans (p := Wt m votes (gv m votes (bg m votes s)) b) (q := gw m votes (bg m votes s)) (r := gw m votes (s - 1)) (Wt_wk hv hg0 hb) hwk1 hwk2 hw0 (by omega))
      have h5 := ag_trans (p := Wt m votes (gv m votes (bg m votes s)) b) (q := gw m votes (s - 1)) (r := gw m votes (bg m votes s + d)) (Wt_wk hv hg0 hb) hwk2 (gw_wk hv (by omega)) h4 (by have := ag_swap (p := gw m votes (bg m votes s + d)) (q := gw m votes (s - 1)); omega)
      rw [hgw] at h5
      unfold Wt at h5
      have := ag_swap (p := wo m (rd votes b) (rd (gv m votes (bg m votes s + d)) b)) (q := wo m (rd votes b) (rd (gv m votes (bg m votes s)) b))
      omega
    have hsame : rd (gv m votes (bg m votes s + d)) b = rd (gv m votes (bg m votes s)) b := by rw [hrd b, if_neg hnot]; omega
    refine ⟨T ++ [b], by simp [hT], ?_, ?_, ?_⟩
    · rw [List.nodup_append]
      exact ⟨hnd, by simp, fun a ha c hc => by rw [List.mem_singleton.1 hc]; exact fun h => hnot (h ▸ ha)⟩
    · intro i hi
      rcases List.mem_append.1 hi with h | h
      · exact hin i h
      · rw [List.mem_singleton.1 h]
        refine ⟨hb, ?_⟩
        unfold tp
        rw [decide_eq_true_eq, ← hlast, hgw]
        unfold Wt
        rw [hsame]
    · intro i
      rw [hst i, hrd i]
      by_cases c : i = b
      · rw [if_pos c, if_neg (c ▸ hnot), if_pos (by simp [c])]; omega
      · rw [if_neg c]
        by_cases c2 : i ∈ T
        · rw [if_pos c2, if_pos (by simp [c2])]
        · rw [if_neg c2, if_neg (by simp [c, c2])]
theorem nodup_le : ∀ {T L : List Int}, T.Nodup → (∀ x ∈ T, x ∈ L) → T.length ≤ L.length
  | [], L, _, _ => by simp
  | a :: t, L, hn, hs => by
    have ha := hs a (List.mem_cons_self ..)
    rw [List.nodup_cons] at hn
    have h := nodup_le (T := t) (L := L.erase a) hn.2 fun x hx => (List.mem_erase_of_ne (show x ≠ a from fun h => hn.1 (by rw [← h]; exact hx))).2 (hs x (List.mem_cons_of_mem _ hx))
    rw [List.length_erase_of_mem ha] at h
    have := List.length_pos_of_mem ha
    rw [List.length_cons]
    omega
/-- As many parties are tied as there are tied seats, or more. -/
theorem tied_enough {m : Int} {votes : List Int} (hv : vt votes = true) {s : Nat} (hs : 1 ≤ s ∧ s ≤ 100) : s - bg m votes s ≤ (idx (tp m votes s) votes.length).length := by
  have hb := bg_lt (m := m) (votes := votes) hs.1
  obtain ⟨T, hT, hnd, hin, _⟩ := tied_distinct (m := m) hv hs (s - bg m votes s) (by omega)
  rw [← hT]
  have h1 : T.length = (T.map Int.ofNat).length := (List.length_map ..).symm
  rw [h1]
  refine nodup_le ?_ ?_
  · rw [List.Nodup, List.pairwise_map]
    exact hnd.imp fun h h' => h (Int.ofNat.inj h')
  · intro x hx
    obtain ⟨i, hi, rfl⟩ := List.mem_map.1 hx
    exact idx_mem.2 ⟨i, rfl, (hin i hi).1, (hin i hi).2⟩
/-- Seats given, and one more to some of the tied parties. -/
theorem tied_isb {m : Int} {votes : List Int} (hv : vt votes = true) {s : Nat} (hs : 1 ≤ s ∧ s ≤ 100) {a' : List Int} (hl : a'.length = votes.length) (T : Nat → Prop) [∀ i, Decidable (T i)] (hT : ∀ i, T i → i < votes.length ∧ tp m votes s i = true)
    (hrd : ∀ i, i < votes.length → rd a' i = rd (gv m votes (bg m votes s)) i + if T i then 1 else 0) (hok : aok votes a') : INV m votes a' := by
  have hb := bg_lt (m := m) (votes := votes) hs.1
  have hg0 := gv_aok (m := m) hv (s := bg m votes s) (by omega)
  have hI := gv_INV (m := m) hv (bg m votes s) (by omega)
  intro i j hi hj hp
  have hri := hrd i hi
  have hrj := hrd j hj
  have k1 := hok.rd hi
  have k2 := hok.rd hj
  have k3 := hg0.rd hi
  have k4 := hg0.rd hj
  have hW : ag (Wt m votes a' j) (Wt m votes (gv m votes (bg m votes s)) j) ≤ 0 := wo_anti (vt_rd hv hj) k4 k2 (by rw [hrj]; split <;> omega)
  refine ag_trans (Wt_wk hv hok hj) (Wt_wk hv hg0 hj) (wo_wk (vt_rd hv hi) (by omega)) hW ?_
  by_cases c : T i
  · rw [if_pos c] at hri
    rw [hri, show rd (gv m votes (bg m votes s)) i + 1 - 1 = rd (gv m votes (bg m votes s)) i by omega]
    have h1 := (hT i c).2
    unfold tp at h1
    rw [decide_eq_true_eq] at h1
    have hwk1 := gw_wk (m := m) hv (s := bg m votes s) (by omega)
    have hwk2 := gw_wk (m := m) hv (s := s - 1) (by omega)
    have hw0 := gw_max (m := m) hv (s := bg m votes s) (by omega) hj
    have hb0 := bg_eq (m := m) hv (s := s) (t := bg m votes s) (by omega) (by omega) (by omega)
    have h2 := ag_trans (Wt_wk hv hg0 hj) hwk1 hwk2 hw0 (by omega)
    show ag (Wt m votes (gv m votes (bg m votes s)) j) (Wt m votes (gv m votes (bg m votes s)) i) ≤ 0
    exact ag_trans (Wt_wk hv hg0 hj) hwk2 (Wt_wk hv hg0 hi) h2 (by have := ag_swap (p := Wt m votes (gv m votes (bg m votes s)) i) (q := gw m votes (s - 1)); omega)
  · rw [if_neg c] at hri
    rw [show rd a' i = rd (gv m votes (bg m votes s)) i by omega] at hp ⊢
    exact hI i j hi hj hp
theorem FnTies : laws_FnTies.Pure := by
  intro l0 l1 h0 h1 h2 h3 h4 h5
  refine ⟨9000, ?_⟩
  have b0 : by8 l0 := fun x hx => wfu8 (h2 x hx)
  have b1 : by8 l1 := fun x hx => wfu8 (h5 x hx)
  unfold laws_FnTies.f
  obtain ⟨b, hb⟩ := r8Long_ok l0 l1
  rw [hb, Option.bind_some]
  cases b with
  | true => rw [if_pos rfl]
  | false =>
  rw [if_neg (by simp)]
  obtain ⟨votes, hvo, hv, hv30⟩ := r8Votes_ok b0 (k := 9000) (by omega)
  obtain ⟨m, hm, m0, m1⟩ := r8At_ok (i := 0) (n := 4) b1 (by omega) (by omega)
  obtain ⟨s', hs', s0, s1⟩ := r8At_ok (i := 1) (n := 40) b1 (by omega) (by omega)
  have hn := vt_len hv
  obtain ⟨s, hse⟩ : ∃ s : Nat, 1 + s' = (s : Int) := ⟨(1 + s').toNat, by omega⟩
  have hs : 1 ≤ s ∧ s ≤ 40 := by omega
  rw [hvo, Option.bind_some, hm, Option.bind_some, hs', Option.bind_some, hse, w64 (x := (s : Int)) (by omega) (by omega)]
  have hbl := bg_lt (m := m) (votes := votes) hs.1
  have hlen : votes.length ≤ 1048576 := by omega
  have e1 : impl_TiedSeats.f 9000 m votes (s : Int) = some (idx (tp m votes s) votes.length, (s : Int) - (bg m votes s : Nat), true) := by
    rw [TiedSeats_impl ⟨by omega, by omega⟩ (fun x hx => by have := (vt_iff.1 hv).2.1 x hx; exact ⟨by omega, by omega⟩) ⟨by omega, by omega⟩ hlen (by omega)]
    unfold TiedSeats_res
    rw [if_pos ⟨by omega, hv, by omega⟩, Int.toNat_natCast]
  have hen := tied_enough (m := m) hv (s := s) (by omega)
  rw [e1, Option.bind_some]
  simp only
  rw [if_pos trivial, if_neg (by omega), if_neg (by omega), decide_eq_false (by omega)]
  simp only [laws_FnTies.j0]
  have e2 : impl_SeatsBy.f 8999 m votes (wrap64 ((s : Int) - ((s : Int) - (bg m votes s : Nat)))) = some (gv m votes (bg m votes s), true) := by
    rw [show (s : Int) - ((s : Int) - (bg m votes s : Nat)) = (bg m votes s : Nat) by omega, w64 (by omega) (by omega), SeatsBy_impl' (by omega) (by omega)]
    unfold SeatsBy_res
    rw [if_pos ⟨by omega, hv, by omega⟩, Int.toNat_natCast]
  have e3 : ∀ k, 3000 < k → impl_SeatsBy.f k m votes (s : Int) = some (gv m votes s, true) := by
    intro k hk
    rw [SeatsBy_impl' (by omega) (by omega)]
    unfold SeatsBy_res
    rw [if_pos ⟨by omega, hv, by omega⟩, Int.toNat_natCast]
  have g1 := gv_aok (m := m) hv (s := bg m votes s) (by omega)
  have l1 := g1.1
  rw [if_neg (by simp), e2, Option.bind_some]
  simp only
  rw [if_pos trivial]
  simp only [laws_FnTies.j1]
  rw [if_neg (by simp only [bne_iff_ne, ne_eq, Decidable.not_not]; omega), Option.bind_some, if_pos (by simp; omega), List.nil_append]
  have hL := idx_length (tp m votes s) votes.length
  have hLn := idx_nodup (tp m votes s) votes.length
  have hLm : ∀ x ∈ idx (tp m votes s) votes.length, ∃ i : Nat, x = i ∧ i < votes.length ∧ tp m votes s i = true := fun x hx => idx_mem.1 hx
  generalize idx (tp m votes s) votes.length = L at hL hLn hLm hen e1 ⊢
  have hin := gv_in (m := m) hv (bg m votes s)
  have hgs := gv_sum (m := m) hv (bg m votes s)
  rw [show (s : Int) - ((bg m votes s : Nat) : Int) = ((s - bg m votes s : Nat) : Int) by omega]
  refine loopIc0 (m := s - bg m votes s) 4000 (F := fun k i (a : List Int) => laws_FnTies.l0 k votes m (s : Int) L ((s - bg m votes s : Nat) : Int) a i)
    (fun q a => a.length = votes.length ∧ a.sum = ((bg m votes s : Nat) : Int) + q ∧ ∀ i : Nat, i < votes.length → rd a i = rd (gv m votes (bg m votes s)) i + if (i : Int) ∈ L.drop (L.length - q) then 1 else 0) (fun r => r = some true) ?_ ?_ (k := 8998) (s := gv m votes (bg m votes s)) (by omega) ⟨l1, by omega, fun i hi => by simp⟩
  · rintro k a hk ⟨ha, hsum, hrd⟩
    have hbnd : ∀ x ∈ a, 0 ≤ x ∧ x ≤ 100 := by
      intro x hx
      obtain ⟨i, hi, rfl⟩ := List.getElem_of_mem hx
      have h1 := hrd i (by omega)
      rw [rd_nat hi, rd_nat (by omega)] at h1
      have := hin _ (List.getElem_mem (show i < (gv m votes (bg m votes s)).length by omega))
      rw [h1]; split <;> omega
    have hok : aok votes a := ⟨ha, fun x hx => by have := hbnd x hx; exact ⟨by omega, by omega⟩⟩
    have hI := tied_isb (m := m) hv (s := s) (by omega) ha (fun i => (i : Int) ∈ L.drop (L.length - (s - bg m votes s))) (fun i hi => by
      obtain ⟨j, h1, h2, h3⟩ := hLm _ (List.mem_of_mem_drop hi)
      obtain rfl : i = j := by omega
      exact ⟨h2, h3⟩) hrd hok
    have hsl : sl votes a = true := sl_iff.2 ⟨ha, hbnd, by omega⟩
    have hisb : IsSeatsBy_res m votes a = true := by
      unfold IsSeatsBy_res
      rw [decide_eq_true (show 0 ≤ m ∧ m ≤ 3 by omega), hv, hsl, INV_isb hI]; rfl
    have g2 := gv_length m votes s
    have hin2 := gv_in (m := m) hv s
    simp only [laws_FnTies.l0]
    rw [if_neg (by omega), e3 k (by omega), Option.bind_some]
    simp only
    rw [if_pos trivial, r8Sum_eq (by omega) (fun x hx => by have := hin2 x hx; omega) (by omega), Option.bind_some, if_pos (gv_sum hv s), IsSeatsBy_impl' (by omega) (by omega) (by omega), hisb]; rfl
  · rintro k q a hk hq ⟨ha, hsum, hrd⟩
    have hq2 : L.length - 1 - q < L.length := by omega
    obtain ⟨j, e, hj, _⟩ := hLm _ (List.getElem_mem hq2)
    have hdrop : L.drop (L.length - (q + 1)) = (j : Int) :: L.drop (L.length - q) := by
      rw [show L.length - (q + 1) = L.length - 1 - q by omega, List.drop_eq_getElem_cons hq2, e, show L.length - 1 - q + 1 = L.length - q by omega]
    have hnotin : (j : Int) ∉ L.drop (L.length - q) := by
      have h1 : (L.drop (L.length - (q + 1))).Nodup := List.Sublist.nodup (List.drop_sublist ..) hLn
      rw [hdrop, List.nodup_cons] at h1
      exact h1.1
    have hrj := hrd j hj
    rw [if_neg hnotin] at hrj
    have hga := g1.rd hj
    have hjl : j < a.length := by omega
    refine .inl ⟨a.set j (rd a j + 1), ⟨by rw [List.length_set]; exact ha, ?_, ?_⟩, ?_⟩
    · rw [sum_set hjl, rd_nat hjl]; omega
    · intro i hi
      rw [rd_set hjl, hdrop]
      by_cases c : i = j
      · subst c
        rw [if_pos rfl, if_pos (by simp)]; omega
      · rw [if_neg c, hrd i hi]
        by_cases c2 : (i : Int) ∈ L.drop (L.length - q)
        · rw [if_pos c2, if_pos (by simp [c2])]
        · rw [if_neg c2, if_neg (by simp only [List.mem_cons]; rintro (h | h) <;> first | omega | exact c2 h)]
    · simp only [laws_FnTies.l0]
      have ew : wrap64 (wrap64 ((L.length : Int) - 1) - (q : Int)) = ((L.length - 1 - q : Nat) : Int) := by
        rw [w64 (x := (L.length : Int) - 1) (by omega) (by omega), w64 (by omega) (by omega)]; omega
      rw [ew, rd_nat hq2, e, if_pos (by omega), if_pos (by omega), if_pos (by omega), if_neg (by omega), if_neg (by omega), if_pos (by omega), if_pos (by omega), Int.toNat_natCast, w64 (by omega) (by omega), wrap_nat (by omega)]

end Go.Proofs.Ytnjehjkacicamaa.Pure
