/- The fewest votes for some seats: more votes never give fewer seats, and what the searches come to. -/
import Derived.Test.YtebofadnefkacaaQSFnExactFewestFor
import Derived.Test.YtebofadnefkacaaP2
import Derived.Test.YtebofadnefkacaaP8
import Derived.Test.YtebofadnefkacaaP9
import Derived.Test.YtebofadnefkacaaP10
namespace Go.Proofs.Ytebofadnefkacaa.Q
open Go.RowKit Go.Proofs.YtebofadnefkacaaW.PrintWords Go.Proofs.YtebofadnefkacaaW.PrintLast Go.Proofs.Ytebofadnefkacaa.P Go.Proofs.Ytebofadnefkacaa.B
set_option linter.unusedVariables false
set_option linter.unusedSimpArgs false

theorem sum_le_of {a b : List Int} (hl : a.length = b.length) (h : ∀ i : Nat, i < a.length → rd a i ≤ rd b i) : a.sum ≤ b.sum := by
  induction a generalizing b with
  | nil => cases b with
    | nil => simp
    | cons => simp at hl
  | cons x xs ih => cases b with
    | nil => simp at hl
    | cons y ys =>
      have h0 := h 0 (by simp)
      rw [rd_nat (by simp), rd_nat (by simp)] at h0
      have := ih (b := ys) (by simpa using hl) (fun i hi => by
        have := h (i + 1) (by simp; omega)
        rw [rd_nat (by simp; omega), rd_nat (by simp at hl ⊢; omega)] at this
        rw [rd_nat hi, rd_nat (by simp at hl; omega)]
        simpa using this)
      rw [List.sum_cons, List.sum_cons]
      simp at h0
      omega
theorem sum_lt_of {a b : List Int} (hl : a.length = b.length) (h : ∀ i : Nat, i < a.length → rd a i ≤ rd b i) {p : Nat} (hp : p < a.length) (hlt : rd a p < rd b p) : a.sum < b.sum := by
  have hpb : p < b.length := by omega
  have e := sum_set hp (rd b p)
  rw [← rd_nat hp] at e
  have := sum_le_of (a := a.set p (rd b p)) (b := b) (by simp [hl]) (fun i hi => by
    rw [rd_set hp]
    by_cases c : i = p
    · rw [if_pos c, c]; omega
    · rw [if_neg c]; exact h i (by simpa using hi))
  omega
/-- More votes never give a party fewer seats. -/
theorem gv_more {m : Int} {votes wide : List Int} (hv : vt votes = true) (hw : vt wide = true) (hl : wide.length = votes.length) {p : Nat} (hp : p < votes.length) (hgt : rd votes p ≤ rd wide p) (hsame : ∀ i : Nat, i < votes.length → i ≠ p → rd wide i = rd votes i) {s : Nat} (hs : s ≤ 101) :
    rd (gv m votes s) p ≤ rd (gv m wide s) p := by
  apply Classical.byContradiction; intro hc
  have g1 := gv_aok (m := m) hv (s := s) (by omega)
  have g2 := gv_aok (m := m) hw (s := s) (by omega)
  have l1 := g1.1
  have l2 := g2.1
  rcases Int.lt_or_le (rd votes p) (rd wide p) with hlt | hle
  · -- somebody else has more
    obtain ⟨j, hj, hjm⟩ : ∃ j, j < votes.length ∧ rd (gv m votes s) j < rd (gv m wide s) j := by
      apply Classical.byContradiction; intro hn
      have h1 := sum_lt_of (a := gv m wide s) (b := gv m votes s) (by omega) (fun i hi => by
        apply Classical.byContradiction; intro h2
        exact hn ⟨i, by omega, by omega⟩) (p := p) (by omega) (by omega)
      rw [gv_sum hv, gv_sum hw] at h1
      omega
    have hjp : j ≠ p := by
      intro h
      rw [h] at hjm
      omega
    have i1 := gv_INV (m := m) hv s (by omega) p j hp hj (by have := (g2.rd (i := p) (by omega)).1; omega)
    have i2 := gv_INV (m := m) hw s (by omega) j p (by omega) (by omega) (by have := (g1.rd hj).1; omega)
    have kp1 := g1.rd hp
    have kp2 := g2.rd (i := p) (by omega)
    have kj1 := g1.rd hj
    have kj2 := g2.rd (i := j) (by omega)
    unfold Wt at i1 i2
    rw [hsame j hj hjp] at i2
    have v1 := vt_rd hv hp
    have v2 := vt_rd hw (i := p) (by omega)
    have vj := vt_rd hv hj
    -- wide's party is worth more than what the other has got
    have c1 := wo_anti (m := m) (v := rd votes j) (k := rd (gv m votes s) j) (k' := rd (gv m wide s) j - 1) vj kj1 ⟨by omega, by omega⟩ (by omega)
    have c2 := wo_anti (m := m) (v := rd votes p) (k := rd (gv m wide s) p) (k' := rd (gv m votes s) p - 1) v1 kp2 ⟨by omega, by omega⟩ (by omega)
    have c3 := wo_more_lt (m := m) v1 v2 kp2 hlt
    have w1 := wo_wk (m := m) v2 kp2
    have w2 := wo_wk (m := m) vj (k := rd (gv m wide s) j - 1) ⟨by omega, by omega⟩
    have w3 := wo_wk (m := m) vj kj1
    have w4 := wo_wk (m := m) v1 (k := rd (gv m votes s) p - 1) ⟨by omega, by omega⟩
    have w5 := wo_wk (m := m) v1 kp2
    have t1 := ag_trans w1 w2 w3 i2 c1
    have t2 := ag_trans w1 w3 w4 t1 i1
    have t3 := ag_trans w1 w4 w5 t2 c2
    have := ag_swap (p := wo m (rd votes p) (rd (gv m wide s) p)) (q := wo m (rd wide p) (rd (gv m wide s) p))
    omega
  · have e : wide = votes := by
      apply List.ext_getElem hl
      intro i h1 h2
      rw [← rd_nat h1, ← rd_nat h2]
      by_cases c : i = p
      · rw [c]; omega
      · exact hsame i h2 c
    rw [e] at hc
    omega
/-- Seats of a party with so many votes among others. -/
def sv (m : Int) (votes : List Int) (p : Nat) (v : Int) : Int := if vt (votes.set p v) = true then rd (gv m (votes.set p v) 100) p else -1
theorem vt_set {votes : List Int} (h : vt votes = true) {p : Nat} (hp : p < votes.length) {v : Int} (h0 : 1 ≤ v ∧ v ≤ 1000000) : vt (votes.set p v) = true := by
  have h1 := vt_iff.1 h
  refine vt_iff.2 ⟨by rw [List.length_set]; exact h1.1, fun x hx => ?_, ?_⟩
  · rcases List.mem_or_eq_of_mem_set hx with hx | hx
    · exact h1.2.1 x hx
    · omega
  · have hin : ∀ x ∈ votes.set p v, 0 ≤ x := fun x hx => by
      rcases List.mem_or_eq_of_mem_set hx with hx | hx
      · exact (h1.2.1 x hx).1
      · omega
    have hm : v ∈ votes.set p v := List.mem_set hp v
    have : v ≤ (votes.set p v).sum := by
      clear h1 h
      generalize votes.set p v = l at hin hm
      induction l with
      | nil => simp at hm
      | cons y ys ih =>
        rw [List.sum_cons]
        have hy := hin y (List.mem_cons_self ..)
        rcases List.mem_cons.1 hm with e | hm
        · have := sum_nonneg (l := ys) (fun x hx => hin x (List.mem_cons_of_mem _ hx)); omega
        · have := ih (fun x hx => hin x (List.mem_cons_of_mem _ hx)) hm; omega
    omega
theorem vt_set_bad {votes : List Int} {p : Nat} (hp : p < votes.length) {v : Int} (h : vt (votes.set p v) = true) : 0 ≤ v ∧ v ≤ 1000000 := (vt_iff.1 h).2.1 v (List.mem_set hp v)
/-- With more votes a party has as many seats, or more. -/
theorem sv_mono {m : Int} {votes : List Int} (h : vt votes = true) {p : Nat} (hp : p < votes.length) {v w : Int} (h0 : 0 ≤ v) (hvw : v ≤ w) (hw : w ≤ 1000000) : sv m votes p v ≤ sv m votes p w := by
  by_cases e : v = w
  · rw [e]; exact Int.le_refl _
  · have hw1 := vt_set h hp (v := w) (by omega)
    unfold sv
    rw [if_pos hw1]
    have hpl : p < (votes.set p w).length := by rw [List.length_set]; exact hp
    have g2 := (gv_aok (m := m) hw1 (s := 100) (by omega)).rd hpl
    by_cases c : vt (votes.set p v) = true
    · rw [if_pos c]
      exact gv_more c hw1 (by simp) (p := p) (by rw [List.length_set]; exact hp) (by rw [rd_set hp, rd_set hp, if_pos rfl, if_pos rfl]; exact hvw) (fun i hi hne => by rw [rd_set hp, rd_set hp, if_neg hne, if_neg hne]) (by omega)
    · rw [if_neg c]; omega
/-- The least number of votes for a goal. -/
def isl (m : Int) (votes : List Int) (p : Nat) (goal r : Int) : Prop := 0 ≤ r ∧ r ≤ 1000000 ∧ sv m votes p r ≥ goal ∧ ∀ v, 0 ≤ v → v < r → sv m votes p v < goal
theorem isl_unique {m : Int} {votes : List Int} {p : Nat} {goal r r' : Int} (h : isl m votes p goal r) (h' : isl m votes p goal r') : r = r' := by
  rcases Int.lt_trichotomy r r' with c | c | c
  · have := h'.2.2.2 r h.1 c; have := h.2.2.1; omega
  · exact c
  · have := h.2.2.2 r' h'.1 c; have := h'.2.2.1; omega
open Classical in
noncomputable def lst (m : Int) (votes : List Int) (p : Nat) (goal : Int) : Int := if h : ∃ r, isl m votes p goal r then Classical.choose h else 0
theorem lst_is {m : Int} {votes : List Int} {p : Nat} {goal r : Int} (h : isl m votes p goal r) : lst m votes p goal = r := by
  have hx : ∃ r, isl m votes p goal r := ⟨r, h⟩
  unfold lst
  rw [dif_pos hx]
  exact isl_unique (Classical.choose_spec hx) h
theorem clone_eq {l : List Int} (h : l.length ≤ 1000000) : slices_Clone_int64_int64.f l = some l := by
  unfold slices_Clone_int64_int64.f
  rw [Option.bind_some, if_pos (by simp; omega), List.nil_append]
theorem own_eq {l : List Int} (h : l.length ≤ 1000000) : spec_l00Own.f l = some l := by
  unfold spec_l00Own.f
  rw [Option.bind_some, if_pos (by simp; omega), List.nil_append]
theorem enough_eq {m : Int} {votes : List Int} (hm : 0 ≤ m ∧ m ≤ 3) (h : vt votes = true) {p : Nat} (hp : p < votes.length) {goal v : Int} (hg : 0 ≤ goal) {k : Nat} (hk : 2000 < k) : impl_FewestFor_1_v.f k v votes (p : Int) m goal = some (decide (sv m votes p v ≥ goal)) := by
  have hl := vt_len h
  unfold impl_FewestFor_1_v.f
  rw [clone_eq (by omega), Option.bind_some, if_pos (by omega), if_pos (by omega), Int.toNat_natCast, SeatsBy_impl' (by rw [List.length_set]; omega) (by rw [List.length_set]; omega), Option.bind_some]
  by_cases c : vt (votes.set p v) = true
  · have e1 : SeatsBy_res m (votes.set p v) 100 = (gv m (votes.set p v) 100, true) := by
      unfold SeatsBy_res
      rw [if_pos ⟨hm, c, by omega, by omega⟩, show (100 : Int).toNat = 100 from rfl]
    have hgl := gv_length m (votes.set p v) 100
    unfold sv
    rw [if_pos c]
    generalize gv m (votes.set p v) 100 = G at hgl e1 ⊢
    rw [List.length_set] at hgl
    rw [e1]
    simp only
    rw [if_pos trivial, if_pos (by omega)]
  · have e1 : SeatsBy_res m (votes.set p v) 100 = ([], false) := by
      unfold SeatsBy_res
      rw [if_neg (fun h => c h.2.1)]
    rw [e1]
    simp only
    rw [if_neg (by simp)]
    unfold sv
    rw [if_neg c, decide_eq_false (by omega)]
theorem half_eq {a b : Int} (h : 0 ≤ a ∧ a < b ∧ b ≤ 1000001) : wrap64 (Int.tdiv (wrap64 (a + b)) 2) = (a + b) / 2 := by
  rw [w64 (x := a + b) (by omega) (by omega), Int.tdiv_eq_ediv_of_nonneg (by omega), w64 (by omega) (by omega)]
theorem implSearch {m : Int} {votes : List Int} (hm : 0 ≤ m ∧ m ≤ 3) (h : vt votes = true) {p : Nat} (hp : p < votes.length) {goal : Int} (hg : 0 ≤ goal) : ∀ d k (lo hi : Int), hi - lo < 2 ^ d → 0 ≤ lo → lo ≤ hi → hi ≤ 1000001 → 2100 + d < k →
    (∀ v, 0 ≤ v → v < lo → sv m votes p v < goal) → (∀ v, hi ≤ v → v ≤ 1000000 → sv m votes p v ≥ goal) →
    ∃ r, impl_FewestFor.l0 k lo hi m votes (p : Int) goal = some (wrap64 (r * if r ≤ 1000000 then 1 else 0), decide (r ≤ 1000000)) ∧ 0 ≤ r ∧ r ≤ 1000001 ∧ (∀ v, 0 ≤ v → v < r → sv m votes p v < goal) ∧ (∀ v, r ≤ v → v ≤ 1000000 → sv m votes p v ≥ goal) := by
  intro d
  induction d with
  | zero =>
    intro k lo hi hd h0 h1 h2 hk hlo hhi
    obtain ⟨k, rfl, _⟩ := succ_of_lt hk
    have e : lo = hi := by simp at hd; omega
    refine ⟨lo, ?_, h0, by omega, hlo, by rw [e]; exact hhi⟩
    simp only [impl_FewestFor.l0]
    rw [if_neg (by omega)]
    unfold impl_bit.f
    by_cases c : lo ≤ 1000000
    · rw [decide_eq_true c, if_pos rfl, if_pos c]; rfl
    · rw [decide_eq_false c, if_neg (by simp), if_neg c]; rfl
  | succ d ih =>
    intro k lo hi hd h0 h1 h2 hk hlo hhi
    obtain ⟨k, rfl, _⟩ := succ_of_lt hk
    rw [Int.pow_succ] at hd
    simp only [impl_FewestFor.l0]
    by_cases c : lo < hi
    · rw [if_pos c, half_eq ⟨h0, c, h2⟩, enough_eq hm h hp hg (by omega), Option.bind_some]
      have hmid : lo ≤ (lo + hi) / 2 ∧ (lo + hi) / 2 < hi := by omega
      generalize hmd : (lo + hi) / 2 = mid at *
      by_cases c2 : sv m votes p mid ≥ goal
      · rw [if_pos (decide_eq_true c2)]
        exact ih k lo mid (by omega) h0 hmid.1 (by omega) (by omega) hlo (fun v hv hv2 => by
          have := sv_mono (m := m) h hp (v := mid) (w := v) (by omega) hv hv2; omega)
      · rw [if_neg (by simp only [decide_eq_true_eq]; exact c2), w64 (by omega) (by omega)]
        exact ih k (mid + 1) hi (by omega) (by omega) (by omega) h2 (by omega) (fun v hv hv2 => by
          have := sv_mono (m := m) h hp (v := v) (w := mid) hv (by omega) (by omega); omega) hhi
    · rw [if_neg c]
      have e : lo = hi := by omega
      refine ⟨lo, ?_, h0, by omega, hlo, by rw [e]; exact hhi⟩
      unfold impl_bit.f
      by_cases c : lo ≤ 1000000
      · rw [decide_eq_true c, if_pos rfl, if_pos c]; rfl
      · rw [decide_eq_false c, if_neg (by simp), if_neg c]; rfl
open Classical in
noncomputable def FewestFor_res (m : Int) (votes : List Int) (party goal : Int) : Int × Bool :=
  if (0 ≤ m ∧ m ≤ 3) ∧ vt votes = true ∧ (0 ≤ party ∧ party ≤ (votes.length : Int) - 1) ∧ 0 ≤ goal ∧ goal ≤ 100 then (if sv m votes party.toNat 1000000 ≥ goal then (lst m votes party.toNat goal, true) else (0, false)) else (0, false)
theorem FewestFor_impl' {m : Int} {votes : List Int} {party goal : Int} (hl : votes.length ≤ 1048576) {k : Nat} (hk : votes.length + 2500 < k) : impl_FewestFor.f k m votes party goal = some (FewestFor_res m votes party goal) := by
  obtain ⟨k, rfl, _⟩ := succ_of_lt hk
  unfold impl_FewestFor.f FewestFor_res impl_size_int64.f
  rw [isMethod_eq (by omega) (by omega), Option.bind_some]
  by_cases h1 : (0 ≤ m ∧ m ≤ 3) ∧ vt votes = true
  · have hn := vt_len h1.2
    rw [if_pos (by rw [decide_eq_true h1.1, h1.2]; rfl), Option.bind_some, w64 (by omega) (by omega), within_eq, Option.bind_some]
    by_cases h2 : 0 ≤ party ∧ party ≤ (votes.length : Int) - 1
    · rw [if_pos (decide_eq_true h2), within_eq, Option.bind_some]
      simp only [impl_FewestFor.j0]
      by_cases h3 : 0 ≤ goal ∧ goal ≤ 100
      · rw [if_neg (by simp [h3]), if_pos ⟨h1.1, h1.2, h2, h3⟩]
        obtain ⟨p, rfl⟩ : ∃ p : Nat, party = p := ⟨party.toNat, by omega⟩
        rw [Int.toNat_natCast]
        obtain ⟨r, e, r0, r1, rl, rh⟩ := implSearch h1.1 h1.2 (p := p) (by omega) h3.1 20 k 0 1000001 (by decide) (by omega) (by omega) (by omega) (by omega) (fun v h0 h1 => by omega) (fun v h0 h1 => by omega)
        rw [e]
        by_cases c : r ≤ 1000000
        · have hr := rh r (by omega) c
          have hi : isl m votes p goal r := ⟨r0, c, hr, rl⟩
          have hb := rh 1000000 c (by omega)
          rw [if_pos c, decide_eq_true c, if_pos hb, lst_is hi, w64 (by omega) (by omega), Int.mul_one]
        · have hb := rl 1000000 (by omega) (by omega)
          rw [if_neg c, decide_eq_false c, if_neg (by omega), Int.mul_zero, w64 (by omega) (by omega)]
      · rw [if_pos (by simp only [Bool.not_eq_true', decide_eq_false_iff_not]; exact h3), if_neg (fun h => h3 h.2.2.2)]
    · rw [if_neg (by simp only [decide_eq_true_eq]; exact h2), if_neg (fun h => h2 h.2.2.1)]
      simp only [impl_FewestFor.j0]
      rw [if_pos trivial]
  · rw [if_neg (by simp only [Bool.and_eq_true, decide_eq_true_eq]; exact h1), if_neg (fun h => h1 ⟨h.1, h.2.1⟩)]
    simp only [impl_FewestFor.j0]
    rw [if_pos trivial]
theorem FewestFor_impl {m : Int} {votes : List Int} {party goal : Int} (_ : i64 m) (_ : ∀ x ∈ votes, i64 x) (_ : i64 party) (_ : i64 goal) (hl : votes.length ≤ 1048576) {k : Nat} (hk : votes.length + 3000 < k) : impl_FewestFor.f k m votes party goal = some (FewestFor_res m votes party goal) := FewestFor_impl' hl (by omega)
theorem specSearch {m : Int} {votes : List Int} (hm : 0 ≤ m ∧ m ≤ 3) (h : vt votes = true) {p : Nat} (hp : p < votes.length) {goal : Int} (hg : 0 ≤ goal) : ∀ d k (lo hi x : Int), hi - lo < 2 ^ d → 0 ≤ lo → lo ≤ hi → hi ≤ 1000000 → 2100 + d < k → (lo = 0 → vt (votes.set p 0) = true) →
    (∀ v, 0 ≤ v → v < lo → sv m votes p v < goal) → (∀ v, hi ≤ v → v ≤ 1000000 → sv m votes p v ≥ goal) →
    ∃ r, spec_FewestFor.l0 k m (p : Int) goal lo hi (votes.set p x) = some (r, true) ∧ isl m votes p goal r := by
  intro d
  have stop : ∀ k (lo hi x : Int), lo = hi → 0 ≤ lo → hi ≤ 1000000 → 0 < k → (∀ v, 0 ≤ v → v < lo → sv m votes p v < goal) → (∀ v, hi ≤ v → v ≤ 1000000 → sv m votes p v ≥ goal) → ∃ r, spec_FewestFor.l0 k m (p : Int) goal lo hi (votes.set p x) = some (r, true) ∧ isl m votes p goal r := by
    intro k lo hi x e h0 h2 hk hlo hhi
    obtain ⟨k, rfl, _⟩ := succ_of_lt hk
    refine ⟨lo, ?_, h0, by omega, hhi lo (by omega) (by omega), hlo⟩
    simp only [spec_FewestFor.l0]
    rw [if_neg (by omega)]
  induction d with
  | zero =>
    intro k lo hi x hd h0 h1 h2 hk _ hlo hhi
    exact stop k lo hi x (by simp at hd; omega) h0 h2 (by omega) hlo hhi
  | succ d ih =>
    intro k lo hi x hd h0 h1 h2 hk hz hlo hhi
    by_cases c : lo < hi
    · obtain ⟨k, rfl, _⟩ := succ_of_lt hk
      rw [Int.pow_succ] at hd
      have hn := vt_len h
      simp only [spec_FewestFor.l0]
      have hmid : lo ≤ (lo + hi) / 2 ∧ (lo + hi) / 2 < hi := by omega
      rw [if_pos c, half_eq ⟨h0, c, by omega⟩, if_pos (by omega), if_pos (by rw [List.length_set]; omega), Option.bind_some, Int.toNat_natCast, List.set_set]
      generalize hmd : (lo + hi) / 2 = mid at *
      have hvm : vt (votes.set p mid) = true := by
        by_cases c0 : mid = 0
        · rw [c0]; exact hz (by omega)
        · exact vt_set h hp (by omega)
      have esv : sv m votes p mid = rd (gv m (votes.set p mid) 100) p := by unfold sv; rw [if_pos hvm]
      have eby := l02By_eq (s := 100) hm hvm (by omega) (k := k) (by rw [List.length_set]; omega)
      rw [show ((100 : Nat) : Int) = 100 from rfl] at eby
      rw [eby, Option.bind_some, gv_length, List.length_set, if_pos (by omega), ← esv]
      by_cases c2 : sv m votes p mid ≥ goal
      · rw [if_pos c2]
        exact ih k lo mid mid (by omega) h0 hmid.1 (by omega) (by omega) hz hlo (fun v hv hv2 => by
          have := sv_mono (m := m) h hp (v := mid) (w := v) (by omega) hv hv2; omega)
      · rw [if_neg c2, w64 (by omega) (by omega)]
        exact ih k (mid + 1) hi mid (by omega) (by omega) (by omega) h2 (by omega) (fun h => by omega) (fun v hv hv2 => by
          have := sv_mono (m := m) h hp (v := v) (w := mid) hv (by omega) (by omega); omega) hhi
    · exact stop k lo hi x (by omega) h0 h2 (by omega) hlo hhi
theorem FewestFor_spec {m : Int} {votes : List Int} {party goal : Int} (_ : i64 m) (_ : ∀ x ∈ votes, i64 x) (_ : i64 party) (_ : i64 goal) (hl : votes.length ≤ 1048576) {k : Nat} (hk : votes.length + 3000 < k) : spec_FewestFor.f k m votes party goal = some (FewestFor_res m votes party goal) := by
  obtain ⟨k, rfl, _⟩ := succ_of_lt hk
  obtain ⟨k, rfl, _⟩ := succ_of_lt (show 2500 < k by omega)
  unfold spec_FewestFor.f FewestFor_res
  rw [l02Method_eq, Option.bind_some]
  by_cases h1 : 0 ≤ m ∧ m ≤ 3
  · rw [if_pos (decide_eq_true h1), l02Is_eq (by omega) (by omega), Option.bind_some]
    by_cases h2 : vt votes = true
    · have hn := vt_len h2
      rw [if_pos h2, l00In_eq, w64 (by omega) (by omega), Option.bind_some]
      by_cases h3 : 0 ≤ party ∧ party ≤ (votes.length : Int) - 1
      · rw [if_pos (decide_eq_true h3), l02Seats_eq, Option.bind_some]
        simp only [spec_FewestFor.j0]
        by_cases h4 : 0 ≤ goal ∧ goal ≤ 100
        · obtain ⟨p, rfl⟩ : ∃ p : Nat, party = p := ⟨party.toNat, by omega⟩
          have hp : p < votes.length := by omega
          rw [if_neg (by simp [h4]), if_pos ⟨h1, h2, h3, h4⟩, own_eq (by omega), Option.bind_some, if_pos (by omega), if_pos (by omega), Option.bind_some, Int.toNat_natCast, l02Is_eq (by rw [List.length_set]; omega) (by rw [List.length_set]; omega), Option.bind_some]
          have hb := vt_set h2 hp (v := 1000000) (by omega)
          have esv : sv m votes p 1000000 = rd (gv m (votes.set p 1000000) 100) p := by unfold sv; rw [if_pos hb]
          have eby := l02By_eq (s := 100) h1 hb (by omega) (k := k) (by rw [List.length_set]; omega)
          rw [show ((100 : Nat) : Int) = 100 from rfl] at eby
          have hj1 : ∀ lo : Int, spec_FewestFor.j1 (k + 1) m (p : Int) goal lo 1000000 (votes.set p 0) = if sv m votes p 1000000 < goal then some (0, false) else spec_FewestFor.l0 k m (p : Int) goal lo 1000000 (votes.set p 1000000) := by
            intro lo
            simp only [spec_FewestFor.j1]
            rw [if_pos (by omega), if_pos (by rw [List.length_set]; omega), Option.bind_some, Int.toNat_natCast, List.set_set, eby, Option.bind_some, gv_length, List.length_set, if_pos (by omega), ← esv]
          by_cases c : sv m votes p 1000000 ≥ goal
          · rw [if_pos c]
            have hi : ∀ v, (1000000 : Int) ≤ v → v ≤ 1000000 → sv m votes p v ≥ goal := fun v a b => by rw [show v = 1000000 by omega]; exact c
            by_cases hz : vt (votes.set p 0) = true
            · rw [if_pos hz, hj1, if_neg (by omega)]
              obtain ⟨r, e, hr⟩ := specSearch h1 h2 hp h4.1 20 k 0 1000000 1000000 (by decide) (by omega) (by omega) (by omega) (by omega) (fun _ => hz) (fun v a b => by omega) hi
              rw [e, lst_is hr]
            · rw [if_neg hz, hj1, if_neg (by omega)]
              obtain ⟨r, e, hr⟩ := specSearch h1 h2 hp h4.1 20 k 1 1000000 1000000 (by decide) (by omega) (by omega) (by omega) (by omega) (fun h => by omega) (fun v a b => by
                obtain rfl : v = 0 := by omega
                unfold sv; rw [if_neg hz]; omega) hi
              rw [e, lst_is hr]
          · rw [if_neg c]
            by_cases hz : vt (votes.set p 0) = true
            · rw [if_pos hz, hj1, if_pos (by omega)]
            · rw [if_neg hz, hj1, if_pos (by omega)]
        · rw [if_pos (by simp only [Bool.not_eq_true', decide_eq_false_iff_not]; exact h4), if_neg (fun h => h4 h.2.2.2)]
      · rw [if_neg (by simp only [decide_eq_true_eq]; exact h3), if_neg (fun h => h3 h.2.2.1)]
        simp only [spec_FewestFor.j0]
        rw [if_pos trivial]
    · rw [if_neg h2, if_neg (fun h => h2 h.2.1)]
      simp only [spec_FewestFor.j0]
      rw [if_pos trivial]
  · rw [if_neg (by simp only [decide_eq_true_eq]; exact h1), if_neg (fun h => h1 h.1)]
    simp only [spec_FewestFor.j0]
    rw [if_pos trivial]
end Go.Proofs.Ytebofadnefkacaa.Q
