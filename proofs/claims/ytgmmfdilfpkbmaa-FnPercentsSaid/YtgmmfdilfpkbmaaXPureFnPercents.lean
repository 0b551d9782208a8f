import Derived.Test.YtgmmfdilfpkbmaaXV3FnPercents
import Derived.Test.YtgmmfdilfpkbmaaXP20FnPercents
import Derived.Test.YtgmmfdilfpkbmaaXP30FnPercents
namespace Go.Proofs.Ytgmmfdilfpkbmaa.Pure
open Go.RowKit Go.Proofs.YtgmmfdilfpkbmaaW.PrintWords Go.Proofs.YtgmmfdilfpkbmaaW.PrintLast Go.Proofs.Ytgmmfdilfpkbmaa.P Go.Proofs.Ytgmmfdilfpkbmaa.B Go.Proofs.Ytgmmfdilfpkbmaa.Q
set_option linter.unusedVariables false
set_option linter.unusedSimpArgs false
theorem r8Abs_ok {a : Int} (h : -1000000000000 ≤ a ∧ a ≤ 1000000000000) : Za5.f a = some (a.natAbs : Int) := by
  unfold Za5.f
  by_cases c : a < 0
  · rw [if_pos c, w64 (by omega) (by omega)]; congr 1; omega
  · rw [if_neg c]; congr 1; omega
set_option maxRecDepth 100000 in
theorem FnPercents : laws_FnPercents.Pure := by
  intro l0 l1 h0 h1 h2 h3 h4 h5
  refine ⟨300000, ?_⟩
  have b0 : by8 l0 := fun x hx => wfu8 (h2 x hx)
  have b1 : by8 l1 := fun x hx => wfu8 (h5 x hx)
  unfold laws_FnPercents.f
  obtain ⟨b, hb⟩ := r8Long_ok l0 l1
  rw [hb, Option.bind_some]
  cases b with
  | true => rw [if_pos rfl]
  | false =>
  rw [if_neg (by simp)]
  obtain ⟨votes, hvo, hv, hv30⟩ := r8Votes_ok b0 (k := 300000) (by omega)
  obtain ⟨s, hs, s0, s1⟩ := r8At_ok (i := 0) (n := 4) b1 (by omega) (by omega)
  have hn := vt_len hv
  obtain ⟨p, rfl⟩ : ∃ n : Nat, s = n := ⟨s.toNat, by omega⟩
  have hi := vt_iff.1 hv
  have hw := whole_in (p := p) (by omega)
  have hpc : pcOk votes = true := by
    unfold pcOk
    rw [Bool.and_eq_true, Bool.and_eq_true, decide_eq_true_eq, decide_eq_true_eq, allIn_iff]
    exact ⟨by omega, fun x hx => hi.2.1 x hx, by omega⟩
  have pf := pc_facts hpc (p := p) (by omega)
  have sb : votes.sum ≤ 360 := by
    have gen : ∀ l : List Int, (∀ x ∈ l, x ≤ 30) → l.sum ≤ 30 * (l.length : Int) := by
      intro l
      induction l with
      | nil => intro _; simp
      | cons x xs ih =>
        intro hx
        have h1 := hx x (List.mem_cons_self ..)
        have h2 := ih (fun y hy => hx y (List.mem_cons_of_mem _ hy))
        rw [List.sum_cons, List.length_cons]; omega
    have := gen votes hv30
    omega
  have nl : (votes.map (· * whole p)).length = votes.length := List.length_map ..
  have er : PercentsOf_res votes (p : Int) = (bestL votes.sum (votes.map (· * whole p)) 0 (whole p - (fls votes.sum (votes.map (· * whole p))).sum).toNat, true) := by
    unfold PercentsOf_res
    rw [if_pos ⟨hpc, by omega⟩, Int.toNat_natCast]
  obtain ⟨B, T, hB, hT, hTi, hTl, ey, hc⟩ := best_facts pf.1 (by omega) pf.2.2.2.2.1.2 0
  have rn : ∀ i : Nat, i < votes.length → rd (votes.map (· * whole p)) i = rd votes i * whole p := fun i h => rd_mapB h
  have rs := rst_inB pf.1.1 (votes.map (· * whole p))
  rw [hvo, Option.bind_some, hs, Option.bind_some, PercentsOf_impl (fun x hx => by have := hi.2.1 x hx; exact ⟨by omega, by omega⟩) ⟨by omega, by omega⟩ (by omega) (by omega), Option.bind_some, er]
  simp only
  have ysum : (bestL votes.sum (votes.map (· * whole p)) 0 (whole p - (fls votes.sum (votes.map (· * whole p))).sum).toNat).sum = whole p := by
    rw [ey, incs_sum T _ (fun q hq => by rw [fls_length]; exact hTi q hq), hTl]
    have := pf.2.2.2.2.1.1
    omega
  have ylen : (bestL votes.sum (votes.map (· * whole p)) 0 (whole p - (fls votes.sum (votes.map (· * whole p))).sum).toNat).length = votes.length := by
    rw [ey, incs_length, fls_length, nl]
  have yrd : ∀ i : Nat, i < votes.length → votes.sum * rd (bestL votes.sum (votes.map (· * whole p)) 0 (whole p - (fls votes.sum (votes.map (· * whole p))).sum).toNat) i = rd votes i * whole p - rst votes.sum (votes.map (· * whole p)) i + (if i ∈ T then votes.sum else 0) := fun i h => by
    rw [ey, incs_rd T _ hT (fun q hq => by rw [fls_length]; exact hTi q hq)]
    have ef : rd (fls votes.sum (votes.map (· * whole p))) i = rd (votes.map (· * whole p)) i / votes.sum := rd_mapB (by omega)
    rw [ef, Int.mul_add, (rs i).2.2, rn i h]
    split
    · rw [Int.mul_one]
    · rw [Int.mul_zero]
  have T0 : ∀ i, i < votes.length → i ∈ T → 0 < rst votes.sum (votes.map (· * whole p)) i := fun i h hiT => by
    have := (hc i (by omega)).1 hiT
    have r0 := (rs i).1
    apply Classical.byContradiction; intro hcc
    unfold cz at this
    rw [if_pos (by omega)] at this
    omega
  have hBV := hB.1
  have hcut : ∀ i, i < votes.length → (i ∈ T → votes.sum - B ≤ rst votes.sum (votes.map (· * whole p)) i) ∧ (i ∉ T → rst votes.sum (votes.map (· * whole p)) i ≤ votes.sum - B) := fun i hi => by
    have h4 := hc i (by omega)
    have h2 := rs i
    refine ⟨fun c => ?_, fun c => ?_⟩
    · have h5 := h4.1 c
      have h6 := T0 i hi c
      unfold cz at h5
      rw [if_neg (by omega), if_neg (by omega)] at h5
      by_cases c2 : rst votes.sum (votes.map (· * whole p)) i > votes.sum - (B : Int)
      · omega
      · rw [if_neg c2] at h5
        by_cases c3 : rst votes.sum (votes.map (· * whole p)) i < votes.sum - (B : Int)
        · rw [if_pos c3] at h5; omega
        · omega
    · have h5 := h4.2 c
      unfold cz at h5
      by_cases c1 : rst votes.sum (votes.map (· * whole p)) i = 0
      · omega
      · rw [if_neg c1, if_neg (by omega)] at h5
        by_cases c2 : rst votes.sum (votes.map (· * whole p)) i > votes.sum - (B : Int)
        · rw [if_pos c2] at h5; omega
        · omega
  have hw0 : whole 0 = 100 := by decide
  clear ey hc er hTl
  generalize bestL votes.sum (votes.map (· * whole p)) 0 (whole p - (fls votes.sum (votes.map (· * whole p))).sum).toNat = y at *
  generalize hr : rst votes.sum (votes.map (· * whole p)) = r at *
  have rr : ∀ i, 0 ≤ r i ∧ r i < votes.sum := fun i => ⟨(rs i).1, (rs i).2.1⟩
  have hV := pf.2.2.2.1
  clear rs hr hpc pf rn nl
  refine loopIc0 (m := p) 200000 (F := fun k j (s : Int) => laws_FnPercents.l0 k votes (p : Int) y true s j) (fun j s => s = whole j) (fun r => r = some true) ?_ ?_ (k := 300000) (s := 100) (by omega) hw0.symm
  · rintro k s hk rfl
    simp only [laws_FnPercents.l0]
    rw [if_neg (by omega), r8Sum_eq (by omega) (fun x hx => by have := hi.2.1 x hx; omega) (by omega), Option.bind_some, if_pos trivial, if_pos (by omega), r8Sum_eq (by omega) (fun x hx => by
      obtain ⟨i, hi2, rfl⟩ := List.getElem_of_mem hx
      have h6 := yrd i (by omega)
      have h7 := rr i
      have h8 := mul_in (a := rd votes i) (b := whole p) (A := 30) (B := 100000) (by have := hi.2.1 _ (rd_mem (l := votes) (n := i) (by omega)); have := hv30 _ (rd_mem (l := votes) (n := i) (by omega)); omega) (by omega) (by omega)
      rw [rd_nat hi2] at h6
      have h9 : -4000000 ≤ votes.sum * y[i] ∧ votes.sum * y[i] ≤ 4000000 := by split at h6 <;> omega
      constructor
      · apply Classical.byContradiction; intro hcc
        have := Int.mul_le_mul (a := 1) (b := 1000000000000) (c := votes.sum) (d := - y[i]) (by omega) (by omega) (by omega) (by omega)
        rw [Int.mul_neg] at this
        omega
      · apply Classical.byContradiction; intro hcc
        have := Int.mul_le_mul (a := 1) (b := 1000000000000) (c := votes.sum) (d := y[i]) (by omega) (by omega) (by omega) (by omega)
        omega) (by omega), Option.bind_some, ysum]
    have k1 : k = (k - 1) + 1 := by omega
    rw [k1]
    generalize hk1 : k - 1 = k'
    simp only [laws_FnPercents.j1]
    rw [if_neg (by simp)]
    refine loopIc0 (m := votes.length) 100000 (F := fun k j (s : List Int) => laws_FnPercents.l1 k votes y (whole p) votes.sum s j) (fun j s => s.length = j ∧ ∀ i : Nat, i < j → rd s i = (if i ∈ T then votes.sum else 0) - r i) (fun r => r = some true) ?_ ?_ (k := k') (s := []) (by omega) ⟨rfl, fun i h => by omega⟩
    · rintro k E hk ⟨hE1, hE⟩
      simp only [laws_FnPercents.l1]
      rw [if_neg (by omega)]
      have outer : ∀ d (i : Nat) k, votes.length - i = d → i ≤ votes.length → 100 * (d + 1) < k → laws_FnPercents.l2 k y votes.sum E (i : Int) = some true := by
        intro d
        induction d with
        | zero =>
          intro i k hd hi hk
          obtain ⟨k, rfl, _⟩ := Za6 hk
          simp only [laws_FnPercents.l2]
          rw [if_neg (by omega)]
        | succ d ih =>
          intro i k hd hi hk
          obtain ⟨k, rfl, _⟩ := Za6 hk
          simp only [laws_FnPercents.l2]
          rw [if_pos (by omega)]
          refine loopIc0 (m := votes.length) (100 * (d + 1) + 1) (F := fun k j (_ : Unit) => laws_FnPercents.l3 k y votes.sum E (i : Int) j) (fun _ _ => True) (fun r => r = some true) ?_ ?_ (k := k) (s := ()) (by omega) trivial
          · intro k _ hk _
            simp only [laws_FnPercents.l3]
            rw [if_neg (by omega), wrap_nat (by omega)]
            exact ih (i + 1) k (by omega) (by omega) (by omega)
          · intro k j _ hk hj _
            refine .inl ⟨(), trivial, ?_⟩
            simp only [laws_FnPercents.l3]
            have ei := hE i (by omega)
            have ej := hE j hj
            have ri := rr i
            have rj := rr j
            have ti := T0 i (by omega)
            have tj := T0 j hj
            have ci := hcut i (by omega)
            have cj := hcut j hj
            have bi : -360 ≤ rd E i ∧ rd E i ≤ 360 := by rw [ei]; split <;> omega
            have bj : -360 ≤ rd E j ∧ rd E j ≤ 360 := by rw [ej]; split <;> omega
            rw [if_pos (by omega), if_pos (by omega), if_pos (by omega), r8Abs_ok (by omega), Option.bind_some, if_pos (by omega), if_pos (by omega), r8Abs_ok (by omega), Option.bind_some, w64 (x := rd E i - votes.sum) (by omega) (by omega), w64 (x := rd E j + votes.sum) (by omega) (by omega), r8Abs_ok (by omega), Option.bind_some, r8Abs_ok (by omega), Option.bind_some, wrap_nat (by omega)]
            by_cases c : (i : Int) = (j : Int)
            · rw [if_pos c]
            · rw [if_neg c, w64 (by omega) (by omega), w64 (by omega) (by omega), if_neg]
              rw [ei, ej]
              clear ei ej bi bj
              by_cases x1 : i ∈ T
              · have := ci.1 x1
                have := ti x1
                rw [if_pos x1]
                by_cases x2 : j ∈ T
                · have := tj x2
                  rw [if_pos x2]; omega
                · have := cj.2 x2
                  rw [if_neg x2]; omega
              · rw [if_neg x1]
                by_cases x2 : j ∈ T
                · have := tj x2
                  rw [if_pos x2]; omega
                · rw [if_neg x2]; omega
      exact outer votes.length 0 k (by omega) (by omega) (by omega)
    · rintro k j E hk hj ⟨hE1, hE⟩
      have h6 := yrd j hj
      have h7 := rr j
      have h8 := mul_in (a := rd votes j) (b := whole p) (A := 30) (B := 100000) (by have := hi.2.1 _ (rd_mem (l := votes) (n := j) (by omega)); have := hv30 _ (rd_mem (l := votes) (n := j) (by omega)); omega) (by omega) (by omega)
      have t0 := T0 j hj
      have e1 : rd y j * votes.sum - whole p * rd votes j = (if j ∈ T then votes.sum else 0) - r j := by
        rw [Int.mul_comm (rd y j), h6, Int.mul_comm (whole p)]; omega
      have bd : -votes.sum < (if j ∈ T then votes.sum else 0) - r j ∧ (if j ∈ T then votes.sum else 0) - r j < votes.sum := by
        by_cases x1 : j ∈ T
        · have := t0 x1
          rw [if_pos x1]; omega
        · rw [if_neg x1]; omega
      have b1 : -4000000 ≤ rd y j * votes.sum ∧ rd y j * votes.sum ≤ 4000000 := by
        rw [Int.mul_comm (rd y j), h6]
        split <;> omega
      have b2 : -4000000 ≤ whole p * rd votes j ∧ whole p * rd votes j ≤ 4000000 := by
        rw [Int.mul_comm (whole p)]; omega
      refine .inl ⟨E ++ [(if j ∈ T then votes.sum else 0) - r j], ⟨by simp [hE1], fun i hi => ?_⟩, ?_⟩
      · by_cases c : i < j
        · have := hE i c
          rw [rd_nat (by rw [List.length_append]; omega), List.getElem_append_left (by omega), ← rd_nat (by omega)]
          exact this
        · obtain rfl : i = j := by omega
          rw [rd_nat (by rw [List.length_append, List.length_singleton]; omega), List.getElem_append_right (by omega)]
          simp only [hE1, Nat.sub_self, List.getElem_cons_zero]
      · simp only [laws_FnPercents.l1]
        rw [if_pos (by omega), if_pos (by omega), if_pos (by omega), w64 (x := rd y j * votes.sum) (by omega) (by omega), w64 (x := whole p * rd votes j) (by omega) (by omega), w64 (x := rd y j * votes.sum - whole p * rd votes j) (by omega) (by omega), w64 (x := -votes.sum) (by omega) (by omega), e1, if_neg (by omega), if_neg (by omega), if_pos (by omega), wrap_nat (by omega)]
  · rintro k j s hk hj rfl
    have hwj := whole_in (p := j) (by omega)
    refine .inl ⟨_, rfl, ?_⟩
    simp only [laws_FnPercents.l0]
    rw [if_pos (by omega), w64 (by omega) (by omega), ← whole_succ, wrap_nat (by omega)]
end Go.Proofs.Ytgmmfdilfpkbmaa.Pure
