import Derived.Test.YtgmmfdilfpkbmaaXV2FnPercents
import Derived.Test.YtgmmfdilfpkbmaaXP10FnPercents
import Derived.Test.YtgmmfdilfpkbmaaXP19FnPercents
section
namespace Go.Proofs.Ytgmmfdilfpkbmaa.Q
open Go.RowKit Go.Proofs.YtgmmfdilfpkbmaaW.PrintWords Go.Proofs.YtgmmfdilfpkbmaaW.PrintLast Go.Proofs.Ytgmmfdilfpkbmaa.P Go.Proofs.Ytgmmfdilfpkbmaa.B
set_option linter.unusedVariables false
set_option linter.unusedSimpArgs false
theorem rd_mapB {f : Int → Int} {l : List Int} {i : Nat} (h : i < l.length) : rd (l.map f) (i : Int) = f (rd l i) := by
  rw [rd_nat (by rw [List.length_map]; exact h), rd_nat h, List.getElem_map]
theorem rst_inB {V : Int} (hV : 1 ≤ V) (nums : List Int) (i : Nat) : 0 ≤ rst V nums i ∧ rst V nums i < V ∧ V * (rd nums i / V) = rd nums i - rst V nums i := by
  have := ediv_mul_le (a := rd nums i) hV
  unfold rst
  rw [Int.mul_comm V]
  omega
theorem best_facts {V : Int} {nums : List Int} (h : okd V nums) (hn : nums.length ≤ 40) {m : Nat} (hm : m ≤ (above V nums 0 nums.length).length) (nm : Int) :
    ∃ (B : Nat) (T : List Nat), BD V nums nm m B ∧ T.Nodup ∧ (∀ i ∈ T, i < nums.length) ∧ T.length = m ∧ bestL V nums nm m = incs (fls V nums) T ∧ ∀ i, i < nums.length → (i ∈ T → cz V nm B (rst V nums i) = 1 ∨ cz V nm B (rst V nums i) = 0) ∧ (i ∉ T → cz V nm B (rst V nums i) ≠ 1) := by
  obtain ⟨B, up, hB, _, _⟩ := plan_eq h hn hm (nm := nm) (k := 30001) (by omega)
  have hD := BDof_eq hB
  have h2 := hB.2.1.2
  refine ⟨B, onesL V nums nm B nums.length ++ (zerosL V nums nm B nums.length).drop (frees V nums nm m - lefts V nums nm m), hB, pick_nodup .., fun i hi => pick_lt hi, ?_, ?_, fun i hi => ⟨fun hT => ?_, fun hT hc => hT ?_⟩⟩
  · unfold frees lefts
    rw [hD, List.length_append, List.length_drop]
    omega
  · unfold bestL
    rw [hD]
  · rcases List.mem_append.1 hT with h1 | h1
    · exact .inl (onesL_mem.1 h1).2
    · exact .inr (zerosL_mem.1 (List.mem_of_mem_drop h1)).2
  · exact List.mem_append_left _ (onesL_mem.2 ⟨hi, hc⟩)
end Go.Proofs.Ytgmmfdilfpkbmaa.Q
end
section
namespace Go.Proofs.Ytgmmfdilfpkbmaa.Q
open Go.RowKit Go.Proofs.YtgmmfdilfpkbmaaW.PrintWords Go.Proofs.YtgmmfdilfpkbmaaW.PrintLast Go.Proofs.Ytgmmfdilfpkbmaa.P Go.Proofs.Ytgmmfdilfpkbmaa.B
set_option linter.unusedVariables false
set_option linter.unusedSimpArgs false
def whole (p : Nat) : Int := 100 * 10 ^ p
theorem whole_in {p : Nat} (h : p ≤ 3) : 100 ≤ whole p ∧ whole p ≤ 100000 := by
  have : p = 0 ∨ p = 1 ∨ p = 2 ∨ p = 3 := by omega
  rcases this with rfl | rfl | rfl | rfl <;> decide
theorem whole_succ (p : Nat) : whole (p + 1) = whole p * 10 := by
  unfold whole
  rw [Int.pow_succ, Int.mul_assoc]
def pcOk (counts : List Int) : Bool := decide (1 ≤ counts.length ∧ counts.length ≤ 40) && (allIn counts 0 1000000 && decide (counts.sum ≠ 0))
noncomputable def PercentsOf_res (counts : List Int) (places : Int) : List Int × Bool := if pcOk counts = true ∧ 0 ≤ places ∧ places ≤ 3 then (bestL counts.sum (counts.map (· * whole places.toNat)) 0 (whole places.toNat - (fls counts.sum (counts.map (· * whole places.toNat))).sum).toNat, true) else ([], false)
theorem pc_facts {counts : List Int} (h : pcOk counts = true) {p : Nat} (hp : p ≤ 3) : okd counts.sum (counts.map (· * whole p)) ∧ (1 ≤ counts.length ∧ counts.length ≤ 40) ∧ (∀ x ∈ counts, 0 ≤ x ∧ x ≤ 1000000) ∧ (1 ≤ counts.sum ∧ counts.sum ≤ 40000000) ∧
    (whole p - (fls counts.sum (counts.map (· * whole p))).sum = ((whole p - (fls counts.sum (counts.map (· * whole p))).sum).toNat : Int) ∧ (whole p - (fls counts.sum (counts.map (· * whole p))).sum).toNat ≤ (above counts.sum (counts.map (· * whole p)) 0 (counts.map (· * whole p)).length).length) ∧ -1000000000000 ≤ (fls counts.sum (counts.map (· * whole p))).sum ∧ (fls counts.sum (counts.map (· * whole p))).sum ≤ 1000000000000 := by
  unfold pcOk at h
  rw [Bool.and_eq_true, Bool.and_eq_true, decide_eq_true_eq, decide_eq_true_eq, allIn_iff] at h
  obtain ⟨h1, h2, h3⟩ := h
  have hw := whole_in hp
  have gen : ∀ l : List Int, (∀ x ∈ l, 0 ≤ x ∧ x ≤ 1000000) → 0 ≤ l.sum ∧ l.sum ≤ 1000000 * (l.length : Int) := by
    intro l
    induction l with
    | nil => intro _; simp
    | cons x xs ih =>
      intro hx
      have h1 := hx x (List.mem_cons_self ..)
      have h2 := ih (fun y hy => hx y (List.mem_cons_of_mem _ hy))
      rw [List.sum_cons, List.length_cons]; omega
  have hs := gen counts h2
  have hV : 1 ≤ counts.sum ∧ counts.sum ≤ 40000000 := by omega
  have hok : okd counts.sum (counts.map (· * whole p)) := by
    refine ⟨hV.1, by omega, by rw [List.length_map]; omega, fun x hx => ?_⟩
    rw [List.mem_map] at hx
    obtain ⟨y, hy, rfl⟩ := hx
    have hy := h2 y hy
    have a : 0 ≤ y * whole p := Int.mul_nonneg hy.1 (by omega)
    have b : y * whole p ≤ 1000000 * 100000 := Int.mul_le_mul hy.2 hw.2 (by omega) (by omega)
    omega
  have hsum : (counts.map (· * whole p)).sum = counts.sum * whole p := by
    clear hs hV hok h1 h3
    induction counts with
    | nil => simp
    | cons x xs ih => rw [List.map_cons, List.sum_cons, List.sum_cons, ih (fun y hy => h2 y (List.mem_cons_of_mem _ hy)), Int.add_mul]
  have hf := fls_sum hV.1 (counts.map (· * whole p))
  have hcl : (counts.map (· * whole p)).sum ≤ counts.sum * (cls counts.sum (counts.map (· * whole p))).sum := by
    generalize counts.map (· * whole p) = l
    have hV1 := hV.1
    generalize counts.sum = V at hV1
    induction l with
    | nil => simp [cls]
    | cons x xs ih =>
      have h := cl_mul (a := x) hV1
      have e : (cls V (x :: xs)).sum = cl x V + (cls V xs).sum := by simp [cls]
      rw [e, List.sum_cons, Int.mul_add, Int.mul_comm V (cl x V)]
      omega
  rw [cls_sum' hV.1] at hcl
  rw [hsum] at hcl hf
  have m1 : (fls counts.sum (counts.map (· * whole p))).sum ≤ whole p := Int.le_of_mul_le_mul_left (a := counts.sum) (by omega) (by omega)
  have m2 : whole p ≤ (fls counts.sum (counts.map (· * whole p))).sum + ((above counts.sum (counts.map (· * whole p)) 0 (counts.map (· * whole p)).length).length : Int) := Int.le_of_mul_le_mul_left (a := counts.sum) (by omega) (by omega)
  have hpl : (above counts.sum (counts.map (· * whole p)) 0 (counts.map (· * whole p)).length).length ≤ counts.length := by
    have := List.length_filter_le (fun i => decide (0 < rst counts.sum (counts.map (· * whole p)) i)) (List.range (counts.map (· * whole p)).length)
    rw [List.length_range, List.length_map] at this
    rw [List.length_map]
    exact this
  exact ⟨hok, h1, h2, hV, ⟨by omega, by omega⟩, by omega, by omega⟩
theorem PercentsOf_impl {counts : List Int} {places : Int} (h2 : ∀ x ∈ counts, i64 x) (_ : i64 places) (hl : counts.length ≤ 1048576) {k : Nat} (hk : counts.length + 203000 < k) : Zan.f k counts places = some (PercentsOf_res counts places) := by
  obtain ⟨k, rfl, _⟩ := Za6 hk
  unfold Zan.f PercentsOf_res impl_size_int64.f
  rw [Option.bind_some, within_eq, Option.bind_some]
  have dec : decide (1 ≤ (counts.length : Int) ∧ (counts.length : Int) ≤ 40) = decide (1 ≤ counts.length ∧ counts.length ≤ 40) := decide_eq_decide.2 (by omega)
  rw [dec]
  by_cases c1 : 1 ≤ counts.length ∧ counts.length ≤ 40
  · rw [if_pos (decide_eq_true c1), areWithin_eq (by omega) _ _ (by omega), Option.bind_some]
    by_cases c2 : allIn counts 0 1000000 = true
    · have hin := allIn_iff.1 c2
      rw [if_pos c2, sum_eq (by omega) (fun x hx => by have := hin x hx; omega) (by omega), Option.bind_some]
      by_cases c3 : counts.sum = 0
      · rw [if_pos c3, if_neg (fun h => by
          have := h.1
          unfold pcOk at this
          rw [Bool.and_eq_true, Bool.and_eq_true, decide_eq_true_eq, decide_eq_true_eq] at this
          exact this.2.2 c3)]
        simp only [Zan.j0]
        rw [if_pos trivial]
      · have hpc : pcOk counts = true := by
          unfold pcOk
          rw [decide_eq_true c1, c2, decide_eq_true c3]; rfl
        rw [if_neg c3, within_eq, Option.bind_some]
        simp only [Zan.j0]
        by_cases c4 : 0 ≤ places ∧ places ≤ 3
        · rw [decide_eq_true c4, if_neg (by simp), if_pos ⟨hpc, c4⟩]
          obtain ⟨p, rfl⟩ : ∃ p : Nat, places = p := ⟨places.toNat, by omega⟩
          rw [Int.toNat_natCast]
          obtain ⟨hok, _, _, hV, hm, hfb⟩ := pc_facts hpc (p := p) (by omega)
          have hsum := okd_sum hok
          obtain ⟨up, e1, e2, _, _⟩ := bestImpl hok (by rw [List.length_map]; omega) hm.2 (nm := 0) (k := 100000) (by omega)
          have nums : ∀ k, 100100 < k → Zan.l1 k (whole p) counts (counts.length : Int) 0 counts.sum [] = some (bestL counts.sum (counts.map (· * whole p)) 0 (whole p - (fls counts.sum (counts.map (· * whole p))).sum).toNat, true) := by
            intro k hk
            have hw := whole_in (p := p) (by omega)
            refine loopIc0 (m := counts.length) 100010 (F := fun k i (s : List Int) => Zan.l1 k (whole p) counts (counts.length : Int) i counts.sum s) (fun i s => s = (counts.take i).map (· * whole p)) (fun r => r = some (bestL counts.sum (counts.map (· * whole p)) 0 (whole p - (fls counts.sum (counts.map (· * whole p))).sum).toNat, true)) ?_ ?_ (k := k) (s := []) (by omega) (by simp)
            · rintro k s hk rfl
              obtain ⟨up, e1, e2, _, _⟩ := bestImpl hok (by rw [List.length_map]; omega) hm.2 (nm := 0) (k := k) (by omega)
              have w1 : wrap64 (whole p - (fls counts.sum (counts.map (· * whole p))).sum) = ((whole p - (fls counts.sum (counts.map (· * whole p))).sum).toNat : Int) := by rw [w64 (by omega) (by omega)]; exact hm.1
              simp only [Zan.l1]
              rw [if_neg (by clear w1; omega), List.take_length, floors_eq hok (by clear w1; rw [List.length_map]; omega), Option.bind_some, sum_eq hsum.1 hsum.2.2.1 (by clear w1; rw [fls_length, List.length_map]; omega), Option.bind_some, w1, e1, Option.bind_some]
              simp only
              rw [e2]; rfl
            · rintro k i s hk hi rfl
              have hx := hin _ (List.getElem_mem hi)
              have a : 0 ≤ counts[i] * whole p := Int.mul_nonneg hx.1 (by omega)
              have b : counts[i] * whole p ≤ 1000000 * 100000 := Int.mul_le_mul hx.2 hw.2 (by omega) (by omega)
              refine .inl ⟨_, rfl, ?_⟩
              simp only [Zan.l1]
              rw [if_pos (by omega), if_pos (by omega), if_pos (by omega), if_pos (by rw [List.length_map, List.length_take]; omega), rd_nat hi, w64 (x := counts[i] * whole p) (by omega) (by omega), wrap_nat (by omega), List.take_add_one, List.getElem?_eq_getElem hi, Option.toList_some, List.map_append]
              rfl
          refine loopIc0 (m := p) 100200 (F := fun k i (s : Int) => Zan.l0 k counts s (p : Int) i) (fun i s => s = whole i) (fun r => r = some (bestL counts.sum (counts.map (· * whole p)) 0 (whole p - (fls counts.sum (counts.map (· * whole p))).sum).toNat, true)) ?_ ?_ (k := k) (s := 100) (by omega) rfl
          · rintro k s hk rfl
            simp only [Zan.l0]
            rw [if_neg (by omega), sum_eq (by omega) (fun x hx => by have := hin x hx; omega) (by omega), Option.bind_some]
            exact nums k (by omega)
          · rintro k i s hk hi rfl
            have hw := whole_in (p := i) (by omega)
            refine .inl ⟨_, rfl, ?_⟩
            simp only [Zan.l0]
            rw [if_pos (by omega), w64 (by omega) (by omega), wrap_nat (by omega), whole_succ]
        · rw [decide_eq_false c4, if_pos (show (!false) = true from rfl), if_neg (fun h => c4 h.2)]
    · rw [if_neg c2, if_neg (fun h => by
        have := h.1
        unfold pcOk at this
        rw [Bool.and_eq_true, Bool.and_eq_true] at this
        exact c2 this.2.1)]
      simp only [Zan.j0]
      rw [if_pos trivial]
  · rw [if_neg (by rw [decide_eq_true_eq]; exact c1), if_neg (fun h => by
      have := h.1
      unfold pcOk at this
      rw [Bool.and_eq_true, decide_eq_true_eq] at this
      exact c1 this.1)]
    simp only [Zan.j0]
    rw [if_pos trivial]
end Go.Proofs.Ytgmmfdilfpkbmaa.Q
end
