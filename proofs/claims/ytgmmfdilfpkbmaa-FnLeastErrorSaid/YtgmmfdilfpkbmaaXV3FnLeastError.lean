import Derived.Test.YtgmmfdilfpkbmaaXV2FnLeastError
import Derived.Laws.Bits64
import Derived.Test.YtgmmfdilfpkbmaaXP3FnLeastError
import Derived.Test.YtgmmfdilfpkbmaaXP10FnLeastError
import Derived.Test.YtgmmfdilfpkbmaaXP22FnLeastError
section
namespace Go.Proofs.Ytgmmfdilfpkbmaa.Q
open Go.RowKit Go.Proofs.YtgmmfdilfpkbmaaW.PrintWords Go.Proofs.YtgmmfdilfpkbmaaW.PrintLast Go.Proofs.Ytgmmfdilfpkbmaa.P Go.Proofs.Ytgmmfdilfpkbmaa.B
set_option linter.unusedVariables false
set_option linter.unusedSimpArgs false
def cc (m v : Int) : Int := if m = 0 then v else if m = 1 then v * v else if m = 2 then 2 * v else v
abbrev kin (k : Int) : Prop := 0 ≤ k ∧ k ≤ 102
def aok (votes a : List Int) : Prop := a.length = votes.length ∧ ∀ x ∈ a, kin x
theorem aok.rd {votes a : List Int} (h : aok votes a) {i : Nat} (hi : i < votes.length) : kin (rd a i) := by
  rw [rd_nat (by rw [h.1]; exact hi)]
  exact h.2 _ (List.getElem_mem _)
end Go.Proofs.Ytgmmfdilfpkbmaa.Q
end
section
namespace Go.Proofs.Ytgmmfdilfpkbmaa.Q
open Go.RowKit Go.Proofs.YtgmmfdilfpkbmaaW.PrintWords Go.Proofs.YtgmmfdilfpkbmaaW.PrintLast Go.Proofs.Ytgmmfdilfpkbmaa.P Go.Proofs.Ytgmmfdilfpkbmaa.B
set_option linter.unusedVariables false
set_option linter.unusedSimpArgs false
abbrev by8 (l : List Int) : Prop := ∀ x ∈ l, 0 ≤ x ∧ x ≤ 255
theorem and255 {x : Int} (h : 0 ≤ x) (h2 : x < 18446744073709551616) : Go.bits .and .u64 x 255 = x % 256 :=
  bits_mask .u64 64 (by decide) (fun n h₀ h₁ => by rw [IntKind.wrap_u64]; omega) 8 (by decide) x h h2
theorem top_byte (z : Int) : 0 ≤ wrap64 (Go.bits .and .u64 (IntKind.u64.wrap z / 1099511627776) 255) ∧ wrap64 (Go.bits .and .u64 (IntKind.u64.wrap z / 1099511627776) 255) ≤ 255 := by
  have h : 0 ≤ IntKind.u64.wrap z ∧ IntKind.u64.wrap z < 18446744073709551616 := by rw [IntKind.wrap_u64]; omega
  generalize IntKind.u64.wrap z = y at h ⊢
  rw [and255 (by omega) (by omega), w64 (by omega) (by omega)]
  omega
theorem next_ok {l : List Int} {at' seed : Int} (hl : by8 l) (h : 0 ≤ at' ∧ at' ≤ 1000000000000000000) : ∃ x s, spec_l00Src_next.f l at' seed = some (x, at' + 1, s) ∧ 0 ≤ x ∧ x ≤ 255 := by
  obtain ⟨n, rfl⟩ : ∃ n : Nat, at' = n := ⟨at'.toNat, by omega⟩
  unfold spec_l00Src_next.f
  rw [w64 (x := (n : Int) + 1) (by omega) (by omega)]
  by_cases c : (n : Int) < (l.length : Int)
  · rw [if_pos c, if_pos (by omega), if_pos (by omega)]
    have hx := hl _ (rd_mem (l := l) (n := n) (by omega))
    exact ⟨_, _, rfl, by rw [w64 (by omega) (by omega)]; omega, by rw [w64 (by omega) (by omega)]; omega⟩
  · rw [if_neg c, if_neg (by omega)]
    exact ⟨_, _, rfl, top_byte _⟩
theorem pick_ok {l : List Int} {at' seed n : Int} (hl : by8 l) (h : 0 ≤ at' ∧ at' ≤ 100000000000000000) (hn : n ≤ 60000) : ∃ x a s, spec_l00Src_pick.f l at' seed n = some (x, a, s) ∧ (0 ≤ x ∧ (x < n ∨ x = 0)) ∧ at' ≤ a ∧ a ≤ at' + 2 := by
  unfold spec_l00Src_pick.f
  by_cases c : n ≤ 1
  · rw [if_pos c]; exact ⟨0, at', seed, rfl, by omega, by omega, by omega⟩
  · obtain ⟨x, s, e, hx⟩ := next_ok (seed := seed) hl (show 0 ≤ at' ∧ at' ≤ 1000000000000000000 by omega)
    rw [if_neg c, e, Option.bind_some]
    by_cases c2 : n > 200
    · obtain ⟨y, s2, e2, hy⟩ := next_ok (seed := s) hl (show 0 ≤ at' + 1 ∧ at' + 1 ≤ 1000000000000000000 by omega)
      rw [if_pos c2, e2, Option.bind_some, if_neg (by omega), w64 (x := x * 256) (by omega) (by omega), w64 (x := x * 256 + y) (by omega) (by omega), Int.tmod_eq_emod_of_nonneg (by omega)]
      exact ⟨_, _, _, rfl, ⟨Int.emod_nonneg _ (by omega), .inl (Int.emod_lt_of_pos _ (by omega))⟩, by simp only; omega, by simp only; omega⟩
    · rw [if_neg c2, if_neg (by omega), Int.tmod_eq_emod_of_nonneg (by omega)]
      exact ⟨_, _, _, rfl, ⟨Int.emod_nonneg _ (by omega), .inl (Int.emod_lt_of_pos _ (by omega))⟩, by simp only; omega, by simp only; omega⟩
theorem r8Long_ok (l m : List Int) : ∃ b, laws_r8Long.f l m = some b := by
  unfold laws_r8Long.f
  split
  · exact ⟨_, rfl⟩
  · exact ⟨_, rfl⟩
def vd (votes : List Int) : Prop := vt votes = true ∧ ∀ x ∈ votes, x ≤ 30
end Go.Proofs.Ytgmmfdilfpkbmaa.Q
end
section
namespace Go.Proofs.Ytgmmfdilfpkbmaa.Q
open Go.RowKit Go.Proofs.YtgmmfdilfpkbmaaW.PrintWords Go.Proofs.YtgmmfdilfpkbmaaW.PrintLast Go.Proofs.Ytgmmfdilfpkbmaa.P Go.Proofs.Ytgmmfdilfpkbmaa.B
set_option linter.unusedVariables false
set_option linter.unusedSimpArgs false
theorem nodup_leB : ∀ {l1 l2 : List Nat}, l1.Nodup → (∀ x ∈ l1, x ∈ l2) → l1.length ≤ l2.length
  | [], _, _, _ => Nat.zero_le _
  | x :: xs, l2, hn, h => by
    rw [List.nodup_cons] at hn
    have hx := h x (List.mem_cons_self ..)
    have := nodup_leB (l1 := xs) (l2 := l2.erase x) hn.2 (fun y hy => by
      have hy2 := h y (List.mem_cons_of_mem _ hy)
      have hne : y ≠ x := fun e => hn.1 (e ▸ hy)
      exact (List.mem_erase_of_ne hne).2 hy2)
    rw [List.length_erase_of_mem hx] at this
    have hp := List.length_pos_of_mem hx
    rw [List.length_cons]; omega
theorem rd_mapB {f : Int → Int} {l : List Int} {i : Nat} (h : i < l.length) : rd (l.map f) (i : Int) = f (rd l i) := by
  rw [rd_nat (by rw [List.length_map]; exact h), rd_nat h, List.getElem_map]
theorem rd_succB (a : Int) (l : List Int) (i : Nat) : rd (a :: l) ((i + 1 : Nat) : Int) = rd l (i : Int) := by
  show (a :: l).getD ((i + 1 : Nat) : Int).toNat 0 = l.getD ((i : Nat) : Int).toNat 0
  rw [Int.toNat_natCast, Int.toNat_natCast]; rfl
theorem rd_extB {a b : List Int} (hl : a.length = b.length) (h : ∀ i : Nat, i < a.length → rd a i = rd b i) : a = b := by
  refine List.ext_getElem hl fun i h1 h2 => ?_
  have := h i h1
  rwa [rd_nat h1, rd_nat h2] at this
theorem fold0 : ∀ (es : List Int) (s : Int), es.foldl (nf 0) s = s + (es.map fun e => (e.natAbs : Int)).sum
  | [], s => by simp
  | e :: es, s => by
    rw [List.foldl_cons, fold0 es, List.map_cons, List.sum_cons]
    unfold nf
    rw [if_pos rfl]; omega
theorem fold1 : ∀ (es : List Int) (s : Int), es.foldl (nf 1) s = s + (es.map fun e => e * e).sum
  | [], s => by simp
  | e :: es, s => by
    rw [List.foldl_cons, fold1 es, List.map_cons, List.sum_cons]
    unfold nf
    rw [if_neg (by omega), if_pos rfl]; omega
theorem fold2 : ∀ (es : List Int) (s : Int), s ≤ es.foldl (nf 2) s ∧ (∀ e ∈ es, (e.natAbs : Int) ≤ es.foldl (nf 2) s) ∧ ∀ M, s ≤ M → (∀ e ∈ es, (e.natAbs : Int) ≤ M) → es.foldl (nf 2) s ≤ M
  | [], s => ⟨Int.le_refl _, by simp, fun M h _ => h⟩
  | e :: es, s => by
    rw [List.foldl_cons]
    have e1 : nf 2 s e = max s (e.natAbs : Int) := by unfold nf; rw [if_neg (by omega), if_neg (by omega)]
    have ih := fold2 es (nf 2 s e)
    rw [e1] at ih ⊢
    refine ⟨by omega, fun x hx => ?_, fun M h1 h2 => ih.2.2 M (by have := h2 e (List.mem_cons_self ..); omega) fun x hx => h2 x (List.mem_cons_of_mem e hx)⟩
    rcases List.mem_cons.1 hx with rfl | hx
    · omega
    · exact ih.2.1 x hx
theorem lag {V lam : Int} {g : Int → Int} : ∀ (nums x y : List Int), x.length = nums.length → y.length = nums.length → (∀ i : Nat, i < nums.length → g (V * rd y i - rd nums i) + lam * rd y i ≤ g (V * rd x i - rd nums i) + lam * rd x i) → ((ers V nums y).map g).sum + lam * y.sum ≤ ((ers V nums x).map g).sum + lam * x.sum
  | [], x, y, hx, hy, _ => by
    obtain rfl := List.length_eq_zero_iff.1 hx
    obtain rfl := List.length_eq_zero_iff.1 hy
    exact Int.le_refl _
  | a :: nums, [], _, hx, _, _ => by simp at hx
  | a :: nums, _ :: _, [], _, hy, _ => by simp at hy
  | a :: nums, b :: x, c :: y, hx, hy, h => by
    have ih := lag nums x y (by simpa using hx) (by simpa using hy) (fun i hi => by
      have := h (i + 1) (by rw [List.length_cons]; omega)
      rw [rd_succB, rd_succB, rd_succB] at this
      exact this)
    have h0 : g (V * c - a) + lam * c ≤ g (V * b - a) + lam * b := h 0 (by rw [List.length_cons]; omega)
    have e1 : ((ers V (a :: nums) (c :: y)).map g).sum = g (V * c - a) + ((ers V nums y).map g).sum := rfl
    have e2 : ((ers V (a :: nums) (b :: x)).map g).sum = g (V * b - a) + ((ers V nums x).map g).sum := rfl
    rw [e1, e2, List.sum_cons, List.sum_cons, Int.mul_add, Int.mul_add]
    omega
theorem rd_ersB {V : Int} {nums x : List Int} (hx : x.length = nums.length) {i : Nat} (hi : i < nums.length) : rd (ers V nums x) i = V * rd x i - rd nums i := by
  rw [rd_nat (by rw [ers_length hx]; exact hi), rd_nat hi, rd_nat (by omega)]
  simp [ers]
theorem rst_inB {V : Int} (hV : 1 ≤ V) (nums : List Int) (i : Nat) : 0 ≤ rst V nums i ∧ rst V nums i < V ∧ V * (rd nums i / V) = rd nums i - rst V nums i := by
  have := ediv_mul_le (a := rd nums i) hV
  unfold rst
  rw [Int.mul_comm V]
  omega
theorem best_facts {V : Int} {nums : List Int} (h : okd V nums) (hn : nums.length ≤ 40) {m : Nat} (hm : m ≤ (above V nums 0 nums.length).length) (nm : Int) :
    ∃ (B : Nat) (T : List Nat), BD V nums nm m B ∧ T.Nodup ∧ (∀ i ∈ T, i < nums.length) ∧ T.length = m ∧ bestL V nums nm m = incs (fls V nums) T ∧ ∀ i, i < nums.length → (i ∈ T → cz V nm B (rst V nums i) = 1 ∨ cz V nm B (rst V nums i) = 0) ∧ (i ∉ T → cz V nm B (rst V nums i) ≠ 1) := by
  obtain ⟨B, up, hB, _, _⟩ := plan_eq h hn hm (nm := nm) (k := 30001) (by omega)
  have hD := BDof_eq hB
  have h2 := hB.2.1.2
  refine ⟨B, onesL V nums nm B nums.length ++ (zerosL V nums nm B nums.length).drop (frees V nums nm m - lefts V nums nm m), hB, pick_nodup .., fun i hi => pick_lt hi, ?_, ?_, fun i hi => ⟨fun hT => ?_, fun hT hc => hT ?_⟩⟩
  · unfold frees lefts
    rw [hD, List.length_append, List.length_drop]
    omega
  · unfold bestL
    rw [hD]
  · rcases List.mem_append.1 hT with h1 | h1
    · exact .inl (onesL_mem.1 h1).2
    · exact .inr (zerosL_mem.1 (List.mem_of_mem_drop h1)).2
  · exact List.mem_append_left _ (onesL_mem.2 ⟨hi, hc⟩)
theorem ups_of {V : Int} {nums x : List Int} (h : okd V nums) (hx : x.length = nums.length) (hr : ∀ i : Nat, i < nums.length → rd x i = rd nums i / V ∨ rd x i = cl (rd nums i) V) :
    ∃ D : List Nat, D.Nodup ∧ (∀ i ∈ D, i < nums.length ∧ 0 < rst V nums i) ∧ x = incs (fls V nums) D ∧ D.length ≤ (above V nums 0 nums.length).length := by
  have hnd : ((List.range nums.length).filter fun (i : Nat) => decide (rd x i ≠ rd nums i / V)).Nodup := (List.nodup_range).filter _
  have hin : ∀ i : Nat, i ∈ ((List.range nums.length).filter fun (i : Nat) => decide (rd x i ≠ rd nums i / V)) → i < nums.length ∧ 0 < rst V nums i := fun i hi => by
    rw [List.mem_filter, List.mem_range, decide_eq_true_eq] at hi
    refine ⟨hi.1, ?_⟩
    have h1 := (hr i hi.1).resolve_left hi.2
    rw [cl_fl h.1] at h1
    unfold rst
    apply Classical.byContradiction; intro hc
    rw [if_neg hc] at h1
    omega
  refine ⟨_, hnd, hin, ?_, ?_⟩
  · refine rd_extB (by rw [incs_length, fls_length, hx]) fun i hi => ?_
    rw [incs_rd _ _ hnd (fun q hq => by rw [fls_length]; exact (hin q hq).1)]
    have ef : rd (fls V nums) i = rd nums i / V := rd_mapB (by omega)
    rw [ef]
    by_cases c : rd x i = rd nums i / V
    · rw [if_neg (by rw [List.mem_filter, decide_eq_true_eq]; exact fun hh => hh.2 c), c]; omega
    · rw [if_pos (by rw [List.mem_filter, decide_eq_true_eq, List.mem_range]; exact ⟨by omega, c⟩)]
      have h1 := (hr i (by omega)).resolve_left c
      rw [cl_fl h.1] at h1
      split at h1 <;> omega
  · exact nodup_leB hnd fun i hi => by
      have := hin i hi
      exact above_mem.2 this
theorem best_least {V : Int} {nums x : List Int} (h : okd V nums) (hn : nums.length ≤ 40) {D : List Nat} (hD : D.Nodup) (hDi : ∀ i ∈ D, i < nums.length ∧ 0 < rst V nums i) (hx : x = incs (fls V nums) D) (hm : D.length ≤ (above V nums 0 nums.length).length) {nm : Int} (hnm : 0 ≤ nm ∧ nm ≤ 2) :
    nrm nm (ers V nums (bestL V nums nm D.length)) ≤ nrm nm (ers V nums x) ∧ (bestL V nums nm D.length).length = nums.length ∧ (bestL V nums nm D.length).sum = x.sum ∧ ∀ i : Nat, i < nums.length → rd (bestL V nums nm D.length) i = rd nums i / V ∨ rd (bestL V nums nm D.length) i = cl (rd nums i) V := by
  obtain ⟨B, T, hB, hT, hTi, hTl, e, hc⟩ := best_facts h hn hm nm
  have hTi' : ∀ q ∈ T, q < (fls V nums).length := fun q hq => by rw [fls_length]; exact hTi q hq
  have hDi' : ∀ q ∈ D, q < (fls V nums).length := fun q hq => by rw [fls_length]; exact (hDi q hq).1
  have ry : ∀ i : Nat, rd (bestL V nums nm D.length) i = rd (fls V nums) i + if i ∈ T then 1 else 0 := fun i => by rw [e, incs_rd _ _ hT hTi']
  have rx : ∀ i : Nat, rd x i = rd (fls V nums) i + if i ∈ D then 1 else 0 := fun i => by rw [hx, incs_rd _ _ hD hDi']
  have ly : (bestL V nums nm D.length).length = nums.length := by rw [e, incs_length, fls_length]
  have lx : x.length = nums.length := by rw [hx, incs_length, fls_length]
  have sy : (bestL V nums nm D.length).sum = x.sum := by rw [e, hx, incs_sum _ _ hTi', incs_sum _ _ hDi', hTl]
  have ef : ∀ i : Nat, i < nums.length → rd (fls V nums) i = rd nums i / V := fun i hi => rd_mapB hi
  have hV := h.1
  have hBV := hB.1
  have T0 : ∀ i, i < nums.length → i ∈ T → 0 < rst V nums i := fun i hi hiT => by
    have := (hc i hi).1 hiT
    have r0 := (rst_inB hV nums i).1
    apply Classical.byContradiction; intro hcc
    unfold cz at this
    rw [if_pos (by omega)] at this
    omega
  refine ⟨?_, ly, sy, fun i hi => ?_⟩
  · by_cases n2 : nm = 2
    · subst n2
      have hE : ∀ i : Nat, i < nums.length → ((V * rd x i - rd nums i).natAbs : Int) ≤ nrm 2 (ers V nums x) := fun i hi => by
        rw [← rd_ersB lx hi]
        exact (fold2 (ers V nums x) 0).2.1 _ (rd_mem (by rw [ers_length lx]; exact hi))
      have E0 : 0 ≤ nrm 2 (ers V nums x) := (fold2 (ers V nums x) 0).1
      generalize nrm 2 (ers V nums x) = E at hE E0 ⊢
      have hEr : ∀ i : Nat, i < nums.length → (i ∈ D → V - rst V nums i ≤ E) ∧ (i ∉ D → rst V nums i ≤ E) := fun i hi => by
        have h1 := hE i hi
        have h2 := rst_inB hV nums i
        rw [rx, ef i hi, Int.mul_add, h2.2.2] at h1
        refine ⟨fun c => ?_, fun c => ?_⟩
        · rw [if_pos c, Int.mul_one] at h1; omega
        · rw [if_neg c, Int.mul_zero] at h1; omega
      have hBE : (B : Int) ≤ E := by
        apply Classical.byContradiction; intro hlt
        refine hB.2.2 E.toNat (by omega) ?_
        rw [Int.toNat_of_nonneg E0]
        refine ⟨fun _ i hi hh => ?_, ?_, ?_⟩
        · by_cases c : i ∈ D
          · have := (hEr i hi).1 c; omega
          · have := (hEr i hi).2 c; omega
        · refine nodup_leB ((List.nodup_range).filter _) fun i hi => ?_
          have h1 := onesL_mem.1 hi
          apply Classical.byContradiction; intro c
          have h2 := (hEr i h1.1).2 c
          have h3 := h1.2
          unfold cz at h3
          split at h3
          · omega
          · rw [if_pos rfl, if_neg (by omega)] at h3
            split at h3 <;> omega
        · rw [← List.length_append]
          refine nodup_leB hD fun i hi => ?_
          have h1 := hDi i hi
          have h2 := (hEr i h1.1).1 hi
          by_cases c : rst V nums i > E
          · refine List.mem_append_left _ (onesL_mem.2 ⟨h1.1, ?_⟩)
            unfold cz
            rw [if_neg (by omega), if_pos rfl, if_pos c]
          · refine List.mem_append_right _ (zerosL_mem.2 ⟨h1.1, ?_⟩)
            unfold cz
            rw [if_neg (by omega), if_pos rfl, if_neg c, if_neg (by omega)]
      refine (fold2 _ 0).2.2 E E0 fun q hq => ?_
      obtain ⟨i, hi, rfl⟩ := List.getElem_of_mem hq
      have hi2 : i < nums.length := by rw [ers_length ly] at hi; exact hi
      rw [← rd_nat hi, rd_ersB ly hi2, ry, ef i hi2, Int.mul_add]
      have h2 := rst_inB hV nums i
      have h3 := hB.2.1.1 rfl i hi2
      have h4 := hc i hi2
      rw [h2.2.2]
      by_cases c : i ∈ T
      · rw [if_pos c, Int.mul_one]
        have h5 := h4.1 c
        have h6 := T0 i hi2 c
        unfold cz at h5
        rw [if_neg (by omega), if_pos rfl] at h5
        by_cases c2 : rst V nums i > (B : Int)
        · omega
        · rw [if_neg c2] at h5
          by_cases c3 : V - rst V nums i > (B : Int)
          · rw [if_pos c3] at h5; omega
          · omega
      · rw [if_neg c, Int.mul_zero]
        have h5 := h4.2 c
        unfold cz at h5
        by_cases c1 : rst V nums i = 0
        · omega
        · rw [if_neg c1, if_pos rfl] at h5
          by_cases c2 : rst V nums i > (B : Int)
          · rw [if_pos c2] at h5; omega
          · omega
    · have hcut : ∀ i, i < nums.length → (i ∈ T → V - B ≤ rst V nums i) ∧ (i ∉ T → rst V nums i ≤ V - B) := fun i hi => by
        have h4 := hc i hi
        have h2 := rst_inB hV nums i
        refine ⟨fun c => ?_, fun c => ?_⟩
        · have h5 := h4.1 c
          have h6 := T0 i hi c
          unfold cz at h5
          rw [if_neg (by omega), if_neg n2] at h5
          by_cases c2 : rst V nums i > V - (B : Int)
          · omega
          · rw [if_neg c2] at h5
            by_cases c3 : rst V nums i < V - (B : Int)
            · rw [if_pos c3] at h5; omega
            · omega
        · have h5 := h4.2 c
          unfold cz at h5
          by_cases c1 : rst V nums i = 0
          · omega
          · rw [if_neg c1, if_neg n2] at h5
            by_cases c2 : rst V nums i > V - (B : Int)
            · rw [if_pos c2] at h5; omega
            · omega
      by_cases n0 : nm = 0
      · subst n0
        unfold nrm
        rw [fold0, fold0]
        have := lag (V := V) (lam := 2 * (V - B) - V) (g := fun e => (e.natAbs : Int)) nums x (bestL V nums 0 D.length) lx ly (fun i hi => by
          have h2 := rst_inB hV nums i
          have h3 := hcut i hi
          rw [rx, ry, ef i hi, Int.mul_add, Int.mul_add, Int.mul_add, Int.mul_add, h2.2.2]
          generalize (2 * (V - ↑B) - V) * (rd nums ↑i / V) = L
          by_cases c : i ∈ T
          · have := h3.1 c
            rw [if_pos c]
            by_cases c2 : i ∈ D
            · rw [if_pos c2]; exact Int.le_refl _
            · rw [if_neg c2]; omega
          · have := h3.2 c
            rw [if_neg c]
            by_cases c2 : i ∈ D
            · rw [if_pos c2]; omega
            · rw [if_neg c2]; exact Int.le_refl _)
        rw [sy] at this
        omega
      · obtain rfl : nm = 1 := by omega
        unfold nrm
        rw [fold1, fold1]
        have := lag (V := V) (lam := 2 * (V * (V - B)) - V * V) (g := fun e => e * e) nums x (bestL V nums 1 D.length) lx ly (fun i hi => by
          have h2 := rst_inB hV nums i
          have h3 := hcut i hi
          rw [rx, ry, ef i hi, Int.mul_add, Int.mul_add, Int.mul_add, Int.mul_add, h2.2.2]
          generalize (2 * (V * (V - ↑B)) - V * V) * (rd nums ↑i / V) = L
          have sq : (V - rst V nums i) * (V - rst V nums i) = V * V - 2 * (V * rst V nums i) + rst V nums i * rst V nums i := by
            rw [Int.sub_mul, Int.mul_sub, Int.mul_sub, Int.mul_comm (rst V nums i) V]; omega
          have sr : (- rst V nums i) * (- rst V nums i) = rst V nums i * rst V nums i := Int.neg_mul_neg ..
          have t1 : rd nums ↑i - rst V nums i + V * 1 - rd nums ↑i = V - rst V nums i := by omega
          have t0 : rd nums ↑i - rst V nums i + V * 0 - rd nums ↑i = - rst V nums i := by omega
          by_cases c : i ∈ T
          · have h5 := h3.1 c
            rw [if_pos c]
            by_cases c2 : i ∈ D
            · rw [if_pos c2]; exact Int.le_refl _
            · rw [if_neg c2, t1, t0, sq, sr]
              have := Int.mul_le_mul_of_nonneg_left h5 (show 0 ≤ V by omega)
              omega
          · have h5 := h3.2 c
            rw [if_neg c]
            by_cases c2 : i ∈ D
            · rw [if_pos c2, t1, t0, sq, sr]
              have := Int.mul_le_mul_of_nonneg_left h5 (show 0 ≤ V by omega)
              omega
            · rw [if_neg c2]; exact Int.le_refl _)
        rw [sy] at this
        omega
  · rw [ry, ef i hi]
    by_cases c : i ∈ T
    · right
      have := T0 i hi c
      unfold rst at this
      rw [if_pos c, cl_fl hV, if_pos this]
    · left
      rw [if_neg c]; omega
theorem rnd_ofB {V : Int} {nums x : List Int} (hx : x.length = nums.length) (hr : ∀ i : Nat, i < nums.length → rd x i = rd nums i / V ∨ rd x i = cl (rd nums i) V) : rnd V nums x = true := by
  unfold rnd
  rw [List.all_eq_true]
  intro p hp
  obtain ⟨i, hi, rfl⟩ := List.getElem_of_mem hp
  obtain ⟨h1, h2, e1, e2⟩ := zip_get1 hi
  have := hr i h2
  rw [rd_nat h1, rd_nat h2] at this
  rw [e1, e2, Bool.or_eq_true, decide_eq_true_eq, decide_eq_true_eq]
  exact this
theorem r8Values_ok {l : List Int} (hl : by8 l) {k : Nat} (hk : 20 < k) : ∃ V nums, Za9.f k l = some (V, nums) ∧ (1 ≤ V ∧ V ≤ 12) ∧ nums.length ≤ 7 ∧ ∀ x ∈ nums, -12 ≤ x ∧ x ≤ 27 := by
  unfold Za9.f spec_l00From.f
  obtain ⟨x, b, s, e, hx, hb⟩ := pick_ok (at' := 0) (seed := 0) (n := 12) hl (by omega) (by omega)
  obtain ⟨y, b2, s2, e2, hy, hb2⟩ := pick_ok (at' := b) (seed := s) (n := 8) hl (by omega) (by omega)
  rw [Option.bind_some, e, Option.bind_some, e2, Option.bind_some, w64 (x := 1 + x) (by omega) (by omega)]
  obtain ⟨n, rfl⟩ : ∃ n : Nat, y = n := ⟨y.toNat, by omega⟩
  have go : ∀ (n k : Nat) (at' seed : Int) (r : List Int), n < k → (∀ x ∈ r, -12 ≤ x ∧ x ≤ 27) → r.length + n ≤ 7 → 0 ≤ at' ∧ at' + 2 * n ≤ 10000 →
      ∃ nums, Za9.l0 k n l at' seed (1 + x) r = some (1 + x, nums) ∧ nums.length ≤ 7 ∧ ∀ x ∈ nums, -12 ≤ x ∧ x ≤ 27 := by
    intro n
    induction n with
    | zero =>
      intro k at' seed r hk hr hn hat
      obtain ⟨k, rfl, _⟩ := Zbb hk
      simp only [Za9.l0]
      rw [if_neg (by omega)]
      exact ⟨_, rfl, by omega, hr⟩
    | succ n ih =>
      intro k at' seed r hk hr hn hat
      obtain ⟨k, rfl, _⟩ := Zbb hk
      obtain ⟨z, b, s, e, hz, hb⟩ := pick_ok (seed := seed) (n := 40) hl (show 0 ≤ at' ∧ at' ≤ 100000000000000000 by omega) (by omega)
      simp only [Za9.l0]
      rw [if_pos (by omega), e, Option.bind_some, if_pos (by omega), w64 (x := ((n + 1 : Nat) : Int) - 1) (by omega) (by omega), w64 (x := z - 12) (by omega) (by omega), show ((n + 1 : Nat) : Int) - 1 = (n : Int) by omega]
      exact ih k b s (r ++ [z - 12]) (by omega) (fun y hy => by
        rcases List.mem_append.1 hy with h | h
        · exact hr y h
        · rw [List.mem_singleton.1 h]; omega) (by simp; omega) (by omega)
  obtain ⟨nums, e3, h1, h2⟩ := go n k b2 s2 [] (by omega) (by simp) (by simp; omega) (by omega)
  exact ⟨_, nums, e3, by omega, h1, h2⟩
theorem r8Rounding_ok {l : List Int} (hl : by8 l) {V : Int} {nums : List Int} (hV : 1 ≤ V ∧ V ≤ 12) (hn : nums.length ≤ 7) (hnum : ∀ x ∈ nums, -12 ≤ x ∧ x ≤ 27) {k : Nat} (hk : 20 < k) :
    ∃ x, Za7.f k l V nums = some x ∧ x.length = nums.length ∧ ∀ i : Nat, i < nums.length → rd x i = rd nums i / V ∨ rd x i = cl (rd nums i) V := by
  unfold Za7.f spec_l00From.f
  rw [Option.bind_some]
  refine loopIc0 (m := nums.length) 5 (F := fun k j (s : List Int × Int × Int) => Za7.l0 k s.1 j V nums l s.2.1 s.2.2) (fun j s => s.1.length = j ∧ (0 ≤ s.2.1 ∧ s.2.1 ≤ 2 * (j : Int)) ∧ ∀ i : Nat, i < j → rd s.1 i = rd nums i / V ∨ rd s.1 i = cl (rd nums i) V) (fun r => ∃ x, r = some x ∧ x.length = nums.length ∧ ∀ i : Nat, i < nums.length → rd x i = rd nums i / V ∨ rd x i = cl (rd nums i) V) ?_ ?_ (k := k) (s := ([], 0, 0)) (by omega) ⟨rfl, by simp, fun i hi => by omega⟩
  · rintro k ⟨x, a, s⟩ hk ⟨h1, _, h3⟩
    simp only [Za7.l0]
    rw [if_neg (by omega)]
    exact ⟨x, rfl, h1, h3⟩
  · rintro k j ⟨x, a, s⟩ hk hj ⟨h1, h2, h3⟩
    simp only at h1 h2 h3
    obtain ⟨z, b, s', e, hz, hb⟩ := pick_ok (seed := s) (n := 2) hl (show 0 ≤ a ∧ a ≤ 100000000000000000 by omega) (by omega)
    have hx := hnum _ (rd_mem hj)
    simp only [Za7.l0]
    rw [if_pos (by omega), if_pos (by omega), l01Floor_eq hV.1 (by omega) (by omega) (by omega), Option.bind_some]
    unfold spec_l00Src_one.f
    rw [e, Option.bind_some, Option.bind_some]
    simp only
    have app : ∀ v : Int, v = rd nums j / V ∨ v = cl (rd nums j) V → ∀ i : Nat, i < j + 1 → rd (x ++ [v]) i = rd nums i / V ∨ rd (x ++ [v]) i = cl (rd nums i) V := fun v hv i hi => by
      by_cases c : i < j
      · have := h3 i c
        rw [rd_nat (by rw [List.length_append]; omega), List.getElem_append_left (by omega), ← rd_nat (by omega)]
        exact this
      · obtain rfl : i = j := by omega
        rw [rd_nat (by rw [List.length_append, List.length_singleton]; omega), List.getElem_append_right (by omega)]
        simp only [h1, Nat.sub_self, List.getElem_cons_zero]
        exact hv
    by_cases c : (z == 0) = true
    · rw [if_pos c, l01Ceil_eq hV.1 (by omega) (by omega) (by omega), Option.bind_some, if_pos (by omega), wrap_nat (by omega)]
      exact .inl ⟨(x ++ [cl (rd nums j) V], b, s'), ⟨by simp [h1], by simp only; omega, app _ (.inr rfl)⟩, rfl⟩
    · rw [if_neg c, if_pos (by omega), wrap_nat (by omega)]
      exact .inl ⟨(x ++ [rd nums j / V], b, s'), ⟨by simp [h1], by simp only; omega, app _ (.inl rfl)⟩, rfl⟩
end Go.Proofs.Ytgmmfdilfpkbmaa.Q
end
