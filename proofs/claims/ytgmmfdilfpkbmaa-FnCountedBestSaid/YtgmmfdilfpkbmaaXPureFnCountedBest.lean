import Derived.Test.YtgmmfdilfpkbmaaXV3FnCountedBest
import Derived.Test.YtgmmfdilfpkbmaaXP26FnCountedBest
import Derived.Test.YtgmmfdilfpkbmaaXP33FnCountedBest
namespace Go.Proofs.Ytgmmfdilfpkbmaa.Pure
open Go.RowKit Go.Proofs.YtgmmfdilfpkbmaaW.PrintWords Go.Proofs.YtgmmfdilfpkbmaaW.PrintLast Go.Proofs.YtgmmfdilfpkbmaaW.PrintMore Go.Proofs.Ytgmmfdilfpkbmaa.P Go.Proofs.Ytgmmfdilfpkbmaa.B Go.Proofs.Ytgmmfdilfpkbmaa.Q
set_option linter.unusedVariables false
set_option linter.unusedSimpArgs false
theorem shl_pow {n : Nat} (h : n ≤ 7) : shl .i64 1 (IntKind.u64.wrap (n : Int)) = ((2 ^ n : Nat) : Int) := by
  have : n = 0 ∨ n = 1 ∨ n = 2 ∨ n = 3 ∨ n = 4 ∨ n = 5 ∨ n = 6 ∨ n = 7 := by omega
  rcases this with rfl | rfl | rfl | rfl | rfl | rfl | rfl | rfl <;> decide
theorem bit_eq {w t : Nat} (hw : w < 128) (ht : t ≤ 6) : Go.bits .and .i64 (shr .i64 (w : Int) (IntKind.u64.wrap (t : Int))) 1 = ((w / 2 ^ t % 2 : Nat) : Int) := by
  have e : IntKind.u64.wrap (t : Int) = (t : Int) := by rw [IntKind.wrap_u64]; omega
  have hm : min t IntKind.i64.bits = t := Nat.min_eq_left (Nat.le_trans ht (by decide))
  have e2 : (w : Int) / 2 ^ t = ((w / 2 ^ t : Nat) : Int) := by rw [Int.natCast_ediv, Int.natCast_pow]; rfl
  have hd : w / 2 ^ t ≤ w := Nat.div_le_self ..
  unfold shr
  rw [e, Int.toNat_natCast, hm, e2]
  generalize w / 2 ^ t = q at hd
  clear e2 hm e
  have := bits_mask .i64 63 (by decide) (fun n h₀ h₁ => by rw [IntKind.wrap_i64]; omega) 1 (by decide) (q : Int) (by omega) (by omega)
  exact this.trans (by omega)
theorem sum_addB : ∀ (x y z : List Int), y.length = x.length → z.length = x.length → (∀ i : Nat, i < x.length → rd z i = rd x i + rd y i) → z.sum = x.sum + y.sum
  | [], y, z, hy, hz, _ => by
    obtain rfl := List.length_eq_zero_iff.1 hy
    obtain rfl := List.length_eq_zero_iff.1 hz
    rfl
  | a :: x, [], _, hy, _, _ => by simp at hy
  | a :: x, _ :: _, [], _, hz, _ => by simp at hz
  | a :: x, b :: y, c :: z, hy, hz, h => by
    have h0 : c = a + b := h 0 (by simp)
    have ih := sum_addB x y z (by simpa using hy) (by simpa using hz) (fun i hi => by
      have := h (i + 1) (by rw [List.length_cons]; omega)
      rw [rd_succB, rd_succB, rd_succB] at this
      exact this)
    rw [List.sum_cons, List.sum_cons, List.sum_cons, ih]; omega
theorem r8Same_self {l : List Int} (h : l.length ≤ 1000) {k : Nat} (hk : 1100 < k) : laws_r8Same.f k l l = some true := by
  unfold laws_r8Same.f
  rw [if_pos rfl]
  refine loopIc0 (m := l.length) 5 (F := fun k j (_ : Unit) => laws_r8Same.l0 k l l j) (fun _ _ => True) (fun r => r = some true) ?_ ?_ (k := k) (s := ()) (by omega) trivial
  · intro k _ hk _
    simp only [laws_r8Same.l0]
    rw [if_neg (by omega)]
  · intro k j _ hk hj _
    refine .inl ⟨(), trivial, ?_⟩
    simp only [laws_r8Same.l0]
    rw [if_pos (by omega), if_pos (by omega), if_pos (by omega), if_pos trivial, wrap_nat (by omega)]
theorem maskFacts {V : Int} {nums : List Int} (h : okd V nums) {w : Nat} {y : List Int} (hy : y.length = nums.length) (hr : ∀ i : Nat, i < nums.length → rd y i = rd (fls V nums) i + rd (bitL nums.length w) i) :
    ∃ D : List Nat, D.Nodup ∧ (∀ i : Nat, i ∈ D ↔ i < nums.length ∧ rd (bitL nums.length w) i = 1) ∧ y = incs (fls V nums) D ∧ (bitL nums.length w).sum = (D.length : Int) ∧ (∀ i : Nat, i < nums.length → rd (bitL nums.length w) i = 0 ∨ rd (bitL nums.length w) i = 1) := by
  have hb : ∀ i : Nat, i < nums.length → rd (bitL nums.length w) i = 0 ∨ rd (bitL nums.length w) i = 1 := fun i hi => by
    rw [bitL_rd _ _ _ hi]; omega
  have hm : ∀ i : Nat, i ∈ ((List.range nums.length).filter fun (i : Nat) => decide (rd (bitL nums.length w) i = 1)) ↔ i < nums.length ∧ rd (bitL nums.length w) i = 1 := fun i => by
    rw [List.mem_filter, List.mem_range, decide_eq_true_eq]
  have hnd : ((List.range nums.length).filter fun (i : Nat) => decide (rd (bitL nums.length w) i = 1)).Nodup := (List.nodup_range).filter _
  generalize ((List.range nums.length).filter fun (i : Nat) => decide (rd (bitL nums.length w) i = 1)) = D at hm hnd
  have hlt : ∀ q ∈ D, q < (fls V nums).length := fun q hq => by rw [fls_length]; exact ((hm q).1 hq).1
  have ey : y = incs (fls V nums) D := by
    refine rd_extB (by rw [incs_length, fls_length, hy]) fun i hi => ?_
    rw [incs_rd _ _ hnd hlt, hr i (by omega)]
    rcases hb i (by omega) with e | e
    · rw [e, if_neg (fun hh => by have := ((hm i).1 hh).2; omega)]
    · rw [e, if_pos ((hm i).2 ⟨by omega, e⟩)]
  refine ⟨D, hnd, hm, ey, ?_, hb⟩
  have s1 := sum_addB (fls V nums) (bitL nums.length w) y (by rw [bitL_length, fls_length]) (by rw [hy, fls_length]) (fun i hi => hr i (by rw [fls_length] at hi; exact hi))
  have s2 := incs_sum D (fls V nums) hlt
  rw [← ey] at s2
  omega
set_option maxRecDepth 100000 in
theorem FnCountedBest : laws_FnCountedBest.Pure := by
  intro l0 l1 h0 h1 h2 h3 h4 h5
  refine ⟨300000, ?_⟩
  have b0 : by8 l0 := fun x hx => wfu8 (h2 x hx)
  have b1 : by8 l1 := fun x hx => wfu8 (h5 x hx)
  unfold laws_FnCountedBest.f
  obtain ⟨b, hb⟩ := r8Long_ok l0 l1
  rw [hb, Option.bind_some]
  cases b with
  | true => rw [if_pos rfl]
  | false =>
  rw [if_neg (by simp)]
  obtain ⟨V, nums, e1, hV, hn, hnum⟩ := r8Values_ok b0 (k := 300000) (by omega)
  obtain ⟨nm, enm, m0, m1⟩ := r8At_ok (i := 40) (n := 3) b1 (by omega) (by omega)
  obtain ⟨x, e2, hx, hr⟩ := r8Rounding_ok b1 hV hn hnum (k := 300000) (by omega)
  have hv : vv V nums = true := vv_iff.2 ⟨by omega, by omega, fun y hy => by have := hnum y hy; omega⟩
  have ho := okd_vv hv
  obtain ⟨D, d1, d2, d3, d4⟩ := ups_of ho hx hr
  have xs : x.sum = (fls V nums).sum + D.length := by
    have := incs_sum D (fls V nums) (fun q hq => by rw [fls_length]; exact (d2 q hq).1)
    rw [← d3] at this
    exact this
  have cs := cls_sum' ho.1 nums
  have ab : (above V nums 0 nums.length).length ≤ nums.length := by
    have := List.length_filter_le (fun i => decide (0 < rst V nums i)) (List.range nums.length)
    rwa [List.length_range] at this
  have ups : upsOf V nums x.sum = D.length := by unfold upsOf; omega
  have ask : askB V nums x.sum nm = true := by
    unfold askB
    rw [hv, Bool.true_and, Bool.and_eq_true, decide_eq_true_eq, decide_eq_true_eq]
    exact ⟨⟨by omega, by omega⟩, by omega⟩
  have af := ask_facts ask
  have br : BestRounding_res V nums x.sum nm = (bestL V nums nm D.length, true) := by
    unfold BestRounding_res
    rw [if_pos ask, ups]
  obtain ⟨B, up, hB, _, _⟩ := plan_eq ho (by omega) d4 (nm := nm) (k := 30001) (by omega)
  have hBD := BDof_eq hB
  have h2' := hB.2.1.2
  have ebest : bestL V nums nm D.length = incs (fls V nums) (onesL V nums nm B nums.length ++ (zerosL V nums nm B nums.length).drop ((zerosL V nums nm B nums.length).length - (D.length - (onesL V nums nm B nums.length).length))) := by
    unfold bestL frees lefts
    rw [hBD]
  have bl := best_least ho (by omega) d1 d2 d3 d4 (nm := nm) (by omega)
  have hTn := pick_nodup V nums nm B nums.length ((zerosL V nums nm B nums.length).length - (D.length - (onesL V nums nm B nums.length).length))
  have hTm : ∀ i, i ∈ onesL V nums nm B nums.length ++ (zerosL V nums nm B nums.length).drop ((zerosL V nums nm B nums.length).length - (D.length - (onesL V nums nm B nums.length).length)) → i < nums.length ∧ cz V nm B (rst V nums i) ≠ -1 := fun i hi => by
    refine ⟨pick_lt hi, ?_⟩
    rcases List.mem_append.1 hi with h1 | h1
    · rw [(onesL_mem.1 h1).2]; decide
    · rw [(zerosL_mem.1 (List.mem_of_mem_drop h1)).2]; decide
  have hT1 : ∀ i, i < nums.length → i ∉ onesL V nums nm B nums.length ++ (zerosL V nums nm B nums.length).drop ((zerosL V nums nm B nums.length).length - (D.length - (onesL V nums nm B nums.length).length)) → cz V nm B (rst V nums i) ≠ 1 := fun i hi hh e => hh (List.mem_append_left _ (onesL_mem.2 ⟨hi, e⟩))
  have hTl : (onesL V nums nm B nums.length ++ (zerosL V nums nm B nums.length).drop ((zerosL V nums nm B nums.length).length - (D.length - (onesL V nums nm B nums.length).length))).length = D.length := by
    rw [List.length_append, List.length_drop]; omega
  have hmapV := mapV (f := fun i => cz V nm B (rst V nums i)) (List.range nums.length) ((zerosL V nums nm B nums.length).length - (D.length - (onesL V nums nm B nums.length).length)) List.nodup_range
  have hons := ons_map (f := fun i => cz V nm B (rst V nums i)) (List.range nums.length)
  have hzrs := zrs_map (f := fun i => cz V nm B (rst V nums i)) (List.range nums.length)
  have hcl : ((List.range nums.length).map fun i => cz V nm B (rst V nums i)).length = nums.length := by rw [List.length_map, List.length_range]
  have hcz : czs ((List.range nums.length).map fun i => cz V nm B (rst V nums i)) := fun z hz => by
    obtain ⟨i, _, rfl⟩ := List.mem_map.1 hz
    exact cz_three ..
  have hcr : ∀ i : Nat, i < nums.length → rd ((List.range nums.length).map fun i => cz V nm B (rst V nums i)) i = cz V nm B (rst V nums i) := fun i hi => by
    rw [rd_nat (by omega), List.getElem_map, List.getElem_range]
  have nonneg0 : ∀ i, cz V nm B (rst V nums i) ≠ -1 → 0 < rst V nums i := fun i hne => by
    have r0 := (rst_inB ho.1 nums i).1
    apply Classical.byContradiction; intro hcc
    unfold cz at hne
    rw [if_pos (by omega)] at hne
    exact hne rfl
  have ecount : CountBest_res V nums x.sum nm = ((ch (zerosL V nums nm B nums.length).length (D.length - (onesL V nums nm B nums.length).length) : Int), true) := by
    unfold CountBest_res frees lefts
    rw [if_pos ask, ups, hBD]
    unfold cnt
    have hz := zerosL_le V nums nm B nums.length
    have hc := ch_le (zerosL V nums nm B nums.length).length (D.length - (onesL V nums nm B nums.length).length)
    have hp : 2 ^ (zerosL V nums nm B nums.length).length ≤ 2 ^ 7 := Nat.pow_le_pow_right (by decide) (by omega)
    have h128 : 2 ^ 7 = 128 := rfl
    rw [if_neg (by omega)]
  change (onesL V nums nm B nums.length).length ≤ D.length ∧ D.length ≤ (onesL V nums nm B nums.length).length + (zerosL V nums nm B nums.length).length at h2'
  have hcount := cnG ((List.range nums.length).map fun i => cz V nm B (rst V nums i)) D.length hcz
  have hfirst := firstV ((List.range nums.length).map fun i => cz V nm B (rst V nums i)) D.length
  rw [hcl] at hcount hfirst
  rw [hons, hzrs] at hcount hfirst
  have hGi := fun v => G_iff ((List.range nums.length).map fun i => cz V nm B (rst V nums i)) D.length v
  rw [hcl] at hGi
  generalize ((List.range nums.length).map fun i => cz V nm B (rst V nums i)) = c at *
  change _ = if (onesL V nums nm B nums.length).length ≤ D.length then ch (zerosL V nums nm B nums.length).length (D.length - (onesL V nums nm B nums.length).length) else 0 at hcount
  rw [if_pos h2'.1] at hcount
  change ∀ w, czs c → w < 2 ^ nums.length → G c D.length (bitL nums.length w) = true → (∀ u, u < w → G c D.length (bitL nums.length u) = false) → bitL nums.length w = dropV c ((zerosL V nums nm B nums.length).length - (D.length - (onesL V nums nm B nums.length).length)) at hfirst
  generalize hTT : onesL V nums nm B nums.length ++ (zerosL V nums nm B nums.length).drop ((zerosL V nums nm B nums.length).length - (D.length - (onesL V nums nm B nums.length).length)) = T at *
  have hmapV' : ((List.range nums.length).map fun i => if i ∈ T then (1 : Int) else 0) = dropV c ((zerosL V nums nm B nums.length).length - (D.length - (onesL V nums nm B nums.length).length)) := by
    rw [← hmapV, ← hTT]
  have kT : keeps V nums nm B T := fun i hi => ⟨fun c => (hTm i c).2, fun c => hT1 i hi c⟩
  have iT : ∀ i ∈ T, i < nums.length ∧ 0 < rst V nums i := fun i hi => ⟨(hTm i hi).1, nonneg0 i (hTm i hi).2⟩
  clear hmapV hons hzrs hBD af cs ab ups
  generalize ch (zerosL V nums nm B nums.length).length (D.length - (onesL V nums nm B nums.length).length) = total at *
  generalize dropV c ((zerosL V nums nm B nums.length).length - (D.length - (onesL V nums nm B nums.length).length)) = firstB at *
  have rbest : ∀ i : Nat, i < nums.length → rd (bestL V nums nm D.length) i = rd (fls V nums) i + rd firstB i := fun i hi => by
    have e9 : rd ((List.range nums.length).map fun i => if i ∈ T then (1 : Int) else 0) i = if i ∈ T then 1 else 0 := by
      rw [rd_nat (by rw [List.length_map, List.length_range]; exact hi), List.getElem_map, List.getElem_range]
    rw [ebest, incs_rd T _ hTn (fun q hq => by rw [fls_length]; exact (iT q hq).1), ← hmapV', e9]
  have inb : ∀ y : List Int, y.length = nums.length → (∀ i : Nat, i < nums.length → rd (fls V nums) i ≤ rd y i ∧ rd y i ≤ rd (fls V nums) i + 1) → ∀ z ∈ y, -200 ≤ z ∧ z ≤ 200 := fun y hy hyr z hz => by
    obtain ⟨i, hi, rfl⟩ := List.getElem_of_mem hz
    have h6 := hyr i (by omega)
    have h7 := hnum _ (rd_mem (l := nums) (n := i) (by omega))
    have h8 := ediv_bounds (a := rd nums i) ho.1 (M := 100) (by omega) (by omega) (by omega)
    have ef : rd (fls V nums) i = rd nums i / V := rd_mapB (by omega)
    rw [rd_nat hi, ef] at h6
    omega
  have v64 : i64 V := ⟨by omega, by omega⟩
  have n64 : ∀ y ∈ nums, i64 y := fun y hy => by have := hnum y hy; exact ⟨by omega, by omega⟩
  have m64 : i64 nm := ⟨by omega, by omega⟩
  have fb : ∀ i : Nat, i < nums.length → -200 ≤ rd (fls V nums) i ∧ rd (fls V nums) i ≤ 200 := fun i hi => inb (fls V nums) (fls_length ..) (fun j hj => by omega) _ (rd_mem (by rw [fls_length]; exact hi))
  have xfl : ∀ i : Nat, i < nums.length → rd (fls V nums) i ≤ rd x i ∧ rd x i ≤ rd (fls V nums) i + 1 := fun i hi => by
    have := incs_rd D (fls V nums) d1 (fun q hq => by rw [fls_length]; exact (d2 q hq).1) i
    rw [← d3] at this
    split at this <;> omega
  have xin := inb x hx xfl
  have bfl : ∀ i : Nat, i < nums.length → rd (fls V nums) i ≤ rd (bestL V nums nm D.length) i ∧ rd (bestL V nums nm D.length) i ≤ rd (fls V nums) i + 1 := fun i hi => by
    have := incs_rd T (fls V nums) hTn (fun q hq => by rw [fls_length]; exact (iT q hq).1) i
    rw [← ebest] at this
    split at this <;> omega
  have bin := inb _ bl.2.1 bfl
  have y64 : ∀ y ∈ bestL V nums nm D.length, i64 y := fun y hy => by have := bin y hy; exact ⟨by omega, by omega⟩
  have rb : IsRounding_res V nums (bestL V nums nm D.length) = true := IsRounding_iff.2 ⟨hv, bl.2.1, rnd_ofB bl.2.1 bl.2.2.2⟩
  have er : ∀ y, IsRounding_res V nums y = true → ErrorOf_res V nums y nm = (nrm nm (ers V nums y), true) := fun y hy => by
    unfold ErrorOf_res
    rw [if_pos ⟨hy, by omega⟩]
  have fr : FloorsOf_res V nums = (fls V nums, true) := by
    unfold FloorsOf_res
    rw [if_pos hv]
  have sx : -1000000000000 ≤ x.sum ∧ x.sum ≤ 1000000000000 := (ask_facts ask).2.2.2.2.2.2.2.2.1
  rw [e1, Option.bind_some]
  simp only
  rw [enm, Option.bind_some, e2, Option.bind_some, r8Sum_eq (by omega) (fun y hy => by have := xin y hy; omega) (by omega), Option.bind_some, BestRounding_impl v64 n64 ⟨by omega, by omega⟩ m64 (by omega) (by omega), Option.bind_some, CountBest_impl v64 n64 ⟨by omega, by omega⟩ m64 (by omega) (by omega), Option.bind_some, br, ecount]
  simp only
  rw [ErrorOf_impl v64 n64 y64 m64 (by omega) (by omega) (by omega), Option.bind_some, FloorsOf_impl v64 n64 (by omega) (by omega), Option.bind_some, er _ rb, fr]
  simp only
  rw [if_pos trivial, if_pos trivial, if_pos trivial, if_pos trivial, if_pos (by omega), if_pos (by rw [fls_length]), decide_eq_false (by omega)]
  simp only [laws_FnCountedBest.j0]
  rw [if_neg (by simp)]
  have hfl := fls_length V nums
  have p7 : 2 ^ nums.length ≤ 2 ^ 7 := Nat.pow_le_pow_right (by decide) hn
  have h128 : 2 ^ 7 = 128 := rfl
  have u64n : IntKind.u64.wrap (nums.length : Int) = (nums.length : Int) := by rw [IntKind.wrap_u64]; omega
  have outer : ∀ d (w : Nat) k, 2 ^ nums.length - w = d → w ≤ 2 ^ nums.length → 100 * d + 5000 < k → laws_FnCountedBest.l0 k (nums.length : Int) nm x.sum (bestL V nums nm D.length) (total : Int) (nrm nm (ers V nums (bestL V nums nm D.length))) (fls V nums) (cn (fun w => G c D.length (bitL nums.length w)) w : Int) (w : Int) V nums = some true := by
    intro d
    induction d with
    | zero =>
      intro w k hd hw hk
      obtain ⟨k, rfl, _⟩ := succ_of_lt hk
      obtain rfl : w = 2 ^ nums.length := by omega
      simp only [laws_FnCountedBest.l0]
      rw [shl_pow hn, u64n, if_pos (by omega), if_neg (by omega), hcount]
      simp
    | succ d ih =>
      intro w k hd hw hk
      obtain ⟨k, rfl, _⟩ := succ_of_lt hk
      simp only [laws_FnCountedBest.l0]
      rw [shl_pow hn, u64n, if_pos (by omega), if_pos (by omega), Option.bind_some, if_pos (by simp only [List.length_nil]; omega), List.nil_append]
      refine loopIc0 (m := nums.length) (100 * d + 5010) (F := fun k j (s : List Int) => laws_FnCountedBest.l1 k (nums.length : Int) nm x.sum (bestL V nums nm D.length) (total : Int) (nrm nm (ers V nums (bestL V nums nm D.length))) (fls V nums) (cn (fun w => G c D.length (bitL nums.length w)) w : Int) (w : Int) s j V nums)
        (fun j s => s.length = nums.length ∧ ∀ i : Nat, i < nums.length → rd s i = rd (fls V nums) i + if i < j then rd (bitL nums.length w) i else 0) (fun r => r = some true) ?_ ?_ (k := k) (s := fls V nums) (by omega) ⟨hfl, fun i hi => by rw [if_neg (by omega)]; omega⟩
      · rintro k y hk ⟨hy, hyr⟩
        simp only [laws_FnCountedBest.l1]
        rw [if_neg (by omega)]
        have hyr' : ∀ i : Nat, i < nums.length → rd y i = rd (fls V nums) i + rd (bitL nums.length w) i := fun i hi => by
          have := hyr i hi
          rwa [if_pos hi] at this
        obtain ⟨E, g1, g2, g3, g4, g5⟩ := maskFacts ho hy hyr'
        have yin := inb y hy (fun i hi => by
          have := hyr' i hi
          have := g5 i hi
          omega)
        have yy64 : ∀ z ∈ y, i64 z := fun z hz => by have := yin z hz; exact ⟨by omega, by omega⟩
        have gi := hGi (bitL nums.length w) (bitL_length ..) (fun b hb => by
          obtain ⟨i, hi, rfl⟩ := List.getElem_of_mem hb
          have := g5 i (by rw [bitL_length] at hi; exact hi)
          rwa [rd_nat hi] at this)
        have kE : keeps V nums nm B E ↔ ∀ i : Nat, i < nums.length → (rd (bitL nums.length w) i = 1 → rd c i ≠ -1) ∧ (rd (bitL nums.length w) i = 0 → rd c i ≠ 1) := by
          constructor
          · intro hk i hi
            rw [hcr i hi]
            exact ⟨fun e => (hk i hi).1 ((g2 i).2 ⟨hi, e⟩), fun e => (hk i hi).2 (fun hh => by have := ((g2 i).1 hh).2; omega)⟩
          · intro hk i hi
            have := hk i hi
            rw [hcr i hi] at this
            exact ⟨fun hh => this.1 ((g2 i).1 hh).2, fun hh => this.2 ((g5 i hi).resolve_right fun e => hh ((g2 i).2 ⟨hi, e⟩))⟩
        rw [← kE, g4] at gi
        have hElt : ∀ q ∈ E, q < (fls V nums).length := fun q hq => by rw [fls_length]; exact ((g2 q).1 hq).1
        have ysum : y.sum = (fls V nums).sum + E.length := by
          have := incs_sum E (fls V nums) hElt
          rw [← g3] at this
          exact this
        have cnS : cn (fun w => G c D.length (bitL nums.length w)) (w + 1) = cn (fun w => G c D.length (bitL nums.length w)) w + if G c D.length (bitL nums.length w) = true then 1 else 0 := rfl
        have cnB : ∀ w, cn (fun w => G c D.length (bitL nums.length w)) w ≤ w := by
          intro w
          induction w with
          | zero => exact Nat.le_refl _
          | succ w ih => simp only [cn]; split <;> omega
        have cb := cnB w
        obtain ⟨k, rfl⟩ : ∃ k', k = k' + 1 + 1 := ⟨k - 2, by omega⟩
        have nxt := ih (w + 1) k (by omega) (by omega) (by omega)
        have nxt1 := ih (w + 1) (k + 1) (by omega) (by omega) (by omega)
        rw [cnS] at nxt nxt1
        rw [IsRounding_impl v64 n64 yy64 (by omega) (by omega) (by omega), Option.bind_some]
        by_cases hro : IsRounding_res V nums y = true
        · rw [if_pos hro, r8Sum_eq (by omega) (fun z hz => by have := yin z hz; omega) (by omega), Option.bind_some]
          by_cases hsum : y.sum = x.sum
          · have hEl : E.length = D.length := by omega
            have hrr := (IsRounding_iff.1 hro).2.2
            have Epos : ∀ i ∈ E, i < nums.length ∧ 0 < rst V nums i := fun i hi => by
              have hi2 := (g2 i).1 hi
              refine ⟨hi2.1, ?_⟩
              have h6 := List.all_eq_true.1 hrr ((y.zip nums)[i]'(by rw [List.length_zip]; omega)) (List.getElem_mem _)
              rw [Bool.or_eq_true, decide_eq_true_eq, decide_eq_true_eq] at h6
              obtain ⟨q1, q2, e5, e6⟩ := zip_get1 (l := y) (m := nums) (n := i) (by rw [List.length_zip]; omega)
              rw [e5, e6, ← rd_nat q1, ← rd_nat q2, hyr' i hi2.1, hi2.2, cl_fl ho.1] at h6
              have ef : rd (fls V nums) i = rd nums i / V := rd_mapB hi2.1
              rw [ef] at h6
              unfold rst
              apply Classical.byContradiction; intro hcc
              rw [if_neg hcc] at h6
              omega
            simp only [laws_FnCountedBest.j3]
            rw [if_neg (by rw [hsum]; simp), ErrorOf_impl v64 n64 yy64 m64 (by omega) (by omega) (by omega), Option.bind_some, er y hro]
            simp only
            rw [if_pos trivial]
            have o1 := opt ho hB (by omega) hTn (fun i hi => (iT i hi).1) hTl kT g1 Epos hEl
            rw [← ebest, ← g3] at o1
            rw [decide_eq_false (by omega)]
            simp only [laws_FnCountedBest.j4]
            rw [if_neg (by simp)]
            by_cases gg : G c D.length (bitL nums.length w) = true
            · have kk := (gi.1 gg).2
              have o2 := opt ho hB (by omega) g1 (fun i hi => (Epos i hi).1) hEl kk hTn iT hTl
              rw [← ebest, ← g3] at o2
              rw [if_pos gg] at nxt
              rw [if_pos (show nrm nm (ers V nums y) = nrm nm (ers V nums (bestL V nums nm D.length)) by omega), w64 (x := (cn (fun w => G c D.length (bitL nums.length w)) w : Int) + 1) (by omega) (by omega), wrap_nat (by omega), show (cn (fun w => G c D.length (bitL nums.length w)) w : Int) + 1 = ((cn (fun w => G c D.length (bitL nums.length w)) w + 1 : Nat) : Int) by omega, nxt]
              by_cases c1 : ((cn (fun w => G c D.length (bitL nums.length w)) w + 1 : Nat) : Int) = 1
              · have z := hfirst w hcz (by omega) gg (fun u hu => cn_zero_all (P := fun w => G c D.length (bitL nums.length w)) (by omega) u hu)
                have same : y = bestL V nums nm D.length := rd_extB (by rw [hy, bl.2.1]) fun i hi => by
                  rw [hyr' i (by omega), rbest i (by omega), z]
                rw [if_pos c1, same, r8Same_self (by omega) (by omega), Option.bind_some, if_pos rfl]
              · rw [if_neg c1]
            · have nk : ¬ keeps V nums nm B E := fun kk => gg (gi.2 ⟨by omega, kk⟩)
              have lt := o1.2 nk
              rw [if_neg gg, Nat.add_zero] at nxt
              rw [if_neg (by omega), wrap_nat (by omega), nxt]
          · have gg : ¬ G c D.length (bitL nums.length w) = true := fun g => by
              have := (gi.1 g).1
              omega
            rw [if_neg gg] at nxt1
            simp only [laws_FnCountedBest.j3]
            rw [if_pos (by simpa using hsum), wrap_nat (by omega)]
            exact nxt1
        · have gg : ¬ G c D.length (bitL nums.length w) = true := fun g => by
            have kk := (gi.1 g).2
            refine hro (IsRounding_iff.2 ⟨hv, hy, rnd_ofB hy fun i hi => ?_⟩)
            have ef : rd (fls V nums) i = rd nums i / V := rd_mapB hi
            rw [hyr' i hi, ef]
            rcases g5 i hi with e | e
            · left; omega
            · right
              have := nonneg0 i ((kk i hi).1 ((g2 i).2 ⟨hi, e⟩))
              unfold rst at this
              rw [cl_fl ho.1, if_pos this, e]
          rw [if_neg gg] at nxt1
          rw [if_neg hro]
          simp only [laws_FnCountedBest.j3]
          rw [if_pos trivial, wrap_nat (by omega)]
          exact nxt1
      · rintro k j y hk hj ⟨hy, hyr⟩
        have yj := hyr j hj
        rw [if_neg (by omega)] at yj
        have fj := fb j hj
        have bj := bitL_rd nums.length w j hj
        have e7 : wrap64 (wrap64 ((nums.length : Int) - 1) - (j : Int)) = ((nums.length - 1 - j : Nat) : Int) := by
          rw [w64 (x := (nums.length : Int) - 1) (by omega) (by omega), w64 (by omega) (by omega)]; omega
        have u7 : IntKind.u64.wrap ((nums.length - 1 - j : Nat) : Int) = ((nums.length - 1 - j : Nat) : Int) := by rw [IntKind.wrap_u64]; omega
        refine .inl ⟨y.set j (rd (fls V nums) j + rd (bitL nums.length w) j), ⟨by rw [List.length_set]; exact hy, fun i hi => ?_⟩, ?_⟩
        · rw [rd_set (by omega)]
          by_cases c1 : i = j
          · subst c1
            rw [if_pos rfl, if_pos (by omega)]
          · rw [if_neg c1, hyr i hi]
            by_cases c2 : i < j
            · rw [if_pos c2, if_pos (by omega)]
            · rw [if_neg c2, if_neg (by omega)]
        · simp only [laws_FnCountedBest.l1]
          rw [e7, u7, if_pos (by omega), if_pos (by omega), if_pos (by omega), if_pos (by omega)]
          rw [← u7, bit_eq (w := w) (t := nums.length - 1 - j) (by omega) (by omega), ← bj, yj, Int.add_zero, Int.toNat_natCast, wrap_nat (by omega), w64 (by omega) (by omega)]
  exact outer (2 ^ nums.length) 0 _ (Nat.sub_zero _) (Nat.zero_le _) (by
    have hN : 2 ^ nums.length ≤ 128 := p7
    generalize 2 ^ nums.length = N at hN
    omega)
end Go.Proofs.Ytgmmfdilfpkbmaa.Pure
