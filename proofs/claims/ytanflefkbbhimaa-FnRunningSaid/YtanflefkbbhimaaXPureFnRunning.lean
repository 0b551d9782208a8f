import Derived.Test.YtanflefkbbhimaaXQREFnRunning
import Derived.Test.YtanflefkbbhimaaXQHFnRunning
import Derived.Test.YtanflefkbbhimaaXLCFnRunning
import Derived.Test.YtanflefkbbhimaaXLBFnRunning
import Derived.Test.YtanflefkbbhimaaXP1FnRunning
import Derived.Test.YtanflefkbbhimaaXP2FnRunning
import Derived.Test.YtanflefkbbhimaaXP3FnRunning
import Derived.Test.YtanflefkbbhimaaXP4FnRunning
import Derived.Test.YtanflefkbbhimaaXP5FnRunning
import Derived.Test.YtanflefkbbhimaaXP6FnRunning
import Derived.Test.YtanflefkbbhimaaXP7FnRunning
import Derived.Test.YtanflefkbbhimaaXP8FnRunning
import Derived.Test.YtanflefkbbhimaaXP11FnRunning
namespace Go.Proofs.Ytanflefkbbhimaa.Pure
open Go.RowKit Go.Proofs.YtanflefkbbhimaaW.PrintWords Go.Proofs.YtanflefkbbhimaaW.PrintLast Go.Proofs.YtanflefkbbhimaaW.PrintMore Go.Proofs.Ytanflefkbbhimaa.P Go.Proofs.Ytanflefkbbhimaa.B Go.Proofs.Ytanflefkbbhimaa.Q
set_option linter.unusedVariables false
set_option linter.unusedSimpArgs false
theorem shl_pow8 {n : Nat} (h : n ≤ 8) : shl .i64 1 (IntKind.u64.wrap (n : Int)) = ((2 ^ n : Nat) : Int) := by
  have : n = 0 ∨ n = 1 ∨ n = 2 ∨ n = 3 ∨ n = 4 ∨ n = 5 ∨ n = 6 ∨ n = 7 ∨ n = 8 := by omega
  rcases this with rfl | rfl | rfl | rfl | rfl | rfl | rfl | rfl | rfl <;> decide
theorem bit_eq8 {w t : Nat} (hw : w < 256) (ht : t ≤ 7) : Go.bits .and .i64 (shr .i64 (w : Int) (IntKind.u64.wrap (t : Int))) 1 = ((w / 2 ^ t % 2 : Nat) : Int) := by
  have e : IntKind.u64.wrap (t : Int) = (t : Int) := by rw [IntKind.wrap_u64]; omega
  have hm : min t IntKind.i64.bits = t := Nat.min_eq_left (Nat.le_trans ht (by decide))
  have e2 : (w : Int) / 2 ^ t = ((w / 2 ^ t : Nat) : Int) := by rw [Int.natCast_ediv, Int.natCast_pow]; rfl
  have hd : w / 2 ^ t ≤ w := Nat.div_le_self ..
  unfold shr
  rw [e, Int.toNat_natCast, hm, e2]
  generalize w / 2 ^ t = q at hd
  clear e2 hm e
  have := bits_mask .i64 63 (by decide) (fun n h₀ h₁ => by rw [IntKind.wrap_i64]; omega) 1 (by decide) (q : Int) (by omega) (by omega)
  exact this.trans (by omega)
theorem few_loop {l : List Int} (hl : by8 l) (V : Int) : ∀ (n k : Nat) (at' seed : Int) (r : List Int), n < k → (∀ x ∈ r, -10 ≤ x ∧ x ≤ 29) → r.length + n ≤ 8 → 0 ≤ at' ∧ at' + 2 * n ≤ 10000 →
    ∃ nums, spec_B10Few.l0 k n l at' seed V r = some (V, nums) ∧ nums.length ≤ 8 ∧ ∀ x ∈ nums, -10 ≤ x ∧ x ≤ 29
  | 0, k, at', seed, r, hk, hr, hn, hat => by
    obtain ⟨k, rfl, _⟩ := succ_of_lt hk
    simp only [spec_B10Few.l0]
    rw [if_neg (by omega)]
    exact ⟨_, rfl, by omega, hr⟩
  | n + 1, k, at', seed, r, hk, hr, hn, hat => by
    obtain ⟨k, rfl, _⟩ := succ_of_lt hk
    obtain ⟨z, b, s, e, hz, hb⟩ := pick_ok (seed := seed) (n := 40) hl (show 0 ≤ at' ∧ at' ≤ 100000000000000000 by omega) (by omega)
    simp only [spec_B10Few.l0]
    rw [if_pos (by omega), e, Option.bind_some, if_pos (by omega), w64 (x := ((n + 1 : Nat) : Int) - 1) (by omega) (by omega), w64 (x := z - 10) (by omega) (by omega), show ((n + 1 : Nat) : Int) - 1 = (n : Int) by omega]
    exact few_loop hl V n k b s (r ++ [z - 10]) (by omega) (fun y hy => by
      rcases List.mem_append.1 hy with h | h
      · exact hr y h
      · rw [List.mem_singleton.1 h]; omega) (by simp; omega) (by omega)
theorem few_ok {l : List Int} (hl : by8 l) {k : Nat} (hk : 50 < k) : ∃ V nums, spec_B10Few.f k l = some (V, nums) ∧ (1 ≤ V ∧ V ≤ 9) ∧ nums.length ≤ 8 ∧ ∀ x ∈ nums, -10 ≤ x ∧ x ≤ 29 := by
  unfold spec_B10Few.f spec_l00From.f
  obtain ⟨x, b, s, e, hx, hb⟩ := pick_ok (at' := 0) (seed := 0) (n := 9) hl (by omega) (by omega)
  obtain ⟨y, b2, s2, e2, hy, hb2⟩ := pick_ok (at' := b) (seed := s) (n := 9) hl (by omega) (by omega)
  obtain ⟨n, rfl⟩ : ∃ n : Nat, y = n := ⟨y.toNat, by omega⟩
  simp only [Option.bind_some]
  rw [e, Option.bind_some, e2, Option.bind_some, w64 (x := 1 + x) (by omega) (by omega)]
  obtain ⟨nums, e3, h1, h2⟩ := few_loop hl (1 + x) n k b2 s2 [] (by omega) (by simp) (by simp; omega) (by omega)
  exact ⟨_, nums, e3, by omega, h1, h2⟩
theorem nums_loop {a b : List Int} (hab : a.length = b.length) (hl : a.length ≤ 1000000) : ∀ (d i k : Nat), i + d = a.length → d < k → laws_b10Nums.l0 k a b (i : Int) = some (decide (a.drop i = b.drop i))
  | 0, i, k, h, hk => by
    obtain ⟨k, rfl, _⟩ := succ_of_lt hk
    simp only [laws_b10Nums.l0]
    rw [if_neg (by omega), List.drop_of_length_le (by omega), List.drop_of_length_le (by omega)]
    rfl
  | d + 1, i, k, h, hk => by
    obtain ⟨k, rfl, _⟩ := succ_of_lt hk
    have ih := nums_loop hab hl d (i + 1) k (by omega) (by omega)
    simp only [laws_b10Nums.l0]
    rw [if_pos (by omega), if_pos (by omega), if_pos (by omega), wrap_nat (by omega), ih, drop_cons (l := a) (i := i) (by omega), drop_cons (l := b) (i := i) (by omega)]
    by_cases c : rd a (i : Int) = rd b (i : Int)
    · rw [if_pos c, c]
      simp
    · rw [if_neg c, decide_eq_false (fun z => c (List.cons.inj z).1)]
theorem nums_eq {a b : List Int} (hl : a.length ≤ 1000000) {k : Nat} (hk : a.length < k) : laws_b10Nums.f k a b = some (decide (a = b)) := by
  unfold laws_b10Nums.f
  by_cases c : a.length = b.length
  · rw [if_pos (by omega)]
    have := nums_loop c hl a.length 0 k (by omega) hk
    rw [List.drop_zero, List.drop_zero] at this
    exact this
  · rw [if_neg (by omega), decide_eq_false (fun z => c (by rw [z]))]
theorem b10Abs_eq {x : Int} (h : -4611686018427387904 ≤ x ∧ x ≤ 4611686018427387904) : laws_b10Abs.f x = some (x.natAbs : Int) := by
  unfold laws_b10Abs.f
  by_cases c : x < 0
  · rw [if_pos c, w64 (by omega) (by omega)]; congr 1; omega
  · rw [if_neg c]; congr 1; omega
theorem nr_half {a b : Int} (hb : 1 ≤ b) : 2 * (a - b * nr a b) ≤ b ∧ -b ≤ 2 * (a - b * nr a b) := by
  have h := ediv_mul_le (a := a) hb
  have e : b * (a / b) = a / b * b := Int.mul_comm _ _
  have e2 : b * (a / b + 1) = a / b * b + b := by rw [Int.mul_add, e, Int.mul_one]
  unfold nr
  split
  · rw [e2]; omega
  · split
    · split
      · rw [e]; omega
      · rw [e2]; omega
    · rw [e]; omega
theorem specGreatest {l : List Int} (h : ll l = true) {k : Nat} (hk : l.length < k) : Za5.f k l = some (gr 0 l, true) := by
  have hl := (ll_iff.1 h).1
  unfold Za5.f
  rw [l01List_eq (by omega) hk, Option.bind_some, if_pos h]
  have h1 := loopL0 (l := l) (F := fun k i s => Za5.l0 k l s i) (S := fun x s => .inl (max s (x.natAbs : Int))) (D := fun s => some (s, true)) (by omega)
    (fun k s => by simp only [Za5.l0]; rw [if_neg (by omega)])
    (fun k n hn s => by
      have hx := (ll_iff.1 h).2 _ (List.getElem_mem hn)
      simp only [Za5.l0]
      rw [if_pos (by omega), if_pos (by omega), rd_nat hn, wrap_nat (by omega), w64 (by omega) (by omega), l00Max_eq]
      simp only [Option.bind_some, l00Max_eq]
      rw [show max s (max l[n] (-l[n])) = max s (l[n].natAbs : Int) by omega]) k hk 0
  rw [h1]
  have : ∀ (l : List Int) (s : Int), runL (fun x s => .inl (max s (x.natAbs : Int))) (fun s => some (s, true)) l s = some (gr s l, true) := by
    intro l
    induction l with
    | nil => intro s; rfl
    | cons x xs ih => intro s; simp only [runL, gr]; exact ih _
  exact this l 0
theorem tmod_iff (a b : Int) : (Int.tmod a b == 0) = decide (a % b = 0) := by
  by_cases c : a % b = 0
  · rw [decide_eq_true c, Int.tmod_eq_zero_of_dvd (Int.dvd_of_emod_eq_zero c)]
    rfl
  · rw [decide_eq_false c]
    apply Bool.eq_false_iff.2
    intro z
    exact c (Int.emod_eq_zero_of_dvd (Int.dvd_of_tmod_eq_zero (by simpa using z)))
theorem half_pow (w i : Nat) : w / 2 ^ i / 2 = w / 2 ^ (i + 1) := by rw [Nat.div_div_eq_div_mul, ← Nat.pow_succ]
section
variable {den : Int} {l : List Int} (hd : 1 ≤ den ∧ den ≤ 9) (hn : l.length ≤ 8) (hx : ∀ x ∈ l, -10 ≤ x ∧ x ≤ 29) {w : Nat} (hw : w < 256)
include hd hn hx hw
theorem choice_loop (k : Nat) : ∀ (d i : Nat) (acc : List Int), i + d = l.length → acc.length = i → Za3.l0 (k + d + 1) (w : Int) acc (i : Int) den l = some (acc ++ chb den (l.drop i) (w / 2 ^ i))
  | 0, i, acc, h, ha => by
    simp only [Za3.l0]
    rw [if_neg (by omega), List.drop_of_length_le (by omega)]
    simp [chb]
  | d + 1, i, acc, h, ha => by
    have hi : i < l.length := by omega
    have hxi := hx _ (rd_mem hi)
    have ih := fun n => choice_loop k d (i + 1) (acc ++ [n]) (by omega) (by rw [List.length_append, List.length_singleton, ha])
    have hcb : chb den (l.drop i) (w / 2 ^ i) = (if w / 2 ^ i % 2 = 1 then cl (rd l i) den else rd l i / den) :: chb den (l.drop (i + 1)) (w / 2 ^ (i + 1)) := by
      rw [drop_cons hi, chb, half_pow]
    have f1 : spec_DivFloor.f (rd l i) den = some (rd l i / den, true) := by
      unfold spec_DivFloor.f
      rw [l01Ratio_eq, Option.bind_some, if_pos (decide_eq_true (by omega)), l01Floor_eq hd.1 (by omega) (by omega) (by omega)]
      rfl
    have f2 : spec_DivCeiling.f (rd l i) den = some (cl (rd l i) den, true) := by
      unfold spec_DivCeiling.f
      rw [l01Ratio_eq, Option.bind_some, if_pos (decide_eq_true (by omega)), l01Ceil_eq hd.1 (by omega) (by omega) (by omega)]
      rfl
    rw [hcb, show k + (d + 1) + 1 = (k + d + 1) + 1 from rfl]
    generalize k + d + 1 = K at ih ⊢
    simp only [Za3.l0]
    rw [if_pos (by omega), if_pos (by omega), f1, Option.bind_some, f2, Option.bind_some, if_pos (by rw [IntKind.wrap_u64]; omega), bit_eq8 hw (by omega), wrap_nat (by omega)]
    by_cases c : w / 2 ^ i % 2 = 1
    · rw [if_pos (by omega), if_pos (by omega), if_pos c, ih, List.append_assoc]; rfl
    · rw [if_neg (by omega), if_pos (by omega), if_neg c, ih, List.append_assoc]; rfl
theorem choice_eq {k : Nat} (hk : 100 < k) : Za3.f k den l (w : Int) = some (chb den l w) := by
  obtain ⟨k', rfl⟩ : ∃ k', k = k' + l.length + 1 := ⟨k - l.length - 1, by omega⟩
  have := choice_loop hd hn hx hw k' l.length 0 [] (by omega) rfl
  rw [List.drop_zero, Nat.pow_zero, Nat.div_one, List.nil_append] at this
  exact this
omit hx in
theorem l2_eq (x10 : Int) (x12 : List Int) (x13 x18 : Int) (x19 : Bool) (x21 : List Int) (k : Nat) : ∀ (d i : Nat) (fl : Bool), i + d = l.length →
    laws_FnRunning.l2 (k + d + 1) x10 x12 x13 x18 x19 (w : Int) x21 fl (i : Int) den l = if (fl || agn den (l.drop i) (w / 2 ^ i)) = true then laws_FnRunning.l1 k x10 x12 x13 x18 x19 (wrap64 ((w : Int) + 1)) den l else (Zau.f k den l x21).bind fun t => if t = true then laws_FnRunning.l1 k x10 x12 x13 (wrap64 (x18 + 1)) x19 (wrap64 ((w : Int) + 1)) den l else laws_FnRunning.l1 k x10 x12 x13 x18 x19 (wrap64 ((w : Int) + 1)) den l
  | 0, i, fl, h => by
    obtain rfl : i = l.length := by omega
    rw [List.drop_length]
    simp only [laws_FnRunning.l2, agn, Bool.or_false]
    rw [if_neg (by omega)]
  | d + 1, i, fl, h => by
    have hi : i < l.length := by omega
    have ih := fun fl => l2_eq x10 x12 x13 x18 x19 x21 k d (i + 1) fl (by omega)
    have hag : agn den (l.drop i) (w / 2 ^ i) = ((decide (w / 2 ^ i % 2 = 1) && decide (rd l i % den = 0)) || agn den (l.drop (i + 1)) (w / 2 ^ (i + 1))) := by
      rw [drop_cons hi, agn, half_pow]
    rw [hag, show k + (d + 1) + 1 = (k + d + 1) + 1 from rfl]
    generalize hR : (laws_FnRunning.l1 k x10 x12 x13 x18 x19 (wrap64 ((w : Int) + 1)) den l) = R at ih ⊢
    generalize hS : ((Zau.f k den l x21).bind fun t => if t = true then laws_FnRunning.l1 k x10 x12 x13 (wrap64 (x18 + 1)) x19 (wrap64 ((w : Int) + 1)) den l else R) = S at ih ⊢
    generalize k + d + 1 = K at ih ⊢
    simp only [laws_FnRunning.l2]
    rw [if_pos (show (i : Int) < (l.length : Int) by omega), wrap_nat (by omega)]
    cases fl with
    | true => rw [if_pos rfl, ih]; simp
    | false =>
      rw [if_neg (by decide), if_pos (by rw [IntKind.wrap_u64]; omega), bit_eq8 hw (by omega)]
      by_cases c : w / 2 ^ i % 2 = 1
      · rw [if_pos (by omega), if_pos (by omega), if_neg (by omega), ih, tmod_iff, decide_eq_true c]; simp
      · rw [if_neg (by omega), ih, decide_eq_false c]; simp
end
section
variable {den : Int} {l : List Int} (hd : 1 ≤ den ∧ den ≤ 9) (hn : l.length ≤ 8) (hx : ∀ x ∈ l, -10 ≤ x ∧ x ≤ 29)
include hd hn hx
set_option maxRecDepth 100000 in
theorem outer_loop {best : List Int} {w0 : Nat} (hw0 : w0 < 2 ^ l.length) (hc0 : chb den l w0 = best) (hy0 : ∀ y ∈ ps 0 (ers den l (chb den l w0)), -(lst den l 0) ≤ y ∧ y ≤ lst den l 0) (hv : vv den l = true) {P : Nat → Bool}
    (hP : ∀ w, P w = (!agn den l w && allIn (ps 0 (ers den l (chb den l w))) (-(den - 1)) (den - 1))) (hcnt : ((cnm P (2 ^ l.length) : Nat) : Int) = cntW den (den - 1) l 0) :
    ∀ (D w k : Nat) (sn : Bool), w + D = 2 ^ l.length → 2000 + 20 * D < k → ((∃ u, u < w ∧ chb den l u = best) → sn = true) → laws_FnRunning.l1 k (cntW den (den - 1) l 0) best (lst den l 0) ((cnm P w : Nat) : Int) sn (w : Int) den l = some true := by
  have hp8 : 2 ^ l.length ≤ 256 := Nat.pow_le_pow_right (n := 2) (by decide) hn
  have hi1 : i64 den := ⟨by omega, by omega⟩
  have hi2 : ∀ x ∈ l, i64 x := fun x hx' => by have := hx x hx'; exact ⟨by omega, by omega⟩
  have hl0 := lst_nn den l 0
  intro D
  induction D with
  | zero =>
    intro w k sn hw hk hs
    obtain ⟨k, rfl, _⟩ := succ_of_lt hk
    simp only [laws_FnRunning.l1]
    rw [shl_pow8 hn, if_pos (by rw [IntKind.wrap_u64]; omega), if_neg (by omega), show w = 2 ^ l.length by omega, hcnt, if_pos rfl, hs ⟨w0, by omega, hc0⟩]
  | succ D ih =>
    intro w k sn hw hk hs
    have hwl : w < 2 ^ l.length := by omega
    have hw8 : w < 256 := by omega
    obtain ⟨k, rfl⟩ : ∃ k', k = k' + l.length + 4 := ⟨k - l.length - 4, by omega⟩
    have hcl := chb_length den l w
    have hci := chb_in hd.1 (M := 30) (by omega) l w (fun x h => by have := hx x h; omega)
    have hic : ∀ x ∈ chb den l w, i64 x := fun x h => by have := hci x h; exact ⟨by omega, by omega⟩
    have hec := ers_chb hd.1 l w
    have hel : (ers den l (chb den l w)).length = l.length := ers_length hcl
    have hpc := ps_in (ers den l (chb den l w)) 0 9 1000 (fun x h => by have := hec x h; omega) (by omega) (by omega) (by omega)
    have hpl : (ps 0 (ers den l (chb den l w))).length = l.length := by rw [ps_length, hel]
    have hll : ll (ps 0 (ers den l (chb den l w))) = true := ll_iff.2 ⟨by omega, fun x h => by have := hpc x h; omega⟩
    have hg := gr_le (ps 0 (ers den l (chb den l w))) 0
    have hge : lst den l 0 ≤ gr 0 (ps 0 (ers den l (chb den l w))) := lst_le hg.1 l 0 w (fun y hy => by have := hg.2 y hy; omega)
    have hbest : chb den l w = best → gr 0 (ps 0 (ers den l (chb den l w))) = lst den l 0 := fun z => by
      rw [← hc0] at z
      have : gr 0 (ps 0 (ers den l (chb den l w))) ≤ lst den l 0 := gr_most _ 0 hl0 (by rw [z]; exact hy0)
      omega
    have g1 := fun k hk => choice_eq hd hn hx hw8 (k := k) hk
    have g2 : ∀ k, 1000 < k → Zap.f k den l (chb den l w) = some (ps 0 (ers den l (chb den l w)), true) := fun k hk => by
      rw [RunningErrors_spec hi1 hi2 hic (by omega) (by omega) (by omega)]
      unfold RunningErrors_res
      rw [if_pos ⟨hv, hcl, allIn_iff.2 fun x h => by have := hci x h; omega⟩]
    have g3 := fun k hk => specGreatest hll (k := k) hk
    have g4 : ∀ k, 1000 < k → Zau.f k den l (chb den l w) = some (allIn (ps 0 (ers den l (chb den l w))) (-(den - 1)) (den - 1)) := fun k hk => by
      rw [IsRunning_impl hi1 hi2 hic (by omega) (by omega) (by omega)]
      unfold IsRunning_res
      rw [IsRounding_iff.2 ⟨hv, hcl, rnd_chb den l w⟩, Bool.true_and, show 1 - den = -(den - 1) by omega]
    have hle := cnm_le P w
    have tail : ∀ sn' : Bool, ((∃ u, u < w + 1 ∧ chb den l u = best) → sn' = true) → laws_FnRunning.j4 (k + l.length + 2) (cntW den (den - 1) l 0) best (lst den l 0) ((cnm P w : Nat) : Int) sn' (w : Int) (chb den l w) den l = some true := by
      intro sn' hs'
      simp only [laws_FnRunning.j4]
      refine (l2_eq hd hn hw8 (cntW den (den - 1) l 0) best (lst den l 0) ((cnm P w : Nat) : Int) sn' (chb den l w) k l.length 0 false (by omega)).trans ?_
      rw [List.drop_zero, Nat.pow_zero, Nat.div_one, Bool.false_or, wrap_nat (by omega)]
      have nxt := ih (w + 1) k sn' (by omega) (by omega) hs'
      have hcw : cnm P (w + 1) = cnm P w + if P w = true then 1 else 0 := rfl
      by_cases ha : agn den l w = true
      · rw [if_pos ha]
        rw [hcw, hP, ha] at nxt
        exact nxt
      · rw [if_neg ha, g4 k (by omega), Option.bind_some]
        by_cases hr : allIn (ps 0 (ers den l (chb den l w))) (-(den - 1)) (den - 1) = true
        · rw [hcw, if_pos (by rw [hP, hr]; simp [ha])] at nxt
          rw [if_pos hr, w64 (by omega) (by omega), show ((cnm P w : Nat) : Int) + 1 = ((cnm P w + 1 : Nat) : Int) by omega]
          exact nxt
        · rw [hcw, if_neg (by rw [hP]; simp [hr])] at nxt
          rw [if_neg hr]
          exact nxt
    generalize hK : k + l.length + 2 = K at tail
    rw [show k + l.length + 4 = K + 1 + 1 by omega]
    simp only [laws_FnRunning.l1]
    rw [shl_pow8 hn, if_pos (by rw [IntKind.wrap_u64]; omega), if_pos (by omega), g1 _ (by omega), Option.bind_some, g2 _ (by omega), Option.bind_some]
    simp only
    rw [g3 _ (by omega), Option.bind_some]
    simp only [if_true]
    rw [decide_eq_false (by omega)]
    simp only [laws_FnRunning.j3]
    rw [if_neg (by decide)]
    cases sn with
    | true =>
      rw [if_pos rfl]
      exact tail true (fun _ => rfl)
    | false =>
      rw [if_neg (by decide)]
      by_cases c : gr 0 (ps 0 (ers den l (chb den l w))) = lst den l 0
      · rw [if_pos c, nums_eq (by omega) (by omega), Option.bind_some]
        refine tail _ ?_
        rintro ⟨u, hu, hc⟩
        by_cases e : u = w
        · subst e; exact decide_eq_true hc
        · exact absurd (hs ⟨u, by omega, hc⟩) (by decide)
      · rw [if_neg c]
        refine tail _ ?_
        rintro ⟨u, hu, hc⟩
        by_cases e : u = w
        · subst e; exact absurd (hbest hc) c
        · exact hs ⟨u, by omega, hc⟩
end
set_option maxRecDepth 100000 in
theorem FnRunning : laws_FnRunning.Pure := by
  intro l0 l1 h0 h1 h2 h3 h4 h5
  have g2 : by8 l0 := fun x hx => wfu8 (h2 x hx)
  obtain ⟨N, hN⟩ : ∃ N : Nat, 2000000 < N := ⟨_, Nat.lt_succ_self _⟩
  refine ⟨N + 1, ?_⟩
  unfold laws_FnRunning.f
  obtain ⟨b, hb⟩ := b10Long_ok l0 l1
  rw [hb, Option.bind_some]
  by_cases cb : b = true
  · rw [if_pos cb]
  rw [if_neg cb]
  obtain ⟨den, l, e1, hd, hn, hx⟩ := few_ok g2 (k := N + 1) (by omega)
  have hv : vv den l = true := vv_iff.2 ⟨by omega, by omega, fun x hx' => by have := hx x hx'; omega⟩
  have hi1 : i64 den := ⟨by omega, by omega⟩
  have hi2 : ∀ x ∈ l, i64 x := fun x hx' => by have := hx x hx'; exact ⟨by omega, by omega⟩
  have hps : ∀ p ∈ ps 0 l, -1000 ≤ p ∧ p ≤ 1000 := ps_in l 0 29 1000 (fun x h => by have := hx x h; omega) (by omega) (by omega) (by omega)
  have hfl : ∀ y ∈ pf (· / den) 0 l, -3000 ≤ y ∧ y ≤ 3000 := fun y hy => by
    have := pf_in (f := (· / den)) (M := 1000) l 0 (by simp) (fun p hp => ediv_bounds hd.1 (by omega) (hps p hp).1 (hps p hp).2) y hy
    omega
  have hnr : ∀ y ∈ pf (nr · den) 0 l, -3000 ≤ y ∧ y ≤ 3000 := fun y hy => by
    have := pf_in (f := (nr · den)) (M := 1001) l 0 (by rw [nr_zero hd.1]; omega) (fun p hp => by
      have := nr_bounds hd.1 (M := 1000) (by omega) (hps p hp).1 (hps p hp).2
      omega) y hy
    omega
  have hnl : (pf (nr · den) 0 l).length = l.length := pf_length _ _ _
  have hfll : (pf (· / den) 0 l).length = l.length := pf_length _ _ _
  have e2 : impl_PrefixFloors.f (N + 1) den l = some (pf (· / den) 0 l, true) := by
    rw [PrefixFloors_impl hi1 hi2 (by omega) (by omega)]
    unfold PrefixFloors_res
    rw [if_pos hv]
  have e3 : impl_PrefixNearest.f (N + 1) den l = some (pf (nr · den) 0 l, true) := by
    rw [PrefixNearest_impl hi1 hi2 (by omega) (by omega)]
    unfold PrefixNearest_res
    rw [if_pos hv]
  have e4 : impl_CountRunning.f (N + 1) den l = some (cntW den (den - 1) l 0, true) := by
    rw [CntRunning_impl (by omega) (by omega)]
    unfold CntRunning_res
    rw [if_pos hv]
  have e5 : impl_BestRunning.f (N + 1) den l = some (grd den (lst den l 0) l 0, lst den l 0, true) := by
    rw [BestRunning_impl (by omega) (by omega)]
    unfold BestRunning_res
    rw [if_pos hv]
  have e6 : Zav.f (N + 1) den l (pf (nr · den) 0 l) = some (ps 0 (ers den l (pf (nr · den) 0 l)), true) := by
    rw [RunningErrors_impl hi1 hi2 (fun x h => by have := hnr x h; exact ⟨by omega, by omega⟩) (by omega) (by omega) (by omega)]
    unfold RunningErrors_res
    rw [if_pos ⟨hv, hnl, allIn_iff.2 fun x h => by have := hnr x h; omega⟩]
  obtain ⟨w0, hw0, hc0, hy0⟩ := grd_mask hd.1 (lst_nn den l 0) l 0 (Int.le_refl _)
  have e7 : Zau.f (N + 1) den l (pf (· / den) 0 l) = some true := by
    rw [IsRunning_impl hi1 hi2 (fun x h => by have := hfl x h; exact ⟨by omega, by omega⟩) (by omega) (by omega) (by omega)]
    unfold IsRunning_res
    rw [IsRounding_iff.2 ⟨hv, hfll, rnd_pf hd.1 l 0⟩, Bool.true_and, ps_pf den (· / den) l 0 0 (by simp)]
    refine congrArg some (allIn_iff.2 fun y hy => ?_)
    obtain ⟨p, _, rfl⟩ := List.mem_map.1 hy
    have h1 := ediv_mul_le (a := p) hd.1
    have h2 : den * (p / den) = p / den * den := Int.mul_comm _ _
    omega
  have e8 : Zan.f (N + 1) den l (grd den (lst den l 0) l 0) = some true := by
    have hci := chb_in hd.1 (M := 30) (by omega) l w0 (fun x h => by have := hx x h; omega)
    have hcl := chb_length den l w0
    rw [← hc0, IsRounding_impl hi1 hi2 (fun x h => by have := hci x h; exact ⟨by omega, by omega⟩) (by omega) (by omega) (by omega), IsRounding_iff.2 ⟨hv, hcl, rnd_chb den l w0⟩]
  have hel : (ps 0 (ers den l (pf (nr · den) 0 l))).length = l.length := by rw [ps_length, ers_length hnl]
  have her : ∀ y ∈ ps 0 (ers den l (pf (nr · den) 0 l)), 2 * (y.natAbs : Int) ≤ den := fun y hy => by
    rw [ps_pf den (nr · den) l 0 0 (by rw [nr_zero hd.1]; simp)] at hy
    obtain ⟨p, _, rfl⟩ := List.mem_map.1 hy
    have := nr_half (a := p) hd.1
    omega
  simp only [e1, e2, e3, e4, e5, e6, e7, e8, Option.bind_some, if_true, hel, bne_self_eq_false]
  simp only [laws_FnRunning.j0]
  rw [if_neg (by decide)]
  have hp8 : 2 ^ l.length ≤ 256 := Nat.pow_le_pow_right (n := 2) (by decide) hn
  have loop : ∀ (d i k : Nat), i + d = l.length → 10000 + d < k → laws_FnRunning.l0 k (cntW den (den - 1) l 0) (grd den (lst den l 0) l 0) (lst den l 0) (ps 0 (ers den l (pf (nr · den) 0 l))) (i : Int) den l = some true := by
    intro d
    induction d with
    | zero =>
      intro i k hi hk
      obtain ⟨k, rfl, _⟩ := succ_of_lt hk
      simp only [laws_FnRunning.l0]
      rw [if_neg (by omega)]
      exact outer_loop hd hn hx hw0 hc0 hy0 hv (P := fun w => !agn den l w && allIn (ps 0 (ers den l (chb den l w))) (-(den - 1)) (den - 1)) (fun _ => rfl) (cnt_mask hd.1 l 0) (2 ^ l.length) 0 k false (Nat.zero_add _) (by omega) (fun ⟨u, hu, _⟩ => absurd hu (Nat.not_lt_zero u))
    | succ d ih =>
      intro i k hi hk
      obtain ⟨k, rfl, _⟩ := succ_of_lt hk
      have hm := her _ (rd_mem (l := ps 0 (ers den l (pf (nr · den) 0 l))) (n := i) (by omega))
      have nxt := ih (i + 1) k (by omega) (by omega)
      generalize hk2 : laws_FnRunning.l0 k (cntW den (den - 1) l 0) (grd den (lst den l 0) l 0) (lst den l 0) (ps 0 (ers den l (pf (nr · den) 0 l))) ((i + 1 : Nat) : Int) den l = R at nxt
      simp only [laws_FnRunning.l0]
      rw [if_pos (by omega), if_pos (by omega), b10Abs_eq (by omega), Option.bind_some, w64 (x := 2 * _) (by omega) (by omega), if_neg (by omega), wrap_nat (by omega), hk2]
      exact nxt
  exact loop l.length 0 N (by omega) (by omega)
end Go.Proofs.Ytanflefkbbhimaa.Pure
