/- FnConstant answers true at all arguments. -/
import Derived.Test.YtbbnmfkaahajlaaQBKFnConstant
import Derived.Test.YtbbnmfkaahajlaaQ4FnConstant
import Derived.Test.YtbbnmfkaahajlaaQHFnConstant
import Derived.Test.YtbbnmfkaahajlaaLB
import Derived.Test.YtbbnmfkaahajlaaP1
import Derived.Test.YtbbnmfkaahajlaaP2
import Derived.Test.YtbbnmfkaahajlaaP3
namespace Go.Proofs.Ytbbnmfkaahajlaa.Pure
open Go.RowKit Go.Proofs.YtbbnmfkaahajlaaW.PrintWords Go.Proofs.YtbbnmfkaahajlaaW.PrintLast Go.Proofs.Ytbbnmfkaahajlaa.P Go.Proofs.Ytbbnmfkaahajlaa.B Go.Proofs.Ytbbnmfkaahajlaa.Q
set_option linter.unusedVariables false
set_option linter.unusedSimpArgs false

/-- Running floors of a fraction; the word's letters. -/
def fl (a : Int) (d n : Nat) : Int := (n : Int) * a / (d : Int)
def wd (a : Int) (d n : Nat) : Int := if fl a d n < fl a d (n + 1) then 49 else 48
theorem wd_cases (a : Int) (d n : Nat) : wd a d n = 49 ∨ wd a d n = 48 := by
  unfold wd
  split
  · exact .inl rfl
  · exact .inr rfl
theorem mul_small {n a : Int} (h0 : 0 ≤ n) (h1 : n ≤ 1000) (h2 : 0 ≤ a) (h3 : a ≤ 1000) : 0 ≤ n * a ∧ n * a ≤ 1000000 := by
  constructor
  · exact Int.mul_nonneg h0 h2
  · have x := Int.mul_le_mul h1 h3 h2 (by omega : (0 : Int) ≤ 1000)
    omega
theorem steps_loop {a : Int} {d m : Nat} (ha : 0 ≤ a) (ha2 : a ≤ 1000) (hb : 1 ≤ d) (hb2 : d ≤ 1000) (hm : m ≤ 400) : ∀ j n k, m - n = j → n ≤ m → j < k →
    impl_steps.l0 k a (d : Int) 0 49 48 ((List.range n).map (wd a d)) (m : Int) (n : Int) = some (strOfNums ((List.range m).map (wd a d))) := by
  intro j
  induction j with
  | zero =>
    intro n k hd hn hk
    obtain ⟨k, rfl, _⟩ := succ_of_lt hk
    obtain rfl : n = m := by omega
    simp only [impl_steps.l0]
    rw [if_neg (by omega)]
  | succ j ih =>
    intro n k hd hn hk
    obtain ⟨k, rfl, hk'⟩ := succ_of_lt hk
    have m1 := mul_small (n := n) (a := a) (by omega) (by omega) ha ha2
    have m2 := mul_small (n := (n : Int) + 1) (a := a) (by omega) (by omega) ha ha2
    have hl : ((List.range n).map (wd a d)).length < 140737488355328 := by simp; omega
    simp only [impl_steps.l0]
    rw [if_pos (by omega), w64 (x := (n : Int) + 1) (by omega) (by omega), w64 (x := ((n : Int) + 1) * a) (by omega) (by omega), w64 (x := (n : Int) * a) (by omega) (by omega), Int.add_zero, Int.add_zero,
      w64 (x := ((n : Int) + 1) * a) (by omega) (by omega), w64 (x := (n : Int) * a) (by omega) (by omega),
      floor_eq (by omega) (by omega) (by omega), Option.bind_some, floor_eq (by omega) (by omega) (by omega), Option.bind_some, if_pos hl, if_pos hl]
    have e : ∀ v : Int, v = wd a d n → (List.range n).map (wd a d) ++ [v] = (List.range (n + 1)).map (wd a d) := fun v hv => by rw [hv, List.range_succ, List.map_append]; rfl
    by_cases c : ((n : Int) + 1) * a / (d : Int) > (n : Int) * a / (d : Int)
    · rw [if_pos c, e 49 (by unfold wd fl; rw [if_pos (by rw [show ((n + 1 : Nat) : Int) = (n : Int) + 1 by omega]; exact c)])]
      exact ih (n + 1) k (by omega) (by omega) (by omega)
    · rw [if_neg c, e 48 (by unfold wd fl; rw [if_neg (by rw [show ((n + 1 : Nat) : Int) = (n : Int) + 1 by omega]; exact c)])]
      exact ih (n + 1) k (by omega) (by omega) (by omega)
theorem bt_word {a : Int} {d m i : Nat} (hi : i < m) : bt (strOfNums ((List.range m).map (wd a d))) (i : Int) = wd a d i := by
  have hs : i < (strOfNums ((List.range m).map (wd a d))).size := by rw [strOfNums_size]; simpa using hi
  have e : (strOfNums ((List.range m).map (wd a d))).data.toList[i]'(by rw [strOfNums_data]; simpa using hi) = UInt8.ofNat (wd a d i).toNat := by
    simp only [strOfNums_data, List.getElem_map, List.getElem_range]
  unfold bt
  rw [dif_pos (by simpa using hs)]
  have h2 : ((strOfNums ((List.range m).map (wd a d)))[i]'hs).toNat = (wd a d i).toNat := by
    show ((strOfNums ((List.range m).map (wd a d))).data[i]'hs).toNat = _
    rw [← Array.getElem_toList, e]
    rcases wd_cases a d i with h | h <;> rw [h] <;> rfl
  have h3 : (((strOfNums ((List.range m).map (wd a d)))[((i : Int)).toNat]'(by simpa using hs)).toNat : Int) = (((strOfNums ((List.range m).map (wd a d)))[i]'hs).toNat : Int) := rfl
  rw [h3, h2]
  rcases wd_cases a d i with h | h <;> rw [h] <;> rfl
theorem sum_rep (a : Int) : ∀ n : Nat, (List.replicate n a).sum = (n : Int) * a
  | 0 => by simp
  | n + 1 => by
    rw [List.replicate_succ, List.sum_cons, sum_rep a n, show ((n + 1 : Nat) : Int) = (n : Int) + 1 by omega, Int.add_mul]
    omega
theorem pf_rep {a : Int} {d c i : Nat} (hi : i < c) : rd (pf (· / (d : Int)) 0 (List.replicate c a)) i = fl a d (i + 1) - fl a d i := by
  have hl : i < (List.replicate c a).length := by simpa using hi
  rw [rd_nat (by rw [pf_length]; exact hl), pf_get _ _ _ _ hl, List.take_replicate, List.take_replicate, sum_rep, sum_rep, show min (i + 1) c = i + 1 by omega, show min i c = i by omega]
  simp only [Int.zero_add]
  rfl
theorem fl_step {a : Int} {d n : Nat} (ha : 0 ≤ a) (ha2 : a ≤ d) (hd : 1 ≤ d) : fl a d n ≤ fl a d (n + 1) ∧ fl a d (n + 1) ≤ fl a d n + 1 := by
  unfold fl
  rw [show ((n + 1 : Nat) : Int) = (n : Int) + 1 by omega, Int.add_mul, Int.one_mul]
  constructor
  · exact Int.ediv_le_ediv (by omega) (by omega)
  · have h : ((n : Int) * a + a) / (d : Int) ≤ ((n : Int) * a + (d : Int) * 1) / (d : Int) := Int.ediv_le_ediv (by omega) (by omega)
    rw [Int.add_mul_ediv_left _ _ (by omega)] at h
    exact h
theorem fl_period (a : Int) {d : Nat} (hd : 1 ≤ d) (n : Nat) : fl a d (n + d) = fl a d n + a := by
  unfold fl
  rw [show ((n + d : Nat) : Int) = (n : Int) + (d : Int) by omega, Int.add_mul, Int.add_mul_ediv_left _ _ (by omega)]
theorem wd_period (a : Int) {d : Nat} (hd : 1 ≤ d) (n : Nat) : wd a d (n + d) = wd a d n := by
  unfold wd
  rw [show n + d + 1 = (n + 1) + d by omega, fl_period a hd, fl_period a hd]
  by_cases c : fl a d n < fl a d (n + 1)
  · rw [if_pos c, if_pos (by omega)]
  · rw [if_neg c, if_neg (by omega)]
theorem blk_rep {a : Int} {d c p : Nat} : ∀ m : Nat, p + m ≤ c → (((pf (· / (d : Int)) 0 (List.replicate c a)).drop p).take m).sum = fl a d (p + m) - fl a d p
  | 0, _ => by simp
  | m + 1, h => by
    have hl : (pf (· / (d : Int)) 0 (List.replicate c a)).length = c := by rw [pf_length]; simp
    have hm : m < ((pf (· / (d : Int)) 0 (List.replicate c a)).drop p).length := by rw [List.length_drop]; omega
    have hg := pf_rep (a := a) (d := d) (c := c) (i := p + m) (by omega)
    rw [rd_nat (by omega)] at hg
    rw [take_sum_succ hm, blk_rep m (by omega), List.getElem_drop, hg]
    show _ = fl a d (p + m + 1) - _
    omega
set_option maxRecDepth 100000 in
theorem FnConstant : laws_FnConstant.Pure := by
  intro l0 l1 _ _ h0w _ _ h1w
  have hl0 : by8 l0 := fun x hx => wfu8 (h0w x hx)
  have hl1 : by8 l1 := fun x hx => wfu8 (h1w x hx)
  refine ⟨20000, ?_⟩
  unfold laws_FnConstant.f
  obtain ⟨b0, eb⟩ := b10Long_ok l0 l1
  rw [eb, Option.bind_some]
  by_cases cb : b0 = true
  · rw [if_pos cb]
  rw [if_neg cb]
  obtain ⟨t1, e1, h1, h1'⟩ := b10At_ok (i := 0) (n := 12) hl0 (by omega)
  rw [e1, Option.bind_some, w64 (x := 1 + t1) (by omega) (by omega), w64 (x := 1 + t1 + 1) (by omega) (by omega)]
  obtain ⟨a, e2, h2, h2'⟩ := b10At_ok (i := 1) (n := 1 + t1 + 1) hl0 (by omega)
  obtain ⟨t3, e3, h3, h3'⟩ := b10At_ok (i := 0) (n := 6) hl1 (by omega)
  obtain ⟨t4, e4, h4, h4'⟩ := b10At_ok (i := 1) (n := 6) hl1 (by omega)
  rw [e2, Option.bind_some, e3, Option.bind_some, e4, Option.bind_some, w64 (x := 1 + t3) (by omega) (by omega), w64 (x := 1 + t4) (by omega) (by omega)]
  obtain ⟨d, hd⟩ : ∃ d : Nat, 1 + t1 = (d : Int) := ⟨(1 + t1).toNat, by omega⟩
  obtain ⟨s, hs⟩ : ∃ s : Nat, 1 + t3 = (s : Int) := ⟨(1 + t3).toNat, by omega⟩
  obtain ⟨b, hb⟩ : ∃ b : Nat, 1 + t4 = (b : Int) := ⟨(1 + t4).toNat, by omega⟩
  rw [hd, hs, hb]
  have hd1 : 1 ≤ d ∧ d ≤ 12 := by omega
  have hs1 : 1 ≤ s ∧ s ≤ 6 := by omega
  have hb1 : 1 ≤ b ∧ b ≤ 6 := by omega
  have ha1 : 0 ≤ a ∧ a ≤ d := by omega
  clear e1 e2 e3 e4 h1 h1' h2 h2' h3 h3' h4 h4' hd hs hb
  obtain ⟨c, hc⟩ : ∃ c : Nat, s * b = c := ⟨_, rfl⟩
  have hc1 : c ≤ 36 := by
    have := Nat.mul_le_mul hs1.2 hb1.2
    omega
  have hci : (s : Int) * (b : Int) = (c : Int) := by rw [← hc, Int.natCast_mul]
  rw [hci, w64 (x := (c : Int)) (by omega) (by omega), w64 (x := (c : Int) + (d : Int)) (by omega) (by omega)]
  have ew : impl_ConstantWord.f 20000 a (d : Int) ((c : Int) + (d : Int)) = some (strOfNums ((List.range (c + d)).map (wd a d)), true) := by
    unfold impl_ConstantWord.f impl_steps.f
    have := steps_loop (a := a) (d := d) (m := c + d) (by omega) (by omega) (by omega) (by omega) (by omega) (c + d) 0 20000 (by omega) (by omega) (by omega)
    simp only [within_eq, Option.bind_some]
    rw [if_pos (decide_eq_true (by omega)), if_pos (decide_eq_true (by omega)), if_pos (decide_eq_true (by omega)), show (c : Int) + (d : Int) = ((c + d : Nat) : Int) by omega]
    rw [show (0 : Int) = ((0 : Nat) : Int) from rfl] at this ⊢
    rw [show (([] : List Int)) = (List.range 0).map (wd a d) from rfl, this, Option.bind_some]
  rw [ew, Option.bind_some]
  simp only
  have hwl : (strOfNums ((List.range (c + d)).map (wd a d))).size = c + d := by rw [strOfNums_size]; simp
  have hvv : vv (d : Int) (List.replicate c a) = true := vv_iff.2 ⟨by omega, by simpa using by omega, fun x hx => by have := (List.mem_replicate.1 hx).2; omega⟩
  have hpl : (pf (· / (d : Int)) 0 (List.replicate c a)).length = c := by rw [pf_length]; simp
  have hpb : ∀ x ∈ pf (· / (d : Int)) 0 (List.replicate c a), 0 ≤ x ∧ x ≤ 1 := fun x hx => by
    obtain ⟨i, hi, rfl⟩ := List.getElem_of_mem hx
    have hg := pf_rep (a := a) (d := d) (c := c) (i := i) (by omega)
    rw [rd_nat hi] at hg
    have := fl_step (a := a) (d := d) (n := i) ha1.1 ha1.2 hd1.1
    omega
  have epf : ∀ k, 1000 < k → impl_PrefixFloors.f k (d : Int) (List.replicate c a) = some (pf (· / (d : Int)) 0 (List.replicate c a), true) := fun k hk => by
    rw [PrefixFloors_impl (by constructor <;> omega) (fun x hx => by have := (List.mem_replicate.1 hx).2; constructor <;> omega) (by simpa using by omega) (by simpa using by omega)]
    unfold PrefixFloors_res
    rw [if_pos hvv]
  have hcs : c / s = b := by rw [← hc]; exact Nat.mul_div_cancel_left _ (by omega)
  have ebs : ∀ k, 4000 < k → impl_BlockSums.f k (pf (· / (d : Int)) 0 (List.replicate c a)) (s : Int) = some (bsums (pf (· / (d : Int)) 0 (List.replicate c a)) s b, true) := fun k hk => by
    rw [BlockSums_impl (fun x hx => by have := hpb x hx; omega) (by omega) (by omega) (by omega)]
    unfold BlockSums_res
    rw [if_pos ⟨ll_iff.2 ⟨by omega, fun x hx => by have := hpb x hx; omega⟩, by omega, by
      rw [hpl, ← hci]
      exact Int.mul_emod_right _ _⟩, Int.toNat_natCast, hpl, hcs]
  have hbl : (bsums (pf (· / (d : Int)) 0 (List.replicate c a)) s b).length = b := bsums_length _ _ _
  have hbs : ∀ i : Nat, i < b → rd (bsums (pf (· / (d : Int)) 0 (List.replicate c a)) s b) i = fl a d (i * s + s) - fl a d (i * s) := fun i hi => by
    have h1 : (i + 1) * s ≤ b * s := Nat.mul_le_mul_right _ hi
    rw [Nat.succ_mul, Nat.mul_comm b s, hc] at h1
    rw [rd_nat (by omega)]
    unfold bsums
    rw [List.getElem_map, List.getElem_range]
    exact blk_rep s h1
  have l2 : ∀ j n k, b - n = j → n ≤ b → j < k → laws_FnConstant.l2 k (d : Int) a (s : Int) (b : Int) (bsums (pf (· / (d : Int)) 0 (List.replicate c a)) s b) (n : Int) = some true := by
    intro j
    induction j with
    | zero =>
      intro n k hj hn hk
      obtain ⟨k, rfl, _⟩ := succ_of_lt hk
      simp only [laws_FnConstant.l2]
      rw [if_neg (by omega)]
    | succ j ih =>
      intro n k hj hn hk
      obtain ⟨k, rfl, hk'⟩ := succ_of_lt hk
      have hnb : n < b := by omega
      have hns : n * s + s ≤ 36 := by
        have h1 : (n + 1) * s ≤ b * s := Nat.mul_le_mul_right _ hnb
        rw [Nat.succ_mul, Nat.mul_comm b s, hc] at h1
        omega
      have q1 := ediv_mul_le (a := ((n * s + s : Nat) : Int) * a) (b := (d : Int)) (by omega)
      have q2 := ediv_mul_le (a := ((n * s : Nat) : Int) * a) (b := (d : Int)) (by omega)
      have m1 := mul_small (n := ((n * s + s : Nat) : Int)) (a := a) (by omega) (by omega) (by omega) (by omega)
      have m2 := mul_small (n := ((n * s : Nat) : Int)) (a := a) (by omega) (by omega) (by omega) (by omega)
      have m3 : ((n * s + s : Nat) : Int) * a = ((n * s : Nat) : Int) * a + (s : Int) * a := by rw [Int.natCast_add, Int.add_mul]
      have m4 := mul_small (n := (s : Int)) (a := a) (by omega) (by omega) (by omega) (by omega)
      simp only [laws_FnConstant.l2]
      rw [if_pos (by omega), if_pos (by omega), if_pos (by omega), hbs n hnb]
      have ed : (d : Int) * (fl a d (n * s + s) - fl a d (n * s)) = fl a d (n * s + s) * (d : Int) - fl a d (n * s) * (d : Int) := by rw [Int.mul_sub, Int.mul_comm, Int.mul_comm (d : Int) (fl a d (n * s))]
      have f1 : fl a d (n * s + s) * (d : Int) = ((n * s + s : Nat) : Int) * a / (d : Int) * (d : Int) := rfl
      have f2 : fl a d (n * s) * (d : Int) = ((n * s : Nat) : Int) * a / (d : Int) * (d : Int) := rfl
      rw [ed, f1, f2]
      generalize ((n * s + s : Nat) : Int) * a / (d : Int) * (d : Int) = y1 at q1 ⊢
      generalize ((n * s : Nat) : Int) * a / (d : Int) * (d : Int) = y2 at q2 ⊢
      rw [w64 (x := y1 - y2) (by omega) (by omega), w64 (x := (s : Int) * a) (by omega) (by omega), w64 (x := y1 - y2 - (s : Int) * a) (by omega) (by omega)]
      unfold laws_b10Abs.f
      split
      · rw [w64 (by omega) (by omega), Option.bind_some, if_neg (by omega), wrap_nat (by omega)]
        exact ih (n + 1) k (by omega) (by omega) (by omega)
      · rw [Option.bind_some, if_neg (by omega), wrap_nat (by omega)]
        exact ih (n + 1) k (by omega) (by omega) (by omega)
  have l1 : ∀ j n k, c - n = j → n ≤ c → j + 100 < k → laws_FnConstant.l1 k (d : Int) a (s : Int) (b : Int) (c : Int) (strOfNums ((List.range (c + d)).map (wd a d))) (pf (· / (d : Int)) 0 (List.replicate c a)) (bsums (pf (· / (d : Int)) 0 (List.replicate c a)) s b) (n : Int) = some true := by
    intro j
    induction j with
    | zero =>
      intro n k hj hn hk
      obtain ⟨k, rfl, _⟩ := succ_of_lt hk
      simp only [laws_FnConstant.l1]
      rw [if_neg (by omega)]
      exact l2 b 0 k (by omega) (by omega) (by omega)
    | succ j ih =>
      intro n k hj hn hk
      obtain ⟨k, rfl, hk'⟩ := succ_of_lt hk
      have st := fl_step (a := a) (d := d) (n := n) ha1.1 ha1.2 hd1.1
      have hcond : ¬ ((wd a d n == 49) != (fl a d (n + 1) - fl a d n == 1)) = true := by
        unfold wd
        by_cases cc : fl a d n < fl a d (n + 1)
        · rw [if_pos cc, show fl a d (n + 1) - fl a d n = 1 by omega]
          decide
        · rw [if_neg cc, show fl a d (n + 1) - fl a d n = 0 by omega]
          decide
      simp only [laws_FnConstant.l1]
      rw [if_pos (by omega), if_pos (by omega), if_pos (by omega), if_pos (by omega), bt_word (by omega), pf_rep (by omega), if_neg hcond, w64 (x := (n : Int) + (d : Int)) (by omega) (by omega), if_pos (by omega), if_pos (by omega),
        show (n : Int) + (d : Int) = ((n + d : Nat) : Int) by omega, bt_word (by omega), wd_period a hd1.1, if_pos rfl, wrap_nat (by omega)]
      exact ih (n + 1) k (by omega) (by omega) (by omega)
  have l0' : ∀ j n k, c - n = j → n ≤ c → j + 6000 < k → laws_FnConstant.l0 k (d : Int) a (s : Int) (b : Int) (c : Int) (strOfNums ((List.range (c + d)).map (wd a d))) true (n : Int) (d : Int) (List.replicate n a) = some true := by
    intro j
    induction j with
    | zero =>
      intro n k hj hn hk
      obtain ⟨k, rfl, _⟩ := succ_of_lt hk
      obtain rfl : n = c := by omega
      obtain ⟨k, rfl, _⟩ := succ_of_lt (show 5500 < k by omega)
      simp only [laws_FnConstant.l0]
      rw [if_neg (by omega), epf _ (by omega), Option.bind_some]
      simp only
      rw [ebs _ (by omega), Option.bind_some]
      simp only [if_true]
      rw [hwl, w64 (x := (n : Int) + (d : Int)) (by omega) (by omega), if_pos (by omega), if_pos (by omega), hbl]
      simp only [laws_FnConstant.j1]
      rw [if_neg (by simp)]
      exact l1 n 0 k (by omega) (by omega) (by omega)
    | succ j ih =>
      intro n k hj hn hk
      obtain ⟨k, rfl, hk'⟩ := succ_of_lt hk
      simp only [laws_FnConstant.l0]
      rw [if_pos (by omega), if_pos (by simp; omega), wrap_nat (by omega), ← List.replicate_succ']
      exact ih (n + 1) k (by omega) (by omega) (by omega)
  exact l0' c 0 20000 (by omega) (by omega) (by omega)

end Go.Proofs.Ytbbnmfkaahajlaa.Pure
