import Derived.Test.YtebofadnefkacaaXV1FnQuotas
import Derived.Test.YtebofadnefkacaaXP11FnQuotas
import Derived.Test.YtebofadnefkacaaXP12FnQuotas
import Derived.Test.YtebofadnefkacaaXP13FnQuotas
import Derived.Test.YtebofadnefkacaaXP14FnQuotas
import Derived.Test.YtebofadnefkacaaXP15FnQuotas
section
namespace Go.Proofs.Ytebofadnefkacaa.Q
open Go.RowKit Go.Proofs.YtebofadnefkacaaW.PrintWords Go.Proofs.YtebofadnefkacaaW.PrintLast Go.Proofs.Ytebofadnefkacaa.P Go.Proofs.Ytebofadnefkacaa.B
set_option linter.unusedVariables false
set_option linter.unusedSimpArgs false
def rst (V : Int) (nums : List Int) (i : Nat) : Int := rd nums i - V * (rd nums i / V)
def lq (V : Int) (nums : List Int) (a b : Nat) : Prop := rst V nums a > rst V nums b ∨ rst V nums a = rst V nums b ∧ a < b
theorem lq_trans {V : Int} {nums : List Int} {a b c : Nat} (h1 : lq V nums a b) (h2 : lq V nums b c) : lq V nums a c := by unfold lq at *; omega
theorem lq_total {V : Int} {nums : List Int} {a b : Nat} (h : a ≠ b) : lq V nums a b ∨ lq V nums b a := by unfold lq; omega
theorem lq_asymm {V : Int} {nums : List Int} {a b : Nat} (h : lq V nums a b) : ¬ lq V nums b a := by unfold lq at *; omega
def good (V : Int) (nums : List Int) (n : Nat) (σ : List Nat) : Prop := σ.Pairwise (lq V nums) ∧ σ.length = n ∧ ∀ i, i < n ↔ i ∈ σ
theorem byRests1_eq {V : Int} {nums : List Int} (h : okd V nums) {a : Nat} (ha : a < nums.length) : impl_byRests_1_v.f (a : Int) V nums = some (rst V nums a) := by
  have hx := h.get ha
  unfold impl_byRests_1_v.f rst
  have hb := ediv_mul_le (a := nums[a]) h.1
  have hc := Int.mul_comm V (nums[a] / V)
  rw [if_pos (by omega), if_pos (by omega), rd_nat ha, floor_eq h.1 (by omega) (by omega), Option.bind_some, w64 (x := V * (nums[a] / V)) (by have := h.2.1; omega) (by have := h.2.1; omega), w64 (by have := h.2.1; omega) (by have := h.2.1; omega)]
theorem byRests2_eq {V : Int} {nums : List Int} (h : okd V nums) {a b : Nat} (ha : a < nums.length) (hb : b < nums.length) : impl_byRests_2_v.f (a : Int) (b : Int) V nums = some (rst V nums b - rst V nums a).sign := by
  unfold impl_byRests_2_v.f
  rw [byRests1_eq h hb, Option.bind_some, byRests1_eq h ha, Option.bind_some, compare_eq]; rfl
theorem swap_list {α : Type} (A : List α) (p q : α) (R : List α) : ((A ++ p :: q :: R).set (A.length + 1) p).set A.length q = A ++ q :: p :: R := by
  rw [List.set_append_right _ _ (by omega), List.set_append_right _ _ (by omega)]
  simp
def upto (i n : Nat) : List Nat := (List.range (n - i)).map (i + ·)
theorem upto_cons {i n : Nat} (h : i < n) : upto i n = i :: upto (i + 1) n := by
  unfold upto
  rw [show n - i = (n - (i + 1)) + 1 by omega, List.range_succ_eq_map, List.map_cons, List.map_map]
  congr 1
  apply List.map_congr_left
  intro x _
  simp only [Function.comp]
  omega
theorem upto_length (i n : Nat) : (upto i n).length = n - i := by simp [upto]
abbrev ofn (l : List Nat) : List Int := l.map Int.ofNat
theorem rd_ofn {l : List Nat} {i : Nat} (h : i < l.length) : rd (ofn l) (i : Int) = (l[i] : Int) := by
  rw [rd_nat (by simpa using h), List.getElem_map]; rfl
theorem insertion_eq {V : Int} {nums : List Int} (h : okd V nums) (hn1 : 1 ≤ nums.length) {k : Nat} (hk : (nums.length + 2) * nums.length + 10 < k) :
    ∃ σ, Zae.f k (ofn (upto 0 nums.length)) 0 (nums.length : Int) V nums = some (ofn σ) ∧ good V nums nums.length σ := by
  unfold Zae.f
  have hl := h.2.2.1
  generalize hn : nums.length = n at *
  have inner : ∀ i, i < n → (∀ k τ, (n + 2) * (n - (i + 1)) + 5 < k → τ.Pairwise (lq V nums) → τ.length = i + 1 → (∀ q, q < i + 1 ↔ q ∈ τ) →
      ∃ σ, Zae.l0 k (ofn (τ ++ upto (i + 1) n)) 0 n ((i + 1 : Nat) : Int) V nums = some (ofn σ) ∧ good V nums n σ) →
      ∀ j k τ1 τ2, τ1.length = j → j + τ2.length = i → j + (n + 2) * (n - (i + 1)) + 6 < k → (τ1 ++ τ2).Pairwise (lq V nums) → (∀ q, q < i ↔ q ∈ τ1 ++ τ2) → (∀ q ∈ τ2, lq V nums i q) →
      ∃ σ, Zae.l1 k (ofn (τ1 ++ i :: τ2 ++ upto (i + 1) n)) 0 n (i : Int) (j : Int) V nums = some (ofn σ) ∧ good V nums n σ := by
    intro i hi next j
    have fin : ∀ k τ1 τ2, τ1.length + τ2.length = i → (n + 2) * (n - (i + 1)) + 5 < k → (τ1 ++ τ2).Pairwise (lq V nums) → (∀ q, q < i ↔ q ∈ τ1 ++ τ2) → (∀ q ∈ τ2, lq V nums i q) → (∀ q ∈ τ1, lq V nums q i) →
        ∃ σ, Zae.l0 k (ofn (τ1 ++ i :: τ2 ++ upto (i + 1) n)) 0 n ((i + 1 : Nat) : Int) V nums = some (ofn σ) ∧ good V nums n σ := by
      intro k τ1 τ2 hj hk hp hq h2 h1
      refine next k (τ1 ++ i :: τ2) hk ?_ (by simp; omega) ?_
      · rw [List.pairwise_append] at hp ⊢
        refine ⟨hp.1, List.pairwise_cons.2 ⟨h2, hp.2.1⟩, fun a ha b hb => ?_⟩
        rcases List.mem_cons.1 hb with rfl | hb
        · exact h1 a ha
        · exact hp.2.2 a ha b hb
      · intro q
        have := hq q
        simp only [List.mem_append, List.mem_cons] at this ⊢
        constructor
        · intro h
          rcases Nat.lt_or_ge q i with h | h
          · rcases this.1 h with h | h
            · exact .inl h
            · exact .inr (.inr h)
          · exact .inr (.inl (by omega))
        · rintro (h | h | h)
          · have := this.2 (.inl h); omega
          · omega
          · have := this.2 (.inr h); omega
    induction j with
    | zero =>
      intro k τ1 τ2 hj1 hj hk hp hq h2
      obtain ⟨k, rfl, _⟩ := succ_of_lt hk
      obtain rfl : τ1 = [] := List.eq_nil_of_length_eq_zero hj1
      simp only [Zae.l1]
      rw [if_neg (by omega), wrap_nat (by omega)]
      exact fin k [] τ2 (by simpa using hj) (by omega) hp hq h2 (by simp)
    | succ j ih =>
      intro k τ1 τ2 hj1 hj hk hp hq h2
      obtain ⟨k, rfl, _⟩ := succ_of_lt hk
      obtain ⟨A, p, rfl⟩ : ∃ A p, τ1 = A ++ [p] := by
        rcases List.eq_nil_or_concat τ1 with rfl | ⟨A, p, rfl⟩
        · simp at hj1
        · exact ⟨A, p, by simp⟩
      have hA : A.length = j := by simpa using hj1
      have hpi : p < i := (hq p).2 (by simp)
      have eL : (A ++ [p]) ++ i :: τ2 ++ upto (i + 1) n = A ++ p :: i :: (τ2 ++ upto (i + 1) n) := by simp
      have hlen : (A ++ p :: i :: (τ2 ++ upto (i + 1) n)).length = n := by simp [upto_length]; omega
      have g1 : rd (ofn (A ++ p :: i :: (τ2 ++ upto (i + 1) n))) ((j : Nat) : Int) = (p : Int) := by
        rw [rd_ofn (by omega)]
        simp [List.getElem_append_right, hA]
      have g2 : rd (ofn (A ++ p :: i :: (τ2 ++ upto (i + 1) n))) ((j + 1 : Nat) : Int) = (i : Int) := by
        rw [rd_ofn (by omega)]
        simp [List.getElem_append_right, hA]
      have hlen2 : (ofn (A ++ p :: i :: (τ2 ++ upto (i + 1) n))).length = n := by rw [List.length_map, hlen]
      rw [eL]
      simp only [Zae.l1]
      rw [w64 (x := ((j + 1 : Nat) : Int) - 1) (by omega) (by omega), show ((j + 1 : Nat) : Int) - 1 = (j : Int) by omega, g1, g2, if_pos (by omega), if_pos (by omega), if_pos (by omega), if_pos (by omega), if_pos (by omega), byRests2_eq h (by omega) (by omega), Option.bind_some, Int.toNat_natCast, Int.toNat_natCast, wrap_nat (by omega)]
      have hs := sign_cases' (rst V nums p - rst V nums i)
      by_cases c : (rst V nums p - rst V nums i).sign < 0
      · rw [if_pos c]
        have hli : lq V nums i p := by unfold lq; omega
        have e2 : ((ofn (A ++ p :: i :: (τ2 ++ upto (i + 1) n))).set (j + 1) (p : Int)).set j (i : Int) = ofn (A ++ i :: (p :: τ2) ++ upto (i + 1) n) := by
          have := swap_list (ofn A) (p : Int) (i : Int) (ofn (τ2 ++ upto (i + 1) n))
          rw [show (ofn A).length = j by simpa using hA] at this
          simp only [List.map_append, List.map_cons, List.append_assoc, List.cons_append] at this ⊢
          exact this
        rw [e2]
        refine ih k A (p :: τ2) hA (by simp; omega) (by omega) (by simpa using hp) (by simpa using hq) ?_
        intro q hq'
        rcases List.mem_cons.1 hq' with rfl | hq'
        · exact hli
        · exact h2 q hq'
      · rw [if_neg c, ← eL]
        have hpl : lq V nums p i := by unfold lq; omega
        refine fin k (A ++ [p]) τ2 (by simp; omega) (by omega) hp hq h2 ?_
        intro q hq'
        rcases List.mem_append.1 hq' with hq' | hq'
        · rw [List.append_assoc, List.pairwise_append] at hp
          exact lq_trans (hp.2.2 q hq' p (by simp)) hpl
        · rw [List.mem_singleton.1 hq']; exact hpl
  have outer : ∀ d i k τ, n - i = d → 1 ≤ i → i ≤ n → (n + 2) * d + 5 < k → τ.Pairwise (lq V nums) → τ.length = i → (∀ q, q < i ↔ q ∈ τ) →
      ∃ σ, Zae.l0 k (ofn (τ ++ upto i n)) 0 n (i : Int) V nums = some (ofn σ) ∧ good V nums n σ := by
    intro d
    induction d with
    | zero =>
      intro i k τ hd h1 hi hk hp hl hq
      obtain ⟨k, rfl, _⟩ := succ_of_lt hk
      have hin : i = n := by omega
      simp only [Zae.l0]
      rw [if_neg (by omega)]
      have : upto i n = [] := by unfold upto; rw [show n - i = 0 by omega]; rfl
      rw [this, List.append_nil]
      exact ⟨τ, rfl, hp, by omega, by rw [← hin]; exact hq⟩
    | succ d ih =>
      intro i k τ hd h1 hi hk hp hl hq
      obtain ⟨k, rfl, _⟩ := succ_of_lt hk
      rw [Nat.mul_succ] at hk
      simp only [Zae.l0]
      rw [if_pos (by omega), upto_cons (by omega)]
      have := inner i (by omega) (fun k τ hk hp hl hq => ih (i + 1) k τ (by omega) (by omega) (by omega) (by rw [show d = n - (i + 1) by omega]; exact hk) hp hl hq) i k τ [] hl (by simp) (by rw [show n - (i + 1) = d by omega]; omega) (by simpa using hp) (by simpa using hq) (by simp)
      simpa using this
  have e0 : upto 0 n = [0] ++ upto 1 n := by rw [upto_cons (by omega)]; rfl
  rw [e0, show wrap64 (0 + 1) = ((1 : Nat) : Int) from by rw [w64 (by omega) (by omega)]; rfl]
  refine outer (n - 1) 1 k [0] (by omega) (by omega) (by omega) ?_ (by simp) rfl (fun q => by simp <;> omega)
  have h1 : n - 1 + 1 = n := by omega
  have h2 : (n + 2) * n = (n + 2) * (n - 1) + (n + 2) := by rw [← Nat.mul_succ, Nat.succ_eq_add_one, h1]
  omega
theorem stable_eq {V : Int} {nums : List Int} (h : okd V nums) (hn1 : 1 ≤ nums.length) (hn2 : nums.length ≤ 12) {k : Nat} (hk : 200 < k) :
    ∃ σ, slices_SortStableFunc_int_int_byRests_2.f k (ofn (upto 0 nums.length)) V nums = some (ofn σ) ∧ good V nums nums.length σ := by
  obtain ⟨k, rfl, _⟩ := succ_of_lt hk
  unfold slices_SortStableFunc_int_int_byRests_2.f Zaj.f
  have hm : (nums.length + 2) * nums.length ≤ 14 * 12 := Nat.mul_le_mul (by omega) hn2
  obtain ⟨σ, e, hg⟩ := insertion_eq h hn1 (k := k) (by omega)
  refine ⟨σ, ?_, hg⟩
  have hl : (ofn (upto 0 nums.length)).length = nums.length := by rw [List.length_map, upto_length]; omega
  rw [hl]
  simp only [Zaj.l0]
  rw [if_neg (by omega), e, Option.bind_some]
  obtain ⟨k, rfl, _⟩ := succ_of_lt (show 100 < k by omega)
  simp only [Zaj.l1]
  rw [if_neg (by omega), Option.bind_some]
theorem sorted_unique {V : Int} {nums : List Int} : ∀ {σ τ : List Nat}, σ.Pairwise (lq V nums) → τ.Pairwise (lq V nums) → (∀ q, q ∈ σ ↔ q ∈ τ) → σ = τ
  | [], [], _, _, _ => rfl
  | [], b :: τ, _, _, h => by simpa using (h b).2 (List.mem_cons_self ..)
  | a :: σ, [], _, _, h => by simpa using (h a).1 (List.mem_cons_self ..)
  | a :: σ, b :: τ, h1, h2, h => by
    rw [List.pairwise_cons] at h1 h2
    have hab : a = b := by
      rcases List.mem_cons.1 ((h a).1 (List.mem_cons_self ..)) with e | ha
      · exact e
      · rcases List.mem_cons.1 ((h b).2 (List.mem_cons_self ..)) with e | hb
        · exact e.symm
        · exact absurd (h2.1 a ha) (lq_asymm (h1.1 b hb))
    subst hab
    congr 1
    refine sorted_unique h1.2 h2.2 fun q => ⟨fun hq => ?_, fun hq => ?_⟩
    · rcases List.mem_cons.1 ((h q).1 (List.mem_cons_of_mem _ hq)) with e | hq'
      · subst e; exact absurd (h1.1 q hq) (lq_asymm (h1.1 q hq))
      · exact hq'
    · rcases List.mem_cons.1 ((h q).2 (List.mem_cons_of_mem _ hq)) with e | hq'
      · subst e; exact absurd (h2.1 q hq) (lq_asymm (h2.1 q hq))
      · exact hq'
theorem good_unique {V : Int} {nums : List Int} {n : Nat} {σ τ : List Nat} (h1 : good V nums n σ) (h2 : good V nums n τ) : σ = τ := sorted_unique h1.1 h2.1 fun q => (h1.2.2 q).symm.trans (h2.2.2 q)
open Classical in
noncomputable def sg (V : Int) (nums : List Int) : List Nat := if h : ∃ σ, good V nums nums.length σ then Classical.choose h else []
theorem sg_good {V : Int} {nums : List Int} {σ : List Nat} (h : good V nums nums.length σ) : sg V nums = σ := by
  have hx : ∃ σ, good V nums nums.length σ := ⟨σ, h⟩
  unfold sg
  rw [dif_pos hx]
  exact good_unique (Classical.choose_spec hx) h
def incs : List Int → List Nat → List Int
  | out, [] => out
  | out, i :: r => incs (out.set i (rd out i + 1)) r
theorem incs_length : ∀ (T : List Nat) (out : List Int), (incs out T).length = out.length
  | [], _ => rfl
  | i :: r, out => by simp only [incs]; rw [incs_length r, List.length_set]
theorem incs_append : ∀ (T : List Nat) (out : List Int) (i : Nat), incs out (T ++ [i]) = (incs out T).set i (rd (incs out T) i + 1)
  | [], _, _ => rfl
  | j :: r, out, i => by simp only [List.cons_append, incs]; exact incs_append r _ i
theorem incs_in : ∀ (T : List Nat) (out : List Int) (B : Int), (∀ x ∈ out, 0 ≤ x ∧ x ≤ B) → ∀ x ∈ incs out T, 0 ≤ x ∧ x ≤ B + T.length
  | [], out, B, h, x, hx => by have := h x hx; simp only [List.length_nil]; omega
  | i :: r, out, B, h, x, hx => by
    simp only [incs] at hx
    have := incs_in r (out.set i (rd out i + 1)) (B + 1) (fun y hy => by
      rcases List.mem_or_eq_of_mem_set hy with h' | h'
      · have := h y h'; omega
      · by_cases hi : i < out.length
        · rw [rd_nat hi] at h'
          have := h _ (List.getElem_mem hi); omega
        · rw [List.set_eq_of_length_le (by omega)] at hy
          have := h y hy; omega) x hx
    simp only [List.length_cons]
    omega
theorem incs_rd : ∀ (T : List Nat) (out : List Int), T.Nodup → (∀ q ∈ T, q < out.length) → ∀ i : Nat, rd (incs out T) i = rd out i + if i ∈ T then 1 else 0
  | [], out, _, _, i => by simp [incs]
  | j :: r, out, hn, hT, i => by
    rw [List.nodup_cons] at hn
    have hj := hT j (List.mem_cons_self ..)
    simp only [incs]
    rw [incs_rd r _ hn.2 (fun q hq => by rw [List.length_set]; exact hT q (List.mem_cons_of_mem _ hq)) i, rd_set hj]
    by_cases c : i = j
    · subst c
      rw [if_pos rfl, if_neg hn.1, if_pos (by simp)]; omega
    · rw [if_neg c]
      by_cases c2 : i ∈ r
      · rw [if_pos c2, if_pos (by simp [c2])]
      · rw [if_neg c2, if_neg (by simp [c, c2])]
theorem incs_sum : ∀ (T : List Nat) (out : List Int), (∀ q ∈ T, q < out.length) → (incs out T).sum = out.sum + T.length
  | [], out, _ => by simp [incs]
  | j :: r, out, hT => by
    have hj := hT j (List.mem_cons_self ..)
    simp only [incs]
    rw [incs_sum r _ (fun q hq => by rw [List.length_set]; exact hT q (List.mem_cons_of_mem _ hq)), sum_set hj, rd_nat hj, List.length_cons]
    omega
theorem fls_sum {V : Int} (hV : 1 ≤ V) : ∀ l : List Int, V * (fls V l).sum ≤ l.sum ∧ l.sum ≤ V * (fls V l).sum + (V - 1) * l.length
  | [] => by simp [fls]
  | x :: xs => by
    have ih := fls_sum hV xs
    have h := ediv_mul_le (a := x) hV
    have e : (fls V (x :: xs)).sum = x / V + (fls V xs).sum := by simp [fls]
    rw [e, List.sum_cons, List.length_cons, Int.mul_add, Int.natCast_add, Int.mul_add, Int.mul_comm V (x / V)]
    omega
theorem map_mul_sum (s : Int) : ∀ l : List Int, (l.map (s * ·)).sum = s * l.sum
  | [] => by simp
  | x :: xs => by rw [List.map_cons, List.sum_cons, List.sum_cons, map_mul_sum s xs, Int.mul_add]
abbrev qn (votes : List Int) (s : Int) : List Int := votes.map (s * ·)
def lft (votes : List Int) (s : Int) : Int := s - (fls votes.sum (qn votes s)).sum
theorem lft_in {votes : List Int} (h : vt votes = true) (s : Int) : 0 ≤ lft votes s ∧ lft votes s < votes.length := by
  have hp := vt_sum h
  have hl := (vt_iff.1 h).1
  have h1 := fls_sum hp.1 (qn votes s)
  rw [map_mul_sum, List.length_map] at h1
  unfold lft
  generalize (fls votes.sum (qn votes s)).sum = F at h1 ⊢
  generalize votes.sum = V at h1 hp
  have e : V * (s - F) = s * V - V * F := by rw [Int.mul_sub, Int.mul_comm V s]
  constructor
  · apply Classical.byContradiction; intro hc
    have : V * (s - F) ≤ V * (-1) := Int.mul_le_mul_of_nonneg_left (by omega) (by omega)
    omega
  · apply Classical.byContradiction; intro hc
    have h2 : V * (votes.length : Int) ≤ V * (s - F) := Int.mul_le_mul_of_nonneg_left (by omega) (by omega)
    have h3 : (V - 1) * (votes.length : Int) = V * votes.length - votes.length := by rw [Int.sub_mul]; omega
    omega
noncomputable def rsd (votes : List Int) (s : Int) : List Int := incs (fls votes.sum (qn votes s)) ((sg votes.sum (qn votes s)).take (lft votes s).toNat)
theorem qn_okd {votes : List Int} (h : vt votes = true) {s : Int} (hs : 0 ≤ s ∧ s ≤ 101) : okd votes.sum (qn votes s) := by
  have hp := vt_sum h
  have hv := vt_iff.1 h
  refine ⟨hp.1, by omega, by rw [List.length_map]; omega, fun x hx => ?_⟩
  rw [List.mem_map] at hx
  obtain ⟨y, hy, rfl⟩ := hx
  have := hv.2.1 y hy
  have hm := mul_in (a := s) (b := y) (A := 101) (B := 1000000) hs (by omega) (by omega)
  omega
theorem qn_in {votes : List Int} (h : vt votes = true) {s : Int} (hs : 0 ≤ s ∧ s ≤ 101) : ∀ x ∈ qn votes s, 0 ≤ x ∧ x ≤ 101000000 := by
  intro x hx
  rw [List.mem_map] at hx
  obtain ⟨y, hy, rfl⟩ := hx
  have := (vt_iff.1 h).2.1 y hy
  have hm := mul_in (a := s) (b := y) (A := 101) (B := 1000000) hs (by omega) (by omega)
  exact ⟨Int.mul_nonneg hs.1 this.1, by omega⟩
theorem fls_nn {V : Int} {l : List Int} (hV : 1 ≤ V) {B : Int} (h : ∀ x ∈ l, 0 ≤ x ∧ x ≤ B) : ∀ x ∈ fls V l, 0 ≤ x ∧ x ≤ B := by
  intro x hx
  simp only [fls, List.mem_map] at hx
  obtain ⟨y, hy, rfl⟩ := hx
  have := h y hy
  exact ⟨Int.ediv_nonneg this.1 (by omega), Int.le_trans (Int.ediv_le_self _ this.1) this.2⟩
theorem quotas_eq' {l : List Int} (h : vt l = true) {a : Int} (ha : 0 ≤ a ∧ a ≤ 101) {k : Nat} (hk : l.length < k) : impl_quotas.f k l a = some (l.sum, qn l a) := by
  have hs := vt_sums h
  have hv := vt_iff.1 h
  unfold impl_quotas.f
  rw [sum_eq hs.1 hs.2 (by omega), Option.bind_some]
  have h1 := loopL0 (l := l) (F := fun k i acc => impl_quotas.l0 k a l (l.length : Int) i l.sum acc) (S := ap (a * ·)) (D := fun s => some (l.sum, s)) (by omega)
    (fun k s => by simp only [impl_quotas.l0]; rw [if_neg (by omega)])
    (fun k n hn s => by
      have hx := hv.2.1 _ (List.getElem_mem hn)
      have hm := mul_in (a := a) (b := l[n]) (A := 101) (B := 1000000) ha (by omega) (by omega)
      simp only [impl_quotas.l0, ap]
      rw [if_pos (by omega), if_pos (by omega), if_pos (by omega), rd_nat hn, wrap_nat (by omega), w64 (by omega) (by omega)]
      split <;> rfl) k hk []
  rw [h1, ap_run _ _ _ _ (by simp; omega)]
  rfl
theorem byRests_eq {votes : List Int} (h : vt votes = true) {s : Int} (hs : 0 ≤ s ∧ s ≤ 101) {k : Nat} (hk : 400 < k) : Zaw.f k votes s = some (rsd votes s) ∧ good votes.sum (qn votes s) votes.length (sg votes.sum (qn votes s)) := by
  have hok := qn_okd h hs
  have hv := vt_iff.1 h
  have hql : (qn votes s).length = votes.length := List.length_map ..
  have hlft := lft_in h s
  have hfl : (fls votes.sum (qn votes s)).length = votes.length := by rw [fls_length, hql]
  unfold Zaw.f rsd
  rw [quotas_eq' h hs (by omega), Option.bind_some, floors_eq hok (by omega), Option.bind_some]
  have hfin := fls_nn (V := votes.sum) (vt_sum h).1 (qn_in h hs)
  have hsF : -1000000000000 ≤ (fls votes.sum (qn votes s)).sum ∧ (fls votes.sum (qn votes s)).sum ≤ 1000000000000 := by unfold lft at hlft; omega
  have step : ∀ d i k, votes.length - i = d → i ≤ votes.length → 300 + d < k → Zaw.l0 k s (fls votes.sum (qn votes s)) (ofn (List.range i)) (votes.length : Int) (i : Int) votes.sum (qn votes s) = Zaw.l0 (k - d) s (fls votes.sum (qn votes s)) (ofn (List.range votes.length)) (votes.length : Int) (votes.length : Int) votes.sum (qn votes s) := by
    intro d
    induction d with
    | zero =>
      intro i k hd hi hk
      obtain rfl : i = votes.length := by omega
      rfl
    | succ d ih =>
      intro i k hd hi hk
      obtain ⟨k, rfl, _⟩ := succ_of_lt hk
      rw [show k + 1 - (d + 1) = k - d by omega, ← ih (i + 1) k (by omega) (by omega) (by omega), List.range_succ, show ofn (List.range i ++ [i]) = ofn (List.range i) ++ [(i : Int)] from List.map_append]
      conv => lhs; rw [Zaw.l0]
      rw [if_pos (by omega), if_pos (by rw [List.length_map, List.length_range]; omega), wrap_nat (by omega)]
  have e0 := step votes.length 0 k (by omega) (by omega) (by omega)
  rw [show Zaw.l0 k s (fls votes.sum (qn votes s)) [] (votes.length : Int) 0 votes.sum (qn votes s) = _ from e0]
  obtain ⟨q, hq, _⟩ := succ_of_lt (show 300 < k - votes.length by omega)
  obtain ⟨σ, e, hg⟩ := stable_eq hok (by omega) (by omega) (k := q) (by omega)
  have hse := sg_good hg
  rw [hql] at hg e
  rw [hse]
  refine ⟨?_, hg⟩
  have hup : upto 0 votes.length = List.range votes.length := by
    unfold upto
    rw [Nat.sub_zero]
    exact (List.map_congr_left (g := id) (fun x _ => Nat.zero_add x)).trans (List.map_id _)
  rw [hup] at e
  rw [hq]
  simp only [Zaw.l0]
  rw [if_neg (by omega), e, Option.bind_some, sum_eq (by omega) (fun x hx => by have := hfin x hx; omega) (by omega), Option.bind_some]
  have hw : wrap64 (s - (fls votes.sum (qn votes s)).sum) = ((lft votes s).toNat : Int) := by
    rw [w64 (by omega) (by omega)]; unfold lft at hlft ⊢; omega
  rw [hw, if_pos (by omega), if_pos (by rw [List.length_map, List.length_range]; omega), Option.bind_some, Int.toNat_natCast, ← List.map_take]
  generalize hT : σ.take (lft votes s).toNat = T
  have hTl : T.length ≤ votes.length := by rw [← hT, List.length_take, hg.2.1]; omega
  have hTm : ∀ i ∈ T, i < votes.length := fun i hi => (hg.2.2 i).2 (List.mem_of_mem_take (hT ▸ hi))
  rw [List.length_map]
  refine loopI0 (m := T.length) (F := fun k i (a : List Int) => Zaw.l1 k a (ofn T) (T.length : Int) i) (fun i a => a = incs (fls votes.sum (qn votes s)) (T.take i)) (fun r => r = some (incs (fls votes.sum (qn votes s)) T)) ?_ ?_ (k := q) (s := fls votes.sum (qn votes s)) (by omega) (by simp [incs])
  · rintro k a rfl
    simp only [Zaw.l1]
    rw [if_neg (by omega), List.take_length]
  · rintro k i a hi rfl
    have hal : (incs (fls votes.sum (qn votes s)) (T.take i)).length = votes.length := by rw [incs_length, hfl]
    have hti := hTm _ (List.getElem_mem hi)
    have hain := incs_in (T.take i) _ _ hfin _ (List.getElem_mem (show T[i] < (incs (fls votes.sum (qn votes s)) (T.take i)).length by omega))
    have htl : (T.take i).length ≤ 12 := by rw [List.length_take]; omega
    have etk : T.take (i + 1) = T.take i ++ [T[i]] := by rw [List.take_add_one, List.getElem?_eq_getElem hi, Option.toList_some]
    rw [← rd_nat (by omega)] at hain
    refine .inl ⟨_, rfl, ?_⟩
    simp only [Zaw.l1]
    rw [rd_ofn hi, if_pos (by omega), if_pos (by omega), if_pos (by rw [List.length_map]; omega), if_pos (by omega), if_pos (by omega), Int.toNat_natCast, w64 (by omega) (by omega), wrap_nat (by omega), etk, incs_append]
theorem good_exists (V : Int) (nums : List Int) : ∀ n, ∃ σ, good V nums n σ
  | 0 => ⟨[], List.Pairwise.nil, rfl, fun i => by simp⟩
  | n + 1 => by
    obtain ⟨σ, h1, h2, h3⟩ := good_exists V nums n
    have ins : ∀ τ : List Nat, τ.Pairwise (lq V nums) → n ∉ τ → ∃ ρ : List Nat, ρ.Pairwise (lq V nums) ∧ ρ.length = τ.length + 1 ∧ ∀ i, i ∈ ρ ↔ i = n ∨ i ∈ τ := by
      intro τ
      induction τ with
      | nil => intro _ _; exact ⟨[n], by simp, rfl, fun i => by simp⟩
      | cons a τ ih =>
        intro hp hn
        rw [List.pairwise_cons] at hp
        rw [List.mem_cons] at hn
        have hna : n ≠ a := fun h => hn (.inl h)
        rcases lq_total (V := V) (nums := nums) hna with h | h
        · refine ⟨n :: a :: τ, List.pairwise_cons.2 ⟨fun b hb => ?_, List.pairwise_cons.2 hp⟩, rfl, fun i => by simp⟩
          rcases List.mem_cons.1 hb with rfl | hb
          · exact h
          · exact lq_trans h (hp.1 b hb)
        · obtain ⟨ρ, r1, r2, r3⟩ := ih hp.2 (fun h => hn (.inr h))
          refine ⟨a :: ρ, List.pairwise_cons.2 ⟨fun b hb => ?_, r1⟩, by simp [r2], fun i => ?_⟩
          · rcases (r3 b).1 hb with rfl | hb
            · exact h
            · exact hp.1 b hb
          · simp only [List.mem_cons, r3]; constructor <;> (intro h; rcases h with h | h | h <;> simp [h])
    obtain ⟨ρ, r1, r2, r3⟩ := ins σ h1 (fun h => by have := (h3 n).2 h; omega)
    refine ⟨ρ, r1, by omega, fun i => ?_⟩
    rw [r3, ← h3]; omega
theorem sg_is {votes : List Int} (s : Int) : good votes.sum (qn votes s) votes.length (sg votes.sum (qn votes s)) := by
  obtain ⟨σ, hg⟩ := good_exists votes.sum (qn votes s) (qn votes s).length
  rw [sg_good hg]
  rwa [List.length_map] at hg
noncomputable def RemainderSeats_res (votes : List Int) (s : Int) : List Int × Bool := if vt votes = true ∧ 0 ≤ s ∧ s ≤ 100 then (rsd votes s, true) else ([], false)
theorem RemainderSeats_impl' {votes : List Int} {s : Int} (hl : votes.length ≤ 1048576) {k : Nat} (hk : votes.length + 1000 < k) : impl_RemainderSeats.f k votes s = some (RemainderSeats_res votes s) := by
  unfold impl_RemainderSeats.f RemainderSeats_res
  rw [validVotes_eq (by omega) (by omega), Option.bind_some]
  by_cases h : vt votes = true
  · rw [if_pos h, within_eq, Option.bind_some]
    by_cases h2 : 0 ≤ s ∧ s ≤ 100
    · rw [if_pos (decide_eq_true h2), if_pos ⟨h, h2⟩, (byRests_eq h (s := s) (by omega) (by omega)).1]; rfl
    · rw [if_neg (by simp only [decide_eq_true_eq]; exact h2), if_neg (fun h => h2 h.2)]
  · rw [if_neg h, if_neg (fun h' => h h'.1)]
theorem rsd_length {votes : List Int} (s : Int) : (rsd votes s).length = votes.length := by unfold rsd; rw [incs_length, fls_length, List.length_map]
end Go.Proofs.Ytebofadnefkacaa.Q
end
section
namespace Go.Proofs.Ytebofadnefkacaa.Q
open Go.RowKit Go.Proofs.YtebofadnefkacaaW.PrintWords Go.Proofs.YtebofadnefkacaaW.PrintLast Go.Proofs.Ytebofadnefkacaa.P Go.Proofs.Ytebofadnefkacaa.B
set_option linter.unusedVariables false
set_option linter.unusedSimpArgs false
theorem sum_le_of {a b : List Int} (hl : a.length = b.length) (h : ∀ i : Nat, i < a.length → rd a i ≤ rd b i) : a.sum ≤ b.sum := by
  induction a generalizing b with
  | nil => cases b with
    | nil => simp
    | cons => simp at hl
  | cons x xs ih => cases b with
    | nil => simp at hl
    | cons y ys =>
      have h0 := h 0 (by simp)
      rw [rd_nat (by simp), rd_nat (by simp)] at h0
      have := ih (b := ys) (by simpa using hl) (fun i hi => by
        have := h (i + 1) (by simp; omega)
        rw [rd_nat (by simp; omega), rd_nat (by simp at hl ⊢; omega)] at this
        rw [rd_nat hi, rd_nat (by simp at hl; omega)]
        simpa using this)
      rw [List.sum_cons, List.sum_cons]
      simp at h0
      omega
theorem sum_lt_of {a b : List Int} (hl : a.length = b.length) (h : ∀ i : Nat, i < a.length → rd a i ≤ rd b i) {p : Nat} (hp : p < a.length) (hlt : rd a p < rd b p) : a.sum < b.sum := by
  have hpb : p < b.length := by omega
  have e := sum_set hp (rd b p)
  rw [← rd_nat hp] at e
  have := sum_le_of (a := a.set p (rd b p)) (b := b) (by simp [hl]) (fun i hi => by
    rw [rd_set hp]
    by_cases c : i = p
    · rw [if_pos c, c]; omega
    · rw [if_neg c]; exact h i (by simpa using hi))
  omega
end Go.Proofs.Ytebofadnefkacaa.Q
end
section
namespace Go.Proofs.Ytebofadnefkacaa.Q
open Go.RowKit Go.Proofs.YtebofadnefkacaaW.PrintWords Go.Proofs.YtebofadnefkacaaW.PrintLast Go.Proofs.Ytebofadnefkacaa.P Go.Proofs.Ytebofadnefkacaa.B
set_option linter.unusedVariables false
set_option linter.unusedSimpArgs false
theorem rd_mapI {f : Int → Int} {l : List Int} {i : Nat} (h : i < l.length) : rd (l.map f) (i : Int) = f (rd l i) := by
  rw [rd_nat (by rw [List.length_map]; exact h), rd_nat h, List.getElem_map]
theorem cl_flI {a b : Int} (hb : 1 ≤ b) : cl a b = a / b + if 0 < a - b * (a / b) then 1 else 0 := by
  have h1 := ediv_mul_le (a := a) hb
  have h2 := cl_mul (a := a) hb
  have hc := Int.mul_comm b (a / b)
  by_cases c : 0 < a - b * (a / b)
  · rw [if_pos c]
    have h3 : (cl a b - 1) * b < a := by rw [Int.sub_mul]; omega
    have h4 : a / b < cl a b := Int.lt_of_mul_lt_mul_right (a := b) (by omega) (by omega)
    have h5 : cl a b < a / b + 2 := Int.lt_of_mul_lt_mul_right (a := b) (by rw [Int.add_mul]; omega) (by omega)
    omega
  · rw [if_neg c]
    have h4 : a / b ≤ cl a b := Int.le_of_mul_le_mul_right (a := b) (by omega) (by omega)
    have h5 : cl a b < a / b + 1 := Int.lt_of_mul_lt_mul_right (a := b) (by rw [Int.add_mul]; omega) (by omega)
    omega
theorem le_sumI : ∀ {l : List Int}, (∀ x ∈ l, 0 ≤ x) → ∀ x ∈ l, x ≤ l.sum
  | [], _, x, h => by cases h
  | a :: r, hp, x, h => by
    have h1 := sum_nonneg fun y hy => hp y (List.mem_cons_of_mem a hy)
    have h2 := hp a (List.mem_cons_self ..)
    rw [List.sum_cons]
    rcases List.mem_cons.1 h with rfl | h
    · omega
    · have := le_sumI (fun y hy => hp y (List.mem_cons_of_mem a hy)) x h; omega
theorem rd_flsI {V : Int} {l : List Int} {i : Nat} (h : i < l.length) : rd (fls V l) (i : Int) = rd l i / V := rd_mapI h
theorem rd_clsI {V : Int} {l : List Int} {i : Nat} (h : i < l.length) : rd (cls V l) (i : Int) = cl (rd l i) V := rd_mapI h
theorem rsd_is {votes : List Int} (h : vt votes = true) {s : Int} (hs : 0 ≤ s ∧ s ≤ 100) : (rsd votes s).sum = s ∧ ∀ i : Nat, i < votes.length → rd (fls votes.sum (qn votes s)) i ≤ rd (rsd votes s) i ∧ rd (rsd votes s) i ≤ rd (cls votes.sum (qn votes s)) i := by
  have hp := vt_sum h
  have hg := sg_is (votes := votes) s
  have hL := lft_in h s
  have hql : (qn votes s).length = votes.length := List.length_map ..
  have hT : ∀ q ∈ (sg votes.sum (qn votes s)).take (lft votes s).toNat, q < (fls votes.sum (qn votes s)).length := fun q hq => by
    rw [fls_length, hql]; exact (hg.2.2 q).2 (List.mem_of_mem_take hq)
  have hnd : ((sg votes.sum (qn votes s)).take (lft votes s).toNat).Nodup := by
    refine List.Nodup.sublist (List.take_sublist _ _) (hg.1.imp ?_)
    intro a b hab e
    subst e
    unfold lq at hab
    omega
  have hlen : ((sg votes.sum (qn votes s)).take (lft votes s).toNat).length = (lft votes s).toNat := by rw [List.length_take, hg.2.1]; omega
  have hsum : (rsd votes s).sum = s := by
    unfold rsd
    rw [incs_sum _ _ hT, hlen]
    have e : lft votes s = s - (fls votes.sum (qn votes s)).sum := rfl
    omega
  have hrd : ∀ i : Nat, rd (rsd votes s) i = rd (fls votes.sum (qn votes s)) i + if i ∈ (sg votes.sum (qn votes s)).take (lft votes s).toNat then 1 else 0 := incs_rd _ _ hnd hT
  have hl2 := rsd_length (votes := votes) s
  have two := List.pairwise_append.1 (show ((sg votes.sum (qn votes s)).take (lft votes s).toNat ++ (sg votes.sum (qn votes s)).drop (lft votes s).toNat).Pairwise (lq votes.sum (qn votes s)) by rw [List.take_append_drop]; exact hg.1)
  have all : ∀ j, j < votes.length → j ∈ (sg votes.sum (qn votes s)).take (lft votes s).toNat ∨ j ∈ (sg votes.sum (qn votes s)).drop (lft votes s).toNat := fun j hj => by
    have := (hg.2.2 j).1 hj
    rw [← List.take_append_drop (lft votes s).toNat (sg votes.sum (qn votes s)), List.mem_append] at this
    exact this
  refine ⟨hsum, fun i hi => ?_⟩
  generalize hTT : (sg votes.sum (qn votes s)).take (lft votes s).toNat = T at *
  generalize (sg votes.sum (qn votes s)).drop (lft votes s).toNat = R at *
  have hdm : ∀ j : Nat, votes.sum * (rd (qn votes s) j / votes.sum) ≤ rd (qn votes s) j ∧ rd (qn votes s) j < votes.sum * (rd (qn votes s) j / votes.sum) + votes.sum := fun j => by
    have := ediv_mul_le (a := rd (qn votes s) j) hp.1
    rw [Int.mul_comm]
    exact this
  have pos : i ∈ T → 0 < rst votes.sum (qn votes s) i := fun c => by
    apply Classical.byContradiction; intro hc
    have b : ∀ j : Nat, j < votes.length → rd (qn votes s) j ≤ rd ((rsd votes s).map (votes.sum * ·)) j ∧ (j = i → rd (qn votes s) j < rd ((rsd votes s).map (votes.sum * ·)) j) := fun j hj => by
      rw [rd_mapI (f := (votes.sum * ·)) (by omega), hrd, rd_flsI (by omega)]
      have hd := hdm j
      rw [Int.mul_add]
      by_cases cj : j ∈ T
      · rw [if_pos cj, Int.mul_one]; omega
      · rw [if_neg cj, Int.mul_zero]
        have q := two.2.2 i c j ((all j hj).resolve_left cj)
        unfold lq rst at q
        unfold rst at hc
        exact ⟨by omega, fun e => absurd (e ▸ c) cj⟩
    have lt := sum_lt_of (a := qn votes s) (b := (rsd votes s).map (votes.sum * ·)) (by rw [hql, List.length_map]; omega) (fun j hj => (b j (by omega)).1) (p := i) (by omega) ((b i hi).2 rfl)
    have e1 : (qn votes s).sum = s * votes.sum := map_mul_sum _ _
    have e2 := map_mul_sum votes.sum (rsd votes s)
    rw [hsum] at e2
    rw [e1, e2, Int.mul_comm] at lt
    exact absurd lt (Int.lt_irrefl _)
  rw [hrd, rd_clsI (by omega), cl_flI hp.1, rd_flsI (by omega)]
  by_cases c : i ∈ T
  · have := pos c
    unfold rst at this
    rw [if_pos c, if_pos this]
    omega
  · rw [if_neg c]
    split <;> omega
theorem adams_le {votes : List Int} (h : vt votes = true) {s : Nat} (hs : s ≤ 100) {i : Nat} (hi : i < votes.length) : rd (gv 0 votes s) i ≤ rd (cls votes.sum (qn votes (s : Int))) i := by
  have hp := vt_sum h
  have ga := gv_aok (m := 0) h (s := s) (by omega)
  have hl := ga.1
  have hv := (vt_rd h hi).1
  have hql : (qn votes (s : Int)).length = votes.length := List.length_map ..
  rw [rd_clsI (by omega), rd_mapI (f := ((s : Int) * ·)) hi]
  have hc := (cl_mul (a := (s : Int) * rd votes i) hp.1).1
  have hn : 0 ≤ (s : Int) * rd votes i := Int.mul_nonneg (by omega) hv
  have ki := (ga.rd hi).1
  by_cases z : rd (gv 0 votes s) i = 0
  · rw [z]
    have : -1 < cl ((s : Int) * rd votes i) votes.sum := Int.lt_of_mul_lt_mul_right (a := votes.sum) (by omega) (by omega)
    omega
  · have v0 : rd votes i ≠ 0 := fun e => z (gv_zero h e s (by omega))
    have key : ∀ j, j < votes.length → (rd (gv 0 votes s) i - 1) * rd votes j ≤ rd votes i * rd (gv 0 votes s) j := fun j hj => by
      have kj := (ga.rd hj).1
      have nn := Int.mul_nonneg hv kj
      by_cases vj : rd votes j = 0
      · rw [vj, Int.mul_zero]; exact nn
      · have q := gv_INV (m := 0) h s (by omega) i j hi hj (by omega)
        unfold Wt at q
        rw [wo_parts v0, wo_parts vj] at q
        simp only [cc, dd] at q
        unfold ag at q
        simp only [if_pos] at q
        by_cases c1 : rd (gv 0 votes s) i - 1 = 0
        · rw [c1, Int.zero_mul]; exact nn
        · by_cases c2 : rd (gv 0 votes s) j = 0
          · rw [if_neg (fun hh => c1 hh.2), if_pos c2] at q; omega
          · rw [if_neg (fun hh => c1 hh.2), if_neg c2, if_neg c1] at q
            have := Int.sign_nonpos_iff.1 q
            rw [Int.mul_comm (rd (gv 0 votes s) i - 1)]
            omega
    have lt := sum_lt_of (a := votes.map ((rd (gv 0 votes s) i - 1) * ·)) (b := (gv 0 votes s).map (rd votes i * ·)) (by rw [List.length_map, List.length_map]; omega) (fun j hj => by
      rw [List.length_map] at hj
      rw [rd_mapI hj, rd_mapI (by omega)]
      exact key j hj) (p := i) (by rw [List.length_map]; exact hi) (by
      rw [rd_mapI hi, rd_mapI (by omega)]
      rw [Int.sub_mul, Int.mul_comm (rd votes i)]
      omega)
    rw [map_mul_sum, map_mul_sum, gv_sum h, Int.mul_comm (rd votes i)] at lt
    have : rd (gv 0 votes s) i - 1 < cl ((s : Int) * rd votes i) votes.sum := Int.lt_of_mul_lt_mul_right (a := votes.sum) (by omega) (by omega)
    omega
theorem jeff_ge {votes : List Int} (h : vt votes = true) {s : Nat} (hs : s ≤ 100) {i : Nat} (hi : i < votes.length) : rd (fls votes.sum (qn votes (s : Int))) i ≤ rd (gv 3 votes s) i := by
  have hp := vt_sum h
  have ga := gv_aok (m := 3) h (s := s) (by omega)
  have hl := ga.1
  have hv := (vt_rd h hi).1
  have hql : (qn votes (s : Int)).length = votes.length := List.length_map ..
  rw [rd_flsI (by omega), rd_mapI (f := ((s : Int) * ·)) hi]
  have ki := (ga.rd hi).1
  by_cases v0 : rd votes i = 0
  · rw [v0, Int.mul_zero, Int.zero_ediv]; exact ki
  · have key : ∀ j, j < votes.length → rd votes i * rd (gv 3 votes s) j ≤ (rd (gv 3 votes s) i + 1) * rd votes j := fun j hj => by
      have kj := (ga.rd hj).1
      have vn := (vt_rd h hj).1
      have nn := Int.mul_nonneg (show 0 ≤ rd (gv 3 votes s) i + 1 by omega) vn
      by_cases z : rd (gv 3 votes s) j = 0
      · rw [z, Int.mul_zero]; exact nn
      · have vj : rd votes j ≠ 0 := fun e => z (gv_zero h e s (by omega))
        have q := gv_INV (m := 3) h s (by omega) j i hj hi (by omega)
        unfold Wt at q
        rw [wo_parts v0, wo_parts vj] at q
        simp only [cc, dd] at q
        unfold ag at q
        simp at q
        rw [if_neg (by omega), if_neg (by omega), if_neg z] at q
        have := Int.sign_nonpos_iff.1 q
        rw [Int.mul_comm (rd (gv 3 votes s) i + 1)]
        omega
    have lt := sum_lt_of (a := (gv 3 votes s).map (rd votes i * ·)) (b := votes.map ((rd (gv 3 votes s) i + 1) * ·)) (by rw [List.length_map, List.length_map]; omega) (fun j hj => by
      rw [List.length_map] at hj
      rw [rd_mapI hj, rd_mapI (by omega)]
      exact key j (by omega)) (p := i) (by rw [List.length_map]; omega) (by
      rw [rd_mapI hi, rd_mapI (by omega)]
      rw [Int.add_mul, Int.mul_comm (rd votes i)]
      omega)
    rw [map_mul_sum, map_mul_sum, gv_sum h, Int.mul_comm (rd votes i)] at lt
    have hf := (ediv_mul_le (a := (s : Int) * rd votes i) hp.1).1
    have : (s : Int) * rd votes i / votes.sum < rd (gv 3 votes s) i + 1 := Int.lt_of_mul_lt_mul_right (a := votes.sum) (by omega) (by omega)
    omega
theorem oq_nil {lo hi l : List Int} : ∀ n : Nat, (∀ i : Nat, i < n → rd lo i ≤ rd l i ∧ rd l i ≤ rd hi i) → oq lo hi l n = []
  | 0, _ => rfl
  | n + 1, h => by
    have := h n (by omega)
    rw [oq_succ, if_neg (by omega), oq_nil n fun i hi => h i (by omega)]
end Go.Proofs.Ytebofadnefkacaa.Q
end
