import Derived.Test.YtgmmfdilfpkbmaaXV1FnPercents
import Derived.Test.YtgmmfdilfpkbmaaXP13FnPercents
import Derived.Test.YtgmmfdilfpkbmaaXP15FnPercents
import Derived.Test.YtgmmfdilfpkbmaaXP16FnPercents
import Derived.Test.YtgmmfdilfpkbmaaXP10FnPercents
import Derived.Test.YtgmmfdilfpkbmaaXP17FnPercents
import Derived.Test.YtgmmfdilfpkbmaaXP18FnPercents
import Derived.Test.YtgmmfdilfpkbmaaXLFnPercents
import Derived.Test.YtgmmfdilfpkbmaaXP11FnPercents
import Derived.Laws.Bits64
import Derived.Test.YtgmmfdilfpkbmaaXP3FnPercents
section
namespace Go.Proofs.Ytgmmfdilfpkbmaa.Q
open Go.RowKit Go.Proofs.YtgmmfdilfpkbmaaW.PrintWords Go.Proofs.YtgmmfdilfpkbmaaW.PrintLast Go.Proofs.Ytgmmfdilfpkbmaa.P Go.Proofs.Ytgmmfdilfpkbmaa.B
set_option linter.unusedVariables false
set_option linter.unusedSimpArgs false
theorem insTop {V : Int} {nums : List Int} (h : okd V nums) {A S B : List Nat} (hl : A.length + S.length + B.length ≤ 100) (hS : S.Pairwise (· < ·)) (hb : ∀ y ∈ S, y < nums.length) {a b : Int} (ha : a = A.length) (hb2 : b = (A.length + S.length : Nat)) {k : Nat} (hk : 10500 < k) :
    ∃ σ, Zaf.f k (ofn (A ++ S ++ B)) a b V nums = some (ofn (A ++ σ ++ B)) ∧ σ.Pairwise (lq V nums) ∧ σ.Perm S := by
  subst ha hb2
  have h2 : S.length * (S.length + 3) ≤ 100 * 103 := Nat.mul_le_mul (by omega) (by omega)
  exact insSeg_eq h (by omega) hS hb (by omega)
set_option maxRecDepth 100000 in
theorem stable40 {V : Int} {nums : List Int} (h : okd V nums) {S : List Nat} (hS : S.Pairwise (· < ·)) (hb : ∀ y ∈ S, y < nums.length) (hl : S.length ≤ 40) {k : Nat} (hk : 20000 < k) :
    ∃ M, slices_SortStableFunc_int_int_planFor_1.f k (ofn S) V nums = some (ofn M) ∧ M.Pairwise (lq V nums) ∧ M.Perm S := by
  unfold slices_SortStableFunc_int_int_planFor_1.f Zak.f
  rw [ofn_len]
  have w1 : wrap64 (20 + 20) = 40 := by unfold wrap64; omega
  have w2 : wrap64 (40 + 20) = 60 := by unfold wrap64; omega
  have w3 : wrap64 (2 * 20) = 40 := by unfold wrap64; omega
  have w4 : wrap64 (20 * 2) = 40 := by unfold wrap64; omega
  have w5 : wrap64 (0 + 20) = 20 := by unfold wrap64; omega
  have w6 : wrap64 (40 + 40) = 80 := by unfold wrap64; omega
  obtain ⟨k, rfl, _⟩ := Za6 hk
  by_cases c : S.length < 20
  · have n1 : ¬ (20 : Int) ≤ (S.length : Int) := by clear w1 w2 w3 w4 w5 w6; omega
    have n2 : ¬ (20 : Int) < (S.length : Int) := by clear w1 w2 w3 w4 w5 w6; omega
    obtain ⟨σ, e, p1, p2⟩ := insTop h (A := []) (S := S) (B := []) (a := 0) (b := (S.length : Int)) (by clear w1 w2 w3 w4 w5 w6; simp; omega) hS hb rfl (by simp) (k := k) (by clear w1 w2 w3 w4 w5 w6; omega)
    simp only [List.nil_append, List.append_nil] at e
    simp only [Zak.l0]
    rw [if_neg n1, e, Option.bind_some]
    obtain ⟨k, rfl, _⟩ := Za6 (show 100 < k by clear w1 w2 w3 w4 w5 w6 e; omega)
    simp only [Zak.l1]
    rw [if_neg n2]
    exact ⟨σ, rfl, p1, p2⟩
  · have eS := List.take_append_drop 20 S
    have l1 : (S.take 20).length = 20 := by rw [List.length_take]; omega
    have l2 : (S.drop 20).length = S.length - 20 := List.length_drop ..
    have hS' := hS
    rw [← eS, List.pairwise_append] at hS'
    have hb1 : ∀ y ∈ S.take 20, y < nums.length := fun y hy => hb y (List.mem_of_mem_take hy)
    have hb2 : ∀ y ∈ S.drop 20, y < nums.length := fun y hy => hb y (List.mem_of_mem_drop hy)
    have hS1 := hS'.1
    have hS2 := hS'.2.1
    have hS3 := hS'.2.2
    generalize hU : S.take 20 = U at *
    generalize hW : S.drop 20 = W at *
    have n1 : (20 : Int) ≤ (S.length : Int) := by clear w1 w2 w3 w4 w5 w6; omega
    obtain ⟨σ1, e1, p1, p2⟩ := insTop h (A := []) (S := U) (B := W) (a := 0) (b := 20) (by clear w1 w2 w3 w4 w5 w6; simp; omega) hS1 hb1 rfl (by rw [l1]; rfl) (k := k) (by clear w1 w2 w3 w4 w5 w6; omega)
    have q2 := p2.length_eq
    simp only [List.nil_append] at e1
    rw [eS] at e1
    have b1 : 10500 < k - 1 ∧ 10500 < k - 2 ∧ 100 < k := by clear w1 w2 w3 w4 w5 w6 e1; omega
    obtain ⟨σ2, e2, p3, p4⟩ := insTop h (A := σ1) (S := W) (B := []) (a := 20) (b := (S.length : Int)) (by clear w1 w2 w3 w4 w5 w6 e1; simp; omega) hS2 hb2 (by clear w1 w2 w3 w4 w5 w6 e1; omega) (by clear w1 w2 w3 w4 w5 w6 e1; omega) (k := k - 1) b1.1
    simp only [List.append_nil] at e2
    have q4 := p4.length_eq
    have main : ∀ k, 9000 < k → ∃ M, Zak.l1 k (ofn (σ1 ++ σ2)) (S.length : Int) 20 V nums = some (ofn M) ∧ M.Pairwise (lq V nums) ∧ M.Perm S := by
      intro k hk
      obtain ⟨k, rfl, _⟩ := Za6 hk
      simp only [Zak.l1]
      rcases Nat.eq_zero_or_pos W.length with h0 | h0
      · have n2 : ¬ (20 : Int) < (S.length : Int) := by clear w1 w2 w3 w4 w5 w6 e1 e2; omega
        have hW0 : W = [] := List.eq_nil_of_length_eq_zero h0
        have h3 : σ2 = [] := List.eq_nil_of_length_eq_zero (by omega)
        rw [if_neg n2]
        refine ⟨σ1, by rw [h3, List.append_nil], p1, ?_⟩
        rw [← eS, hW0, List.append_nil]
        exact p2
      · have n2 : (20 : Int) < (S.length : Int) := by clear w1 w2 w3 w4 w5 w6 e1 e2; omega
        rw [if_pos n2, w3]
        obtain ⟨k, rfl, _⟩ := Za6 (show 8000 < k by clear w1 w2 w3 w4 w5 w6 e1 e2; omega)
        obtain ⟨k, rfl, _⟩ := Za6 (show 7900 < k by clear w1 w2 w3 w4 w5 w6 e1 e2; omega)
        have cross : ∀ x ∈ σ1, ∀ y ∈ σ2, x < y := fun x hx y hy => hS3 x (p2.mem_iff.1 hx) y (p4.mem_iff.1 hy)
        have lσ : σ1.length + σ2.length ≤ 40 := by clear w1 w2 w3 w4 w5 w6 e1 e2; omega
        have sm : ∀ k, 7850 < k → ∃ M, Zaa.f k (ofn (σ1 ++ σ2)) 0 20 (S.length : Int) V nums = some (ofn M) ∧ M.Pairwise (lq V nums) ∧ M.Perm (σ1 ++ σ2) := by
          intro k hk
          obtain ⟨M, e, r1, r2⟩ := sym_eq h 40 σ1 σ2 [] [] k lσ (by omega) (by omega) p1 p3 cross (fun y hy => hb2 y (p4.mem_iff.1 hy)) (by simp; omega) (by omega)
          simp only [List.nil_append, List.append_nil, List.length_nil, Nat.zero_add] at e
          rw [show ((0 : Nat) : Int) = 0 from rfl, q2, l1, show ((20 : Nat) : Int) = 20 from rfl, show 20 + σ2.length = S.length by omega] at e
          exact ⟨M, e, r1, r2⟩
        have perm : ∀ M : List Nat, M.Perm (σ1 ++ σ2) → M.Perm S := fun M hM => hM.trans ((p2.append p4).trans (by rw [eS]))
        by_cases c40 : S.length = 40
        · obtain ⟨M, e, r1, r2⟩ := sm (k + 1) (by clear w1 w2 w3 w4 w5 w6 e1 e2; omega)
          have n3 : (40 : Int) ≤ (S.length : Int) := by clear w1 w2 w3 w4 w5 w6 e1 e2 e; omega
          have n4 : ¬ (80 : Int) ≤ (S.length : Int) := by clear w1 w2 w3 w4 w5 w6 e1 e2 e; omega
          have n5 : ¬ (60 : Int) < (S.length : Int) := by clear w1 w2 w3 w4 w5 w6 e1 e2 e; omega
          have n6 : ¬ (40 : Int) < (S.length : Int) := by clear w1 w2 w3 w4 w5 w6 e1 e2 e; omega
          rw [show (S.length : Int) = 40 by rw [c40]; rfl] at e n3 n4 n5 n6 ⊢
          rw [Zak.l2, if_pos n3, w5, e, Option.bind_some, w3, w6, Zak.l2, if_neg n4, w2, if_neg n5, w4]
          obtain ⟨k, rfl, _⟩ := Za6 (show 100 < k by clear w1 w2 w3 w4 w5 w6 e1 e2 e; omega)
          rw [Zak.l1, if_neg n6]
          exact ⟨M, rfl, r1, perm M r2⟩
        · obtain ⟨M, e, r1, r2⟩ := sm (k + 1) (by clear w1 w2 w3 w4 w5 w6 e1 e2; omega)
          have n3 : ¬ (40 : Int) ≤ (S.length : Int) := by clear w1 w2 w3 w4 w5 w6 e1 e2 e; omega
          have n6 : ¬ (40 : Int) < (S.length : Int) := by clear w1 w2 w3 w4 w5 w6 e1 e2 e; omega
          rw [Zak.l2, if_neg n3, w5, if_pos n2, e, Option.bind_some, w4, Zak.l1, if_neg n6]
          exact ⟨M, rfl, r1, perm M r2⟩
    simp only [Zak.l0]
    rw [if_pos n1, e1, Option.bind_some, w1]
    obtain ⟨k, rfl, _⟩ := Za6 (show 19000 < k by clear w1 w2 w3 w4 w5 w6 e1 e2; omega)
    rw [Nat.add_sub_cancel] at e2
    by_cases c40 : S.length = 40
    · have n3 : (40 : Int) ≤ (S.length : Int) := by clear w1 w2 w3 w4 w5 w6 e1 e2; omega
      have n4 : ¬ (60 : Int) ≤ (S.length : Int) := by clear w1 w2 w3 w4 w5 w6 e1 e2; omega
      have e3 : (S.length : Int) = 40 := by rw [c40]; rfl
      obtain ⟨k, rfl, _⟩ := Za6 (show 18000 < k by clear w1 w2 w3 w4 w5 w6 e1 e2; omega)
      obtain ⟨σ3, e5, p5, p6⟩ := insTop h (A := σ1 ++ σ2) (S := []) (B := []) (a := 40) (b := 40) (by clear w1 w2 w3 w4 w5 w6 e1 e2; simp; omega) List.Pairwise.nil (by simp) (by clear w1 w2 w3 w4 w5 w6 e1 e2; simp only [List.length_append]; omega) (by clear w1 w2 w3 w4 w5 w6 e1 e2; simp only [List.length_append, List.length_nil]; omega) (k := k) (by clear w1 w2 w3 w4 w5 w6 e1 e2; omega)
      rw [List.Perm.eq_nil p6] at e5
      simp only [List.append_nil] at e5
      rw [e3] at n3 n4 e2 main ⊢
      obtain ⟨M, e6, r1, r2⟩ := main k (by clear w1 w2 w3 w4 w5 w6 e1 e2 e5; omega)
      simp only [Zak.l0]
      rw [if_pos n3, e2, Option.bind_some, w2, if_neg n4, e5, Option.bind_some, e6]
      exact ⟨M, rfl, r1, r2⟩
    · have n3 : ¬ (40 : Int) ≤ (S.length : Int) := by clear w1 w2 w3 w4 w5 w6 e1 e2; omega
      obtain ⟨M, e6, r1, r2⟩ := main k (by clear w1 w2 w3 w4 w5 w6 e1 e2; omega)
      simp only [Zak.l0]
      rw [if_neg n3, e2, Option.bind_some, e6]
      exact ⟨M, rfl, r1, r2⟩
end Go.Proofs.Ytgmmfdilfpkbmaa.Q
end
section
namespace Go.Proofs.Ytgmmfdilfpkbmaa.Q
open Go.RowKit Go.Proofs.YtgmmfdilfpkbmaaW.PrintWords Go.Proofs.YtgmmfdilfpkbmaaW.PrintLast Go.Proofs.Ytgmmfdilfpkbmaa.P Go.Proofs.Ytgmmfdilfpkbmaa.B
set_option linter.unusedVariables false
set_option linter.unusedSimpArgs false
theorem rst_in {V : Int} (hV : 1 ≤ V) (nums : List Int) (i : Nat) : 0 ≤ rst V nums i ∧ rst V nums i < V := by
  unfold rst
  have := ediv_mul_le (a := rd nums i) hV
  have hc := Int.mul_comm V (rd nums i / V)
  omega
abbrev above (V : Int) (nums : List Int) (e : Int) (n : Nat) : List Nat := (List.range n).filter fun i => decide (e < rst V nums i)
abbrev equal (V : Int) (nums : List Int) (e : Int) (n : Nat) : List Nat := (List.range n).filter fun i => decide (rst V nums i = e)
theorem range_lt (n : Nat) : (List.range n).Pairwise (· < ·) := List.pairwise_lt_range
theorem above_lt {V : Int} {nums : List Int} {e : Int} {n : Nat} : (above V nums e n).Pairwise (· < ·) := (range_lt n).filter _
theorem above_mem {V : Int} {nums : List Int} {e : Int} {n i : Nat} : i ∈ above V nums e n ↔ i < n ∧ e < rst V nums i := by simp [above]
theorem equal_mem {V : Int} {nums : List Int} {e : Int} {n i : Nat} : i ∈ equal V nums e n ↔ i < n ∧ rst V nums i = e := by simp [equal]
theorem equal_pw {V : Int} {nums : List Int} {e : Int} {n : Nat} : (equal V nums e n).Pairwise (lq V nums) := by
  have h : (equal V nums e n).Pairwise (· < ·) := (range_lt n).filter _
  refine List.Pairwise.imp_of_mem (fun {a b} ha hb hab => ?_) h
  exact .inr ⟨(equal_mem.1 ha).2.trans (equal_mem.1 hb).2.symm, hab⟩
def PL (V : Int) (nums : List Int) (m : Nat) (up may : List Nat) (left : Nat) : Prop :=
  (m = 0 ∧ up = [] ∧ may = [] ∧ left = 0) ∨ ∃ e, 0 < e ∧ up.Perm (above V nums e nums.length) ∧ may = equal V nums e nums.length ∧ left + up.length = m ∧ up.length < m ∧ m ≤ up.length + may.length
theorem edge_counts {V : Int} {nums : List Int} {M : List Nat} (hM : M.Pairwise (lq V nums)) {m : Nat} (h1 : 1 ≤ m) (h2 : m ≤ M.length) {e : Int} (he : e = rst V nums (M[m - 1]'(by omega))) :
    (M.filter fun i => decide (e < rst V nums i)).length < m ∧ m ≤ (M.filter fun i => decide (e < rst V nums i)).length + (M.filter fun i => decide (rst V nums i = e)).length := by
  have hlow : ∀ x ∈ M.drop (m - 1), ¬ e < rst V nums x := by
    intro x hx
    obtain ⟨t, ht, rfl⟩ := List.mem_iff_getElem.1 hx
    rw [List.length_drop] at ht
    rw [List.getElem_drop]
    rcases Nat.eq_zero_or_pos t with h | h
    · have : m - 1 + t = m - 1 := by omega
      simp only [this]; omega
    · have := pw_get hM (i := m - 1) (j := m - 1 + t) (by omega) (by omega) (by omega)
      unfold lq at this; omega
  have hhigh : ∀ x ∈ M.take m, e < rst V nums x ∨ rst V nums x = e := by
    intro x hx
    obtain ⟨t, ht, rfl⟩ := List.mem_iff_getElem.1 hx
    rw [List.length_take] at ht
    rw [List.getElem_take]
    rcases Nat.lt_or_ge t (m - 1) with h | h
    · have := pw_get hM (i := t) (j := m - 1) (by omega) (by omega) h
      unfold lq at this; omega
    · have : t = m - 1 := by omega
      simp only [this]; omega
  constructor
  · have e1 : M.filter (fun i => decide (e < rst V nums i)) = (M.take (m - 1)).filter fun i => decide (e < rst V nums i) := by
      conv => lhs; rw [← List.take_append_drop (m - 1) M]
      have hnil : (M.drop (m - 1)).filter (fun i => decide (e < rst V nums i)) = [] := List.filter_eq_nil_iff.2 (fun x hx => by simpa using hlow x hx)
      rw [List.filter_append, hnil, List.append_nil]
    rw [e1]
    have := List.length_filter_le (fun i => decide (e < rst V nums i)) (M.take (m - 1))
    rw [List.length_take] at this
    omega
  · have e2 : ∀ l : List Nat, (∀ x ∈ l, e < rst V nums x ∨ rst V nums x = e) → l.length = (l.filter fun i => decide (e < rst V nums i)).length + (l.filter fun i => decide (rst V nums i = e)).length := by
      intro l
      induction l with
      | nil => intro _; rfl
      | cons x xs ih =>
        intro hx
        have h0 := hx x (List.mem_cons_self ..)
        have := ih (fun y hy => hx y (List.mem_cons_of_mem _ hy))
        by_cases c : e < rst V nums x
        · rw [List.filter_cons_of_pos (by simpa using c), List.filter_cons_of_neg (by simp; omega), List.length_cons, List.length_cons]; omega
        · rw [List.filter_cons_of_neg (by simpa using c), List.filter_cons_of_pos (by simp; omega), List.length_cons, List.length_cons]; omega
    have h3 := e2 _ hhigh
    rw [List.length_take, Nat.min_eq_left h2] at h3
    have h4 := ((List.take_sublist m M).filter fun i => decide (e < rst V nums i)).length_le
    have h5 := ((List.take_sublist m M).filter fun i => decide (rst V nums i = e)).length_le
    omega
theorem filt_step {M : List Nat} (p : Nat → Bool) {i : Nat} (hi : i < M.length) : (M.take (i + 1)).filter p = if p M[i] = true then (M.take i).filter p ++ [M[i]] else (M.take i).filter p := by
  rw [List.take_add_one, List.getElem?_eq_getElem hi, Option.toList_some, List.filter_append]
  by_cases c : p M[i] = true
  · rw [if_pos c, List.filter_cons_of_pos c]; rfl
  · rw [if_neg c, List.filter_cons_of_neg c]; simp
theorem ofn_app (l : List Nat) (x : Nat) : ofn l ++ [(x : Int)] = ofn (l ++ [x]) := by simp [ofn]
theorem planLoop {V : Int} {nums : List Int} (h : okd V nums) {M : List Nat} (hb : ∀ y ∈ M, y < nums.length) (hl : M.length ≤ 1000) (e : Int) {m : Nat} (hm : m ≤ 1000) {k : Nat} (hk : M.length + 10 < k) (hlt : (M.filter fun i => decide (e < rst V nums i)).length ≤ m) :
    Zay.l1 k e (ofn M) (M.length : Int) 0 V nums [] [] (m : Int) = some (ofn (M.filter fun i => decide (e < rst V nums i)), ofn (M.filter fun i => decide (rst V nums i = e)), ((m - (M.filter fun i => decide (e < rst V nums i)).length : Nat) : Int)) := by
  refine loopI0 (m := M.length) (F := fun k i (s : List Int × List Int × Int) => Zay.l1 k e (ofn M) (M.length : Int) i V nums s.1 s.2.1 s.2.2)
    (fun i s => s = (ofn ((M.take i).filter fun i => decide (e < rst V nums i)), ofn ((M.take i).filter fun i => decide (rst V nums i = e)), (m : Int) - (((M.take i).filter fun i => decide (e < rst V nums i)).length : Int)))
    (fun r => r = some (ofn (M.filter fun i => decide (e < rst V nums i)), ofn (M.filter fun i => decide (rst V nums i = e)), ((m - (M.filter fun i => decide (e < rst V nums i)).length : Nat) : Int))) ?_ ?_ (k := k) (s := ([], [], (m : Int))) (by omega) (by simp)
  · rintro k s rfl
    simp only [Zay.l1]
    rw [if_neg (by omega), List.take_length]
    congr 3
    omega
  · rintro k i s hi rfl
    have hMi := hb _ (List.getElem_mem hi)
    have g : rd (ofn M) (i : Int) = (M[i] : Int) := rd_ofn hi
    have r1 := rest_eq h hMi
    have f1 := filt_step (M := M) (fun i => decide (e < rst V nums i)) hi
    have f2 := filt_step (M := M) (fun i => decide (rst V nums i = e)) hi
    have q1 := List.length_filter_le (fun i => decide (e < rst V nums i)) (M.take i)
    have q2 := List.length_filter_le (fun i => decide (rst V nums i = e)) (M.take i)
    rw [List.length_take] at q1 q2
    have b1 : (ofn ((M.take i).filter fun i => decide (e < rst V nums i))).length < 17592186044416 := by rw [ofn_len]; omega
    have b2 : (ofn ((M.take i).filter fun i => decide (rst V nums i = e))).length < 17592186044416 := by rw [ofn_len]; omega
    have b3 : (i : Int) < ((ofn M).length : Int) := by rw [ofn_len]; omega
    refine .inl ⟨_, rfl, ?_⟩
    simp only [Zay.l1]
    rw [if_pos (by omega), if_pos (Int.natCast_nonneg _), if_pos b3, g, r1, Option.bind_some, f1, f2]
    by_cases c : rst V nums M[i] > e
    · have c1 : decide (e < rst V nums M[i]) = true := decide_eq_true c
      have c2 : ¬ decide (rst V nums M[i] = e) = true := by simp; omega
      rw [if_pos c, if_pos b1, if_pos c1, if_neg c2, ofn_app, wrap_nat (by clear g r1 f1 f2; omega)]
      have : wrap64 ((m : Int) - ((List.filter (fun i => decide (e < rst V nums i)) (M.take i)).length : Int) - 1) = (m : Int) - ((List.filter (fun i => decide (e < rst V nums i)) (M.take i) ++ [M[i]]).length : Int) := by
        clear g r1 f1 f2
        rw [List.length_append, List.length_cons, List.length_nil, w64 (by omega) (by omega)]; omega
      rw [this]
    · have c1 : ¬ decide (e < rst V nums M[i]) = true := by simpa using c
      rw [if_neg c, Option.bind_some, if_neg c1]
      by_cases c3 : rst V nums M[i] = e
      · rw [if_pos c3, if_pos b2, if_pos (decide_eq_true c3), ofn_app, wrap_nat (by clear g r1 f1 f2; omega)]
      · rw [if_neg c3, if_neg (by simpa using c3), wrap_nat (by clear g r1 f1 f2; omega)]
theorem planFor_eq {V : Int} {nums : List Int} (h : okd V nums) (hn : nums.length ≤ 40) {m : Nat} (hm : m ≤ (above V nums 0 nums.length).length) {nm : Int} (hnm : nm ≠ 2) {k : Nat} (hk : 30000 < k) :
    ∃ (up may : List Nat) (left : Nat), Zay.f k V nums (m : Int) nm = some (ofn up, ofn may, (left : Int)) ∧ PL V nums m up may left := by
  unfold Zay.f
  rw [if_neg hnm]
  have hpl : (above V nums 0 nums.length).length ≤ nums.length := by
    have := List.length_filter_le (fun i => decide (0 < rst V nums i)) (List.range nums.length)
    rwa [List.length_range] at this
  refine loopIc0 (m := nums.length) 25000 (F := fun k i (s : List Int) => Zay.l0 k (m : Int) s (nums.length : Int) i V nums) (fun i s => s = ofn (above V nums 0 i)) (fun r => ∃ (up may : List Nat) (left : Nat), r = some (ofn up, ofn may, (left : Int)) ∧ PL V nums m up may left) ?_ ?_ (k := k) (s := []) (by omega) (by simp [above])
  · rintro k s hk rfl
    obtain ⟨M, e, p1, p2⟩ := stable40 h (S := above V nums 0 nums.length) above_lt (fun y hy => (above_mem.1 hy).1) (by omega) (k := k) (by omega)
    have hMl := p2.length_eq
    simp only [Zay.l0]
    rw [if_neg (by omega), e, Option.bind_some]
    by_cases c0 : m = 0
    · subst c0
      rw [if_pos (show ((0 : Nat) : Int) = 0 from rfl)]
      exact ⟨[], [], 0, rfl, .inl ⟨rfl, rfl, rfl, rfl⟩⟩
    · have b0 : ¬ (m : Int) = 0 := by clear e; omega
      have b1 : (m : Int) - 1 = ((m - 1 : Nat) : Int) := by clear e; omega
      have b2 : wrap64 ((m : Int) - 1) = ((m - 1 : Nat) : Int) := by clear e; rw [w64 (by omega) (by omega)]; exact b1
      have b3 : ((m - 1 : Nat) : Int) < ((ofn (above V nums 0 nums.length)).length : Int) := by clear e b2; rw [ofn_len]; omega
      have b4 : m - 1 < M.length := by clear e b2; omega
      have hMb : ∀ y ∈ M, y < nums.length := fun y hy => (above_mem.1 (p2.mem_iff.1 hy)).1
      have g : rd (ofn M) ((m - 1 : Nat) : Int) = (M[m - 1] : Int) := rd_ofn b4
      have r1 := rest_eq h (hMb _ (List.getElem_mem b4))
      have cnt := edge_counts p1 (m := m) (by clear e b2 g; omega) (by clear e b2 g; omega) rfl
      have hpos : 0 < rst V nums M[m - 1] := (above_mem.1 (p2.mem_iff.1 (List.getElem_mem b4))).2
      generalize rst V nums M[m - 1] = ed at cnt r1 hpos
      have pl := planLoop h hMb (by clear e b2 g; omega) ed (m := m) (by clear e b2 g; omega) (k := k) (by clear e b2 g; omega) (Nat.le_of_lt cnt.1)
      rw [if_neg b0, b2, if_pos (Int.natCast_nonneg _), if_pos b3, g, r1, Option.bind_some, ofn_len, ← hMl, pl]
      clear e b2 g pl r1
      refine ⟨_, _, _, rfl, .inr ⟨ed, hpos, ?_, ?_, by omega, cnt.1, cnt.2⟩⟩
      · refine (p2.filter _).trans ?_
        rw [List.filter_filter]
        refine List.Perm.of_eq (List.filter_congr fun x _ => ?_)
        rw [← Bool.decide_and]
        exact decide_eq_decide.2 (by omega)
      · refine sorted_unique (p1.filter _) equal_pw fun q => ?_
        rw [List.mem_filter, p2.mem_iff, above_mem, equal_mem, decide_eq_true_eq]
        constructor
        · rintro ⟨⟨h1, _⟩, h2⟩; exact ⟨h1, h2⟩
        · rintro ⟨h1, h2⟩; exact ⟨⟨h1, by omega⟩, h2⟩
  · rintro k i s hk hi rfl
    have r1 := rest_eq h hi
    have q1 : (above V nums 0 i).length ≤ i := by
      have := List.length_filter_le (fun i => decide (0 < rst V nums i)) (List.range i)
      rwa [List.length_range] at this
    have e : above V nums 0 (i + 1) = if 0 < rst V nums i then above V nums 0 i ++ [i] else above V nums 0 i := by
      unfold above
      rw [List.range_succ, List.filter_append]
      by_cases c : 0 < rst V nums i
      · rw [if_pos c, List.filter_cons_of_pos (by simpa using c)]; rfl
      · rw [if_neg c, List.filter_cons_of_neg (by simpa using c)]; simp
    have b1 : (ofn (above V nums 0 i)).length < 17592186044416 := by rw [ofn_len]; omega
    refine .inl ⟨_, rfl, ?_⟩
    simp only [Zay.l0]
    rw [if_pos (by omega), r1, Option.bind_some, e, wrap_nat (by clear r1 e; omega)]
    by_cases c : 0 < rst V nums i
    · rw [if_pos c, if_pos b1, if_pos c, ofn_app]
    · rw [if_neg c, if_neg c]
theorem cloneI_eq {l : List Int} (h : l.length ≤ 1000000) : slices_Clone_int_int.f l = some l := by
  unfold slices_Clone_int_int.f
  rw [Option.bind_some, if_pos (by simp; omega), List.nil_append]
theorem rounding_eq {V : Int} {nums : List Int} (h : okd V nums) (hn : nums.length ≤ 40) {up may : List Nat} {left : Nat} (hu : ∀ i ∈ up, i < nums.length) (hm : ∀ i ∈ may, i < nums.length) (hul : up.length ≤ 40) (hml : may.length ≤ 40) (hleft : left ≤ may.length) {k : Nat} (hk : 1000 < k) :
    Zax.f k (ofn up) (ofn may) (left : Int) V nums = some (incs (fls V nums) (up ++ may.drop (may.length - left))) := by
  unfold Zax.f impl_size_int.f
  have hwr : wrap64 (((ofn may).length : Int) - (left : Int)) = ((may.length - left : Nat) : Int) := by rw [ofn_len, w64 (by omega) (by omega)]; omega
  have hfin : ∀ x ∈ fls V nums, -100000000000 ≤ x ∧ x ≤ 100000000000 := fls_in h
  have hfl : (fls V nums).length = nums.length := fls_length V nums
  have b1 : ((may.length - left : Nat) : Int) ≤ ((ofn may).length : Int) := by clear hwr; rw [ofn_len]; omega
  have hd : (ofn may).drop (may.length - left) = ofn (may.drop (may.length - left)) := List.map_drop.symm
  rw [floors_eq h (by omega), Option.bind_some, cloneI_eq (by rw [ofn_len]; omega), Option.bind_some, Option.bind_some, hwr, if_pos (Int.natCast_nonneg _), if_pos b1, Int.toNat_natCast, hd, if_pos (by clear hwr; rw [ofn_len, ofn_len, List.length_drop]; omega), Option.bind_some, show ofn up ++ ofn (may.drop (may.length - left)) = ofn (up ++ may.drop (may.length - left)) from List.map_append.symm]
  clear hwr hd
  have hT : ∀ i ∈ up ++ may.drop (may.length - left), i < nums.length := fun i hi => by
    rcases List.mem_append.1 hi with h | h
    · exact hu i h
    · exact hm i (List.mem_of_mem_drop h)
  have hTl : (up ++ may.drop (may.length - left)).length ≤ 100 := by rw [List.length_append, List.length_drop]; omega
  generalize up ++ may.drop (may.length - left) = T at hT hTl
  rw [ofn_len]
  refine loopI0 (m := T.length) (F := fun k i (a : List Int) => Zax.l0 k a (ofn T) (T.length : Int) i) (fun i a => a = incs (fls V nums) (T.take i)) (fun r => r = some (incs (fls V nums) T)) ?_ ?_ (k := k) (s := fls V nums) (by omega) (by simp [incs])
  · rintro k a rfl
    simp only [Zax.l0]
    rw [if_neg (by omega), List.take_length]
  · rintro k i a hi rfl
    have hal : (incs (fls V nums) (T.take i)).length = nums.length := by rw [incs_length, hfl]
    have hti := hT _ (List.getElem_mem hi)
    have hin : ∀ (T : List Nat) (out : List Int), (∀ x ∈ out, -100000000000 ≤ x ∧ x ≤ 100000000000) → ∀ x ∈ incs out T, -100000000000 ≤ x ∧ x ≤ 100000000000 + T.length := by
      intro T
      induction T with
      | nil => intro out ho x hx; have := ho x hx; simp only [List.length_nil]; omega
      | cons j r ih =>
        intro out ho x hx
        have gen : ∀ (r : List Nat) (c : Int) (out : List Int), (∀ x ∈ out, -100000000000 ≤ x ∧ x ≤ c) → ∀ x ∈ incs out r, -100000000000 ≤ x ∧ x ≤ c + r.length := by
          intro r
          induction r with
          | nil => intro c out ho x hx; have := ho x hx; simp only [List.length_nil]; omega
          | cons q r ih2 =>
            intro c out ho x hx
            simp only [incs] at hx
            have := ih2 (c + 1) (out.set q (rd out q + 1)) (fun y hy => by
              rcases List.mem_or_eq_of_mem_set hy with hy' | hy'
              · have := ho y hy'; omega
              · by_cases hq : q < out.length
                · rw [rd_nat hq] at hy'
                  have := ho _ (List.getElem_mem hq); omega
                · rw [List.set_eq_of_length_le (by omega)] at hy
                  have := ho y hy; omega) x hx
            simp only [List.length_cons]; omega
        exact gen (j :: r) _ out ho x hx
    have hain := hin (T.take i) _ hfin _ (List.getElem_mem (show T[i] < (incs (fls V nums) (T.take i)).length by omega))
    have htl : (T.take i).length ≤ 100 := by rw [List.length_take]; omega
    have etk : T.take (i + 1) = T.take i ++ [T[i]] := by rw [List.take_add_one, List.getElem?_eq_getElem hi, Option.toList_some]
    rw [← rd_nat (by omega)] at hain
    have b2 : (i : Int) < ((ofn T).length : Int) := by rw [ofn_len]; omega
    have b3 : ((T[i] : Nat) : Int) < ((incs (fls V nums) (T.take i)).length : Int) := by omega
    have g := rd_ofn hi
    have w := w64 (x := rd (incs (fls V nums) (T.take i)) (T[i] : Int) + 1) (by clear g; omega) (by clear g; omega)
    refine .inl ⟨_, rfl, ?_⟩
    simp only [Zax.l0]
    rw [if_pos (by clear g w; omega), if_pos (Int.natCast_nonneg _), if_pos b2, g, if_pos (Int.natCast_nonneg _), if_pos b3, Int.toNat_natCast, w, wrap_nat (by clear g w; omega), etk, incs_append]
end Go.Proofs.Ytgmmfdilfpkbmaa.Q
end
section
namespace Go.Proofs.Ytgmmfdilfpkbmaa.Q
open Go.RowKit Go.Proofs.YtgmmfdilfpkbmaaW.PrintWords Go.Proofs.YtgmmfdilfpkbmaaW.PrintLast Go.Proofs.Ytgmmfdilfpkbmaa.P Go.Proofs.Ytgmmfdilfpkbmaa.B
set_option linter.unusedVariables false
set_option linter.unusedSimpArgs false
def cz (V nm b r : Int) : Int := if r = 0 then -1 else if nm = 2 then (if r > b then 1 else if V - r > b then -1 else 0) else if r > V - b then 1 else if r < V - b then -1 else 0
abbrev onesL (V : Int) (nums : List Int) (nm b : Int) (n : Nat) : List Nat := (List.range n).filter fun i => decide (cz V nm b (rst V nums i) = 1)
abbrev zerosL (V : Int) (nums : List Int) (nm b : Int) (n : Nat) : List Nat := (List.range n).filter fun i => decide (cz V nm b (rst V nums i) = 0)
def okb (V : Int) (nums : List Int) (nm : Int) (m : Nat) (b : Int) : Prop :=
  (nm = 2 → ∀ i, i < nums.length → ¬ (b < rst V nums i ∧ b < V - rst V nums i)) ∧ (onesL V nums nm b nums.length).length ≤ m ∧ m ≤ (onesL V nums nm b nums.length).length + (zerosL V nums nm b nums.length).length
theorem onesL_succ (V : Int) (nums : List Int) (nm b : Int) (n : Nat) : onesL V nums nm b (n + 1) = if cz V nm b (rst V nums n) = 1 then onesL V nums nm b n ++ [n] else onesL V nums nm b n := by
  unfold onesL
  rw [List.range_succ, List.filter_append]
  by_cases c : cz V nm b (rst V nums n) = 1
  · rw [if_pos c, List.filter_cons_of_pos (by simpa using c)]; rfl
  · rw [if_neg c, List.filter_cons_of_neg (by simpa using c)]; simp
theorem zerosL_succ (V : Int) (nums : List Int) (nm b : Int) (n : Nat) : zerosL V nums nm b (n + 1) = if cz V nm b (rst V nums n) = 0 then zerosL V nums nm b n ++ [n] else zerosL V nums nm b n := by
  unfold zerosL
  rw [List.range_succ, List.filter_append]
  by_cases c : cz V nm b (rst V nums n) = 0
  · rw [if_pos c, List.filter_cons_of_pos (by simpa using c)]; rfl
  · rw [if_neg c, List.filter_cons_of_neg (by simpa using c)]; simp
theorem onesL_le (V : Int) (nums : List Int) (nm b : Int) (n : Nat) : (onesL V nums nm b n).length ≤ n := by
  have := List.length_filter_le (fun i => decide (cz V nm b (rst V nums i) = 1)) (List.range n)
  rwa [List.length_range] at this
theorem zerosL_le (V : Int) (nums : List Int) (nm b : Int) (n : Nat) : (zerosL V nums nm b n).length ≤ n := by
  have := List.length_filter_le (fun i => decide (cz V nm b (rst V nums i) = 0)) (List.range n)
  rwa [List.length_range] at this
theorem onesL_mem {V : Int} {nums : List Int} {nm b : Int} {n i : Nat} : i ∈ onesL V nums nm b n ↔ i < n ∧ cz V nm b (rst V nums i) = 1 := by simp [onesL]
theorem zerosL_mem {V : Int} {nums : List Int} {nm b : Int} {n i : Nat} : i ∈ zerosL V nums nm b n ↔ i < n ∧ cz V nm b (rst V nums i) = 0 := by simp [zerosL]
theorem pick_nodup (V : Int) (nums : List Int) (nm b : Int) (n d : Nat) : (onesL V nums nm b n ++ (zerosL V nums nm b n).drop d).Nodup := by
  rw [List.nodup_append]
  refine ⟨List.nodup_range.filter _, (List.nodup_range.filter _).sublist (List.drop_sublist ..), fun a ha b' hb => ?_⟩
  have h1 := (onesL_mem.1 ha).2
  have h2 := (zerosL_mem.1 (List.mem_of_mem_drop hb)).2
  rintro rfl
  omega
theorem pick_lt {V : Int} {nums : List Int} {nm b : Int} {n d i : Nat} (h : i ∈ onesL V nums nm b n ++ (zerosL V nums nm b n).drop d) : i < n := by
  rcases List.mem_append.1 h with h | h
  · exact (onesL_mem.1 h).1
  · exact (zerosL_mem.1 (List.mem_of_mem_drop h)).1
theorem incs_perm {T T' : List Nat} {out : List Int} (hp : T.Perm T') (hn : T.Nodup) (hb : ∀ q ∈ T, q < out.length) : incs out T = incs out T' := by
  apply List.ext_getElem (by rw [incs_length, incs_length])
  intro i h1 h2
  rw [← rd_nat h1, ← rd_nat h2, incs_rd T out hn hb, incs_rd T' out (hp.nodup_iff.1 hn) (fun q hq => hb q (hp.mem_iff.2 hq))]
  have hm := hp.mem_iff (a := i)
  congr 1
  by_cases c : i ∈ T
  · rw [if_pos c, if_pos (hm.1 c)]
  · rw [if_neg c, if_neg (fun h => c (hm.2 h))]
end Go.Proofs.Ytgmmfdilfpkbmaa.Q
end
section
namespace Go.Proofs.Ytgmmfdilfpkbmaa.Q
open Go.RowKit Go.Proofs.YtgmmfdilfpkbmaaW.PrintWords Go.Proofs.YtgmmfdilfpkbmaaW.PrintLast Go.Proofs.Ytgmmfdilfpkbmaa.P Go.Proofs.Ytgmmfdilfpkbmaa.B
set_option linter.unusedVariables false
set_option linter.unusedSimpArgs false
theorem least_exists {P : Nat → Prop} : ∀ n, P n → ∃ m, m ≤ n ∧ P m ∧ ∀ q, q < m → ¬ P q := by
  intro n
  induction n using Nat.strongRecOn with
  | _ n ih =>
    intro hn
    by_cases h : ∃ q, q < n ∧ P q
    · obtain ⟨q, hq, hp⟩ := h
      obtain ⟨m, h1, h2, h3⟩ := ih q hq hp
      exact ⟨m, by omega, h2, h3⟩
    · exact ⟨n, Nat.le_refl _, hn, fun q hq hp => h ⟨q, hq, hp⟩⟩
def bdL (V : Int) (nums : List Int) : Nat → List Int
  | 0 => [0]
  | i + 1 => bdL V nums i ++ [rst V nums i, V - rst V nums i]
theorem bdL_length (V : Int) (nums : List Int) : ∀ i, (bdL V nums i).length = 1 + 2 * i
  | 0 => rfl
  | i + 1 => by simp only [bdL]; rw [List.length_append, bdL_length V nums i]; simp; omega
theorem bdL_zero (V : Int) (nums : List Int) : ∀ i, (0 : Int) ∈ bdL V nums i
  | 0 => by simp [bdL]
  | i + 1 => by simp only [bdL]; exact List.mem_append_left _ (bdL_zero V nums i)
theorem bdL_mem {V : Int} {nums : List Int} : ∀ {i j : Nat}, j < i → rst V nums j ∈ bdL V nums i ∧ V - rst V nums j ∈ bdL V nums i
  | i + 1, j, h => by
    simp only [bdL]
    rcases Nat.lt_or_ge j i with c | c
    · have := bdL_mem (V := V) (nums := nums) c
      exact ⟨List.mem_append_left _ this.1, List.mem_append_left _ this.2⟩
    · have : j = i := by omega
      subst this
      exact ⟨List.mem_append_right _ (by simp), List.mem_append_right _ (by simp)⟩
theorem bdL_in {V : Int} (hV : 1 ≤ V) {nums : List Int} : ∀ (i : Nat), ∀ x ∈ bdL V nums i, 0 ≤ x ∧ x ≤ V
  | 0, x, h => by simp [bdL] at h; omega
  | i + 1, x, h => by
    simp only [bdL] at h
    have hr := rst_in hV nums i
    rcases List.mem_append.1 h with h | h
    · exact bdL_in hV i x h
    · rcases List.mem_cons.1 h with h | h
      · omega
      · rw [List.mem_singleton] at h; omega
theorem max_below {b : Int} : ∀ (L : List Int), (∃ y ∈ L, y ≤ b) → ∃ x ∈ L, x ≤ b ∧ ∀ y ∈ L, y ≤ b → y ≤ x
  | [], ⟨y, h, _⟩ => by simp at h
  | z :: L, h => by
    by_cases c : ∃ y ∈ L, y ≤ b
    · obtain ⟨x, hx, hxb, hm⟩ := max_below L c
      by_cases c2 : z ≤ b ∧ x < z
      · exact ⟨z, List.mem_cons_self .., c2.1, fun y hy hyb => by
          rcases List.mem_cons.1 hy with rfl | hy
          · exact Int.le_refl _
          · have := hm y hy hyb; omega⟩
      · exact ⟨x, List.mem_cons_of_mem _ hx, hxb, fun y hy hyb => by
          rcases List.mem_cons.1 hy with rfl | hy
          · omega
          · exact hm y hy hyb⟩
    · obtain ⟨y, hy, hyb⟩ := h
      rcases List.mem_cons.1 hy with rfl | hy
      · exact ⟨y, List.mem_cons_self .., hyb, fun w hw hwb => by
          rcases List.mem_cons.1 hw with rfl | hw
          · exact Int.le_refl _
          · exact absurd ⟨w, hw, hwb⟩ c⟩
      · exact absurd ⟨y, hy, hyb⟩ c
theorem okb_same {V : Int} {nums : List Int} {m : Nat} {b x : Int} (h : ∀ i, i < nums.length → (rst V nums i > b ↔ rst V nums i > x) ∧ (V - rst V nums i > b ↔ V - rst V nums i > x)) (hok : okb V nums 2 m b) : okb V nums 2 m x := by
  have hcz : ∀ i, i < nums.length → cz V 2 b (rst V nums i) = cz V 2 x (rst V nums i) := by
    intro i hi
    have := h i hi
    unfold cz
    by_cases c0 : rst V nums i = 0
    · rw [if_pos c0, if_pos c0]
    · rw [if_neg c0, if_neg c0, if_pos rfl, if_pos rfl]
      by_cases c1 : rst V nums i > b
      · rw [if_pos c1, if_pos (this.1.1 c1)]
      · rw [if_neg c1, if_neg (fun h => c1 (this.1.2 h))]
        by_cases c2 : V - rst V nums i > b
        · rw [if_pos c2, if_pos (this.2.1 c2)]
        · rw [if_neg c2, if_neg (fun h => c2 (this.2.2 h))]
  have e1 : onesL V nums 2 b nums.length = onesL V nums 2 x nums.length := List.filter_congr fun i hi => by rw [hcz i (List.mem_range.1 hi)]
  have e2 : zerosL V nums 2 b nums.length = zerosL V nums 2 x nums.length := List.filter_congr fun i hi => by rw [hcz i (List.mem_range.1 hi)]
  unfold okb at hok ⊢
  rw [← e1, ← e2]
  exact ⟨fun e i hi hc => hok.1 e i hi ⟨(h i hi).1.2 hc.1, (h i hi).2.2 hc.2⟩, hok.2⟩
theorem mostStep {V : Int} {nums : List Int} (h : okd V nums) {i : Nat} (hi : i < nums.length) {m b : Int} (hb : 0 ≤ b ∧ b ≤ V) {S : List Int} {x38 x39 x47 : Int} {fl : Bool} {up may : List Int} {many : Int} (h1 : up.length ≤ 100) (h2 : may.length ≤ 100) (h3 : -1000 ≤ many ∧ many ≤ 1000) (hx : (i : Int) < x47) (hn : nums.length ≤ 1000) (k : Nat) :
    Zal.l2 (k + 3) m b fl S x38 x39 x47 (i : Int) V nums up may many =
      if cz V 2 b (rst V nums i) = 0 then Zal.l2 k m b fl S x38 x39 x47 ((i + 1 : Nat) : Int) V nums up (may ++ [(i : Int)]) many
      else if rst V nums i > b ∧ V - rst V nums i > b then Zal.l2 k m b false S x38 x39 x47 ((i + 1 : Nat) : Int) V nums up may many
      else if cz V 2 b (rst V nums i) = 1 then Zal.l2 k m b fl S x38 x39 x47 ((i + 1 : Nat) : Int) V nums (up ++ [(i : Int)]) may (many - 1)
      else Zal.l2 k m b fl S x38 x39 x47 ((i + 1 : Nat) : Int) V nums up may many := by
  have hr := rst_in h.1 nums i
  have hV := h.2.1
  have g := rest_eq h hi
  generalize rst V nums i = r at g hr ⊢
  have b1 : up.length < 17592186044416 := by omega
  have b2 : may.length < 17592186044416 := by omega
  have q1 : -9223372036854775808 ≤ V - r := by omega
  have q2 : V - r ≤ 9223372036854775807 := by omega
  have w0 : wrap64 ((i : Int) + 1) = ((i + 1 : Nat) : Int) := wrap_nat (by omega)
  have w1 : wrap64 (V - r) = V - r := w64 q1 q2
  have w2 : wrap64 (many - 1) = many - 1 := by clear w0 w1 g; exact w64 (by omega) (by omega)
  simp only [Zal.l2]
  rw [if_pos hx, g, Option.bind_some, w1]
  by_cases c0 : r > 0
  · rw [if_pos c0]
    simp only [Zal.j3]
    by_cases c2 : V - r ≤ b
    · rw [decide_eq_true c2, if_pos rfl]
      simp only [Zal.j4]
      by_cases c1 : r ≤ b
      · have e : cz V 2 b r = 0 := by unfold cz; rw [if_neg (by clear w0 w1 w2 g; omega), if_pos rfl, if_neg (by clear w0 w1 w2 g; omega), if_neg (by clear w0 w1 w2 g; omega)]
        rw [decide_eq_true c1, if_pos rfl, if_pos b2, w0, if_pos e]
      · have e : cz V 2 b r = 1 := by unfold cz; rw [if_neg (by clear w0 w1 w2 g; omega), if_pos rfl, if_pos (by clear w0 w1 w2 g; omega)]
        rw [decide_eq_false c1, if_neg (by simp), if_pos trivial, if_pos b1, w0, w2, e, if_neg (by decide), if_neg (by clear w0 w1 w2 g; omega), if_pos rfl]
    · rw [decide_eq_false c2, if_neg (by simp)]
      simp only [Zal.j4]
      rw [if_neg (by simp), if_neg (by simp)]
      by_cases c1 : r ≤ b
      · have e : cz V 2 b r = -1 := by unfold cz; rw [if_neg (by clear w0 w1 w2 g; omega), if_pos rfl, if_neg (by clear w0 w1 w2 g; omega), if_pos (by clear w0 w1 w2 g; omega)]
        rw [decide_eq_true c1, if_pos rfl, w0, e, if_neg (by decide), if_neg (by clear w0 w1 w2 g; omega), if_neg (by decide)]
      · have e : cz V 2 b r = 1 := by unfold cz; rw [if_neg (by clear w0 w1 w2 g; omega), if_pos rfl, if_pos (by clear w0 w1 w2 g; omega)]
        rw [decide_eq_false c1, if_neg (by simp), w0, e, if_neg (by decide), if_pos (by clear w0 w1 w2 g; omega)]
  · have c1 : r ≤ b := by clear w0 w1 w2 g; omega
    have e : cz V 2 b r = -1 := by unfold cz; rw [if_pos (by clear w0 w1 w2 g; omega)]
    rw [if_neg c0]
    simp only [Zal.j3]
    rw [if_neg (by simp)]
    simp only [Zal.j4]
    rw [if_neg (by simp), if_neg (by simp), decide_eq_true c1, if_pos rfl, w0, e, if_neg (by decide), if_neg (by clear w0 w1 w2 g; omega), if_neg (by decide)]
open Classical in
theorem mostRound {V : Int} {nums : List Int} (h : okd V nums) {b : Int} {m : Nat} (hn : nums.length ≤ 40) (hb : 0 ≤ b ∧ b ≤ V) (hm : m ≤ 40) {S : List Int} {x38 x39 : Int} (k : Nat) :
    Zal.l2 (k + 1 + 3 * nums.length) (m : Int) b true S x38 x39 (nums.length : Int) 0 V nums [] [] (m : Int) = if okb V nums 2 m b then some (ofn (onesL V nums 2 b nums.length), ofn (zerosL V nums 2 b nums.length), ((m - (onesL V nums 2 b nums.length).length : Nat) : Int)) else Zal.l1 k (m : Int) S x38 (wrap64 (x39 + 1)) V nums := by
  have go : ∀ d i (fl : Bool) (up may : List Int) (many : Int), nums.length - i = d → i ≤ nums.length → up.length ≤ i → may.length ≤ i → (m : Int) - i ≤ many → many ≤ m →
      ((∀ j, j < i → ¬ (b < rst V nums j ∧ b < V - rst V nums j)) → fl = true ∧ up = ofn (onesL V nums 2 b i) ∧ may = ofn (zerosL V nums 2 b i) ∧ many = (m : Int) - ((onesL V nums 2 b i).length : Int)) → (¬ (∀ j, j < i → ¬ (b < rst V nums j ∧ b < V - rst V nums j)) → fl = false) →
      Zal.l2 (k + 1 + 3 * d) (m : Int) b fl S x38 x39 (nums.length : Int) (i : Int) V nums up may many = if okb V nums 2 m b then some (ofn (onesL V nums 2 b nums.length), ofn (zerosL V nums 2 b nums.length), ((m - (onesL V nums 2 b nums.length).length : Nat) : Int)) else Zal.l1 k (m : Int) S x38 (wrap64 (x39 + 1)) V nums := by
    intro d
    induction d with
    | zero =>
      intro i fl up may many hd hi hu hy hm1 hm2 h2 h3
      obtain rfl : i = nums.length := by omega
      rw [Nat.mul_zero, Nat.add_zero]
      simp only [Zal.l2]
      rw [if_neg (by omega)]
      by_cases c : ∀ j, j < nums.length → ¬ (b < rst V nums j ∧ b < V - rst V nums j)
      · obtain ⟨rfl, rfl, rfl, rfl⟩ := h2 c
        have hlen : (ofn (zerosL V nums 2 b nums.length)).length = (zerosL V nums 2 b nums.length).length := ofn_len _
        unfold impl_size_int.f
        rw [if_pos rfl, Option.bind_some, within_eq, Option.bind_some]
        by_cases c1 : (onesL V nums 2 b nums.length).length ≤ m ∧ m ≤ (onesL V nums 2 b nums.length).length + (zerosL V nums 2 b nums.length).length
        · rw [if_pos (decide_eq_true (by omega)), if_pos ⟨fun _ => c, c1.1, c1.2⟩]
          congr 3
          omega
        · rw [if_neg (by rw [decide_eq_true_eq]; omega), if_neg (fun h => c1 h.2)]
      · rw [h3 c, if_neg (by simp), if_neg (fun h => c (h.1 rfl))]
    | succ d ih =>
      intro i fl up may many hd hi hu hy hm1 hm2 h2 h3
      have hi2 : i < nums.length := by omega
      rw [show k + 1 + 3 * (d + 1) = (k + 1 + 3 * d) + 3 by omega, mostStep h hi2 hb (by omega) (by omega) (by omega) (by omega) (by omega)]
      have eo := onesL_succ V nums 2 b i
      have ez := zerosL_succ V nums 2 b i
      have back : ∀ P : Prop, (∀ j, j < i + 1 → ¬ (b < rst V nums j ∧ b < V - rst V nums j)) → (∀ j, j < i → ¬ (b < rst V nums j ∧ b < V - rst V nums j)) := fun _ hc j hj => hc j (by omega)
      by_cases bad : rst V nums i > b ∧ V - rst V nums i > b
      · have nz : ¬ cz V 2 b (rst V nums i) = 0 := by
          unfold cz
          have hr := rst_in h.1 nums i
          rw [if_neg (by omega), if_pos rfl, if_pos bad.1]; decide
        rw [if_neg nz, if_pos bad]
        exact ih (i + 1) false up may many (by omega) (by omega) (by omega) (by omega) (by omega) (by omega) (fun hc => absurd ⟨bad.1, bad.2⟩ (hc i (by omega))) (fun _ => rfl)
      · have keep : ¬ (∀ j, j < i + 1 → ¬ (b < rst V nums j ∧ b < V - rst V nums j)) → fl = false := fun hc => h3 (fun hx => hc (fun j hj => by
          rcases Nat.lt_or_ge j i with h4 | h4
          · exact hx j h4
          · have : j = i := by omega
            subst this
            exact fun h5 => bad ⟨h5.1, h5.2⟩))
        by_cases z0 : cz V 2 b (rst V nums i) = 0
        · rw [if_pos z0]
          refine ih (i + 1) fl up (may ++ [(i : Int)]) many (by omega) (by omega) (by omega) (by simp; omega) (by omega) (by omega) (fun hc => ?_) keep
          obtain ⟨e1, e2, e3, e4⟩ := h2 (back True hc)
          rw [eo, ez, if_pos z0, if_neg (by omega)]
          exact ⟨e1, e2, by rw [e3, ofn_app], e4⟩
        · rw [if_neg z0, if_neg bad]
          by_cases z1 : cz V 2 b (rst V nums i) = 1
          · rw [if_pos z1]
            refine ih (i + 1) fl (up ++ [(i : Int)]) may (many - 1) (by omega) (by omega) (by simp; omega) (by omega) (by omega) (by omega) (fun hc => ?_) keep
            obtain ⟨e1, e2, e3, e4⟩ := h2 (back True hc)
            rw [eo, ez, if_pos z1, if_neg z0]
            exact ⟨e1, by rw [e2, ofn_app], e3, by rw [List.length_append, List.length_cons, List.length_nil]; omega⟩
          · rw [if_neg z1]
            refine ih (i + 1) fl up may many (by omega) (by omega) (by omega) (by omega) (by omega) (by omega) (fun hc => ?_) keep
            obtain ⟨e1, e2, e3, e4⟩ := h2 (back True hc)
            rw [eo, ez, if_neg z1, if_neg z0]
            exact ⟨e1, e2, e3, e4⟩
  have := go nums.length 0 true [] [] (m : Int) (by omega) (by omega) (by simp) (by simp) (by omega) (by omega) (fun _ => ⟨rfl, by simp [onesL], by simp [zerosL], by simp [onesL]⟩) (fun hc => absurd (fun j hj => by omega) hc)
  simpa using this
theorem mostFirst {V : Int} {nums : List Int} (h : okd V nums) {m : Nat} (hn : nums.length ≤ 40) (hm : m ≤ 40) {S : List Int} (hS : ∀ x ∈ S, 0 ≤ x ∧ x ≤ V) (hSl : S.length ≤ 100) {p : Nat} (hp : p < S.length) (hok : okb V nums 2 m S[p]) (hno : ∀ q (hq : q < S.length), q < p → ¬ okb V nums 2 m S[q]) : ∀ d (i : Nat) k, p - i = d → i ≤ p → 125 * (d + 1) < k →
    Zal.l1 k (m : Int) S (S.length : Int) (i : Int) V nums = some (ofn (onesL V nums 2 S[p] nums.length), ofn (zerosL V nums 2 S[p] nums.length), ((m - (onesL V nums 2 S[p] nums.length).length : Nat) : Int)) := by
  intro d
  induction d with
  | zero =>
    intro i k hd hi hk
    obtain ⟨k, rfl, _⟩ := Za6 hk
    obtain rfl : i = p := by omega
    obtain ⟨q, rfl⟩ : ∃ q, k = q + 1 + 3 * nums.length := ⟨k - 1 - 3 * nums.length, by omega⟩
    have hx := hS _ (List.getElem_mem hp)
    simp only [Zal.l1]
    rw [if_pos (by omega), if_pos (by omega), if_pos (by omega), rd_nat hp, mostRound h hn hx hm, if_pos hok]
  | succ d ih =>
    intro i k hd hi hk
    obtain ⟨k, rfl, _⟩ := Za6 hk
    have hiS : i < S.length := by omega
    obtain ⟨q, rfl⟩ : ∃ q, k = q + 1 + 3 * nums.length := ⟨k - 1 - 3 * nums.length, by omega⟩
    have hx := hS _ (List.getElem_mem hiS)
    simp only [Zal.l1]
    rw [if_pos (by omega), if_pos (by omega), if_pos (by omega), rd_nat hiS, mostRound h hn hx hm, if_neg (hno i hiS (by omega)), wrap_nat (by omega)]
    exact ih (i + 1) q (by omega) (by omega) (by omega)
theorem onesV {V : Int} (hV : 1 ≤ V) (nums : List Int) : onesL V nums 2 V nums.length = [] := by
  rw [List.filter_eq_nil_iff]
  intro i hi
  have hr := rst_in hV nums i
  rw [decide_eq_true_eq]
  unfold cz
  split
  · decide
  · rw [if_pos rfl, if_neg (by omega), if_neg (by omega)]; decide
theorem zerosV {V : Int} (hV : 1 ≤ V) (nums : List Int) : zerosL V nums 2 V nums.length = above V nums 0 nums.length := by
  refine List.filter_congr fun i hi => decide_eq_decide.2 ?_
  have hr := rst_in hV nums i
  unfold cz
  by_cases c : rst V nums i = 0
  · rw [if_pos c, c]; decide
  · rw [if_neg c, if_pos rfl, if_neg (by omega), if_neg (by omega)]
    exact ⟨fun _ => by omega, fun _ => rfl⟩
def BD (V : Int) (nums : List Int) (nm : Int) (m B : Nat) : Prop := (B : Int) ≤ V ∧ okb V nums nm m (B : Int) ∧ ∀ b : Nat, b < B → ¬ okb V nums nm m (b : Int)
theorem planMost_eq {V : Int} {nums : List Int} (h : okd V nums) (hn : nums.length ≤ 40) {m : Nat} (hm : m ≤ (above V nums 0 nums.length).length) {k : Nat} (hk : 20000 < k) :
    ∃ B, BD V nums 2 m B ∧ Zal.f k V nums (m : Int) = some (ofn (onesL V nums 2 (B : Int) nums.length), ofn (zerosL V nums 2 (B : Int) nums.length), ((m - (onesL V nums 2 (B : Int) nums.length).length : Nat) : Int)) := by
  have hV := h.1
  have hpl : (above V nums 0 nums.length).length ≤ nums.length := by
    have := List.length_filter_le (fun i => decide (0 < rst V nums i)) (List.range nums.length)
    rwa [List.length_range] at this
  have hbl := bdL_length V nums nums.length
  have hSp : ((bdL V nums nums.length).mergeSort fun x y => decide (x ≤ y)).Perm (bdL V nums nums.length) := List.mergeSort_perm _ _
  have hSo : ((bdL V nums nums.length).mergeSort fun x y => decide (x ≤ y)).Pairwise fun x y => decide (x ≤ y) = true := List.pairwise_mergeSort (fun a b c h1 h2 => by simp at *; omega) (fun a b => by simp; omega) _
  have hSl := hSp.length_eq
  have hSort : slices_Sort_int64_int64.f (bdL V nums nums.length) = some ((bdL V nums nums.length).mergeSort fun x y => decide (x ≤ y)) := by
    unfold slices_Sort_int64_int64.f
    rw [if_pos (by omega)]
  generalize ((bdL V nums nums.length).mergeSort fun x y => decide (x ≤ y)) = S at hSp hSo hSl hSort
  have hSin : ∀ x ∈ S, 0 ≤ x ∧ x ≤ V := fun x hx => bdL_in hV _ x (hSp.mem_iff.1 hx)
  have same : ∀ b : Int, 0 ≤ b → okb V nums 2 m b → ∃ q, ∃ hq : q < S.length, S[q] ≤ b ∧ okb V nums 2 m S[q] := by
    intro b hb hok
    obtain ⟨x, hx, hxb, hmax⟩ := max_below (b := b) (bdL V nums nums.length) ⟨0, bdL_zero _ _ _, hb⟩
    have hxS := hSp.mem_iff.2 hx
    obtain ⟨q, hq, e⟩ := List.mem_iff_getElem.1 hxS
    refine ⟨q, hq, by rw [e]; exact hxb, ?_⟩
    rw [e]
    refine okb_same (fun i hi => ?_) hok
    have hm1 := bdL_mem (V := V) (nums := nums) hi
    have c1 := hmax _ hm1.1
    have c2 := hmax _ hm1.2
    constructor <;> constructor <;> intro _ <;> omega
  have hokV : okb V nums 2 m V := by
    refine ⟨fun _ i hi hc => ?_, ?_, ?_⟩
    · have := rst_in hV nums i; omega
    · rw [onesV hV]; simp
    · rw [onesV hV, zerosV hV]; simpa using hm
  obtain ⟨q0, hq0, _, hokq⟩ := same V (by omega) hokV
  obtain ⟨p, hpq, ⟨hp, hokp⟩, hno⟩ := least_exists (P := fun q => ∃ hq : q < S.length, okb V nums 2 m S[q]) q0 ⟨hq0, hokq⟩
  have hSpin := hSin _ (List.getElem_mem hp)
  have eB : ((S[p].toNat : Nat) : Int) = S[p] := by omega
  refine ⟨S[p].toNat, ⟨by omega, by rw [eB]; exact hokp, fun b hb hok => ?_⟩, ?_⟩
  · obtain ⟨q, hq, hqb, hokq'⟩ := same (b : Int) (by omega) hok
    refine hno q ?_ ⟨hq, hokq'⟩
    rcases Nat.lt_or_ge q p with h1 | h1
    · exact h1
    · exfalso
      rcases Nat.lt_or_ge p q with h2 | h2
      · have := List.pairwise_iff_getElem.1 hSo p q hp hq h2
        rw [decide_eq_true_eq] at this
        omega
      · have : p = q := by omega
        subst this
        omega
  · rw [eB]
    unfold Zal.f
    refine loopIc0 (m := nums.length) 15000 (F := fun k i (s : List Int) => Zal.l0 k (m : Int) s (nums.length : Int) i V nums) (fun i s => s = bdL V nums i) (fun r => r = some (ofn (onesL V nums 2 S[p] nums.length), ofn (zerosL V nums 2 S[p] nums.length), ((m - (onesL V nums 2 S[p] nums.length).length : Nat) : Int))) ?_ ?_ (k := k) (s := [0]) (by omega) rfl
    · rintro k s hk rfl
      simp only [Zal.l0]
      rw [if_neg (by omega), hSort, Option.bind_some, ← hSl]
      exact mostFirst h hn (by omega) hSin (by omega) hp hokp (fun q hq hqp hok => hno q hqp ⟨hq, hok⟩) p 0 k (by omega) (by omega) (by omega)
    · rintro k i s hk hi rfl
      have hr := rst_in hV nums i
      have g := rest_eq h hi
      have hl := bdL_length V nums i
      have hd := h.2.1
      have w1 : wrap64 (V - rst V nums i) = V - rst V nums i := w64 (by omega) (by omega)
      refine .inl ⟨_, rfl, ?_⟩
      simp only [Zal.l0]
      rw [if_pos (by omega), g, Option.bind_some, Option.bind_some, w1, Option.bind_some, if_pos (by clear g w1; simp; omega), wrap_nat (by clear g w1; omega)]
      rfl
theorem BD_unique {V : Int} {nums : List Int} {nm : Int} {m B B' : Nat} (h : BD V nums nm m B) (h' : BD V nums nm m B') : B = B' := by
  rcases Nat.lt_trichotomy B B' with c | c | c
  · exact absurd h.2.1 (h'.2.2 _ c)
  · exact c
  · exact absurd h'.2.1 (h.2.2 _ c)
theorem plan_eq {V : Int} {nums : List Int} (h : okd V nums) (hn : nums.length ≤ 40) {m : Nat} (hm : m ≤ (above V nums 0 nums.length).length) {nm : Int} {k : Nat} (hk : 30000 < k) :
    ∃ B up, BD V nums nm m B ∧ Zay.f k V nums (m : Int) nm = some (ofn up, ofn (zerosL V nums nm (B : Int) nums.length), ((m - (onesL V nums nm (B : Int) nums.length).length : Nat) : Int)) ∧ up.Perm (onesL V nums nm (B : Int) nums.length) := by
  have hV := h.1
  by_cases c : nm = 2
  · subst c
    obtain ⟨B, h1, h2⟩ := planMost_eq h hn hm (k := k) (by omega)
    refine ⟨B, _, h1, ?_, List.Perm.refl _⟩
    unfold Zay.f
    rw [if_pos rfl, h2]
    rfl
  · obtain ⟨up, may, left, e, pl⟩ := planFor_eq h hn hm c hk
    rcases pl with ⟨rfl, rfl, rfl, rfl⟩ | ⟨ed, hed, hup, hmay, hleft, h1, h2⟩
    · have o0 : onesL V nums nm ((0 : Nat) : Int) nums.length = [] := by
        rw [List.filter_eq_nil_iff]
        intro i hi
        have hr := rst_in hV nums i
        rw [decide_eq_true_eq]
        unfold cz
        by_cases c0 : rst V nums i = 0
        · rw [if_pos c0]; decide
        · rw [if_neg c0, if_neg c, if_neg (by omega), if_pos (by omega)]; decide
      have z0 : zerosL V nums nm ((0 : Nat) : Int) nums.length = [] := by
        rw [List.filter_eq_nil_iff]
        intro i hi
        have hr := rst_in hV nums i
        rw [decide_eq_true_eq]
        unfold cz
        by_cases c0 : rst V nums i = 0
        · rw [if_pos c0]; decide
        · rw [if_neg c0, if_neg c, if_neg (by omega), if_pos (by omega)]; decide
      refine ⟨0, [], ⟨by omega, ⟨fun h => absurd h c, by rw [o0]; simp, by omega⟩, fun b hb => by omega⟩, ?_, by rw [o0]⟩
      rw [o0, z0]
      exact e
    · have hlt : ed < V := by
        have hne : 0 < up.length + may.length := by omega
        rcases Nat.eq_zero_or_pos may.length with h0 | h0
        · omega
        · have h3 := List.getElem_mem h0
          generalize may[0] = y at h3
          rw [hmay] at h3
          have h4 := (equal_mem.1 h3).2
          have := rst_in hV nums y
          omega
      have eB : (((V - ed).toNat : Nat) : Int) = V - ed := by omega
      have hcz1 : ∀ i, i < nums.length → (cz V nm (V - ed) (rst V nums i) = 1 ↔ ed < rst V nums i) := by
        intro i hi
        have hr := rst_in hV nums i
        unfold cz
        by_cases c0 : rst V nums i = 0
        · rw [if_pos c0]; constructor
          · intro h; omega
          · intro h; omega
        · rw [if_neg c0, if_neg c]
          by_cases c1 : rst V nums i > V - (V - ed)
          · rw [if_pos c1]; exact ⟨fun _ => by omega, fun _ => rfl⟩
          · rw [if_neg c1]
            constructor
            · intro h; split at h <;> omega
            · intro h; omega
      have hcz0 : ∀ i, i < nums.length → (cz V nm (V - ed) (rst V nums i) = 0 ↔ rst V nums i = ed) := by
        intro i hi
        have hr := rst_in hV nums i
        unfold cz
        by_cases c0 : rst V nums i = 0
        · rw [if_pos c0]; constructor
          · intro h; omega
          · intro h; omega
        · rw [if_neg c0, if_neg c]
          by_cases c1 : rst V nums i > V - (V - ed)
          · rw [if_pos c1]; constructor
            · intro h; omega
            · intro h; omega
          · rw [if_neg c1]
            by_cases c2 : rst V nums i < V - (V - ed)
            · rw [if_pos c2]; constructor
              · intro h; omega
              · intro h; omega
            · rw [if_neg c2]; exact ⟨fun _ => by omega, fun _ => rfl⟩
      have o1 : onesL V nums nm (V - ed) nums.length = above V nums ed nums.length := List.filter_congr fun i hi => decide_eq_decide.2 (hcz1 i (List.mem_range.1 hi))
      have z1 : zerosL V nums nm (V - ed) nums.length = equal V nums ed nums.length := List.filter_congr fun i hi => decide_eq_decide.2 (hcz0 i (List.mem_range.1 hi))
      have hul := hup.length_eq
      have hyl : may.length = (equal V nums ed nums.length).length := by rw [hmay]
      refine ⟨(V - ed).toNat, up, ⟨by omega, by rw [eB]; exact ⟨fun h => absurd h c, by rw [o1]; omega, by rw [o1, z1]; omega⟩, fun b hb hok => ?_⟩, ?_, by rw [eB, o1]; exact hup⟩
      ·
        have hle : (onesL V nums nm (b : Int) nums.length).length + (zerosL V nums nm (b : Int) nums.length).length ≤ (above V nums ed nums.length).length := by
          have gen : ∀ l : List Nat, (l.filter fun i => decide (cz V nm (b : Int) (rst V nums i) = 1)).length + (l.filter fun i => decide (cz V nm (b : Int) (rst V nums i) = 0)).length ≤ (l.filter fun i => decide (ed < rst V nums i)).length := by
            intro l
            induction l with
            | nil => simp
            | cons x xs ih =>
              have hr := rst_in hV nums x
              have key : cz V nm (b : Int) (rst V nums x) = -1 ∨ ed < rst V nums x := by
                unfold cz
                by_cases c0 : rst V nums x = 0
                · rw [if_pos c0]; exact .inl rfl
                · rw [if_neg c0, if_neg c]
                  by_cases c1 : rst V nums x > V - b
                  · exact .inr (by omega)
                  · rw [if_neg c1]
                    by_cases c2 : rst V nums x < V - b
                    · rw [if_pos c2]; exact .inl rfl
                    · exact .inr (by omega)
              rcases key with k1 | k1
              · rw [List.filter_cons_of_neg (by simp; omega), List.filter_cons_of_neg (by simp; omega)]
                by_cases c3 : ed < rst V nums x
                · rw [List.filter_cons_of_pos (by simpa using c3), List.length_cons]; omega
                · rw [List.filter_cons_of_neg (by simpa using c3)]; exact ih
              · rw [List.filter_cons_of_pos (p := fun i => decide (ed < rst V nums i)) (by simpa using k1), List.length_cons]
                by_cases c3 : cz V nm (b : Int) (rst V nums x) = 1
                · rw [List.filter_cons_of_pos (by simpa using c3), List.filter_cons_of_neg (by simp; omega), List.length_cons]; omega
                · rw [List.filter_cons_of_neg (by simpa using c3)]
                  by_cases c4 : cz V nm (b : Int) (rst V nums x) = 0
                  · rw [List.filter_cons_of_pos (by simpa using c4), List.length_cons]; omega
                  · rw [List.filter_cons_of_neg (by simpa using c4)]; omega
          exact gen _
        have := hok.2.2
        omega
      · rw [eB, o1, z1, ← hmay, e]
        congr 3
        omega
end Go.Proofs.Ytgmmfdilfpkbmaa.Q
end
section
namespace Go.Proofs.Ytgmmfdilfpkbmaa.Q
open Go.RowKit Go.Proofs.YtgmmfdilfpkbmaaW.PrintWords Go.Proofs.YtgmmfdilfpkbmaaW.PrintLast Go.Proofs.Ytgmmfdilfpkbmaa.P Go.Proofs.Ytgmmfdilfpkbmaa.B
set_option linter.unusedVariables false
set_option linter.unusedSimpArgs false
theorem cl_fl {a b : Int} (hb : 1 ≤ b) : cl a b = a / b + if 0 < a - b * (a / b) then 1 else 0 := by
  have h1 := ediv_mul_le (a := a) hb
  have h2 := cl_mul (a := a) hb
  have hc := Int.mul_comm b (a / b)
  by_cases c : 0 < a - b * (a / b)
  · rw [if_pos c]
    have h3 : (cl a b - 1) * b < a := by rw [Int.sub_mul]; omega
    have h4 : a / b < cl a b := Int.lt_of_mul_lt_mul_right (a := b) (by omega) (by omega)
    have h5 : cl a b < a / b + 2 := Int.lt_of_mul_lt_mul_right (a := b) (by rw [Int.add_mul]; omega) (by omega)
    omega
  · rw [if_neg c]
    have h4 : a / b ≤ cl a b := Int.le_of_mul_le_mul_right (a := b) (by omega) (by omega)
    have h5 : cl a b < a / b + 1 := Int.lt_of_mul_lt_mul_right (a := b) (by rw [Int.add_mul]; omega) (by omega)
    omega
theorem sum_take : ∀ (l : List Int) (n : Nat) (h : n < l.length), (l.take (n + 1)).sum = (l.take n).sum + l[n]
  | x :: xs, 0, h => by simp
  | x :: xs, n + 1, h => by
    rw [List.take_succ_cons, List.sum_cons, sum_take xs n (by simpa using h), List.take_succ_cons, List.sum_cons]
    simp only [List.getElem_cons_succ]
    omega
theorem cls_sum {V : Int} (hV : 1 ≤ V) (nums : List Int) : ∀ n, n ≤ nums.length → ((cls V nums).take n).sum = ((fls V nums).take n).sum + ((above V nums 0 n).length : Int)
  | 0, _ => by simp [above]
  | n + 1, h => by
    have hn : n < nums.length := h
    rw [sum_take _ n (by rw [cls_length]; exact hn), sum_take _ n (by rw [fls_length]; exact hn), cls_sum hV nums n (by omega)]
    have e1 : (cls V nums)[n]'(by rw [cls_length]; exact hn) = cl nums[n] V := by simp [cls]
    have e2 : (fls V nums)[n]'(by rw [fls_length]; exact hn) = nums[n] / V := by simp [fls]
    have e3 : above V nums 0 (n + 1) = if 0 < rst V nums n then above V nums 0 n ++ [n] else above V nums 0 n := by
      unfold above
      rw [List.range_succ, List.filter_append]
      by_cases c : 0 < rst V nums n
      · rw [if_pos c, List.filter_cons_of_pos (by simpa using c)]; rfl
      · rw [if_neg c, List.filter_cons_of_neg (by simpa using c)]; simp
    rw [e1, e2, e3, cl_fl hV]
    have er : rst V nums n = nums[n] - V * (nums[n] / V) := by unfold rst; rw [rd_nat hn]
    rw [er]
    by_cases c : 0 < nums[n] - V * (nums[n] / V)
    · rw [if_pos c, if_pos c, List.length_append, List.length_cons, List.length_nil]; omega
    · rw [if_neg c, if_neg c]; omega
theorem cls_sum' {V : Int} (hV : 1 ≤ V) (nums : List Int) : (cls V nums).sum = (fls V nums).sum + ((above V nums 0 nums.length).length : Int) := by
  have := cls_sum hV nums nums.length (Nat.le_refl _)
  rwa [List.take_of_length_le (by rw [cls_length]; exact Nat.le_refl _), List.take_of_length_le (by rw [fls_length]; exact Nat.le_refl _)] at this
open Classical in
noncomputable def BDof (V : Int) (nums : List Int) (nm : Int) (m : Nat) : Nat := if h : ∃ B, BD V nums nm m B then Classical.choose h else 0
theorem BDof_eq {V : Int} {nums : List Int} {nm : Int} {m B : Nat} (h : BD V nums nm m B) : BDof V nums nm m = B := by
  have hx : ∃ B, BD V nums nm m B := ⟨B, h⟩
  unfold BDof
  rw [dif_pos hx]
  exact BD_unique (Classical.choose_spec hx) h
noncomputable def frees (V : Int) (nums : List Int) (nm : Int) (m : Nat) : Nat := (zerosL V nums nm (BDof V nums nm m : Int) nums.length).length
noncomputable def lefts (V : Int) (nums : List Int) (nm : Int) (m : Nat) : Nat := m - (onesL V nums nm (BDof V nums nm m : Int) nums.length).length
noncomputable def bestL (V : Int) (nums : List Int) (nm : Int) (m : Nat) : List Int := incs (fls V nums) (onesL V nums nm (BDof V nums nm m : Int) nums.length ++ (zerosL V nums nm (BDof V nums nm m : Int) nums.length).drop (frees V nums nm m - lefts V nums nm m))
theorem bestImpl {V : Int} {nums : List Int} (h : okd V nums) (hn : nums.length ≤ 40) {m : Nat} (hm : m ≤ (above V nums 0 nums.length).length) {nm : Int} {k : Nat} (hk : 30000 < k) :
    ∃ up, Zay.f k V nums (m : Int) nm = some (ofn up, ofn (zerosL V nums nm (BDof V nums nm m : Int) nums.length), (lefts V nums nm m : Int)) ∧ Zax.f k (ofn up) (ofn (zerosL V nums nm (BDof V nums nm m : Int) nums.length)) (lefts V nums nm m : Int) V nums = some (bestL V nums nm m) ∧ lefts V nums nm m ≤ frees V nums nm m ∧ frees V nums nm m ≤ 40 := by
  obtain ⟨B, up, hB, e, hp⟩ := plan_eq h hn hm (nm := nm) hk
  have hD := BDof_eq hB
  have ho := onesL_le V nums nm (B : Int) nums.length
  have hz := zerosL_le V nums nm (B : Int) nums.length
  have hl := hp.length_eq
  have h2 := hB.2.1.2
  unfold bestL lefts frees
  rw [hD]
  refine ⟨up, e, ?_, by omega, by omega⟩
  rw [rounding_eq h hn (fun i hi => (onesL_mem.1 (hp.mem_iff.1 hi)).1) (fun i hi => (zerosL_mem.1 hi).1) (by omega) (by omega) (by omega) (by omega)]
  congr 1
  have hp2 := hp.append_right ((zerosL V nums nm (B : Int) nums.length).drop ((zerosL V nums nm (B : Int) nums.length).length - (m - (onesL V nums nm (B : Int) nums.length).length)))
  exact incs_perm hp2 (hp2.nodup_iff.2 (pick_nodup ..)) (fun q hq => by rw [fls_length]; exact pick_lt (hp2.mem_iff.1 hq))
def cnt (c : Nat) : Int × Bool := if (c : Int) > 1000000 then (0, false) else ((c : Int), true)
end Go.Proofs.Ytgmmfdilfpkbmaa.Q
end
section
namespace Go.Proofs.Ytgmmfdilfpkbmaa.Q
open Go.RowKit Go.Proofs.YtgmmfdilfpkbmaaW.PrintWords Go.Proofs.YtgmmfdilfpkbmaaW.PrintLast Go.Proofs.Ytgmmfdilfpkbmaa.P Go.Proofs.Ytgmmfdilfpkbmaa.B
set_option linter.unusedVariables false
set_option linter.unusedSimpArgs false
def dv (m k : Int) : Int := if m = 0 then 4 * k * k else if m = 1 then 4 * k * (k + 1) else if m = 2 then (2 * k + 1) * (2 * k + 1) else 4 * (k + 1) * (k + 1)
def cs (m v k w l : Int) : Int := if v = 0 ∨ w = 0 then (v - w).sign else if dv m k = 0 ∧ dv m l = 0 then (v - w).sign else if dv m k = 0 ∨ dv m l = 0 then (dv m l - dv m k).sign else (v * v * dv m l - w * w * dv m k).sign
end Go.Proofs.Ytgmmfdilfpkbmaa.Q
end
section
namespace Go.Proofs.Ytgmmfdilfpkbmaa.Q
open Go.RowKit Go.Proofs.YtgmmfdilfpkbmaaW.PrintWords Go.Proofs.YtgmmfdilfpkbmaaW.PrintLast Go.Proofs.Ytgmmfdilfpkbmaa.P Go.Proofs.Ytgmmfdilfpkbmaa.B
set_option linter.unusedVariables false
set_option linter.unusedSimpArgs false
def cc (m v : Int) : Int := if m = 0 then v else if m = 1 then v * v else if m = 2 then 2 * v else v
abbrev kin (k : Int) : Prop := 0 ≤ k ∧ k ≤ 102
def aok (votes a : List Int) : Prop := a.length = votes.length ∧ ∀ x ∈ a, kin x
theorem aok.rd {votes a : List Int} (h : aok votes a) {i : Nat} (hi : i < votes.length) : kin (rd a i) := by
  rw [rd_nat (by rw [h.1]; exact hi)]
  exact h.2 _ (List.getElem_mem _)
theorem vt_len {votes : List Int} (h : vt votes = true) : 0 < votes.length ∧ votes.length ≤ 12 := by have := (vt_iff.1 h).1; omega
end Go.Proofs.Ytgmmfdilfpkbmaa.Q
end
section
namespace Go.Proofs.Ytgmmfdilfpkbmaa.Q
open Go.RowKit Go.Proofs.YtgmmfdilfpkbmaaW.PrintWords Go.Proofs.YtgmmfdilfpkbmaaW.PrintLast Go.Proofs.Ytgmmfdilfpkbmaa.P Go.Proofs.Ytgmmfdilfpkbmaa.B
set_option linter.unusedVariables false
set_option linter.unusedSimpArgs false
abbrev by8 (l : List Int) : Prop := ∀ x ∈ l, 0 ≤ x ∧ x ≤ 255
theorem and255 {x : Int} (h : 0 ≤ x) (h2 : x < 18446744073709551616) : Go.bits .and .u64 x 255 = x % 256 :=
  bits_mask .u64 64 (by decide) (fun n h₀ h₁ => by rw [IntKind.wrap_u64]; omega) 8 (by decide) x h h2
theorem top_byte (z : Int) : 0 ≤ wrap64 (Go.bits .and .u64 (IntKind.u64.wrap z / 1099511627776) 255) ∧ wrap64 (Go.bits .and .u64 (IntKind.u64.wrap z / 1099511627776) 255) ≤ 255 := by
  have h : 0 ≤ IntKind.u64.wrap z ∧ IntKind.u64.wrap z < 18446744073709551616 := by rw [IntKind.wrap_u64]; omega
  generalize IntKind.u64.wrap z = y at h ⊢
  rw [and255 (by omega) (by omega), w64 (by omega) (by omega)]
  omega
theorem next_ok {l : List Int} {at' seed : Int} (hl : by8 l) (h : 0 ≤ at' ∧ at' ≤ 1000000000000000000) : ∃ x s, spec_l00Src_next.f l at' seed = some (x, at' + 1, s) ∧ 0 ≤ x ∧ x ≤ 255 := by
  obtain ⟨n, rfl⟩ : ∃ n : Nat, at' = n := ⟨at'.toNat, by omega⟩
  unfold spec_l00Src_next.f
  rw [w64 (x := (n : Int) + 1) (by omega) (by omega)]
  by_cases c : (n : Int) < (l.length : Int)
  · rw [if_pos c, if_pos (by omega), if_pos (by omega)]
    have hx := hl _ (rd_mem (l := l) (n := n) (by omega))
    exact ⟨_, _, rfl, by rw [w64 (by omega) (by omega)]; omega, by rw [w64 (by omega) (by omega)]; omega⟩
  · rw [if_neg c, if_neg (by omega)]
    exact ⟨_, _, rfl, top_byte _⟩
theorem pick_ok {l : List Int} {at' seed n : Int} (hl : by8 l) (h : 0 ≤ at' ∧ at' ≤ 100000000000000000) (hn : n ≤ 60000) : ∃ x a s, spec_l00Src_pick.f l at' seed n = some (x, a, s) ∧ (0 ≤ x ∧ (x < n ∨ x = 0)) ∧ at' ≤ a ∧ a ≤ at' + 2 := by
  unfold spec_l00Src_pick.f
  by_cases c : n ≤ 1
  · rw [if_pos c]; exact ⟨0, at', seed, rfl, by omega, by omega, by omega⟩
  · obtain ⟨x, s, e, hx⟩ := next_ok (seed := seed) hl (show 0 ≤ at' ∧ at' ≤ 1000000000000000000 by omega)
    rw [if_neg c, e, Option.bind_some]
    by_cases c2 : n > 200
    · obtain ⟨y, s2, e2, hy⟩ := next_ok (seed := s) hl (show 0 ≤ at' + 1 ∧ at' + 1 ≤ 1000000000000000000 by omega)
      rw [if_pos c2, e2, Option.bind_some, if_neg (by omega), w64 (x := x * 256) (by omega) (by omega), w64 (x := x * 256 + y) (by omega) (by omega), Int.tmod_eq_emod_of_nonneg (by omega)]
      exact ⟨_, _, _, rfl, ⟨Int.emod_nonneg _ (by omega), .inl (Int.emod_lt_of_pos _ (by omega))⟩, by simp only; omega, by simp only; omega⟩
    · rw [if_neg c2, if_neg (by omega), Int.tmod_eq_emod_of_nonneg (by omega)]
      exact ⟨_, _, _, rfl, ⟨Int.emod_nonneg _ (by omega), .inl (Int.emod_lt_of_pos _ (by omega))⟩, by simp only; omega, by simp only; omega⟩
theorem r8At_ok {l : List Int} {i n : Int} (hl : by8 l) (hi : 0 ≤ i) (hn : 1 ≤ n) : ∃ x, laws_r8At.f l i n = some x ∧ 0 ≤ x ∧ x < n := by
  unfold laws_r8At.f
  by_cases c : n ≤ 1
  · rw [if_pos c]; exact ⟨0, rfl, by omega, by omega⟩
  · rw [if_neg c]
    by_cases c2 : i ≥ (l.length : Int)
    · rw [if_pos c2]; exact ⟨0, rfl, by omega, by omega⟩
    · obtain ⟨j, rfl⟩ : ∃ j : Nat, i = j := ⟨i.toNat, by omega⟩
      have hx := hl _ (rd_mem (l := l) (n := j) (by omega))
      rw [if_neg c2, if_pos hi, if_pos (by omega), if_neg (by omega), w64 (by omega) (by omega), Int.tmod_eq_emod_of_nonneg (by omega)]
      exact ⟨_, rfl, Int.emod_nonneg _ (by omega), Int.emod_lt_of_pos _ (by omega)⟩
theorem r8Long_ok (l m : List Int) : ∃ b, laws_r8Long.f l m = some b := by
  unfold laws_r8Long.f
  split
  · exact ⟨_, rfl⟩
  · exact ⟨_, rfl⟩
def vd (votes : List Int) : Prop := vt votes = true ∧ ∀ x ∈ votes, x ≤ 30
theorem vd_cons {a : Int} {r : List Int} (ha : 1 ≤ a ∧ a ≤ 30) (hr : ∀ x ∈ r, 0 ≤ x ∧ x ≤ 30) (hl : r.length ≤ 11) : vd (a :: r) := by
  refine ⟨vt_iff.2 ⟨by rw [List.length_cons]; omega, fun x hx => ?_, ?_⟩, fun x hx => ?_⟩
  · rcases List.mem_cons.1 hx with rfl | h
    · omega
    · have := hr x h; omega
  · have := sum_nonneg fun x hx => (hr x hx).1
    rw [List.sum_cons]; omega
  · rcases List.mem_cons.1 hx with rfl | h
    · omega
    · have := hr x h; omega
theorem r8Votes_loop {l : List Int} (hl : by8 l) : ∀ (n k : Nat) (a at' seed : Int) (r : List Int), n < k → 1 ≤ a ∧ a ≤ 30 → (∀ x ∈ r, 0 ≤ x ∧ x ≤ 30) → r.length + n ≤ 11 → 0 ≤ at' ∧ at' + 2 * n ≤ 10000 →
    ∃ votes, spec_R8Votes.l0 k (a :: r) n l at' seed = some votes ∧ vd votes
  | 0, k, a, at', seed, r, hk, ha, hr, hn, hat => by
    obtain ⟨k, rfl, _⟩ := Za6 hk
    simp only [spec_R8Votes.l0]
    rw [if_neg (by omega)]
    exact ⟨_, rfl, vd_cons ha hr (by omega)⟩
  | n + 1, k, a, at', seed, r, hk, ha, hr, hn, hat => by
    obtain ⟨k, rfl, _⟩ := Za6 hk
    obtain ⟨x, b, s, e, hx, hb⟩ := pick_ok (seed := seed) (n := 30) hl (show 0 ≤ at' ∧ at' ≤ 100000000000000000 by omega) (by omega)
    simp only [spec_R8Votes.l0]
    rw [if_pos (by omega), e, Option.bind_some, if_pos (by simp only [List.length_cons]; omega), w64 (by omega) (by omega), show ((n + 1 : Nat) : Int) - 1 = (n : Int) by omega]
    exact r8Votes_loop hl n k a b s (r ++ [x]) (by omega) ha (fun y hy => by
      rcases List.mem_append.1 hy with h | h
      · exact hr y h
      · rw [List.mem_singleton.1 h]; omega) (by simp; omega) (by omega)
theorem r8Votes_ok {l : List Int} (hl : by8 l) {k : Nat} (hk : 20 < k) : ∃ votes, spec_R8Votes.f k l = some votes ∧ vd votes := by
  unfold spec_R8Votes.f spec_l00From.f
  obtain ⟨x, b, s, e, hx, hb⟩ := pick_ok (at' := 0) (seed := 0) (n := 30) hl (by omega) (by omega)
  obtain ⟨y, b2, s2, e2, hy, hb2⟩ := pick_ok (at' := b) (seed := s) (n := 5) hl (by omega) (by omega)
  rw [Option.bind_some, e, Option.bind_some, e2, Option.bind_some, w64 (by omega) (by omega)]
  obtain ⟨n, rfl⟩ : ∃ n : Nat, y = n := ⟨y.toNat, by omega⟩
  exact r8Votes_loop hl n k (1 + x) b2 s2 [] (by omega) (by omega) (by simp) (by simp; omega) (by omega)
end Go.Proofs.Ytgmmfdilfpkbmaa.Q
end
