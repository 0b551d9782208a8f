import Derived.Test.YtgmmfdilfpkbmaaXV1FnExactPercentsOf
import Derived.Test.YtgmmfdilfpkbmaaXP13FnExactPercentsOf
import Derived.Test.YtgmmfdilfpkbmaaXP15FnExactPercentsOf
import Derived.Test.YtgmmfdilfpkbmaaXP16FnExactPercentsOf
import Derived.Test.YtgmmfdilfpkbmaaXP10FnExactPercentsOf
import Derived.Test.YtgmmfdilfpkbmaaXP17FnExactPercentsOf
import Derived.Test.YtgmmfdilfpkbmaaXP18FnExactPercentsOf
import Derived.Test.YtgmmfdilfpkbmaaXP20FnExactPercentsOf
import Derived.Test.YtgmmfdilfpkbmaaXLFnExactPercentsOf
import Derived.Test.YtgmmfdilfpkbmaaXP11FnExactPercentsOf
import Derived.Test.YtgmmfdilfpkbmaaXP19FnExactPercentsOf
import Derived.Test.YtgmmfdilfpkbmaaXP21FnExactPercentsOf
section
namespace Go.Proofs.Ytgmmfdilfpkbmaa.Q
open Go.RowKit Go.Proofs.YtgmmfdilfpkbmaaW.PrintWords Go.Proofs.YtgmmfdilfpkbmaaW.PrintLast Go.Proofs.Ytgmmfdilfpkbmaa.P Go.Proofs.Ytgmmfdilfpkbmaa.B
set_option linter.unusedVariables false
set_option linter.unusedSimpArgs false
theorem insTop {V : Int} {nums : List Int} (h : okd V nums) {A S B : List Nat} (hl : A.length + S.length + B.length ≤ 100) (hS : S.Pairwise (· < ·)) (hb : ∀ y ∈ S, y < nums.length) {a b : Int} (ha : a = A.length) (hb2 : b = (A.length + S.length : Nat)) {k : Nat} (hk : 10500 < k) :
    ∃ σ, Zaf.f k (ofn (A ++ S ++ B)) a b V nums = some (ofn (A ++ σ ++ B)) ∧ σ.Pairwise (lq V nums) ∧ σ.Perm S := by
  subst ha hb2
  have h2 : S.length * (S.length + 3) ≤ 100 * 103 := Nat.mul_le_mul (by omega) (by omega)
  exact insSeg_eq h (by omega) hS hb (by omega)
set_option maxRecDepth 100000 in
theorem stable40 {V : Int} {nums : List Int} (h : okd V nums) {S : List Nat} (hS : S.Pairwise (· < ·)) (hb : ∀ y ∈ S, y < nums.length) (hl : S.length ≤ 40) {k : Nat} (hk : 20000 < k) :
    ∃ M, slices_SortStableFunc_int_int_planFor_1.f k (ofn S) V nums = some (ofn M) ∧ M.Pairwise (lq V nums) ∧ M.Perm S := by
  unfold slices_SortStableFunc_int_int_planFor_1.f Zak.f
  rw [ofn_len]
  have w1 : wrap64 (20 + 20) = 40 := by unfold wrap64; omega
  have w2 : wrap64 (40 + 20) = 60 := by unfold wrap64; omega
  have w3 : wrap64 (2 * 20) = 40 := by unfold wrap64; omega
  have w4 : wrap64 (20 * 2) = 40 := by unfold wrap64; omega
  have w5 : wrap64 (0 + 20) = 20 := by unfold wrap64; omega
  have w6 : wrap64 (40 + 40) = 80 := by unfold wrap64; omega
  obtain ⟨k, rfl, _⟩ := Za6 hk
  by_cases c : S.length < 20
  · have n1 : ¬ (20 : Int) ≤ (S.length : Int) := by clear w1 w2 w3 w4 w5 w6; omega
    have n2 : ¬ (20 : Int) < (S.length : Int) := by clear w1 w2 w3 w4 w5 w6; omega
    obtain ⟨σ, e, p1, p2⟩ := insTop h (A := []) (S := S) (B := []) (a := 0) (b := (S.length : Int)) (by clear w1 w2 w3 w4 w5 w6; simp; omega) hS hb rfl (by simp) (k := k) (by clear w1 w2 w3 w4 w5 w6; omega)
    simp only [List.nil_append, List.append_nil] at e
    simp only [Zak.l0]
    rw [if_neg n1, e, Option.bind_some]
    obtain ⟨k, rfl, _⟩ := Za6 (show 100 < k by clear w1 w2 w3 w4 w5 w6 e; omega)
    simp only [Zak.l1]
    rw [if_neg n2]
    exact ⟨σ, rfl, p1, p2⟩
  · have eS := List.take_append_drop 20 S
    have l1 : (S.take 20).length = 20 := by rw [List.length_take]; omega
    have l2 : (S.drop 20).length = S.length - 20 := List.length_drop ..
    have hS' := hS
    rw [← eS, List.pairwise_append] at hS'
    have hb1 : ∀ y ∈ S.take 20, y < nums.length := fun y hy => hb y (List.mem_of_mem_take hy)
    have hb2 : ∀ y ∈ S.drop 20, y < nums.length := fun y hy => hb y (List.mem_of_mem_drop hy)
    have hS1 := hS'.1
    have hS2 := hS'.2.1
    have hS3 := hS'.2.2
    generalize hU : S.take 20 = U at *
    generalize hW : S.drop 20 = W at *
    have n1 : (20 : Int) ≤ (S.length : Int) := by clear w1 w2 w3 w4 w5 w6; omega
    obtain ⟨σ1, e1, p1, p2⟩ := insTop h (A := []) (S := U) (B := W) (a := 0) (b := 20) (by clear w1 w2 w3 w4 w5 w6; simp; omega) hS1 hb1 rfl (by rw [l1]; rfl) (k := k) (by clear w1 w2 w3 w4 w5 w6; omega)
    have q2 := p2.length_eq
    simp only [List.nil_append] at e1
    rw [eS] at e1
    have b1 : 10500 < k - 1 ∧ 10500 < k - 2 ∧ 100 < k := by clear w1 w2 w3 w4 w5 w6 e1; omega
    obtain ⟨σ2, e2, p3, p4⟩ := insTop h (A := σ1) (S := W) (B := []) (a := 20) (b := (S.length : Int)) (by clear w1 w2 w3 w4 w5 w6 e1; simp; omega) hS2 hb2 (by clear w1 w2 w3 w4 w5 w6 e1; omega) (by clear w1 w2 w3 w4 w5 w6 e1; omega) (k := k - 1) b1.1
    simp only [List.append_nil] at e2
    have q4 := p4.length_eq
    have main : ∀ k, 9000 < k → ∃ M, Zak.l1 k (ofn (σ1 ++ σ2)) (S.length : Int) 20 V nums = some (ofn M) ∧ M.Pairwise (lq V nums) ∧ M.Perm S := by
      intro k hk
      obtain ⟨k, rfl, _⟩ := Za6 hk
      simp only [Zak.l1]
      rcases Nat.eq_zero_or_pos W.length with h0 | h0
      · have n2 : ¬ (20 : Int) < (S.length : Int) := by clear w1 w2 w3 w4 w5 w6 e1 e2; omega
        have hW0 : W = [] := List.eq_nil_of_length_eq_zero h0
        have h3 : σ2 = [] := List.eq_nil_of_length_eq_zero (by omega)
        rw [if_neg n2]
        refine ⟨σ1, by rw [h3, List.append_nil], p1, ?_⟩
        rw [← eS, hW0, List.append_nil]
        exact p2
      · have n2 : (20 : Int) < (S.length : Int) := by clear w1 w2 w3 w4 w5 w6 e1 e2; omega
        rw [if_pos n2, w3]
        obtain ⟨k, rfl, _⟩ := Za6 (show 8000 < k by clear w1 w2 w3 w4 w5 w6 e1 e2; omega)
        obtain ⟨k, rfl, _⟩ := Za6 (show 7900 < k by clear w1 w2 w3 w4 w5 w6 e1 e2; omega)
        have cross : ∀ x ∈ σ1, ∀ y ∈ σ2, x < y := fun x hx y hy => hS3 x (p2.mem_iff.1 hx) y (p4.mem_iff.1 hy)
        have lσ : σ1.length + σ2.length ≤ 40 := by clear w1 w2 w3 w4 w5 w6 e1 e2; omega
        have sm : ∀ k, 7850 < k → ∃ M, Zaa.f k (ofn (σ1 ++ σ2)) 0 20 (S.length : Int) V nums = some (ofn M) ∧ M.Pairwise (lq V nums) ∧ M.Perm (σ1 ++ σ2) := by
          intro k hk
          obtain ⟨M, e, r1, r2⟩ := sym_eq h 40 σ1 σ2 [] [] k lσ (by omega) (by omega) p1 p3 cross (fun y hy => hb2 y (p4.mem_iff.1 hy)) (by simp; omega) (by omega)
          simp only [List.nil_append, List.append_nil, List.length_nil, Nat.zero_add] at e
          rw [show ((0 : Nat) : Int) = 0 from rfl, q2, l1, show ((20 : Nat) : Int) = 20 from rfl, show 20 + σ2.length = S.length by omega] at e
          exact ⟨M, e, r1, r2⟩
        have perm : ∀ M : List Nat, M.Perm (σ1 ++ σ2) → M.Perm S := fun M hM => hM.trans ((p2.append p4).trans (by rw [eS]))
        by_cases c40 : S.length = 40
        · obtain ⟨M, e, r1, r2⟩ := sm (k + 1) (by clear w1 w2 w3 w4 w5 w6 e1 e2; omega)
          have n3 : (40 : Int) ≤ (S.length : Int) := by clear w1 w2 w3 w4 w5 w6 e1 e2 e; omega
          have n4 : ¬ (80 : Int) ≤ (S.length : Int) := by clear w1 w2 w3 w4 w5 w6 e1 e2 e; omega
          have n5 : ¬ (60 : Int) < (S.length : Int) := by clear w1 w2 w3 w4 w5 w6 e1 e2 e; omega
          have n6 : ¬ (40 : Int) < (S.length : Int) := by clear w1 w2 w3 w4 w5 w6 e1 e2 e; omega
          rw [show (S.length : Int) = 40 by rw [c40]; rfl] at e n3 n4 n5 n6 ⊢
          rw [Zak.l2, if_pos n3, w5, e, Option.bind_some, w3, w6, Zak.l2, if_neg n4, w2, if_neg n5, w4]
          obtain ⟨k, rfl, _⟩ := Za6 (show 100 < k by clear w1 w2 w3 w4 w5 w6 e1 e2 e; omega)
          rw [Zak.l1, if_neg n6]
          exact ⟨M, rfl, r1, perm M r2⟩
        · obtain ⟨M, e, r1, r2⟩ := sm (k + 1) (by clear w1 w2 w3 w4 w5 w6 e1 e2; omega)
          have n3 : ¬ (40 : Int) ≤ (S.length : Int) := by clear w1 w2 w3 w4 w5 w6 e1 e2 e; omega
          have n6 : ¬ (40 : Int) < (S.length : Int) := by clear w1 w2 w3 w4 w5 w6 e1 e2 e; omega
          rw [Zak.l2, if_neg n3, w5, if_pos n2, e, Option.bind_some, w4, Zak.l1, if_neg n6]
          exact ⟨M, rfl, r1, perm M r2⟩
    simp only [Zak.l0]
    rw [if_pos n1, e1, Option.bind_some, w1]
    obtain ⟨k, rfl, _⟩ := Za6 (show 19000 < k by clear w1 w2 w3 w4 w5 w6 e1 e2; omega)
    rw [Nat.add_sub_cancel] at e2
    by_cases c40 : S.length = 40
    · have n3 : (40 : Int) ≤ (S.length : Int) := by clear w1 w2 w3 w4 w5 w6 e1 e2; omega
      have n4 : ¬ (60 : Int) ≤ (S.length : Int) := by clear w1 w2 w3 w4 w5 w6 e1 e2; omega
      have e3 : (S.length : Int) = 40 := by rw [c40]; rfl
      obtain ⟨k, rfl, _⟩ := Za6 (show 18000 < k by clear w1 w2 w3 w4 w5 w6 e1 e2; omega)
      obtain ⟨σ3, e5, p5, p6⟩ := insTop h (A := σ1 ++ σ2) (S := []) (B := []) (a := 40) (b := 40) (by clear w1 w2 w3 w4 w5 w6 e1 e2; simp; omega) List.Pairwise.nil (by simp) (by clear w1 w2 w3 w4 w5 w6 e1 e2; simp only [List.length_append]; omega) (by clear w1 w2 w3 w4 w5 w6 e1 e2; simp only [List.length_append, List.length_nil]; omega) (k := k) (by clear w1 w2 w3 w4 w5 w6 e1 e2; omega)
      rw [List.Perm.eq_nil p6] at e5
      simp only [List.append_nil] at e5
      rw [e3] at n3 n4 e2 main ⊢
      obtain ⟨M, e6, r1, r2⟩ := main k (by clear w1 w2 w3 w4 w5 w6 e1 e2 e5; omega)
      simp only [Zak.l0]
      rw [if_pos n3, e2, Option.bind_some, w2, if_neg n4, e5, Option.bind_some, e6]
      exact ⟨M, rfl, r1, r2⟩
    · have n3 : ¬ (40 : Int) ≤ (S.length : Int) := by clear w1 w2 w3 w4 w5 w6 e1 e2; omega
      obtain ⟨M, e6, r1, r2⟩ := main k (by clear w1 w2 w3 w4 w5 w6 e1 e2; omega)
      simp only [Zak.l0]
      rw [if_neg n3, e2, Option.bind_some, e6]
      exact ⟨M, rfl, r1, r2⟩
end Go.Proofs.Ytgmmfdilfpkbmaa.Q
end
section
namespace Go.Proofs.Ytgmmfdilfpkbmaa.Q
open Go.RowKit Go.Proofs.YtgmmfdilfpkbmaaW.PrintWords Go.Proofs.YtgmmfdilfpkbmaaW.PrintLast Go.Proofs.Ytgmmfdilfpkbmaa.P Go.Proofs.Ytgmmfdilfpkbmaa.B
set_option linter.unusedVariables false
set_option linter.unusedSimpArgs false
theorem rst_in {V : Int} (hV : 1 ≤ V) (nums : List Int) (i : Nat) : 0 ≤ rst V nums i ∧ rst V nums i < V := by
  unfold rst
  have := ediv_mul_le (a := rd nums i) hV
  have hc := Int.mul_comm V (rd nums i / V)
  omega
abbrev above (V : Int) (nums : List Int) (e : Int) (n : Nat) : List Nat := (List.range n).filter fun i => decide (e < rst V nums i)
abbrev equal (V : Int) (nums : List Int) (e : Int) (n : Nat) : List Nat := (List.range n).filter fun i => decide (rst V nums i = e)
theorem range_lt (n : Nat) : (List.range n).Pairwise (· < ·) := List.pairwise_lt_range
theorem above_lt {V : Int} {nums : List Int} {e : Int} {n : Nat} : (above V nums e n).Pairwise (· < ·) := (range_lt n).filter _
theorem above_mem {V : Int} {nums : List Int} {e : Int} {n i : Nat} : i ∈ above V nums e n ↔ i < n ∧ e < rst V nums i := by simp [above]
theorem equal_mem {V : Int} {nums : List Int} {e : Int} {n i : Nat} : i ∈ equal V nums e n ↔ i < n ∧ rst V nums i = e := by simp [equal]
theorem equal_pw {V : Int} {nums : List Int} {e : Int} {n : Nat} : (equal V nums e n).Pairwise (lq V nums) := by
  have h : (equal V nums e n).Pairwise (· < ·) := (range_lt n).filter _
  refine List.Pairwise.imp_of_mem (fun {a b} ha hb hab => ?_) h
  exact .inr ⟨(equal_mem.1 ha).2.trans (equal_mem.1 hb).2.symm, hab⟩
def PL (V : Int) (nums : List Int) (m : Nat) (up may : List Nat) (left : Nat) : Prop :=
  (m = 0 ∧ up = [] ∧ may = [] ∧ left = 0) ∨ ∃ e, 0 < e ∧ up.Perm (above V nums e nums.length) ∧ may = equal V nums e nums.length ∧ left + up.length = m ∧ up.length < m ∧ m ≤ up.length + may.length
theorem edge_counts {V : Int} {nums : List Int} {M : List Nat} (hM : M.Pairwise (lq V nums)) {m : Nat} (h1 : 1 ≤ m) (h2 : m ≤ M.length) {e : Int} (he : e = rst V nums (M[m - 1]'(by omega))) :
    (M.filter fun i => decide (e < rst V nums i)).length < m ∧ m ≤ (M.filter fun i => decide (e < rst V nums i)).length + (M.filter fun i => decide (rst V nums i = e)).length := by
  have hlow : ∀ x ∈ M.drop (m - 1), ¬ e < rst V nums x := by
    intro x hx
    obtain ⟨t, ht, rfl⟩ := List.mem_iff_getElem.1 hx
    rw [List.length_drop] at ht
    rw [List.getElem_drop]
    rcases Nat.eq_zero_or_pos t with h | h
    · have : m - 1 + t = m - 1 := by omega
      simp only [this]; omega
    · have := pw_get hM (i := m - 1) (j := m - 1 + t) (by omega) (by omega) (by omega)
      unfold lq at this; omega
  have hhigh : ∀ x ∈ M.take m, e < rst V nums x ∨ rst V nums x = e := by
    intro x hx
    obtain ⟨t, ht, rfl⟩ := List.mem_iff_getElem.1 hx
    rw [List.length_take] at ht
    rw [List.getElem_take]
    rcases Nat.lt_or_ge t (m - 1) with h | h
    · have := pw_get hM (i := t) (j := m - 1) (by omega) (by omega) h
      unfold lq at this; omega
    · have : t = m - 1 := by omega
      simp only [this]; omega
  constructor
  · have e1 : M.filter (fun i => decide (e < rst V nums i)) = (M.take (m - 1)).filter fun i => decide (e < rst V nums i) := by
      conv => lhs; rw [← List.take_append_drop (m - 1) M]
      have hnil : (M.drop (m - 1)).filter (fun i => decide (e < rst V nums i)) = [] := List.filter_eq_nil_iff.2 (fun x hx => by simpa using hlow x hx)
      rw [List.filter_append, hnil, List.append_nil]
    rw [e1]
    have := List.length_filter_le (fun i => decide (e < rst V nums i)) (M.take (m - 1))
    rw [List.length_take] at this
    omega
  · have e2 : ∀ l : List Nat, (∀ x ∈ l, e < rst V nums x ∨ rst V nums x = e) → l.length = (l.filter fun i => decide (e < rst V nums i)).length + (l.filter fun i => decide (rst V nums i = e)).length := by
      intro l
      induction l with
      | nil => intro _; rfl
      | cons x xs ih =>
        intro hx
        have h0 := hx x (List.mem_cons_self ..)
        have := ih (fun y hy => hx y (List.mem_cons_of_mem _ hy))
        by_cases c : e < rst V nums x
        · rw [List.filter_cons_of_pos (by simpa using c), List.filter_cons_of_neg (by simp; omega), List.length_cons, List.length_cons]; omega
        · rw [List.filter_cons_of_neg (by simpa using c), List.filter_cons_of_pos (by simp; omega), List.length_cons, List.length_cons]; omega
    have h3 := e2 _ hhigh
    rw [List.length_take, Nat.min_eq_left h2] at h3
    have h4 := ((List.take_sublist m M).filter fun i => decide (e < rst V nums i)).length_le
    have h5 := ((List.take_sublist m M).filter fun i => decide (rst V nums i = e)).length_le
    omega
theorem filt_step {M : List Nat} (p : Nat → Bool) {i : Nat} (hi : i < M.length) : (M.take (i + 1)).filter p = if p M[i] = true then (M.take i).filter p ++ [M[i]] else (M.take i).filter p := by
  rw [List.take_add_one, List.getElem?_eq_getElem hi, Option.toList_some, List.filter_append]
  by_cases c : p M[i] = true
  · rw [if_pos c, List.filter_cons_of_pos c]; rfl
  · rw [if_neg c, List.filter_cons_of_neg c]; simp
theorem ofn_app (l : List Nat) (x : Nat) : ofn l ++ [(x : Int)] = ofn (l ++ [x]) := by simp [ofn]
theorem planLoop {V : Int} {nums : List Int} (h : okd V nums) {M : List Nat} (hb : ∀ y ∈ M, y < nums.length) (hl : M.length ≤ 1000) (e : Int) {m : Nat} (hm : m ≤ 1000) {k : Nat} (hk : M.length + 10 < k) (hlt : (M.filter fun i => decide (e < rst V nums i)).length ≤ m) :
    Za1.l1 k e (ofn M) (M.length : Int) 0 V nums [] [] (m : Int) = some (ofn (M.filter fun i => decide (e < rst V nums i)), ofn (M.filter fun i => decide (rst V nums i = e)), ((m - (M.filter fun i => decide (e < rst V nums i)).length : Nat) : Int)) := by
  refine loopI0 (m := M.length) (F := fun k i (s : List Int × List Int × Int) => Za1.l1 k e (ofn M) (M.length : Int) i V nums s.1 s.2.1 s.2.2)
    (fun i s => s = (ofn ((M.take i).filter fun i => decide (e < rst V nums i)), ofn ((M.take i).filter fun i => decide (rst V nums i = e)), (m : Int) - (((M.take i).filter fun i => decide (e < rst V nums i)).length : Int)))
    (fun r => r = some (ofn (M.filter fun i => decide (e < rst V nums i)), ofn (M.filter fun i => decide (rst V nums i = e)), ((m - (M.filter fun i => decide (e < rst V nums i)).length : Nat) : Int))) ?_ ?_ (k := k) (s := ([], [], (m : Int))) (by omega) (by simp)
  · rintro k s rfl
    simp only [Za1.l1]
    rw [if_neg (by omega), List.take_length]
    congr 3
    omega
  · rintro k i s hi rfl
    have hMi := hb _ (List.getElem_mem hi)
    have g : rd (ofn M) (i : Int) = (M[i] : Int) := rd_ofn hi
    have r1 := rest_eq h hMi
    have f1 := filt_step (M := M) (fun i => decide (e < rst V nums i)) hi
    have f2 := filt_step (M := M) (fun i => decide (rst V nums i = e)) hi
    have q1 := List.length_filter_le (fun i => decide (e < rst V nums i)) (M.take i)
    have q2 := List.length_filter_le (fun i => decide (rst V nums i = e)) (M.take i)
    rw [List.length_take] at q1 q2
    have b1 : (ofn ((M.take i).filter fun i => decide (e < rst V nums i))).length < 17592186044416 := by rw [ofn_len]; omega
    have b2 : (ofn ((M.take i).filter fun i => decide (rst V nums i = e))).length < 17592186044416 := by rw [ofn_len]; omega
    have b3 : (i : Int) < ((ofn M).length : Int) := by rw [ofn_len]; omega
    refine .inl ⟨_, rfl, ?_⟩
    simp only [Za1.l1]
    rw [if_pos (by omega), if_pos (Int.natCast_nonneg _), if_pos b3, g, r1, Option.bind_some, f1, f2]
    by_cases c : rst V nums M[i] > e
    · have c1 : decide (e < rst V nums M[i]) = true := decide_eq_true c
      have c2 : ¬ decide (rst V nums M[i] = e) = true := by simp; omega
      rw [if_pos c, if_pos b1, if_pos c1, if_neg c2, ofn_app, wrap_nat (by clear g r1 f1 f2; omega)]
      have : wrap64 ((m : Int) - ((List.filter (fun i => decide (e < rst V nums i)) (M.take i)).length : Int) - 1) = (m : Int) - ((List.filter (fun i => decide (e < rst V nums i)) (M.take i) ++ [M[i]]).length : Int) := by
        clear g r1 f1 f2
        rw [List.length_append, List.length_cons, List.length_nil, w64 (by omega) (by omega)]; omega
      rw [this]
    · have c1 : ¬ decide (e < rst V nums M[i]) = true := by simpa using c
      rw [if_neg c, Option.bind_some, if_neg c1]
      by_cases c3 : rst V nums M[i] = e
      · rw [if_pos c3, if_pos b2, if_pos (decide_eq_true c3), ofn_app, wrap_nat (by clear g r1 f1 f2; omega)]
      · rw [if_neg c3, if_neg (by simpa using c3), wrap_nat (by clear g r1 f1 f2; omega)]
theorem planFor_eq {V : Int} {nums : List Int} (h : okd V nums) (hn : nums.length ≤ 40) {m : Nat} (hm : m ≤ (above V nums 0 nums.length).length) {nm : Int} (hnm : nm ≠ 2) {k : Nat} (hk : 30000 < k) :
    ∃ (up may : List Nat) (left : Nat), Za1.f k V nums (m : Int) nm = some (ofn up, ofn may, (left : Int)) ∧ PL V nums m up may left := by
  unfold Za1.f
  rw [if_neg hnm]
  have hpl : (above V nums 0 nums.length).length ≤ nums.length := by
    have := List.length_filter_le (fun i => decide (0 < rst V nums i)) (List.range nums.length)
    rwa [List.length_range] at this
  refine loopIc0 (m := nums.length) 25000 (F := fun k i (s : List Int) => Za1.l0 k (m : Int) s (nums.length : Int) i V nums) (fun i s => s = ofn (above V nums 0 i)) (fun r => ∃ (up may : List Nat) (left : Nat), r = some (ofn up, ofn may, (left : Int)) ∧ PL V nums m up may left) ?_ ?_ (k := k) (s := []) (by omega) (by simp [above])
  · rintro k s hk rfl
    obtain ⟨M, e, p1, p2⟩ := stable40 h (S := above V nums 0 nums.length) above_lt (fun y hy => (above_mem.1 hy).1) (by omega) (k := k) (by omega)
    have hMl := p2.length_eq
    simp only [Za1.l0]
    rw [if_neg (by omega), e, Option.bind_some]
    by_cases c0 : m = 0
    · subst c0
      rw [if_pos (show ((0 : Nat) : Int) = 0 from rfl)]
      exact ⟨[], [], 0, rfl, .inl ⟨rfl, rfl, rfl, rfl⟩⟩
    · have b0 : ¬ (m : Int) = 0 := by clear e; omega
      have b1 : (m : Int) - 1 = ((m - 1 : Nat) : Int) := by clear e; omega
      have b2 : wrap64 ((m : Int) - 1) = ((m - 1 : Nat) : Int) := by clear e; rw [w64 (by omega) (by omega)]; exact b1
      have b3 : ((m - 1 : Nat) : Int) < ((ofn (above V nums 0 nums.length)).length : Int) := by clear e b2; rw [ofn_len]; omega
      have b4 : m - 1 < M.length := by clear e b2; omega
      have hMb : ∀ y ∈ M, y < nums.length := fun y hy => (above_mem.1 (p2.mem_iff.1 hy)).1
      have g : rd (ofn M) ((m - 1 : Nat) : Int) = (M[m - 1] : Int) := rd_ofn b4
      have r1 := rest_eq h (hMb _ (List.getElem_mem b4))
      have cnt := edge_counts p1 (m := m) (by clear e b2 g; omega) (by clear e b2 g; omega) rfl
      have hpos : 0 < rst V nums M[m - 1] := (above_mem.1 (p2.mem_iff.1 (List.getElem_mem b4))).2
      generalize rst V nums M[m - 1] = ed at cnt r1 hpos
      have pl := planLoop h hMb (by clear e b2 g; omega) ed (m := m) (by clear e b2 g; omega) (k := k) (by clear e b2 g; omega) (Nat.le_of_lt cnt.1)
      rw [if_neg b0, b2, if_pos (Int.natCast_nonneg _), if_pos b3, g, r1, Option.bind_some, ofn_len, ← hMl, pl]
      clear e b2 g pl r1
      refine ⟨_, _, _, rfl, .inr ⟨ed, hpos, ?_, ?_, by omega, cnt.1, cnt.2⟩⟩
      · refine (p2.filter _).trans ?_
        rw [List.filter_filter]
        refine List.Perm.of_eq (List.filter_congr fun x _ => ?_)
        rw [← Bool.decide_and]
        exact decide_eq_decide.2 (by omega)
      · refine sorted_unique (p1.filter _) equal_pw fun q => ?_
        rw [List.mem_filter, p2.mem_iff, above_mem, equal_mem, decide_eq_true_eq]
        constructor
        · rintro ⟨⟨h1, _⟩, h2⟩; exact ⟨h1, h2⟩
        · rintro ⟨h1, h2⟩; exact ⟨⟨h1, by omega⟩, h2⟩
  · rintro k i s hk hi rfl
    have r1 := rest_eq h hi
    have q1 : (above V nums 0 i).length ≤ i := by
      have := List.length_filter_le (fun i => decide (0 < rst V nums i)) (List.range i)
      rwa [List.length_range] at this
    have e : above V nums 0 (i + 1) = if 0 < rst V nums i then above V nums 0 i ++ [i] else above V nums 0 i := by
      unfold above
      rw [List.range_succ, List.filter_append]
      by_cases c : 0 < rst V nums i
      · rw [if_pos c, List.filter_cons_of_pos (by simpa using c)]; rfl
      · rw [if_neg c, List.filter_cons_of_neg (by simpa using c)]; simp
    have b1 : (ofn (above V nums 0 i)).length < 17592186044416 := by rw [ofn_len]; omega
    refine .inl ⟨_, rfl, ?_⟩
    simp only [Za1.l0]
    rw [if_pos (by omega), r1, Option.bind_some, e, wrap_nat (by clear r1 e; omega)]
    by_cases c : 0 < rst V nums i
    · rw [if_pos c, if_pos b1, if_pos c, ofn_app]
    · rw [if_neg c, if_neg c]
theorem cloneI_eq {l : List Int} (h : l.length ≤ 1000000) : slices_Clone_int_int.f l = some l := by
  unfold slices_Clone_int_int.f
  rw [Option.bind_some, if_pos (by simp; omega), List.nil_append]
theorem rounding_eq {V : Int} {nums : List Int} (h : okd V nums) (hn : nums.length ≤ 40) {up may : List Nat} {left : Nat} (hu : ∀ i ∈ up, i < nums.length) (hm : ∀ i ∈ may, i < nums.length) (hul : up.length ≤ 40) (hml : may.length ≤ 40) (hleft : left ≤ may.length) {k : Nat} (hk : 1000 < k) :
    Zaz.f k (ofn up) (ofn may) (left : Int) V nums = some (incs (fls V nums) (up ++ may.drop (may.length - left))) := by
  unfold Zaz.f impl_size_int.f
  have hwr : wrap64 (((ofn may).length : Int) - (left : Int)) = ((may.length - left : Nat) : Int) := by rw [ofn_len, w64 (by omega) (by omega)]; omega
  have hfin : ∀ x ∈ fls V nums, -100000000000 ≤ x ∧ x ≤ 100000000000 := fls_in h
  have hfl : (fls V nums).length = nums.length := fls_length V nums
  have b1 : ((may.length - left : Nat) : Int) ≤ ((ofn may).length : Int) := by clear hwr; rw [ofn_len]; omega
  have hd : (ofn may).drop (may.length - left) = ofn (may.drop (may.length - left)) := List.map_drop.symm
  rw [floors_eq h (by omega), Option.bind_some, cloneI_eq (by rw [ofn_len]; omega), Option.bind_some, Option.bind_some, hwr, if_pos (Int.natCast_nonneg _), if_pos b1, Int.toNat_natCast, hd, if_pos (by clear hwr; rw [ofn_len, ofn_len, List.length_drop]; omega), Option.bind_some, show ofn up ++ ofn (may.drop (may.length - left)) = ofn (up ++ may.drop (may.length - left)) from List.map_append.symm]
  clear hwr hd
  have hT : ∀ i ∈ up ++ may.drop (may.length - left), i < nums.length := fun i hi => by
    rcases List.mem_append.1 hi with h | h
    · exact hu i h
    · exact hm i (List.mem_of_mem_drop h)
  have hTl : (up ++ may.drop (may.length - left)).length ≤ 100 := by rw [List.length_append, List.length_drop]; omega
  generalize up ++ may.drop (may.length - left) = T at hT hTl
  rw [ofn_len]
  refine loopI0 (m := T.length) (F := fun k i (a : List Int) => Zaz.l0 k a (ofn T) (T.length : Int) i) (fun i a => a = incs (fls V nums) (T.take i)) (fun r => r = some (incs (fls V nums) T)) ?_ ?_ (k := k) (s := fls V nums) (by omega) (by simp [incs])
  · rintro k a rfl
    simp only [Zaz.l0]
    rw [if_neg (by omega), List.take_length]
  · rintro k i a hi rfl
    have hal : (incs (fls V nums) (T.take i)).length = nums.length := by rw [incs_length, hfl]
    have hti := hT _ (List.getElem_mem hi)
    have hin : ∀ (T : List Nat) (out : List Int), (∀ x ∈ out, -100000000000 ≤ x ∧ x ≤ 100000000000) → ∀ x ∈ incs out T, -100000000000 ≤ x ∧ x ≤ 100000000000 + T.length := by
      intro T
      induction T with
      | nil => intro out ho x hx; have := ho x hx; simp only [List.length_nil]; omega
      | cons j r ih =>
        intro out ho x hx
        have gen : ∀ (r : List Nat) (c : Int) (out : List Int), (∀ x ∈ out, -100000000000 ≤ x ∧ x ≤ c) → ∀ x ∈ incs out r, -100000000000 ≤ x ∧ x ≤ c + r.length := by
          intro r
          induction r with
          | nil => intro c out ho x hx; have := ho x hx; simp only [List.length_nil]; omega
          | cons q r ih2 =>
            intro c out ho x hx
            simp only [incs] at hx
            have := ih2 (c + 1) (out.set q (rd out q + 1)) (fun y hy => by
              rcases List.mem_or_eq_of_mem_set hy with hy' | hy'
              · have := ho y hy'; omega
              · by_cases hq : q < out.length
                · rw [rd_nat hq] at hy'
                  have := ho _ (List.getElem_mem hq); omega
                · rw [List.set_eq_of_length_le (by omega)] at hy
                  have := ho y hy; omega) x hx
            simp only [List.length_cons]; omega
        exact gen (j :: r) _ out ho x hx
    have hain := hin (T.take i) _ hfin _ (List.getElem_mem (show T[i] < (incs (fls V nums) (T.take i)).length by omega))
    have htl : (T.take i).length ≤ 100 := by rw [List.length_take]; omega
    have etk : T.take (i + 1) = T.take i ++ [T[i]] := by rw [List.take_add_one, List.getElem?_eq_getElem hi, Option.toList_some]
    rw [← rd_nat (by omega)] at hain
    have b2 : (i : Int) < ((ofn T).length : Int) := by rw [ofn_len]; omega
    have b3 : ((T[i] : Nat) : Int) < ((incs (fls V nums) (T.take i)).length : Int) := by omega
    have g := rd_ofn hi
    have w := w64 (x := rd (incs (fls V nums) (T.take i)) (T[i] : Int) + 1) (by clear g; omega) (by clear g; omega)
    refine .inl ⟨_, rfl, ?_⟩
    simp only [Zaz.l0]
    rw [if_pos (by clear g w; omega), if_pos (Int.natCast_nonneg _), if_pos b2, g, if_pos (Int.natCast_nonneg _), if_pos b3, Int.toNat_natCast, w, wrap_nat (by clear g w; omega), etk, incs_append]
end Go.Proofs.Ytgmmfdilfpkbmaa.Q
end
section
namespace Go.Proofs.Ytgmmfdilfpkbmaa.Q
open Go.RowKit Go.Proofs.YtgmmfdilfpkbmaaW.PrintWords Go.Proofs.YtgmmfdilfpkbmaaW.PrintLast Go.Proofs.Ytgmmfdilfpkbmaa.P Go.Proofs.Ytgmmfdilfpkbmaa.B
set_option linter.unusedVariables false
set_option linter.unusedSimpArgs false
def cz (V nm b r : Int) : Int := if r = 0 then -1 else if nm = 2 then (if r > b then 1 else if V - r > b then -1 else 0) else if r > V - b then 1 else if r < V - b then -1 else 0
abbrev onesL (V : Int) (nums : List Int) (nm b : Int) (n : Nat) : List Nat := (List.range n).filter fun i => decide (cz V nm b (rst V nums i) = 1)
abbrev zerosL (V : Int) (nums : List Int) (nm b : Int) (n : Nat) : List Nat := (List.range n).filter fun i => decide (cz V nm b (rst V nums i) = 0)
def okb (V : Int) (nums : List Int) (nm : Int) (m : Nat) (b : Int) : Prop :=
  (nm = 2 → ∀ i, i < nums.length → ¬ (b < rst V nums i ∧ b < V - rst V nums i)) ∧ (onesL V nums nm b nums.length).length ≤ m ∧ m ≤ (onesL V nums nm b nums.length).length + (zerosL V nums nm b nums.length).length
theorem onesL_succ (V : Int) (nums : List Int) (nm b : Int) (n : Nat) : onesL V nums nm b (n + 1) = if cz V nm b (rst V nums n) = 1 then onesL V nums nm b n ++ [n] else onesL V nums nm b n := by
  unfold onesL
  rw [List.range_succ, List.filter_append]
  by_cases c : cz V nm b (rst V nums n) = 1
  · rw [if_pos c, List.filter_cons_of_pos (by simpa using c)]; rfl
  · rw [if_neg c, List.filter_cons_of_neg (by simpa using c)]; simp
theorem zerosL_succ (V : Int) (nums : List Int) (nm b : Int) (n : Nat) : zerosL V nums nm b (n + 1) = if cz V nm b (rst V nums n) = 0 then zerosL V nums nm b n ++ [n] else zerosL V nums nm b n := by
  unfold zerosL
  rw [List.range_succ, List.filter_append]
  by_cases c : cz V nm b (rst V nums n) = 0
  · rw [if_pos c, List.filter_cons_of_pos (by simpa using c)]; rfl
  · rw [if_neg c, List.filter_cons_of_neg (by simpa using c)]; simp
theorem onesL_le (V : Int) (nums : List Int) (nm b : Int) (n : Nat) : (onesL V nums nm b n).length ≤ n := by
  have := List.length_filter_le (fun i => decide (cz V nm b (rst V nums i) = 1)) (List.range n)
  rwa [List.length_range] at this
theorem zerosL_le (V : Int) (nums : List Int) (nm b : Int) (n : Nat) : (zerosL V nums nm b n).length ≤ n := by
  have := List.length_filter_le (fun i => decide (cz V nm b (rst V nums i) = 0)) (List.range n)
  rwa [List.length_range] at this
theorem onesL_mem {V : Int} {nums : List Int} {nm b : Int} {n i : Nat} : i ∈ onesL V nums nm b n ↔ i < n ∧ cz V nm b (rst V nums i) = 1 := by simp [onesL]
theorem zerosL_mem {V : Int} {nums : List Int} {nm b : Int} {n i : Nat} : i ∈ zerosL V nums nm b n ↔ i < n ∧ cz V nm b (rst V nums i) = 0 := by simp [zerosL]
theorem pick_nodup (V : Int) (nums : List Int) (nm b : Int) (n d : Nat) : (onesL V nums nm b n ++ (zerosL V nums nm b n).drop d).Nodup := by
  rw [List.nodup_append]
  refine ⟨List.nodup_range.filter _, (List.nodup_range.filter _).sublist (List.drop_sublist ..), fun a ha b' hb => ?_⟩
  have h1 := (onesL_mem.1 ha).2
  have h2 := (zerosL_mem.1 (List.mem_of_mem_drop hb)).2
  rintro rfl
  omega
theorem pick_lt {V : Int} {nums : List Int} {nm b : Int} {n d i : Nat} (h : i ∈ onesL V nums nm b n ++ (zerosL V nums nm b n).drop d) : i < n := by
  rcases List.mem_append.1 h with h | h
  · exact (onesL_mem.1 h).1
  · exact (zerosL_mem.1 (List.mem_of_mem_drop h)).1
theorem incs_perm {T T' : List Nat} {out : List Int} (hp : T.Perm T') (hn : T.Nodup) (hb : ∀ q ∈ T, q < out.length) : incs out T = incs out T' := by
  apply List.ext_getElem (by rw [incs_length, incs_length])
  intro i h1 h2
  rw [← rd_nat h1, ← rd_nat h2, incs_rd T out hn hb, incs_rd T' out (hp.nodup_iff.1 hn) (fun q hq => hb q (hp.mem_iff.2 hq))]
  have hm := hp.mem_iff (a := i)
  congr 1
  by_cases c : i ∈ T
  · rw [if_pos c, if_pos (hm.1 c)]
  · rw [if_neg c, if_neg (fun h => c (hm.2 h))]
theorem l04Rests_eq {V : Int} {nums : List Int} (h : okd V nums) {k : Nat} (hk : nums.length < k) : Zba.f k nums V = some (nums.map fun x => x - V * (x / V)) := by
  have hl := h.2.2.1
  have h1 := loopL0 (l := nums) (F := fun k i acc => Zba.l0 k nums V acc i) (S := ap (fun x => x - V * (x / V))) (D := fun s => some s) (by omega)
    (fun k s => by simp only [Zba.l0]; rw [if_neg (by omega)])
    (fun k n hn s => by
      have hx := h.get hn
      have hb := ediv_mul_le (a := nums[n]) h.1
      have hc := Int.mul_comm V (nums[n] / V)
      have hd := h.2.1
      simp only [Zba.l0, ap]
      rw [if_pos (by omega), if_pos (by omega), rd_nat hn, l01Floor_eq h.1 (by omega) (by omega) (by omega), Option.bind_some, w64 (x := V * (nums[n] / V)) (by omega) (by omega), w64 (x := nums[n] - V * (nums[n] / V)) (by omega) (by omega), wrap_nat (by omega)]
      split <;> rfl) k hk []
  unfold Zba.f
  rw [h1, ap_run _ _ _ _ (by simp; omega)]
  rfl
theorem l04Floors_eq {V : Int} {nums : List Int} (h : okd V nums) {k : Nat} (hk : nums.length < k) : spec_l04Floors.f k nums V = some (fls V nums) := by
  have hl := h.2.2.1
  have h1 := loopL0 (l := nums) (F := fun k i acc => spec_l04Floors.l0 k nums V acc i) (S := ap (· / V)) (D := fun s => some s) (by omega)
    (fun k s => by simp only [spec_l04Floors.l0]; rw [if_neg (by omega)])
    (fun k n hn s => by
      have hx := h.get hn
      have hd := h.2.1
      simp only [spec_l04Floors.l0, ap]
      rw [if_pos (by omega), if_pos (by omega), rd_nat hn, l01Floor_eq h.1 (by omega) (by omega) (by omega), Option.bind_some, wrap_nat (by omega)]
      split <;> rfl) k hk []
  unfold spec_l04Floors.f
  rw [h1, ap_run _ _ _ _ (by simp; omega)]
  rfl
theorem rests_rd {V : Int} {nums : List Int} {i : Nat} (hi : i < nums.length) : rd (nums.map fun x => x - V * (x / V)) (i : Int) = rst V nums i := by
  rw [rd_nat (by simpa using hi), List.getElem_map]
  unfold rst
  rw [rd_nat hi]
end Go.Proofs.Ytgmmfdilfpkbmaa.Q
end
section
namespace Go.Proofs.Ytgmmfdilfpkbmaa.Q
open Go.RowKit Go.Proofs.YtgmmfdilfpkbmaaW.PrintWords Go.Proofs.YtgmmfdilfpkbmaaW.PrintLast Go.Proofs.Ytgmmfdilfpkbmaa.P Go.Proofs.Ytgmmfdilfpkbmaa.B
set_option linter.unusedVariables false
set_option linter.unusedSimpArgs false
theorem least_exists {P : Nat → Prop} : ∀ n, P n → ∃ m, m ≤ n ∧ P m ∧ ∀ q, q < m → ¬ P q := by
  intro n
  induction n using Nat.strongRecOn with
  | _ n ih =>
    intro hn
    by_cases h : ∃ q, q < n ∧ P q
    · obtain ⟨q, hq, hp⟩ := h
      obtain ⟨m, h1, h2, h3⟩ := ih q hq hp
      exact ⟨m, by omega, h2, h3⟩
    · exact ⟨n, Nat.le_refl _, hn, fun q hq hp => h ⟨q, hq, hp⟩⟩
def bdL (V : Int) (nums : List Int) : Nat → List Int
  | 0 => [0]
  | i + 1 => bdL V nums i ++ [rst V nums i, V - rst V nums i]
theorem bdL_length (V : Int) (nums : List Int) : ∀ i, (bdL V nums i).length = 1 + 2 * i
  | 0 => rfl
  | i + 1 => by simp only [bdL]; rw [List.length_append, bdL_length V nums i]; simp; omega
theorem bdL_zero (V : Int) (nums : List Int) : ∀ i, (0 : Int) ∈ bdL V nums i
  | 0 => by simp [bdL]
  | i + 1 => by simp only [bdL]; exact List.mem_append_left _ (bdL_zero V nums i)
theorem bdL_mem {V : Int} {nums : List Int} : ∀ {i j : Nat}, j < i → rst V nums j ∈ bdL V nums i ∧ V - rst V nums j ∈ bdL V nums i
  | i + 1, j, h => by
    simp only [bdL]
    rcases Nat.lt_or_ge j i with c | c
    · have := bdL_mem (V := V) (nums := nums) c
      exact ⟨List.mem_append_left _ this.1, List.mem_append_left _ this.2⟩
    · have : j = i := by omega
      subst this
      exact ⟨List.mem_append_right _ (by simp), List.mem_append_right _ (by simp)⟩
theorem bdL_in {V : Int} (hV : 1 ≤ V) {nums : List Int} : ∀ (i : Nat), ∀ x ∈ bdL V nums i, 0 ≤ x ∧ x ≤ V
  | 0, x, h => by simp [bdL] at h; omega
  | i + 1, x, h => by
    simp only [bdL] at h
    have hr := rst_in hV nums i
    rcases List.mem_append.1 h with h | h
    · exact bdL_in hV i x h
    · rcases List.mem_cons.1 h with h | h
      · omega
      · rw [List.mem_singleton] at h; omega
theorem max_below {b : Int} : ∀ (L : List Int), (∃ y ∈ L, y ≤ b) → ∃ x ∈ L, x ≤ b ∧ ∀ y ∈ L, y ≤ b → y ≤ x
  | [], ⟨y, h, _⟩ => by simp at h
  | z :: L, h => by
    by_cases c : ∃ y ∈ L, y ≤ b
    · obtain ⟨x, hx, hxb, hm⟩ := max_below L c
      by_cases c2 : z ≤ b ∧ x < z
      · exact ⟨z, List.mem_cons_self .., c2.1, fun y hy hyb => by
          rcases List.mem_cons.1 hy with rfl | hy
          · exact Int.le_refl _
          · have := hm y hy hyb; omega⟩
      · exact ⟨x, List.mem_cons_of_mem _ hx, hxb, fun y hy hyb => by
          rcases List.mem_cons.1 hy with rfl | hy
          · omega
          · exact hm y hy hyb⟩
    · obtain ⟨y, hy, hyb⟩ := h
      rcases List.mem_cons.1 hy with rfl | hy
      · exact ⟨y, List.mem_cons_self .., hyb, fun w hw hwb => by
          rcases List.mem_cons.1 hw with rfl | hw
          · exact Int.le_refl _
          · exact absurd ⟨w, hw, hwb⟩ c⟩
      · exact absurd ⟨y, hy, hyb⟩ c
theorem okb_same {V : Int} {nums : List Int} {m : Nat} {b x : Int} (h : ∀ i, i < nums.length → (rst V nums i > b ↔ rst V nums i > x) ∧ (V - rst V nums i > b ↔ V - rst V nums i > x)) (hok : okb V nums 2 m b) : okb V nums 2 m x := by
  have hcz : ∀ i, i < nums.length → cz V 2 b (rst V nums i) = cz V 2 x (rst V nums i) := by
    intro i hi
    have := h i hi
    unfold cz
    by_cases c0 : rst V nums i = 0
    · rw [if_pos c0, if_pos c0]
    · rw [if_neg c0, if_neg c0, if_pos rfl, if_pos rfl]
      by_cases c1 : rst V nums i > b
      · rw [if_pos c1, if_pos (this.1.1 c1)]
      · rw [if_neg c1, if_neg (fun h => c1 (this.1.2 h))]
        by_cases c2 : V - rst V nums i > b
        · rw [if_pos c2, if_pos (this.2.1 c2)]
        · rw [if_neg c2, if_neg (fun h => c2 (this.2.2 h))]
  have e1 : onesL V nums 2 b nums.length = onesL V nums 2 x nums.length := List.filter_congr fun i hi => by rw [hcz i (List.mem_range.1 hi)]
  have e2 : zerosL V nums 2 b nums.length = zerosL V nums 2 x nums.length := List.filter_congr fun i hi => by rw [hcz i (List.mem_range.1 hi)]
  unfold okb at hok ⊢
  rw [← e1, ← e2]
  exact ⟨fun e i hi hc => hok.1 e i hi ⟨(h i hi).1.2 hc.1, (h i hi).2.2 hc.2⟩, hok.2⟩
theorem mostStep {V : Int} {nums : List Int} (h : okd V nums) {i : Nat} (hi : i < nums.length) {m b : Int} (hb : 0 ≤ b ∧ b ≤ V) {S : List Int} {x38 x39 x47 : Int} {fl : Bool} {up may : List Int} {many : Int} (h1 : up.length ≤ 100) (h2 : may.length ≤ 100) (h3 : -1000 ≤ many ∧ many ≤ 1000) (hx : (i : Int) < x47) (hn : nums.length ≤ 1000) (k : Nat) :
    Zal.l2 (k + 3) m b fl S x38 x39 x47 (i : Int) V nums up may many =
      if cz V 2 b (rst V nums i) = 0 then Zal.l2 k m b fl S x38 x39 x47 ((i + 1 : Nat) : Int) V nums up (may ++ [(i : Int)]) many
      else if rst V nums i > b ∧ V - rst V nums i > b then Zal.l2 k m b false S x38 x39 x47 ((i + 1 : Nat) : Int) V nums up may many
      else if cz V 2 b (rst V nums i) = 1 then Zal.l2 k m b fl S x38 x39 x47 ((i + 1 : Nat) : Int) V nums (up ++ [(i : Int)]) may (many - 1)
      else Zal.l2 k m b fl S x38 x39 x47 ((i + 1 : Nat) : Int) V nums up may many := by
  have hr := rst_in h.1 nums i
  have hV := h.2.1
  have g := rest_eq h hi
  generalize rst V nums i = r at g hr ⊢
  have b1 : up.length < 17592186044416 := by omega
  have b2 : may.length < 17592186044416 := by omega
  have q1 : -9223372036854775808 ≤ V - r := by omega
  have q2 : V - r ≤ 9223372036854775807 := by omega
  have w0 : wrap64 ((i : Int) + 1) = ((i + 1 : Nat) : Int) := wrap_nat (by omega)
  have w1 : wrap64 (V - r) = V - r := w64 q1 q2
  have w2 : wrap64 (many - 1) = many - 1 := by clear w0 w1 g; exact w64 (by omega) (by omega)
  simp only [Zal.l2]
  rw [if_pos hx, g, Option.bind_some, w1]
  by_cases c0 : r > 0
  · rw [if_pos c0]
    simp only [Zal.j3]
    by_cases c2 : V - r ≤ b
    · rw [decide_eq_true c2, if_pos rfl]
      simp only [Zal.j4]
      by_cases c1 : r ≤ b
      · have e : cz V 2 b r = 0 := by unfold cz; rw [if_neg (by clear w0 w1 w2 g; omega), if_pos rfl, if_neg (by clear w0 w1 w2 g; omega), if_neg (by clear w0 w1 w2 g; omega)]
        rw [decide_eq_true c1, if_pos rfl, if_pos b2, w0, if_pos e]
      · have e : cz V 2 b r = 1 := by unfold cz; rw [if_neg (by clear w0 w1 w2 g; omega), if_pos rfl, if_pos (by clear w0 w1 w2 g; omega)]
        rw [decide_eq_false c1, if_neg (by simp), if_pos trivial, if_pos b1, w0, w2, e, if_neg (by decide), if_neg (by clear w0 w1 w2 g; omega), if_pos rfl]
    · rw [decide_eq_false c2, if_neg (by simp)]
      simp only [Zal.j4]
      rw [if_neg (by simp), if_neg (by simp)]
      by_cases c1 : r ≤ b
      · have e : cz V 2 b r = -1 := by unfold cz; rw [if_neg (by clear w0 w1 w2 g; omega), if_pos rfl, if_neg (by clear w0 w1 w2 g; omega), if_pos (by clear w0 w1 w2 g; omega)]
        rw [decide_eq_true c1, if_pos rfl, w0, e, if_neg (by decide), if_neg (by clear w0 w1 w2 g; omega), if_neg (by decide)]
      · have e : cz V 2 b r = 1 := by unfold cz; rw [if_neg (by clear w0 w1 w2 g; omega), if_pos rfl, if_pos (by clear w0 w1 w2 g; omega)]
        rw [decide_eq_false c1, if_neg (by simp), w0, e, if_neg (by decide), if_pos (by clear w0 w1 w2 g; omega)]
  · have c1 : r ≤ b := by clear w0 w1 w2 g; omega
    have e : cz V 2 b r = -1 := by unfold cz; rw [if_pos (by clear w0 w1 w2 g; omega)]
    rw [if_neg c0]
    simp only [Zal.j3]
    rw [if_neg (by simp)]
    simp only [Zal.j4]
    rw [if_neg (by simp), if_neg (by simp), decide_eq_true c1, if_pos rfl, w0, e, if_neg (by decide), if_neg (by clear w0 w1 w2 g; omega), if_neg (by decide)]
open Classical in
theorem mostRound {V : Int} {nums : List Int} (h : okd V nums) {b : Int} {m : Nat} (hn : nums.length ≤ 40) (hb : 0 ≤ b ∧ b ≤ V) (hm : m ≤ 40) {S : List Int} {x38 x39 : Int} (k : Nat) :
    Zal.l2 (k + 1 + 3 * nums.length) (m : Int) b true S x38 x39 (nums.length : Int) 0 V nums [] [] (m : Int) = if okb V nums 2 m b then some (ofn (onesL V nums 2 b nums.length), ofn (zerosL V nums 2 b nums.length), ((m - (onesL V nums 2 b nums.length).length : Nat) : Int)) else Zal.l1 k (m : Int) S x38 (wrap64 (x39 + 1)) V nums := by
  have go : ∀ d i (fl : Bool) (up may : List Int) (many : Int), nums.length - i = d → i ≤ nums.length → up.length ≤ i → may.length ≤ i → (m : Int) - i ≤ many → many ≤ m →
      ((∀ j, j < i → ¬ (b < rst V nums j ∧ b < V - rst V nums j)) → fl = true ∧ up = ofn (onesL V nums 2 b i) ∧ may = ofn (zerosL V nums 2 b i) ∧ many = (m : Int) - ((onesL V nums 2 b i).length : Int)) → (¬ (∀ j, j < i → ¬ (b < rst V nums j ∧ b < V - rst V nums j)) → fl = false) →
      Zal.l2 (k + 1 + 3 * d) (m : Int) b fl S x38 x39 (nums.length : Int) (i : Int) V nums up may many = if okb V nums 2 m b then some (ofn (onesL V nums 2 b nums.length), ofn (zerosL V nums 2 b nums.length), ((m - (onesL V nums 2 b nums.length).length : Nat) : Int)) else Zal.l1 k (m : Int) S x38 (wrap64 (x39 + 1)) V nums := by
    intro d
    induction d with
    | zero =>
      intro i fl up may many hd hi hu hy hm1 hm2 h2 h3
      obtain rfl : i = nums.length := by omega
      rw [Nat.mul_zero, Nat.add_zero]
      simp only [Zal.l2]
      rw [if_neg (by omega)]
      by_cases c : ∀ j, j < nums.length → ¬ (b < rst V nums j ∧ b < V - rst V nums j)
      · obtain ⟨rfl, rfl, rfl, rfl⟩ := h2 c
        have hlen : (ofn (zerosL V nums 2 b nums.length)).length = (zerosL V nums 2 b nums.length).length := ofn_len _
        unfold impl_size_int.f
        rw [if_pos rfl, Option.bind_some, within_eq, Option.bind_some]
        by_cases c1 : (onesL V nums 2 b nums.length).length ≤ m ∧ m ≤ (onesL V nums 2 b nums.length).length + (zerosL V nums 2 b nums.length).length
        · rw [if_pos (decide_eq_true (by omega)), if_pos ⟨fun _ => c, c1.1, c1.2⟩]
          congr 3
          omega
        · rw [if_neg (by rw [decide_eq_true_eq]; omega), if_neg (fun h => c1 h.2)]
      · rw [h3 c, if_neg (by simp), if_neg (fun h => c (h.1 rfl))]
    | succ d ih =>
      intro i fl up may many hd hi hu hy hm1 hm2 h2 h3
      have hi2 : i < nums.length := by omega
      rw [show k + 1 + 3 * (d + 1) = (k + 1 + 3 * d) + 3 by omega, mostStep h hi2 hb (by omega) (by omega) (by omega) (by omega) (by omega)]
      have eo := onesL_succ V nums 2 b i
      have ez := zerosL_succ V nums 2 b i
      have back : ∀ P : Prop, (∀ j, j < i + 1 → ¬ (b < rst V nums j ∧ b < V - rst V nums j)) → (∀ j, j < i → ¬ (b < rst V nums j ∧ b < V - rst V nums j)) := fun _ hc j hj => hc j (by omega)
      by_cases bad : rst V nums i > b ∧ V - rst V nums i > b
      · have nz : ¬ cz V 2 b (rst V nums i) = 0 := by
          unfold cz
          have hr := rst_in h.1 nums i
          rw [if_neg (by omega), if_pos rfl, if_pos bad.1]; decide
        rw [if_neg nz, if_pos bad]
        exact ih (i + 1) false up may many (by omega) (by omega) (by omega) (by omega) (by omega) (by omega) (fun hc => absurd ⟨bad.1, bad.2⟩ (hc i (by omega))) (fun _ => rfl)
      · have keep : ¬ (∀ j, j < i + 1 → ¬ (b < rst V nums j ∧ b < V - rst V nums j)) → fl = false := fun hc => h3 (fun hx => hc (fun j hj => by
          rcases Nat.lt_or_ge j i with h4 | h4
          · exact hx j h4
          · have : j = i := by omega
            subst this
            exact fun h5 => bad ⟨h5.1, h5.2⟩))
        by_cases z0 : cz V 2 b (rst V nums i) = 0
        · rw [if_pos z0]
          refine ih (i + 1) fl up (may ++ [(i : Int)]) many (by omega) (by omega) (by omega) (by simp; omega) (by omega) (by omega) (fun hc => ?_) keep
          obtain ⟨e1, e2, e3, e4⟩ := h2 (back True hc)
          rw [eo, ez, if_pos z0, if_neg (by omega)]
          exact ⟨e1, e2, by rw [e3, ofn_app], e4⟩
        · rw [if_neg z0, if_neg bad]
          by_cases z1 : cz V 2 b (rst V nums i) = 1
          · rw [if_pos z1]
            refine ih (i + 1) fl (up ++ [(i : Int)]) may (many - 1) (by omega) (by omega) (by simp; omega) (by omega) (by omega) (by omega) (fun hc => ?_) keep
            obtain ⟨e1, e2, e3, e4⟩ := h2 (back True hc)
            rw [eo, ez, if_pos z1, if_neg z0]
            exact ⟨e1, by rw [e2, ofn_app], e3, by rw [List.length_append, List.length_cons, List.length_nil]; omega⟩
          · rw [if_neg z1]
            refine ih (i + 1) fl up may many (by omega) (by omega) (by omega) (by omega) (by omega) (by omega) (fun hc => ?_) keep
            obtain ⟨e1, e2, e3, e4⟩ := h2 (back True hc)
            rw [eo, ez, if_neg z1, if_neg z0]
            exact ⟨e1, e2, e3, e4⟩
  have := go nums.length 0 true [] [] (m : Int) (by omega) (by omega) (by simp) (by simp) (by omega) (by omega) (fun _ => ⟨rfl, by simp [onesL], by simp [zerosL], by simp [onesL]⟩) (fun hc => absurd (fun j hj => by omega) hc)
  simpa using this
theorem mostFirst {V : Int} {nums : List Int} (h : okd V nums) {m : Nat} (hn : nums.length ≤ 40) (hm : m ≤ 40) {S : List Int} (hS : ∀ x ∈ S, 0 ≤ x ∧ x ≤ V) (hSl : S.length ≤ 100) {p : Nat} (hp : p < S.length) (hok : okb V nums 2 m S[p]) (hno : ∀ q (hq : q < S.length), q < p → ¬ okb V nums 2 m S[q]) : ∀ d (i : Nat) k, p - i = d → i ≤ p → 125 * (d + 1) < k →
    Zal.l1 k (m : Int) S (S.length : Int) (i : Int) V nums = some (ofn (onesL V nums 2 S[p] nums.length), ofn (zerosL V nums 2 S[p] nums.length), ((m - (onesL V nums 2 S[p] nums.length).length : Nat) : Int)) := by
  intro d
  induction d with
  | zero =>
    intro i k hd hi hk
    obtain ⟨k, rfl, _⟩ := Za6 hk
    obtain rfl : i = p := by omega
    obtain ⟨q, rfl⟩ : ∃ q, k = q + 1 + 3 * nums.length := ⟨k - 1 - 3 * nums.length, by omega⟩
    have hx := hS _ (List.getElem_mem hp)
    simp only [Zal.l1]
    rw [if_pos (by omega), if_pos (by omega), if_pos (by omega), rd_nat hp, mostRound h hn hx hm, if_pos hok]
  | succ d ih =>
    intro i k hd hi hk
    obtain ⟨k, rfl, _⟩ := Za6 hk
    have hiS : i < S.length := by omega
    obtain ⟨q, rfl⟩ : ∃ q, k = q + 1 + 3 * nums.length := ⟨k - 1 - 3 * nums.length, by omega⟩
    have hx := hS _ (List.getElem_mem hiS)
    simp only [Zal.l1]
    rw [if_pos (by omega), if_pos (by omega), if_pos (by omega), rd_nat hiS, mostRound h hn hx hm, if_neg (hno i hiS (by omega)), wrap_nat (by omega)]
    exact ih (i + 1) q (by omega) (by omega) (by omega)
theorem onesV {V : Int} (hV : 1 ≤ V) (nums : List Int) : onesL V nums 2 V nums.length = [] := by
  rw [List.filter_eq_nil_iff]
  intro i hi
  have hr := rst_in hV nums i
  rw [decide_eq_true_eq]
  unfold cz
  split
  · decide
  · rw [if_pos rfl, if_neg (by omega), if_neg (by omega)]; decide
theorem zerosV {V : Int} (hV : 1 ≤ V) (nums : List Int) : zerosL V nums 2 V nums.length = above V nums 0 nums.length := by
  refine List.filter_congr fun i hi => decide_eq_decide.2 ?_
  have hr := rst_in hV nums i
  unfold cz
  by_cases c : rst V nums i = 0
  · rw [if_pos c, c]; decide
  · rw [if_neg c, if_pos rfl, if_neg (by omega), if_neg (by omega)]
    exact ⟨fun _ => by omega, fun _ => rfl⟩
def BD (V : Int) (nums : List Int) (nm : Int) (m B : Nat) : Prop := (B : Int) ≤ V ∧ okb V nums nm m (B : Int) ∧ ∀ b : Nat, b < B → ¬ okb V nums nm m (b : Int)
theorem planMost_eq {V : Int} {nums : List Int} (h : okd V nums) (hn : nums.length ≤ 40) {m : Nat} (hm : m ≤ (above V nums 0 nums.length).length) {k : Nat} (hk : 20000 < k) :
    ∃ B, BD V nums 2 m B ∧ Zal.f k V nums (m : Int) = some (ofn (onesL V nums 2 (B : Int) nums.length), ofn (zerosL V nums 2 (B : Int) nums.length), ((m - (onesL V nums 2 (B : Int) nums.length).length : Nat) : Int)) := by
  have hV := h.1
  have hpl : (above V nums 0 nums.length).length ≤ nums.length := by
    have := List.length_filter_le (fun i => decide (0 < rst V nums i)) (List.range nums.length)
    rwa [List.length_range] at this
  have hbl := bdL_length V nums nums.length
  have hSp : ((bdL V nums nums.length).mergeSort fun x y => decide (x ≤ y)).Perm (bdL V nums nums.length) := List.mergeSort_perm _ _
  have hSo : ((bdL V nums nums.length).mergeSort fun x y => decide (x ≤ y)).Pairwise fun x y => decide (x ≤ y) = true := List.pairwise_mergeSort (fun a b c h1 h2 => by simp at *; omega) (fun a b => by simp; omega) _
  have hSl := hSp.length_eq
  have hSort : slices_Sort_int64_int64.f (bdL V nums nums.length) = some ((bdL V nums nums.length).mergeSort fun x y => decide (x ≤ y)) := by
    unfold slices_Sort_int64_int64.f
    rw [if_pos (by omega)]
  generalize ((bdL V nums nums.length).mergeSort fun x y => decide (x ≤ y)) = S at hSp hSo hSl hSort
  have hSin : ∀ x ∈ S, 0 ≤ x ∧ x ≤ V := fun x hx => bdL_in hV _ x (hSp.mem_iff.1 hx)
  have same : ∀ b : Int, 0 ≤ b → okb V nums 2 m b → ∃ q, ∃ hq : q < S.length, S[q] ≤ b ∧ okb V nums 2 m S[q] := by
    intro b hb hok
    obtain ⟨x, hx, hxb, hmax⟩ := max_below (b := b) (bdL V nums nums.length) ⟨0, bdL_zero _ _ _, hb⟩
    have hxS := hSp.mem_iff.2 hx
    obtain ⟨q, hq, e⟩ := List.mem_iff_getElem.1 hxS
    refine ⟨q, hq, by rw [e]; exact hxb, ?_⟩
    rw [e]
    refine okb_same (fun i hi => ?_) hok
    have hm1 := bdL_mem (V := V) (nums := nums) hi
    have c1 := hmax _ hm1.1
    have c2 := hmax _ hm1.2
    constructor <;> constructor <;> intro _ <;> omega
  have hokV : okb V nums 2 m V := by
    refine ⟨fun _ i hi hc => ?_, ?_, ?_⟩
    · have := rst_in hV nums i; omega
    · rw [onesV hV]; simp
    · rw [onesV hV, zerosV hV]; simpa using hm
  obtain ⟨q0, hq0, _, hokq⟩ := same V (by omega) hokV
  obtain ⟨p, hpq, ⟨hp, hokp⟩, hno⟩ := least_exists (P := fun q => ∃ hq : q < S.length, okb V nums 2 m S[q]) q0 ⟨hq0, hokq⟩
  have hSpin := hSin _ (List.getElem_mem hp)
  have eB : ((S[p].toNat : Nat) : Int) = S[p] := by omega
  refine ⟨S[p].toNat, ⟨by omega, by rw [eB]; exact hokp, fun b hb hok => ?_⟩, ?_⟩
  · obtain ⟨q, hq, hqb, hokq'⟩ := same (b : Int) (by omega) hok
    refine hno q ?_ ⟨hq, hokq'⟩
    rcases Nat.lt_or_ge q p with h1 | h1
    · exact h1
    · exfalso
      rcases Nat.lt_or_ge p q with h2 | h2
      · have := List.pairwise_iff_getElem.1 hSo p q hp hq h2
        rw [decide_eq_true_eq] at this
        omega
      · have : p = q := by omega
        subst this
        omega
  · rw [eB]
    unfold Zal.f
    refine loopIc0 (m := nums.length) 15000 (F := fun k i (s : List Int) => Zal.l0 k (m : Int) s (nums.length : Int) i V nums) (fun i s => s = bdL V nums i) (fun r => r = some (ofn (onesL V nums 2 S[p] nums.length), ofn (zerosL V nums 2 S[p] nums.length), ((m - (onesL V nums 2 S[p] nums.length).length : Nat) : Int))) ?_ ?_ (k := k) (s := [0]) (by omega) rfl
    · rintro k s hk rfl
      simp only [Zal.l0]
      rw [if_neg (by omega), hSort, Option.bind_some, ← hSl]
      exact mostFirst h hn (by omega) hSin (by omega) hp hokp (fun q hq hqp hok => hno q hqp ⟨hq, hok⟩) p 0 k (by omega) (by omega) (by omega)
    · rintro k i s hk hi rfl
      have hr := rst_in hV nums i
      have g := rest_eq h hi
      have hl := bdL_length V nums i
      have hd := h.2.1
      have w1 : wrap64 (V - rst V nums i) = V - rst V nums i := w64 (by omega) (by omega)
      refine .inl ⟨_, rfl, ?_⟩
      simp only [Zal.l0]
      rw [if_pos (by omega), g, Option.bind_some, Option.bind_some, w1, Option.bind_some, if_pos (by clear g w1; simp; omega), wrap_nat (by clear g w1; omega)]
      rfl
theorem BD_unique {V : Int} {nums : List Int} {nm : Int} {m B B' : Nat} (h : BD V nums nm m B) (h' : BD V nums nm m B') : B = B' := by
  rcases Nat.lt_trichotomy B B' with c | c | c
  · exact absurd h.2.1 (h'.2.2 _ c)
  · exact c
  · exact absurd h'.2.1 (h.2.2 _ c)
theorem plan_eq {V : Int} {nums : List Int} (h : okd V nums) (hn : nums.length ≤ 40) {m : Nat} (hm : m ≤ (above V nums 0 nums.length).length) {nm : Int} {k : Nat} (hk : 30000 < k) :
    ∃ B up, BD V nums nm m B ∧ Za1.f k V nums (m : Int) nm = some (ofn up, ofn (zerosL V nums nm (B : Int) nums.length), ((m - (onesL V nums nm (B : Int) nums.length).length : Nat) : Int)) ∧ up.Perm (onesL V nums nm (B : Int) nums.length) := by
  have hV := h.1
  by_cases c : nm = 2
  · subst c
    obtain ⟨B, h1, h2⟩ := planMost_eq h hn hm (k := k) (by omega)
    refine ⟨B, _, h1, ?_, List.Perm.refl _⟩
    unfold Za1.f
    rw [if_pos rfl, h2]
    rfl
  · obtain ⟨up, may, left, e, pl⟩ := planFor_eq h hn hm c hk
    rcases pl with ⟨rfl, rfl, rfl, rfl⟩ | ⟨ed, hed, hup, hmay, hleft, h1, h2⟩
    · have o0 : onesL V nums nm ((0 : Nat) : Int) nums.length = [] := by
        rw [List.filter_eq_nil_iff]
        intro i hi
        have hr := rst_in hV nums i
        rw [decide_eq_true_eq]
        unfold cz
        by_cases c0 : rst V nums i = 0
        · rw [if_pos c0]; decide
        · rw [if_neg c0, if_neg c, if_neg (by omega), if_pos (by omega)]; decide
      have z0 : zerosL V nums nm ((0 : Nat) : Int) nums.length = [] := by
        rw [List.filter_eq_nil_iff]
        intro i hi
        have hr := rst_in hV nums i
        rw [decide_eq_true_eq]
        unfold cz
        by_cases c0 : rst V nums i = 0
        · rw [if_pos c0]; decide
        · rw [if_neg c0, if_neg c, if_neg (by omega), if_pos (by omega)]; decide
      refine ⟨0, [], ⟨by omega, ⟨fun h => absurd h c, by rw [o0]; simp, by omega⟩, fun b hb => by omega⟩, ?_, by rw [o0]⟩
      rw [o0, z0]
      exact e
    · have hlt : ed < V := by
        have hne : 0 < up.length + may.length := by omega
        rcases Nat.eq_zero_or_pos may.length with h0 | h0
        · omega
        · have h3 := List.getElem_mem h0
          generalize may[0] = y at h3
          rw [hmay] at h3
          have h4 := (equal_mem.1 h3).2
          have := rst_in hV nums y
          omega
      have eB : (((V - ed).toNat : Nat) : Int) = V - ed := by omega
      have hcz1 : ∀ i, i < nums.length → (cz V nm (V - ed) (rst V nums i) = 1 ↔ ed < rst V nums i) := by
        intro i hi
        have hr := rst_in hV nums i
        unfold cz
        by_cases c0 : rst V nums i = 0
        · rw [if_pos c0]; constructor
          · intro h; omega
          · intro h; omega
        · rw [if_neg c0, if_neg c]
          by_cases c1 : rst V nums i > V - (V - ed)
          · rw [if_pos c1]; exact ⟨fun _ => by omega, fun _ => rfl⟩
          · rw [if_neg c1]
            constructor
            · intro h; split at h <;> omega
            · intro h; omega
      have hcz0 : ∀ i, i < nums.length → (cz V nm (V - ed) (rst V nums i) = 0 ↔ rst V nums i = ed) := by
        intro i hi
        have hr := rst_in hV nums i
        unfold cz
        by_cases c0 : rst V nums i = 0
        · rw [if_pos c0]; constructor
          · intro h; omega
          · intro h; omega
        · rw [if_neg c0, if_neg c]
          by_cases c1 : rst V nums i > V - (V - ed)
          · rw [if_pos c1]; constructor
            · intro h; omega
            · intro h; omega
          · rw [if_neg c1]
            by_cases c2 : rst V nums i < V - (V - ed)
            · rw [if_pos c2]; constructor
              · intro h; omega
              · intro h; omega
            · rw [if_neg c2]; exact ⟨fun _ => by omega, fun _ => rfl⟩
      have o1 : onesL V nums nm (V - ed) nums.length = above V nums ed nums.length := List.filter_congr fun i hi => decide_eq_decide.2 (hcz1 i (List.mem_range.1 hi))
      have z1 : zerosL V nums nm (V - ed) nums.length = equal V nums ed nums.length := List.filter_congr fun i hi => decide_eq_decide.2 (hcz0 i (List.mem_range.1 hi))
      have hul := hup.length_eq
      have hyl : may.length = (equal V nums ed nums.length).length := by rw [hmay]
      refine ⟨(V - ed).toNat, up, ⟨by omega, by rw [eB]; exact ⟨fun h => absurd h c, by rw [o1]; omega, by rw [o1, z1]; omega⟩, fun b hb hok => ?_⟩, ?_, by rw [eB, o1]; exact hup⟩
      ·
        have hle : (onesL V nums nm (b : Int) nums.length).length + (zerosL V nums nm (b : Int) nums.length).length ≤ (above V nums ed nums.length).length := by
          have gen : ∀ l : List Nat, (l.filter fun i => decide (cz V nm (b : Int) (rst V nums i) = 1)).length + (l.filter fun i => decide (cz V nm (b : Int) (rst V nums i) = 0)).length ≤ (l.filter fun i => decide (ed < rst V nums i)).length := by
            intro l
            induction l with
            | nil => simp
            | cons x xs ih =>
              have hr := rst_in hV nums x
              have key : cz V nm (b : Int) (rst V nums x) = -1 ∨ ed < rst V nums x := by
                unfold cz
                by_cases c0 : rst V nums x = 0
                · rw [if_pos c0]; exact .inl rfl
                · rw [if_neg c0, if_neg c]
                  by_cases c1 : rst V nums x > V - b
                  · exact .inr (by omega)
                  · rw [if_neg c1]
                    by_cases c2 : rst V nums x < V - b
                    · rw [if_pos c2]; exact .inl rfl
                    · exact .inr (by omega)
              rcases key with k1 | k1
              · rw [List.filter_cons_of_neg (by simp; omega), List.filter_cons_of_neg (by simp; omega)]
                by_cases c3 : ed < rst V nums x
                · rw [List.filter_cons_of_pos (by simpa using c3), List.length_cons]; omega
                · rw [List.filter_cons_of_neg (by simpa using c3)]; exact ih
              · rw [List.filter_cons_of_pos (p := fun i => decide (ed < rst V nums i)) (by simpa using k1), List.length_cons]
                by_cases c3 : cz V nm (b : Int) (rst V nums x) = 1
                · rw [List.filter_cons_of_pos (by simpa using c3), List.filter_cons_of_neg (by simp; omega), List.length_cons]; omega
                · rw [List.filter_cons_of_neg (by simpa using c3)]
                  by_cases c4 : cz V nm (b : Int) (rst V nums x) = 0
                  · rw [List.filter_cons_of_pos (by simpa using c4), List.length_cons]; omega
                  · rw [List.filter_cons_of_neg (by simpa using c4)]; omega
          exact gen _
        have := hok.2.2
        omega
      · rw [eB, o1, z1, ← hmay, e]
        congr 3
        omega
end Go.Proofs.Ytgmmfdilfpkbmaa.Q
end
section
namespace Go.Proofs.Ytgmmfdilfpkbmaa.Q
open Go.RowKit Go.Proofs.YtgmmfdilfpkbmaaW.PrintWords Go.Proofs.YtgmmfdilfpkbmaaW.PrintLast Go.Proofs.Ytgmmfdilfpkbmaa.P Go.Proofs.Ytgmmfdilfpkbmaa.B
set_option linter.unusedVariables false
set_option linter.unusedSimpArgs false
theorem cl_fl {a b : Int} (hb : 1 ≤ b) : cl a b = a / b + if 0 < a - b * (a / b) then 1 else 0 := by
  have h1 := ediv_mul_le (a := a) hb
  have h2 := cl_mul (a := a) hb
  have hc := Int.mul_comm b (a / b)
  by_cases c : 0 < a - b * (a / b)
  · rw [if_pos c]
    have h3 : (cl a b - 1) * b < a := by rw [Int.sub_mul]; omega
    have h4 : a / b < cl a b := Int.lt_of_mul_lt_mul_right (a := b) (by omega) (by omega)
    have h5 : cl a b < a / b + 2 := Int.lt_of_mul_lt_mul_right (a := b) (by rw [Int.add_mul]; omega) (by omega)
    omega
  · rw [if_neg c]
    have h4 : a / b ≤ cl a b := Int.le_of_mul_le_mul_right (a := b) (by omega) (by omega)
    have h5 : cl a b < a / b + 1 := Int.lt_of_mul_lt_mul_right (a := b) (by rw [Int.add_mul]; omega) (by omega)
    omega
theorem sum_take : ∀ (l : List Int) (n : Nat) (h : n < l.length), (l.take (n + 1)).sum = (l.take n).sum + l[n]
  | x :: xs, 0, h => by simp
  | x :: xs, n + 1, h => by
    rw [List.take_succ_cons, List.sum_cons, sum_take xs n (by simpa using h), List.take_succ_cons, List.sum_cons]
    simp only [List.getElem_cons_succ]
    omega
theorem cls_sum {V : Int} (hV : 1 ≤ V) (nums : List Int) : ∀ n, n ≤ nums.length → ((cls V nums).take n).sum = ((fls V nums).take n).sum + ((above V nums 0 n).length : Int)
  | 0, _ => by simp [above]
  | n + 1, h => by
    have hn : n < nums.length := h
    rw [sum_take _ n (by rw [cls_length]; exact hn), sum_take _ n (by rw [fls_length]; exact hn), cls_sum hV nums n (by omega)]
    have e1 : (cls V nums)[n]'(by rw [cls_length]; exact hn) = cl nums[n] V := by simp [cls]
    have e2 : (fls V nums)[n]'(by rw [fls_length]; exact hn) = nums[n] / V := by simp [fls]
    have e3 : above V nums 0 (n + 1) = if 0 < rst V nums n then above V nums 0 n ++ [n] else above V nums 0 n := by
      unfold above
      rw [List.range_succ, List.filter_append]
      by_cases c : 0 < rst V nums n
      · rw [if_pos c, List.filter_cons_of_pos (by simpa using c)]; rfl
      · rw [if_neg c, List.filter_cons_of_neg (by simpa using c)]; simp
    rw [e1, e2, e3, cl_fl hV]
    have er : rst V nums n = nums[n] - V * (nums[n] / V) := by unfold rst; rw [rd_nat hn]
    rw [er]
    by_cases c : 0 < nums[n] - V * (nums[n] / V)
    · rw [if_pos c, if_pos c, List.length_append, List.length_cons, List.length_nil]; omega
    · rw [if_neg c, if_neg c]; omega
theorem cls_sum' {V : Int} (hV : 1 ≤ V) (nums : List Int) : (cls V nums).sum = (fls V nums).sum + ((above V nums 0 nums.length).length : Int) := by
  have := cls_sum hV nums nums.length (Nat.le_refl _)
  rwa [List.take_of_length_le (by rw [cls_length]; exact Nat.le_refl _), List.take_of_length_le (by rw [fls_length]; exact Nat.le_refl _)] at this
open Classical in
noncomputable def BDof (V : Int) (nums : List Int) (nm : Int) (m : Nat) : Nat := if h : ∃ B, BD V nums nm m B then Classical.choose h else 0
theorem BDof_eq {V : Int} {nums : List Int} {nm : Int} {m B : Nat} (h : BD V nums nm m B) : BDof V nums nm m = B := by
  have hx : ∃ B, BD V nums nm m B := ⟨B, h⟩
  unfold BDof
  rw [dif_pos hx]
  exact BD_unique (Classical.choose_spec hx) h
noncomputable def frees (V : Int) (nums : List Int) (nm : Int) (m : Nat) : Nat := (zerosL V nums nm (BDof V nums nm m : Int) nums.length).length
noncomputable def lefts (V : Int) (nums : List Int) (nm : Int) (m : Nat) : Nat := m - (onesL V nums nm (BDof V nums nm m : Int) nums.length).length
noncomputable def bestL (V : Int) (nums : List Int) (nm : Int) (m : Nat) : List Int := incs (fls V nums) (onesL V nums nm (BDof V nums nm m : Int) nums.length ++ (zerosL V nums nm (BDof V nums nm m : Int) nums.length).drop (frees V nums nm m - lefts V nums nm m))
theorem bestImpl {V : Int} {nums : List Int} (h : okd V nums) (hn : nums.length ≤ 40) {m : Nat} (hm : m ≤ (above V nums 0 nums.length).length) {nm : Int} {k : Nat} (hk : 30000 < k) :
    ∃ up, Za1.f k V nums (m : Int) nm = some (ofn up, ofn (zerosL V nums nm (BDof V nums nm m : Int) nums.length), (lefts V nums nm m : Int)) ∧ Zaz.f k (ofn up) (ofn (zerosL V nums nm (BDof V nums nm m : Int) nums.length)) (lefts V nums nm m : Int) V nums = some (bestL V nums nm m) ∧ lefts V nums nm m ≤ frees V nums nm m ∧ frees V nums nm m ≤ 40 := by
  obtain ⟨B, up, hB, e, hp⟩ := plan_eq h hn hm (nm := nm) hk
  have hD := BDof_eq hB
  have ho := onesL_le V nums nm (B : Int) nums.length
  have hz := zerosL_le V nums nm (B : Int) nums.length
  have hl := hp.length_eq
  have h2 := hB.2.1.2
  unfold bestL lefts frees
  rw [hD]
  refine ⟨up, e, ?_, by omega, by omega⟩
  rw [rounding_eq h hn (fun i hi => (onesL_mem.1 (hp.mem_iff.1 hi)).1) (fun i hi => (zerosL_mem.1 hi).1) (by omega) (by omega) (by omega) (by omega)]
  congr 1
  have hp2 := hp.append_right ((zerosL V nums nm (B : Int) nums.length).drop ((zerosL V nums nm (B : Int) nums.length).length - (m - (onesL V nums nm (B : Int) nums.length).length)))
  exact incs_perm hp2 (hp2.nodup_iff.2 (pick_nodup ..)) (fun q hq => by rw [fls_length]; exact pick_lt (hp2.mem_iff.1 hq))
def cnt (c : Nat) : Int × Bool := if (c : Int) > 1000000 then (0, false) else ((c : Int), true)
end Go.Proofs.Ytgmmfdilfpkbmaa.Q
end
section
namespace Go.Proofs.Ytgmmfdilfpkbmaa.Q
open Go.RowKit Go.Proofs.YtgmmfdilfpkbmaaW.PrintWords Go.Proofs.YtgmmfdilfpkbmaaW.PrintLast Go.Proofs.Ytgmmfdilfpkbmaa.P Go.Proofs.Ytgmmfdilfpkbmaa.B
set_option linter.unusedVariables false
set_option linter.unusedSimpArgs false
theorem nodup_le : ∀ {l1 l2 : List Nat}, l1.Nodup → (∀ x ∈ l1, x ∈ l2) → l1.length ≤ l2.length
  | [], _, _, _ => Nat.zero_le _
  | x :: xs, l2, hn, h => by
    rw [List.nodup_cons] at hn
    have hx := h x (List.mem_cons_self ..)
    have := nodup_le (l1 := xs) (l2 := l2.erase x) hn.2 (fun y hy => by
      have hy2 := h y (List.mem_cons_of_mem _ hy)
      have hne : y ≠ x := fun e => hn.1 (e ▸ hy)
      exact (List.mem_erase_of_ne hne).2 hy2)
    rw [List.length_erase_of_mem hx] at this
    have hp := List.length_pos_of_mem hx
    rw [List.length_cons]; omega
def gq (V : Int) (nums : List Int) (i j : Nat) : Prop := rst V nums i > rst V nums j ∨ rst V nums i = rst V nums j ∧ j < i
def TOPS (V : Int) (nums : List Int) (T : List Nat) : Prop := T.Nodup ∧ (∀ i ∈ T, i < nums.length ∧ 0 < rst V nums i) ∧ ∀ i ∈ T, ∀ j, j < nums.length → 0 < rst V nums j → j ∉ T → gq V nums i j
theorem TOPS_sub {V : Int} {nums : List Int} {T T' : List Nat} (h : TOPS V nums T) (h' : TOPS V nums T') (hl : T.length = T'.length) : ∀ i ∈ T, i ∈ T' := by
  intro i hi
  apply Classical.byContradiction; intro hn
  have hx : ∃ j, j ∈ T' ∧ j ∉ T := by
    apply Classical.byContradiction; intro hc
    have hs : ∀ j ∈ T', j ∈ T := fun j hj => Classical.byContradiction fun hq => hc ⟨j, hj, hq⟩
    have := nodup_le (l1 := i :: T') (l2 := T) (List.nodup_cons.2 ⟨hn, h'.1⟩) (fun x hx => by
      rcases List.mem_cons.1 hx with rfl | hx
      · exact hi
      · exact hs x hx)
    rw [List.length_cons] at this; omega
  obtain ⟨j, hj, hj2⟩ := hx
  have a := h.2.2 i hi j (h'.2.1 j hj).1 (h'.2.1 j hj).2 hj2
  have b := h'.2.2 j hj i (h.2.1 i hi).1 (h.2.1 i hi).2 hn
  unfold gq at a b
  omega
theorem TOPS_perm {V : Int} {nums : List Int} {T T' : List Nat} (h : TOPS V nums T) (h' : TOPS V nums T') (hl : T.length = T'.length) : T.Perm T' :=
  (List.perm_ext_iff_of_nodup h.1 h'.1).2 fun i => ⟨TOPS_sub h h' hl i, TOPS_sub h' h hl.symm i⟩
theorem best_TOPS {V : Int} {nums : List Int} {b : Int} (d : Nat) : TOPS V nums (onesL V nums 0 b nums.length ++ (zerosL V nums 0 b nums.length).drop d) ∨ V - b < 0 := by
  by_cases hb : V - b < 0
  · exact .inr hb
  have one : ∀ i, cz V 0 b (rst V nums i) = 1 → rst V nums i > V - b := by
    intro i h
    unfold cz at h
    by_cases c0 : rst V nums i = 0
    · rw [if_pos c0] at h; omega
    · rw [if_neg c0, if_neg (by decide)] at h
      by_cases c1 : rst V nums i > V - b
      · exact c1
      · rw [if_neg c1] at h; split at h <;> omega
  have zero : ∀ i, cz V 0 b (rst V nums i) = 0 → rst V nums i = V - b ∧ rst V nums i ≠ 0 := by
    intro i h
    unfold cz at h
    by_cases c0 : rst V nums i = 0
    · rw [if_pos c0] at h; omega
    · rw [if_neg c0, if_neg (by decide)] at h
      by_cases c1 : rst V nums i > V - b
      · rw [if_pos c1] at h; omega
      · rw [if_neg c1] at h
        by_cases c2 : rst V nums i < V - b
        · rw [if_pos c2] at h; omega
        · exact ⟨by omega, c0⟩
  have not_one : ∀ j, j < nums.length → 0 < rst V nums j → j ∉ onesL V nums 0 b nums.length → rst V nums j ≤ V - b := by
    intro j hj hp hn
    apply Classical.byContradiction; intro hc
    refine hn (onesL_mem.2 ⟨hj, ?_⟩)
    unfold cz
    rw [if_neg (by omega), if_neg (by decide), if_pos (by omega)]
  refine .inl ⟨pick_nodup .., fun i hi => ⟨pick_lt hi, ?_⟩, fun i hi j hj hp hn => ?_⟩
  · rcases List.mem_append.1 hi with h | h
    · have := one i (onesL_mem.1 h).2; omega
    · have := zero i (zerosL_mem.1 (List.mem_of_mem_drop h)).2; omega
  · have hj1 := not_one j hj hp (fun h => hn (List.mem_append_left _ h))
    rcases List.mem_append.1 hi with h | h
    · have := one i (onesL_mem.1 h).2
      exact .inl (by omega)
    · have hz := zero i (zerosL_mem.1 (List.mem_of_mem_drop h)).2
      rcases Int.lt_or_le (rst V nums j) (V - b) with c | c
      · exact .inl (by omega)
      · have hjz : j ∈ zerosL V nums 0 b nums.length := by
          refine zerosL_mem.2 ⟨hj, ?_⟩
          unfold cz
          rw [if_neg (by omega), if_neg (by decide), if_neg (by omega), if_neg (by omega)]
        have hpw : (zerosL V nums 0 b nums.length).Pairwise (· < ·) := (range_lt nums.length).filter _
        rw [← List.take_append_drop d (zerosL V nums 0 b nums.length), List.pairwise_append] at hpw
        rw [← List.take_append_drop d (zerosL V nums 0 b nums.length)] at hjz
        rcases List.mem_append.1 hjz with h2 | h2
        · exact .inr ⟨by omega, hpw.2.2 j h2 i h⟩
        · exact absurd (List.mem_append_right _ h2) hn
theorem pickLast {V : Int} {nums T : List Int} {U : List Nat} {R : List Int} (hR : R.length = nums.length) (hn : nums.length ≤ 40) (hr : ∀ i : Nat, i < nums.length → rd R i = if i ∈ U then 0 else rst V nums i) (hU : ∀ i : Nat, i < nums.length → i ∉ U → 0 ≤ rst V nums i) (hex : ∃ i, i < nums.length ∧ i ∉ U ∧ 0 < rst V nums i) (hT : T.length = nums.length) (hTin : ∀ i : Nat, i < nums.length → -200000000000 ≤ rd T i ∧ rd T i ≤ 200000000000) (left : Nat) (hl : 0 < left ∧ left ≤ 100) {k : Nat} (hk : nums.length + 5 < k) :
    ∃ b, b < nums.length ∧ b ∉ U ∧ 0 < rst V nums b ∧ (∀ j, j < nums.length → j ∉ U → 0 < rst V nums j → j ≠ b → gq V nums b j) ∧ ∃ k', k = k' + nums.length + 1 ∧ Zan.l4 k T R (left : Int) (-1) 0 = Zan.l3 k' (T.set b (rd T b + 1)) (R.set b 0) ((left - 1 : Nat) : Int) := by
  suffices hh : ∀ d i k' (x : Int), nums.length - i = d → i ≤ nums.length → ((x = -1 ∧ ∀ j, j < i → j ∉ U → ¬ 0 < rst V nums j) ∨ (∃ b : Nat, b < i ∧ x = (b : Int) ∧ b ∉ U ∧ 0 < rst V nums b ∧ ∀ j, j < i → j ∉ U → 0 < rst V nums j → j ≠ b → gq V nums b j)) →
      ∃ b, b < nums.length ∧ b ∉ U ∧ 0 < rst V nums b ∧ (∀ j, j < nums.length → j ∉ U → 0 < rst V nums j → j ≠ b → gq V nums b j) ∧ Zan.l4 (k' + 1 + d) T R (left : Int) x (i : Int) = Zan.l3 k' (T.set b (rd T b + 1)) (R.set b 0) ((left - 1 : Nat) : Int) by
    obtain ⟨b, h1, h2, h3, h4, h5⟩ := hh nums.length 0 (k - 1 - nums.length) (-1) (by omega) (by omega) (.inl ⟨rfl, fun j hj => by omega⟩)
    refine ⟨b, h1, h2, h3, h4, k - 1 - nums.length, by omega, ?_⟩
    rw [← h5]
    congr 1
    omega
  intro d
  induction d with
  | zero =>
    intro i k' x hd hi hinv
    have hin : i = nums.length := by clear hinv; omega
    rcases hinv with ⟨_, hall⟩ | ⟨b, hb, rfl, hbU, hbp, hbm⟩
    · obtain ⟨j, hj, hjU, hjp⟩ := hex
      exact absurd hjp (hall j (by omega) hjU)
    · refine ⟨b, by omega, hbU, hbp, fun j hj => hbm j (by omega), ?_⟩
      have hbT := hTin b (by omega)
      have w1 : wrap64 (rd T (b : Int) + 1) = rd T (b : Int) + 1 := w64 (by omega) (by omega)
      have w2 : wrap64 ((left : Int) - 1) = ((left - 1 : Nat) : Int) := by clear w1; rw [w64 (by omega) (by omega)]; omega
      rw [Nat.add_zero]
      simp only [Zan.l4]
      rw [if_neg (by clear w1 w2; omega), if_pos (Int.natCast_nonneg _), if_pos (by clear w1 w2; omega), if_pos (by clear w1 w2; omega), w1, w2, Int.toNat_natCast]
  | succ d ih =>
    intro i k' x hd hi hinv
    have hi2 : i < nums.length := by clear hinv; omega
    have a1 : nums.length - (i + 1) = d := by clear hinv; omega
    have c1 : (i : Int) < (R.length : Int) := by clear hinv; omega
    have w0 : wrap64 ((i : Int) + 1) = ((i + 1 : Nat) : Int) := by clear hinv; exact wrap_nat (by omega)
    have hri := hr i hi2
    rw [show k' + 1 + (d + 1) = (k' + 1 + d) + 1 by clear hinv w0; omega]
    simp only [Zan.l4]
    rw [if_pos c1, if_pos (Int.natCast_nonneg _), w0]
    by_cases cp : rd R (i : Int) > 0
    · have hiU : i ∉ U := by
        intro h; rw [if_pos h] at hri; clear w0 hinv; omega
      rw [if_neg hiU] at hri
      have hip : 0 < rst V nums i := by clear w0 hinv; omega
      rw [if_pos cp]
      rcases hinv with ⟨rfl, hall⟩ | ⟨b, hb, rfl, hbU, hbp, hbm⟩
      · rw [if_pos (by decide)]
        refine ih (i + 1) k' (i : Int) a1 hi2 (.inr ⟨i, Nat.lt_succ_self i, rfl, hiU, hip, fun j hj hjU hjp hne => ?_⟩)
        have : j < i := by clear w0; omega
        exact absurd hjp (hall j this hjU)
      · have hrb := hr b (by clear w0; omega)
        rw [if_neg hbU] at hrb
        rw [if_neg (by clear w0; omega), if_pos (Int.natCast_nonneg _), if_pos (by clear w0; omega)]
        by_cases c2 : rd R (i : Int) ≥ rd R (b : Int)
        · rw [if_pos c2]
          refine ih (i + 1) k' (i : Int) a1 hi2 (.inr ⟨i, Nat.lt_succ_self i, rfl, hiU, hip, fun j hj hjU hjp hne => ?_⟩)
          have hji : j < i := by clear w0; omega
          have hib : gq V nums i b := by unfold gq; clear w0; omega
          by_cases e : j = b
          · rw [e]; exact hib
          · have := hbm j hji hjU hjp e
            unfold gq at this hib ⊢; clear w0; omega
        · rw [if_neg c2]
          refine ih (i + 1) k' (b : Int) a1 hi2 (.inr ⟨b, by clear w0; omega, rfl, hbU, hbp, fun j hj hjU hjp hne => ?_⟩)
          rcases Nat.lt_or_ge j i with h | h
          · exact hbm j h hjU hjp hne
          · have : j = i := by clear w0; omega
            subst this
            unfold gq; clear w0; omega
    · rw [if_neg cp]
      refine ih (i + 1) k' x a1 hi2 ?_
      have skip : ∀ j, j < i + 1 → j ∉ U → 0 < rst V nums j → j < i := by
        intro j hj hjU hjp
        rcases Nat.lt_or_ge j i with h | h
        · exact h
        · have : j = i := by clear w0 hinv; omega
          subst this
          rw [if_neg hjU] at hri
          clear w0 hinv; omega
      rcases hinv with ⟨h1, hall⟩ | ⟨b, hb, h1, hbU, hbp, hbm⟩
      · exact .inl ⟨h1, fun j hj hjU hjp => hall j (skip j hj hjU hjp) hjU hjp⟩
      · exact .inr ⟨b, by clear w0; omega, h1, hbU, hbp, fun j hj hjU hjp hne => hbm j (skip j hj hjU hjp) hjU hjp hne⟩
theorem greedy {V : Int} {nums : List Int} (h : okd V nums) (hn : nums.length ≤ 40) : ∀ (left : Nat) (k : Nat) (U : List Nat) (R : List Int), TOPS V nums U → R.length = nums.length → (∀ i : Nat, i < nums.length → rd R i = if i ∈ U then 0 else rst V nums i) → U.length + left ≤ (above V nums 0 nums.length).length → left ≤ 40 → 60 * (left + 1) < k →
    ∃ W, Zan.l3 k (incs (fls V nums) U) R (left : Int) = some (incs (fls V nums) W, true) ∧ TOPS V nums W ∧ W.length = U.length + left := by
  intro left
  induction left with
  | zero =>
    intro k U R hU hR hr hl h40 hk
    obtain ⟨k, rfl, _⟩ := Za6 hk
    simp only [Zan.l3]
    rw [if_neg (by omega)]
    exact ⟨U, rfl, hU, rfl⟩
  | succ left ih =>
    intro k U R hU hR hr hl h40 hk
    obtain ⟨k, rfl, _⟩ := Za6 hk
    have hfl : (fls V nums).length = nums.length := fls_length V nums
    have hex : ∃ i, i < nums.length ∧ i ∉ U ∧ 0 < rst V nums i := by
      apply Classical.byContradiction; intro hc
      have := nodup_le (l1 := above V nums 0 nums.length) (l2 := U) (List.nodup_range.filter _) (fun x hx => by
        have hx := above_mem.1 hx
        exact Classical.byContradiction fun hq => hc ⟨x, hx.1, hq, hx.2⟩)
      omega
    have hTin : ∀ i : Nat, i < nums.length → -200000000000 ≤ rd (incs (fls V nums) U) i ∧ rd (incs (fls V nums) U) i ≤ 200000000000 := by
      intro i hi
      rw [incs_rd U _ hU.1 (fun q hq => by rw [hfl]; exact (hU.2.1 q hq).1)]
      have := fls_in h _ (List.getElem_mem (show i < (fls V nums).length by omega))
      rw [← rd_nat (by omega)] at this
      split <;> omega
    obtain ⟨b, hb, hbU, hbp, hbm, k', hk', e⟩ := pickLast (V := V) (nums := nums) (T := incs (fls V nums) U) (U := U) (R := R) hR hn hr (fun i _ _ => (rst_in h.1 nums i).1) hex (by rw [incs_length, hfl]) hTin (left + 1) (by omega) (k := k) (by omega)
    simp only [Zan.l3]
    rw [if_pos (by omega), e, ← incs_append, Nat.add_sub_cancel]
    have hT2 : TOPS V nums (U ++ [b]) := by
      refine ⟨?_, ?_, ?_⟩
      · rw [List.nodup_append]
        exact ⟨hU.1, by simp, fun x hx y hy => by rw [List.mem_singleton.1 hy]; rintro rfl; exact hbU hx⟩
      · intro i hi
        rcases List.mem_append.1 hi with hi | hi
        · exact hU.2.1 i hi
        · rw [List.mem_singleton.1 hi]; exact ⟨hb, hbp⟩
      · intro i hi j hj hjp hjn
        have hjU : j ∉ U := fun h => hjn (List.mem_append_left _ h)
        have hjb : j ≠ b := fun h => hjn (List.mem_append_right _ (by simp [h]))
        rcases List.mem_append.1 hi with hi | hi
        · exact hU.2.2 i hi j hj hjp hjU
        · rw [List.mem_singleton.1 hi]; exact hbm j hj hjU hjp hjb
    have hR2 : ∀ i : Nat, i < nums.length → rd (R.set b 0) i = if i ∈ U ++ [b] then 0 else rst V nums i := fun i hi => by
      rw [rd_set (by omega)]
      by_cases c : i = b
      · rw [if_pos c, if_pos (List.mem_append_right _ (by simp [c]))]
      · rw [if_neg c, hr i hi]
        by_cases c2 : i ∈ U
        · rw [if_pos c2, if_pos (List.mem_append_left _ c2)]
        · rw [if_neg c2, if_neg (by simp [c2, c])]
    obtain ⟨W, e2, h1, h2⟩ := ih k' (U ++ [b]) (R.set b 0) hT2 (by rw [List.length_set]; exact hR) hR2 (by rw [List.length_append, List.length_cons, List.length_nil]; omega) (by omega) (by omega)
    refine ⟨W, e2, h1, ?_⟩
    rw [h2, List.length_append, List.length_cons, List.length_nil]; omega
def whole (p : Nat) : Int := 100 * 10 ^ p
theorem whole_in {p : Nat} (h : p ≤ 3) : 100 ≤ whole p ∧ whole p ≤ 100000 := by
  have : p = 0 ∨ p = 1 ∨ p = 2 ∨ p = 3 := by omega
  rcases this with rfl | rfl | rfl | rfl <;> decide
theorem whole_succ (p : Nat) : whole (p + 1) = whole p * 10 := by
  unfold whole
  rw [Int.pow_succ, Int.mul_assoc]
def pcOk (counts : List Int) : Bool := decide (1 ≤ counts.length ∧ counts.length ≤ 40) && (allIn counts 0 1000000 && decide (counts.sum ≠ 0))
noncomputable def PercentsOf_res (counts : List Int) (places : Int) : List Int × Bool := if pcOk counts = true ∧ 0 ≤ places ∧ places ≤ 3 then (bestL counts.sum (counts.map (· * whole places.toNat)) 0 (whole places.toNat - (fls counts.sum (counts.map (· * whole places.toNat))).sum).toNat, true) else ([], false)
theorem pc_facts {counts : List Int} (h : pcOk counts = true) {p : Nat} (hp : p ≤ 3) : okd counts.sum (counts.map (· * whole p)) ∧ (1 ≤ counts.length ∧ counts.length ≤ 40) ∧ (∀ x ∈ counts, 0 ≤ x ∧ x ≤ 1000000) ∧ (1 ≤ counts.sum ∧ counts.sum ≤ 40000000) ∧
    (whole p - (fls counts.sum (counts.map (· * whole p))).sum = ((whole p - (fls counts.sum (counts.map (· * whole p))).sum).toNat : Int) ∧ (whole p - (fls counts.sum (counts.map (· * whole p))).sum).toNat ≤ (above counts.sum (counts.map (· * whole p)) 0 (counts.map (· * whole p)).length).length) ∧ -1000000000000 ≤ (fls counts.sum (counts.map (· * whole p))).sum ∧ (fls counts.sum (counts.map (· * whole p))).sum ≤ 1000000000000 := by
  unfold pcOk at h
  rw [Bool.and_eq_true, Bool.and_eq_true, decide_eq_true_eq, decide_eq_true_eq, allIn_iff] at h
  obtain ⟨h1, h2, h3⟩ := h
  have hw := whole_in hp
  have gen : ∀ l : List Int, (∀ x ∈ l, 0 ≤ x ∧ x ≤ 1000000) → 0 ≤ l.sum ∧ l.sum ≤ 1000000 * (l.length : Int) := by
    intro l
    induction l with
    | nil => intro _; simp
    | cons x xs ih =>
      intro hx
      have h1 := hx x (List.mem_cons_self ..)
      have h2 := ih (fun y hy => hx y (List.mem_cons_of_mem _ hy))
      rw [List.sum_cons, List.length_cons]; omega
  have hs := gen counts h2
  have hV : 1 ≤ counts.sum ∧ counts.sum ≤ 40000000 := by omega
  have hok : okd counts.sum (counts.map (· * whole p)) := by
    refine ⟨hV.1, by omega, by rw [List.length_map]; omega, fun x hx => ?_⟩
    rw [List.mem_map] at hx
    obtain ⟨y, hy, rfl⟩ := hx
    have hy := h2 y hy
    have a : 0 ≤ y * whole p := Int.mul_nonneg hy.1 (by omega)
    have b : y * whole p ≤ 1000000 * 100000 := Int.mul_le_mul hy.2 hw.2 (by omega) (by omega)
    omega
  have hsum : (counts.map (· * whole p)).sum = counts.sum * whole p := by
    clear hs hV hok h1 h3
    induction counts with
    | nil => simp
    | cons x xs ih => rw [List.map_cons, List.sum_cons, List.sum_cons, ih (fun y hy => h2 y (List.mem_cons_of_mem _ hy)), Int.add_mul]
  have hf := fls_sum hV.1 (counts.map (· * whole p))
  have hcl : (counts.map (· * whole p)).sum ≤ counts.sum * (cls counts.sum (counts.map (· * whole p))).sum := by
    generalize counts.map (· * whole p) = l
    have hV1 := hV.1
    generalize counts.sum = V at hV1
    induction l with
    | nil => simp [cls]
    | cons x xs ih =>
      have h := cl_mul (a := x) hV1
      have e : (cls V (x :: xs)).sum = cl x V + (cls V xs).sum := by simp [cls]
      rw [e, List.sum_cons, Int.mul_add, Int.mul_comm V (cl x V)]
      omega
  rw [cls_sum' hV.1] at hcl
  rw [hsum] at hcl hf
  have m1 : (fls counts.sum (counts.map (· * whole p))).sum ≤ whole p := Int.le_of_mul_le_mul_left (a := counts.sum) (by omega) (by omega)
  have m2 : whole p ≤ (fls counts.sum (counts.map (· * whole p))).sum + ((above counts.sum (counts.map (· * whole p)) 0 (counts.map (· * whole p)).length).length : Int) := Int.le_of_mul_le_mul_left (a := counts.sum) (by omega) (by omega)
  have hpl : (above counts.sum (counts.map (· * whole p)) 0 (counts.map (· * whole p)).length).length ≤ counts.length := by
    have := List.length_filter_le (fun i => decide (0 < rst counts.sum (counts.map (· * whole p)) i)) (List.range (counts.map (· * whole p)).length)
    rw [List.length_range, List.length_map] at this
    rw [List.length_map]
    exact this
  exact ⟨hok, h1, h2, hV, ⟨by omega, by omega⟩, by omega, by omega⟩
theorem PercentsOf_impl {counts : List Int} {places : Int} (h2 : ∀ x ∈ counts, i64 x) (_ : i64 places) (hl : counts.length ≤ 1048576) {k : Nat} (hk : counts.length + 203000 < k) : Zao.f k counts places = some (PercentsOf_res counts places) := by
  obtain ⟨k, rfl, _⟩ := Za6 hk
  unfold Zao.f PercentsOf_res impl_size_int64.f
  rw [Option.bind_some, within_eq, Option.bind_some]
  have dec : decide (1 ≤ (counts.length : Int) ∧ (counts.length : Int) ≤ 40) = decide (1 ≤ counts.length ∧ counts.length ≤ 40) := decide_eq_decide.2 (by omega)
  rw [dec]
  by_cases c1 : 1 ≤ counts.length ∧ counts.length ≤ 40
  · rw [if_pos (decide_eq_true c1), areWithin_eq (by omega) _ _ (by omega), Option.bind_some]
    by_cases c2 : allIn counts 0 1000000 = true
    · have hin := allIn_iff.1 c2
      rw [if_pos c2, sum_eq (by omega) (fun x hx => by have := hin x hx; omega) (by omega), Option.bind_some]
      by_cases c3 : counts.sum = 0
      · rw [if_pos c3, if_neg (fun h => by
          have := h.1
          unfold pcOk at this
          rw [Bool.and_eq_true, Bool.and_eq_true, decide_eq_true_eq, decide_eq_true_eq] at this
          exact this.2.2 c3)]
        simp only [Zao.j0]
        rw [if_pos trivial]
      · have hpc : pcOk counts = true := by
          unfold pcOk
          rw [decide_eq_true c1, c2, decide_eq_true c3]; rfl
        rw [if_neg c3, within_eq, Option.bind_some]
        simp only [Zao.j0]
        by_cases c4 : 0 ≤ places ∧ places ≤ 3
        · rw [decide_eq_true c4, if_neg (by simp), if_pos ⟨hpc, c4⟩]
          obtain ⟨p, rfl⟩ : ∃ p : Nat, places = p := ⟨places.toNat, by omega⟩
          rw [Int.toNat_natCast]
          obtain ⟨hok, _, _, hV, hm, hfb⟩ := pc_facts hpc (p := p) (by omega)
          have hsum := okd_sum hok
          obtain ⟨up, e1, e2, _, _⟩ := bestImpl hok (by rw [List.length_map]; omega) hm.2 (nm := 0) (k := 100000) (by omega)
          have nums : ∀ k, 100100 < k → Zao.l1 k (whole p) counts (counts.length : Int) 0 counts.sum [] = some (bestL counts.sum (counts.map (· * whole p)) 0 (whole p - (fls counts.sum (counts.map (· * whole p))).sum).toNat, true) := by
            intro k hk
            have hw := whole_in (p := p) (by omega)
            refine loopIc0 (m := counts.length) 100010 (F := fun k i (s : List Int) => Zao.l1 k (whole p) counts (counts.length : Int) i counts.sum s) (fun i s => s = (counts.take i).map (· * whole p)) (fun r => r = some (bestL counts.sum (counts.map (· * whole p)) 0 (whole p - (fls counts.sum (counts.map (· * whole p))).sum).toNat, true)) ?_ ?_ (k := k) (s := []) (by omega) (by simp)
            · rintro k s hk rfl
              obtain ⟨up, e1, e2, _, _⟩ := bestImpl hok (by rw [List.length_map]; omega) hm.2 (nm := 0) (k := k) (by omega)
              have w1 : wrap64 (whole p - (fls counts.sum (counts.map (· * whole p))).sum) = ((whole p - (fls counts.sum (counts.map (· * whole p))).sum).toNat : Int) := by rw [w64 (by omega) (by omega)]; exact hm.1
              simp only [Zao.l1]
              rw [if_neg (by clear w1; omega), List.take_length, floors_eq hok (by clear w1; rw [List.length_map]; omega), Option.bind_some, sum_eq hsum.1 hsum.2.2.1 (by clear w1; rw [fls_length, List.length_map]; omega), Option.bind_some, w1, e1, Option.bind_some]
              simp only
              rw [e2]; rfl
            · rintro k i s hk hi rfl
              have hx := hin _ (List.getElem_mem hi)
              have a : 0 ≤ counts[i] * whole p := Int.mul_nonneg hx.1 (by omega)
              have b : counts[i] * whole p ≤ 1000000 * 100000 := Int.mul_le_mul hx.2 hw.2 (by omega) (by omega)
              refine .inl ⟨_, rfl, ?_⟩
              simp only [Zao.l1]
              rw [if_pos (by omega), if_pos (by omega), if_pos (by omega), if_pos (by rw [List.length_map, List.length_take]; omega), rd_nat hi, w64 (x := counts[i] * whole p) (by omega) (by omega), wrap_nat (by omega), List.take_add_one, List.getElem?_eq_getElem hi, Option.toList_some, List.map_append]
              rfl
          refine loopIc0 (m := p) 100200 (F := fun k i (s : Int) => Zao.l0 k counts s (p : Int) i) (fun i s => s = whole i) (fun r => r = some (bestL counts.sum (counts.map (· * whole p)) 0 (whole p - (fls counts.sum (counts.map (· * whole p))).sum).toNat, true)) ?_ ?_ (k := k) (s := 100) (by omega) rfl
          · rintro k s hk rfl
            simp only [Zao.l0]
            rw [if_neg (by omega), sum_eq (by omega) (fun x hx => by have := hin x hx; omega) (by omega), Option.bind_some]
            exact nums k (by omega)
          · rintro k i s hk hi rfl
            have hw := whole_in (p := i) (by omega)
            refine .inl ⟨_, rfl, ?_⟩
            simp only [Zao.l0]
            rw [if_pos (by omega), w64 (by omega) (by omega), wrap_nat (by omega), whole_succ]
        · rw [decide_eq_false c4, if_pos (show (!false) = true from rfl), if_neg (fun h => c4 h.2)]
    · rw [if_neg c2, if_neg (fun h => by
        have := h.1
        unfold pcOk at this
        rw [Bool.and_eq_true, Bool.and_eq_true] at this
        exact c2 this.2.1)]
      simp only [Zao.j0]
      rw [if_pos trivial]
  · rw [if_neg (by rw [decide_eq_true_eq]; exact c1), if_neg (fun h => by
      have := h.1
      unfold pcOk at this
      rw [Bool.and_eq_true, decide_eq_true_eq] at this
      exact c1 this.1)]
    simp only [Zao.j0]
    rw [if_pos trivial]
theorem PercentsOf_spec {counts : List Int} {places : Int} (h2 : ∀ x ∈ counts, i64 x) (_ : i64 places) (hl : counts.length ≤ 1048576) {k : Nat} (hk : counts.length + 203000 < k) : Zan.f k counts places = some (PercentsOf_res counts places) := by
  obtain ⟨k, rfl, _⟩ := Za6 hk
  unfold Zan.f PercentsOf_res
  have dec : decide (1 ≤ (counts.length : Int) ∧ (counts.length : Int) ≤ 40) = decide (1 ≤ counts.length ∧ counts.length ≤ 40) := decide_eq_decide.2 (by omega)
  rw [l00In_eq, Option.bind_some, dec]
  by_cases c1 : 1 ≤ counts.length ∧ counts.length ≤ 40
  · rw [if_pos (decide_eq_true c1), l00In_eq, Option.bind_some]
    simp only [Zan.j0]
    by_cases c4 : 0 ≤ places ∧ places ≤ 3
    · rw [decide_eq_true c4, if_neg (by simp)]
      obtain ⟨p, rfl⟩ : ∃ p : Nat, places = p := ⟨places.toNat, by omega⟩
      rw [Int.toNat_natCast]
      have main : pcOk counts = true → ∀ k, 5000 < k → Zan.l1 k counts (p : Int) counts.sum 100 0 = some (bestL counts.sum (counts.map (· * whole p)) 0 (whole p - (fls counts.sum (counts.map (· * whole p))).sum).toNat, true) := by
        intro hpc k hk
        obtain ⟨hok, _, hin, hV, hm, hfb⟩ := pc_facts hpc (p := p) (by omega)
        have hsum := okd_sum hok
        have hmul : (counts.map fun x => whole p * x) = counts.map (· * whole p) := List.map_congr_left fun x _ => Int.mul_comm ..
        have nums : ∀ k, 4500 < k → Zan.l2 k counts counts.sum (whole p) [] 0 = some (bestL counts.sum (counts.map (· * whole p)) 0 (whole p - (fls counts.sum (counts.map (· * whole p))).sum).toNat, true) := by
          intro k hk
          have hw := whole_in (p := p) (by omega)
          refine loopIc0 (m := counts.length) 4400 (F := fun k i (s : List Int) => Zan.l2 k counts counts.sum (whole p) s i) (fun i s => s = (counts.take i).map (fun x => whole p * x)) (fun r => r = some (bestL counts.sum (counts.map (· * whole p)) 0 (whole p - (fls counts.sum (counts.map (· * whole p))).sum).toNat, true)) ?_ ?_ (k := k) (s := []) (by omega) (by simp)
          · rintro k s hk rfl
            have w1 : wrap64 (whole p - (fls counts.sum (counts.map (· * whole p))).sum) = ((whole p - (fls counts.sum (counts.map (· * whole p))).sum).toNat : Int) := by rw [w64 (by omega) (by omega)]; exact hm.1
            have hnl : (counts.map (· * whole p)).length = counts.length := List.length_map ..
            have b1 : (counts.map (· * whole p)).length < k := by clear w1; omega
            have b2 : (fls counts.sum (counts.map (· * whole p))).length < k := by clear w1; rw [fls_length]; exact b1
            simp only [Zan.l2]
            rw [if_neg (by clear w1; omega), List.take_length, hmul, l04Floors_eq hok b1, Option.bind_some, l04Rests_eq hok b1, Option.bind_some, l01Sum_eq hsum.1 hsum.2.2.1 b2, Option.bind_some, w1]
            clear w1
            have hpl : (above counts.sum (counts.map (· * whole p)) 0 (counts.map (· * whole p)).length).length ≤ counts.length := by
              have := List.length_filter_le (fun i => decide (0 < rst counts.sum (counts.map (· * whole p)) i)) (List.range (counts.map (· * whole p)).length)
              rw [List.length_range, List.length_map] at this
              rw [List.length_map]
              exact this
            obtain ⟨W, e, hW, hWl⟩ := greedy hok (by omega) (whole p - (fls counts.sum (counts.map (· * whole p))).sum).toNat k [] ((counts.map (· * whole p)).map fun x => x - counts.sum * (x / counts.sum)) ⟨List.nodup_nil, fun i hi => by simp at hi, fun i hi => by simp at hi⟩ (List.length_map ..) (fun i hi => by rw [rests_rd hi, if_neg (by simp)]) (by rw [List.length_nil, Nat.zero_add]; exact hm.2) (by omega) (by omega)
            rw [show incs (fls counts.sum (counts.map (· * whole p))) [] = fls counts.sum (counts.map (· * whole p)) from rfl] at e
            rw [e]
            congr 2
            obtain ⟨B, up, hB, _, _⟩ := plan_eq hok (by omega) hm.2 (nm := 0) (k := 30001) (by omega)
            unfold bestL frees lefts
            rw [BDof_eq hB]
            have hb := hB.2.1.2
            rcases best_TOPS (V := counts.sum) (nums := counts.map (· * whole p)) (b := (B : Int)) ((zerosL counts.sum (counts.map (· * whole p)) 0 (B : Int) (counts.map (· * whole p)).length).length - ((whole p - (fls counts.sum (counts.map (· * whole p))).sum).toNat - (onesL counts.sum (counts.map (· * whole p)) 0 (B : Int) (counts.map (· * whole p)).length).length)) with ht | ht
            · refine incs_perm (TOPS_perm hW ht ?_) hW.1 (fun q hq => by rw [fls_length]; exact (hW.2.1 q hq).1)
              rw [hWl, List.length_append, List.length_drop, List.length_nil]; omega
            · have := hB.1; omega
          · rintro k i s hk hi rfl
            have hx := hin _ (List.getElem_mem hi)
            have a : 0 ≤ whole p * counts[i] := Int.mul_nonneg (by omega) hx.1
            have b : whole p * counts[i] ≤ 100000 * 1000000 := Int.mul_le_mul hw.2 hx.2 (by omega) (by omega)
            refine .inl ⟨_, rfl, ?_⟩
            simp only [Zan.l2]
            rw [if_pos (by omega), if_pos (by omega), if_pos (by rw [List.length_map, List.length_take]; omega), rd_nat hi, w64 (x := whole p * counts[i]) (by omega) (by omega), wrap_nat (by omega), List.take_add_one, List.getElem?_eq_getElem hi, Option.toList_some, List.map_append]
            rfl
        refine loopIc0 (m := p) 4600 (F := fun k i (s : Int) => Zan.l1 k counts (p : Int) counts.sum s i) (fun i s => s = whole i) (fun r => r = some (bestL counts.sum (counts.map (· * whole p)) 0 (whole p - (fls counts.sum (counts.map (· * whole p))).sum).toNat, true)) ?_ ?_ (k := k) (s := 100) (by omega) rfl
        · rintro k s hk rfl
          simp only [Zan.l1]
          rw [if_neg (by omega)]
          exact nums k (by omega)
        · rintro k i s hk hi rfl
          have hw := whole_in (p := i) (by omega)
          refine .inl ⟨_, rfl, ?_⟩
          simp only [Zan.l1]
          rw [if_pos (by omega), w64 (by omega) (by omega), wrap_nat (by omega), whole_succ]
      by_cases c2 : allIn counts 0 1000000 = true
      · have hin := allIn_iff.1 c2
        refine loopIc0 (m := counts.length) 5100 (F := fun k i (s : Int) => Zan.l0 k counts (p : Int) s i) (fun i s => s = (counts.take i).sum ∧ 0 ≤ s ∧ s ≤ 1000000 * (i : Int)) (fun r => r = some (if pcOk counts = true ∧ 0 ≤ (p : Int) ∧ (p : Int) ≤ 3 then (bestL counts.sum (counts.map (· * whole p)) 0 (whole p - (fls counts.sum (counts.map (· * whole p))).sum).toNat, true) else ([], false))) ?_ ?_ (k := k) (s := 0) (by omega) (by simp)
        · rintro k s hk ⟨rfl, _, _⟩
          simp only [Zan.l0]
          rw [if_neg (by omega), List.take_length]
          by_cases c3 : counts.sum = 0
          · rw [if_pos c3, if_neg (fun h => by
              have := h.1
              unfold pcOk at this
              rw [Bool.and_eq_true, Bool.and_eq_true, decide_eq_true_eq, decide_eq_true_eq] at this
              exact this.2.2 c3)]
          · have hpc : pcOk counts = true := by
              unfold pcOk
              rw [decide_eq_true c1, c2, decide_eq_true c3]; rfl
            rw [if_neg c3, if_pos ⟨hpc, c4⟩]
            exact main hpc k (by omega)
        · rintro k i s hk hi ⟨rfl, h5, h6⟩
          have hx := hin _ (List.getElem_mem hi)
          refine .inl ⟨(counts.take (i + 1)).sum, ⟨rfl, ?_⟩, ?_⟩
          · rw [sum_take _ _ hi]; omega
          · simp only [Zan.l0]
            rw [if_pos (by omega), if_pos (by omega), rd_nat hi, l00In_eq, Option.bind_some, if_pos (decide_eq_true hx), w64 (by omega) (by omega), wrap_nat (by omega), sum_take _ _ hi]
      · rw [if_neg (fun h => by
          have := h.1
          unfold pcOk at this
          rw [Bool.and_eq_true, Bool.and_eq_true] at this
          exact c2 this.2.1)]
        have bad : ∃ i, ∃ hi : i < counts.length, ¬ (0 ≤ counts[i] ∧ counts[i] ≤ 1000000) := by
          apply Classical.byContradiction; intro hc
          refine c2 (allIn_iff.2 fun x hx => ?_)
          obtain ⟨i, hi, rfl⟩ := List.mem_iff_getElem.1 hx
          exact Classical.byContradiction fun hq => hc ⟨i, hi, hq⟩
        obtain ⟨i0, hi0, hbad⟩ := bad
        obtain ⟨q, _, ⟨hq, hqb⟩, hqm⟩ := least_exists (P := fun i => ∃ hi : i < counts.length, ¬ (0 ≤ counts[i] ∧ counts[i] ≤ 1000000)) i0 ⟨hi0, hbad⟩
        refine loopIc0 (m := q) 10 (F := fun k i (s : Int) => Zan.l0 k counts (p : Int) s i) (fun i s => 0 ≤ s ∧ s ≤ 1000000 * (i : Int)) (fun r => r = some ([], false)) ?_ ?_ (k := k) (s := 0) (by omega) (by simp)
        · rintro k s hk _
          simp only [Zan.l0]
          rw [if_pos (by omega), if_pos (by omega), rd_nat hq, l00In_eq, Option.bind_some, if_neg (by rw [decide_eq_true_eq]; exact hqb)]
        · rintro k i s hk hi ⟨h5, h6⟩
          have hx : 0 ≤ counts[i]'(by omega) ∧ counts[i]'(by omega) ≤ 1000000 := Classical.byContradiction fun hc => hqm i hi ⟨by omega, hc⟩
          refine .inl ⟨s + counts[i]'(by omega), by omega, ?_⟩
          simp only [Zan.l0]
          rw [if_pos (by omega), if_pos (by omega), rd_nat (by omega), l00In_eq, Option.bind_some, if_pos (decide_eq_true hx), w64 (by omega) (by omega), wrap_nat (by omega)]
    · rw [decide_eq_false c4, if_pos (show (!false) = true from rfl), if_neg (fun h => c4 h.2)]
  · rw [if_neg (by rw [decide_eq_true_eq]; exact c1), if_neg (fun h => by
      have := h.1
      unfold pcOk at this
      rw [Bool.and_eq_true, decide_eq_true_eq] at this
      exact c1 this.1)]
    simp only [Zan.j0]
    rw [if_pos trivial]
theorem PercentsOf_len (counts : List Int) (places : Int) : (PercentsOf_res counts places).1.length ≤ 100 := by
  unfold PercentsOf_res
  split
  · rename_i h
    have := h.1
    unfold pcOk at this
    rw [Bool.and_eq_true, decide_eq_true_eq] at this
    unfold bestL
    rw [incs_length, fls_length, List.length_map]; omega
  · simp
end Go.Proofs.Ytgmmfdilfpkbmaa.Q
end
