/- The worth of one more seat: how the program and the reference compare it, and that it is an order. -/
import Derived.Test.YtebofadnefkacaaQ5FnLosses

namespace Go.Proofs.Ytebofadnefkacaa.Q
open Go.RowKit Go.Proofs.YtebofadnefkacaaW.PrintWords Go.Proofs.YtebofadnefkacaaW.PrintLast Go.Proofs.Ytebofadnefkacaa.P Go.Proofs.Ytebofadnefkacaa.B
set_option linter.unusedVariables false
set_option linter.unusedSimpArgs false

/-- The worth of one more seat for v votes and k seats, as a fraction. -/
def wo (m v k : Int) : Int × Int := if v = 0 then (0, 1) else if m = 0 then (v, k) else if m = 1 then (v * v, k * (k + 1)) else if m = 2 then (2 * v, 2 * k + 1) else (v, k + 1)
/-- How two worths compare. -/
def ag (p q : Int × Int) : Int := if p.2 = 0 ∧ q.2 = 0 then (p.1 - q.1).sign else if p.2 = 0 then 1 else if q.2 = 0 then -1 else (p.1 * q.2 - q.1 * p.2).sign
def wk (p : Int × Int) : Prop := (0 ≤ p.1 ∧ p.1 ≤ 1000000000000) ∧ (0 ≤ p.2 ∧ p.2 ≤ 20000) ∧ (p.2 = 0 → 1 ≤ p.1)
theorem mul_nn {a b A B : Int} (ha : 0 ≤ a ∧ a ≤ A) (hb : 0 ≤ b ∧ b ≤ B) : 0 ≤ a * b ∧ a * b ≤ A * B := ⟨Int.mul_nonneg ha.1 hb.1, Int.mul_le_mul ha.2 hb.2 hb.1 (by omega)⟩
theorem wo_wk {m v k : Int} (hv : 0 ≤ v ∧ v ≤ 1000000) (hk : 0 ≤ k ∧ k ≤ 102) : wk (wo m v k) := by
  have h1 := mul_nn hv hv
  have h2 := mul_nn (a := k) (b := k + 1) (A := 102) (B := 103) hk (by omega)
  have h3 : v ≠ 0 → 1 ≤ v * v := fun h => by
    have := Int.mul_le_mul (a := 1) (b := 1) (c := v) (d := v) (by omega) (by omega) (by omega) (by omega)
    omega
  unfold wk wo
  split
  · simp
  · split
    · simp only; omega
    · split
      · simp only; omega
      · split <;> (simp only; omega)
theorem ag_swap {p q : Int × Int} : ag q p = -(ag p q) := by
  unfold ag
  by_cases c1 : p.2 = 0 <;> by_cases c2 : q.2 = 0 <;> simp only [c1, c2, and_self, and_true, true_and, and_false, false_and, if_true, if_false]
  · rw [← Int.sign_neg]; congr 1; omega
  · simp
  · rw [← Int.sign_neg]; congr 1; omega
theorem sign_cases (x : Int) : (x < 0 ∧ x.sign = -1) ∨ (x = 0 ∧ x.sign = 0) ∨ (0 < x ∧ x.sign = 1) := by
  rcases Int.lt_trichotomy x 0 with h | h | h
  · exact .inl ⟨h, Int.sign_eq_neg_one_of_neg h⟩
  · exact .inr (.inl ⟨h, by rw [h]; rfl⟩)
  · exact .inr (.inr ⟨h, Int.sign_eq_one_of_pos h⟩)
theorem sign_le {x : Int} : x.sign ≤ 0 ↔ x ≤ 0 := by rcases sign_cases x with h | h | h <;> omega
theorem sign_lt {x : Int} : x.sign < 0 ↔ x < 0 := by rcases sign_cases x with h | h | h <;> omega
theorem sign_in (x : Int) : -1 ≤ x.sign ∧ x.sign ≤ 1 := by rcases sign_cases x with h | h | h <;> omega
theorem ag_in (p q : Int × Int) : -1 ≤ ag p q ∧ ag p q ≤ 1 := by
  unfold ag
  split
  · exact sign_in _
  · split
    · omega
    · split
      · omega
      · exact sign_in _
theorem ag_refl (p : Int × Int) : ag p p = 0 := by have := ag_swap (p := p) (q := p); omega
/-- A worth is at most another. -/
theorem ag_le {p q : Int × Int} (hp : wk p) (hq : wk q) : ag p q ≤ 0 ↔ (if q.2 = 0 then (p.2 = 0 → p.1 ≤ q.1) else p.2 ≠ 0 ∧ p.1 * q.2 ≤ q.1 * p.2) := by
  unfold ag
  by_cases c1 : p.2 = 0 <;> by_cases c2 : q.2 = 0 <;> simp only [c1, c2, and_self, and_true, true_and, and_false, false_and, if_true, if_false, not_true_eq_false, not_false_eq_true, ne_eq, false_implies, true_implies, sign_le, eq_self]
  · first | omega | simp
  · first | omega | simp
  · first | omega | simp
  · first | omega | simp
theorem mul_le_cancel {a b c : Int} (hc : 0 < c) (h : a * c ≤ b * c) : a ≤ b := Int.le_of_mul_le_mul_right h hc
theorem ag_trans {p q r : Int × Int} (hp : wk p) (hq : wk q) (hr : wk r) (h1 : ag p q ≤ 0) (h2 : ag q r ≤ 0) : ag p r ≤ 0 := by
  rw [ag_le hp hq] at h1
  rw [ag_le hq hr] at h2
  rw [ag_le hp hr]
  by_cases c3 : r.2 = 0
  · rw [if_pos c3] at h2 ⊢
    intro hp2
    by_cases c2 : q.2 = 0
    · rw [if_pos c2] at h1
      have := h1 hp2
      have := h2 c2
      omega
    · rw [if_neg c2] at h1
      exact absurd hp2 h1.1
  · rw [if_neg c3] at h2 ⊢
    rw [if_neg h2.1] at h1
    refine ⟨h1.1, mul_le_cancel (c := q.2) (by have := hq.2.1; have := h2.1; omega) ?_⟩
    have e1 : p.1 * q.2 * r.2 ≤ q.1 * p.2 * r.2 := Int.mul_le_mul_of_nonneg_right h1.2 hr.2.1.1
    have e2 : q.1 * r.2 * p.2 ≤ r.1 * q.2 * p.2 := Int.mul_le_mul_of_nonneg_right h2.2 hp.2.1.1
    have r1 : p.1 * r.2 * q.2 = p.1 * q.2 * r.2 := Int.mul_right_comm ..
    have r2 : q.1 * p.2 * r.2 = q.1 * r.2 * p.2 := Int.mul_right_comm ..
    have r3 : r.1 * p.2 * q.2 = r.1 * q.2 * p.2 := Int.mul_right_comm ..
    omega
theorem ag_total (p q : Int × Int) : ag p q ≤ 0 ∨ ag q p ≤ 0 := by have := ag_swap (p := p) (q := q); omega
/-- How the worth of one more seat compares. -/
def cm (m v k w l : Int) : Int := ag (wo m v k) (wo m w l)
theorem sign_mul_pos {a b : Int} (hb : 0 < b) : (a * b).sign = a.sign := by rw [Int.sign_mul, Int.sign_eq_one_of_pos hb, Int.mul_one]
/-- The square of the divisor, four times. -/
def dv (m k : Int) : Int := if m = 0 then 4 * k * k else if m = 1 then 4 * k * (k + 1) else if m = 2 then (2 * k + 1) * (2 * k + 1) else 4 * (k + 1) * (k + 1)
theorem dv_in {m k : Int} (hk : 0 ≤ k ∧ k ≤ 102) : 0 ≤ dv m k ∧ dv m k ≤ 50000 := by
  have h1 := mul_nn (a := 4 * k) (b := k) (A := 408) (B := 102) (by omega) hk
  have h2 := mul_nn (a := 4 * k) (b := k + 1) (A := 408) (B := 103) (by omega) (by omega)
  have h3 := mul_nn (a := 2 * k + 1) (b := 2 * k + 1) (A := 205) (B := 205) (by omega) (by omega)
  have h4 := mul_nn (a := 4 * (k + 1)) (b := k + 1) (A := 412) (B := 103) (by omega) (by omega)
  unfold dv
  split
  · omega
  · split
    · omega
    · split <;> omega
theorem dv_zero {m v k : Int} (hv : v ≠ 0) (hk : 0 ≤ k) : dv m k = 0 ↔ (wo m v k).2 = 0 := by
  unfold dv wo
  rw [if_neg hv]
  split
  · simp only; rw [Int.mul_assoc, Int.mul_eq_zero]; try rw [Int.mul_eq_zero]
    omega
  · split
    · simp only; rw [Int.mul_assoc, Int.mul_eq_zero]; omega
    · split
      · simp only; rw [Int.mul_eq_zero]; omega
      · simp only; rw [Int.mul_eq_zero]; omega
theorem dv_inf {m v k : Int} (hm : 0 ≤ m ∧ m ≤ 3) (hk : 0 ≤ k) (hv : v ≠ 0) (h : (wo m v k).2 = 0) : (wo m v k).1 = v ∧ m = 0 ∨ (wo m v k).1 = v * v ∧ m = 1 := by
  unfold wo at h ⊢
  rw [if_neg hv] at h ⊢
  by_cases c0 : m = 0
  · rw [if_pos c0]; exact .inl ⟨rfl, c0⟩
  · rw [if_neg c0] at h ⊢
    by_cases c1 : m = 1
    · rw [if_pos c1]; exact .inr ⟨rfl, c1⟩
    · rw [if_neg c1] at h
      by_cases c2 : m = 2
      · rw [if_pos c2] at h; simp only at h; omega
      · rw [if_neg c2] at h; simp only at h; omega
theorem sq_sub (a b : Int) : a * a - b * b = (a - b) * (a + b) := by rw [Int.sub_mul, Int.mul_add, Int.mul_add, Int.mul_comm b a]; omega
/-- The comparison of the reference, told by the squares. -/
def cs (m v k w l : Int) : Int := if v = 0 ∨ w = 0 then (v - w).sign else if dv m k = 0 ∧ dv m l = 0 then (v - w).sign else if dv m k = 0 ∨ dv m l = 0 then (dv m l - dv m k).sign else (v * v * dv m l - w * w * dv m k).sign
theorem cs_cm {m v k w l : Int} (hm : 0 ≤ m ∧ m ≤ 3) (hv : 0 ≤ v) (hw : 0 ≤ w) (hk : 0 ≤ k) (hl : 0 ≤ l) : cs m v k w l = cm m v k w l := by
  have pos : ∀ {x y : Int}, 0 ≤ x → x ≠ 0 → 0 < x := fun h1 h2 => by omega
  have dn : ∀ k : Int, 0 ≤ k → 0 ≤ dv m k := fun k hk => by
    unfold dv
    split
    · exact Int.mul_nonneg (by omega) hk
    · split
      · exact Int.mul_nonneg (by omega) (by omega)
      · split
        · exact Int.mul_nonneg (by omega) (by omega)
        · exact Int.mul_nonneg (by omega) (by omega)
  have w2 : ∀ v k : Int, 0 ≤ v → 0 ≤ k → 0 ≤ (wo m v k).2 := fun v k hv hk => by
    unfold wo
    split
    · simp
    · split
      · exact hk
      · split
        · exact Int.mul_nonneg hk (by omega)
        · split <;> (simp only; omega)
  have w1 : ∀ v k : Int, 0 ≤ v → v ≠ 0 → 1 ≤ (wo m v k).1 := fun v k hv h0 => by
    unfold wo
    rw [if_neg h0]
    split
    · simp only; omega
    · split
      · have := Int.mul_le_mul (a := 1) (b := 1) (c := v) (d := v) (by omega) (by omega) (by omega) (by omega)
        simp only; omega
      · split <;> (simp only; omega)
  unfold cs cm
  by_cases v0 : v = 0
  · subst v0
    rw [if_pos (.inl rfl)]
    have e : wo m 0 k = (0, 1) := by unfold wo; rw [if_pos rfl]
    rw [e]
    by_cases w0 : w = 0
    · subst w0
      have e : wo m 0 l = (0, 1) := by unfold wo; rw [if_pos rfl]
      rw [e]; rfl
    · have h1 := w1 w l hw w0
      unfold ag
      rw [if_neg (by simp), if_neg (by simp)]
      by_cases c : (wo m w l).2 = 0
      · rw [if_pos c]; exact Int.sign_eq_neg_one_of_neg (by omega)
      · rw [if_neg c, Int.sign_eq_neg_one_of_neg (show (0 : Int) - w < 0 by omega), Int.sign_eq_neg_one_of_neg (by simp only; omega)]
  · by_cases w0 : w = 0
    · subst w0
      rw [if_pos (.inr rfl)]
      have e : wo m 0 l = (0, 1) := by unfold wo; rw [if_pos rfl]
      rw [e]
      have h1 := w1 v k hv v0
      unfold ag
      rw [if_neg (by simp)]
      by_cases c : (wo m v k).2 = 0
      · rw [if_pos c]; exact Int.sign_eq_one_of_pos (by omega)
      · rw [if_neg c, if_neg (by simp), Int.sign_eq_one_of_pos (show 0 < v - 0 by omega), Int.sign_eq_one_of_pos (by simp only; omega)]
    · rw [if_neg (by simp [v0, w0])]
      have z1 := dv_zero (m := m) v0 hk
      have z2 := dv_zero (m := m) w0 hl
      unfold ag
      by_cases c1 : dv m k = 0
      · have c1' := z1.1 c1
        by_cases c2 : dv m l = 0
        · have c2' := z2.1 c2
          rw [if_pos ⟨c1, c2⟩, if_pos ⟨c1', c2'⟩]
          rcases dv_inf hm hk v0 c1' with ⟨h1, g1⟩ | ⟨h1, g1⟩ <;> rcases dv_inf hm hl w0 c2' with ⟨h2, g2⟩ | ⟨h2, g2⟩ <;> first | omega | skip
          · rw [h1, h2]
          · rw [h1, h2, sq_sub, sign_mul_pos (by omega)]
        · have c2' : ¬ (wo m w l).2 = 0 := fun h => c2 (z2.2 h)
          have := dn l hl
          rw [if_neg (show ¬ (dv m k = 0 ∧ dv m l = 0) from fun h => c2 h.2), if_pos (show dv m k = 0 ∨ dv m l = 0 from .inl c1), if_neg (show ¬ ((wo m v k).2 = 0 ∧ (wo m w l).2 = 0) from fun h => c2' h.2), if_pos c1', c1, Int.sub_zero, Int.sign_eq_one_of_pos (by omega)]
      · have c1' : ¬ (wo m v k).2 = 0 := fun h => c1 (z1.2 h)
        rw [if_neg (show ¬ (dv m k = 0 ∧ dv m l = 0) from fun h => c1 h.1), if_neg (show ¬ ((wo m v k).2 = 0 ∧ (wo m w l).2 = 0) from fun h => c1' h.1), if_neg c1']
        by_cases c2 : dv m l = 0
        · have c2' := z2.1 c2
          have := dn k hk
          rw [if_pos (show dv m k = 0 ∨ dv m l = 0 from .inr c2), if_pos c2', c2, Int.sign_eq_neg_one_of_neg (by omega)]
        · have c2' : ¬ (wo m w l).2 = 0 := fun h => c2 (z2.2 h)
          rw [if_neg (show ¬ (dv m k = 0 ∨ dv m l = 0) by simp [c1, c2]), if_neg c2']
          have p1 := w2 v k hv hk
          have p2 := w2 w l hw hl
          clear z1 z2
          unfold dv wo at *
          rw [if_neg v0] at c1' p1
          rw [if_neg w0] at c2' p2
          rw [if_neg v0, if_neg w0]
          by_cases m0 : m = 0
          · rw [if_pos m0] at c1' c2' p1 p2
            simp only [if_pos m0] at *
            have e : v * v * (4 * l * l) - w * w * (4 * k * k) = ((v * l) * (v * l) - (w * k) * (w * k)) * 4 := by
              have e1 : v * v * (4 * l * l) = (v * l) * (v * l) * 4 := by simp only [Int.mul_comm, Int.mul_left_comm, Int.mul_assoc]
              have e2 : w * w * (4 * k * k) = (w * k) * (w * k) * 4 := by simp only [Int.mul_comm, Int.mul_left_comm, Int.mul_assoc]
              rw [e1, e2]; omega
            have q1 : 0 < v * l := Int.mul_pos (by omega) (by omega)
            have q2 : 0 < w * k := Int.mul_pos (by omega) (by omega)
            rw [e, sign_mul_pos (by omega), sq_sub, sign_mul_pos (by omega)]
          · rw [if_neg m0] at c1' c2' p1 p2
            simp only [if_neg m0] at *
            by_cases m1 : m = 1
            · simp only [if_pos m1] at *
              have e : v * v * (4 * l * (l + 1)) - w * w * (4 * k * (k + 1)) = ((v * v) * (l * (l + 1)) - (w * w) * (k * (k + 1))) * 4 := by
                have e1 : v * v * (4 * l * (l + 1)) = (v * v) * (l * (l + 1)) * 4 := by
                  generalize l + 1 = x
                  simp only [Int.mul_comm, Int.mul_left_comm, Int.mul_assoc]
                have e2 : w * w * (4 * k * (k + 1)) = (w * w) * (k * (k + 1)) * 4 := by
                  generalize k + 1 = x
                  simp only [Int.mul_comm, Int.mul_left_comm, Int.mul_assoc]
                rw [e1, e2]; omega
              rw [e, sign_mul_pos (by omega)]
            · simp only [if_neg m1] at *
              by_cases m2 : m = 2
              · simp only [if_pos m2] at *
                have e : v * v * ((2 * l + 1) * (2 * l + 1)) - w * w * ((2 * k + 1) * (2 * k + 1)) = (v * (2 * l + 1)) * (v * (2 * l + 1)) - (w * (2 * k + 1)) * (w * (2 * k + 1)) := by
                  have e1 : v * v * ((2 * l + 1) * (2 * l + 1)) = (v * (2 * l + 1)) * (v * (2 * l + 1)) := by
                    generalize 2 * l + 1 = x
                    simp only [Int.mul_comm, Int.mul_left_comm, Int.mul_assoc]
                  have e2 : w * w * ((2 * k + 1) * (2 * k + 1)) = (w * (2 * k + 1)) * (w * (2 * k + 1)) := by
                    generalize 2 * k + 1 = x
                    simp only [Int.mul_comm, Int.mul_left_comm, Int.mul_assoc]
                  rw [e1, e2]
                have q1 : 0 < v * (2 * l + 1) := Int.mul_pos (by omega) (by omega)
                have q2 : 0 < w * (2 * k + 1) := Int.mul_pos (by omega) (by omega)
                rw [e, sq_sub, sign_mul_pos (by omega)]
                have e3 : 2 * v * (2 * l + 1) - 2 * w * (2 * k + 1) = (v * (2 * l + 1) - w * (2 * k + 1)) * 2 := by rw [Int.mul_assoc, Int.mul_assoc]; omega
                rw [e3, sign_mul_pos (by omega)]
              · simp only [if_neg m2] at *
                have e : v * v * (4 * (l + 1) * (l + 1)) - w * w * (4 * (k + 1) * (k + 1)) = ((v * (l + 1)) * (v * (l + 1)) - (w * (k + 1)) * (w * (k + 1))) * 4 := by
                  have e1 : v * v * (4 * (l + 1) * (l + 1)) = (v * (l + 1)) * (v * (l + 1)) * 4 := by
                    generalize l + 1 = x
                    simp only [Int.mul_comm, Int.mul_left_comm, Int.mul_assoc]
                  have e2 : w * w * (4 * (k + 1) * (k + 1)) = (w * (k + 1)) * (w * (k + 1)) * 4 := by
                    generalize k + 1 = x
                    simp only [Int.mul_comm, Int.mul_left_comm, Int.mul_assoc]
                  rw [e1, e2]; omega
                have q1 : 0 < v * (l + 1) := Int.mul_pos (by omega) (by omega)
                have q2 : 0 < w * (k + 1) := Int.mul_pos (by omega) (by omega)
                rw [e, sign_mul_pos (by omega), sq_sub, sign_mul_pos (by omega)]
end Go.Proofs.Ytebofadnefkacaa.Q
