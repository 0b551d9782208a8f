/- The law FnDivided answers true at all arguments: floors and ceilings enclose a fraction, the nearest integer is one of them and not farther than the other one, and ratios compare as their products do. No condition. -/
import Derived.Test.YtgkgkaphdfhcnaaQB
import Derived.Test.YtgkgkaphdfhcnaaP1
import Derived.Test.YtgkgkaphdfhcnaaP2
import Derived.Test.YtgkgkaphdfhcnaaP3
import Derived.Test.YtgkgkaphdfhcnaaP15
namespace Go.Proofs.Ytgkgkaphdfhcnaa.Pure
open Go.RowKit Go.Proofs.YtgkgkaphdfhcnaaW.PrintWords Go.Proofs.YtgkgkaphdfhcnaaW.PrintLast Go.Proofs.Ytgkgkaphdfhcnaa.P Go.Proofs.Ytgkgkaphdfhcnaa.B Go.Proofs.Ytgkgkaphdfhcnaa.Q

theorem divFloor_in {a b : Int} (h1 : -30000 ≤ a ∧ a ≤ 40000) (h2 : 1 ≤ b ∧ b ≤ 256) : impl_DivFloor.f a b = some (a / b, true) := by
  unfold impl_DivFloor.f impl_divided_floor.f
  rw [within_eq, within_eq, floor_eq h2.1 (by omega) (by omega)]
  have e1 : decide (-1000000000 ≤ a ∧ a ≤ 1000000000) = true := decide_eq_true (by omega)
  have e2 : decide (1 ≤ b ∧ b ≤ 1000000000) = true := decide_eq_true (by omega)
  rw [e1, e2]; rfl
theorem divCeiling_in {a b : Int} (h1 : -30000 ≤ a ∧ a ≤ 40000) (h2 : 1 ≤ b ∧ b ≤ 256) : impl_DivCeiling.f a b = some (cl a b, true) := by
  unfold impl_DivCeiling.f impl_divided_ceiling.f
  rw [within_eq, within_eq, ceiling_eq h2.1 (by omega) (by omega)]
  have e1 : decide (-1000000000 ≤ a ∧ a ≤ 1000000000) = true := decide_eq_true (by omega)
  have e2 : decide (1 ≤ b ∧ b ≤ 1000000000) = true := decide_eq_true (by omega)
  rw [e1, e2]; rfl
theorem divNearest_in {a b : Int} (h1 : -30000 ≤ a ∧ a ≤ 40000) (h2 : 1 ≤ b ∧ b ≤ 256) : impl_DivNearest.f a b = some (nr a b, true) := by
  unfold impl_DivNearest.f impl_divided_nearest.f
  rw [within_eq, within_eq, nearest_eq h2.1 (by omega) (by omega) (by omega)]
  have e1 : decide (-1000000000 ≤ a ∧ a ≤ 1000000000) = true := decide_eq_true (by omega)
  have e2 : decide (1 ≤ b ∧ b ≤ 1000000000) = true := decide_eq_true (by omega)
  rw [e1, e2]; rfl
theorem prod_in {a d : Int} (h1 : -30000 ≤ a ∧ a ≤ 40000) (h2 : 1 ≤ d ∧ d ≤ 256) : -100000000 ≤ a * d ∧ a * d ≤ 100000000 := by
  have x1 := Int.mul_le_mul_of_nonneg_right h1.1 (show 0 ≤ d by omega)
  have x2 := Int.mul_le_mul_of_nonneg_right h1.2 (show 0 ≤ d by omega)
  omega
theorem compare_in {a b c d : Int} (h1 : -30000 ≤ a ∧ a ≤ 40000) (h2 : 1 ≤ b ∧ b ≤ 256) (h3 : -30000 ≤ c ∧ c ≤ 40000) (h4 : 1 ≤ d ∧ d ≤ 256) {k : Nat} (hk : 3 ≤ k) : impl_CompareRatios.f k a b c d = some ((a * d - c * b).sign, true) := by
  unfold impl_CompareRatios.f
  rw [areWithin_eq (by simp) _ _ (by simp; omega), areWithin_eq (by simp) _ _ (by simp; omega)]
  have e1 : allIn [a, c] (-1000000000) 1000000000 = true := by simp [allIn]; omega
  have e2 : allIn [b, d] 1 1000000000 = true := by simp [allIn]; omega
  have p1 := prod_in h1 h4
  have p2 := prod_in h3 h2
  rw [e1, e2, w64 (x := a * d) (by omega) (by omega), w64 (x := c * b) (by omega) (by omega)]
  simp [compare_eq]
/-- What the law compares, for a quotient q and a rest r. -/
theorem parts (a b : Int) (hb : 1 ≤ b) : ∃ q r : Int, a = q * b + r ∧ 0 ≤ r ∧ r < b ∧ a / b = q ∧ cl a b = (if r = 0 then q else q + 1) ∧ nr a b = (if 2 * r > b then q + 1 else if 2 * r = b then (if q % 2 = 0 then q else q + 1) else q) := by
  have h := ediv_mul_le (a := a) hb
  have h2 := cl_mul (a := a) hb
  refine ⟨a / b, a - a / b * b, by omega, by omega, by omega, rfl, ?_, rfl⟩
  split
  · rename_i e
    have : cl a b * b = a / b * b ∨ cl a b < a / b ∨ a / b < cl a b := by
      by_cases c : cl a b = a / b
      · exact .inl (by rw [c])
      · omega
    rcases Int.lt_trichotomy (cl a b) (a / b) with c | c | c
    · have := Int.mul_le_mul_of_nonneg_right (show cl a b ≤ a / b - 1 by omega) (show 0 ≤ b by omega)
      rw [Int.sub_mul] at this; omega
    · exact c
    · have := Int.mul_le_mul_of_nonneg_right (show a / b + 1 ≤ cl a b by omega) (show 0 ≤ b by omega)
      rw [Int.add_mul] at this; omega
  · rename_i e
    rcases Int.lt_trichotomy (cl a b) (a / b + 1) with c | c | c
    · have := Int.mul_le_mul_of_nonneg_right (show cl a b ≤ a / b by omega) (show 0 ≤ b by omega)
      omega
    · exact c
    · have := Int.mul_le_mul_of_nonneg_right (show a / b + 2 ≤ cl a b by omega) (show 0 ≤ b by omega)
      rw [Int.add_mul] at this; omega
theorem tail_ok {a b c d g h n : Int} {q r : Int} (h1 : -30000 ≤ a ∧ a ≤ 40000) (h2 : 1 ≤ b ∧ b ≤ 256) (h3 : -30000 ≤ c ∧ c ≤ 40000) (h4 : 1 ≤ d ∧ d ≤ 256) (ha : a = q * b + r) (hr : 0 ≤ r) (hr2 : r < b)
    (hg : g = (if r = 0 then q else q + 1)) (hh : h = (if 2 * r > b then q + 1 else if 2 * r = b then (if q % 2 = 0 then q else q + 1) else q)) (hn : n = (a * d - c * b).sign) (k : Nat) :
    laws_FnDivided.j0 (k + 1) a b c d q g h n false = some true := by
  have p1 := prod_in h1 h4
  have p2 := prod_in h3 h2
  have e1 : (q + 1) * b = q * b + b := by rw [Int.add_mul, Int.one_mul]
  have hs : n < 0 ∧ a * d < c * b ∨ n = 0 ∧ a * d = c * b ∨ 0 < n ∧ c * b < a * d := by
    rcases Int.lt_trichotomy (a * d) (c * b) with x | x | x
    · exact .inl ⟨by rw [hn, Int.sign_eq_neg_one_of_neg (by omega)]; omega, x⟩
    · exact .inr (.inl ⟨by rw [hn, show a * d - c * b = 0 by omega]; rfl, x⟩)
    · exact .inr (.inr ⟨by rw [hn, Int.sign_eq_one_of_pos (by omega)]; omega, x⟩)
  have hq : h = q ∨ h = q + 1 := by rw [hh]; split <;> (try split) <;> (try split) <;> simp
  have hhb : h * b = q * b ∨ h * b = q * b + b := by rcases hq with e | e <;> rw [e] <;> simp [e1]
  have hgb : g * b = q * b ∧ r = 0 ∧ g = q ∨ g * b = q * b + b ∧ 0 < r ∧ g = q + 1 := by
    rw [hg]; split
    · exact .inl ⟨rfl, by omega, rfl⟩
    · exact .inr ⟨e1, by omega, rfl⟩
  have hhb2 : (2 * r > b → h * b = q * b + b) ∧ (2 * r < b → h * b = q * b) ∧ (2 * r = b → h % 2 = 0) := by
    refine ⟨fun x => ?_, fun x => ?_, fun x => ?_⟩
    · rw [hh, if_pos x, e1]
    · rw [hh, if_neg (by omega), if_neg (by omega)]
    · rw [hh, if_neg (by omega), if_pos x]; split <;> omega
  simp only [laws_FnDivided.j0, Bool.false_eq_true, if_false]
  rw [w64 (x := h * b) (by omega) (by omega), w64 (x := q * b) (by omega) (by omega), w64 (x := g * b) (by omega) (by omega), w64 (x := h * b - a) (by omega) (by omega), w64 (x := q * b - a) (by omega) (by omega), w64 (x := g * b - a) (by omega) (by omega),
    w64 (x := a - q * b) (by omega) (by omega), w64 (x := a * d) (by omega) (by omega), w64 (x := c * b) (by omega) (by omega), b10Abs_eq (by omega) (by omega), b10Abs_eq (by omega) (by omega), b10Abs_eq (by omega) (by omega)]
  simp only [Option.bind_some]
  rw [if_neg (by omega), if_neg (by omega)]
  have fin : (if n < 0 then (if a * d < c * b then (some true) else (if n = 0 then (if a * d = c * b then (some true) else (if n > 0 then (some (decide (a * d > c * b))) else (some false))) else (if n > 0 then (some (decide (a * d > c * b))) else (some false)))) else (if n = 0 then (if a * d = c * b then (some true) else (if n > 0 then (some (decide (a * d > c * b))) else (some false))) else (if n > 0 then (some (decide (a * d > c * b))) else (some false)))) = some true := by
    rcases hs with ⟨x, y⟩ | ⟨x, y⟩ | ⟨x, y⟩
    · rw [if_pos x, if_pos y]
    · rw [if_neg (by omega), if_pos x, if_pos y]
    · rw [if_neg (by omega), if_neg (by omega), if_pos x]; simp [y]
  rw [fin]
  have ht : ¬ (Int.tmod h 2 = 0) → ¬ (2 * r = b) := fun x y => x ((tmod2 h).2 (hhb2.2.2 y))
  split
  · rfl
  · split
    · split
      · rfl
      · rename_i x1 x2 x3
        exact absurd (by omega) (ht x3)
    · rfl

theorem FnDivided : laws_FnDivided.Pure := by
  intro l m _ _ hl _ _ hm
  refine ⟨3, ?_⟩
  have hl' : ∀ x ∈ l, 0 ≤ x ∧ x ≤ 255 := fun x hx => wfu8 (hl x hx)
  have hm' : ∀ x ∈ m, 0 ≤ x ∧ x ≤ 255 := fun x hx => wfu8 (hm x hx)
  unfold laws_FnDivided.f
  rw [b10Long_eq, Option.bind_some]
  by_cases hlong : decide (1048576 < l.length ∨ 1048576 < m.length) = true
  · rw [if_pos hlong]
  rw [if_neg hlong]
  obtain ⟨t1, e1, a1, b1⟩ := b10At_ok hl' (i := 0) (n := 256) (by omega) (by omega) (by omega)
  obtain ⟨t2, e2, a2, b2⟩ := b10At_ok hl' (i := 1) (n := 256) (by omega) (by omega) (by omega)
  obtain ⟨t3, e3, a3, b3⟩ := b10At_ok hl' (i := 2) (n := 256) (by omega) (by omega) (by omega)
  obtain ⟨t4, e4, a4, b4⟩ := b10At_ok hm' (i := 0) (n := 256) (by omega) (by omega) (by omega)
  obtain ⟨t5, e5, a5, b5⟩ := b10At_ok hm' (i := 1) (n := 256) (by omega) (by omega) (by omega)
  obtain ⟨t6, e6, a6, b6⟩ := b10At_ok hm' (i := 2) (n := 256) (by omega) (by omega) (by omega)
  rw [e1, Option.bind_some, e2, Option.bind_some, e3, Option.bind_some, e4, Option.bind_some, e5, Option.bind_some, e6, Option.bind_some]
  rw [w64 (x := 256 * t1) (by omega) (by omega), w64 (x := 256 * t1 + t2) (by omega) (by omega), w64 (x := 256 * t1 + t2 - 30000) (by omega) (by omega), w64 (x := 1 + t3) (by omega) (by omega),
    w64 (x := 256 * t4) (by omega) (by omega), w64 (x := 256 * t4 + t5) (by omega) (by omega), w64 (x := 256 * t4 + t5 - 30000) (by omega) (by omega), w64 (x := 1 + t6) (by omega) (by omega)]
  have h1 : -30000 ≤ 256 * t1 + t2 - 30000 ∧ 256 * t1 + t2 - 30000 ≤ 40000 := by omega
  have h2 : 1 ≤ 1 + t3 ∧ 1 + t3 ≤ 256 := by omega
  have h3 : -30000 ≤ 256 * t4 + t5 - 30000 ∧ 256 * t4 + t5 - 30000 ≤ 40000 := by omega
  have h4 : 1 ≤ 1 + t6 ∧ 1 + t6 ≤ 256 := by omega
  generalize 256 * t1 + t2 - 30000 = a at *
  generalize 1 + t3 = b at *
  generalize 256 * t4 + t5 - 30000 = c at *
  generalize 1 + t6 = d at *
  rw [divFloor_in h1 h2, Option.bind_some, divCeiling_in h1 h2, Option.bind_some, divNearest_in h1 h2, Option.bind_some, compare_in h1 h2 h3 h4 (by omega), Option.bind_some]
  dsimp only
  rw [if_pos rfl, if_pos rfl, if_pos rfl, if_pos rfl]
  obtain ⟨q, r, ha, hr, hr2, eq, eg, eh⟩ := parts a b h2.1
  rw [eq]
  have T := tail_ok (g := cl a b) (h := nr a b) (n := (a * d - c * b).sign) h1 h2 h3 h4 ha hr hr2 eg eh rfl 2
  have e1 : (q + 1) * b = q * b + b := by rw [Int.add_mul, Int.one_mul]
  have hgb : cl a b * b = q * b ∧ r = 0 ∧ cl a b = q ∨ cl a b * b = q * b + b ∧ 0 < r ∧ cl a b = q + 1 := by
    rw [eg]; split
    · exact .inl ⟨rfl, by omega, rfl⟩
    · exact .inr ⟨e1, by omega, rfl⟩
  rw [w64 (x := q * b) (by omega) (by omega), w64 (x := cl a b * b) (by omega) (by omega), if_neg (by omega), w64 (x := a - q * b) (by omega) (by omega), if_neg (by omega), if_neg (by omega), w64 (x := cl a b * b - a) (by omega) (by omega), if_neg (by omega)]
  split
  · exact T
  · rename_i hne
    have : nr a b = cl a b := by
      rw [eh] at hne ⊢
      rw [eg]
      split at hne <;> split <;> (try split at hne) <;> (try split) <;> (try split at hne) <;> omega
    rw [this] at T ⊢
    simpa using T

end Go.Proofs.Ytgkgkaphdfhcnaa.Pure
