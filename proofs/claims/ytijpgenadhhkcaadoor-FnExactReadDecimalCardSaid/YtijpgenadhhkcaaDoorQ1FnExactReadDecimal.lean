/- What the printed functions of the first layer compute, told plainly: division, ranges, sums, checks of validity, copies and comparisons of lists. -/
import Derived.Test.YtijpgenadhhkcaaDoorB
import Derived.Test.YtijpgenadhhkcaaDoorP1
namespace Go.Proofs.YtijpgenadhhkcaaDoor.Q
open Go.RowKit Go.Proofs.YtijpgenadhhkcaaDoorW.PrintWords Go.Proofs.YtijpgenadhhkcaaDoorW.PrintLast Go.Proofs.YtijpgenadhhkcaaDoor.P Go.Proofs.YtijpgenadhhkcaaDoor.B
set_option linter.unusedVariables false
set_option linter.unusedSimpArgs false

theorem l00In_eq (a b c : Int) : spec_l00In.f a b c = some (decide (b ≤ a ∧ a ≤ c)) := by
  unfold spec_l00In.f
  by_cases h : b ≤ a <;> simp [h]
theorem near_aux {a b : Int} (hb : 1 ≤ b) (h1 : -1000000000000000 ≤ a) (h2 : a ≤ 1000000000000000) (hb2 : b ≤ 1000000000000000) :
    (if (wrap64 (2 * (wrap64 (a - (wrap64 (a / b * b)))))) > b then (some (wrap64 (a / b + 1))) else (if (wrap64 (2 * (wrap64 (a - (wrap64 (a / b * b)))))) = b then (if (Int.tmod (a / b) 2) = 0 then (some (a / b)) else (some (wrap64 (a / b + 1)))) else (some (a / b)))) = some (nr a b) := by
  have hd := ediv_bounds (a := a) hb (M := 1000000000000000) (by omega) h1 h2
  have hq := ediv_mul_le (a := a) hb
  rw [w64 (x := a / b * b) (by omega) (by omega), w64 (x := a - a / b * b) (by omega) (by omega), w64 (x := 2 * (a - a / b * b)) (by omega) (by omega), w64 (x := a / b + 1) (by omega) (by omega)]
  unfold nr
  simp only [tmod2]
  split
  · rfl
  · split
    · split <;> rfl
    · rfl
theorem sign_cases' (x : Int) : (x < 0 ∧ x.sign = -1) ∨ (x = 0 ∧ x.sign = 0) ∨ (0 < x ∧ x.sign = 1) := by
  rcases Int.lt_trichotomy x 0 with h | h | h
  · exact .inl ⟨h, Int.sign_eq_neg_one_of_neg h⟩
  · exact .inr (.inl ⟨h, by rw [h]; rfl⟩)
  · exact .inr (.inr ⟨h, Int.sign_eq_one_of_pos h⟩)
/-- All numbers lie between two. -/
def allIn (l : List Int) (a b : Int) : Bool := l.all fun x => decide (a ≤ x ∧ x ≤ b)
theorem allIn_iff {l : List Int} {a b : Int} : allIn l a b = true ↔ ∀ x ∈ l, a ≤ x ∧ x ≤ b := by simp [allIn]
theorem sumS : ∀ (l : List Int) (s M : Int), (∀ x ∈ l, -M ≤ x ∧ x ≤ M) → 0 ≤ M → -(l.length * M) ≤ l.sum ∧ l.sum ≤ l.length * M
  | [], _, M, _, _ => by simp
  | x :: xs, s, M, h, hM => by
    have h1 := sumS xs s M (fun y hy => h y (List.mem_cons_of_mem _ hy)) hM
    have h2 := h x (List.mem_cons_self ..)
    rw [List.sum_cons, List.length_cons, Int.natCast_add, Int.add_mul]
    omega
theorem sum_run (D : Int → Option Int) : ∀ (l : List Int) (s M : Int), (∀ x ∈ l, -M ≤ x ∧ x ≤ M) → 0 ≤ M → -9223372036854775808 ≤ s - l.length * M → s + l.length * M ≤ 9223372036854775807 →
    runL (fun x s => .inl (wrap64 (s + x))) D l s = D (s + l.sum)
  | [], s, M, _, _, _, _ => by simp [runL]
  | x :: xs, s, M, h, hM, h1, h2 => by
    have h3 := h x (List.mem_cons_self ..)
    rw [List.length_cons, Int.natCast_add, Int.add_mul] at h1 h2
    have h4 : 0 ≤ (xs.length : Int) * M := Int.mul_nonneg (by omega) hM
    simp only [runL]
    rw [w64 (by omega) (by omega), sum_run D xs (s + x) M (fun y hy => h y (List.mem_cons_of_mem _ hy)) hM (by omega) (by omega), List.sum_cons]
    congr 1; omega
end Go.Proofs.YtijpgenadhhkcaaDoor.Q
