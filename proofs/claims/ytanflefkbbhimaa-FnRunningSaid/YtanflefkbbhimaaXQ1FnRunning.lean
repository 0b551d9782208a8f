import Derived.Test.YtanflefkbbhimaaXBFnRunning
import Derived.Test.YtanflefkbbhimaaXP1FnRunning
import Derived.Test.YtanflefkbbhimaaXP3FnRunning
import Derived.Test.YtanflefkbbhimaaXP6FnRunning
namespace Go.Proofs.Ytanflefkbbhimaa.Q
open Go.RowKit Go.Proofs.YtanflefkbbhimaaW.PrintWords Go.Proofs.YtanflefkbbhimaaW.PrintLast Go.Proofs.Ytanflefkbbhimaa.P Go.Proofs.Ytanflefkbbhimaa.B
set_option linter.unusedVariables false
set_option linter.unusedSimpArgs false
theorem within_eq (a b c : Int) : impl_within.f a b c = some (decide (b ≤ a ∧ a ≤ c)) := by
  unfold impl_within.f
  by_cases h : b ≤ a <;> simp [h]
theorem l00In_eq (a b c : Int) : spec_l00In.f a b c = some (decide (b ≤ a ∧ a ≤ c)) := by
  unfold spec_l00In.f
  by_cases h : b ≤ a <;> simp [h]
theorem floor_eq {a b : Int} (hb : 1 ≤ b) (h1 : -4611686018427387904 ≤ a) (h2 : a ≤ 4611686018427387904) : impl_floor.f a b = some (a / b) := by
  have hd := ediv_bounds (a := a) hb (by omega) h1 h2
  have hm := Int.emod_nonneg a (show b ≠ 0 by omega)
  have hl := Int.emod_lt_of_pos a (show 0 < b by omega)
  unfold impl_floor.f
  rw [if_neg (by omega), tdiv_pos hb, tmod_pos hb]
  by_cases c : 0 ≤ a ∨ b ∣ a
  · simp only [if_pos c]
    rw [if_neg (by omega), w64 (by omega) (by omega)]
    congr 1; omega
  · simp only [if_neg c]
    rw [if_pos (by omega), w64 (x := a / b + 1) (by omega) (by omega), w64 (by omega) (by omega)]
    congr 1; omega
theorem l01Floor_eq {a b : Int} (hb : 1 ≤ b) (h1 : -1000000000000000 ≤ a) (h2 : a ≤ 1000000000000000) (hb2 : b ≤ 1000000000000000) : spec_l01Floor.f a b = some (a / b) := by
  have hd := ediv_bounds (a := a) hb (M := 1000000000000000) (by omega) h1 h2
  have hq := ediv_mul_le (a := a) hb
  have hm := Int.emod_nonneg a (show b ≠ 0 by omega)
  have he := Int.emod_add_mul_ediv a b
  rw [Int.mul_comm] at he
  unfold spec_l01Floor.f
  rw [if_neg (by omega), tdiv_pos hb]
  by_cases c : 0 ≤ a ∨ b ∣ a
  · simp only [if_pos c, Int.add_zero]
    rw [w64 (x := a / b) (by omega) (by omega), w64 (x := a / b * b) (by omega) (by omega), if_neg (by omega)]
  · simp only [if_neg c]
    have hm0 : a % b ≠ 0 := fun e => c (.inr (Int.dvd_of_emod_eq_zero e))
    rw [w64 (x := a / b + 1) (by omega) (by omega), Int.add_mul, Int.one_mul, w64 (x := a / b * b + b) (by omega) (by omega), if_pos (by omega), w64 (by omega) (by omega)]
    congr 1; omega
theorem ceiling_eq {a b : Int} (hb : 1 ≤ b) (h1 : -4611686018427387904 ≤ a) (h2 : a ≤ 4611686018427387904) : impl_ceiling.f a b = some (cl a b) := by
  have hd := ediv_bounds (a := -a) hb (M := 4611686018427387904) (by omega) (by omega) (by omega)
  unfold impl_ceiling.f
  rw [w64 (by omega) (by omega), floor_eq hb (by omega) (by omega)]
  simp only [Option.bind_some]
  rw [w64 (by omega) (by omega)]; rfl
theorem l01Ceil_eq {a b : Int} (hb : 1 ≤ b) (h1 : -1000000000000000 ≤ a) (h2 : a ≤ 1000000000000000) (hb2 : b ≤ 1000000000000000) : spec_l01Ceil.f a b = some (cl a b) := by
  have hd := ediv_bounds (a := -a) hb (M := 1000000000000000) (by omega) (by omega) (by omega)
  unfold spec_l01Ceil.f
  rw [w64 (by omega) (by omega), l01Floor_eq hb (by omega) (by omega) hb2]
  simp only [Option.bind_some]
  rw [w64 (by omega) (by omega)]; rfl
theorem near_aux {a b : Int} (hb : 1 ≤ b) (h1 : -1000000000000000 ≤ a) (h2 : a ≤ 1000000000000000) (hb2 : b ≤ 1000000000000000) :
    (if (wrap64 (2 * (wrap64 (a - (wrap64 (a / b * b)))))) > b then (some (wrap64 (a / b + 1))) else (if (wrap64 (2 * (wrap64 (a - (wrap64 (a / b * b)))))) = b then (if (Int.tmod (a / b) 2) = 0 then (some (a / b)) else (some (wrap64 (a / b + 1)))) else (some (a / b)))) = some (nr a b) := by
  have hd := ediv_bounds (a := a) hb (M := 1000000000000000) (by omega) h1 h2
  have hq := ediv_mul_le (a := a) hb
  rw [w64 (x := a / b * b) (by omega) (by omega), w64 (x := a - a / b * b) (by omega) (by omega), w64 (x := 2 * (a - a / b * b)) (by omega) (by omega), w64 (x := a / b + 1) (by omega) (by omega)]
  unfold nr
  simp only [tmod2]
  split
  · rfl
  · split
    · split <;> rfl
    · rfl
theorem nearest_eq {a b : Int} (hb : 1 ≤ b) (h1 : -1000000000000000 ≤ a) (h2 : a ≤ 1000000000000000) (hb2 : b ≤ 1000000000000000) : impl_nearest.f a b = some (nr a b) := by
  unfold impl_nearest.f
  rw [floor_eq hb (by omega) (by omega)]
  simp only [Option.bind_some]
  exact near_aux hb h1 h2 hb2
theorem l01Ratio_eq (a b : Int) : spec_l01Ratio.f a b = some (decide ((-1000000000 ≤ a ∧ a ≤ 1000000000) ∧ 1 ≤ b ∧ b ≤ 1000000000)) := by
  unfold spec_l01Ratio.f
  rw [l00In_eq]
  simp only [Option.bind_some]
  by_cases h : -1000000000 ≤ a ∧ a ≤ 1000000000
  · simp [h, l00In_eq]
  · simp [h]
def allIn (l : List Int) (a b : Int) : Bool := l.all fun x => decide (a ≤ x ∧ x ≤ b)
theorem allIn_iff {l : List Int} {a b : Int} : allIn l a b = true ↔ ∀ x ∈ l, a ≤ x ∧ x ≤ b := by simp [allIn]
theorem indexFunc_eq {l : List Int} (hl : l.length ≤ 4611686018427387904) (a b : Int) (k : Nat) (hk : l.length < k) : Zaw.f k l a b = some (!allIn l a b) := by
  have h : ∀ d n k, l.length - n = d → n ≤ l.length → d < k → ∃ r, Zai.l0 k l (l.length : Int) (n : Int) a b = some r ∧ decide (r ≥ 0) = !allIn (l.drop n) a b := by
    intro d
    induction d with
    | zero =>
      intro n k hd hn hk
      obtain ⟨k, rfl, _⟩ := succ_of_lt hk
      obtain rfl : n = l.length := by omega
      refine ⟨-1, ?_, by simp [allIn]⟩
      simp only [Zai.l0]
      rw [if_neg (by omega)]
    | succ d ih =>
      intro n k hd hn hk
      obtain ⟨k, rfl, hk'⟩ := succ_of_lt hk
      have h : n < l.length := by omega
      simp only [Zai.l0, impl_areWithin_1_v.f]
      rw [if_pos (by omega), if_pos (by omega), if_pos (by omega), within_eq, rd_nat h, wrap_nat (by omega)]
      simp only [Option.bind_some]
      by_cases c : a ≤ l[n] ∧ l[n] ≤ b
      · obtain ⟨r, h1, h2⟩ := ih (n + 1) k (by omega) (by omega) (by omega)
        refine ⟨r, ?_, ?_⟩
        · simp only [c, and_self, decide_true, Bool.not_true]
          exact h1
        · rw [h2, List.drop_eq_getElem_cons h]
          simp only [allIn, List.all_cons, c, and_self, decide_true, Bool.true_and]
      · refine ⟨n, by simp [c], ?_⟩
        rw [List.drop_eq_getElem_cons h]
        simp only [allIn, List.all_cons, c, decide_false, Bool.false_and, Bool.not_false, decide_eq_true_eq]
        omega
  obtain ⟨r, h1, h2⟩ := h l.length 0 k (by omega) (by omega) hk
  unfold Zaw.f Zai.f
  rw [show Zai.l0 k l (l.length : Int) 0 a b = some r from h1]
  simp only [Option.bind_some]
  rw [h2, List.drop_zero]
theorem areWithin_eq {l : List Int} (hl : l.length ≤ 4611686018427387904) (a b : Int) {k : Nat} (hk : l.length < k) : Za6.f k l a b = some (allIn l a b) := by
  unfold Za6.f
  rw [indexFunc_eq hl a b k hk]
  simp
theorem sumS : ∀ (l : List Int) (s M : Int), (∀ x ∈ l, -M ≤ x ∧ x ≤ M) → 0 ≤ M → -(l.length * M) ≤ l.sum ∧ l.sum ≤ l.length * M
  | [], _, M, _, _ => by simp
  | x :: xs, s, M, h, hM => by
    have h1 := sumS xs s M (fun y hy => h y (List.mem_cons_of_mem _ hy)) hM
    have h2 := h x (List.mem_cons_self ..)
    rw [List.sum_cons, List.length_cons, Int.natCast_add, Int.add_mul]
    omega
end Go.Proofs.Ytanflefkbbhimaa.Q
