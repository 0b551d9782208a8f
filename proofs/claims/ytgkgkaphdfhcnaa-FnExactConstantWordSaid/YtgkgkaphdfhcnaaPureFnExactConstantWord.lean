/- The law FnExactConstantWord answers true at all arguments: the program's ConstantWord is the reference's. No condition. -/
import Derived.Test.YtgkgkaphdfhcnaaQ1
import Derived.Test.YtgkgkaphdfhcnaaP3
import Derived.Test.YtgkgkaphdfhcnaaP13
namespace Go.Proofs.Ytgkgkaphdfhcnaa.Pure
open Go.RowKit Go.Proofs.YtgkgkaphdfhcnaaW.PrintWords Go.Proofs.YtgkgkaphdfhcnaaW.PrintLast Go.Proofs.Ytgkgkaphdfhcnaa.P Go.Proofs.Ytgkgkaphdfhcnaa.B Go.Proofs.Ytgkgkaphdfhcnaa.Q

theorem mul_small {n a : Int} (h0 : 0 ≤ n) (h1 : n ≤ 1000) (h2 : 0 ≤ a) (h3 : a ≤ 1000) : 0 ≤ n * a ∧ n * a ≤ 1000000 := by
  constructor
  · exact Int.mul_nonneg h0 h2
  · have x := Int.mul_le_mul h1 h3 h2 (by omega : (0 : Int) ≤ 1000)
    omega
theorem word_same {a b : Int} {m : Nat} (ha : 0 ≤ a) (ha2 : a ≤ 1000) (hb : 1 ≤ b) (hb2 : b ≤ 1000) (hm : m ≤ 400) : ∀ d n k (x : List Int), m - n = d → n ≤ m → x.length = n → d < k →
    ∃ r, spec_l03Word.l0 k a b (m : Int) x (n : Int) = some r ∧ impl_steps.l0 k a b 0 49 48 x (m : Int) (n : Int) = some r := by
  intro d
  induction d with
  | zero =>
    intro n k x hd hn hx hk
    obtain ⟨k, rfl, _⟩ := succ_of_lt hk
    obtain rfl : n = m := by omega
    refine ⟨strOfNums x, ?_, ?_⟩
    · simp only [spec_l03Word.l0]; rw [if_neg (by omega)]
    · simp only [impl_steps.l0]; rw [if_neg (by omega)]
  | succ d ih =>
    intro n k x hd hn hx hk
    obtain ⟨k, rfl, hk'⟩ := succ_of_lt hk
    have m1 := mul_small (n := n) (a := a) (by omega) (by omega) ha ha2
    have m2 := mul_small (n := (n : Int) + 1) (a := a) (by omega) (by omega) ha ha2
    simp only [spec_l03Word.l0, impl_steps.l0]
    have hnm : (n : Int) < (m : Int) := by omega
    have hl : x.length < 140737488355328 := by omega
    simp only [if_pos hnm, if_pos hl]
    rw [w64 (x := (n : Int) + 1) (by omega) (by omega), w64 (x := ((n : Int) + 1) * a) (by omega) (by omega), w64 (x := (n : Int) * a) (by omega) (by omega), Int.add_zero, Int.add_zero,
      w64 (x := ((n : Int) + 1) * a) (by omega) (by omega), w64 (x := (n : Int) * a) (by omega) (by omega),
      floor_eq hb (by omega) (by omega), floor_eq hb (by omega) (by omega), l01Floor_eq hb (by omega) (by omega) (by omega), l01Floor_eq hb (by omega) (by omega) (by omega)]
    simp only [Option.bind_some]
    split
    · exact ih (n + 1) k (x ++ [49]) (by omega) (by omega) (by simp; omega) (by omega)
    · exact ih (n + 1) k (x ++ [48]) (by omega) (by omega) (by simp; omega) (by omega)

theorem FnExactConstantWord : laws_FnExactConstantWord.Pure := by
  intro a b c _ _ _
  refine ⟨401, ?_⟩
  unfold laws_FnExactConstantWord.f spec_ConstantWord.f impl_ConstantWord.f
  simp only [l00In_eq, within_eq, Option.bind_some]
  by_cases h1 : 1 ≤ b ∧ b ≤ 1000
  · by_cases h2 : 0 ≤ a ∧ a ≤ b
    · by_cases h3 : 0 ≤ c ∧ c ≤ 400
      · simp only [h1, h2, h3, and_self, decide_true, if_true]
        obtain ⟨m, rfl⟩ := Int.eq_ofNat_of_zero_le h3.1
        obtain ⟨r, e1, e2⟩ := word_same (a := a) (b := b) (m := m) h2.1 (by omega) h1.1 h1.2 (by omega) m 0 401 [] (by omega) (by omega) rfl (by omega)
        rw [show spec_l03Word.f 401 a b m = some r from e1, show impl_steps.f 401 a b 0 m 49 48 = some r from e2]
        simp
      · simp [h1, h2, h3]
    · simp [h1, h2]
  · simp [h1]

end Go.Proofs.Ytgkgkaphdfhcnaa.Pure
