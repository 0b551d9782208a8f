/- The law FnExactCheckOf answers true at all arguments: the program's CheckOf is the reference's. No condition. -/
import Derived.Test.YtgkgkaphdfhcnaaQ1
import Derived.Test.YtgkgkaphdfhcnaaP1
import Derived.Test.YtgkgkaphdfhcnaaP8
namespace Go.Proofs.Ytgkgkaphdfhcnaa.Pure
open Go.RowKit Go.Proofs.YtgkgkaphdfhcnaaW.PrintWords Go.Proofs.YtgkgkaphdfhcnaaW.PrintLast Go.Proofs.Ytgkgkaphdfhcnaa.P Go.Proofs.Ytgkgkaphdfhcnaa.B Go.Proofs.Ytgkgkaphdfhcnaa.Q

theorem check_same {s : ByteArray} (hs : s.size ≤ 1048576) : ∀ d n k (x : Int), s.size - n = d → n ≤ s.size → d < k → ∃ r, spec_l01Check.l0 k x s (n : Int) = some r ∧ impl_checkOf.l0 k x s (s.size : Int) (n : Int) = some r := by
  intro d
  induction d with
  | zero =>
    intro n k x hd hn hk
    obtain ⟨k, rfl, _⟩ := succ_of_lt hk
    obtain rfl : n = s.size := by omega
    refine ⟨x, ?_, ?_⟩
    · simp only [spec_l01Check.l0]; rw [if_neg (by omega)]
    · simp only [impl_checkOf.l0]; rw [if_neg (by omega)]
  | succ d ih =>
    intro n k x hd hn hk
    obtain ⟨k, rfl, hk'⟩ := succ_of_lt hk
    obtain ⟨r, h1, h2⟩ := ih (n + 1) k (Int.tmod (wrap64 ((wrap64 ((wrap64 (263 * x)) + (wrap64 (bt s (n : Int))))) + 7)) 65521) (by omega) (by omega) (by omega)
    refine ⟨r, ?_, ?_⟩
    · simp only [spec_l01Check.l0]; rw [if_pos (by omega), if_pos (by omega), wrap_nat (by omega)]; exact h1
    · simp only [impl_checkOf.l0]; rw [if_pos (by omega), if_pos (by omega), if_pos (by omega), wrap_nat (by omega)]; exact h2

theorem FnExactCheckOf : laws_FnExactCheckOf.Pure := by
  intro a s _ _
  refine ⟨s.size + 1, ?_⟩
  unfold laws_FnExactCheckOf.f
  by_cases hs : (s.size : Int) > 1048576
  · rw [if_pos hs]
  rw [if_neg hs]
  unfold spec_CheckOf.f impl_CheckOf.f
  rw [l00In_eq, within_eq]
  obtain ⟨r, h1, h2⟩ := check_same (s := s) (by omega) s.size 0 (s.size + 1) a (by omega) (by omega) (by omega)
  by_cases h : 0 ≤ a ∧ a ≤ 65520
  · simp only [h, and_self, decide_true, Option.bind_some, if_true]
    rw [show spec_l01Check.f (s.size + 1) a s = some r from h1, show impl_checkOf.f (s.size + 1) a s = some r from h2]
    simp
  · simp [h]

end Go.Proofs.Ytgkgkaphdfhcnaa.Pure
