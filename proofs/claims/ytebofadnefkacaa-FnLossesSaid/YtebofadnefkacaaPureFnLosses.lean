/- FnLosses answers true at all bytes. -/
import Derived.Test.YtebofadnefkacaaQRFnLosses
import Derived.Test.YtebofadnefkacaaQCFnLosses
import Derived.Test.YtebofadnefkacaaP15
import Derived.Test.YtebofadnefkacaaP24
namespace Go.Proofs.Ytebofadnefkacaa.Pure
open Go.RowKit Go.Proofs.YtebofadnefkacaaW.PrintWords Go.Proofs.YtebofadnefkacaaW.PrintLast Go.Proofs.Ytebofadnefkacaa.P Go.Proofs.Ytebofadnefkacaa.B Go.Proofs.Ytebofadnefkacaa.Q
set_option linter.unusedVariables false
set_option linter.unusedSimpArgs false

theorem FnLosses : laws_FnLosses.Pure := by
  intro l0 l1 h0 h1 h2 h3 h4 h5
  refine ⟨9000, ?_⟩
  have b0 : by8 l0 := fun x hx => wfu8 (h2 x hx)
  have b1 : by8 l1 := fun x hx => wfu8 (h5 x hx)
  unfold laws_FnLosses.f
  obtain ⟨b, hb⟩ := r8Long_ok l0 l1
  rw [hb, Option.bind_some]
  cases b with
  | true => rw [if_pos rfl]
  | false =>
  rw [if_neg (by simp)]
  obtain ⟨votes, hvo, hv, hv30⟩ := r8Votes_ok b0 (k := 9000) (by omega)
  obtain ⟨s, hs, s0, s1⟩ := r8At_ok (i := 0) (n := 100) b1 (by omega) (by omega)
  have hn := vt_len hv
  obtain ⟨n, rfl⟩ : ∃ n : Nat, s = n := ⟨s.toNat, by omega⟩
  have rem : ∀ (m k : Nat), m ≤ 100 → 3000 < k → impl_RemainderSeats.f k votes (m : Int) = some (rsd votes (m : Int), true) := by
    intro m k hm hk
    rw [RemainderSeats_impl' (by omega) (by omega)]
    unfold RemainderSeats_res
    rw [if_pos ⟨hv, by omega⟩]
  have ef : impl_FirstLoss.f 9000 votes = some (lossFrom votes 100 0) := by
    rw [FirstLoss_impl' (by omega) (by omega)]
    unfold FirstLoss_res
    rw [if_pos hv]
  rw [hvo, Option.bind_some, ef, Option.bind_some, hs, Option.bind_some, rem n 9000 (by omega) (by omega), Option.bind_some, wrap_nat (by omega), rem (n + 1) 9000 (by omega) (by omega), Option.bind_some]
  have l1 := rsd_length (votes := votes) (n : Int)
  have l2 := rsd_length (votes := votes) ((n + 1 : Nat) : Int)
  simp only
  rw [if_pos trivial, if_pos trivial, if_pos (by omega), if_pos (by omega)]
  rcases lossFrom_is (votes := votes) 100 0 rfl with ⟨a, i, h1, h2, h3, h4, h5, h6⟩ | ⟨h1, h2⟩
  · rw [h1]
    simp only
    rw [if_pos trivial, if_neg (by omega), if_neg (by omega), if_neg (by omega), decide_eq_false (by omega)]
    simp only [laws_FnLosses.j0]
    rw [if_neg (by simp)]
    refine loopIc0 (m := votes.length) 3100 (F := fun k j (_ : Unit) => laws_FnLosses.l0 k votes (a : Int) (i : Int) true (n : Int) (rsd votes (n : Int)) (rsd votes ((n + 1 : Nat) : Int)) j) (fun _ _ => True) (fun r => r = some true) ?_ ?_ (k := 8999) (s := ()) (by omega) trivial
    · intro k _ hk _
      simp only [laws_FnLosses.l0]
      have l3 := rsd_length (votes := votes) (a : Int)
      have l4 := rsd_length (votes := votes) ((a + 1 : Nat) : Int)
      rw [if_neg (by omega), if_pos trivial, rem a k (by omega) (by omega), Option.bind_some, wrap_nat (by omega), rem (a + 1) k (by omega) (by omega), Option.bind_some]
      simp only
      rw [if_pos trivial, if_pos trivial, if_pos (by omega), if_pos (by omega), if_pos (by omega), if_pos (by omega), if_pos (by omega), decide_eq_true h5]
    · intro k j _ hk hj _
      refine .inl ⟨(), trivial, ?_⟩
      simp only [laws_FnLosses.l0]
      rw [if_pos (by omega), if_pos (by omega), if_pos (by omega), if_pos (by omega), wrap_nat (by omega)]
      by_cases c : rd (rsd votes ((n + 1 : Nat) : Int)) (j : Int) < rd (rsd votes (n : Int)) (j : Int)
      · rw [if_pos c, if_pos trivial, if_neg (fun hlt => h6 n j (by omega) (by omega) hj c)]
      · rw [if_neg c]
  · rw [h1]
    simp only
    rw [if_neg (by simp)]
    simp only [laws_FnLosses.j0]
    rw [if_neg (by simp)]
    refine loopIc0 (m := votes.length) 3100 (F := fun k j (_ : Unit) => laws_FnLosses.l0 k votes 0 0 false (n : Int) (rsd votes (n : Int)) (rsd votes ((n + 1 : Nat) : Int)) j) (fun _ _ => True) (fun r => r = some true) ?_ ?_ (k := 8999) (s := ()) (by omega) trivial
    · intro k _ hk _
      simp only [laws_FnLosses.l0]
      rw [if_neg (by omega), if_neg (by simp)]
    · intro k j _ hk hj _
      refine .inl ⟨(), trivial, ?_⟩
      simp only [laws_FnLosses.l0]
      rw [if_pos (by omega), if_pos (by omega), if_pos (by omega), if_pos (by omega), wrap_nat (by omega), if_neg (h2 n j (by omega) (by omega) hj)]

end Go.Proofs.Ytebofadnefkacaa.Pure
