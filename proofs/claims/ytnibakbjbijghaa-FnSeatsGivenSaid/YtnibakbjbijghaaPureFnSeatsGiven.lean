/- FnSeatsGiven answers true at all bytes. -/
import Derived.Test.YtnibakbjbijghaaQRFnSeatsGiven
import Derived.Test.YtnibakbjbijghaaP17xFnSeatsGiven
import Derived.Test.YtnibakbjbijghaaP28xFnSeatsGiven
namespace Go.Proofs.Ytnibakbjbijghaa.Pure
open Go.RowKit Go.Proofs.YtnibakbjbijghaaW.PrintWords Go.Proofs.YtnibakbjbijghaaW.PrintLast Go.Proofs.Ytnibakbjbijghaa.P Go.Proofs.Ytnibakbjbijghaa.B Go.Proofs.Ytnibakbjbijghaa.Q
set_option linter.unusedVariables false
set_option linter.unusedSimpArgs false

theorem FnSeatsGiven : laws_FnSeatsGiven.Pure := by
  intro l0 l1 h0 h1 h2 h3 h4 h5
  refine ⟨9000, ?_⟩
  have b0 : by8 l0 := fun x hx => wfu8 (h2 x hx)
  have b1 : by8 l1 := fun x hx => wfu8 (h5 x hx)
  unfold laws_FnSeatsGiven.f
  obtain ⟨b, hb⟩ := r8Long_ok l0 l1
  rw [hb, Option.bind_some]
  cases b with
  | true => rw [if_pos rfl]
  | false =>
  rw [if_neg (by simp)]
  obtain ⟨votes, hvo, hv, hv30⟩ := r8Votes_ok b0 (k := 9000) (by omega)
  obtain ⟨m, hm, m0, m1⟩ := r8At_ok (i := 0) (n := 4) b1 (by omega) (by omega)
  obtain ⟨s, hs, s0, s1⟩ := r8At_ok (i := 1) (n := 40) b1 (by omega) (by omega)
  have hn := vt_len hv
  obtain ⟨n, rfl⟩ : ∃ n : Nat, s = n := ⟨s.toNat, by omega⟩
  have e1 : impl_SeatsBy.f 9000 m votes (n : Int) = some (gv m votes n, true) := by
    rw [SeatsBy_impl' (by omega) (by omega)]
    unfold SeatsBy_res
    rw [if_pos ⟨by omega, hv, by omega⟩, Int.toNat_natCast]
  have e2 : impl_SeatsBy.f 9000 m votes (wrap64 ((n : Int) + 1)) = some (gv m votes (n + 1), true) := by
    rw [w64 (by omega) (by omega), SeatsBy_impl' (by omega) (by omega)]
    unfold SeatsBy_res
    rw [if_pos ⟨by omega, hv, by omega⟩, show ((n : Int) + 1).toNat = n + 1 by omega]
  have g1 := gv_aok (m := m) hv (s := n) (by omega)
  have g2 := gv_aok (m := m) hv (s := n + 1) (by omega)
  have l1 := g1.1
  have l2 := g2.1
  have hin := gv_in (m := m) hv n
  have hsum := gv_sum (m := m) hv n
  have hsl : sl votes (gv m votes n) = true := sl_iff.2 ⟨l1, fun x hx => by have := hin x hx; omega, by omega⟩
  have hisb : IsSeatsBy_res m votes (gv m votes n) = true := by
    unfold IsSeatsBy_res
    rw [decide_eq_true (show 0 ≤ m ∧ m ≤ 3 by omega), hv, hsl, INV_isb (gv_INV hv n (by omega))]; rfl
  rw [hvo, Option.bind_some, hm, Option.bind_some, hs, Option.bind_some, e1, Option.bind_some, e2, Option.bind_some]
  simp only
  rw [if_pos trivial, if_pos trivial, validVotes_eq (by omega) (by omega), Option.bind_some, if_pos hv, if_pos (by omega), if_pos (by omega), r8Sum_eq (by omega) (fun x hx => by have := hin x hx; omega) (by omega), Option.bind_some, if_pos hsum, IsSeatsBy_impl' (by omega) (by omega) (by omega), Option.bind_some, hisb]
  simp only [laws_FnSeatsGiven.j0]
  rw [if_neg (by simp)]
  have hbl := bst_lt m votes (gv m votes n) votes.length hn.1
  refine loopI0 (m := votes.length) (F := fun k i (c : Int) => laws_FnSeatsGiven.l0 k votes (gv m votes n) (gv m votes (n + 1)) c i) (fun i c => c = if bst m votes (gv m votes n) votes.length < i then 1 else 0) (fun r => r = some true) ?_ ?_ (k := 8999) (s := 0) (by omega) (by rw [if_neg (by omega)])
  · rintro k c rfl
    simp only [laws_FnSeatsGiven.l0]
    rw [if_neg (by omega), if_pos hbl]; rfl
  · rintro k i c hi rfl
    have hz : rd votes i = 0 → rd (gv m votes n) i = 0 := fun h => gv_zero hv h n (by omega)
    have hst : rd (gv m votes (n + 1)) i = if i = bst m votes (gv m votes n) votes.length then rd (gv m votes n) i + 1 else rd (gv m votes n) i := stp_rd hv l1 i
    have hr := g1.rd hi
    refine .inl ⟨_, rfl, ?_⟩
    simp only [laws_FnSeatsGiven.l0]
    rw [if_pos (by omega), if_pos (by omega), if_pos (by omega), w64 (x := rd (gv m votes n) i + 1) (by omega) (by omega), wrap_nat (by omega)]
    by_cases c : i = bst m votes (gv m votes n) votes.length
    · rw [if_pos c] at hst
      rw [if_pos hst, if_pos (by omega), if_neg (show ¬ bst m votes (gv m votes n) votes.length < i by omega), if_pos (show bst m votes (gv m votes n) votes.length < i + 1 by omega), w64 (by omega) (by omega)]
      by_cases c2 : rd votes i = 0
      · rw [if_pos c2, if_neg (by have := hz c2; omega)]; rfl
      · rw [if_neg c2]; rfl
    · rw [if_neg c] at hst
      rw [if_neg (by omega), if_pos hst, if_pos (by omega)]
      have e : (if bst m votes (gv m votes n) votes.length < i + 1 then (1 : Int) else 0) = if bst m votes (gv m votes n) votes.length < i then 1 else 0 := by
        by_cases c3 : bst m votes (gv m votes n) votes.length < i
        · rw [if_pos c3, if_pos (by omega)]
        · rw [if_neg c3, if_neg (by omega)]
      rw [e]
      by_cases c2 : rd votes i = 0
      · rw [if_pos c2, if_neg (by have := hz c2; omega)]
      · rw [if_neg c2]

end Go.Proofs.Ytnibakbjbijghaa.Pure
