import Derived.Test.YtebofadnefkacaaXV2FnQuotas
import Derived.Test.YtebofadnefkacaaXP27FnQuotas
namespace Go.Proofs.Ytebofadnefkacaa.Pure
open Go.RowKit Go.Proofs.YtebofadnefkacaaW.PrintWords Go.Proofs.YtebofadnefkacaaW.PrintLast Go.Proofs.Ytebofadnefkacaa.P Go.Proofs.Ytebofadnefkacaa.B Go.Proofs.Ytebofadnefkacaa.Q
set_option linter.unusedVariables false
set_option linter.unusedSimpArgs false
theorem FnQuotas : laws_FnQuotas.Pure := by
  intro l0 l1 h0 h1 h2 h3 h4 h5
  refine ⟨9000, ?_⟩
  have b0 : by8 l0 := fun x hx => wfu8 (h2 x hx)
  have b1 : by8 l1 := fun x hx => wfu8 (h5 x hx)
  unfold laws_FnQuotas.f
  obtain ⟨b, hb⟩ := r8Long_ok l0 l1
  rw [hb, Option.bind_some]
  cases b with
  | true => rw [if_pos rfl]
  | false =>
  rw [if_neg (by simp)]
  obtain ⟨votes, hvo, hv, hv30⟩ := r8Votes_ok b0 (k := 9000) (by omega)
  obtain ⟨s, hs, s0, s1⟩ := r8At_ok (i := 0) (n := 40) b1 (by omega) (by omega)
  have hn := vt_len hv
  obtain ⟨n, rfl⟩ : ∃ n : Nat, s = n := ⟨s.toNat, by omega⟩
  have hi := vt_iff.1 hv
  have hp := vt_sum hv
  have v64 : ∀ x ∈ votes, i64 x := fun x hx => by have := hi.2.1 x hx; exact ⟨by omega, by omega⟩
  have i39 : i64 (n : Int) := ⟨by omega, by omega⟩
  have rs := rsd_is hv (s := (n : Int)) (by omega)
  have ql : (qn votes (n : Int)).length = votes.length := List.length_map ..
  have l3 := rsd_length (votes := votes) (n : Int)
  have rnn : ∀ x ∈ rsd votes (n : Int), 0 ≤ x := fun x hx => by
    obtain ⟨i, hi2, rfl⟩ := List.getElem_of_mem hx
    have h6 := (rs.2 i (by omega)).1
    have h7 := fls_nn hp.1 (qn_in hv (s := (n : Int)) (by omega)) _ (rd_mem (l := fls votes.sum (qn votes (n : Int))) (n := i) (by rw [fls_length]; omega))
    rw [rd_nat hi2] at h6
    omega
  have hsl : sl votes (rsd votes (n : Int)) = true := sl_iff.2 ⟨l3, fun x hx => ⟨rnn x hx, by have := le_sumI rnn x hx; omega⟩, by omega⟩
  have eo : OutsideQuotas_res votes (rsd votes (n : Int)) = ([], true) := by
    unfold OutsideQuotas_res
    rw [if_pos ⟨hv, hsl⟩, rs.1]
    rw [oq_nil _ fun i hi => rs.2 i (by omega)]
  have er : RemainderSeats_res votes (n : Int) = (rsd votes (n : Int), true) := by
    unfold RemainderSeats_res
    rw [if_pos ⟨hv, by omega⟩]
  have eq : QuotasOf_res votes (n : Int) = (fls votes.sum (qn votes (n : Int)), cls votes.sum (qn votes (n : Int)), true) := by
    unfold QuotasOf_res
    rw [if_pos ⟨hv, by omega⟩]
  have es : ∀ m : Int, 0 ≤ m ∧ m ≤ 3 → SeatsBy_res m votes (n : Int) = (gv m votes n, true) := fun m hm => by
    unfold SeatsBy_res
    rw [if_pos ⟨hm, hv, by omega⟩, Int.toNat_natCast]
  have r64 : ∀ x ∈ rsd votes (n : Int), i64 x := fun x hx => by have h6 := rnn x hx; have h7 := le_sumI rnn x hx; exact ⟨by omega, by omega⟩
  rw [hvo, Option.bind_some, hs, Option.bind_some, QuotasOf_impl v64 i39 (by omega) (by omega), Option.bind_some, RemainderSeats_impl' (by omega) (by omega), Option.bind_some, SeatsBy_impl' (by omega) (by omega), Option.bind_some, SeatsBy_impl' (by omega) (by omega), Option.bind_some, er, eq, es 0 (by omega), es 3 (by omega)]
  simp only
  rw [OutsideQuotas_impl v64 r64 (by omega) (by omega) (by omega), Option.bind_some, eo]
  simp only
  have g0 := gv_length 0 votes n
  have g3 := gv_length 3 votes n
  have f1 := fls_length votes.sum (qn votes (n : Int))
  have c1 := cls_length votes.sum (qn votes (n : Int))
  rw [if_pos trivial, if_pos trivial, if_pos trivial, if_pos trivial, if_pos trivial, if_pos (by omega), if_pos (by omega), if_pos (by omega), if_pos (by omega), if_pos (by omega)]
  have rb : ∀ x ∈ rsd votes (n : Int), -1000000000000 ≤ x ∧ x ≤ 1000000000000 := fun x hx => by have h6 := rnn x hx; have h7 := le_sumI rnn x hx; omega
  have vb : ∀ x ∈ votes, -1000000000000 ≤ x ∧ x ≤ 1000000000000 := fun x hx => by have := hi.2.1 x hx; omega
  rw [r8Sum_eq (by omega) rb (by omega), Option.bind_some, if_pos rs.1]
  simp only [laws_FnQuotas.j0]
  rw [if_neg (by simp), r8Sum_eq (by omega) vb (by omega), Option.bind_some]
  refine loopIc0 (m := votes.length) 100 (F := fun k j (_ : Unit) => laws_FnQuotas.l0 k votes (n : Int) (fls votes.sum (qn votes (n : Int))) (cls votes.sum (qn votes (n : Int))) (rsd votes (n : Int)) (gv 0 votes n) (gv 3 votes n) (votes.length : Int) votes.sum j) (fun _ _ => True) (fun r => r = some true) ?_ ?_ (k := 8999) (s := ()) (by omega) trivial
  · intro k _ hk _
    simp only [laws_FnQuotas.l0]
    rw [if_neg (by omega)]
  · intro k j _ hk hj _
    refine .inl ⟨(), trivial, ?_⟩
    simp only [laws_FnQuotas.l0]
    have q1 := rs.2 j hj
    have q2 := adams_le hv (s := n) (by omega) hj
    have q3 := jeff_ge hv (s := n) (by omega) hj
    have vj := (vt_rd hv hj)
    have eq : rd (qn votes (n : Int)) (j : Int) = (n : Int) * rd votes j := rd_mapI (f := ((n : Int) * ·)) hj
    have fd := rd_flsI (V := votes.sum) (l := qn votes (n : Int)) (i := j) (by omega)
    have cd := rd_clsI (V := votes.sum) (l := qn votes (n : Int)) (i := j) (by omega)
    have f2 := ediv_mul_le (a := rd (qn votes (n : Int)) (j : Int)) hp.1
    have c2 := cl_mul (a := rd (qn votes (n : Int)) (j : Int)) hp.1
    have cf := cl_flI (a := rd (qn votes (n : Int)) (j : Int)) hp.1
    rw [← fd] at f2 cf
    rw [← cd] at c2 cf
    have m1 := mul_in (a := (n : Int)) (b := rd votes j) (A := 39) (B := 1000000) (by omega) (by have := vj.1; have := vj.2; omega) (by omega)
    rw [eq] at f2 c2
    have step : rd (cls votes.sum (qn votes (n : Int))) (j : Int) - rd (fls votes.sum (qn votes (n : Int))) (j : Int) ≤ 1 := by
      rw [cf]; split <;> omega
    have fb := fls_nn hp.1 (qn_in hv (s := (n : Int)) (by omega)) _ (rd_mem (l := fls votes.sum (qn votes (n : Int))) (n := j) (by omega))
    clear cf fd cd eq
    rw [if_pos (by omega), if_pos (by omega), if_pos (by omega), if_pos (by omega)]
    rw [w64 (x := rd (fls votes.sum (qn votes (n : Int))) (j : Int) * votes.sum) (by omega) (by omega), w64 (x := (n : Int) * rd votes (j : Int)) (by omega) (by omega), w64 (x := rd (cls votes.sum (qn votes (n : Int))) (j : Int) * votes.sum) (by omega) (by omega), w64 (x := rd (cls votes.sum (qn votes (n : Int))) (j : Int) - rd (fls votes.sum (qn votes (n : Int))) (j : Int)) (by omega) (by omega)]
    rw [if_neg (by omega), if_pos (by omega), if_neg (by omega), if_neg (by omega), if_pos (by omega), if_neg (by omega), if_neg (by omega), if_pos (by omega), if_neg (by omega), if_pos (by omega), if_neg (by omega), wrap_nat (by omega)]
end Go.Proofs.Ytebofadnefkacaa.Pure
