/- FnMoreVotes answers true at all bytes. -/
import Derived.Test.YtnjehjkacicamaaQRFnMoreVotes
import Derived.Test.YtnjehjkacicamaaQFFnMoreVotes
import Derived.Test.YtnjehjkacicamaaP3
import Derived.Test.YtnjehjkacicamaaP5
namespace Go.Proofs.Ytnjehjkacicamaa.Pure
open Go.RowKit Go.Proofs.YtnjehjkacicamaaW.PrintWords Go.Proofs.YtnjehjkacicamaaW.PrintLast Go.Proofs.Ytnjehjkacicamaa.P Go.Proofs.Ytnjehjkacicamaa.B Go.Proofs.Ytnjehjkacicamaa.Q
set_option linter.unusedVariables false
set_option linter.unusedSimpArgs false

theorem isl_exists {m : Int} {votes : List Int} (hm : 0 ≤ m ∧ m ≤ 3) (h : vt votes = true) {p : Nat} (hp : p < votes.length) {goal : Int} (hg : 0 ≤ goal) (hb : sv m votes p 1000000 ≥ goal) : isl m votes p goal (lst m votes p goal) := by
  obtain ⟨r, _, r0, r1, rl, rh⟩ := implSearch hm h hp hg 20 3000 0 1000001 (by decide) (by omega) (by omega) (by omega) (by omega) (fun v h0 h1 => by omega) (fun v h0 h1 => by omega)
  have hr : r ≤ 1000000 := by
    apply Classical.byContradiction; intro hc
    have := rl 1000000 (by omega) (by omega)
    omega
  have hi : isl m votes p goal r := ⟨r0, hr, rh r (by omega) hr, rl⟩
  rw [lst_is hi]
  exact hi
/-- Seats by a method, valid votes or not. -/
theorem seats100 {m : Int} {votes : List Int} (hm : 0 ≤ m ∧ m ≤ 3) (hl : votes.length ≤ 1000) {k : Nat} (hk : 3000 < k) : impl_SeatsBy.f k m votes 100 = some (if vt votes = true then (gv m votes 100, true) else ([], false)) := by
  rw [SeatsBy_impl' (by omega) (by omega)]
  unfold SeatsBy_res
  by_cases c : vt votes = true
  · rw [if_pos ⟨hm, c, by omega, by omega⟩, if_pos c, show (100 : Int).toNat = 100 from rfl]
  · rw [if_neg (fun h => c h.2.1), if_neg c]
theorem FnMoreVotes : laws_FnMoreVotes.Pure := by
  intro l0 l1 h0 h1 h2 h3 h4 h5
  refine ⟨9000, ?_⟩
  have b0 : by8 l0 := fun x hx => wfu8 (h2 x hx)
  have b1 : by8 l1 := fun x hx => wfu8 (h5 x hx)
  unfold laws_FnMoreVotes.f
  obtain ⟨b, hb⟩ := r8Long_ok l0 l1
  rw [hb, Option.bind_some]
  cases b with
  | true => rw [if_pos rfl]
  | false =>
  rw [if_neg (by simp)]
  obtain ⟨votes, hvo, hv, hv30⟩ := r8Votes_ok b0 (k := 9000) (by omega)
  have hn := vt_len hv
  obtain ⟨m, hm, m0, m1⟩ := r8At_ok (i := 0) (n := 4) b1 (by omega) (by omega)
  obtain ⟨p', hp', p0, p1⟩ := r8At_ok (i := 1) (n := (votes.length : Int)) b1 (by omega) (by omega)
  obtain ⟨p, rfl⟩ : ∃ p : Nat, p' = p := ⟨p'.toNat, by omega⟩
  obtain ⟨s', hs', s0, s1⟩ := r8At_ok (i := 2) (n := 40) b1 (by omega) (by omega)
  obtain ⟨s, rfl⟩ : ∃ s : Nat, s' = s := ⟨s'.toNat, by omega⟩
  obtain ⟨t, ht, t0, t1⟩ := r8At_ok (i := 3) (n := 20) b1 (by omega) (by omega)
  obtain ⟨goal, hgo, go0, go1⟩ := r8At_ok (i := 4) (n := 101) b1 (by omega) (by omega)
  have hp : p < votes.length := by omega
  have hm3 : 0 ≤ m ∧ m ≤ 3 := by omega
  have hvp := vt_rd hv hp
  have hvp30 := hv30 _ (rd_mem hp)
  have es : ∀ votes : List Int, vt votes = true → impl_SeatsBy.f 9000 m votes (s : Int) = some (gv m votes s, true) := fun votes hv => by
    have := vt_len hv
    rw [SeatsBy_impl' (by omega) (by omega)]
    unfold SeatsBy_res
    rw [if_pos ⟨by omega, hv, by omega⟩, Int.toNat_natCast]
  rw [hvo, Option.bind_some, hm, Option.bind_some, hp', Option.bind_some, hs', Option.bind_some, es votes hv, Option.bind_some, Option.bind_some, if_pos (by simp; omega), List.nil_append, Option.bind_some, if_pos (by omega), if_pos (by omega), ht, Option.bind_some, Option.bind_some, Int.toNat_natCast, w64 (x := 1 + t) (by omega) (by omega), w64 (x := rd votes p + (1 + t)) (by omega) (by omega)]
  have hw : vt (votes.set p (rd votes p + (1 + t))) = true := vt_set hv hp (by omega)
  have hmore := gv_more (m := m) hv hw (by simp) hp (by rw [rd_set hp, if_pos rfl]; omega) (fun i hi hne => by rw [rd_set hp, if_neg hne]) (s := s) (by omega)
  rw [es _ hw, Option.bind_some]
  have g1 := gv_length m votes s
  have g2 := gv_length m (votes.set p (rd votes p + (1 + t))) s
  rw [List.length_set] at g2
  generalize gv m votes s = G1 at hmore g1 ⊢
  generalize gv m (votes.set p (rd votes p + (1 + t))) s = G2 at hmore g2 ⊢
  simp only
  rw [if_pos trivial, if_pos trivial, if_pos (by omega), if_pos (by omega), if_pos (by omega), if_pos (by omega), decide_eq_false (by omega)]
  simp only [laws_FnMoreVotes.j0]
  rw [if_neg (by simp), hgo, Option.bind_some, FewestFor_impl' (by omega) (by omega), Option.bind_some]
  have hset : ∀ v, (votes.set p (rd votes p + (1 + t))).set p v = votes.set p v := fun v => List.set_set ..
  have hres : FewestFor_res m votes (p : Int) goal = if sv m votes p 1000000 ≥ goal then (lst m votes p goal, true) else (0, false) := by
    unfold FewestFor_res
    rw [if_pos ⟨hm3, hv, by omega, by omega⟩, Int.toNat_natCast]
  rw [hres]
  by_cases c : sv m votes p 1000000 ≥ goal
  · rw [if_pos c]
    have hi := isl_exists hm3 hv hp go0 c
    generalize lst m votes p goal = r at hi ⊢
    have hvr : vt (votes.set p r) = true := by
      apply Classical.byContradiction; intro hc
      have := hi.2.2.1
      unfold sv at this
      rw [if_neg hc] at this
      omega
    have hgr : rd (gv m (votes.set p r) 100) p ≥ goal := by
      have := hi.2.2.1
      unfold sv at this
      rwa [if_pos hvr] at this
    have hr0 := hi.1
    have hr1 := hi.2.1
    simp only
    rw [if_pos trivial, if_neg (by omega), decide_eq_false (by omega)]
    simp only [laws_FnMoreVotes.j1]
    rw [if_neg (by simp), if_pos (by omega), if_pos (by rw [List.length_set]; omega), Option.bind_some, Int.toNat_natCast, hset, seats100 hm3 (by rw [List.length_set]; omega) (by omega), if_pos hvr, Option.bind_some]
    have g3 := gv_length m (votes.set p r) 100
    rw [List.length_set] at g3
    generalize gv m (votes.set p r) 100 = G3 at hgr g3 ⊢
    simp only
    rw [if_pos trivial, if_pos (by omega), if_pos (by omega), decide_eq_false (by omega)]
    simp only [laws_FnMoreVotes.j2]
    rw [if_neg (by simp)]
    by_cases c0 : r = 0
    · rw [if_pos c0]
    · rw [if_neg c0, if_pos (by omega), if_pos (by rw [List.length_set]; omega), Option.bind_some, Int.toNat_natCast, List.set_set, w64 (by omega) (by omega), seats100 hm3 (by rw [List.length_set]; omega) (by omega), Option.bind_some, validVotes_eq (by rw [List.length_set]; omega) (by rw [List.length_set]; omega), Option.bind_some]
      have hless := hi.2.2.2 (r - 1) (by omega) (by omega)
      unfold sv at hless
      by_cases c1 : vt (votes.set p (r - 1)) = true
      · rw [if_pos c1] at hless
        have g4 := gv_length m (votes.set p (r - 1)) 100
        rw [List.length_set] at g4
        rw [if_pos c1, c1]
        generalize gv m (votes.set p (r - 1)) 100 = G4 at hless g4 ⊢
        simp only
        rw [if_pos (by rfl), if_pos trivial, if_pos (by omega), if_pos (by omega), decide_eq_true (by omega)]
      · rw [if_neg c1]
        simp only [Bool.not_eq_true] at c1
        rw [c1]
        simp only
        rw [if_pos (by rfl), if_neg (by simp)]
  · rw [if_neg c]
    have hb6 := vt_set hv hp (v := 1000000) (by omega)
    unfold sv at c
    rw [if_pos hb6] at c
    simp only
    rw [if_neg (by simp), if_pos (by omega), if_pos (by rw [List.length_set]; omega), Int.toNat_natCast, hset, seats100 hm3 (by rw [List.length_set]; omega) (by omega), if_pos hb6, Option.bind_some]
    have g3 := gv_length m (votes.set p 1000000) 100
    rw [List.length_set] at g3
    generalize gv m (votes.set p 1000000) 100 = G3 at c g3 ⊢
    simp only
    rw [if_pos trivial, if_pos (by omega), if_pos (by omega), decide_eq_true (by omega)]

end Go.Proofs.Ytnjehjkacicamaa.Pure
