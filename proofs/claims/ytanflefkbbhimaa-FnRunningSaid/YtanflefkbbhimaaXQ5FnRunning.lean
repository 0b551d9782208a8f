import Derived.Test.YtanflefkbbhimaaXQ4FnRunning
import Derived.Test.YtanflefkbbhimaaXP3FnRunning
import Derived.Test.YtanflefkbbhimaaXP6FnRunning
namespace Go.Proofs.Ytanflefkbbhimaa.Q
open Go.RowKit Go.Proofs.YtanflefkbbhimaaW.PrintWords Go.Proofs.YtanflefkbbhimaaW.PrintLast Go.Proofs.Ytanflefkbbhimaa.P Go.Proofs.Ytanflefkbbhimaa.B
set_option linter.unusedVariables false
set_option linter.unusedSimpArgs false
theorem nr_zero {den : Int} (h : 1 ≤ den) : nr 0 den = 0 := by
  unfold nr
  rw [Int.zero_ediv, if_neg (by omega), if_neg (by omega)]
theorem nr_bounds {a b : Int} (hb : 1 ≤ b) {M : Int} (hM : 0 ≤ M) (h1 : -M ≤ a) (h2 : a ≤ M) : -M ≤ nr a b ∧ nr a b ≤ M + 1 := by
  have h := ediv_bounds hb hM h1 h2
  rcases nr_cases a b with h' | h' <;> omega
def PrefixNearest_res (den : Int) (l : List Int) : List Int × Bool := if vv den l = true then (pf (nr · den) 0 l, true) else ([], false)
theorem PrefixNearest_impl {den : Int} {l : List Int} (_ : i64 den) (_ : ∀ x ∈ l, i64 x) (hl : l.length ≤ 1048576) {k : Nat} (hk : l.length + 200 < k) : impl_PrefixNearest.f k den l = some (PrefixNearest_res den l) := by
  unfold impl_PrefixNearest.f Za1.f PrefixNearest_res
  rw [validValues_eq (by omega) den (by omega), Option.bind_some]
  by_cases h : vv den l = true
  · rw [if_pos h, if_pos h, running_eq (vv_sum h).1 (vv_sum h).2 (by omega), Option.bind_some]
    have hv := vv_iff.1 h
    rw [show Za1.l0 k [] 0 (ps 0 l) (((ps 0 l).length : Nat) : Int) 0 den l = some (pf (nr · den) 0 l, true) from ?_]
    · rfl
    rw [ps_length]
    refine loopI0 (m := l.length) (F := fun k i (s : List Int × Int) => Za1.l0 k s.1 s.2 (ps 0 l) (l.length : Int) i den l) (fun n s => s = ((pf (nr · den) 0 l).take n, nr (l.take n).sum den)) (fun r => r = some (pf (nr · den) 0 l, true)) ?_ ?_ (k := k) (s := ([], 0)) (by omega) (by simp [nr_zero hv.1.1])
    · rintro k s rfl
      simp only [Za1.l0]
      rw [if_neg (by omega), List.take_of_length_le (by rw [pf_length]; omega)]
    · rintro k n s hn rfl
      have hf : n < (pf (nr · den) 0 l).length := by rw [pf_length]; exact hn
      have hp : n < (ps 0 l).length := by rw [ps_length]; exact hn
      have b0 := vv_take h n
      have b1 := vv_take h (n + 1)
      have hg := pf_get (nr · den) l 0 n hn
      rw [Int.zero_add, Int.zero_add] at hg
      have hq := ps_get l 0 n hn
      rw [Int.zero_add] at hq
      have d0 := nr_bounds (a := (l.take n).sum) hv.1.1 (M := 40000000) (by omega) (by omega) (by omega)
      have d1 := nr_bounds (a := (l.take (n + 1)).sum) hv.1.1 (M := 40000000) (by omega) (by omega) (by omega)
      refine .inl ⟨_, rfl, ?_⟩
      simp only [Za1.l0]
      rw [if_pos (by omega), if_pos (by omega), if_pos (by omega), rd_nat hp, wrap_nat (by omega), hq, nearest_eq hv.1.1 (by omega) (by omega) (by omega), Option.bind_some,
        if_pos (by rw [List.length_take, pf_length]; omega), w64 (by omega) (by omega), take_snoc hf, hg]
  · rw [if_neg h, if_neg h]; rfl
theorem rnd_get {den : Int} {l list : List Int} (hd : 1 ≤ den) (hl : list.length = l.length) (h : rnd den l list = true) : ∀ e ∈ ers den l list, -den < e ∧ e < den := by
  intro e he
  simp only [ers, List.mem_map] at he
  obtain ⟨⟨a, b⟩, hp, rfl⟩ := he
  have h1 := List.all_eq_true.1 h (a, b) hp
  simp only [Bool.or_eq_true, decide_eq_true_eq] at h1
  have h2 := ediv_mul_le (a := b) hd
  have h3 := cl_mul (a := b) hd
  simp only
  rw [Int.mul_comm]
  rcases h1 with rfl | rfl <;> omega
theorem rnd_in {den : Int} {l list : List Int} (h : okd den l) (hl : list.length = l.length) (hr : rnd den l list = true) {M : Int} (hM : 0 ≤ M) (hb : ∀ x ∈ l, -M ≤ x ∧ x ≤ M) : ∀ x ∈ list, -M ≤ x ∧ x ≤ M := by
  intro x hx
  obtain ⟨n, hn, rfl⟩ := List.getElem_of_mem hx
  have hz : n < (list.zip l).length := by rw [List.length_zip]; omega
  have h1 := List.all_eq_true.1 hr _ (List.getElem_mem hz)
  obtain ⟨g1, g2, e1, e2⟩ := zip_get1 hz
  rw [e1, e2] at h1
  simp only [Bool.or_eq_true, decide_eq_true_eq] at h1
  have h2 := hb _ (List.getElem_mem g2)
  rcases h1 with h1 | h1 <;> rw [h1]
  · exact ediv_bounds h.1 hM h2.1 h2.2
  · exact cl_bounds h.1 hM h2.1 h2.2
theorem rnd_oke {den : Int} {l list : List Int} (h : vv den l = true) (hl : list.length = l.length) (hr : rnd den l list = true) : oke den l list :=
  oke_of h hl fun x hx => by have := rnd_in (okd_vv h) hl hr (M := 1000000) (by omega) (vv_iff.1 h).2.2 x hx; omega
def IsRunning_res (den : Int) (l list : List Int) : Bool := IsRounding_res den l list && allIn (ps 0 (ers den l list)) (1 - den) (den - 1)
theorem IsRounding_iff {den : Int} {l list : List Int} : IsRounding_res den l list = true ↔ vv den l = true ∧ list.length = l.length ∧ rnd den l list = true := by
  simp only [IsRounding_res, Bool.and_eq_true, decide_eq_true_eq]
theorem IsRunning_impl {den : Int} {l list : List Int} (g1 : i64 den) (g2 : ∀ x ∈ l, i64 x) (g3 : ∀ x ∈ list, i64 x) (hl : l.length ≤ 1048576) (hl2 : list.length ≤ 1048576) {k : Nat} (hk : l.length + list.length + 200 < k) : Zau.f k den l list = some (IsRunning_res den l list) := by
  unfold Zau.f IsRunning_res
  rw [IsRounding_impl g1 g2 g3 hl hl2 hk, Option.bind_some]
  by_cases h : IsRounding_res den l list = true
  · have hi := IsRounding_iff.1 h
    have hv := vv_iff.1 hi.1
    have he := rnd_get hv.1.1 hi.2.1 hi.2.2
    have hle := ers_length (den := den) hi.2.1
    rw [if_pos h, errors_eq (rnd_oke hi.1 hi.2.1 hi.2.2) (by omega), Option.bind_some, running_eq (by omega) (fun x hx => by have := he x hx; omega) (by omega), Option.bind_some, areWithin_eq (by rw [ps_length]; omega) _ _ (by rw [ps_length]; omega), w64 (by omega) (by omega), w64 (by omega) (by omega), h]; rfl
  · rw [if_neg h]; simp only [Bool.not_eq_true] at h; rw [h]; rfl
end Go.Proofs.Ytanflefkbbhimaa.Q
