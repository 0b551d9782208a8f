import Derived.Test.YtgmmfdilfpkbmaaXV3FnLeastError
import Derived.Test.YtgmmfdilfpkbmaaXP32FnLeastError
namespace Go.Proofs.Ytgmmfdilfpkbmaa.Pure
open Go.RowKit Go.Proofs.YtgmmfdilfpkbmaaW.PrintWords Go.Proofs.YtgmmfdilfpkbmaaW.PrintLast Go.Proofs.Ytgmmfdilfpkbmaa.P Go.Proofs.Ytgmmfdilfpkbmaa.B Go.Proofs.Ytgmmfdilfpkbmaa.Q
set_option linter.unusedVariables false
set_option linter.unusedSimpArgs false
set_option maxRecDepth 100000 in
theorem FnLeastError : laws_FnLeastError.Pure := by
  intro l0 l1 h0 h1 h2 h3 h4 h5
  refine ⟨300000, ?_⟩
  have b0 : by8 l0 := fun x hx => wfu8 (h2 x hx)
  have b1 : by8 l1 := fun x hx => wfu8 (h5 x hx)
  unfold laws_FnLeastError.f
  obtain ⟨b, hb⟩ := r8Long_ok l0 l1
  rw [hb, Option.bind_some]
  cases b with
  | true => rw [if_pos rfl]
  | false =>
  rw [if_neg (by simp)]
  obtain ⟨V, nums, e1, hV, hn, hnum⟩ := r8Values_ok b0 (k := 300000) (by omega)
  obtain ⟨x, e2, hx, hr⟩ := r8Rounding_ok b1 hV hn hnum (k := 300000) (by omega)
  have hv : vv V nums = true := vv_iff.2 ⟨by omega, by omega, fun y hy => by have := hnum y hy; omega⟩
  have ho := okd_vv hv
  obtain ⟨D, d1, d2, d3, d4⟩ := ups_of ho hx hr
  have xs : x.sum = (fls V nums).sum + D.length := by
    have := incs_sum D (fls V nums) (fun q hq => by rw [fls_length]; exact (d2 q hq).1)
    rw [← d3] at this
    exact this
  have cs := cls_sum' ho.1 nums
  have ab : (above V nums 0 nums.length).length ≤ nums.length := by
    have := List.length_filter_le (fun i => decide (0 < rst V nums i)) (List.range nums.length)
    rwa [List.length_range] at this
  have ups : upsOf V nums x.sum = D.length := by unfold upsOf; omega
  have ask : ∀ nm : Int, 0 ≤ nm ∧ nm ≤ 2 → askB V nums x.sum nm = true := fun nm h => by
    unfold askB
    rw [hv, Bool.true_and, Bool.and_eq_true, decide_eq_true_eq, decide_eq_true_eq]
    exact ⟨⟨by omega, by omega⟩, h⟩
  have af := ask_facts (ask 0 (by omega))
  have br : ∀ nm : Int, 0 ≤ nm ∧ nm ≤ 2 → BestRounding_res V nums x.sum nm = (bestL V nums nm D.length, true) := fun nm h => by
    unfold BestRounding_res
    rw [if_pos (ask nm h), ups]
  have inb : ∀ y : List Int, y.length = nums.length → (∀ i : Nat, i < nums.length → rd y i = rd nums i / V ∨ rd y i = cl (rd nums i) V) → ∀ z ∈ y, -100 ≤ z ∧ z ≤ 100 := fun y hy hyr z hz => by
    obtain ⟨i, hi, rfl⟩ := List.getElem_of_mem hz
    have h6 := hyr i (by omega)
    have h7 := hnum _ (rd_mem (l := nums) (n := i) (by omega))
    have h8 := ediv_bounds (a := rd nums i) ho.1 (M := 100) (by omega) (by omega) (by omega)
    have h9 := cl_bounds (a := rd nums i) ho.1 (M := 100) (by omega) (by omega) (by omega)
    rw [rd_nat hi] at h6
    omega
  have v64 : i64 V := ⟨by omega, by omega⟩
  have n64 : ∀ y ∈ nums, i64 y := fun y hy => by have := hnum y hy; exact ⟨by omega, by omega⟩
  have xin := inb x hx hr
  have x64 : ∀ y ∈ x, i64 y := fun y hy => by have := xin y hy; exact ⟨by omega, by omega⟩
  have sb : SumBounds_res V nums = ((fls V nums).sum, (cls V nums).sum, true) := by unfold SumBounds_res; rw [if_pos hv]
  rw [e1, Option.bind_some]
  simp only
  rw [e2, Option.bind_some, r8Sum_eq (by omega) (fun y hy => by have := xin y hy; omega) (by omega), Option.bind_some, SumBounds_impl v64 n64 (by omega) (by omega), Option.bind_some, sb]
  simp only
  rw [if_pos trivial, if_neg (by omega), decide_eq_false (by omega)]
  simp only [laws_FnLeastError.j0]
  rw [if_neg (by simp)]
  have rx : IsRounding_res V nums x = true := IsRounding_iff.2 ⟨hv, hx, rnd_ofB hx hr⟩
  refine loopIc0 (m := 3) 250000 (F := fun k j (_ : Unit) => laws_FnLeastError.l0 k x x.sum (cls V nums).sum j V nums) (fun _ _ => True) (fun r => r = some true) ?_ ?_ (k := 299999) (s := ()) (by omega) trivial
  · intro k _ hk _
    have bad : BestRounding_res V nums ((cls V nums).sum + 1) 0 = ([], false) := by
      unfold BestRounding_res
      rw [if_neg]
      unfold askB
      rw [Bool.and_eq_true, Bool.and_eq_true, decide_eq_true_eq, decide_eq_true_eq]
      omega
    simp only [laws_FnLeastError.l0]
    rw [if_neg (by omega), w64 (x := (cls V nums).sum + 1) (by omega) (by omega), BestRounding_impl v64 n64 ⟨by omega, by omega⟩ ⟨by omega, by omega⟩ (by omega) (by omega), Option.bind_some, bad]
    rfl
  · intro k j _ hk hj _
    refine .inl ⟨(), trivial, ?_⟩
    have bl := best_least ho (by omega) d1 d2 d3 d4 (nm := (j : Int)) (by omega)
    have yin := inb _ bl.2.1 bl.2.2.2
    have ry : IsRounding_res V nums (bestL V nums (j : Int) D.length) = true := IsRounding_iff.2 ⟨hv, bl.2.1, rnd_ofB bl.2.1 bl.2.2.2⟩
    have y64 : ∀ y ∈ bestL V nums (j : Int) D.length, i64 y := fun y hy => by have := yin y hy; exact ⟨by omega, by omega⟩
    have er : ∀ y, IsRounding_res V nums y = true → ErrorOf_res V nums y (j : Int) = (nrm (j : Int) (ers V nums y), true) := fun y hy => by
      unfold ErrorOf_res
      rw [if_pos ⟨hy, by omega⟩]
    have j64 : i64 (j : Int) := ⟨by omega, by omega⟩
    simp only [laws_FnLeastError.l0]
    rw [if_pos (by omega), BestRounding_impl v64 n64 ⟨by omega, by omega⟩ j64 (by omega) (by omega), Option.bind_some, br (j : Int) (by omega)]
    simp only
    rw [ErrorOf_impl v64 n64 y64 j64 (by omega) (by omega) (by omega), Option.bind_some, ErrorOf_impl v64 n64 x64 j64 (by omega) (by omega) (by omega), Option.bind_some, er _ ry, er _ rx]
    simp only
    rw [if_pos trivial, if_pos trivial, if_pos trivial, IsRounding_impl v64 n64 y64 (by omega) (by omega) (by omega), Option.bind_some, if_pos ry, r8Sum_eq (by omega) (fun y hy => by have := yin y hy; omega) (by omega), Option.bind_some, if_pos bl.2.2.1, if_neg (by omega), wrap_nat (by omega)]
end Go.Proofs.Ytgmmfdilfpkbmaa.Pure
