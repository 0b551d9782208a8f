import Derived.Test.YtijpgenadhhkcaaGreatDoorXV1FnValues
import Derived.Test.YtijpgenadhhkcaaGreatDoorXP1FnValues
import Derived.Test.YtijpgenadhhkcaaGreatDoorXP3FnValues
import Derived.Test.YtijpgenadhhkcaaGreatDoorXP4FnValues
import Derived.Test.YtijpgenadhhkcaaGreatDoorXP5FnValues
import Derived.Test.YtijpgenadhhkcaaGreatDoorXP6FnValues
import Derived.Test.YtijpgenadhhkcaaGreatDoorXP7FnValues
import Derived.Test.YtijpgenadhhkcaaGreatDoorXP8FnValues
import Derived.Test.YtijpgenadhhkcaaGreatDoorXP9FnValues
namespace Go.Proofs.YtijpgenadhhkcaaGreatDoor.Pure
open Go.RowKit Go.Proofs.YtijpgenadhhkcaaGreatDoorW.PrintWords Go.Proofs.YtijpgenadhhkcaaGreatDoorW.PrintLast Go.Proofs.YtijpgenadhhkcaaGreatDoor.P Go.Proofs.YtijpgenadhhkcaaGreatDoor.B Go.Proofs.YtijpgenadhhkcaaGreatDoor.Q
set_option linter.unusedVariables false
set_option linter.unusedSimpArgs false
theorem itoa_no58 {v : Int} (h : -1000000000 ≤ v ∧ v ≤ 1000000000) : 58 ∉ Lib.itoa v := fun hc => by
  rcases itoa_chars h _ hc with e | e
  · exact absurd e (by decide)
  · have : (58 : UInt8).toNat = 58 := rfl
    omega
theorem rv_vtx {V : Int} {l : List Int} (hV : 1 ≤ V ∧ V ≤ 1000) (hl : l.length ≤ 40) (hb : ∀ x ∈ l, -1000000 ≤ x ∧ x ≤ 1000000) : ReadValues_res (vtx V l) = (V, l, true) := by
  have hb' : ∀ x ∈ l, -1000000000 ≤ x ∧ x ≤ 1000000000 := fun x h => by have := hb x h; omega
  have e : (vtx V l).data.toList = Lib.itoa V ++ 58 :: (txt l).data.toList := by
    unfold vtx itx
    simp [ByteArray.data_append]
  have hc : Lib.cut (vtx V l).data.toList [58] = (Lib.itoa V, (txt l).data.toList, true) := by
    rw [e, cut_hit (i := (Lib.itoa V).length)]
    · simp
    · simp
    · intro j hj
      rw [List.getElem?_append_left hj]
      exact fun z => itoa_no58 (v := V) (by omega) (List.mem_of_getElem? z)
  have hr : rl (txt l).data.toList = (l, true) := rl_txt hl hb'
  unfold ReadValues_res rv two
  rw [hc]
  simp only [if_true]
  rw [readDec_itoa (by omega), hr]
  simp only [if_true]
  rw [if_pos (vv_iff.2 ⟨hV, hl, hb⟩)]
theorem b10Rounding_ok {l : List Int} (hl : by8 l) {V : Int} {nums : List Int} (hV : 1 ≤ V ∧ V ≤ 12) (hn : nums.length ≤ 40) (hnum : ∀ x ∈ nums, -20 ≤ x ∧ x ≤ 39) {k : Nat} (hk : 60 < k) :
    ∃ x, Zay.f k l V nums = some x ∧ x.length = nums.length ∧ ∀ i : Nat, i < nums.length → rd x i = rd nums i / V ∨ rd x i = cl (rd nums i) V := by
  unfold Zay.f spec_l00From.f
  rw [Option.bind_some]
  refine loopIc0 (m := nums.length) 5 (F := fun k j (s : List Int × Int × Int) => Zay.l0 k s.1 j V nums l s.2.1 s.2.2) (fun j s => s.1.length = j ∧ (0 ≤ s.2.1 ∧ s.2.1 ≤ 2 * (j : Int)) ∧ ∀ i : Nat, i < j → rd s.1 i = rd nums i / V ∨ rd s.1 i = cl (rd nums i) V) (fun r => ∃ x, r = some x ∧ x.length = nums.length ∧ ∀ i : Nat, i < nums.length → rd x i = rd nums i / V ∨ rd x i = cl (rd nums i) V) ?_ ?_ (k := k) (s := ([], 0, 0)) (by omega) ⟨rfl, by simp, fun i hi => by omega⟩
  · rintro k ⟨x, a, s⟩ hk ⟨h1, _, h3⟩
    simp only [Zay.l0]
    rw [if_neg (by omega)]
    exact ⟨x, rfl, h1, h3⟩
  · rintro k j ⟨x, a, s⟩ hk hj ⟨h1, h2, h3⟩
    simp only at h1 h2 h3
    obtain ⟨z, b, s', e, hz, hb⟩ := pick_ok (seed := s) (n := 2) hl (show 0 ≤ a ∧ a ≤ 100000000000000000 by omega) (by omega)
    have hx := hnum _ (rd_mem hj)
    simp only [Zay.l0]
    rw [if_pos (by omega), if_pos (by omega), l01Floor_eq hV.1 (by omega) (by omega) (by omega), Option.bind_some]
    unfold spec_l00Src_one.f
    rw [e, Option.bind_some, Option.bind_some]
    simp only
    have app : ∀ v : Int, v = rd nums j / V ∨ v = cl (rd nums j) V → ∀ i : Nat, i < j + 1 → rd (x ++ [v]) i = rd nums i / V ∨ rd (x ++ [v]) i = cl (rd nums i) V := fun v hv i hi => by
      by_cases c : i < j
      · have := h3 i c
        rw [rd_nat (by rw [List.length_append]; omega), List.getElem_append_left (by omega), ← rd_nat (by omega)]
        exact this
      · obtain rfl : i = j := by omega
        rw [rd_nat (by rw [List.length_append, List.length_singleton]; omega), List.getElem_append_right (by omega)]
        simp only [h1, Nat.sub_self, List.getElem_cons_zero]
        exact hv
    by_cases c : (z == 0) = true
    · rw [if_pos c, l01Ceil_eq hV.1 (by omega) (by omega) (by omega), Option.bind_some, if_pos (by omega), wrap_nat (by omega)]
      exact .inl ⟨(x ++ [cl (rd nums j) V], b, s'), ⟨by simp [h1], by simp only; omega, app _ (.inr rfl)⟩, rfl⟩
    · rw [if_neg c, if_pos (by omega), wrap_nat (by omega)]
      exact .inl ⟨(x ++ [rd nums j / V], b, s'), ⟨by simp [h1], by simp only; omega, app _ (.inl rfl)⟩, rfl⟩
theorem rnd_of {V : Int} {nums x : List Int} (hx : x.length = nums.length) (hr : ∀ i : Nat, i < nums.length → rd x i = rd nums i / V ∨ rd x i = cl (rd nums i) V) : rnd V nums x = true := by
  unfold rnd
  rw [List.all_eq_true]
  intro p hp
  obtain ⟨i, hi, rfl⟩ := List.getElem_of_mem hp
  obtain ⟨h1, h2, e1, e2⟩ := zip_get1 hi
  have := hr i h2
  rw [rd_nat h1, rd_nat h2] at this
  rw [e1, e2, Bool.or_eq_true, decide_eq_true_eq, decide_eq_true_eq]
  exact this
theorem ers_sum (V : Int) : ∀ (nums list : List Int), list.length = nums.length → (ers V nums list).sum = V * list.sum - nums.sum
  | [], [], _ => by simp [ers]
  | [], _ :: _, h => by simp at h
  | _ :: _, [], h => by simp at h
  | y :: ys, x :: xs, h => by
    have := ers_sum V ys xs (by simpa using h)
    unfold ers at this ⊢
    rw [List.zip_cons_cons, List.map_cons, List.sum_cons, this, List.sum_cons, List.sum_cons, Int.mul_add]
    show V * x - y + _ = _
    omega
theorem ers_rd {V : Int} {nums list : List Int} (h : list.length = nums.length) {i : Nat} (hi : i < nums.length) : rd (ers V nums list) i = V * rd list i - rd nums i := by
  have hz : i < (ers V nums list).length := by rw [ers_length h]; exact hi
  rw [rd_nat hz, rd_nat (by omega), rd_nat hi]
  have e : (ers V nums list)[i] = V * ((list.zip nums)[i]'(by rw [List.length_zip]; omega)).1 - ((list.zip nums)[i]'(by rw [List.length_zip]; omega)).2 := List.getElem_map ..
  rw [e, List.getElem_zip]
theorem rd_map0 (f : Int → Int) (l : List Int) {i : Nat} (hi : i < l.length) : rd (l.map f) i = f (rd l i) := by
  rw [rd_nat (by simpa using hi), rd_nat hi, List.getElem_map]
theorem nr_near {a b : Int} (hb : 1 ≤ b) : nr a b = a / b ∨ nr a b = cl a b := by
  rcases nr_cases a b with h | h
  · exact .inl h
  · right
    have h1 := ediv_mul_le (a := a) hb
    have h2 := cl_mul (a := a) hb
    have h3 : 0 < a - a / b * b := by
      unfold nr at h
      split at h
      · omega
      · split at h
        · omega
        · omega
    rw [h]
    generalize a / b = p at h1 h3 ⊢
    generalize cl a b = q at h2 ⊢
    have h4 : (q - p) * b = q * b - p * b := Int.sub_mul ..
    rcases Int.lt_trichotomy (q - p) 1 with c | c | c
    · have : (q - p) * b ≤ 0 * b := Int.mul_le_mul_of_nonneg_right (by omega) (by omega)
      omega
    · omega
    · have : 2 * b ≤ (q - p) * b := Int.mul_le_mul_of_nonneg_right (by omega) (by omega)
      omega
set_option maxRecDepth 100000 in
theorem FnValues : laws_FnValues.Pure := by
  intro l0 l1 _ _ h0w _ _ h1w
  have hl0 : by8 l0 := fun x hx => wfu8 (h0w x hx)
  have hl1 : by8 l1 := fun x hx => wfu8 (h1w x hx)
  refine ⟨20000, ?_⟩
  unfold laws_FnValues.f
  obtain ⟨b, eb⟩ := b10Long_ok l0 l1
  rw [eb, Option.bind_some]
  by_cases cb : b = true
  · rw [if_pos cb]
  rw [if_neg cb]
  obtain ⟨V, nums, ev, hV, hn, hx⟩ := b10Values_ok hl0 (k := 20000) (by omega)
  have hb : ∀ x ∈ nums, -1000000 ≤ x ∧ x ≤ 1000000 := fun x h => by have := hx x h; omega
  have hvv : vv V nums = true := vv_iff.2 ⟨by omega, hn, hb⟩
  have hi : ∀ x ∈ nums, i64 x := fun x h => by have := hx x h; constructor <;> omega
  have hVi : i64 V := by constructor <;> omega
  obtain ⟨list, er, hll, hr⟩ := b10Rounding_ok hl1 hV hn hx (k := 20000) (by omega)
  have nb : ∀ i : Nat, i < nums.length → -39 ≤ rd nums i ∧ rd nums i ≤ 39 := fun i h => by have := hx _ (rd_mem h); omega
  have lb : ∀ x ∈ list, -39 ≤ x ∧ x ≤ 39 := fun x h => by
    obtain ⟨i, hi, rfl⟩ := List.getElem_of_mem h
    have h1 := hr i (by omega)
    have h2 := nb i (by omega)
    rw [rd_nat hi] at h1
    rcases h1 with e | e
    · rw [e]; exact ediv_bounds hV.1 (by omega) (by omega) (by omega)
    · rw [e]; exact cl_bounds hV.1 (by omega) (by omega) (by omega)
  have li : ∀ x ∈ list, i64 x := fun x h => by have := lb x h; constructor <;> omega
  have lll : ll list = true := ll_iff.2 ⟨by omega, fun x h => by have := lb x h; omega⟩
  have near : ∀ i : Nat, i < nums.length → rd (nrs V nums) i = rd nums i / V ∨ rd (nrs V nums) i = cl (rd nums i) V := fun i h => by
    unfold nrs
    rw [rd_map0 _ _ h]
    exact nr_near hV.1
  have e1 : impl_ErrorsOf.f 20000 V nums list = some (ers V nums list, true) := by
    rw [ErrorsOf_impl hVi hi li (by omega) (by omega) (by omega)]; unfold ErrorsOf_res; rw [if_pos ⟨hvv, hll, lll⟩]
  have e2 : impl_SumOf.f 20000 V nums = some (nums.sum, true) := by
    rw [SumOf_impl hVi hi (by omega) (by omega)]; unfold SumOf_res; rw [if_pos hvv]
  have e3 : impl_ValuesText.f 20000 V nums = some (vtx V nums, true) := by
    rw [ValuesText_impl hVi hi (by omega) (by omega)]; unfold ValuesText_res; rw [if_pos hvv]
  have hsz : (vtx V nums).size ≤ 600 := by
    have h1 := itx_size (x := V) (by omega)
    have h2 := txt_size hn (fun x hx => by have := hb x hx; omega)
    unfold vtx
    rw [ByteArray.size_append, ByteArray.size_append, show (⟨#[58]⟩ : ByteArray).size = 1 from rfl]
    omega
  have e4 : impl_ReadValues.f 20000 (vtx V nums) = some (V, nums, true) := by rw [ReadValues_impl (by omega) (by omega), rv_vtx (by omega) hn hb]
  have e5 : impl_FloorsOf.f 20000 V nums = some (fls V nums, true) := by
    rw [FloorsOf_impl hVi hi (by omega) (by omega)]; unfold FloorsOf_res; rw [if_pos hvv]
  have e6 : impl_CeilingsOf.f 20000 V nums = some (cls V nums, true) := by
    rw [CeilingsOf_impl hVi hi (by omega) (by omega)]; unfold CeilingsOf_res; rw [if_pos hvv]
  have e7 : impl_NearestOf.f 20000 V nums = some (nrs V nums, true) := by
    rw [NearestOf_impl hVi hi (by omega) (by omega)]; unfold NearestOf_res; rw [if_pos hvv]
  have rn : ∀ x : List Int, x.length = nums.length → (∀ y ∈ x, i64 y) → (∀ i : Nat, i < nums.length → rd x i = rd nums i / V ∨ rd x i = cl (rd nums i) V) → Zal.f 20000 V nums x = some true := fun x h1 h2 h3 => by
    rw [IsRounding_impl hVi hi h2 (by omega) (by omega) (by omega)]
    congr 1
    exact IsRounding_iff.2 ⟨hvv, h1, rnd_of h1 h3⟩
  have nl : (nrs V nums).length = nums.length := nrs_length V nums
  have e8 := rn list hll li hr
  have e9 := rn (nrs V nums) nl (fun y h => by
    obtain ⟨i, hi, rfl⟩ := List.getElem_of_mem h
    have h1 := near i (by omega)
    have h2 := nb i (by omega)
    rw [rd_nat hi] at h1
    rcases h1 with e | e
    · rw [e]; have := ediv_bounds hV.1 (M := 39) (by omega) h2.1 h2.2; constructor <;> omega
    · rw [e]; have := cl_bounds hV.1 (M := 39) (by omega) h2.1 h2.2; constructor <;> omega) near
  rw [ev, Option.bind_some, er, Option.bind_some, e1, Option.bind_some, e2, Option.bind_some, e3, Option.bind_some, e4, Option.bind_some, e5, Option.bind_some, e6, Option.bind_some, e7, Option.bind_some]
  simp only [if_true]
  rw [e8, Option.bind_some]
  simp only [if_true]
  rw [e9, Option.bind_some]
  simp only [if_true]
  have el : (ers V nums list).length = nums.length := ers_length hll
  rw [if_pos (by omega), b10Nums_self (by omega) (by omega), Option.bind_some]
  show laws_FnValues.j0 (19999 + 1) _ _ _ _ _ _ _ _ = _
  simp only [laws_FnValues.j0]
  rw [if_neg (by decide)]
  have errs : ∀ i : Nat, i < nums.length → -V < rd (ers V nums list) i ∧ rd (ers V nums list) i < V := fun i h => by
    rw [ers_rd hll h]
    rcases hr i h with e | e
    · rw [e]
      have := ediv_mul_le (a := rd nums i) hV.1
      rw [Int.mul_comm] at this
      omega
    · rw [e]
      have := cl_mul (a := rd nums i) hV.1
      rw [Int.mul_comm] at this
      omega
  refine loopIc0 (m := nums.length) 100 (F := fun k i (_ : Unit) => laws_FnValues.l0 k list (ers V nums list) nums.sum (fls V nums) (cls V nums) i V nums) (fun _ _ => True) (fun r => r = some true) ?_ ?_ (k := 19999) (s := ()) (by omega) trivial
  · intro k _ hk _
    have b1 : ∀ x ∈ ers V nums list, -1000000000000 ≤ x ∧ x ≤ 1000000000000 := fun x h => by
      obtain ⟨i, hi, rfl⟩ := List.getElem_of_mem h
      have := errs i (by omega)
      rw [rd_nat hi] at this
      omega
    have s1 := b10Sum_eq (l := ers V nums list) (by omega) b1 (k := k) (by omega)
    have s2 := b10Sum_eq (l := list) (by omega) (fun x h => by have := lb x h; omega) (k := k) (by omega)
    have s3 := b10Sum_eq (l := nums) (by omega) (fun x h => by have := hx x h; omega) (k := k) (by omega)
    have es := ers_sum V nums list hll
    have t1 := sumS list 0 39 lb (by omega)
    have t2 := sumS nums 0 39 (fun x h => by have := hx x h; omega) (by omega)
    have hm := mul_in (a := V) (b := list.sum) (A := 12) (B := 1560) (by omega) (by omega) (by omega)
    simp only [laws_FnValues.l0]
    rw [if_neg (by omega), s1, Option.bind_some, s2, Option.bind_some, w64 (x := V * list.sum) (by omega) (by omega), w64 (by omega) (by omega), if_pos es, s3, Option.bind_some]
    simp
  · intro k i _ hk hlt _
    have h1 := errs i hlt
    have habs : ∃ a, laws_b10Abs.f (rd (ers V nums list) i) = some a ∧ a < V := by
      unfold laws_b10Abs.f
      split
      · exact ⟨_, rfl, by rw [w64 (by omega) (by omega)]; omega⟩
      · exact ⟨_, rfl, by omega⟩
    obtain ⟨a, ea, ha⟩ := habs
    have f1 : rd (fls V nums) i = rd nums i / V := rd_map0 _ _ hlt
    have f2 : rd (cls V nums) i = cl (rd nums i) V := rd_map0 _ _ hlt
    have l1 := fls_length V nums
    have l2 := cls_length V nums
    have hfc : rd nums i / V ≤ cl (rd nums i) V := by
      have q1 := ediv_mul_le (a := rd nums i) hV.1
      have q2 := cl_mul (a := rd nums i) hV.1
      generalize rd nums i / V = p at q1 ⊢
      generalize cl (rd nums i) V = q at q2 ⊢
      rcases Int.lt_or_le q p with h | h
      · have h3 : (q - p) * V = q * V - p * V := Int.sub_mul ..
        have h4 : (q - p) * V ≤ -1 * V := Int.mul_le_mul_of_nonneg_right (by omega) (by omega)
        omega
      · exact h
    simp only [laws_FnValues.l0]
    rw [if_pos (by omega), if_pos (by omega), ea, Option.bind_some, if_neg (by omega), if_pos (by omega), if_pos (by omega), f1, f2, wrap_nat (by omega)]
    rcases hr i hlt with e | e
    · rw [if_neg (by omega), if_pos (by omega), if_neg (by omega)]
      exact .inl ⟨(), trivial, rfl⟩
    · rw [if_neg (by omega), if_pos (by omega), if_neg (by omega)]
      exact .inl ⟨(), trivial, rfl⟩
end Go.Proofs.YtijpgenadhhkcaaGreatDoor.Pure
