/- Rows of rows: what the laws measure, copy and compare. -/
import Derived.Test.YtoelhfbmeegbdaaQLAFnExactIsLaminar
import Derived.Test.YtoelhfbmeegbdaaP1
import Derived.Test.YtoelhfbmeegbdaaP3
import Derived.Test.YtoelhfbmeegbdaaP7
namespace Go.Proofs.Ytoelhfbmeegbdaa.Q
open Go.RowKit Go.Proofs.YtoelhfbmeegbdaaW.PrintWords Go.Proofs.YtoelhfbmeegbdaaW.PrintLast Go.Proofs.Ytoelhfbmeegbdaa.P Go.Proofs.Ytoelhfbmeegbdaa.B
set_option linter.unusedVariables false
set_option linter.unusedSimpArgs false

theorem szInt64S_eq {l : List Int} (hl : l.length ≤ 9223372036854775807) {a : Int} (ha : 0 ≤ a ∧ a ≤ 1048576) : laws_szInt64S.f l a = some (if a - (l.length : Int) < 0 then -1 else a - (l.length : Int)) := by
  unfold laws_szInt64S.f
  rw [w64 (by omega) (by omega)]
  split <;> rfl
theorem szValues_at {l : List Int} (hl : l.length ≤ 9223372036854775807) (den : Int) {a : Int} (ha : 0 ≤ a ∧ a ≤ 1048576) : ∃ r, laws_szValues.f den l a = some r ∧ (0 ≤ r → r ≤ 1048576 ∧ l.length ≤ 1048576) := by
  unfold laws_szValues.f
  rw [szInt64S_eq hl ha, Option.bind_some]
  by_cases c : a - (l.length : Int) < 0
  · rw [if_pos c]
    exact ⟨_, by rw [if_pos (by omega)], fun h => by omega⟩
  · rw [if_neg c]
    exact ⟨_, by rw [if_neg c], fun h => by omega⟩
theorem szInt64SS_at {gs : List (List Int)} (hg : gs.length ≤ 9223372036854775807) (hy : ∀ y ∈ gs, y.length ≤ 9223372036854775807) {a : Int} (ha : 0 ≤ a ∧ a ≤ 1048576) {k : Nat} (hk : 1048576 + 10 < k) : ∃ r, laws_szInt64SS.f k gs a = some r ∧ (0 ≤ r → r ≤ 1048576 ∧ small gs) := by
  unfold laws_szInt64SS.f
  rw [w64 (by omega) (by omega)]
  by_cases c : a - (gs.length : Int) < 0
  · rw [if_pos c]
    exact ⟨_, rfl, fun h => by omega⟩
  · rw [if_neg c]
    refine loopI0 (m := gs.length) (F := fun k i (x : Int) => laws_szInt64SS.l0 k gs x i) (fun j x => (0 ≤ x ∧ x ≤ 1048576) ∧ ∀ m, m < j → (grp gs m).length ≤ 1048576) (fun r => ∃ r', r = some r' ∧ (0 ≤ r' → r' ≤ 1048576 ∧ small gs)) ?_ ?_ (k := k) (by omega) ⟨by omega, fun m hm => by omega⟩
    · intro k x h
      simp only [laws_szInt64SS.l0]
      rw [if_neg (by omega)]
      exact ⟨_, rfl, fun _ => ⟨h.1.2, by omega, h.2⟩⟩
    · intro k j x hj h
      have hl : (grp gs j).length ≤ 9223372036854775807 := by rw [grp_get hj]; exact hy _ (List.getElem_mem hj)
      simp only [laws_szInt64SS.l0]
      rw [if_pos (by omega), if_pos (by omega)]
      change (∃ s', _ ∧ ((laws_szInt64S.f (grp gs j) x).bind _) = _) ∨ (∃ r', ((laws_szInt64S.f (grp gs j) x).bind _) = _ ∧ _)
      rw [szInt64S_eq hl h.1, Option.bind_some]
      by_cases c2 : x - ((grp gs j).length : Int) < 0
      · rw [if_pos c2, if_pos (by omega)]
        exact .inr ⟨_, rfl, fun h => by omega⟩
      · rw [if_neg c2, if_neg (by omega), wrap_nat (by omega)]
        refine .inl ⟨_, ⟨by omega, fun m hm => ?_⟩, rfl⟩
        by_cases e : m = j
        · subst e; omega
        · exact h.2 m (by omega)
theorem toInt64SS_eq {gs : List (List Int)} (hs : small gs) {k : Nat} (hk : 3000000 < k) : laws_toInt64SS.f k gs = some gs := by
  have hs1 := hs.1
  unfold laws_toInt64SS.f
  rw [if_pos (by omega), Int.toNat_natCast, if_pos (by omega)]
  refine loopIc0 (m := gs.length) 1048600 (F := fun k i (x : List (List Int)) => laws_toInt64SS.l0 k gs x i) (fun j x => x = gs.take j ++ List.replicate (gs.length - j) []) (fun r => r = some gs) ?_ ?_ (k := k) (by omega) (by simp)
  · rintro k x _ rfl
    simp only [laws_toInt64SS.l0]
    rw [if_neg (by omega)]
    simp
  · rintro k j x hkk hj rfl
    have g1 := hs.2 j hj
    simp only [laws_toInt64SS.l0]
    rw [if_pos (by omega), if_pos (by omega)]
    change (∃ s', _ ∧ ((laws_toInt64S.f k (grp gs j)).bind _) = _) ∨ ((laws_toInt64S.f k (grp gs j)).bind _) = _
    rw [toInt64S_eq g1 (by omega), Option.bind_some, if_pos (by rw [List.length_append, List.length_take, List.length_replicate]; omega), wrap_nat (by omega)]
    refine .inl ⟨_, ?_, rfl⟩
    rw [Int.toNat_natCast, List.set_append_right _ _ (by rw [List.length_take]; omega), List.length_take, show j - min j gs.length = 0 by omega, show gs.length - j = (gs.length - (j + 1)) + 1 by omega, List.replicate_succ, List.set_cons_zero, List.take_succ_eq_append_getElem hj, grp_get hj, List.append_assoc]
    rfl
theorem eqInt64SS_self {gs : List (List Int)} (hs : small gs) {k : Nat} (hk : 3000000 < k) : laws_eqInt64SS.f k gs gs = some true := by
  have hs1 := hs.1
  unfold laws_eqInt64SS.f
  rw [if_pos rfl]
  refine loopIc0 (m := gs.length) 1048600 (F := fun k i (_ : Unit) => laws_eqInt64SS.l0 k gs gs i) (fun _ _ => True) (fun r => r = some true) ?_ ?_ (k := k) (s := ()) (by omega) trivial
  · intro k _ _ _
    simp only [laws_eqInt64SS.l0]
    rw [if_neg (by omega)]
  · intro k j _ hkk hj _
    have g1 := hs.2 j hj
    simp only [laws_eqInt64SS.l0]
    rw [if_pos (by omega), if_pos (by omega), if_pos (by omega)]
    change (∃ s', _ ∧ ((laws_eqInt64S.f k (grp gs j) (grp gs j)).bind _) = _) ∨ ((laws_eqInt64S.f k (grp gs j) (grp gs j)).bind _) = _
    rw [eqInt64S_self (by omega) (by omega), Option.bind_some, if_pos rfl, wrap_nat (by omega)]
    exact .inl ⟨(), trivial, rfl⟩
end Go.Proofs.Ytoelhfbmeegbdaa.Q
