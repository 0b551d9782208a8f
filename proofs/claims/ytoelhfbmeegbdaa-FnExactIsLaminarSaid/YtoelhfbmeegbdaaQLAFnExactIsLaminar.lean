/- Laminar groups: what the specification and the program say of them. -/
import Derived.Test.YtoelhfbmeegbdaaQ2FnExactIsLaminar
import Derived.Test.YtoelhfbmeegbdaaP1
import Derived.Test.YtoelhfbmeegbdaaP2
import Derived.Test.YtoelhfbmeegbdaaP3
import Derived.Test.YtoelhfbmeegbdaaP4
import Derived.Test.YtoelhfbmeegbdaaP5
import Derived.Test.YtoelhfbmeegbdaaP6
namespace Go.Proofs.Ytoelhfbmeegbdaa.Q
open Go.RowKit Go.Proofs.YtoelhfbmeegbdaaW.PrintWords Go.Proofs.YtoelhfbmeegbdaaW.PrintLast Go.Proofs.Ytoelhfbmeegbdaa.P Go.Proofs.Ytoelhfbmeegbdaa.B
set_option linter.unusedVariables false
set_option linter.unusedSimpArgs false

theorem mem_rd {g : List Int} {x : Int} : x ∈ g ↔ ∃ i : Nat, i < g.length ∧ rd g i = x := by
  constructor
  · intro h
    obtain ⟨i, hi, e⟩ := List.getElem_of_mem h
    exact ⟨i, hi, by rw [rd_nat hi]; exact e⟩
  · rintro ⟨i, hi, rfl⟩
    exact rd_mem hi
theorem wrap_pred {j : Nat} (h : 1 ≤ j) (h2 : j ≤ 4611686018427387904) : wrap64 ((j : Int) - 1) = ((j - 1 : Nat) : Int) := by rw [w64 (by omega) (by omega)]; omega
/-- An increasing list of numbers from 0 to n - 1. -/
def RSat (n : Int) (g : List Int) (i : Nat) : Prop := (0 ≤ rd g i ∧ rd g i ≤ n - 1) ∧ (1 ≤ i → rd g ((i - 1 : Nat) : Int) < rd g i)
def RS (n : Int) (g : List Int) : Prop := ∀ i : Nat, i < g.length → RSat n g i
open Classical in
theorem isSet_eq {g : List Int} (hl : g.length ≤ 4611686018427387904) {n : Int} (hn : 0 ≤ n ∧ n ≤ 4611686018427387904) {k : Nat} (hk : g.length < k) : impl_isSet.f k g n = some (decide (RS n g)) := by
  unfold impl_isSet.f
  refine loopI0 (m := g.length) (F := fun k i (_ : Unit) => impl_isSet.l0 k g n g (g.length : Int) i) (fun j _ => ∀ i : Nat, i < j → RSat n g i) (fun r => r = some (decide (RS n g))) ?_ ?_ (k := k) (s := ()) hk (fun i hi => by omega)
  · intro k _ h
    simp only [impl_isSet.l0]
    rw [if_neg (by omega), decide_eq_true (show RS n g from h)]
  · intro k j _ hj h
    simp only [impl_isSet.l0]
    rw [if_pos (by omega), if_pos (by omega), if_pos (by omega), within_eq, Option.bind_some, w64 (x := n - 1) (by omega) (by omega)]
    by_cases c : 0 ≤ rd g j ∧ rd g j ≤ n - 1
    · rw [if_pos (decide_eq_true c)]
      by_cases c2 : (j : Int) > 0
      · rw [if_pos c2, wrap_pred (by omega) (by omega), if_pos (by omega), if_pos (by omega)]
        by_cases c3 : rd g j ≤ rd g ((j - 1 : Nat) : Int)
        · rw [if_pos c3]
          exact .inr (by rw [decide_eq_false (fun z => by have := (z j hj).2 (by omega); omega)])
        · rw [if_neg c3, wrap_nat (by omega)]
          refine .inl ⟨(), fun i hi => ?_, rfl⟩
          by_cases e : i = j
          · subst e; exact ⟨c, fun _ => by omega⟩
          · exact h i (by omega)
      · rw [if_neg c2, wrap_nat (by omega)]
        refine .inl ⟨(), fun i hi => ?_, rfl⟩
        by_cases e : i = j
        · subst e; exact ⟨c, fun _ => by omega⟩
        · exact h i (by omega)
    · rw [if_neg (by simpa using c)]
      exact .inr (by rw [decide_eq_false (fun z => c (z j hj).1)])
open Classical in
theorem rises_eq {g : List Int} (hl : g.length ≤ 4611686018427387904) {n : Int} {k : Nat} (hk : g.length < k) : spec_l00Rises.f k g 0 (n - 1) = some (decide (RS n g)) := by
  unfold spec_l00Rises.f
  refine loopI0 (m := g.length) (F := fun k i (_ : Unit) => spec_l00Rises.l0 k g 0 (n - 1) i) (fun j _ => ∀ i : Nat, i < j → RSat n g i) (fun r => r = some (decide (RS n g))) ?_ ?_ (k := k) (s := ()) hk (fun i hi => by omega)
  · intro k _ h
    simp only [spec_l00Rises.l0]
    rw [if_neg (by omega), decide_eq_true (show RS n g from h)]
  · intro k j _ hj h
    simp only [spec_l00Rises.l0]
    rw [if_pos (by omega), if_pos (by omega), l00In_eq, Option.bind_some]
    by_cases c : 0 ≤ rd g j ∧ rd g j ≤ n - 1
    · rw [if_pos (decide_eq_true c)]
      by_cases c2 : (j : Int) > 0
      · rw [if_pos c2, wrap_pred (by omega) (by omega), if_pos (by omega), if_pos (by omega)]
        by_cases c3 : rd g ((j - 1 : Nat) : Int) ≥ rd g j
        · rw [if_pos c3]
          exact .inr (by rw [decide_eq_false (fun z => by have := (z j hj).2 (by omega); omega)])
        · rw [if_neg c3, wrap_nat (by omega)]
          refine .inl ⟨(), fun i hi => ?_, rfl⟩
          by_cases e : i = j
          · subst e; exact ⟨c, fun _ => by omega⟩
          · exact h i (by omega)
      · rw [if_neg c2, wrap_nat (by omega)]
        refine .inl ⟨(), fun i hi => ?_, rfl⟩
        by_cases e : i = j
        · subst e; exact ⟨c, fun _ => by omega⟩
        · exact h i (by omega)
    · rw [if_neg (by simpa using c)]
      exact .inr (by rw [decide_eq_false (fun z => c (z j hj).1)])
open Classical in
theorem has_eq {g : List Int} (hl : g.length ≤ 4611686018427387904) (x : Int) {k : Nat} (hk : g.length < k) : spec_l00Has.f k g x = some (decide (x ∈ g)) := by
  unfold spec_l00Has.f
  refine loopI0 (m := g.length) (F := fun k i (_ : Unit) => spec_l00Has.l0 k g x i) (fun j _ => ∀ i : Nat, i < j → rd g i ≠ x) (fun r => r = some (decide (x ∈ g))) ?_ ?_ (k := k) (s := ()) hk (fun i hi => by omega)
  · intro k _ h
    simp only [spec_l00Has.l0]
    rw [if_neg (by omega), decide_eq_false (fun z => by obtain ⟨i, hi, e⟩ := mem_rd.1 z; exact h i hi e)]
  · intro k j _ hj h
    simp only [spec_l00Has.l0]
    rw [if_pos (by omega), if_pos (by omega)]
    by_cases c : rd g j = x
    · rw [if_pos c]
      exact .inr (by rw [decide_eq_true (mem_rd.2 ⟨j, hj, c⟩)])
    · rw [if_neg c, wrap_nat (by omega)]
      refine .inl ⟨(), fun i hi => ?_, rfl⟩
      by_cases e : i = j
      · subst e; exact c
      · exact h i (by omega)
open Classical in
theorem contains_eq {g : List Int} (hl : g.length ≤ 4611686018427387904) (x : Int) {k : Nat} (hk : g.length < k) : slices_Contains_int64_int64.f k g x = some (decide (x ∈ g)) := by
  have h : ∃ t, slices_Index_int64_int64.f k g x = some t ∧ (t ≥ 0 ↔ x ∈ g) := by
    unfold slices_Index_int64_int64.f
    refine loopI0 (m := g.length) (F := fun k i (_ : Unit) => slices_Index_int64_int64.l0 k g x (g.length : Int) i) (fun j _ => ∀ i : Nat, i < j → rd g i ≠ x) (fun r => ∃ t, r = some t ∧ (t ≥ 0 ↔ x ∈ g)) ?_ ?_ (k := k) (s := ()) hk (fun i hi => by omega)
    · intro k _ h
      simp only [slices_Index_int64_int64.l0]
      rw [if_neg (by omega)]
      exact ⟨_, rfl, fun z => by omega, fun z => by obtain ⟨i, hi, e⟩ := mem_rd.1 z; exact absurd e (h i hi)⟩
    · intro k j _ hj h
      simp only [slices_Index_int64_int64.l0]
      rw [if_pos (by omega), if_pos (by omega), if_pos (by omega)]
      by_cases c : x = rd g j
      · rw [if_pos c]
        exact .inr ⟨_, rfl, fun _ => mem_rd.2 ⟨j, hj, c.symm⟩, fun _ => by omega⟩
      · rw [if_neg c, wrap_nat (by omega)]
        refine .inl ⟨(), fun i hi => ?_, rfl⟩
        by_cases e : i = j
        · subst e; exact fun z => c z.symm
        · exact h i (by omega)
  obtain ⟨t, e, ht⟩ := h
  unfold slices_Contains_int64_int64.f
  rw [e, Option.bind_some]
  congr 1
  exact decide_eq_decide.2 ht
open Classical in
theorem meet_eq {a b : List Int} (ha : a.length ≤ 4611686018427387904) (hb : b.length ≤ 4611686018427387904) {k : Nat} (hk : a.length + b.length + 5 < k) : impl_meet.f k a b = some (decide (∃ x ∈ a, x ∈ b)) := by
  have h : ∃ t, slices_IndexFunc_int64_int64_meet_1.f k a b = some t ∧ (t ≥ 0 ↔ ∃ x ∈ a, x ∈ b) := by
    unfold slices_IndexFunc_int64_int64_meet_1.f
    refine loopIc0 (m := a.length) (b.length + 1) (F := fun k i (_ : Unit) => slices_IndexFunc_int64_int64_meet_1.l0 k a (a.length : Int) i b) (fun j _ => ∀ i : Nat, i < j → ¬ rd a i ∈ b) (fun r => ∃ t, r = some t ∧ (t ≥ 0 ↔ ∃ x ∈ a, x ∈ b)) ?_ ?_ (k := k) (s := ()) (by omega) (fun i hi => by omega)
    · intro k _ _ h
      simp only [slices_IndexFunc_int64_int64_meet_1.l0]
      rw [if_neg (by omega)]
      exact ⟨_, rfl, fun z => by omega, fun ⟨x, hx, hxb⟩ => by obtain ⟨i, hi, e⟩ := mem_rd.1 hx; exact absurd (by rw [e]; exact hxb) (h i hi)⟩
    · intro k j _ hkk hj h
      simp only [slices_IndexFunc_int64_int64_meet_1.l0, impl_meet_1_v.f]
      rw [if_pos (by omega), if_pos (by omega), if_pos (by omega), contains_eq hb _ (by omega), Option.bind_some, Option.bind_some]
      by_cases c : rd a j ∈ b
      · rw [if_pos (decide_eq_true c)]
        exact .inr ⟨_, rfl, fun _ => ⟨_, rd_mem hj, c⟩, fun _ => by omega⟩
      · rw [if_neg (by simpa using c), wrap_nat (by omega)]
        refine .inl ⟨(), fun i hi => ?_, rfl⟩
        by_cases e : i = j
        · subst e; exact c
        · exact h i (by omega)
  obtain ⟨t, e, ht⟩ := h
  unfold impl_meet.f slices_ContainsFunc_int64_int64_meet_1.f
  rw [e, Option.bind_some, Option.bind_some]
  congr 1
  exact decide_eq_decide.2 ht
open Classical in
theorem isPart_eq {a b : List Int} (ha : a.length ≤ 4611686018427387904) (hb : b.length ≤ 4611686018427387904) {k : Nat} (hk : a.length + b.length + 5 < k) : impl_isPart.f k a b = some (decide (∀ x ∈ a, x ∈ b)) := by
  have h : ∃ t, slices_IndexFunc_int64_int64_isPart_1.f k a b = some t ∧ (t ≥ 0 ↔ ∃ x ∈ a, ¬ x ∈ b) := by
    unfold slices_IndexFunc_int64_int64_isPart_1.f
    refine loopIc0 (m := a.length) (b.length + 1) (F := fun k i (_ : Unit) => slices_IndexFunc_int64_int64_isPart_1.l0 k a (a.length : Int) i b) (fun j _ => ∀ i : Nat, i < j → rd a i ∈ b) (fun r => ∃ t, r = some t ∧ (t ≥ 0 ↔ ∃ x ∈ a, ¬ x ∈ b)) ?_ ?_ (k := k) (s := ()) (by omega) (fun i hi => by omega)
    · intro k _ _ h
      simp only [slices_IndexFunc_int64_int64_isPart_1.l0]
      rw [if_neg (by omega)]
      exact ⟨_, rfl, fun z => by omega, fun ⟨x, hx, hxb⟩ => by obtain ⟨i, hi, e⟩ := mem_rd.1 hx; exact absurd (by rw [← e]; exact h i hi) hxb⟩
    · intro k j _ hkk hj h
      simp only [slices_IndexFunc_int64_int64_isPart_1.l0, impl_isPart_1_v.f]
      rw [if_pos (by omega), if_pos (by omega), if_pos (by omega), contains_eq hb _ (by omega), Option.bind_some, Option.bind_some]
      by_cases c : rd a j ∈ b
      · rw [decide_eq_true c, if_neg (by decide), wrap_nat (by omega)]
        refine .inl ⟨(), fun i hi => ?_, rfl⟩
        by_cases e : i = j
        · subst e; exact c
        · exact h i (by omega)
      · rw [decide_eq_false c, if_pos (by decide)]
        exact .inr ⟨_, rfl, fun _ => ⟨_, rd_mem hj, c⟩, fun _ => by omega⟩
  obtain ⟨t, e, ht⟩ := h
  unfold impl_isPart.f slices_ContainsFunc_int64_int64_isPart_1.f
  rw [e, Option.bind_some, Option.bind_some]
  congr 1
  by_cases c : ∀ x ∈ a, x ∈ b
  · rw [decide_eq_true c, decide_eq_false (fun z => by obtain ⟨x, h1, h2⟩ := ht.1 z; exact h2 (c x h1))]; rfl
  · rw [decide_eq_false c, decide_eq_true (ht.2 (by
      apply Classical.byContradiction
      intro z
      exact c (fun x hx => Classical.byContradiction fun hn => z ⟨x, hx, hn⟩)))]; rfl
/-- Two groups that meet, and none of which is a part of the other one. -/
def bad (g h : List Int) : Prop := (∃ x ∈ g, x ∈ h) ∧ (¬ ∀ x ∈ g, x ∈ h) ∧ ¬ ∀ x ∈ h, x ∈ g
/-- A group. -/
def grp (gs : List (List Int)) (k : Nat) : List Int := rd_L1 gs (k : Int)
theorem grp_get {gs : List (List Int)} {k : Nat} (h : k < gs.length) : grp gs k = gs[k] := by
  unfold grp rd_L1
  rw [Int.toNat_natCast, List.getD_eq_getElem?_getD, List.getElem?_eq_getElem h]
  rfl
theorem grp_take {gs : List (List Int)} {k i : Nat} (h : k < i) (hi : i ≤ gs.length) : rd_L1 (gs.take i) (k : Int) = grp gs k := by
  rw [grp_get (by omega)]
  unfold rd_L1
  rw [Int.toNat_natCast, List.getD_eq_getElem?_getD, List.getElem?_eq_getElem (by rw [List.length_take]; omega)]
  simp
/-- The first groups are laminar ones. -/
def OKG (n : Int) (gs : List (List Int)) (j : Nat) : Prop := ∀ k, k < j → (RS n (grp gs k) ∧ (grp gs k).length ≠ 0) ∧ ∀ m, m < k → ¬ bad (grp gs k) (grp gs m)
theorem OKG_succ {n : Int} {gs : List (List Int)} {j : Nat} (h : OKG n gs j) (h1 : RS n (grp gs j)) (h2 : (grp gs j).length ≠ 0) (h3 : ∀ m, m < j → ¬ bad (grp gs j) (grp gs m)) : OKG n gs (j + 1) := fun k hk => by
  by_cases e : k = j
  · subst e; exact ⟨⟨h1, h2⟩, h3⟩
  · exact h k (by omega)
/-- The lists' sizes. -/
def small (gs : List (List Int)) : Prop := gs.length ≤ 1048576 ∧ ∀ k, k < gs.length → (grp gs k).length ≤ 1048576
open Classical in
theorem implLam_l1 {gs : List (List Int)} (hs : small gs) {den : Int} {l : List Int} {i : Nat} (hi : i < gs.length) {ans : Bool} {Bd : Nat} (hB : 3000000 ≤ Bd)
    (hbad : ∀ m, m < i → bad (grp gs i) (grp gs m) → ans = false) (hnext : (∀ m, m < i → ¬ bad (grp gs i) (grp gs m)) → ∀ k, Bd < k → impl_IsLaminar.l0 k gs gs (gs.length : Int) ((i + 1 : Nat) : Int) den l = some ans) :
    ∀ e m k, m + e = i → (∀ m', m' < m → ¬ bad (grp gs i) (grp gs m')) → Bd + e + 1 < k → impl_IsLaminar.l1 k gs (grp gs i) gs (gs.length : Int) (i : Int) (gs.take i) ((gs.take i).length : Int) (m : Int) den l = some ans := by
  have ht : (gs.take i).length = i := by rw [List.length_take]; omega
  have hs1 := hs.1
  intro e
  induction e with
  | zero =>
    intro m k hm hn hk
    obtain ⟨k, rfl, _⟩ := succ_of_lt hk
    obtain rfl : m = i := by omega
    simp only [impl_IsLaminar.l1]
    rw [if_neg (by omega), wrap_nat (by omega)]
    exact hnext hn k (by omega)
  | succ e ih =>
    intro m k hm hn hk
    obtain ⟨k, rfl, hk'⟩ := succ_of_lt hk
    have g1 := hs.2 i hi
    have g2 := hs.2 m (by omega)
    simp only [impl_IsLaminar.l1]
    rw [if_pos (by omega), if_pos (by omega), if_pos (by omega), grp_take (by omega) (by omega), meet_eq (by omega) (by omega) (by omega), Option.bind_some, isPart_eq (by omega) (by omega) (by omega), Option.bind_some, isPart_eq (by omega) (by omega) (by omega), Option.bind_some, wrap_nat (by omega)]
    have go : ¬ bad (grp gs i) (grp gs m) → impl_IsLaminar.l1 k gs (grp gs i) gs (gs.length : Int) (i : Int) (gs.take i) ((gs.take i).length : Int) ((m + 1 : Nat) : Int) den l = some ans := fun hb => by
      refine ih (m + 1) k (by omega) (fun m' hm' => ?_) (by omega)
      by_cases e : m' = m
      · subst e; exact hb
      · exact hn m' (by omega)
    by_cases c1 : ∃ x ∈ grp gs i, x ∈ grp gs m
    · rw [if_pos (decide_eq_true c1)]
      by_cases c2 : ∀ x ∈ grp gs i, x ∈ grp gs m
      · rw [if_pos (decide_eq_true c2)]
        exact go (fun z => z.2.1 c2)
      · rw [if_neg (by rw [decide_eq_false c2]; decide)]
        by_cases c3 : ∀ x ∈ grp gs m, x ∈ grp gs i
        · rw [if_pos (decide_eq_true c3)]
          exact go (fun z => z.2.2 c3)
        · rw [if_neg (by rw [decide_eq_false c3]; decide), hbad m (by omega) ⟨c1, c2, c3⟩]
    · rw [if_neg (by rw [decide_eq_false c1]; decide)]
      exact go (fun z => c1 z.1)
open Classical in
theorem implLam_l0 {gs : List (List Int)} (hs : small gs) {den : Int} {l : List Int} (hl : l.length ≤ 1048576) : ∀ d i k, i + d = gs.length → OKG (l.length : Int) gs i → 3000000 + d * (gs.length + 10) < k →
    impl_IsLaminar.l0 k gs gs (gs.length : Int) (i : Int) den l = some (decide (OKG (l.length : Int) gs gs.length)) := by
  have hs1 := hs.1
  intro d
  induction d with
  | zero =>
    intro i k hi ho hk
    obtain ⟨k, rfl, _⟩ := succ_of_lt hk
    obtain rfl : i = gs.length := by omega
    simp only [impl_IsLaminar.l0]
    rw [if_neg (by omega), decide_eq_true ho]
  | succ d ih =>
    intro i k hi ho hk
    have hd : (d + 1) * (gs.length + 10) = d * (gs.length + 10) + (gs.length + 10) := Nat.succ_mul ..
    obtain ⟨k, rfl, hk'⟩ := succ_of_lt hk
    obtain ⟨k, rfl, hk''⟩ := succ_of_lt (show 3000000 + d * (gs.length + 10) + gs.length + 5 < k by omega)
    have hig : i < gs.length := by omega
    have g1 := hs.2 i hig
    simp only [impl_IsLaminar.l0]
    rw [if_pos (by omega), if_pos (by omega), if_pos (by omega)]
    change (if ((grp gs i).length : Int) = 0 then _ else _) = _
    by_cases c1 : (grp gs i).length = 0
    · rw [if_pos (by omega)]
      simp only [impl_IsLaminar.j2]
      rw [if_pos trivial, decide_eq_false (fun z => (z i hig).1.2 c1)]
    · rw [if_neg (by omega)]
      unfold impl_size_int64.f
      rw [Option.bind_some]
      change ((impl_isSet.f (k + 1) (grp gs i) (l.length : Int)).bind _) = _
      rw [isSet_eq (by omega) (by omega) (by omega), Option.bind_some]
      simp only [impl_IsLaminar.j2]
      by_cases c2 : RS (l.length : Int) (grp gs i)
      · rw [decide_eq_true c2, if_neg (by decide), if_pos (by omega), if_pos (by omega), Option.bind_some, Int.toNat_natCast]
        refine implLam_l1 hs hig (Bd := 3000000 + d * (gs.length + 10)) (by omega) (fun m hm hb => decide_eq_false fun z => (z i hig).2 m hm hb) (fun hn k2 hk2 => ih (i + 1) k2 (by omega) (OKG_succ ho c2 c1 hn) hk2) i 0 k (by omega) (fun m' h => by omega) (by omega)
      · rw [decide_eq_false c2, if_pos (by decide), decide_eq_false (fun z => c2 (z i hig).1.1)]
/-- Numbers that stand once, all of them in another list, are not more than that. -/
theorem nodup_leL : ∀ {T L : List Int}, T.Nodup → (∀ x ∈ T, x ∈ L) → T.length ≤ L.length
  | [], L, _, _ => by simp
  | a :: T, L, hd, hm => by
    have h1 := List.nodup_cons.1 hd
    have := nodup_leL (L := L.erase a) h1.2 (fun x hx => (List.mem_erase_of_ne (fun z => h1.1 (by rw [← z]; exact hx))).2 (hm x (List.mem_cons_of_mem _ hx)))
    rw [List.length_erase_of_mem (hm a List.mem_cons_self)] at this
    have h3 := List.length_pos_of_mem (hm a List.mem_cons_self)
    rw [List.length_cons]
    omega
theorem RS_lt {n : Int} {g : List Int} (h : RS n g) : ∀ d i : Nat, i + d + 1 < g.length → rd g i < rd g ((i + d + 1 : Nat) : Int)
  | 0, i, hi => by
    have := (h (i + 1) (by omega)).2 (by omega)
    rw [show i + 1 - 1 = i by omega] at this
    exact this
  | d + 1, i, hi => by
    have h1 := RS_lt h d i (by omega)
    have h2 := (h (i + (d + 1) + 1) (by omega)).2 (by omega)
    rw [show i + (d + 1) + 1 - 1 = i + d + 1 by omega] at h2
    omega
theorem RS_nodup {n : Int} {g : List Int} (h : RS n g) : g.Nodup := by
  rw [List.Nodup, List.pairwise_iff_getElem]
  intro i j hi hj hij
  have := RS_lt h (j - i - 1) i (by omega)
  rw [show i + (j - i - 1) + 1 = j by omega, rd_nat hi, rd_nat hj] at this
  omega
/-- How many numbers of h are in g. -/
noncomputable def cm (g h : List Int) : Nat := by classical exact (h.filter fun x => decide (x ∈ g)).length
open Classical in
theorem cm_take {g h : List Int} {j : Nat} (hj : j < h.length) : cm g (h.take (j + 1)) = cm g (h.take j) + if rd h j ∈ g then 1 else 0 := by
  unfold cm
  rw [List.take_succ_eq_append_getElem hj, List.filter_append, List.length_append, rd_nat hj]
  congr 1
  by_cases c : h[j] ∈ g
  · rw [if_pos c]; simp [c]
  · rw [if_neg c]; simp [c]
open Classical in
theorem cm_bad {n : Int} {g h : List Int} (hg : RS n g) (hh : RS n h) : (0 < cm g h ∧ cm g h < g.length ∧ cm g h < h.length) ↔ bad g h := by
  have e1 : 0 < cm g h ↔ ∃ x ∈ g, x ∈ h := by
    unfold cm
    rw [List.length_pos_iff_exists_mem]
    constructor
    · rintro ⟨x, hx⟩
      have := List.mem_filter.1 hx
      exact ⟨x, by simpa using this.2, this.1⟩
    · rintro ⟨x, h1, h2⟩
      exact ⟨x, List.mem_filter.2 ⟨h2, by simpa using h1⟩⟩
  have e2 : cm g h < h.length ↔ ¬ ∀ x ∈ h, x ∈ g := by
    unfold cm
    have hle := List.length_filter_le (fun x => decide (x ∈ g)) h
    constructor
    · intro hlt z
      rw [List.filter_eq_self.2 (fun x hx => by simpa using z x hx)] at hlt
      omega
    · intro z
      rcases Nat.lt_or_ge ((h.filter fun x => decide (x ∈ g)).length) h.length with c | c
      · exact c
      · exfalso
        apply z
        have hx := List.filter_sublist (p := fun x => decide (x ∈ g)) (l := h)
        have he := hx.eq_of_length (by omega)
        intro x hxh
        rw [← he] at hxh
        simpa using (List.mem_filter.1 hxh).2
  have e3 : cm g h < g.length ↔ ¬ ∀ x ∈ g, x ∈ h := by
    unfold cm
    have hnd : (h.filter fun x => decide (x ∈ g)).Nodup := (RS_nodup hh).filter _
    have hle : (h.filter fun x => decide (x ∈ g)).length ≤ g.length := nodup_leL hnd (fun x hx => by simpa using (List.mem_filter.1 hx).2)
    constructor
    · intro hlt z
      have := nodup_leL (RS_nodup hg) (L := h.filter fun x => decide (x ∈ g)) (fun x hx => List.mem_filter.2 ⟨z x hx, by simpa using hx⟩)
      omega
    · intro z
      rcases Nat.lt_or_ge ((h.filter fun x => decide (x ∈ g)).length) g.length with c | c
      · exact c
      · exfalso
        apply z
        intro x hx
        apply Classical.byContradiction
        intro hxh
        have hn : (x :: (h.filter fun x => decide (x ∈ g))).Nodup := List.nodup_cons.2 ⟨fun hm => hxh (List.mem_filter.1 hm).1, hnd⟩
        have := nodup_leL hn (L := g) (fun y hy => by
          rcases List.mem_cons.1 hy with rfl | hy
          · exact hx
          · simpa using (List.mem_filter.1 hy).2)
        rw [List.length_cons] at this
        omega
  unfold bad
  rw [e1, e2, e3]
open Classical in
theorem specLam_l2 {gs : List (List Int)} (hs : small gs) {n : Int} {i m : Nat} (hi : i < gs.length) (hm : m < i) {ans : Bool} {Bd : Nat} (hB : 3000000 ≤ Bd)
    (hbad : (0 < cm (grp gs i) (grp gs m) ∧ cm (grp gs i) (grp gs m) < (grp gs i).length ∧ cm (grp gs i) (grp gs m) < (grp gs m).length) → ans = false)
    (hnext : ¬ (0 < cm (grp gs i) (grp gs m) ∧ cm (grp gs i) (grp gs m) < (grp gs i).length ∧ cm (grp gs i) (grp gs m) < (grp gs m).length) → ∀ k, Bd < k → spec_l04Groups.l1 k n gs (i : Int) ((m + 1 : Nat) : Int) = some ans) :
    ∀ e j k, j + e = (grp gs m).length → Bd + e + 1 < k → spec_l04Groups.l2 k n gs (i : Int) (m : Int) (cm (grp gs i) ((grp gs m).take j) : Int) (j : Int) = some ans := by
  have hs1 := hs.1
  have g1 := hs.2 i hi
  have g2 := hs.2 m (by omega)
  intro e
  induction e with
  | zero =>
    intro j k hj hk
    obtain ⟨k, rfl, _⟩ := succ_of_lt hk
    have ej : j = (grp gs m).length := by omega
    rw [List.take_of_length_le (by omega)]
    simp only [spec_l04Groups.l2]
    rw [if_pos (by omega), if_pos (by omega)]
    change (if (j : Int) < ((grp gs m).length : Int) then _ else _) = _
    rw [if_neg (by omega)]
    change (if (cm (grp gs i) (grp gs m) : Int) > 0 then (if 0 ≤ (i : Int) then (if (i : Int) < (gs.length : Int) then (if (cm (grp gs i) (grp gs m) : Int) < ((grp gs i).length : Int) then (if (cm (grp gs i) (grp gs m) : Int) < ((grp gs m).length : Int) then _ else _) else _) else _) else _) else _) = _
    rw [wrap_nat (by omega)]
    by_cases c1 : 0 < cm (grp gs i) (grp gs m)
    · rw [if_pos (by omega), if_pos (by omega), if_pos (by omega)]
      by_cases c2 : cm (grp gs i) (grp gs m) < (grp gs i).length
      · rw [if_pos (by omega)]
        by_cases c3 : cm (grp gs i) (grp gs m) < (grp gs m).length
        · rw [if_pos (by omega), hbad ⟨c1, c2, c3⟩]
        · rw [if_neg (by omega)]
          exact hnext (fun z => c3 z.2.2) k (by omega)
      · rw [if_neg (by omega)]
        exact hnext (fun z => c2 z.2.1) k (by omega)
    · rw [if_neg (by omega)]
      exact hnext (fun z => c1 z.1) k (by omega)
  | succ e ih =>
    intro j k hj hk
    obtain ⟨k, rfl, hk'⟩ := succ_of_lt hk
    have hjl : j < (grp gs m).length := by omega
    have hcm : cm (grp gs i) ((grp gs m).take j) ≤ j := by
      unfold cm
      refine Nat.le_trans (List.length_filter_le _ _) ?_
      rw [List.length_take]; omega
    have hct := cm_take (g := grp gs i) hjl
    simp only [spec_l04Groups.l2]
    rw [if_pos (by omega), if_pos (by omega)]
    change (if (j : Int) < ((grp gs m).length : Int) then (if 0 ≤ (i : Int) then (if (i : Int) < (gs.length : Int) then (if 0 ≤ (j : Int) then ((spec_l00Has.f k (grp gs i) (rd (grp gs m) (j : Int))).bind _) else _) else _) else _) else _) = _
    rw [if_pos (by omega), if_pos (by omega), if_pos (by omega), if_pos (by omega), has_eq (by omega) _ (by omega), Option.bind_some, wrap_nat (by omega), wrap_nat (by omega)]
    by_cases c : rd (grp gs m) j ∈ grp gs i
    · rw [if_pos (decide_eq_true c)]
      rw [if_pos c] at hct
      have := ih (j + 1) k (by omega) (by omega)
      rw [hct] at this
      exact this
    · rw [if_neg (by rw [decide_eq_false c]; decide)]
      rw [if_neg c] at hct
      have := ih (j + 1) k (by omega) (by omega)
      rw [hct] at this
      exact this
open Classical in
theorem specLam_l1 {gs : List (List Int)} (hs : small gs) (h12 : gs.length ≤ 12) {n : Int} {i : Nat} (hi : i < gs.length) (ho : OKG n gs i) (hri : RS n (grp gs i)) {ans : Bool} {Bd : Nat} (hB : 3000000 ≤ Bd)
    (hbad : ∀ m, m < i → bad (grp gs i) (grp gs m) → ans = false) (hnext : (∀ m, m < i → ¬ bad (grp gs i) (grp gs m)) → ∀ k, Bd < k → spec_l04Groups.l0 k n gs ((i + 1 : Nat) : Int) = some ans) :
    ∀ e m k, m + e = i → (∀ m', m' < m → ¬ bad (grp gs i) (grp gs m')) → Bd + e * 1048600 + 3 < k → spec_l04Groups.l1 k n gs (i : Int) (m : Int) = some ans := by
  have hs1 := hs.1
  intro e
  induction e with
  | zero =>
    intro m k hm hn hk
    obtain ⟨k, rfl, _⟩ := succ_of_lt hk
    obtain ⟨k, rfl, _⟩ := succ_of_lt (show Bd + 1 < k by omega)
    obtain rfl : m = i := by omega
    simp only [spec_l04Groups.l1]
    rw [if_neg (by omega)]
    simp only [spec_l04Groups.j3]
    rw [if_neg (by decide), wrap_nat (by omega)]
    exact hnext hn k (by omega)
  | succ e ih =>
    intro m k hm hn hk
    obtain ⟨k, rfl, _⟩ := succ_of_lt hk
    obtain ⟨k, rfl, _⟩ := succ_of_lt (show Bd + e * 1048600 + 1048600 < k by omega)
    have hmi : m < i := by omega
    have g2 := hs.2 m (by omega)
    have hb := cm_bad hri (ho m hmi).1.1
    simp only [spec_l04Groups.l1]
    rw [if_pos (by omega), decide_eq_true (by omega)]
    simp only [spec_l04Groups.j3]
    rw [if_pos trivial]
    have hz : ((0 : Nat) : Int) = (cm (grp gs i) ((grp gs m).take 0) : Int) := by simp [cm]
    have := specLam_l2 hs hi hmi (n := n) (ans := ans) (Bd := Bd + e * 1048600 + 3) (by omega) (fun z => hbad m hmi (hb.1 z)) (fun z k2 hk2 => ih (m + 1) k2 (by omega) (fun m' hm' => by
      by_cases e : m' = m
      · subst e; exact fun y => z (hb.2 y)
      · exact hn m' (by omega)) hk2) (grp gs m).length 0 k (by omega) (by omega)
    rw [← hz] at this
    exact this
open Classical in
theorem specLam_l0 {gs : List (List Int)} (hs : small gs) (h12 : gs.length ≤ 12) {n : Int} (hn : 0 ≤ n ∧ n ≤ 4611686018427387904) : ∀ d i k, i + d = gs.length → OKG n gs i → 3000000 + d * 20000000 < k →
    spec_l04Groups.l0 k n gs (i : Int) = some (decide (OKG n gs gs.length)) := by
  have hs1 := hs.1
  intro d
  induction d with
  | zero =>
    intro i k hi ho hk
    obtain ⟨k, rfl, _⟩ := succ_of_lt hk
    obtain rfl : i = gs.length := by omega
    simp only [spec_l04Groups.l0]
    rw [if_neg (by omega), decide_eq_true ho, decide_eq_true (by omega)]
  | succ d ih =>
    intro i k hi ho hk
    obtain ⟨k, rfl, hk'⟩ := succ_of_lt hk
    obtain ⟨k, rfl, hk''⟩ := succ_of_lt (show 3000000 + d * 20000000 + 19000000 < k by omega)
    have hig : i < gs.length := by omega
    have g1 := hs.2 i hig
    simp only [spec_l04Groups.l0]
    rw [if_pos (by omega), if_pos (by omega), w64 (x := n - 1) (by omega) (by omega)]
    change ((spec_l00Rises.f (k + 1) (grp gs i) 0 (n - 1)).bind fun t => if t = true then (spec_l04Groups.j1 (k + 1) n gs (i : Int) (((grp gs i).length : Int) == 0)) else (spec_l04Groups.j1 (k + 1) n gs (i : Int) true)) = _
    rw [rises_eq (by omega) (by omega), Option.bind_some]
    simp only [spec_l04Groups.j1]
    by_cases c2 : RS n (grp gs i)
    · rw [if_pos (decide_eq_true c2)]
      by_cases c1 : (grp gs i).length = 0
      · rw [if_pos (by rw [beq_iff_eq]; omega), decide_eq_false (fun z => (z i hig).1.2 c1)]
      · rw [if_neg (by rw [beq_iff_eq]; omega)]
        exact specLam_l1 hs h12 hig ho c2 (Bd := 3000000 + d * 20000000) (by omega) (fun m hm hb => decide_eq_false fun z => (z i hig).2 m hm hb) (fun hn k2 hk2 => ih (i + 1) k2 (by omega) (OKG_succ ho c2 c1 hn) hk2) i 0 k (by omega) (fun m' h => by omega) (by omega)
    · rw [if_neg (by rw [decide_eq_false c2]; decide), if_pos trivial, decide_eq_false (fun z => c2 (z i hig).1.1)]
open Classical in
theorem specLam_many {gs : List (List Int)} (hs : small gs) (h12 : ¬ gs.length ≤ 12) {n : Int} (hn : 0 ≤ n ∧ n ≤ 4611686018427387904) : ∀ d i k, i + d = gs.length → 3000000 + d * 10 < k →
    spec_l04Groups.l0 k n gs (i : Int) = some false := by
  have hs1 := hs.1
  intro d
  induction d with
  | zero =>
    intro i k hi hk
    obtain ⟨k, rfl, _⟩ := succ_of_lt hk
    simp only [spec_l04Groups.l0]
    rw [if_neg (by omega), decide_eq_false (by omega)]
  | succ d ih =>
    intro i k hi hk
    obtain ⟨k, rfl, hk'⟩ := succ_of_lt hk
    obtain ⟨k, rfl, hk''⟩ := succ_of_lt (show 3000000 + d * 10 + 8 < k by omega)
    obtain ⟨k, rfl, hk3⟩ := succ_of_lt (show 3000000 + d * 10 + 7 < k by omega)
    obtain ⟨k, rfl, hk4⟩ := succ_of_lt (show 3000000 + d * 10 + 6 < k by omega)
    have g1 := hs.2 i (by omega)
    have fin : spec_l04Groups.l1 (k + 1 + 1) n gs (i : Int) 0 = some false := by
      have hj : spec_l04Groups.j3 (k + 1) n gs (i : Int) 0 false = some false := by
        simp only [spec_l04Groups.j3]
        rw [if_neg (by decide), wrap_nat (by omega)]
        exact ih (i + 1) k (by omega) (by omega)
      simp only [spec_l04Groups.l1]
      rw [decide_eq_false (show ¬ (gs.length : Int) ≤ 12 by omega), hj]
      split <;> rfl
    simp only [spec_l04Groups.l0]
    rw [if_pos (by omega), if_pos (by omega), w64 (x := n - 1) (by omega) (by omega)]
    change ((spec_l00Rises.f (k + 1 + 1 + 1) (grp gs i) 0 (n - 1)).bind fun t => if t = true then (spec_l04Groups.j1 (k + 1 + 1 + 1) n gs (i : Int) (((grp gs i).length : Int) == 0)) else (spec_l04Groups.j1 (k + 1 + 1 + 1) n gs (i : Int) true)) = _
    rw [rises_eq (by omega) (by omega), Option.bind_some]
    simp only [spec_l04Groups.j1]
    rw [fin, if_pos trivial]
    split
    · split <;> rfl
    · rfl
open Classical in
/-- Valid values and laminar groups of them. -/
noncomputable def IsLaminar_res (den : Int) (l : List Int) (gs : List (List Int)) : Bool := vv den l && (decide (gs.length ≤ 12) && decide (OKG (l.length : Int) gs gs.length))
open Classical in
theorem l04Laminar_eq {den : Int} {l : List Int} {gs : List (List Int)} (hs : small gs) (hl : l.length ≤ 1048576) {k : Nat} (hk : 300000000 < k) : spec_l04Laminar.f k den l gs = some (IsLaminar_res den l gs) := by
  have hs1 := hs.1
  unfold spec_l04Laminar.f IsLaminar_res
  rw [l01Is_eq (by omega) den (by omega), Option.bind_some]
  by_cases c : vv den l = true
  · rw [if_pos c, c, Bool.true_and]
    unfold spec_l04Groups.f
    by_cases c2 : gs.length ≤ 12
    · rw [show (0 : Int) = ((0 : Nat) : Int) from rfl, specLam_l0 hs c2 (by omega) gs.length 0 k (by omega) (fun k h => by omega) (by omega), Option.bind_some, decide_eq_true c2, Bool.true_and]
    · rw [show (0 : Int) = ((0 : Nat) : Int) from rfl, specLam_many hs c2 (by omega) gs.length 0 k (by omega) (by omega), Option.bind_some, decide_eq_false c2, Bool.false_and]
  · rw [if_neg c]
    simp only [Bool.not_eq_true] at c
    rw [c, Bool.false_and]
theorem IsLaminar_spec {den : Int} {l : List Int} {gs : List (List Int)} (hs : small gs) (hl : l.length ≤ 1048576) {k : Nat} (hk : 300000000 < k) : spec_IsLaminar.f k den l gs = some (IsLaminar_res den l gs) := by
  unfold spec_IsLaminar.f
  rw [l04Laminar_eq hs hl hk, Option.bind_some]
open Classical in
theorem IsLaminar_impl {den : Int} {l : List Int} {gs : List (List Int)} (hs : small gs) (hl : l.length ≤ 1048576) {k : Nat} (hk : 300000000 < k) : impl_IsLaminar.f k den l gs = some (IsLaminar_res den l gs) := by
  have hs1 := hs.1
  obtain ⟨k, rfl, hk'⟩ := succ_of_lt hk
  unfold impl_IsLaminar.f IsLaminar_res
  rw [validValues_eq (by omega) den (by omega), Option.bind_some]
  simp only [impl_IsLaminar.j0]
  by_cases c : vv den l = true
  · rw [if_pos c, c, Bool.true_and]
    by_cases c2 : gs.length ≤ 12
    · rw [if_neg (by rw [decide_eq_false (by omega)]; decide), decide_eq_true c2, Bool.true_and, show (0 : Int) = ((0 : Nat) : Int) from rfl]
      have hm : gs.length * (gs.length + 10) ≤ 12 * 22 := Nat.mul_le_mul c2 (by omega)
      exact implLam_l0 hs hl gs.length 0 k (by omega) (fun k h => by omega) (by omega)
    · rw [if_pos (decide_eq_true (by omega)), decide_eq_false c2, Bool.false_and]
  · rw [if_neg c, if_pos trivial]
    simp only [Bool.not_eq_true] at c
    rw [c, Bool.false_and]
end Go.Proofs.Ytoelhfbmeegbdaa.Q
