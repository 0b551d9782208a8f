import Derived.Test.YtanflefkbbhimaaXQMFnRunning
import Derived.Test.YtanflefkbbhimaaXQGFnRunning
import Derived.Test.YtanflefkbbhimaaXP1FnRunning
import Derived.Test.YtanflefkbbhimaaXP3FnRunning
import Derived.Test.YtanflefkbbhimaaXP4FnRunning
import Derived.Test.YtanflefkbbhimaaXP7FnRunning
namespace Go.Proofs.Ytanflefkbbhimaa.Q
open Go.RowKit Go.Proofs.YtanflefkbbhimaaW.PrintWords Go.Proofs.YtanflefkbbhimaaW.PrintLast Go.Proofs.Ytanflefkbbhimaa.P Go.Proofs.Ytanflefkbbhimaa.B
set_option linter.unusedVariables false
set_option linter.unusedSimpArgs false
def okd (den : Int) (l : List Int) : Prop := 1 ≤ den ∧ den ≤ 1000000000 ∧ l.length ≤ 1000000 ∧ ∀ x ∈ l, -100000000000 ≤ x ∧ x ≤ 100000000000
theorem okd_vv {den : Int} {l : List Int} (h : vv den l = true) : okd den l := by
  have h := vv_iff.1 h
  exact ⟨h.1.1, by omega, by omega, fun x hx => by have := h.2.2 x hx; omega⟩
theorem okd.get {den : Int} {l : List Int} (h : okd den l) {n : Nat} (hn : n < l.length) : -100000000000 ≤ l[n] ∧ l[n] ≤ 100000000000 := h.2.2.2 _ (List.getElem_mem hn)
def fls (den : Int) (l : List Int) : List Int := l.map (· / den)
def cls (den : Int) (l : List Int) : List Int := l.map (cl · den)
theorem fls_length (den : Int) (l : List Int) : (fls den l).length = l.length := List.length_map ..
theorem cls_length (den : Int) (l : List Int) : (cls den l).length = l.length := List.length_map ..
theorem floors_eq {den : Int} {l : List Int} (h : okd den l) {k : Nat} (hk : l.length < k) : impl_Values_floors.f k den l = some (fls den l) := by
  have hl := h.2.2.1
  have h1 := loopL0 (l := l) (F := fun k i acc => Zar.l0 k acc l (l.length : Int) i den l) (S := ap (· / den)) (D := fun s => some s) (by omega)
    (fun k s => by simp only [Zar.l0]; rw [if_neg (by omega)])
    (fun k n hn s => by
      have hx := h.get hn
      simp only [Zar.l0, impl_Values_floors_1_v.f]
      rw [if_pos (by omega), if_pos (by omega), if_pos (by omega), rd_nat hn, wrap_nat (by omega), floor_eq h.1 (by omega) (by omega)]
      simp only [Option.bind_some, ap]
      split <;> rfl) k hk []
  unfold impl_Values_floors.f Zar.f
  rw [h1, ap_run _ _ _ _ (by simp; omega)]
  rfl
theorem ceilings_eq {den : Int} {l : List Int} (h : okd den l) {k : Nat} (hk : l.length < k) : impl_Values_ceilings.f k den l = some (cls den l) := by
  have hl := h.2.2.1
  have h1 := loopL0 (l := l) (F := fun k i acc => Zaq.l0 k acc l (l.length : Int) i den l) (S := ap (cl · den)) (D := fun s => some s) (by omega)
    (fun k s => by simp only [Zaq.l0]; rw [if_neg (by omega)])
    (fun k n hn s => by
      have hx := h.get hn
      simp only [Zaq.l0, impl_Values_ceilings_1_v.f]
      rw [if_pos (by omega), if_pos (by omega), if_pos (by omega), rd_nat hn, wrap_nat (by omega), ceiling_eq h.1 (by omega) (by omega)]
      simp only [Option.bind_some, ap]
      split <;> rfl) k hk []
  unfold impl_Values_ceilings.f Zaq.f
  rw [h1, ap_run _ _ _ _ (by simp; omega)]
  rfl
def ps : Int → List Int → List Int
  | _, [] => []
  | s, x :: xs => (s + x) :: ps (s + x) xs
theorem ps_length : ∀ (l : List Int) (s : Int), (ps s l).length = l.length
  | [], _ => rfl
  | x :: xs, s => by simp [ps, ps_length xs]
theorem ps_in : ∀ (l : List Int) (s M B : Int), (∀ x ∈ l, -M ≤ x ∧ x ≤ M) → 0 ≤ M → -B ≤ s - l.length * M → s + l.length * M ≤ B → ∀ y ∈ ps s l, -B ≤ y ∧ y ≤ B
  | [], _, _, _, _, _, _, _ => by simp [ps]
  | x :: xs, s, M, B, h, hM, h1, h2 => by
    have h3 := h x (List.mem_cons_self ..)
    rw [List.length_cons, Int.natCast_add, Int.add_mul] at h1 h2
    have h4 : 0 ≤ (xs.length : Int) * M := Int.mul_nonneg (by omega) hM
    intro y hy
    simp only [ps, List.mem_cons] at hy
    rcases hy with rfl | hy
    · omega
    · exact ps_in xs (s + x) M B (fun z hz => h z (List.mem_cons_of_mem _ hz)) hM (by omega) (by omega) y hy
def rs {ρ : Type} (x : Int) (s : List Int × Int) : (List Int × Int) ⊕ Option ρ := if s.1.length < 17592186044416 then .inl (s.1 ++ [wrap64 (s.2 + x)], wrap64 (s.2 + x)) else .inr none
theorem rs_run {ρ : Type} (D : List Int × Int → Option ρ) : ∀ (l : List Int) (acc : List Int) (s M : Int), (∀ x ∈ l, -M ≤ x ∧ x ≤ M) → 0 ≤ M → -9000000000000000000 ≤ s - l.length * M → s + l.length * M ≤ 9000000000000000000 → acc.length + l.length ≤ 17592186044416 →
    ∃ t, runL rs D l (acc, s) = D (acc ++ ps s l, t)
  | [], acc, s, _, _, _, _, _, _ => ⟨s, by simp [runL, ps]⟩
  | x :: xs, acc, s, M, h, hM, h1, h2, h0 => by
    have h3 := h x (List.mem_cons_self ..)
    rw [List.length_cons] at h0
    rw [List.length_cons, Int.natCast_add, Int.add_mul] at h1 h2
    have h4 : 0 ≤ (xs.length : Int) * M := Int.mul_nonneg (by omega) hM
    obtain ⟨t, ht⟩ := rs_run D xs (acc ++ [s + x]) (s + x) M (fun z hz => h z (List.mem_cons_of_mem _ hz)) hM (by omega) (by omega) (by simp; omega)
    refine ⟨t, ?_⟩
    simp only [runL, rs]
    rw [if_pos (by omega), w64 (by omega) (by omega)]
    simp only [ps]
    rw [ht]
    simp
theorem running_eq {l : List Int} (hl : l.length ≤ 1000000) (h : ∀ x ∈ l, -1000000000000 ≤ x ∧ x ≤ 1000000000000) {k : Nat} (hk : l.length < k) : Zaz.f k l = some (ps 0 l) := by
  have h1 := loopL0 (l := l) (F := fun k i s => Zaz.l0 k s.1 s.2 l (l.length : Int) i) (S := rs) (D := fun s => some s.1) (by omega)
    (fun k s => by simp only [Zaz.l0]; rw [if_neg (by omega)])
    (fun k n hn s => by
      simp only [Zaz.l0, rs]
      rw [if_pos (by omega), if_pos (by omega), if_pos (by omega), rd_nat hn, wrap_nat (by omega)]
      split <;> rfl) k hk ([], 0)
  obtain ⟨t, ht⟩ := rs_run (fun s => some s.1) l [] 0 1000000000000 h (by omega) (by omega) (by omega) (by simp; omega)
  unfold Zaz.f
  rw [show Zaz.l0 k [] 0 l (l.length : Int) 0 = _ from h1, ht]
  simp
def ers (den : Int) (nums list : List Int) : List Int := (list.zip nums).map fun p => den * p.1 - p.2
theorem ers_length {den : Int} {nums list : List Int} (h : list.length = nums.length) : (ers den nums list).length = nums.length := by simp [ers, h]
theorem ers_in {den : Int} {nums list : List Int} {D M L : Int} (hd : 0 ≤ den ∧ den ≤ D) (hL : 0 ≤ L) (hn : ∀ x ∈ nums, -M ≤ x ∧ x ≤ M) (hl : ∀ x ∈ list, -L ≤ x ∧ x ≤ L) : ∀ y ∈ ers den nums list, -(D * L + M) ≤ y ∧ y ≤ D * L + M := by
  intro y hy
  simp only [ers, List.mem_map] at hy
  obtain ⟨⟨a, b⟩, hp, rfl⟩ := hy
  have ha := hl a (List.of_mem_zip hp).1
  have hb := hn b (List.of_mem_zip hp).2
  have m1 : den * a ≤ D * L := by
    have x1 := Int.mul_le_mul_of_nonneg_left ha.2 hd.1
    have x2 := Int.mul_le_mul_of_nonneg_right hd.2 hL
    omega
  have m2 : -(D * L) ≤ den * a := by
    have x1 := Int.mul_le_mul_of_nonneg_left ha.1 hd.1
    have x2 := Int.mul_le_mul_of_nonneg_right hd.2 hL
    rw [Int.mul_neg] at x1
    omega
  simp only
  omega
theorem mul_in {a b A B : Int} (ha : 0 ≤ a ∧ a ≤ A) (hb : -B ≤ b ∧ b ≤ B) (hB : 0 ≤ B) : -(A * B) ≤ a * b ∧ a * b ≤ A * B := by
  have x1 := Int.mul_le_mul_of_nonneg_left hb.1 ha.1
  have x2 := Int.mul_le_mul_of_nonneg_left hb.2 ha.1
  have x3 := Int.mul_le_mul_of_nonneg_right ha.2 hB
  rw [Int.mul_neg] at x1
  omega
def oke (den : Int) (nums list : List Int) : Prop := (0 ≤ den ∧ den ≤ 1000) ∧ nums.length ≤ 1000 ∧ list.length = nums.length ∧ (∀ x ∈ nums, -1000000 ≤ x ∧ x ≤ 1000000) ∧ ∀ x ∈ list, -1000000000 ≤ x ∧ x ≤ 1000000000
theorem oke_of {den : Int} {nums list : List Int} (h : vv den nums = true) (hl : list.length = nums.length) (h2 : ∀ x ∈ list, -1000000000 ≤ x ∧ x ≤ 1000000000) : oke den nums list := by
  have h := vv_iff.1 h
  exact ⟨by omega, by omega, hl, h.2.2, h2⟩
theorem oke.wrap {den : Int} {nums list : List Int} (h : oke den nums list) {n : Nat} (hn : n < (list.zip nums).length) : wrap64 (wrap64 (den * (list.zip nums)[n].1) - (list.zip nums)[n].2) = den * (list.zip nums)[n].1 - (list.zip nums)[n].2 ∧ -1000001000000 ≤ den * (list.zip nums)[n].1 - (list.zip nums)[n].2 ∧ den * (list.zip nums)[n].1 - (list.zip nums)[n].2 ≤ 1000001000000 := by
  have hm : (list.zip nums)[n] ∈ list.zip nums := List.getElem_mem hn
  generalize (list.zip nums)[n] = p at hm ⊢
  obtain ⟨a, b⟩ := p
  have h1 := h.2.2.2.2 a (List.of_mem_zip hm).1
  have h2 := h.2.2.2.1 b (List.of_mem_zip hm).2
  have h3 := mul_in h.1 h1 (by omega)
  simp only
  rw [w64 (x := den * a) (by omega) (by omega), w64 (by omega) (by omega)]
  omega
theorem zip_get1 {l m : List Int} {n : Nat} (hn : n < (l.zip m).length) : ∃ (h1 : n < l.length) (h2 : n < m.length), (l.zip m)[n].1 = l[n] ∧ (l.zip m)[n].2 = m[n] := by
  have h := hn
  rw [List.length_zip] at h
  exact ⟨by omega, by omega, by rw [List.getElem_zip], by rw [List.getElem_zip]⟩
theorem errors_eq {den : Int} {nums list : List Int} (h : oke den nums list) {k : Nat} (hk : nums.length < k) : Zay.f k den nums list = some (ers den nums list) := by
  have hz : (list.zip nums).length = nums.length := by rw [List.length_zip, h.2.2.1]; omega
  have hz2 := h.2.2.1
  have hl := h.2.1
  have h1 := loopL0 (l := list.zip nums) (F := fun k i acc => Zay.l0 k acc list (list.length : Int) i den nums) (S := ap fun p => den * p.1 - p.2) (D := fun s => some s) (by omega)
    (fun k s => by simp only [Zay.l0]; rw [if_neg (by omega)])
    (fun k n hn s => by
      obtain ⟨g1, g2, e1, e2⟩ := zip_get1 hn
      have hw := (h.wrap hn).1
      rw [e1, e2] at hw
      simp only [Zay.l0, ap]
      rw [if_pos (by omega), if_pos (by omega), if_pos (by omega), if_pos (by omega), rd_nat g1, rd_nat g2, wrap_nat (by omega), hw, e1, e2]
      split <;> rfl) k (by omega) []
  unfold Zay.f
  rw [h1, ap_run _ _ _ _ (by simp; omega)]
  rfl
theorem l03Running_eq {den : Int} {nums list : List Int} (h : oke den nums list) {k : Nat} (hk : nums.length < k) : spec_l03Running.f k den nums list = some (ps 0 (ers den nums list)) := by
  have hz : (list.zip nums).length = nums.length := by rw [List.length_zip, h.2.2.1]; omega
  have hz2 := h.2.2.1
  have hl := h.2.1
  have h1 := loopL0 (l := ers den nums list) (F := fun k i s => spec_l03Running.l0 k list s.1 s.2 i den nums) (S := rs) (D := fun s => some s.1) (by rw [ers_length hz2]; omega)
    (fun k s => by simp only [spec_l03Running.l0]; rw [ers_length hz2, if_neg (by omega)])
    (fun k n hn s => by
      have hn' : n < (list.zip nums).length := by rw [ers_length hz2] at hn; omega
      obtain ⟨g1, g2, e1, e2⟩ := zip_get1 hn'
      have hw := (h.wrap hn').1
      rw [e1, e2] at hw
      have he : (ers den nums list)[n] = den * list[n] - nums[n] := by simp only [ers, List.getElem_map]; rw [e1, e2]
      simp only [spec_l03Running.l0, rs]
      rw [if_pos (by omega), if_pos (by omega), if_pos (by omega), rd_nat g1, rd_nat g2, wrap_nat (by omega), hw, he]
      split <;> rfl) k (by rw [ers_length hz2]; omega) ([], 0)
  have hin := ers_in (M := 1000000) (L := 1000000000) h.1 (by omega) h.2.2.2.1 h.2.2.2.2
  obtain ⟨t, ht⟩ := rs_run (fun s => some s.1) (ers den nums list) [] 0 1000001000000 (fun x hx => by have := hin x hx; omega) (by omega) (by rw [ers_length hz2]; omega) (by rw [ers_length hz2]; omega) (by rw [ers_length hz2]; simp; omega)
  unfold spec_l03Running.f
  rw [show spec_l03Running.l0 k list [] 0 0 den nums = _ from h1, ht]
  simp
def pd (f : Int → Int) : Int → List Int → List Int
  | _, [] => []
  | b, p :: r => (f p - b) :: pd f (f p) r
theorem pd_length (f : Int → Int) : ∀ (l : List Int) (b : Int), (pd f b l).length = l.length
  | [], _ => rfl
  | x :: xs, b => by simp [pd, pd_length f xs]
end Go.Proofs.Ytanflefkbbhimaa.Q
