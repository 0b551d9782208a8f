import Derived.Test.YtgmmfdilfpkbmaaXV1FnCountedBest
import Derived.Test.YtgmmfdilfpkbmaaXLFnCountedBest
import Derived.Test.YtgmmfdilfpkbmaaXP10FnCountedBest
import Derived.Test.YtgmmfdilfpkbmaaXP11FnCountedBest
import Derived.Test.YtgmmfdilfpkbmaaXP17FnCountedBest
import Derived.Test.YtgmmfdilfpkbmaaXP18FnCountedBest
import Derived.Test.YtgmmfdilfpkbmaaXP23FnCountedBest
import Derived.Test.YtgmmfdilfpkbmaaXP25FnCountedBest
import Derived.Laws.Bits64
import Derived.Test.YtgmmfdilfpkbmaaXP3FnCountedBest
import Derived.Test.YtgmmfdilfpkbmaaXP22FnCountedBest
section
namespace Go.Proofs.Ytgmmfdilfpkbmaa.Q
open Go.RowKit Go.Proofs.YtgmmfdilfpkbmaaW.PrintWords Go.Proofs.YtgmmfdilfpkbmaaW.PrintLast Go.Proofs.Ytgmmfdilfpkbmaa.P Go.Proofs.Ytgmmfdilfpkbmaa.B
set_option linter.unusedVariables false
set_option linter.unusedSimpArgs false
theorem least_exists {P : Nat → Prop} : ∀ n, P n → ∃ m, m ≤ n ∧ P m ∧ ∀ q, q < m → ¬ P q := by
  intro n
  induction n using Nat.strongRecOn with
  | _ n ih =>
    intro hn
    by_cases h : ∃ q, q < n ∧ P q
    · obtain ⟨q, hq, hp⟩ := h
      obtain ⟨m, h1, h2, h3⟩ := ih q hq hp
      exact ⟨m, by omega, h2, h3⟩
    · exact ⟨n, Nat.le_refl _, hn, fun q hq hp => h ⟨q, hq, hp⟩⟩
def bdL (V : Int) (nums : List Int) : Nat → List Int
  | 0 => [0]
  | i + 1 => bdL V nums i ++ [rst V nums i, V - rst V nums i]
theorem bdL_length (V : Int) (nums : List Int) : ∀ i, (bdL V nums i).length = 1 + 2 * i
  | 0 => rfl
  | i + 1 => by simp only [bdL]; rw [List.length_append, bdL_length V nums i]; simp; omega
theorem bdL_zero (V : Int) (nums : List Int) : ∀ i, (0 : Int) ∈ bdL V nums i
  | 0 => by simp [bdL]
  | i + 1 => by simp only [bdL]; exact List.mem_append_left _ (bdL_zero V nums i)
theorem bdL_mem {V : Int} {nums : List Int} : ∀ {i j : Nat}, j < i → rst V nums j ∈ bdL V nums i ∧ V - rst V nums j ∈ bdL V nums i
  | i + 1, j, h => by
    simp only [bdL]
    rcases Nat.lt_or_ge j i with c | c
    · have := bdL_mem (V := V) (nums := nums) c
      exact ⟨List.mem_append_left _ this.1, List.mem_append_left _ this.2⟩
    · have : j = i := by omega
      subst this
      exact ⟨List.mem_append_right _ (by simp), List.mem_append_right _ (by simp)⟩
theorem bdL_in {V : Int} (hV : 1 ≤ V) {nums : List Int} : ∀ (i : Nat), ∀ x ∈ bdL V nums i, 0 ≤ x ∧ x ≤ V
  | 0, x, h => by simp [bdL] at h; omega
  | i + 1, x, h => by
    simp only [bdL] at h
    have hr := rst_in hV nums i
    rcases List.mem_append.1 h with h | h
    · exact bdL_in hV i x h
    · rcases List.mem_cons.1 h with h | h
      · omega
      · rw [List.mem_singleton] at h; omega
theorem max_below {b : Int} : ∀ (L : List Int), (∃ y ∈ L, y ≤ b) → ∃ x ∈ L, x ≤ b ∧ ∀ y ∈ L, y ≤ b → y ≤ x
  | [], ⟨y, h, _⟩ => by simp at h
  | z :: L, h => by
    by_cases c : ∃ y ∈ L, y ≤ b
    · obtain ⟨x, hx, hxb, hm⟩ := max_below L c
      by_cases c2 : z ≤ b ∧ x < z
      · exact ⟨z, List.mem_cons_self .., c2.1, fun y hy hyb => by
          rcases List.mem_cons.1 hy with rfl | hy
          · exact Int.le_refl _
          · have := hm y hy hyb; omega⟩
      · exact ⟨x, List.mem_cons_of_mem _ hx, hxb, fun y hy hyb => by
          rcases List.mem_cons.1 hy with rfl | hy
          · omega
          · exact hm y hy hyb⟩
    · obtain ⟨y, hy, hyb⟩ := h
      rcases List.mem_cons.1 hy with rfl | hy
      · exact ⟨y, List.mem_cons_self .., hyb, fun w hw hwb => by
          rcases List.mem_cons.1 hw with rfl | hw
          · exact Int.le_refl _
          · exact absurd ⟨w, hw, hwb⟩ c⟩
      · exact absurd ⟨y, hy, hyb⟩ c
theorem okb_same {V : Int} {nums : List Int} {m : Nat} {b x : Int} (h : ∀ i, i < nums.length → (rst V nums i > b ↔ rst V nums i > x) ∧ (V - rst V nums i > b ↔ V - rst V nums i > x)) (hok : okb V nums 2 m b) : okb V nums 2 m x := by
  have hcz : ∀ i, i < nums.length → cz V 2 b (rst V nums i) = cz V 2 x (rst V nums i) := by
    intro i hi
    have := h i hi
    unfold cz
    by_cases c0 : rst V nums i = 0
    · rw [if_pos c0, if_pos c0]
    · rw [if_neg c0, if_neg c0, if_pos rfl, if_pos rfl]
      by_cases c1 : rst V nums i > b
      · rw [if_pos c1, if_pos (this.1.1 c1)]
      · rw [if_neg c1, if_neg (fun h => c1 (this.1.2 h))]
        by_cases c2 : V - rst V nums i > b
        · rw [if_pos c2, if_pos (this.2.1 c2)]
        · rw [if_neg c2, if_neg (fun h => c2 (this.2.2 h))]
  have e1 : onesL V nums 2 b nums.length = onesL V nums 2 x nums.length := List.filter_congr fun i hi => by rw [hcz i (List.mem_range.1 hi)]
  have e2 : zerosL V nums 2 b nums.length = zerosL V nums 2 x nums.length := List.filter_congr fun i hi => by rw [hcz i (List.mem_range.1 hi)]
  unfold okb at hok ⊢
  rw [← e1, ← e2]
  exact ⟨fun e i hi hc => hok.1 e i hi ⟨(h i hi).1.2 hc.1, (h i hi).2.2 hc.2⟩, hok.2⟩
theorem mostStep {V : Int} {nums : List Int} (h : okd V nums) {i : Nat} (hi : i < nums.length) {m b : Int} (hb : 0 ≤ b ∧ b ≤ V) {S : List Int} {x38 x39 x47 : Int} {fl : Bool} {up may : List Int} {many : Int} (h1 : up.length ≤ 100) (h2 : may.length ≤ 100) (h3 : -1000 ≤ many ∧ many ≤ 1000) (hx : (i : Int) < x47) (hn : nums.length ≤ 1000) (k : Nat) :
    Zam.l2 (k + 3) m b fl S x38 x39 x47 (i : Int) V nums up may many =
      if cz V 2 b (rst V nums i) = 0 then Zam.l2 k m b fl S x38 x39 x47 ((i + 1 : Nat) : Int) V nums up (may ++ [(i : Int)]) many
      else if rst V nums i > b ∧ V - rst V nums i > b then Zam.l2 k m b false S x38 x39 x47 ((i + 1 : Nat) : Int) V nums up may many
      else if cz V 2 b (rst V nums i) = 1 then Zam.l2 k m b fl S x38 x39 x47 ((i + 1 : Nat) : Int) V nums (up ++ [(i : Int)]) may (many - 1)
      else Zam.l2 k m b fl S x38 x39 x47 ((i + 1 : Nat) : Int) V nums up may many := by
  have hr := rst_in h.1 nums i
  have hV := h.2.1
  have g := rest_eq h hi
  generalize rst V nums i = r at g hr ⊢
  have b1 : up.length < 17592186044416 := by omega
  have b2 : may.length < 17592186044416 := by omega
  have q1 : -9223372036854775808 ≤ V - r := by omega
  have q2 : V - r ≤ 9223372036854775807 := by omega
  have w0 : wrap64 ((i : Int) + 1) = ((i + 1 : Nat) : Int) := wrap_nat (by omega)
  have w1 : wrap64 (V - r) = V - r := w64 q1 q2
  have w2 : wrap64 (many - 1) = many - 1 := by clear w0 w1 g; exact w64 (by omega) (by omega)
  simp only [Zam.l2]
  rw [if_pos hx, g, Option.bind_some, w1]
  by_cases c0 : r > 0
  · rw [if_pos c0]
    simp only [Zam.j3]
    by_cases c2 : V - r ≤ b
    · rw [decide_eq_true c2, if_pos rfl]
      simp only [Zam.j4]
      by_cases c1 : r ≤ b
      · have e : cz V 2 b r = 0 := by unfold cz; rw [if_neg (by clear w0 w1 w2 g; omega), if_pos rfl, if_neg (by clear w0 w1 w2 g; omega), if_neg (by clear w0 w1 w2 g; omega)]
        rw [decide_eq_true c1, if_pos rfl, if_pos b2, w0, if_pos e]
      · have e : cz V 2 b r = 1 := by unfold cz; rw [if_neg (by clear w0 w1 w2 g; omega), if_pos rfl, if_pos (by clear w0 w1 w2 g; omega)]
        rw [decide_eq_false c1, if_neg (by simp), if_pos trivial, if_pos b1, w0, w2, e, if_neg (by decide), if_neg (by clear w0 w1 w2 g; omega), if_pos rfl]
    · rw [decide_eq_false c2, if_neg (by simp)]
      simp only [Zam.j4]
      rw [if_neg (by simp), if_neg (by simp)]
      by_cases c1 : r ≤ b
      · have e : cz V 2 b r = -1 := by unfold cz; rw [if_neg (by clear w0 w1 w2 g; omega), if_pos rfl, if_neg (by clear w0 w1 w2 g; omega), if_pos (by clear w0 w1 w2 g; omega)]
        rw [decide_eq_true c1, if_pos rfl, w0, e, if_neg (by decide), if_neg (by clear w0 w1 w2 g; omega), if_neg (by decide)]
      · have e : cz V 2 b r = 1 := by unfold cz; rw [if_neg (by clear w0 w1 w2 g; omega), if_pos rfl, if_pos (by clear w0 w1 w2 g; omega)]
        rw [decide_eq_false c1, if_neg (by simp), w0, e, if_neg (by decide), if_pos (by clear w0 w1 w2 g; omega)]
  · have c1 : r ≤ b := by clear w0 w1 w2 g; omega
    have e : cz V 2 b r = -1 := by unfold cz; rw [if_pos (by clear w0 w1 w2 g; omega)]
    rw [if_neg c0]
    simp only [Zam.j3]
    rw [if_neg (by simp)]
    simp only [Zam.j4]
    rw [if_neg (by simp), if_neg (by simp), decide_eq_true c1, if_pos rfl, w0, e, if_neg (by decide), if_neg (by clear w0 w1 w2 g; omega), if_neg (by decide)]
open Classical in
theorem mostRound {V : Int} {nums : List Int} (h : okd V nums) {b : Int} {m : Nat} (hn : nums.length ≤ 19) (hb : 0 ≤ b ∧ b ≤ V) (hm : m ≤ 40) {S : List Int} {x38 x39 : Int} (k : Nat) :
    Zam.l2 (k + 1 + 3 * nums.length) (m : Int) b true S x38 x39 (nums.length : Int) 0 V nums [] [] (m : Int) = if okb V nums 2 m b then some (ofn (onesL V nums 2 b nums.length), ofn (zerosL V nums 2 b nums.length), ((m - (onesL V nums 2 b nums.length).length : Nat) : Int)) else Zam.l1 k (m : Int) S x38 (wrap64 (x39 + 1)) V nums := by
  have go : ∀ d i (fl : Bool) (up may : List Int) (many : Int), nums.length - i = d → i ≤ nums.length → up.length ≤ i → may.length ≤ i → (m : Int) - i ≤ many → many ≤ m →
      ((∀ j, j < i → ¬ (b < rst V nums j ∧ b < V - rst V nums j)) → fl = true ∧ up = ofn (onesL V nums 2 b i) ∧ may = ofn (zerosL V nums 2 b i) ∧ many = (m : Int) - ((onesL V nums 2 b i).length : Int)) → (¬ (∀ j, j < i → ¬ (b < rst V nums j ∧ b < V - rst V nums j)) → fl = false) →
      Zam.l2 (k + 1 + 3 * d) (m : Int) b fl S x38 x39 (nums.length : Int) (i : Int) V nums up may many = if okb V nums 2 m b then some (ofn (onesL V nums 2 b nums.length), ofn (zerosL V nums 2 b nums.length), ((m - (onesL V nums 2 b nums.length).length : Nat) : Int)) else Zam.l1 k (m : Int) S x38 (wrap64 (x39 + 1)) V nums := by
    intro d
    induction d with
    | zero =>
      intro i fl up may many hd hi hu hy hm1 hm2 h2 h3
      obtain rfl : i = nums.length := by omega
      rw [Nat.mul_zero, Nat.add_zero]
      simp only [Zam.l2]
      rw [if_neg (by omega)]
      by_cases c : ∀ j, j < nums.length → ¬ (b < rst V nums j ∧ b < V - rst V nums j)
      · obtain ⟨rfl, rfl, rfl, rfl⟩ := h2 c
        have hlen : (ofn (zerosL V nums 2 b nums.length)).length = (zerosL V nums 2 b nums.length).length := ofn_len _
        unfold impl_size_int.f
        rw [if_pos rfl, Option.bind_some, within_eq, Option.bind_some]
        by_cases c1 : (onesL V nums 2 b nums.length).length ≤ m ∧ m ≤ (onesL V nums 2 b nums.length).length + (zerosL V nums 2 b nums.length).length
        · rw [if_pos (decide_eq_true (by omega)), if_pos ⟨fun _ => c, c1.1, c1.2⟩]
          congr 3
          omega
        · rw [if_neg (by rw [decide_eq_true_eq]; omega), if_neg (fun h => c1 h.2)]
      · rw [h3 c, if_neg (by simp), if_neg (fun h => c (h.1 rfl))]
    | succ d ih =>
      intro i fl up may many hd hi hu hy hm1 hm2 h2 h3
      have hi2 : i < nums.length := by omega
      rw [show k + 1 + 3 * (d + 1) = (k + 1 + 3 * d) + 3 by omega, mostStep h hi2 hb (by omega) (by omega) (by omega) (by omega) (by omega)]
      have eo := onesL_succ V nums 2 b i
      have ez := zerosL_succ V nums 2 b i
      have back : ∀ P : Prop, (∀ j, j < i + 1 → ¬ (b < rst V nums j ∧ b < V - rst V nums j)) → (∀ j, j < i → ¬ (b < rst V nums j ∧ b < V - rst V nums j)) := fun _ hc j hj => hc j (by omega)
      by_cases bad : rst V nums i > b ∧ V - rst V nums i > b
      · have nz : ¬ cz V 2 b (rst V nums i) = 0 := by
          unfold cz
          have hr := rst_in h.1 nums i
          rw [if_neg (by omega), if_pos rfl, if_pos bad.1]; decide
        rw [if_neg nz, if_pos bad]
        exact ih (i + 1) false up may many (by omega) (by omega) (by omega) (by omega) (by omega) (by omega) (fun hc => absurd ⟨bad.1, bad.2⟩ (hc i (by omega))) (fun _ => rfl)
      · have keep : ¬ (∀ j, j < i + 1 → ¬ (b < rst V nums j ∧ b < V - rst V nums j)) → fl = false := fun hc => h3 (fun hx => hc (fun j hj => by
          rcases Nat.lt_or_ge j i with h4 | h4
          · exact hx j h4
          · have : j = i := by omega
            subst this
            exact fun h5 => bad ⟨h5.1, h5.2⟩))
        by_cases z0 : cz V 2 b (rst V nums i) = 0
        · rw [if_pos z0]
          refine ih (i + 1) fl up (may ++ [(i : Int)]) many (by omega) (by omega) (by omega) (by simp; omega) (by omega) (by omega) (fun hc => ?_) keep
          obtain ⟨e1, e2, e3, e4⟩ := h2 (back True hc)
          rw [eo, ez, if_pos z0, if_neg (by omega)]
          exact ⟨e1, e2, by rw [e3, ofn_app], e4⟩
        · rw [if_neg z0, if_neg bad]
          by_cases z1 : cz V 2 b (rst V nums i) = 1
          · rw [if_pos z1]
            refine ih (i + 1) fl (up ++ [(i : Int)]) may (many - 1) (by omega) (by omega) (by simp; omega) (by omega) (by omega) (by omega) (fun hc => ?_) keep
            obtain ⟨e1, e2, e3, e4⟩ := h2 (back True hc)
            rw [eo, ez, if_pos z1, if_neg z0]
            exact ⟨e1, by rw [e2, ofn_app], e3, by rw [List.length_append, List.length_cons, List.length_nil]; omega⟩
          · rw [if_neg z1]
            refine ih (i + 1) fl up may many (by omega) (by omega) (by omega) (by omega) (by omega) (by omega) (fun hc => ?_) keep
            obtain ⟨e1, e2, e3, e4⟩ := h2 (back True hc)
            rw [eo, ez, if_neg z1, if_neg z0]
            exact ⟨e1, e2, e3, e4⟩
  have := go nums.length 0 true [] [] (m : Int) (by omega) (by omega) (by simp) (by simp) (by omega) (by omega) (fun _ => ⟨rfl, by simp [onesL], by simp [zerosL], by simp [onesL]⟩) (fun hc => absurd (fun j hj => by omega) hc)
  simpa using this
theorem mostFirst {V : Int} {nums : List Int} (h : okd V nums) {m : Nat} (hn : nums.length ≤ 19) (hm : m ≤ 40) {S : List Int} (hS : ∀ x ∈ S, 0 ≤ x ∧ x ≤ V) (hSl : S.length ≤ 100) {p : Nat} (hp : p < S.length) (hok : okb V nums 2 m S[p]) (hno : ∀ q (hq : q < S.length), q < p → ¬ okb V nums 2 m S[q]) : ∀ d (i : Nat) k, p - i = d → i ≤ p → 125 * (d + 1) < k →
    Zam.l1 k (m : Int) S (S.length : Int) (i : Int) V nums = some (ofn (onesL V nums 2 S[p] nums.length), ofn (zerosL V nums 2 S[p] nums.length), ((m - (onesL V nums 2 S[p] nums.length).length : Nat) : Int)) := by
  intro d
  induction d with
  | zero =>
    intro i k hd hi hk
    obtain ⟨k, rfl, _⟩ := succ_of_lt hk
    obtain rfl : i = p := by omega
    obtain ⟨q, rfl⟩ : ∃ q, k = q + 1 + 3 * nums.length := ⟨k - 1 - 3 * nums.length, by omega⟩
    have hx := hS _ (List.getElem_mem hp)
    simp only [Zam.l1]
    rw [if_pos (by omega), if_pos (by omega), if_pos (by omega), rd_nat hp, mostRound h hn hx hm, if_pos hok]
  | succ d ih =>
    intro i k hd hi hk
    obtain ⟨k, rfl, _⟩ := succ_of_lt hk
    have hiS : i < S.length := by omega
    obtain ⟨q, rfl⟩ : ∃ q, k = q + 1 + 3 * nums.length := ⟨k - 1 - 3 * nums.length, by omega⟩
    have hx := hS _ (List.getElem_mem hiS)
    simp only [Zam.l1]
    rw [if_pos (by omega), if_pos (by omega), if_pos (by omega), rd_nat hiS, mostRound h hn hx hm, if_neg (hno i hiS (by omega)), wrap_nat (by omega)]
    exact ih (i + 1) q (by omega) (by omega) (by omega)
theorem onesV {V : Int} (hV : 1 ≤ V) (nums : List Int) : onesL V nums 2 V nums.length = [] := by
  rw [List.filter_eq_nil_iff]
  intro i hi
  have hr := rst_in hV nums i
  rw [decide_eq_true_eq]
  unfold cz
  split
  · decide
  · rw [if_pos rfl, if_neg (by omega), if_neg (by omega)]; decide
theorem zerosV {V : Int} (hV : 1 ≤ V) (nums : List Int) : zerosL V nums 2 V nums.length = above V nums 0 nums.length := by
  refine List.filter_congr fun i hi => decide_eq_decide.2 ?_
  have hr := rst_in hV nums i
  unfold cz
  by_cases c : rst V nums i = 0
  · rw [if_pos c, c]; decide
  · rw [if_neg c, if_pos rfl, if_neg (by omega), if_neg (by omega)]
    exact ⟨fun _ => by omega, fun _ => rfl⟩
def BD (V : Int) (nums : List Int) (nm : Int) (m B : Nat) : Prop := (B : Int) ≤ V ∧ okb V nums nm m (B : Int) ∧ ∀ b : Nat, b < B → ¬ okb V nums nm m (b : Int)
theorem planMost_eq {V : Int} {nums : List Int} (h : okd V nums) (hn : nums.length ≤ 19) {m : Nat} (hm : m ≤ (above V nums 0 nums.length).length) {k : Nat} (hk : 20000 < k) :
    ∃ B, BD V nums 2 m B ∧ Zam.f k V nums (m : Int) = some (ofn (onesL V nums 2 (B : Int) nums.length), ofn (zerosL V nums 2 (B : Int) nums.length), ((m - (onesL V nums 2 (B : Int) nums.length).length : Nat) : Int)) := by
  have hV := h.1
  have hpl : (above V nums 0 nums.length).length ≤ nums.length := by
    have := List.length_filter_le (fun i => decide (0 < rst V nums i)) (List.range nums.length)
    rwa [List.length_range] at this
  have hbl := bdL_length V nums nums.length
  have hSp : ((bdL V nums nums.length).mergeSort fun x y => decide (x ≤ y)).Perm (bdL V nums nums.length) := List.mergeSort_perm _ _
  have hSo : ((bdL V nums nums.length).mergeSort fun x y => decide (x ≤ y)).Pairwise fun x y => decide (x ≤ y) = true := List.pairwise_mergeSort (fun a b c h1 h2 => by simp at *; omega) (fun a b => by simp; omega) _
  have hSl := hSp.length_eq
  have hSort : slices_Sort_int64_int64.f (bdL V nums nums.length) = some ((bdL V nums nums.length).mergeSort fun x y => decide (x ≤ y)) := by
    unfold slices_Sort_int64_int64.f
    rw [if_pos (by omega)]
  generalize ((bdL V nums nums.length).mergeSort fun x y => decide (x ≤ y)) = S at hSp hSo hSl hSort
  have hSin : ∀ x ∈ S, 0 ≤ x ∧ x ≤ V := fun x hx => bdL_in hV _ x (hSp.mem_iff.1 hx)
  have same : ∀ b : Int, 0 ≤ b → okb V nums 2 m b → ∃ q, ∃ hq : q < S.length, S[q] ≤ b ∧ okb V nums 2 m S[q] := by
    intro b hb hok
    obtain ⟨x, hx, hxb, hmax⟩ := max_below (b := b) (bdL V nums nums.length) ⟨0, bdL_zero _ _ _, hb⟩
    have hxS := hSp.mem_iff.2 hx
    obtain ⟨q, hq, e⟩ := List.mem_iff_getElem.1 hxS
    refine ⟨q, hq, by rw [e]; exact hxb, ?_⟩
    rw [e]
    refine okb_same (fun i hi => ?_) hok
    have hm1 := bdL_mem (V := V) (nums := nums) hi
    have c1 := hmax _ hm1.1
    have c2 := hmax _ hm1.2
    constructor <;> constructor <;> intro _ <;> omega
  have hokV : okb V nums 2 m V := by
    refine ⟨fun _ i hi hc => ?_, ?_, ?_⟩
    · have := rst_in hV nums i; omega
    · rw [onesV hV]; simp
    · rw [onesV hV, zerosV hV]; simpa using hm
  obtain ⟨q0, hq0, _, hokq⟩ := same V (by omega) hokV
  obtain ⟨p, hpq, ⟨hp, hokp⟩, hno⟩ := least_exists (P := fun q => ∃ hq : q < S.length, okb V nums 2 m S[q]) q0 ⟨hq0, hokq⟩
  have hSpin := hSin _ (List.getElem_mem hp)
  have eB : ((S[p].toNat : Nat) : Int) = S[p] := by omega
  refine ⟨S[p].toNat, ⟨by omega, by rw [eB]; exact hokp, fun b hb hok => ?_⟩, ?_⟩
  · obtain ⟨q, hq, hqb, hokq'⟩ := same (b : Int) (by omega) hok
    refine hno q ?_ ⟨hq, hokq'⟩
    rcases Nat.lt_or_ge q p with h1 | h1
    · exact h1
    · exfalso
      rcases Nat.lt_or_ge p q with h2 | h2
      · have := List.pairwise_iff_getElem.1 hSo p q hp hq h2
        rw [decide_eq_true_eq] at this
        omega
      · have : p = q := by omega
        subst this
        omega
  · rw [eB]
    unfold Zam.f
    refine loopIc0 (m := nums.length) 15000 (F := fun k i (s : List Int) => Zam.l0 k (m : Int) s (nums.length : Int) i V nums) (fun i s => s = bdL V nums i) (fun r => r = some (ofn (onesL V nums 2 S[p] nums.length), ofn (zerosL V nums 2 S[p] nums.length), ((m - (onesL V nums 2 S[p] nums.length).length : Nat) : Int))) ?_ ?_ (k := k) (s := [0]) (by omega) rfl
    · rintro k s hk rfl
      simp only [Zam.l0]
      rw [if_neg (by omega), hSort, Option.bind_some, ← hSl]
      exact mostFirst h hn (by omega) hSin (by omega) hp hokp (fun q hq hqp hok => hno q hqp ⟨hq, hok⟩) p 0 k (by omega) (by omega) (by omega)
    · rintro k i s hk hi rfl
      have hr := rst_in hV nums i
      have g := rest_eq h hi
      have hl := bdL_length V nums i
      have hd := h.2.1
      have w1 : wrap64 (V - rst V nums i) = V - rst V nums i := w64 (by omega) (by omega)
      refine .inl ⟨_, rfl, ?_⟩
      simp only [Zam.l0]
      rw [if_pos (by omega), g, Option.bind_some, Option.bind_some, w1, Option.bind_some, if_pos (by clear g w1; simp; omega), wrap_nat (by clear g w1; omega)]
      rfl
theorem BD_unique {V : Int} {nums : List Int} {nm : Int} {m B B' : Nat} (h : BD V nums nm m B) (h' : BD V nums nm m B') : B = B' := by
  rcases Nat.lt_trichotomy B B' with c | c | c
  · exact absurd h.2.1 (h'.2.2 _ c)
  · exact c
  · exact absurd h'.2.1 (h.2.2 _ c)
theorem plan_eq {V : Int} {nums : List Int} (h : okd V nums) (hn : nums.length ≤ 19) {m : Nat} (hm : m ≤ (above V nums 0 nums.length).length) {nm : Int} {k : Nat} (hk : 30000 < k) :
    ∃ B up, BD V nums nm m B ∧ Zau.f k V nums (m : Int) nm = some (ofn up, ofn (zerosL V nums nm (B : Int) nums.length), ((m - (onesL V nums nm (B : Int) nums.length).length : Nat) : Int)) ∧ up.Perm (onesL V nums nm (B : Int) nums.length) := by
  have hV := h.1
  by_cases c : nm = 2
  · subst c
    obtain ⟨B, h1, h2⟩ := planMost_eq h hn hm (k := k) (by omega)
    refine ⟨B, _, h1, ?_, List.Perm.refl _⟩
    unfold Zau.f
    rw [if_pos rfl, h2]
    rfl
  · obtain ⟨up, may, left, e, pl⟩ := planFor_eq h hn hm c hk
    rcases pl with ⟨rfl, rfl, rfl, rfl⟩ | ⟨ed, hed, hup, hmay, hleft, h1, h2⟩
    · have o0 : onesL V nums nm ((0 : Nat) : Int) nums.length = [] := by
        rw [List.filter_eq_nil_iff]
        intro i hi
        have hr := rst_in hV nums i
        rw [decide_eq_true_eq]
        unfold cz
        by_cases c0 : rst V nums i = 0
        · rw [if_pos c0]; decide
        · rw [if_neg c0, if_neg c, if_neg (by omega), if_pos (by omega)]; decide
      have z0 : zerosL V nums nm ((0 : Nat) : Int) nums.length = [] := by
        rw [List.filter_eq_nil_iff]
        intro i hi
        have hr := rst_in hV nums i
        rw [decide_eq_true_eq]
        unfold cz
        by_cases c0 : rst V nums i = 0
        · rw [if_pos c0]; decide
        · rw [if_neg c0, if_neg c, if_neg (by omega), if_pos (by omega)]; decide
      refine ⟨0, [], ⟨by omega, ⟨fun h => absurd h c, by rw [o0]; simp, by omega⟩, fun b hb => by omega⟩, ?_, by rw [o0]⟩
      rw [o0, z0]
      exact e
    · have hlt : ed < V := by
        have hne : 0 < up.length + may.length := by omega
        rcases Nat.eq_zero_or_pos may.length with h0 | h0
        · omega
        · have h3 := List.getElem_mem h0
          generalize may[0] = y at h3
          rw [hmay] at h3
          have h4 := (equal_mem.1 h3).2
          have := rst_in hV nums y
          omega
      have eB : (((V - ed).toNat : Nat) : Int) = V - ed := by omega
      have hcz1 : ∀ i, i < nums.length → (cz V nm (V - ed) (rst V nums i) = 1 ↔ ed < rst V nums i) := by
        intro i hi
        have hr := rst_in hV nums i
        unfold cz
        by_cases c0 : rst V nums i = 0
        · rw [if_pos c0]; constructor
          · intro h; omega
          · intro h; omega
        · rw [if_neg c0, if_neg c]
          by_cases c1 : rst V nums i > V - (V - ed)
          · rw [if_pos c1]; exact ⟨fun _ => by omega, fun _ => rfl⟩
          · rw [if_neg c1]
            constructor
            · intro h; split at h <;> omega
            · intro h; omega
      have hcz0 : ∀ i, i < nums.length → (cz V nm (V - ed) (rst V nums i) = 0 ↔ rst V nums i = ed) := by
        intro i hi
        have hr := rst_in hV nums i
        unfold cz
        by_cases c0 : rst V nums i = 0
        · rw [if_pos c0]; constructor
          · intro h; omega
          · intro h; omega
        · rw [if_neg c0, if_neg c]
          by_cases c1 : rst V nums i > V - (V - ed)
          · rw [if_pos c1]; constructor
            · intro h; omega
            · intro h; omega
          · rw [if_neg c1]
            by_cases c2 : rst V nums i < V - (V - ed)
            · rw [if_pos c2]; constructor
              · intro h; omega
              · intro h; omega
            · rw [if_neg c2]; exact ⟨fun _ => by omega, fun _ => rfl⟩
      have o1 : onesL V nums nm (V - ed) nums.length = above V nums ed nums.length := List.filter_congr fun i hi => decide_eq_decide.2 (hcz1 i (List.mem_range.1 hi))
      have z1 : zerosL V nums nm (V - ed) nums.length = equal V nums ed nums.length := List.filter_congr fun i hi => decide_eq_decide.2 (hcz0 i (List.mem_range.1 hi))
      have hul := hup.length_eq
      have hyl : may.length = (equal V nums ed nums.length).length := by rw [hmay]
      refine ⟨(V - ed).toNat, up, ⟨by omega, by rw [eB]; exact ⟨fun h => absurd h c, by rw [o1]; omega, by rw [o1, z1]; omega⟩, fun b hb hok => ?_⟩, ?_, by rw [eB, o1]; exact hup⟩
      ·
        have hle : (onesL V nums nm (b : Int) nums.length).length + (zerosL V nums nm (b : Int) nums.length).length ≤ (above V nums ed nums.length).length := by
          have gen : ∀ l : List Nat, (l.filter fun i => decide (cz V nm (b : Int) (rst V nums i) = 1)).length + (l.filter fun i => decide (cz V nm (b : Int) (rst V nums i) = 0)).length ≤ (l.filter fun i => decide (ed < rst V nums i)).length := by
            intro l
            induction l with
            | nil => simp
            | cons x xs ih =>
              have hr := rst_in hV nums x
              have key : cz V nm (b : Int) (rst V nums x) = -1 ∨ ed < rst V nums x := by
                unfold cz
                by_cases c0 : rst V nums x = 0
                · rw [if_pos c0]; exact .inl rfl
                · rw [if_neg c0, if_neg c]
                  by_cases c1 : rst V nums x > V - b
                  · exact .inr (by omega)
                  · rw [if_neg c1]
                    by_cases c2 : rst V nums x < V - b
                    · rw [if_pos c2]; exact .inl rfl
                    · exact .inr (by omega)
              rcases key with k1 | k1
              · rw [List.filter_cons_of_neg (by simp; omega), List.filter_cons_of_neg (by simp; omega)]
                by_cases c3 : ed < rst V nums x
                · rw [List.filter_cons_of_pos (by simpa using c3), List.length_cons]; omega
                · rw [List.filter_cons_of_neg (by simpa using c3)]; exact ih
              · rw [List.filter_cons_of_pos (p := fun i => decide (ed < rst V nums i)) (by simpa using k1), List.length_cons]
                by_cases c3 : cz V nm (b : Int) (rst V nums x) = 1
                · rw [List.filter_cons_of_pos (by simpa using c3), List.filter_cons_of_neg (by simp; omega), List.length_cons]; omega
                · rw [List.filter_cons_of_neg (by simpa using c3)]
                  by_cases c4 : cz V nm (b : Int) (rst V nums x) = 0
                  · rw [List.filter_cons_of_pos (by simpa using c4), List.length_cons]; omega
                  · rw [List.filter_cons_of_neg (by simpa using c4)]; omega
          exact gen _
        have := hok.2.2
        omega
      · rw [eB, o1, z1, ← hmay, e]
        congr 3
        omega
end Go.Proofs.Ytgmmfdilfpkbmaa.Q
end
section
namespace Go.Proofs.Ytgmmfdilfpkbmaa.Q
open Go.RowKit Go.Proofs.YtgmmfdilfpkbmaaW.PrintWords Go.Proofs.YtgmmfdilfpkbmaaW.PrintLast Go.Proofs.Ytgmmfdilfpkbmaa.P Go.Proofs.Ytgmmfdilfpkbmaa.B
set_option linter.unusedVariables false
set_option linter.unusedSimpArgs false
theorem cl_fl {a b : Int} (hb : 1 ≤ b) : cl a b = a / b + if 0 < a - b * (a / b) then 1 else 0 := by
  have h1 := ediv_mul_le (a := a) hb
  have h2 := cl_mul (a := a) hb
  have hc := Int.mul_comm b (a / b)
  by_cases c : 0 < a - b * (a / b)
  · rw [if_pos c]
    have h3 : (cl a b - 1) * b < a := by rw [Int.sub_mul]; omega
    have h4 : a / b < cl a b := Int.lt_of_mul_lt_mul_right (a := b) (by omega) (by omega)
    have h5 : cl a b < a / b + 2 := Int.lt_of_mul_lt_mul_right (a := b) (by rw [Int.add_mul]; omega) (by omega)
    omega
  · rw [if_neg c]
    have h4 : a / b ≤ cl a b := Int.le_of_mul_le_mul_right (a := b) (by omega) (by omega)
    have h5 : cl a b < a / b + 1 := Int.lt_of_mul_lt_mul_right (a := b) (by rw [Int.add_mul]; omega) (by omega)
    omega
theorem sum_take : ∀ (l : List Int) (n : Nat) (h : n < l.length), (l.take (n + 1)).sum = (l.take n).sum + l[n]
  | x :: xs, 0, h => by simp
  | x :: xs, n + 1, h => by
    rw [List.take_succ_cons, List.sum_cons, sum_take xs n (by simpa using h), List.take_succ_cons, List.sum_cons]
    simp only [List.getElem_cons_succ]
    omega
theorem cls_sum {V : Int} (hV : 1 ≤ V) (nums : List Int) : ∀ n, n ≤ nums.length → ((cls V nums).take n).sum = ((fls V nums).take n).sum + ((above V nums 0 n).length : Int)
  | 0, _ => by simp [above]
  | n + 1, h => by
    have hn : n < nums.length := h
    rw [sum_take _ n (by rw [cls_length]; exact hn), sum_take _ n (by rw [fls_length]; exact hn), cls_sum hV nums n (by omega)]
    have e1 : (cls V nums)[n]'(by rw [cls_length]; exact hn) = cl nums[n] V := by simp [cls]
    have e2 : (fls V nums)[n]'(by rw [fls_length]; exact hn) = nums[n] / V := by simp [fls]
    have e3 : above V nums 0 (n + 1) = if 0 < rst V nums n then above V nums 0 n ++ [n] else above V nums 0 n := by
      unfold above
      rw [List.range_succ, List.filter_append]
      by_cases c : 0 < rst V nums n
      · rw [if_pos c, List.filter_cons_of_pos (by simpa using c)]; rfl
      · rw [if_neg c, List.filter_cons_of_neg (by simpa using c)]; simp
    rw [e1, e2, e3, cl_fl hV]
    have er : rst V nums n = nums[n] - V * (nums[n] / V) := by unfold rst; rw [rd_nat hn]
    rw [er]
    by_cases c : 0 < nums[n] - V * (nums[n] / V)
    · rw [if_pos c, if_pos c, List.length_append, List.length_cons, List.length_nil]; omega
    · rw [if_neg c, if_neg c]; omega
theorem cls_sum' {V : Int} (hV : 1 ≤ V) (nums : List Int) : (cls V nums).sum = (fls V nums).sum + ((above V nums 0 nums.length).length : Int) := by
  have := cls_sum hV nums nums.length (Nat.le_refl _)
  rwa [List.take_of_length_le (by rw [cls_length]; exact Nat.le_refl _), List.take_of_length_le (by rw [fls_length]; exact Nat.le_refl _)] at this
open Classical in
noncomputable def BDof (V : Int) (nums : List Int) (nm : Int) (m : Nat) : Nat := if h : ∃ B, BD V nums nm m B then Classical.choose h else 0
theorem BDof_eq {V : Int} {nums : List Int} {nm : Int} {m B : Nat} (h : BD V nums nm m B) : BDof V nums nm m = B := by
  have hx : ∃ B, BD V nums nm m B := ⟨B, h⟩
  unfold BDof
  rw [dif_pos hx]
  exact BD_unique (Classical.choose_spec hx) h
noncomputable def frees (V : Int) (nums : List Int) (nm : Int) (m : Nat) : Nat := (zerosL V nums nm (BDof V nums nm m : Int) nums.length).length
noncomputable def lefts (V : Int) (nums : List Int) (nm : Int) (m : Nat) : Nat := m - (onesL V nums nm (BDof V nums nm m : Int) nums.length).length
noncomputable def bestL (V : Int) (nums : List Int) (nm : Int) (m : Nat) : List Int := incs (fls V nums) (onesL V nums nm (BDof V nums nm m : Int) nums.length ++ (zerosL V nums nm (BDof V nums nm m : Int) nums.length).drop (frees V nums nm m - lefts V nums nm m))
theorem planB {V : Int} {nums : List Int} (h : okd V nums) (hn : nums.length ≤ 19) {m : Nat} (hm : m ≤ (above V nums 0 nums.length).length) {nm : Int} {k : Nat} (hk : 30000 < k) :
    ∃ up, Zau.f k V nums (m : Int) nm = some (ofn up, ofn (zerosL V nums nm (BDof V nums nm m : Int) nums.length), (lefts V nums nm m : Int)) ∧ lefts V nums nm m ≤ frees V nums nm m ∧ frees V nums nm m ≤ 40 ∧ up.Perm (onesL V nums nm (BDof V nums nm m : Int) nums.length) := by
  obtain ⟨B, up, hB, e, hp⟩ := plan_eq h hn hm (nm := nm) hk
  have hD := BDof_eq hB
  have ho := onesL_le V nums nm (B : Int) nums.length
  have hz := zerosL_le V nums nm (B : Int) nums.length
  have hl := hp.length_eq
  have h2 := hB.2.1.2
  unfold lefts frees
  rw [hD]
  exact ⟨up, e, by omega, by omega, hp⟩
theorem bestImpl {V : Int} {nums : List Int} (h : okd V nums) (hn : nums.length ≤ 19) {m : Nat} (hm : m ≤ (above V nums 0 nums.length).length) {nm : Int} {k : Nat} (hk : 30000 < k) :
    ∃ up, Zau.f k V nums (m : Int) nm = some (ofn up, ofn (zerosL V nums nm (BDof V nums nm m : Int) nums.length), (lefts V nums nm m : Int)) ∧ Zaw.f k (ofn up) (ofn (zerosL V nums nm (BDof V nums nm m : Int) nums.length)) (lefts V nums nm m : Int) V nums = some (bestL V nums nm m) ∧ lefts V nums nm m ≤ frees V nums nm m ∧ frees V nums nm m ≤ 40 := by
  obtain ⟨B, up, hB, e, hp⟩ := plan_eq h hn hm (nm := nm) hk
  have hD := BDof_eq hB
  have ho := onesL_le V nums nm (B : Int) nums.length
  have hz := zerosL_le V nums nm (B : Int) nums.length
  have hl := hp.length_eq
  have h2 := hB.2.1.2
  unfold bestL lefts frees
  rw [hD]
  refine ⟨up, e, ?_, by omega, by omega⟩
  rw [rounding_eq h hn (fun i hi => (onesL_mem.1 (hp.mem_iff.1 hi)).1) (fun i hi => (zerosL_mem.1 hi).1) (by omega) (by omega) (by omega) (by omega)]
  congr 1
  have hp2 := hp.append_right ((zerosL V nums nm (B : Int) nums.length).drop ((zerosL V nums nm (B : Int) nums.length).length - (m - (onesL V nums nm (B : Int) nums.length).length)))
  exact incs_perm hp2 (hp2.nodup_iff.2 (pick_nodup ..)) (fun q hq => by rw [fls_length]; exact pick_lt (hp2.mem_iff.1 hq))
def askB (V : Int) (nums : List Int) (s nm : Int) : Bool := vv V nums && (decide ((fls V nums).sum ≤ s ∧ s ≤ (cls V nums).sum) && decide (0 ≤ nm ∧ nm ≤ 2))
theorem isSum_eq {V : Int} {nums : List Int} {s nm : Int} (h1 : i64 V) (h2 : ∀ x ∈ nums, i64 x) (hl : nums.length ≤ 1048576) {k : Nat} (hk : nums.length + 300 < k) : impl_isSum.f k V nums s nm = some (askB V nums s nm) := by
  unfold impl_isSum.f askB
  rw [SumBounds_impl h1 h2 hl (by omega), Option.bind_some]
  unfold SumBounds_res
  by_cases c : vv V nums = true
  · rw [if_pos c, c]
    simp only
    rw [if_pos trivial, within_eq, Option.bind_some, Bool.true_and]
    by_cases c2 : (fls V nums).sum ≤ s ∧ s ≤ (cls V nums).sum
    · rw [if_pos (decide_eq_true c2), within_eq, Option.bind_some, decide_eq_true c2, Bool.true_and]
    · rw [if_neg (by rw [decide_eq_true_eq]; exact c2), decide_eq_false c2, Bool.false_and]
  · rw [if_neg c]
    simp only
    rw [if_neg (by simp)]
    have : vv V nums = false := by simpa using c
    rw [this]; rfl
def upsOf (V : Int) (nums : List Int) (s : Int) : Nat := (s - (fls V nums).sum).toNat
theorem ask_facts {V : Int} {nums : List Int} {s nm : Int} (h : askB V nums s nm = true) : vv V nums = true ∧ okd V nums ∧ V ≤ 1000 ∧ nums.length ≤ 40 ∧ s - (fls V nums).sum = (upsOf V nums s : Int) ∧ upsOf V nums s ≤ (above V nums 0 nums.length).length ∧ upsOf V nums s ≤ 40 ∧ (0 ≤ nm ∧ nm ≤ 2) ∧ (-1000000000000 ≤ s ∧ s ≤ 1000000000000) ∧ (-1000000000000 ≤ (fls V nums).sum ∧ (fls V nums).sum ≤ 1000000000000) := by
  unfold askB at h
  rw [Bool.and_eq_true, Bool.and_eq_true, decide_eq_true_eq, decide_eq_true_eq] at h
  have hv := vv_iff.1 h.1
  have ho := okd_vv h.1
  have hc := cls_sum' ho.1 nums
  have hpl : (above V nums 0 nums.length).length ≤ nums.length := by
    have := List.length_filter_le (fun i => decide (0 < rst V nums i)) (List.range nums.length)
    rwa [List.length_range] at this
  have hf : -40000000 ≤ (fls V nums).sum ∧ (fls V nums).sum ≤ 40000000 := by
    have gen : ∀ l : List Int, (∀ x ∈ l, -1000000 ≤ x ∧ x ≤ 1000000) → -1000000 * (l.length : Int) ≤ l.sum ∧ l.sum ≤ 1000000 * (l.length : Int) := by
      intro l
      induction l with
      | nil => intro _; simp
      | cons x xs ih =>
        intro hx
        have h1 := hx x (List.mem_cons_self ..)
        have h2 := ih (fun y hy => hx y (List.mem_cons_of_mem _ hy))
        rw [List.sum_cons, List.length_cons]; omega
    have := gen (fls V nums) (fun x hx => by
      simp only [fls, List.mem_map] at hx
      obtain ⟨y, hy, rfl⟩ := hx
      exact ediv_bounds ho.1 (by omega) (hv.2.2 y hy).1 (hv.2.2 y hy).2)
    rw [fls_length] at this
    omega
  unfold upsOf
  exact ⟨h.1, ho, hv.1.2, hv.2.1, by omega, by omega, by omega, h.2.2, by omega, by omega⟩
noncomputable def BestRounding_res (V : Int) (nums : List Int) (s nm : Int) : List Int × Bool := if askB V nums s nm = true then (bestL V nums nm (upsOf V nums s), true) else ([], false)
theorem BestRounding_impl {V : Int} {nums : List Int} {s nm : Int} (h1 : i64 V) (h2 : ∀ x ∈ nums, i64 x) (_ : i64 s) (_ : i64 nm) (hl : nums.length ≤ 1048576) {k : Nat} (hk : nums.length + 203000 < k) (hsm : nums.length ≤ 19 := by omega) : Za7.f k V nums s nm = some (BestRounding_res V nums s nm) := by
  unfold Za7.f BestRounding_res
  rw [isSum_eq h1 h2 hl (by omega), Option.bind_some]
  by_cases c : askB V nums s nm = true
  · obtain ⟨hv, ho, hV, hn, hs, hm, hm2, hnm, hsb, hfb⟩ := ask_facts c
    have hsum := (okd_sum ho)
    obtain ⟨up, e1, e2, _, _⟩ := bestImpl ho hsm hm (nm := nm) (k := k) (by omega)
    rw [if_pos c, if_pos c, floors_eq ho (by omega), Option.bind_some, sum_eq hsum.1 hsum.2.2.1 (by rw [fls_length]; omega), Option.bind_some, w64 (by omega) (by omega), hs, e1, Option.bind_some]
    simp only
    rw [e2]; rfl
  · rw [if_neg c, if_neg c]
def ch : Nat → Nat → Nat
  | _, 0 => 1
  | 0, _ + 1 => 0
  | n + 1, k + 1 => ch n k + ch n (k + 1)
theorem ch_one : ∀ n, ch n 1 = n
  | 0 => rfl
  | n + 1 => by
    have : ch (n + 1) 1 = ch n 0 + ch n 1 := rfl
    rw [this, ch_one n]
    have : ch n 0 = 1 := by cases n <;> rfl
    omega
theorem ch_zero (n : Nat) : ch n 0 = 1 := by cases n <;> rfl
theorem ch_absorb : ∀ n k, (k + 1) * ch (n + 1) (k + 1) = (n + 1) * ch n k
  | 0, 0 => rfl
  | 0, k + 1 => by
    have : ch 1 (k + 1 + 1) = ch 0 (k + 1) + ch 0 (k + 1 + 1) := rfl
    rw [this]
    have e1 : ch 0 (k + 1) = 0 := rfl
    have e2 : ch 0 (k + 1 + 1) = 0 := rfl
    rw [e1, e2]
    simp
  | n + 1, 0 => by rw [ch_one, ch_zero]; omega
  | n + 1, k + 1 => by
    have h1 := ch_absorb n (k + 1)
    have h2 := ch_absorb n k
    have e1 : ch (n + 1 + 1) (k + 1 + 1) = ch (n + 1) (k + 1) + ch (n + 1) (k + 1 + 1) := rfl
    have e2 : ch (n + 1) (k + 1) = ch n k + ch n (k + 1) := rfl
    rw [e1, Nat.mul_add, h1, Nat.succ_mul (k + 1), h2]
    have e3 : (n + 1 + 1) * ch (n + 1) (k + 1) = (n + 1) * ch (n + 1) (k + 1) + ch (n + 1) (k + 1) := Nat.succ_mul ..
    rw [e3]
    conv => rhs; rw [e2, Nat.mul_add]
    rw [← e2]
    omega
theorem ch_step (n k : Nat) : ((k : Int) + 1) * (ch n (k + 1) : Int) = ((n : Int) - k) * (ch n k : Int) := by
  have h := ch_absorb n k
  have e : ch (n + 1) (k + 1) = ch n k + ch n (k + 1) := rfl
  rw [e] at h
  have h2 : (((k + 1) * (ch n k + ch n (k + 1)) : Nat) : Int) = (((n + 1) * ch n k : Nat) : Int) := by rw [h]
  simp only [Int.natCast_mul, Int.natCast_add, Int.natCast_one] at h2
  rw [Int.mul_add] at h2
  rw [Int.sub_mul]
  rw [Int.add_mul (n : Int)] at h2
  have h3 : ((k : Int) + 1) * (ch n k : Int) = (k : Int) * ch n k + ch n k := by rw [Int.add_mul, Int.one_mul]
  rw [Int.one_mul] at h2
  omega
theorem ch_le : ∀ n k, ch n k ≤ 2 ^ n
  | n, 0 => by rw [ch_zero]; exact Nat.one_le_two_pow
  | 0, k + 1 => by simp [ch]
  | n + 1, k + 1 => by
    have h1 := ch_le n k
    have h2 := ch_le n (k + 1)
    have e : ch (n + 1) (k + 1) = ch n k + ch n (k + 1) := rfl
    rw [e, Nat.pow_succ]; omega
theorem ch_next {f j : Nat} (hf : f ≤ 40) (hj : j < f) : wrap64 (Int.tdiv (wrap64 ((ch f j : Int) * ((f : Int) - (j : Int)))) ((j : Int) + 1)) = (ch f (j + 1) : Int) := by
  have h1 := ch_step f j
  have h2 := ch_le f j
  have h3 := ch_le f (j + 1)
  have h4 : (2 : Nat) ^ f ≤ 2 ^ 40 := Nat.pow_le_pow_right (by omega) hf
  have h5 : (2 : Nat) ^ 40 = 1099511627776 := by decide
  have h6 : 0 ≤ ((f : Int) - (j : Int)) * (ch f j : Int) ∧ ((f : Int) - (j : Int)) * (ch f j : Int) ≤ 40 * 1099511627776 := ⟨Int.mul_nonneg (by omega) (by omega), Int.mul_le_mul (by omega) (by omega) (by omega) (by omega)⟩
  rw [Int.mul_comm (ch f j : Int)]
  rw [w64 (x := ((f : Int) - (j : Int)) * (ch f j : Int)) (by omega) (by omega), ← h1, Int.mul_comm ((j : Int) + 1), Int.mul_tdiv_cancel _ (by omega), w64 (by omega) (by omega)]
def cnt (c : Nat) : Int × Bool := if (c : Int) > 1000000 then (0, false) else ((c : Int), true)
theorem countImpl {f : Nat} (hf : f ≤ 40) {left : Nat} (hl : left ≤ f) {up may : List Int} {many : Int} (hm : may.length = f) {k : Nat} (hk : left < k) : Za2.l0 k 1 (left : Int) 0 up may many = some (cnt (ch f left)) := by
  refine loopI0 (m := left) (F := fun k i (s : Int) => Za2.l0 k s (left : Int) i up may many) (fun i s => s = (ch f i : Int)) (fun r => r = some (cnt (ch f left))) ?_ ?_ (k := k) (s := 1) hk (by rw [ch_zero]; rfl)
  · rintro k s rfl
    simp only [Za2.l0]
    rw [if_neg (by omega)]
    unfold cnt
    split <;> rfl
  · rintro k i s hi rfl
    have e := ch_next hf (show i < f by omega)
    have w1 : wrap64 ((i : Int) + 1) = (i : Int) + 1 := by rw [wrap_nat (by omega)]; omega
    have w2 : wrap64 (((may.length : Nat) : Int) - (i : Int)) = (f : Int) - (i : Int) := by clear e w1; rw [w64 (by omega) (by omega)]; omega
    have b1 : (i : Int) < (left : Int) := by clear e w1 w2; omega
    have b2 : ¬ (i : Int) + 1 = 0 := by clear e w1 w2; omega
    have b3 : (i : Int) + 1 = ((i + 1 : Nat) : Int) := by clear e w1 w2; omega
    refine .inl ⟨_, rfl, ?_⟩
    simp only [Za2.l0]
    unfold impl_size_int.f
    rw [if_pos b1, Option.bind_some, w1, if_neg b2, w2, e, b3]
noncomputable def CountBest_res (V : Int) (nums : List Int) (s nm : Int) : Int × Bool := if askB V nums s nm = true then cnt (ch (frees V nums nm (upsOf V nums s)) (lefts V nums nm (upsOf V nums s))) else (0, false)
theorem CountBest_impl {V : Int} {nums : List Int} {s nm : Int} (h1 : i64 V) (h2 : ∀ x ∈ nums, i64 x) (_ : i64 s) (_ : i64 nm) (hl : nums.length ≤ 1048576) {k : Nat} (hk : nums.length + 203000 < k) (hsm : nums.length ≤ 19 := by omega) : Za2.f k V nums s nm = some (CountBest_res V nums s nm) := by
  unfold Za2.f CountBest_res
  rw [isSum_eq h1 h2 hl (by omega), Option.bind_some]
  by_cases c : askB V nums s nm = true
  · obtain ⟨hv, ho, hV, hn, hs, hm, hm2, hnm, hsb, hfb⟩ := ask_facts c
    have hsum := (okd_sum ho)
    obtain ⟨up, e1, h3, h4, _⟩ := planB ho hsm hm (nm := nm) (k := k) (by omega)
    rw [if_pos c, if_pos c, floors_eq ho (by omega), Option.bind_some, sum_eq hsum.1 hsum.2.2.1 (by rw [fls_length]; omega), Option.bind_some, w64 (by omega) (by omega), hs, e1, Option.bind_some]
    exact countImpl h4 h3 (by rw [ofn_len]; rfl) (by omega)
  · rw [if_neg c, if_neg c]
end Go.Proofs.Ytgmmfdilfpkbmaa.Q
end
section
namespace Go.Proofs.Ytgmmfdilfpkbmaa.Q
open Go.RowKit Go.Proofs.YtgmmfdilfpkbmaaW.PrintWords Go.Proofs.YtgmmfdilfpkbmaaW.PrintLast Go.Proofs.Ytgmmfdilfpkbmaa.P Go.Proofs.Ytgmmfdilfpkbmaa.B
set_option linter.unusedVariables false
set_option linter.unusedSimpArgs false
def dv (m k : Int) : Int := if m = 0 then 4 * k * k else if m = 1 then 4 * k * (k + 1) else if m = 2 then (2 * k + 1) * (2 * k + 1) else 4 * (k + 1) * (k + 1)
def cs (m v k w l : Int) : Int := if v = 0 ∨ w = 0 then (v - w).sign else if dv m k = 0 ∧ dv m l = 0 then (v - w).sign else if dv m k = 0 ∨ dv m l = 0 then (dv m l - dv m k).sign else (v * v * dv m l - w * w * dv m k).sign
end Go.Proofs.Ytgmmfdilfpkbmaa.Q
end
section
namespace Go.Proofs.Ytgmmfdilfpkbmaa.Q
open Go.RowKit Go.Proofs.YtgmmfdilfpkbmaaW.PrintWords Go.Proofs.YtgmmfdilfpkbmaaW.PrintLast Go.Proofs.Ytgmmfdilfpkbmaa.P Go.Proofs.Ytgmmfdilfpkbmaa.B
set_option linter.unusedVariables false
set_option linter.unusedSimpArgs false
def cc (m v : Int) : Int := if m = 0 then v else if m = 1 then v * v else if m = 2 then 2 * v else v
abbrev kin (k : Int) : Prop := 0 ≤ k ∧ k ≤ 102
def aok (votes a : List Int) : Prop := a.length = votes.length ∧ ∀ x ∈ a, kin x
theorem aok.rd {votes a : List Int} (h : aok votes a) {i : Nat} (hi : i < votes.length) : kin (rd a i) := by
  rw [rd_nat (by rw [h.1]; exact hi)]
  exact h.2 _ (List.getElem_mem _)
end Go.Proofs.Ytgmmfdilfpkbmaa.Q
end
section
namespace Go.Proofs.Ytgmmfdilfpkbmaa.Q
open Go.RowKit Go.Proofs.YtgmmfdilfpkbmaaW.PrintWords Go.Proofs.YtgmmfdilfpkbmaaW.PrintLast Go.Proofs.Ytgmmfdilfpkbmaa.P Go.Proofs.Ytgmmfdilfpkbmaa.B
set_option linter.unusedVariables false
set_option linter.unusedSimpArgs false
abbrev by8 (l : List Int) : Prop := ∀ x ∈ l, 0 ≤ x ∧ x ≤ 255
theorem and255 {x : Int} (h : 0 ≤ x) (h2 : x < 18446744073709551616) : Go.bits .and .u64 x 255 = x % 256 :=
  bits_mask .u64 64 (by decide) (fun n h₀ h₁ => by rw [IntKind.wrap_u64]; omega) 8 (by decide) x h h2
theorem top_byte (z : Int) : 0 ≤ wrap64 (Go.bits .and .u64 (IntKind.u64.wrap z / 1099511627776) 255) ∧ wrap64 (Go.bits .and .u64 (IntKind.u64.wrap z / 1099511627776) 255) ≤ 255 := by
  have h : 0 ≤ IntKind.u64.wrap z ∧ IntKind.u64.wrap z < 18446744073709551616 := by rw [IntKind.wrap_u64]; omega
  generalize IntKind.u64.wrap z = y at h ⊢
  rw [and255 (by omega) (by omega), w64 (by omega) (by omega)]
  omega
theorem next_ok {l : List Int} {at' seed : Int} (hl : by8 l) (h : 0 ≤ at' ∧ at' ≤ 1000000000000000000) : ∃ x s, spec_l00Src_next.f l at' seed = some (x, at' + 1, s) ∧ 0 ≤ x ∧ x ≤ 255 := by
  obtain ⟨n, rfl⟩ : ∃ n : Nat, at' = n := ⟨at'.toNat, by omega⟩
  unfold spec_l00Src_next.f
  rw [w64 (x := (n : Int) + 1) (by omega) (by omega)]
  by_cases c : (n : Int) < (l.length : Int)
  · rw [if_pos c, if_pos (by omega), if_pos (by omega)]
    have hx := hl _ (rd_mem (l := l) (n := n) (by omega))
    exact ⟨_, _, rfl, by rw [w64 (by omega) (by omega)]; omega, by rw [w64 (by omega) (by omega)]; omega⟩
  · rw [if_neg c, if_neg (by omega)]
    exact ⟨_, _, rfl, top_byte _⟩
theorem pick_ok {l : List Int} {at' seed n : Int} (hl : by8 l) (h : 0 ≤ at' ∧ at' ≤ 100000000000000000) (hn : n ≤ 60000) : ∃ x a s, spec_l00Src_pick.f l at' seed n = some (x, a, s) ∧ (0 ≤ x ∧ (x < n ∨ x = 0)) ∧ at' ≤ a ∧ a ≤ at' + 2 := by
  unfold spec_l00Src_pick.f
  by_cases c : n ≤ 1
  · rw [if_pos c]; exact ⟨0, at', seed, rfl, by omega, by omega, by omega⟩
  · obtain ⟨x, s, e, hx⟩ := next_ok (seed := seed) hl (show 0 ≤ at' ∧ at' ≤ 1000000000000000000 by omega)
    rw [if_neg c, e, Option.bind_some]
    by_cases c2 : n > 200
    · obtain ⟨y, s2, e2, hy⟩ := next_ok (seed := s) hl (show 0 ≤ at' + 1 ∧ at' + 1 ≤ 1000000000000000000 by omega)
      rw [if_pos c2, e2, Option.bind_some, if_neg (by omega), w64 (x := x * 256) (by omega) (by omega), w64 (x := x * 256 + y) (by omega) (by omega), Int.tmod_eq_emod_of_nonneg (by omega)]
      exact ⟨_, _, _, rfl, ⟨Int.emod_nonneg _ (by omega), .inl (Int.emod_lt_of_pos _ (by omega))⟩, by simp only; omega, by simp only; omega⟩
    · rw [if_neg c2, if_neg (by omega), Int.tmod_eq_emod_of_nonneg (by omega)]
      exact ⟨_, _, _, rfl, ⟨Int.emod_nonneg _ (by omega), .inl (Int.emod_lt_of_pos _ (by omega))⟩, by simp only; omega, by simp only; omega⟩
theorem r8At_ok {l : List Int} {i n : Int} (hl : by8 l) (hi : 0 ≤ i) (hn : 1 ≤ n) : ∃ x, laws_r8At.f l i n = some x ∧ 0 ≤ x ∧ x < n := by
  unfold laws_r8At.f
  by_cases c : n ≤ 1
  · rw [if_pos c]; exact ⟨0, rfl, by omega, by omega⟩
  · rw [if_neg c]
    by_cases c2 : i ≥ (l.length : Int)
    · rw [if_pos c2]; exact ⟨0, rfl, by omega, by omega⟩
    · obtain ⟨j, rfl⟩ : ∃ j : Nat, i = j := ⟨i.toNat, by omega⟩
      have hx := hl _ (rd_mem (l := l) (n := j) (by omega))
      rw [if_neg c2, if_pos hi, if_pos (by omega), if_neg (by omega), w64 (by omega) (by omega), Int.tmod_eq_emod_of_nonneg (by omega)]
      exact ⟨_, rfl, Int.emod_nonneg _ (by omega), Int.emod_lt_of_pos _ (by omega)⟩
theorem r8Long_ok (l m : List Int) : ∃ b, laws_r8Long.f l m = some b := by
  unfold laws_r8Long.f
  split
  · exact ⟨_, rfl⟩
  · exact ⟨_, rfl⟩
def vd (votes : List Int) : Prop := vt votes = true ∧ ∀ x ∈ votes, x ≤ 30
end Go.Proofs.Ytgmmfdilfpkbmaa.Q
end
section
namespace Go.Proofs.Ytgmmfdilfpkbmaa.Q
open Go.RowKit Go.Proofs.YtgmmfdilfpkbmaaW.PrintWords Go.Proofs.YtgmmfdilfpkbmaaW.PrintLast Go.Proofs.Ytgmmfdilfpkbmaa.P Go.Proofs.Ytgmmfdilfpkbmaa.B
set_option linter.unusedVariables false
set_option linter.unusedSimpArgs false
theorem nodup_leB : ∀ {l1 l2 : List Nat}, l1.Nodup → (∀ x ∈ l1, x ∈ l2) → l1.length ≤ l2.length
  | [], _, _, _ => Nat.zero_le _
  | x :: xs, l2, hn, h => by
    rw [List.nodup_cons] at hn
    have hx := h x (List.mem_cons_self ..)
    have := nodup_leB (l1 := xs) (l2 := l2.erase x) hn.2 (fun y hy => by
      have hy2 := h y (List.mem_cons_of_mem _ hy)
      have hne : y ≠ x := fun e => hn.1 (e ▸ hy)
      exact (List.mem_erase_of_ne hne).2 hy2)
    rw [List.length_erase_of_mem hx] at this
    have hp := List.length_pos_of_mem hx
    rw [List.length_cons]; omega
theorem rd_mapB {f : Int → Int} {l : List Int} {i : Nat} (h : i < l.length) : rd (l.map f) (i : Int) = f (rd l i) := by
  rw [rd_nat (by rw [List.length_map]; exact h), rd_nat h, List.getElem_map]
theorem rd_succB (a : Int) (l : List Int) (i : Nat) : rd (a :: l) ((i + 1 : Nat) : Int) = rd l (i : Int) := by
  show (a :: l).getD ((i + 1 : Nat) : Int).toNat 0 = l.getD ((i : Nat) : Int).toNat 0
  rw [Int.toNat_natCast, Int.toNat_natCast]; rfl
theorem rd_extB {a b : List Int} (hl : a.length = b.length) (h : ∀ i : Nat, i < a.length → rd a i = rd b i) : a = b := by
  refine List.ext_getElem hl fun i h1 h2 => ?_
  have := h i h1
  rwa [rd_nat h1, rd_nat h2] at this
theorem fold0 : ∀ (es : List Int) (s : Int), es.foldl (nf 0) s = s + (es.map fun e => (e.natAbs : Int)).sum
  | [], s => by simp
  | e :: es, s => by
    rw [List.foldl_cons, fold0 es, List.map_cons, List.sum_cons]
    unfold nf
    rw [if_pos rfl]; omega
theorem fold1 : ∀ (es : List Int) (s : Int), es.foldl (nf 1) s = s + (es.map fun e => e * e).sum
  | [], s => by simp
  | e :: es, s => by
    rw [List.foldl_cons, fold1 es, List.map_cons, List.sum_cons]
    unfold nf
    rw [if_neg (by omega), if_pos rfl]; omega
theorem fold2 : ∀ (es : List Int) (s : Int), s ≤ es.foldl (nf 2) s ∧ (∀ e ∈ es, (e.natAbs : Int) ≤ es.foldl (nf 2) s) ∧ ∀ M, s ≤ M → (∀ e ∈ es, (e.natAbs : Int) ≤ M) → es.foldl (nf 2) s ≤ M
  | [], s => ⟨Int.le_refl _, by simp, fun M h _ => h⟩
  | e :: es, s => by
    rw [List.foldl_cons]
    have e1 : nf 2 s e = max s (e.natAbs : Int) := by unfold nf; rw [if_neg (by omega), if_neg (by omega)]
    have ih := fold2 es (nf 2 s e)
    rw [e1] at ih ⊢
    refine ⟨by omega, fun x hx => ?_, fun M h1 h2 => ih.2.2 M (by have := h2 e (List.mem_cons_self ..); omega) fun x hx => h2 x (List.mem_cons_of_mem e hx)⟩
    rcases List.mem_cons.1 hx with rfl | hx
    · omega
    · exact ih.2.1 x hx
theorem lag {V lam : Int} {g : Int → Int} : ∀ (nums x y : List Int), x.length = nums.length → y.length = nums.length → (∀ i : Nat, i < nums.length → g (V * rd y i - rd nums i) + lam * rd y i ≤ g (V * rd x i - rd nums i) + lam * rd x i) → ((ers V nums y).map g).sum + lam * y.sum ≤ ((ers V nums x).map g).sum + lam * x.sum
  | [], x, y, hx, hy, _ => by
    obtain rfl := List.length_eq_zero_iff.1 hx
    obtain rfl := List.length_eq_zero_iff.1 hy
    exact Int.le_refl _
  | a :: nums, [], _, hx, _, _ => by simp at hx
  | a :: nums, _ :: _, [], _, hy, _ => by simp at hy
  | a :: nums, b :: x, c :: y, hx, hy, h => by
    have ih := lag nums x y (by simpa using hx) (by simpa using hy) (fun i hi => by
      have := h (i + 1) (by rw [List.length_cons]; omega)
      rw [rd_succB, rd_succB, rd_succB] at this
      exact this)
    have h0 : g (V * c - a) + lam * c ≤ g (V * b - a) + lam * b := h 0 (by rw [List.length_cons]; omega)
    have e1 : ((ers V (a :: nums) (c :: y)).map g).sum = g (V * c - a) + ((ers V nums y).map g).sum := rfl
    have e2 : ((ers V (a :: nums) (b :: x)).map g).sum = g (V * b - a) + ((ers V nums x).map g).sum := rfl
    rw [e1, e2, List.sum_cons, List.sum_cons, Int.mul_add, Int.mul_add]
    omega
theorem rd_ersB {V : Int} {nums x : List Int} (hx : x.length = nums.length) {i : Nat} (hi : i < nums.length) : rd (ers V nums x) i = V * rd x i - rd nums i := by
  rw [rd_nat (by rw [ers_length hx]; exact hi), rd_nat hi, rd_nat (by omega)]
  simp [ers]
theorem rst_inB {V : Int} (hV : 1 ≤ V) (nums : List Int) (i : Nat) : 0 ≤ rst V nums i ∧ rst V nums i < V ∧ V * (rd nums i / V) = rd nums i - rst V nums i := by
  have := ediv_mul_le (a := rd nums i) hV
  unfold rst
  rw [Int.mul_comm V]
  omega
theorem best_facts {V : Int} {nums : List Int} (h : okd V nums) (hn : nums.length ≤ 19) {m : Nat} (hm : m ≤ (above V nums 0 nums.length).length) (nm : Int) :
    ∃ (B : Nat) (T : List Nat), BD V nums nm m B ∧ T.Nodup ∧ (∀ i ∈ T, i < nums.length) ∧ T.length = m ∧ bestL V nums nm m = incs (fls V nums) T ∧ ∀ i, i < nums.length → (i ∈ T → cz V nm B (rst V nums i) = 1 ∨ cz V nm B (rst V nums i) = 0) ∧ (i ∉ T → cz V nm B (rst V nums i) ≠ 1) := by
  obtain ⟨B, up, hB, _, _⟩ := plan_eq h hn hm (nm := nm) (k := 30001) (by omega)
  have hD := BDof_eq hB
  have h2 := hB.2.1.2
  refine ⟨B, onesL V nums nm B nums.length ++ (zerosL V nums nm B nums.length).drop (frees V nums nm m - lefts V nums nm m), hB, pick_nodup .., fun i hi => pick_lt hi, ?_, ?_, fun i hi => ⟨fun hT => ?_, fun hT hc => hT ?_⟩⟩
  · unfold frees lefts
    rw [hD, List.length_append, List.length_drop]
    omega
  · unfold bestL
    rw [hD]
  · rcases List.mem_append.1 hT with h1 | h1
    · exact .inl (onesL_mem.1 h1).2
    · exact .inr (zerosL_mem.1 (List.mem_of_mem_drop h1)).2
  · exact List.mem_append_left _ (onesL_mem.2 ⟨hi, hc⟩)
theorem ups_of {V : Int} {nums x : List Int} (h : okd V nums) (hx : x.length = nums.length) (hr : ∀ i : Nat, i < nums.length → rd x i = rd nums i / V ∨ rd x i = cl (rd nums i) V) :
    ∃ D : List Nat, D.Nodup ∧ (∀ i ∈ D, i < nums.length ∧ 0 < rst V nums i) ∧ x = incs (fls V nums) D ∧ D.length ≤ (above V nums 0 nums.length).length := by
  have hnd : ((List.range nums.length).filter fun (i : Nat) => decide (rd x i ≠ rd nums i / V)).Nodup := (List.nodup_range).filter _
  have hin : ∀ i : Nat, i ∈ ((List.range nums.length).filter fun (i : Nat) => decide (rd x i ≠ rd nums i / V)) → i < nums.length ∧ 0 < rst V nums i := fun i hi => by
    rw [List.mem_filter, List.mem_range, decide_eq_true_eq] at hi
    refine ⟨hi.1, ?_⟩
    have h1 := (hr i hi.1).resolve_left hi.2
    rw [cl_fl h.1] at h1
    unfold rst
    apply Classical.byContradiction; intro hc
    rw [if_neg hc] at h1
    omega
  refine ⟨_, hnd, hin, ?_, ?_⟩
  · refine rd_extB (by rw [incs_length, fls_length, hx]) fun i hi => ?_
    rw [incs_rd _ _ hnd (fun q hq => by rw [fls_length]; exact (hin q hq).1)]
    have ef : rd (fls V nums) i = rd nums i / V := rd_mapB (by omega)
    rw [ef]
    by_cases c : rd x i = rd nums i / V
    · rw [if_neg (by rw [List.mem_filter, decide_eq_true_eq]; exact fun hh => hh.2 c), c]; omega
    · rw [if_pos (by rw [List.mem_filter, decide_eq_true_eq, List.mem_range]; exact ⟨by omega, c⟩)]
      have h1 := (hr i (by omega)).resolve_left c
      rw [cl_fl h.1] at h1
      split at h1 <;> omega
  · exact nodup_leB hnd fun i hi => by
      have := hin i hi
      exact above_mem.2 this
theorem best_least {V : Int} {nums x : List Int} (h : okd V nums) (hn : nums.length ≤ 19) {D : List Nat} (hD : D.Nodup) (hDi : ∀ i ∈ D, i < nums.length ∧ 0 < rst V nums i) (hx : x = incs (fls V nums) D) (hm : D.length ≤ (above V nums 0 nums.length).length) {nm : Int} (hnm : 0 ≤ nm ∧ nm ≤ 2) :
    nrm nm (ers V nums (bestL V nums nm D.length)) ≤ nrm nm (ers V nums x) ∧ (bestL V nums nm D.length).length = nums.length ∧ (bestL V nums nm D.length).sum = x.sum ∧ ∀ i : Nat, i < nums.length → rd (bestL V nums nm D.length) i = rd nums i / V ∨ rd (bestL V nums nm D.length) i = cl (rd nums i) V := by
  obtain ⟨B, T, hB, hT, hTi, hTl, e, hc⟩ := best_facts h hn hm nm
  have hTi' : ∀ q ∈ T, q < (fls V nums).length := fun q hq => by rw [fls_length]; exact hTi q hq
  have hDi' : ∀ q ∈ D, q < (fls V nums).length := fun q hq => by rw [fls_length]; exact (hDi q hq).1
  have ry : ∀ i : Nat, rd (bestL V nums nm D.length) i = rd (fls V nums) i + if i ∈ T then 1 else 0 := fun i => by rw [e, incs_rd _ _ hT hTi']
  have rx : ∀ i : Nat, rd x i = rd (fls V nums) i + if i ∈ D then 1 else 0 := fun i => by rw [hx, incs_rd _ _ hD hDi']
  have ly : (bestL V nums nm D.length).length = nums.length := by rw [e, incs_length, fls_length]
  have lx : x.length = nums.length := by rw [hx, incs_length, fls_length]
  have sy : (bestL V nums nm D.length).sum = x.sum := by rw [e, hx, incs_sum _ _ hTi', incs_sum _ _ hDi', hTl]
  have ef : ∀ i : Nat, i < nums.length → rd (fls V nums) i = rd nums i / V := fun i hi => rd_mapB hi
  have hV := h.1
  have hBV := hB.1
  have T0 : ∀ i, i < nums.length → i ∈ T → 0 < rst V nums i := fun i hi hiT => by
    have := (hc i hi).1 hiT
    have r0 := (rst_inB hV nums i).1
    apply Classical.byContradiction; intro hcc
    unfold cz at this
    rw [if_pos (by omega)] at this
    omega
  refine ⟨?_, ly, sy, fun i hi => ?_⟩
  · by_cases n2 : nm = 2
    · subst n2
      have hE : ∀ i : Nat, i < nums.length → ((V * rd x i - rd nums i).natAbs : Int) ≤ nrm 2 (ers V nums x) := fun i hi => by
        rw [← rd_ersB lx hi]
        exact (fold2 (ers V nums x) 0).2.1 _ (rd_mem (by rw [ers_length lx]; exact hi))
      have E0 : 0 ≤ nrm 2 (ers V nums x) := (fold2 (ers V nums x) 0).1
      generalize nrm 2 (ers V nums x) = E at hE E0 ⊢
      have hEr : ∀ i : Nat, i < nums.length → (i ∈ D → V - rst V nums i ≤ E) ∧ (i ∉ D → rst V nums i ≤ E) := fun i hi => by
        have h1 := hE i hi
        have h2 := rst_inB hV nums i
        rw [rx, ef i hi, Int.mul_add, h2.2.2] at h1
        refine ⟨fun c => ?_, fun c => ?_⟩
        · rw [if_pos c, Int.mul_one] at h1; omega
        · rw [if_neg c, Int.mul_zero] at h1; omega
      have hBE : (B : Int) ≤ E := by
        apply Classical.byContradiction; intro hlt
        refine hB.2.2 E.toNat (by omega) ?_
        rw [Int.toNat_of_nonneg E0]
        refine ⟨fun _ i hi hh => ?_, ?_, ?_⟩
        · by_cases c : i ∈ D
          · have := (hEr i hi).1 c; omega
          · have := (hEr i hi).2 c; omega
        · refine nodup_leB ((List.nodup_range).filter _) fun i hi => ?_
          have h1 := onesL_mem.1 hi
          apply Classical.byContradiction; intro c
          have h2 := (hEr i h1.1).2 c
          have h3 := h1.2
          unfold cz at h3
          split at h3
          · omega
          · rw [if_pos rfl, if_neg (by omega)] at h3
            split at h3 <;> omega
        · rw [← List.length_append]
          refine nodup_leB hD fun i hi => ?_
          have h1 := hDi i hi
          have h2 := (hEr i h1.1).1 hi
          by_cases c : rst V nums i > E
          · refine List.mem_append_left _ (onesL_mem.2 ⟨h1.1, ?_⟩)
            unfold cz
            rw [if_neg (by omega), if_pos rfl, if_pos c]
          · refine List.mem_append_right _ (zerosL_mem.2 ⟨h1.1, ?_⟩)
            unfold cz
            rw [if_neg (by omega), if_pos rfl, if_neg c, if_neg (by omega)]
      refine (fold2 _ 0).2.2 E E0 fun q hq => ?_
      obtain ⟨i, hi, rfl⟩ := List.getElem_of_mem hq
      have hi2 : i < nums.length := by rw [ers_length ly] at hi; exact hi
      rw [← rd_nat hi, rd_ersB ly hi2, ry, ef i hi2, Int.mul_add]
      have h2 := rst_inB hV nums i
      have h3 := hB.2.1.1 rfl i hi2
      have h4 := hc i hi2
      rw [h2.2.2]
      by_cases c : i ∈ T
      · rw [if_pos c, Int.mul_one]
        have h5 := h4.1 c
        have h6 := T0 i hi2 c
        unfold cz at h5
        rw [if_neg (by omega), if_pos rfl] at h5
        by_cases c2 : rst V nums i > (B : Int)
        · omega
        · rw [if_neg c2] at h5
          by_cases c3 : V - rst V nums i > (B : Int)
          · rw [if_pos c3] at h5; omega
          · omega
      · rw [if_neg c, Int.mul_zero]
        have h5 := h4.2 c
        unfold cz at h5
        by_cases c1 : rst V nums i = 0
        · omega
        · rw [if_neg c1, if_pos rfl] at h5
          by_cases c2 : rst V nums i > (B : Int)
          · rw [if_pos c2] at h5; omega
          · omega
    · have hcut : ∀ i, i < nums.length → (i ∈ T → V - B ≤ rst V nums i) ∧ (i ∉ T → rst V nums i ≤ V - B) := fun i hi => by
        have h4 := hc i hi
        have h2 := rst_inB hV nums i
        refine ⟨fun c => ?_, fun c => ?_⟩
        · have h5 := h4.1 c
          have h6 := T0 i hi c
          unfold cz at h5
          rw [if_neg (by omega), if_neg n2] at h5
          by_cases c2 : rst V nums i > V - (B : Int)
          · omega
          · rw [if_neg c2] at h5
            by_cases c3 : rst V nums i < V - (B : Int)
            · rw [if_pos c3] at h5; omega
            · omega
        · have h5 := h4.2 c
          unfold cz at h5
          by_cases c1 : rst V nums i = 0
          · omega
          · rw [if_neg c1, if_neg n2] at h5
            by_cases c2 : rst V nums i > V - (B : Int)
            · rw [if_pos c2] at h5; omega
            · omega
      by_cases n0 : nm = 0
      · subst n0
        unfold nrm
        rw [fold0, fold0]
        have := lag (V := V) (lam := 2 * (V - B) - V) (g := fun e => (e.natAbs : Int)) nums x (bestL V nums 0 D.length) lx ly (fun i hi => by
          have h2 := rst_inB hV nums i
          have h3 := hcut i hi
          rw [rx, ry, ef i hi, Int.mul_add, Int.mul_add, Int.mul_add, Int.mul_add, h2.2.2]
          generalize (2 * (V - ↑B) - V) * (rd nums ↑i / V) = L
          by_cases c : i ∈ T
          · have := h3.1 c
            rw [if_pos c]
            by_cases c2 : i ∈ D
            · rw [if_pos c2]; exact Int.le_refl _
            · rw [if_neg c2]; omega
          · have := h3.2 c
            rw [if_neg c]
            by_cases c2 : i ∈ D
            · rw [if_pos c2]; omega
            · rw [if_neg c2]; exact Int.le_refl _)
        rw [sy] at this
        omega
      · obtain rfl : nm = 1 := by omega
        unfold nrm
        rw [fold1, fold1]
        have := lag (V := V) (lam := 2 * (V * (V - B)) - V * V) (g := fun e => e * e) nums x (bestL V nums 1 D.length) lx ly (fun i hi => by
          have h2 := rst_inB hV nums i
          have h3 := hcut i hi
          rw [rx, ry, ef i hi, Int.mul_add, Int.mul_add, Int.mul_add, Int.mul_add, h2.2.2]
          generalize (2 * (V * (V - ↑B)) - V * V) * (rd nums ↑i / V) = L
          have sq : (V - rst V nums i) * (V - rst V nums i) = V * V - 2 * (V * rst V nums i) + rst V nums i * rst V nums i := by
            rw [Int.sub_mul, Int.mul_sub, Int.mul_sub, Int.mul_comm (rst V nums i) V]; omega
          have sr : (- rst V nums i) * (- rst V nums i) = rst V nums i * rst V nums i := Int.neg_mul_neg ..
          have t1 : rd nums ↑i - rst V nums i + V * 1 - rd nums ↑i = V - rst V nums i := by omega
          have t0 : rd nums ↑i - rst V nums i + V * 0 - rd nums ↑i = - rst V nums i := by omega
          by_cases c : i ∈ T
          · have h5 := h3.1 c
            rw [if_pos c]
            by_cases c2 : i ∈ D
            · rw [if_pos c2]; exact Int.le_refl _
            · rw [if_neg c2, t1, t0, sq, sr]
              have := Int.mul_le_mul_of_nonneg_left h5 (show 0 ≤ V by omega)
              omega
          · have h5 := h3.2 c
            rw [if_neg c]
            by_cases c2 : i ∈ D
            · rw [if_pos c2, t1, t0, sq, sr]
              have := Int.mul_le_mul_of_nonneg_left h5 (show 0 ≤ V by omega)
              omega
            · rw [if_neg c2]; exact Int.le_refl _)
        rw [sy] at this
        omega
  · rw [ry, ef i hi]
    by_cases c : i ∈ T
    · right
      have := T0 i hi c
      unfold rst at this
      rw [if_pos c, cl_fl hV, if_pos this]
    · left
      rw [if_neg c]; omega
theorem rnd_ofB {V : Int} {nums x : List Int} (hx : x.length = nums.length) (hr : ∀ i : Nat, i < nums.length → rd x i = rd nums i / V ∨ rd x i = cl (rd nums i) V) : rnd V nums x = true := by
  unfold rnd
  rw [List.all_eq_true]
  intro p hp
  obtain ⟨i, hi, rfl⟩ := List.getElem_of_mem hp
  obtain ⟨h1, h2, e1, e2⟩ := zip_get1 hi
  have := hr i h2
  rw [rd_nat h1, rd_nat h2] at this
  rw [e1, e2, Bool.or_eq_true, decide_eq_true_eq, decide_eq_true_eq]
  exact this
theorem r8Values_ok {l : List Int} (hl : by8 l) {k : Nat} (hk : 20 < k) : ∃ V nums, Za6.f k l = some (V, nums) ∧ (1 ≤ V ∧ V ≤ 12) ∧ nums.length ≤ 7 ∧ ∀ x ∈ nums, -12 ≤ x ∧ x ≤ 27 := by
  unfold Za6.f spec_l00From.f
  obtain ⟨x, b, s, e, hx, hb⟩ := pick_ok (at' := 0) (seed := 0) (n := 12) hl (by omega) (by omega)
  obtain ⟨y, b2, s2, e2, hy, hb2⟩ := pick_ok (at' := b) (seed := s) (n := 8) hl (by omega) (by omega)
  rw [Option.bind_some, e, Option.bind_some, e2, Option.bind_some, w64 (x := 1 + x) (by omega) (by omega)]
  obtain ⟨n, rfl⟩ : ∃ n : Nat, y = n := ⟨y.toNat, by omega⟩
  have go : ∀ (n k : Nat) (at' seed : Int) (r : List Int), n < k → (∀ x ∈ r, -12 ≤ x ∧ x ≤ 27) → r.length + n ≤ 7 → 0 ≤ at' ∧ at' + 2 * n ≤ 10000 →
      ∃ nums, Za6.l0 k n l at' seed (1 + x) r = some (1 + x, nums) ∧ nums.length ≤ 7 ∧ ∀ x ∈ nums, -12 ≤ x ∧ x ≤ 27 := by
    intro n
    induction n with
    | zero =>
      intro k at' seed r hk hr hn hat
      obtain ⟨k, rfl, _⟩ := succ_of_lt hk
      simp only [Za6.l0]
      rw [if_neg (by omega)]
      exact ⟨_, rfl, by omega, hr⟩
    | succ n ih =>
      intro k at' seed r hk hr hn hat
      obtain ⟨k, rfl, _⟩ := succ_of_lt hk
      obtain ⟨z, b, s, e, hz, hb⟩ := pick_ok (seed := seed) (n := 40) hl (show 0 ≤ at' ∧ at' ≤ 100000000000000000 by omega) (by omega)
      simp only [Za6.l0]
      rw [if_pos (by omega), e, Option.bind_some, if_pos (by omega), w64 (x := ((n + 1 : Nat) : Int) - 1) (by omega) (by omega), w64 (x := z - 12) (by omega) (by omega), show ((n + 1 : Nat) : Int) - 1 = (n : Int) by omega]
      exact ih k b s (r ++ [z - 12]) (by omega) (fun y hy => by
        rcases List.mem_append.1 hy with h | h
        · exact hr y h
        · rw [List.mem_singleton.1 h]; omega) (by simp; omega) (by omega)
  obtain ⟨nums, e3, h1, h2⟩ := go n k b2 s2 [] (by omega) (by simp) (by simp; omega) (by omega)
  exact ⟨_, nums, e3, by omega, h1, h2⟩
theorem r8Rounding_ok {l : List Int} (hl : by8 l) {V : Int} {nums : List Int} (hV : 1 ≤ V ∧ V ≤ 12) (hn : nums.length ≤ 7) (hnum : ∀ x ∈ nums, -12 ≤ x ∧ x ≤ 27) {k : Nat} (hk : 20 < k) :
    ∃ x, Za5.f k l V nums = some x ∧ x.length = nums.length ∧ ∀ i : Nat, i < nums.length → rd x i = rd nums i / V ∨ rd x i = cl (rd nums i) V := by
  unfold Za5.f spec_l00From.f
  rw [Option.bind_some]
  refine loopIc0 (m := nums.length) 5 (F := fun k j (s : List Int × Int × Int) => Za5.l0 k s.1 j V nums l s.2.1 s.2.2) (fun j s => s.1.length = j ∧ (0 ≤ s.2.1 ∧ s.2.1 ≤ 2 * (j : Int)) ∧ ∀ i : Nat, i < j → rd s.1 i = rd nums i / V ∨ rd s.1 i = cl (rd nums i) V) (fun r => ∃ x, r = some x ∧ x.length = nums.length ∧ ∀ i : Nat, i < nums.length → rd x i = rd nums i / V ∨ rd x i = cl (rd nums i) V) ?_ ?_ (k := k) (s := ([], 0, 0)) (by omega) ⟨rfl, by simp, fun i hi => by omega⟩
  · rintro k ⟨x, a, s⟩ hk ⟨h1, _, h3⟩
    simp only [Za5.l0]
    rw [if_neg (by omega)]
    exact ⟨x, rfl, h1, h3⟩
  · rintro k j ⟨x, a, s⟩ hk hj ⟨h1, h2, h3⟩
    simp only at h1 h2 h3
    obtain ⟨z, b, s', e, hz, hb⟩ := pick_ok (seed := s) (n := 2) hl (show 0 ≤ a ∧ a ≤ 100000000000000000 by omega) (by omega)
    have hx := hnum _ (rd_mem hj)
    simp only [Za5.l0]
    rw [if_pos (by omega), if_pos (by omega), l01Floor_eq hV.1 (by omega) (by omega) (by omega), Option.bind_some]
    unfold spec_l00Src_one.f
    rw [e, Option.bind_some, Option.bind_some]
    simp only
    have app : ∀ v : Int, v = rd nums j / V ∨ v = cl (rd nums j) V → ∀ i : Nat, i < j + 1 → rd (x ++ [v]) i = rd nums i / V ∨ rd (x ++ [v]) i = cl (rd nums i) V := fun v hv i hi => by
      by_cases c : i < j
      · have := h3 i c
        rw [rd_nat (by rw [List.length_append]; omega), List.getElem_append_left (by omega), ← rd_nat (by omega)]
        exact this
      · obtain rfl : i = j := by omega
        rw [rd_nat (by rw [List.length_append, List.length_singleton]; omega), List.getElem_append_right (by omega)]
        simp only [h1, Nat.sub_self, List.getElem_cons_zero]
        exact hv
    by_cases c : (z == 0) = true
    · rw [if_pos c, l01Ceil_eq hV.1 (by omega) (by omega) (by omega), Option.bind_some, if_pos (by omega), wrap_nat (by omega)]
      exact .inl ⟨(x ++ [cl (rd nums j) V], b, s'), ⟨by simp [h1], by simp only; omega, app _ (.inr rfl)⟩, rfl⟩
    · rw [if_neg c, if_pos (by omega), wrap_nat (by omega)]
      exact .inl ⟨(x ++ [rd nums j / V], b, s'), ⟨by simp [h1], by simp only; omega, app _ (.inl rfl)⟩, rfl⟩
end Go.Proofs.Ytgmmfdilfpkbmaa.Q
end
