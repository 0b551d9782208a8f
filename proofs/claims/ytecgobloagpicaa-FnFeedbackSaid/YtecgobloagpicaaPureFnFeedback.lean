/- FnFeedback answers true at all arguments. -/
import Derived.Test.YtecgobloagpicaaQ5FnFeedback
import Derived.Test.YtecgobloagpicaaQHFnFeedback
import Derived.Test.YtecgobloagpicaaP6
import Derived.Test.YtecgobloagpicaaP7
namespace Go.Proofs.Ytecgobloagpicaa.Pure
open Go.RowKit Go.Proofs.YtecgobloagpicaaW.PrintWords Go.Proofs.YtecgobloagpicaaW.PrintLast Go.Proofs.Ytecgobloagpicaa.P Go.Proofs.Ytecgobloagpicaa.B Go.Proofs.Ytecgobloagpicaa.Q
set_option linter.unusedVariables false
set_option linter.unusedSimpArgs false

section
variable (den lo hi c d : Int)
/-- A level, and the levels and what is left over, one after another. -/
def lev (y : Int) : Int := max lo (min hi (nr y den))
def fs : List Int → Int → Int → List (Int × Int)
  | [], _, _ => []
  | x :: xs, one, two => (lev den lo hi (x + c * one + d * two), x + c * one + d * two - den * lev den lo hi (x + c * one + d * two)) :: fs xs (x + c * one + d * two - den * lev den lo hi (x + c * one + d * two)) one
theorem fs_len : ∀ (l : List Int) (one two : Int), (fs den lo hi c d l one two).length = l.length
  | [], _, _ => rfl
  | x :: xs, one, two => by simp only [fs, List.length_cons, fs_len xs]
/-- Nothing that is left over is too great. -/
def fok (S : List (Int × Int)) : Bool := S.all fun p => decide (-1000000000 ≤ p.2 ∧ p.2 ≤ 1000000000)
theorem fd_fs : ∀ (l lv lf : List Int) (one two : Int), fd den lo hi c d lv lf one two l = if fok (fs den lo hi c d l one two) = true then (lv ++ (fs den lo hi c d l one two).map Prod.fst, lf ++ (fs den lo hi c d l one two).map Prod.snd, true) else ([], [], false)
  | [], lv, lf, one, two => by simp [fd, fs, fok]
  | x :: xs, lv, lf, one, two => by
    simp only [fd]
    change (if -1000000000 ≤ x + c * one + d * two - den * lev den lo hi (x + c * one + d * two) ∧ x + c * one + d * two - den * lev den lo hi (x + c * one + d * two) ≤ 1000000000 then _ else _) = _
    have ih := fd_fs xs (lv ++ [lev den lo hi (x + c * one + d * two)]) (lf ++ [x + c * one + d * two - den * lev den lo hi (x + c * one + d * two)]) (x + c * one + d * two - den * lev den lo hi (x + c * one + d * two)) one
    have e : fs den lo hi c d (x :: xs) one two = (lev den lo hi (x + c * one + d * two), x + c * one + d * two - den * lev den lo hi (x + c * one + d * two)) :: fs den lo hi c d xs (x + c * one + d * two - den * lev den lo hi (x + c * one + d * two)) one := rfl
    by_cases h : -1000000000 ≤ x + c * one + d * two - den * lev den lo hi (x + c * one + d * two) ∧ x + c * one + d * two - den * lev den lo hi (x + c * one + d * two) ≤ 1000000000
    · have hf : fok (fs den lo hi c d (x :: xs) one two) = fok (fs den lo hi c d xs (x + c * one + d * two - den * lev den lo hi (x + c * one + d * two)) one) := by
        rw [e]; unfold fok; rw [List.all_cons, decide_eq_true h, Bool.true_and]
      rw [if_pos h, hf, e]
      refine Eq.trans ih ?_
      simp only [List.append_assoc, List.map_cons, List.singleton_append]
    · have hf : ¬ fok (fs den lo hi c d (x :: xs) one two) = true := by
        rw [e]; unfold fok; rw [List.all_cons, decide_eq_false h, Bool.false_and]; decide
      rw [if_neg h, if_neg hf]
theorem rd_cons0 (a : Int) (l : List Int) : rd (a :: l) 0 = a := rfl
theorem rd_consS (a : Int) (l : List Int) (i : Nat) : rd (a :: l) ((i + 1 : Nat) : Int) = rd l (i : Int) := by
  unfold rd
  rw [Int.toNat_natCast, Int.toNat_natCast]
  rfl
/-- Each level, and what is left over behind it. -/
theorem fs_get : ∀ (l : List Int) (one two : Int) (i : Nat), i < l.length →
    rd ((fs den lo hi c d l one two).map Prod.fst) i = lev den lo hi (rd l i + c * rd (one :: (fs den lo hi c d l one two).map Prod.snd) i + d * rd (two :: one :: (fs den lo hi c d l one two).map Prod.snd) i) ∧
    rd ((fs den lo hi c d l one two).map Prod.snd) i = rd l i + c * rd (one :: (fs den lo hi c d l one two).map Prod.snd) i + d * rd (two :: one :: (fs den lo hi c d l one two).map Prod.snd) i - den * rd ((fs den lo hi c d l one two).map Prod.fst) i
  | [], _, _, i, h => by simp at h
  | x :: xs, one, two, 0, _ => ⟨rfl, rfl⟩
  | x :: xs, one, two, i + 1, h => by
    have ih := fs_get xs (x + c * one + d * two - den * lev den lo hi (x + c * one + d * two)) one i (by simpa using h)
    have e : fs den lo hi c d (x :: xs) one two = (lev den lo hi (x + c * one + d * two), x + c * one + d * two - den * lev den lo hi (x + c * one + d * two)) :: fs den lo hi c d xs (x + c * one + d * two - den * lev den lo hi (x + c * one + d * two)) one := rfl
    rw [e]
    simp only [List.map_cons, rd_consS]
    exact ih
end
theorem lev_in2 {den lo hi : Int} (h : lo ≤ hi) (y : Int) : lo ≤ lev den lo hi y ∧ lev den lo hi y ≤ hi := by unfold lev; omega
/-- The nearest integer is at most a half away. -/
theorem nr_half {a b : Int} (hb : 1 ≤ b) : 2 * (a - b * nr a b) ≤ b ∧ -b ≤ 2 * (a - b * nr a b) := by
  have h := ediv_mul_le (a := a) hb
  have e : b * (a / b) = a / b * b := Int.mul_comm _ _
  have e2 : b * (a / b + 1) = a / b * b + b := by rw [Int.mul_add, e, Int.mul_one]
  unfold nr
  split
  · rw [e2]; omega
  · split
    · split
      · rw [e]; omega
      · rw [e2]; omega
    · rw [e]; omega
/-- A level between its ends leaves at most a half over, where the value and what was left over let it. -/
theorem lev_half {den lo hi n s : Int} (hd : 1 ≤ den) (hlo : lo ≤ hi) (h1 : den * lo ≤ n) (h2 : n ≤ den * hi) (hs : 2 * s ≤ den ∧ -den ≤ 2 * s) : 2 * (n + s - den * lev den lo hi (n + s)) ≤ den ∧ -den ≤ 2 * (n + s - den * lev den lo hi (n + s)) := by
  have hh := nr_half (a := n + s) hd
  unfold lev
  by_cases c1 : nr (n + s) den < lo
  · have e : max lo (min hi (nr (n + s) den)) = lo := by omega
    have hm : den * (nr (n + s) den + 1) ≤ den * lo := Int.mul_le_mul_of_nonneg_left (by omega) (by omega)
    rw [Int.mul_add, Int.mul_one] at hm
    rw [e]
    omega
  · by_cases c2 : hi < nr (n + s) den
    · have e : max lo (min hi (nr (n + s) den)) = hi := by omega
      have hm : den * (hi + 1) ≤ den * nr (n + s) den := Int.mul_le_mul_of_nonneg_left (by omega) (by omega)
      rw [Int.mul_add, Int.mul_one] at hm
      rw [e]
      omega
    · have e : max lo (min hi (nr (n + s) den)) = nr (n + s) den := by omega
      rw [e]
      exact hh
theorem b10Abs_eq {x : Int} (h : -4611686018427387904 ≤ x ∧ x ≤ 4611686018427387904) : laws_b10Abs.f x = some (x.natAbs : Int) := by
  unfold laws_b10Abs.f
  by_cases c : x < 0
  · rw [if_pos c, w64 (by omega) (by omega)]; congr 1; omega
  · rw [if_neg c]; congr 1; omega
theorem den_lev {V low high y : Int} (hV : 1 ≤ V ∧ V ≤ 12) (hl : -3 ≤ low ∧ low ≤ high ∧ high ≤ 20) : -240 ≤ V * lev V low high y ∧ V * lev V low high y ≤ 240 := by
  have h := lev_in2 (den := V) hl.2.1 y
  have := mul_in (a := V) (b := lev V low high y) (A := 12) (B := 20) (by omega) (by omega) (by omega)
  omega
/-- First feedback never becomes too great here. -/
theorem fok_first {V low high : Int} (hV : 1 ≤ V ∧ V ≤ 12) (hl : -3 ≤ low ∧ low ≤ high ∧ high ≤ 20) : ∀ (l : List Int) (one two : Int) (M : Int), (∀ x ∈ l, -20 ≤ x ∧ x ≤ 39) → -M ≤ one ∧ one ≤ M → M + 300 * l.length ≤ 1000000000 → fok (fs V low high 1 0 l one two) = true
  | [], _, _, _, _, _, _ => rfl
  | x :: xs, one, two, M, hx, h, hM => by
    have h1 := hx x List.mem_cons_self
    have h2 := den_lev (y := x + 1 * one + 0 * two) hV hl
    rw [List.length_cons] at hM
    have ih := fok_first hV hl xs (x + 1 * one + 0 * two - V * lev V low high (x + 1 * one + 0 * two)) one (M + 300) (fun y hy => hx y (List.mem_cons_of_mem _ hy)) (by omega) (by omega)
    simp only [fs]
    unfold fok at ih ⊢
    rw [List.all_cons, ih, Bool.and_true]
    simp only [decide_eq_true_eq]
    omega
theorem fok_rd {V low high : Int} {nums : List Int} {c d : Int} (h : fok (fs V low high c d nums 0 0) = true) : ∀ i : Nat, -1000000000 ≤ rd ((fs V low high c d nums 0 0).map Prod.snd) i ∧ rd ((fs V low high c d nums 0 0).map Prod.snd) i ≤ 1000000000 := fun i => by
  rcases Nat.lt_or_ge i ((fs V low high c d nums 0 0).map Prod.snd).length with c' | c'
  · rw [rd_nat c', List.getElem_map]
    have := List.all_eq_true.1 h _ (List.getElem_mem (by simpa using c'))
    simpa using this
  · have e : rd ((fs V low high c d nums 0 0).map Prod.snd) (i : Int) = 0 := by
      unfold rd
      rw [Int.toNat_natCast, List.getD_eq_getElem?_getD, List.getElem?_eq_none (by omega)]
      rfl
    rw [e]; omega
theorem fok_rd1 {V low high : Int} {nums : List Int} {c d : Int} (h : fok (fs V low high c d nums 0 0) = true) (i : Nat) : -1000000000 ≤ rd (0 :: (fs V low high c d nums 0 0).map Prod.snd) i ∧ rd (0 :: (fs V low high c d nums 0 0).map Prod.snd) i ≤ 1000000000 := by
  cases i with
  | zero => rw [show ((0 : Nat) : Int) = 0 from rfl, rd_cons0]; omega
  | succ i => rw [rd_consS]; exact fok_rd h i
theorem fok_rd2 {V low high : Int} {nums : List Int} {c d : Int} (h : fok (fs V low high c d nums 0 0) = true) (i : Nat) : -1000000000 ≤ rd (0 :: 0 :: (fs V low high c d nums 0 0).map Prod.snd) i ∧ rd (0 :: 0 :: (fs V low high c d nums 0 0).map Prod.snd) i ≤ 1000000000 := by
  cases i with
  | zero => rw [show ((0 : Nat) : Int) = 0 from rfl, rd_cons0]; omega
  | succ i => rw [rd_consS]; exact fok_rd1 h i
section
variable {V low high : Int} {nums : List Int} (hV : 1 ≤ V ∧ V ≤ 12) (hl : -3 ≤ low ∧ low ≤ high ∧ high ≤ 20) (hn : nums.length ≤ 40) (hx : ∀ x ∈ nums, -20 ≤ x ∧ x ≤ 39)
include hV hl hn hx
set_option maxRecDepth 100000 in
/-- The law's second loop. -/
theorem loop_two (h : fok (fs V low high 2 (-1) nums 0 0) = true) {k : Nat} (hk : 100 < k) : laws_FnFeedback.l1 k low high ((fs V low high 2 (-1) nums 0 0).map Prod.fst) ((fs V low high 2 (-1) nums 0 0).map Prod.snd) 0 0 0 V nums = some true := by
  have hlf : ((fs V low high 2 (-1) nums 0 0).map Prod.fst).length = nums.length := by rw [List.length_map, fs_len]
  have hls : ((fs V low high 2 (-1) nums 0 0).map Prod.snd).length = nums.length := by rw [List.length_map, fs_len]
  refine loopI0 (m := nums.length) (F := fun k i (s : Int × Int) => laws_FnFeedback.l1 k low high ((fs V low high 2 (-1) nums 0 0).map Prod.fst) ((fs V low high 2 (-1) nums 0 0).map Prod.snd) s.1 s.2 i V nums)
    (fun j s => s.1 = rd (0 :: (fs V low high 2 (-1) nums 0 0).map Prod.snd) j ∧ s.2 = rd (0 :: 0 :: (fs V low high 2 (-1) nums 0 0).map Prod.snd) j) (fun r => r = some true) ?_ ?_ (k := k) (s := (0, 0)) (by omega) ⟨rfl, rfl⟩
  · rintro k ⟨a, b⟩ _
    simp only [laws_FnFeedback.l1]
    rw [if_neg (by omega)]
  · rintro k j ⟨a, b⟩ hj ⟨rfl, rfl⟩
    obtain ⟨g1, g2⟩ := fs_get V low high 2 (-1) nums 0 0 j hj
    have b1 := fok_rd1 h j
    have b2 := fok_rd2 h j
    have hxj := hx _ (rd_mem hj)
    have hle := lev_in2 (den := V) (lo := low) (hi := high) hl.2.1 (rd nums j + 2 * rd (0 :: (fs V low high 2 (-1) nums 0 0).map Prod.snd) j + -1 * rd (0 :: 0 :: (fs V low high 2 (-1) nums 0 0).map Prod.snd) j)
    have hdl := den_lev (y := rd nums j + 2 * rd (0 :: (fs V low high 2 (-1) nums 0 0).map Prod.snd) j + -1 * rd (0 :: 0 :: (fs V low high 2 (-1) nums 0 0).map Prod.snd) j) hV hl
    rw [← g1] at hle hdl
    have e1 : rd (0 :: (fs V low high 2 (-1) nums 0 0).map Prod.snd) ((j + 1 : Nat) : Int) = rd ((fs V low high 2 (-1) nums 0 0).map Prod.snd) j := rd_consS _ _ _
    have e2 : rd (0 :: 0 :: (fs V low high 2 (-1) nums 0 0).map Prod.snd) ((j + 1 : Nat) : Int) = rd (0 :: (fs V low high 2 (-1) nums 0 0).map Prod.snd) j := rd_consS _ _ _
    simp only [laws_FnFeedback.l1]
    clear g1
    generalize (fs V low high 2 (-1) nums 0 0).map Prod.snd = F at *
    generalize (fs V low high 2 (-1) nums 0 0).map Prod.fst = G at *
    rw [if_pos (by omega), if_pos (by omega), if_pos (by omega), if_pos (by omega), w64 (x := 2 * rd (0 :: F) j) (by omega) (by omega), w64 (x := rd nums j + 2 * rd (0 :: F) j) (by omega) (by omega), w64 (x := rd nums j + 2 * rd (0 :: F) j - rd (0 :: 0 :: F) j) (by omega) (by omega), w64 (x := V * rd G j) (by omega) (by omega), w64 (x := rd nums j + 2 * rd (0 :: F) j - rd (0 :: 0 :: F) j - V * rd G j) (by omega) (by omega), if_pos (by omega), if_neg (by omega), if_neg (by omega), wrap_nat (by omega)]
    exact .inl ⟨(_, _), ⟨e1.symm, e2.symm⟩, rfl⟩
set_option maxRecDepth 100000 in
/-- The law's first loop. -/
theorem loop_one (h : fok (fs V low high 1 0 nums 0 0) = true) {R : Option Bool} {c : Nat} {S2 R2 : List Int} {two : Bool} (hend : ∀ k x17 x18, c ≤ k → laws_FnFeedback.l0 (k + 1) low high ((fs V low high 1 0 nums 0 0).map Prod.fst) ((fs V low high 1 0 nums 0 0).map Prod.snd) S2 R2 two x17 x18 (nums.length : Int) V nums = R) {k : Nat} (hk : nums.length + c < k) :
    laws_FnFeedback.l0 k low high ((fs V low high 1 0 nums 0 0).map Prod.fst) ((fs V low high 1 0 nums 0 0).map Prod.snd) S2 R2 two 0 true 0 V nums = R := by
  have hlf : ((fs V low high 1 0 nums 0 0).map Prod.fst).length = nums.length := by rw [List.length_map, fs_len]
  have hls : ((fs V low high 1 0 nums 0 0).map Prod.snd).length = nums.length := by rw [List.length_map, fs_len]
  refine loopIc0 (m := nums.length) c (F := fun k i (s : Int × Bool) => laws_FnFeedback.l0 k low high ((fs V low high 1 0 nums 0 0).map Prod.fst) ((fs V low high 1 0 nums 0 0).map Prod.snd) S2 R2 two s.1 s.2 i V nums)
    (fun j s => s.1 = rd (0 :: (fs V low high 1 0 nums 0 0).map Prod.snd) j ∧ (s.2 = true → 2 * s.1 ≤ V ∧ -V ≤ 2 * s.1)) (fun r => r = R) ?_ ?_ (k := k) (s := (0, true)) (by omega) ⟨rfl, fun _ => by omega⟩
  · rintro k ⟨a, b⟩ hkk _
    exact hend k a b hkk
  · rintro k j ⟨a, b⟩ hkk hj ⟨rfl, hb⟩
    simp only at hb
    obtain ⟨g1, g2⟩ := fs_get V low high 1 0 nums 0 0 j hj
    rw [Int.zero_mul, Int.add_zero, Int.one_mul] at g1 g2
    have b1 := fok_rd1 h j
    have b3 := fok_rd h j
    have hxj := hx _ (rd_mem hj)
    have hle := lev_in2 (den := V) (lo := low) (hi := high) hl.2.1 (rd nums j + rd (0 :: (fs V low high 1 0 nums 0 0).map Prod.snd) j)
    have hdl := den_lev (y := rd nums j + rd (0 :: (fs V low high 1 0 nums 0 0).map Prod.snd) j) hV hl
    have hvl := mul_in (a := V) (b := low) (A := 12) (B := 20) (by omega) (by omega) (by omega)
    have hvh := mul_in (a := V) (b := high) (A := 12) (B := 20) (by omega) (by omega) (by omega)
    have hhalf := fun p q r => lev_half (den := V) (lo := low) (hi := high) (n := rd nums j) (s := rd (0 :: (fs V low high 1 0 nums 0 0).map Prod.snd) j) hV.1 hl.2.1 p q r
    rw [← g1] at hle hdl hhalf
    have e1 : rd (0 :: (fs V low high 1 0 nums 0 0).map Prod.snd) ((j + 1 : Nat) : Int) = rd ((fs V low high 1 0 nums 0 0).map Prod.snd) j := rd_consS _ _ _
    simp only [laws_FnFeedback.l0]
    clear g1 hend
    generalize (fs V low high 1 0 nums 0 0).map Prod.snd = F at *
    generalize (fs V low high 1 0 nums 0 0).map Prod.fst = G at *
    rw [← g2] at hhalf
    have hsum : wrap64 (rd (0 :: F) j + wrap64 (rd nums j - wrap64 (V * rd G j))) = rd F j := by
      rw [w64 (x := V * rd G j) (by omega) (by omega), w64 (x := rd nums j - V * rd G j) (by omega) (by omega), w64 (by omega) (by omega)]; omega
    rw [if_pos (by omega), if_pos (by omega), if_pos (by omega), hsum, w64 (x := V * low) (by omega) (by omega), w64 (x := V * high) (by omega) (by omega), wrap_nat (by omega)]
    have c1 : ¬ rd G j < low := by omega
    have c2 : ¬ rd G j > high := by omega
    have c3 : (j : Int) < (G.length : Int) := by omega
    have c4 : (j : Int) < (F.length : Int) := by omega
    rw [if_neg c1, if_neg c1, if_neg c2, if_neg c2, if_pos c4, if_pos c4, if_pos rfl, if_pos rfl]
    by_cases d1 : b = true
    · rw [if_pos d1]
      by_cases d2 : rd nums j ≥ V * low
      · rw [if_pos d2]
        by_cases d3 : rd nums j ≤ V * high
        · have hh := hhalf d2 d3 (hb d1)
          rw [if_pos d3, b10Abs_eq (by omega), Option.bind_some, w64 (x := 2 * ((rd F j).natAbs : Int)) (by omega) (by omega), if_neg (by omega), decide_eq_true d3]
          exact .inl ⟨(_, _), ⟨e1.symm, fun _ => hh⟩, rfl⟩
        · rw [if_neg d3, decide_eq_false d3]
          exact .inl ⟨(_, _), ⟨e1.symm, fun z => by cases z⟩, rfl⟩
      · rw [if_neg d2]
        exact .inl ⟨(_, _), ⟨e1.symm, fun z => by cases z⟩, rfl⟩
    · rw [if_neg d1]
      exact .inl ⟨(_, _), ⟨e1.symm, fun z => by cases z⟩, rfl⟩
end
set_option maxRecDepth 100000 in
theorem FnFeedback : laws_FnFeedback.Pure := by
  intro l0 l1 h0 h1 h2 h3 h4 h5
  have g2 : by8 l0 := fun x hx => wfu8 (h2 x hx)
  have g5 : by8 l1 := fun x hx => wfu8 (h5 x hx)
  refine ⟨2000 + 1, ?_⟩
  unfold laws_FnFeedback.f
  obtain ⟨b, hb⟩ := b10Long_ok l0 l1
  rw [hb, Option.bind_some]
  by_cases cb : b = true
  · rw [if_pos cb]
  rw [if_neg cb]
  obtain ⟨V, nums, e1, hV, hn, hx⟩ := b10Values_ok g2 (k := 2000 + 1) (by omega)
  obtain ⟨p, e2, hp0, hp1⟩ := b10At_ok (n := 5) g5 (i := 0) (by omega)
  obtain ⟨q, e3, hq0, hq1⟩ := b10At_ok (n := 8) g5 (i := 1) (by omega)
  have hvv : vv V nums = true := vv_iff.2 ⟨by omega, hn, fun x hx' => by have := hx x hx'; omega⟩
  have hi1 : i64 V := ⟨by omega, by omega⟩
  have hi2 : ∀ x ∈ nums, i64 x := fun x hx' => by have := hx x hx'; exact ⟨by omega, by omega⟩
  have hlo : -3 ≤ p - 3 ∧ p - 3 ≤ p - 3 + q ∧ p - 3 + q ≤ 20 := by omega
  have hi3 : i64 (p - 3) := ⟨by omega, by omega⟩
  have hi4 : i64 (p - 3 + q) := ⟨by omega, by omega⟩
  rw [e1, Option.bind_some, e2, Option.bind_some, e3, Option.bind_some, w64 (x := p - 3) (by omega) (by omega), w64 (x := p - 3 + q) (by omega) (by omega)]
  simp only
  rw [FeedbackOf_impl hi1 hi2 hi3 hi4 (by omega) (by omega), Option.bind_some, SecondOf_impl hi1 hi2 hi3 hi4 (by omega) (by omega), Option.bind_some, SecondOf_spec hi1 hi2 hi3 hi4 (by omega) (by omega), Option.bind_some]
  have f1 := fok_first hV hlo nums 0 0 0 hx (by omega) (by omega)
  have eF : FeedbackOf_res V nums (p - 3) (p - 3 + q) = ((fs V (p - 3) (p - 3 + q) 1 0 nums 0 0).map Prod.fst, (fs V (p - 3) (p - 3 + q) 1 0 nums 0 0).map Prod.snd, true) := by
    unfold FeedbackOf_res Feed_res
    rw [if_pos ⟨hvv, by omega⟩, fd_fs, if_pos f1]
    rfl
  have eS : SecondOf_res V nums (p - 3) (p - 3 + q) = if fok (fs V (p - 3) (p - 3 + q) 2 (-1) nums 0 0) = true then ((fs V (p - 3) (p - 3 + q) 2 (-1) nums 0 0).map Prod.fst, (fs V (p - 3) (p - 3 + q) 2 (-1) nums 0 0).map Prod.snd, true) else ([], [], false) := by
    unfold SecondOf_res Feed_res
    rw [if_pos ⟨hvv, by omega⟩, fd_fs]
    rfl
  have hlf : ((fs V (p - 3) (p - 3 + q) 1 0 nums 0 0).map Prod.fst).length = nums.length := by rw [List.length_map, fs_len]
  have hls : ((fs V (p - 3) (p - 3 + q) 1 0 nums 0 0).map Prod.snd).length = nums.length := by rw [List.length_map, fs_len]
  rw [eF]
  simp only
  rw [if_pos trivial, if_neg (by simp), hlf, if_pos rfl, hls, bne_self_eq_false]
  simp only [laws_FnFeedback.j0]
  rw [if_neg (by decide)]
  refine loop_one hV hlo hn hx f1 (c := 1000) (fun k x17 x18 hk => ?_) (by omega)
  obtain ⟨k, rfl, hk'⟩ := succ_of_lt (show 900 < k by omega)
  simp only [laws_FnFeedback.l0]
  rw [hlf, if_neg (by omega), eS]
  by_cases f2 : fok (fs V (p - 3) (p - 3 + q) 2 (-1) nums 0 0) = true
  · have hlf2 : ((fs V (p - 3) (p - 3 + q) 2 (-1) nums 0 0).map Prod.fst).length = nums.length := by rw [List.length_map, fs_len]
    have hls2 : ((fs V (p - 3) (p - 3 + q) 2 (-1) nums 0 0).map Prod.snd).length = nums.length := by rw [List.length_map, fs_len]
    rw [if_pos f2]
    simp only
    rw [if_pos trivial, hlf2, if_pos rfl, hls2, bne_self_eq_false]
    simp only [laws_FnFeedback.j2]
    rw [if_neg (by decide)]
    exact loop_two hV hlo hn hx f2 (by omega)
  · rw [if_neg f2]
    simp only
    rw [if_neg (by decide)]

end Go.Proofs.Ytecgobloagpicaa.Pure
