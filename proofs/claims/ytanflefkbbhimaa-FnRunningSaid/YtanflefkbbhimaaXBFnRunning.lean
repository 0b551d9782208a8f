import Derived.Test.YtanflefkbbhimaaXW1FnRunning
namespace Go.Proofs.Ytanflefkbbhimaa.B
open Go.RowKit Go.Proofs.YtanflefkbbhimaaW.PrintWords Go.Proofs.YtanflefkbbhimaaW.PrintLast
set_option linter.unusedVariables false
set_option linter.unusedSimpArgs false
theorem w64 {x : Int} (h : -9223372036854775808 ≤ x) (h2 : x ≤ 9223372036854775807) : wrap64 x = x := by
  unfold wrap64
  omega
theorem wfu8 {x : Int} (h : (Lit.int .u8 x).wf = true) : 0 ≤ x ∧ x ≤ 255 := by
  simpa [Lit.wf, IntKind.min, IntKind.max, IntKind.signed, IntKind.bits] using h
theorem succ_of_lt {d k : Nat} (h : d < k) : ∃ m, k = m + 1 ∧ d ≤ m := ⟨k - 1, by omega, by omega⟩
theorem rd_nat {l : List Int} {n : Nat} (h : n < l.length) : rd l (n : Int) = l[n] := by
  unfold rd
  rw [Int.toNat_natCast, List.getD_eq_getElem?_getD, List.getElem?_eq_getElem h]
  rfl
theorem wrap_nat {n : Nat} (h : n < 9223372036854775807) : wrap64 ((n : Int) + 1) = ((n + 1 : Nat) : Int) := by
  rw [w64 (by omega) (by omega)]; omega
theorem rd_mem {l : List Int} {n : Nat} (h : n < l.length) : rd l (n : Int) ∈ l := by
  rw [rd_nat h]; exact List.getElem_mem h
def runL {α σ ρ : Type} (S : α → σ → σ ⊕ Option ρ) (D : σ → Option ρ) : List α → σ → Option ρ
  | [], s => D s
  | x :: xs, s => match S x s with
    | .inl s' => runL S D xs s'
    | .inr r => r
theorem loopL {σ ρ : Type} {α : Type} {l : List α} {F : Nat → Int → σ → Option ρ} {S : α → σ → σ ⊕ Option ρ} {D : σ → Option ρ} (hl : l.length ≤ 4611686018427387904)
    (hD : ∀ k s, F (k + 1) ((l.length : Nat) : Int) s = D s)
    (hS : ∀ k (n : Nat) (h : n < l.length) s, F (k + 1) (n : Int) s = match S l[n] s with
      | .inl s' => F k ((n + 1 : Nat) : Int) s'
      | .inr r => r) :
    ∀ d n k s, l.length - n = d → n ≤ l.length → d < k → F k (n : Int) s = runL S D (l.drop n) s := by
  intro d
  induction d with
  | zero =>
    intro n k s hd hn hk
    obtain ⟨k, rfl, _⟩ := succ_of_lt hk
    obtain rfl : n = l.length := by omega
    rw [hD, List.drop_length]
    rfl
  | succ d ih =>
    intro n k s hd hn hk
    obtain ⟨k, rfl, hk'⟩ := succ_of_lt hk
    have h : n < l.length := by omega
    rw [hS k n h, List.drop_eq_getElem_cons h]
    simp only [runL]
    cases S l[n] s with
    | inl s' => exact ih (n + 1) k s' (by omega) (by omega) (by omega)
    | inr r => rfl
theorem loopL0 {σ ρ : Type} {α : Type} {l : List α} {F : Nat → Int → σ → Option ρ} {S : α → σ → σ ⊕ Option ρ} {D : σ → Option ρ} (hl : l.length ≤ 4611686018427387904)
    (hD : ∀ k s, F (k + 1) ((l.length : Nat) : Int) s = D s)
    (hS : ∀ k (n : Nat) (h : n < l.length) s, F (k + 1) (n : Int) s = match S l[n] s with
      | .inl s' => F k ((n + 1 : Nat) : Int) s'
      | .inr r => r) (k : Nat) (hk : l.length < k) (s : σ) : F k 0 s = runL S D l s := by
  have h := loopL hl hD hS l.length 0 k s (by omega) (by omega) (by omega)
  rwa [List.drop_zero] at h
theorem loopI {σ ρ : Type} {m : Nat} {F : Nat → Int → σ → Option ρ} (I : Nat → σ → Prop) (R : Option ρ → Prop)
    (hD : ∀ k s, I m s → R (F (k + 1) (m : Int) s))
    (hS : ∀ k (n : Nat) s, n < m → I n s → (∃ s', I (n + 1) s' ∧ F (k + 1) (n : Int) s = F k ((n + 1 : Nat) : Int) s') ∨ R (F (k + 1) (n : Int) s)) :
    ∀ d n k s, m - n = d → n ≤ m → d < k → I n s → R (F k (n : Int) s) := by
  intro d
  induction d with
  | zero =>
    intro n k s hd hn hk hi
    obtain ⟨k, rfl, _⟩ := succ_of_lt hk
    obtain rfl : n = m := by omega
    exact hD k s hi
  | succ d ih =>
    intro n k s hd hn hk hi
    obtain ⟨k, rfl, hk'⟩ := succ_of_lt hk
    rcases hS k n s (by omega) hi with ⟨s', h1, h2⟩ | h
    · rw [h2]; exact ih (n + 1) k s' (by omega) (by omega) (by omega) h1
    · exact h
theorem loopI0 {σ ρ : Type} {m : Nat} {F : Nat → Int → σ → Option ρ} (I : Nat → σ → Prop) (R : Option ρ → Prop)
    (hD : ∀ k s, I m s → R (F (k + 1) (m : Int) s))
    (hS : ∀ k (n : Nat) s, n < m → I n s → (∃ s', I (n + 1) s' ∧ F (k + 1) (n : Int) s = F k ((n + 1 : Nat) : Int) s') ∨ R (F (k + 1) (n : Int) s))
    {k : Nat} (hk : m < k) {s : σ} (hi : I 0 s) : R (F k 0 s) := by
  have h := loopI I R hD hS m 0 k s (by omega) (by omega) hk hi
  exact h
theorem tdiv_pos {a b : Int} (hb : 1 ≤ b) : Int.tdiv a b = a / b + if 0 ≤ a ∨ b ∣ a then 0 else 1 := by
  rw [Int.tdiv_eq_ediv, Int.sign_eq_one_of_pos (by omega)]
theorem tmod_pos {a b : Int} (hb : 1 ≤ b) : Int.tmod a b = a % b - if 0 ≤ a ∨ b ∣ a then 0 else b := by
  rw [Int.tmod_eq_emod]
  split
  · rfl
  · have : (b.natAbs : Int) = b := by omega
    rw [this]
theorem ediv_bounds {a b : Int} (hb : 1 ≤ b) {M : Int} (hM : 0 ≤ M) (h1 : -M ≤ a) (h2 : a ≤ M) : -M ≤ a / b ∧ a / b ≤ M := by
  constructor
  · rw [Int.le_ediv_iff_mul_le (by omega)]
    have := Int.mul_le_mul_of_nonneg_left hb hM
    rw [Int.neg_mul]; omega
  · have h : a / b ≤ M / b := Int.ediv_le_ediv (by omega) h2
    have : M / b ≤ M := Int.ediv_le_self _ hM
    omega
theorem ediv_mul_le {a b : Int} (hb : 1 ≤ b) : a / b * b ≤ a ∧ a < a / b * b + b := by
  have h := Int.emod_add_mul_ediv a b
  have h1 := Int.emod_nonneg a (show b ≠ 0 by omega)
  have h2 := Int.emod_lt_of_pos a (show 0 < b by omega)
  rw [Int.mul_comm] at h
  omega
def cl (a b : Int) : Int := -((-a) / b)
def nr (a b : Int) : Int := if 2 * (a - a / b * b) > b then a / b + 1 else if 2 * (a - a / b * b) = b then (if (a / b) % 2 = 0 then a / b else a / b + 1) else a / b
theorem nr_cases (a b : Int) : nr a b = a / b ∨ nr a b = a / b + 1 := by
  unfold nr
  split
  · exact .inr rfl
  · split
    · split
      · exact .inl rfl
      · exact .inr rfl
    · exact .inl rfl
theorem cl_bounds {a b : Int} (hb : 1 ≤ b) {M : Int} (hM : 0 ≤ M) (h1 : -M ≤ a) (h2 : a ≤ M) : -M ≤ cl a b ∧ cl a b ≤ M := by
  have := ediv_bounds (a := -a) hb hM (by omega) (by omega)
  unfold cl
  omega
theorem cl_mul {a b : Int} (hb : 1 ≤ b) : a ≤ cl a b * b ∧ cl a b * b < a + b := by
  have := ediv_mul_le (a := -a) hb
  unfold cl
  rw [Int.neg_mul]
  omega
theorem tmod2 (a : Int) : Int.tmod a 2 = 0 ↔ a % 2 = 0 := by
  rw [tmod_pos (by omega)]
  split <;> omega
end Go.Proofs.Ytanflefkbbhimaa.B
