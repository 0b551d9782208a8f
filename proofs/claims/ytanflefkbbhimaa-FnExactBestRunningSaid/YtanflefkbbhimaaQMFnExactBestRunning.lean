/- What the printed marks of the laws compute, and what lists that grow by one in each round come to, told plainly. -/
import Derived.Test.YtanflefkbbhimaaQ2FnExactBestRunning
import Derived.Test.YtanflefkbbhimaaP9
import Derived.Test.YtanflefkbbhimaaP10
namespace Go.Proofs.Ytanflefkbbhimaa.Q
open Go.RowKit Go.Proofs.YtanflefkbbhimaaW.PrintWords Go.Proofs.YtanflefkbbhimaaW.PrintLast Go.Proofs.Ytanflefkbbhimaa.P Go.Proofs.Ytanflefkbbhimaa.B
set_option linter.unusedVariables false
set_option linter.unusedSimpArgs false

/-- So many numbers that rise by one. -/
def iota : Int → Nat → List Int
  | _, 0 => []
  | a, n + 1 => a :: iota (a + 1) n
theorem iota_length : ∀ (n : Nat) (a : Int), (iota a n).length = n
  | 0, _ => rfl
  | n + 1, a => by simp [iota, iota_length n]
theorem iota_get : ∀ (n : Nat) (a : Int) (i : Nat) (h : i < (iota a n).length), (iota a n)[i] = a + i
  | 0, _, _, h => by simp [iota] at h
  | n + 1, a, 0, _ => by simp [iota]
  | n + 1, a, i + 1, h => by
    simp only [iota, List.getElem_cons_succ]
    rw [iota_get n (a + 1) i (by simpa [iota] using h)]
    omega
theorem iota_snoc : ∀ (n : Nat) (a : Int), iota a (n + 1) = iota a n ++ [a + n]
  | 0, a => by simp [iota]
  | n + 1, a => by
    have h := iota_snoc n (a + 1)
    rw [show iota a (n + 1 + 1) = a :: iota (a + 1) (n + 1) from rfl, h]
    simp only [iota, List.cons_append]
    congr 3
    omega
theorem mark_aux {l : List Int} (hl : l.length ≤ 1099511627776) {a : Int} (ha : 0 ≤ a) (ha2 : a ≤ 1099511627776) : ∀ d n k, l.length - n = d → n ≤ l.length → d < k →
    laws_markInt64S.l0 k (iota a n ++ l.drop n) (a + n) (n : Int) = some (a + l.length, iota a l.length) := by
  intro d
  induction d with
  | zero =>
    intro n k hd hn hk
    obtain ⟨k, rfl, _⟩ := succ_of_lt hk
    obtain rfl : n = l.length := by omega
    simp only [laws_markInt64S.l0]
    rw [if_neg (by simp [iota_length])]
    simp
  | succ d ih =>
    intro n k hd hn hk
    obtain ⟨k, rfl, hk'⟩ := succ_of_lt hk
    have h : n < l.length := by omega
    simp only [laws_markInt64S.l0]
    rw [if_pos (by simp [iota_length]; omega), if_pos (by omega), wrap_nat (by omega), w64 (by omega) (by omega), Int.toNat_natCast]
    have e : (iota a n ++ l.drop n).set n (a + n) = iota a (n + 1) ++ l.drop (n + 1) := by
      rw [List.set_append_right _ _ (by rw [iota_length]; omega), iota_length, Nat.sub_self, List.drop_eq_getElem_cons h, List.set_cons_zero, iota_snoc, List.append_assoc]
      rfl
    rw [e, show a + (n : Int) + 1 = a + ((n + 1 : Nat) : Int) by omega]
    exact ih (n + 1) k (by omega) (by omega) (by omega)
theorem mark_eq {l : List Int} (hl : l.length ≤ 1099511627776) {a : Int} (ha : 0 ≤ a) (ha2 : a ≤ 1099511627776) {k : Nat} (hk : l.length < k) : laws_markInt64S.f k l a = some (a + l.length, iota a l.length) := by
  have h := mark_aux hl ha ha2 l.length 0 k (by omega) (by omega) hk
  unfold laws_markInt64S.f
  simpa [iota] using h
theorem markValues_eq {l : List Int} (hl : l.length ≤ 1099511627776) (den : Int) {a : Int} (ha : 0 ≤ a) (ha2 : a ≤ 1099511627776) {k : Nat} (hk : l.length < k) : laws_markValues.f k den l a = some (a + l.length, iota a l.length) := by
  unfold laws_markValues.f
  rw [mark_eq hl ha ha2 hk]; rfl
theorem held_eq {m : Nat} (hm : m ≤ 1099511627776) {a : Int} (ha : 0 ≤ a) (ha2 : a ≤ 1099511627776) {k : Nat} (hk : m < k) : laws_heldInt64S.f k (iota a m) a = some (a + m) := by
  have h : ∀ d n k, m - n = d → n ≤ m → d < k → laws_heldInt64S.l0 k (iota a m) (a + n) (n : Int) = some (a + m) := by
    intro d
    induction d with
    | zero =>
      intro n k hd hn hk
      obtain ⟨k, rfl, _⟩ := succ_of_lt hk
      obtain rfl : n = m := by omega
      simp only [laws_heldInt64S.l0]
      rw [if_neg (by simp [iota_length])]
    | succ d ih =>
      intro n k hd hn hk
      obtain ⟨k, rfl, hk'⟩ := succ_of_lt hk
      have h : n < (iota a m).length := by rw [iota_length]; omega
      simp only [laws_heldInt64S.l0]
      rw [if_pos (by omega), if_pos (by omega), rd_nat h, iota_get, if_pos rfl, wrap_nat (by omega), w64 (by omega) (by omega), show a + (n : Int) + 1 = a + ((n + 1 : Nat) : Int) by omega]
      exact ih (n + 1) k (by omega) (by omega) (by omega)
  have := h m 0 k (by omega) (by omega) hk
  unfold laws_heldInt64S.f
  simpa using this
/-- A round that puts one number behind a list. -/
def ap {α ρ : Type} (f : α → Int) (x : α) (acc : List Int) : List Int ⊕ Option ρ := if acc.length < 17592186044416 then .inl (acc ++ [f x]) else .inr none
theorem ap_run {α ρ : Type} (f : α → Int) (D : List Int → Option ρ) : ∀ (l : List α) (acc : List Int), acc.length + l.length ≤ 17592186044416 → runL (ap f) D l acc = D (acc ++ l.map f)
  | [], acc, _ => by simp [runL]
  | x :: xs, acc, h => by
    rw [List.length_cons] at h
    simp only [runL, ap]
    rw [if_pos (by omega)]
    simp only
    rw [ap_run f D xs _ (by simp; omega)]
    simp
theorem zip_length {α β : Type} {l : List α} {m : List β} (h : l.length = m.length) : (l.zip m).length = l.length := by simp [List.length_zip, h]
theorem map_small {α : Type} (f : α → Int) (l : List α) : (l.map f).length = l.length := List.length_map ..
theorem lt_one_add (n : Nat) : ((1 : Int) + (n : Int) < 0) = False := eq_false (by omega)
theorem lt_add2 (n m : Nat) : ((1 : Int) + (n : Int) + (m : Int) < 0) = False := eq_false (by omega)
end Go.Proofs.Ytanflefkbbhimaa.Q
