/- The law FnExactGreatestOf answers true at all arguments: the program's GreatestOf is the reference's. No condition. -/
import Derived.Test.YtgkgkaphdfhcnaaQG
import Derived.Test.YtgkgkaphdfhcnaaP5
import Derived.Test.YtgkgkaphdfhcnaaP16
namespace Go.Proofs.Ytgkgkaphdfhcnaa.Pure
open Go.RowKit Go.Proofs.YtgkgkaphdfhcnaaW.PrintWords Go.Proofs.YtgkgkaphdfhcnaaW.PrintLast Go.Proofs.Ytgkgkaphdfhcnaa.P Go.Proofs.Ytgkgkaphdfhcnaa.B Go.Proofs.Ytgkgkaphdfhcnaa.Q

theorem specGreatest {l : List Int} (h : ll l = true) {k : Nat} (hk : l.length < k) : spec_GreatestOf.l0 k l 0 0 = some (gr 0 l, true) := by
  have hl := (ll_iff.1 h).1
  have h1 := loopL0 (l := l) (F := fun k i s => spec_GreatestOf.l0 k l s i) (S := fun x s => .inl (max s (x.natAbs : Int))) (D := fun s => some (s, true)) (by omega)
    (fun k s => by simp only [spec_GreatestOf.l0]; rw [if_neg (by omega)])
    (fun k n hn s => by
      have hx := (ll_iff.1 h).2 _ (List.getElem_mem hn)
      simp only [spec_GreatestOf.l0]
      rw [if_pos (by omega), if_pos (by omega), rd_nat hn, wrap_nat (by omega), w64 (by omega) (by omega), l00Max_eq]
      simp only [Option.bind_some, l00Max_eq]
      rw [show max s (max l[n] (-l[n])) = max s (l[n].natAbs : Int) by omega]) k hk 0
  rw [h1]
  have : ∀ (l : List Int) (s : Int), runL (fun x s => .inl (max s (x.natAbs : Int))) (fun s => some (s, true)) l s = some (gr s l, true) := by
    intro l
    induction l with
    | nil => intro s; rfl
    | cons x xs ih => intro s; simp only [runL, gr]; exact ih _
  exact this l 0

theorem FnExactGreatestOf : laws_FnExactGreatestOf.Pure := by
  intro l _ _ _
  refine ⟨l.length + 2, ?_⟩
  unfold laws_FnExactGreatestOf.f
  by_cases c : (l.length : Int) > 1048576
  · rw [if_pos c]
  rw [if_neg c]
  have hl : l.length ≤ 1048576 := by omega
  rw [toInt64S_eq hl (by omega)]
  simp only [Option.bind_some]
  have hj : laws_FnExactGreatestOf.j0 (l.length + 2) l l false = some true := by
    simp only [laws_FnExactGreatestOf.j0]
    rw [toInt64S_eq hl (by omega)]
    simp only [Option.bind_some]
    rw [eqInt64S_self (by omega) (by omega)]
    simp
  unfold spec_GreatestOf.f impl_GreatestOf.f
  rw [l01List_eq (by omega) (by omega), isList_eq (by omega) (by omega)]
  simp only [Option.bind_some]
  cases h : ll l with
  | false => simpa using hj
  | true =>
    simp only [if_true]
    rw [specGreatest h (by omega), greatest_eq (by omega) (fun x hx => by have := (ll_iff.1 h).2 x hx; omega) (by omega)]
    simpa using hj

end Go.Proofs.Ytgkgkaphdfhcnaa.Pure
