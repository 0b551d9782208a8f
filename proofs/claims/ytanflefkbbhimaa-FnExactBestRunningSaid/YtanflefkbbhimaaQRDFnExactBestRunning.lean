/- The best running list of the specification is that of the program. -/
import Derived.Test.YtanflefkbbhimaaQRCFnExactBestRunning
import Derived.Test.YtanflefkbbhimaaLD
namespace Go.Proofs.Ytanflefkbbhimaa.Q
open Go.RowKit Go.Proofs.YtanflefkbbhimaaW.PrintWords Go.Proofs.YtanflefkbbhimaaW.PrintLast Go.Proofs.Ytanflefkbbhimaa.P Go.Proofs.Ytanflefkbbhimaa.B
set_option linter.unusedVariables false
set_option linter.unusedSimpArgs false

theorem lstS_eq (den : Int) : ∀ (l : List Int) (e : Int), lstS den l e = lst den l e
  | [], _ => rfl
  | x :: xs, e => by
    have hv : ∀ n, max ((e + den * n - x).natAbs : Int) (lst den xs (e + den * n - x)) = lstV den xs x e n := fun n => by
      unfold lstV
      rw [lstS_eq den xs]
      omega
    have nn : ∀ n, 0 ≤ lstV den xs x e n := fun n => by
      have := hv n
      have := lst_nn den xs (e + den * n - x)
      omega
    rw [lstS_cons, lst]
    simp only [hv]
    unfold chs
    split
    · have h1 := nn (x / den)
      show stepB (-1) (lstV den xs x e (x / den)) = lstV den xs x e (x / den)
      unfold stepB
      rw [if_pos (.inl (by omega))]
    · have h1 := nn (x / den)
      have h2 := nn (cl x den)
      show stepB (stepB (-1) (lstV den xs x e (x / den))) (lstV den xs x e (cl x den)) = min (lstV den xs x e (x / den)) (lstV den xs x e (cl x den))
      unfold stepB
      rw [if_pos (show (-1 : Int) < 0 ∨ _ from .inl (by omega))]
      split <;> omega
theorem pickS_eq {den b : Int} (hb : 0 ≤ b) (xs : List Int) (x e : Int) : ∀ L, pickS den b xs x e L = pickC den b xs x e L
  | [] => rfl
  | n :: L => by
    have ih := pickS_eq (den := den) hb xs x e L
    have hc := cntW_pos den hb xs (e + den * n - x)
    simp only [pickS, pickC, ih, lstS_eq]
    by_cases c : (-b ≤ e + den * n - x ∧ e + den * n - x ≤ b) ∧ 0 < cntW den b xs (e + den * n - x)
    · rw [if_pos c, if_pos ⟨by omega, hc.1 c.2⟩]
    · rw [if_neg c, if_neg (fun z => c ⟨⟨by omega, by omega⟩, hc.2 z.2⟩)]
theorem grdS_eq {den b : Int} (hb : 0 ≤ b) : ∀ (l : List Int) (e : Int), grdS den b l e = grd den b l e
  | [], _ => rfl
  | x :: xs, e => by
    simp only [grdS, grd, pickS_eq hb]
    cases pickC den b xs x e (chs den x) with
    | none => exact grdS_eq hb xs e
    | some n => exact congrArg _ (grdS_eq hb xs _)
theorem BestRunning_spec {den : Int} {l : List Int} (hl : l.length ≤ 1048576) {k : Nat} (hk : 1048576 < k) : spec_BestRunning.f k den l = some (BestRunning_res den l) := by
  unfold spec_BestRunning.f BestRunning_res
  rw [l01Is_eq (by omega) den (by omega), Option.bind_some]
  by_cases c : vv den l = true
  · rw [if_pos c, if_pos c, if_pos (show okW den l from vv_iff.1 c), lstS_eq, grdS_eq (lst_nn den l 0)]
  · rw [if_neg c, if_neg c]
theorem grd_len (den b : Int) : ∀ (l : List Int) (e : Int), (grd den b l e).length ≤ l.length
  | [], _ => Nat.le_refl _
  | x :: xs, e => by
    simp only [grd, List.length_cons]
    cases pickC den b xs x e (chs den x) with
    | none => exact Nat.le_succ_of_le (grd_len den b xs e)
    | some n => exact Nat.succ_le_succ (grd_len den b xs _)
theorem BestRunning_len (den : Int) (l : List Int) : (BestRunning_res den l).1.length ≤ 1048576 := by
  unfold BestRunning_res
  split
  · rename_i c
    have h := vv_iff.1 c
    have := grd_len den (lst den l 0) l 0
    show (grd den (lst den l 0) l 0).length ≤ 1048576
    omega
  · simp
end Go.Proofs.Ytanflefkbbhimaa.Q
