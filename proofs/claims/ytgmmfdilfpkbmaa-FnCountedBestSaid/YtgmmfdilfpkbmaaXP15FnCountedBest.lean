import Derived.Test.YtgmmfdilfpkbmaaXP0FnCountedBest
import Derived.Test.YtgmmfdilfpkbmaaXP12FnCountedBest
namespace Go.Proofs.Ytgmmfdilfpkbmaa.P
open Go.RowKit Go.Proofs.YtgmmfdilfpkbmaaW.PrintWords Go.Proofs.YtgmmfdilfpkbmaaW.PrintLast Go.Proofs.YtgmmfdilfpkbmaaW.PrintMore
attribute [local go_sem] max2_int min2_int max_two min_two max_three min_three max_four min_four
set_option linter.unusedVariables false
set_option linter.unusedSimpArgs false
def slices_symMergeCmpFunc_int_planFor_1.f : Nat → List Int → Int → Int → Int → Int → List Int → Option (List Int)
 | _, _, _, _, _, _, _ => none
theorem slices_symMergeCmpFunc_int_planFor_1.calls (k : Nat) : ∀ (P0_ : Nat → Prop) (u9000_ : Value) (l0 : List Int) (a1 : Int) (a2 : Int) (a3 : Int) (gp50 : Nat) (a4_0 : Int) (A4_1 : Option Addr) (c4_1 : Nat) (l4_1 : List Int) (r : List Int) (w0 w : World) (hB : Below w0.heap.size w0 w) (ho0 : Kd.R (Kd.int .i64) 3 w w0.heap.size P0_ u9000_ l0) (hb50 : w.heap[gp50]? = some (.cells #[.int .i64 a4_0, .slice A4_1 l4_1.length c4_1] 28 (0, 0))) (hr4_1 : ∀ W_, Kept w W_ (fun k_ => P0_ k_) → Kd.C (Kd.int .i64) W_ A4_1 l4_1.length l4_1) (hc4_1 : l4_1.length ≤ c4_1) (h : slices_symMergeCmpFunc_int_planFor_1.f k l0 a1 a2 a3 a4_0 l4_1 = some r),
  Calls Try.prog 136 #[u9000_, .int .i64 a1, .int .i64 a2, .int .i64 a3, .func (.func 111) #[] #[.pointer (some ⟨gp50, 0, none⟩)]] w fun e w' => e = .returned (.tuple #[]) ∧ Kd.R (Kd.int .i64) 3 w' w0.heap.size (fun k_ => (P0_ k_ ∨ w.heap.size ≤ k_)) u9000_ r ∧ Below w0.heap.size w0 w' ∧ Kept w w' (fun k_ => P0_ k_) := by
 intros
 rename_i h
 exact absurd h (by simp [slices_symMergeCmpFunc_int_planFor_1.f])
end Go.Proofs.Ytgmmfdilfpkbmaa.P
