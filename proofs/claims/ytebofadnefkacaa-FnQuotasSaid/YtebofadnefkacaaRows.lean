/-
  No cell of these rows narrows 'for every input' (looked for: loops, veiled, ifaces, maps, wideKeys, modest, calm, conditions, laid).
  DERIVED. THE GIVEN ROWS OF THIS SEAT. 9 by the template 'for every input the law returns true; each argument reads behind the call as it read before'; 0 by the template 'total and deterministic' (their statements: YtebofadnefkacaaTotals.lean).
  GIVEN WITH THE SEED: the statements are not yours to turn. If you find one false, say at which input.
  Laid BY PROGRAM, IN A SANDBOX (cutbox-rows.mjs): the forced cells as the released guide's own fill.sh prints them over the translation a0313b2716e71cfa… (all of the seat's roots in one cut). By AI agents, Wed Nov 11 2026. No macro, syntax, notation, axiom, sorry.
-/
import Derived.Test.YtebofadnefkacaaChecked
import GoSem.Claim
import GoSem.ClaimJoined
import GoSem.ClaimMapViews
import Derived.JoinedTies
import Derived.KernelRfl
namespace Go.Proofs.Ytebofadnefkacaa
/- THE CELL 'sum', in the pinned program and in every row, IS THE sha256 OF THE DUMP (.gsa) THAT YtebofadnefkacaaProg.lean LOADS. Nothing in Lean hashes anything: it is a label: what it is worth is what the hold of that sum in a sandbox is worth. -/
noncomputable def Try.pinned : Pinned := { name := "ytebofadnefkacaa", sum := "a0313b2716e71cfa684721466eeee2a025e652890bbe06be77fdb17473778054", checked := Try.checked }
namespace Rows
def none {H : Type} : Left H := { results := [], args := [] }

/-- 'laws.FnExactIsLaminar': WHATEVER THE INPUT: true; the input reads as it did. -/
def fnExactIsLaminarSpec : ChangeSpec := { name := "fnExactIsLaminar", fn := fun _ => fun
  | [d1, d2] => { results := [.lit (.bool true)], args := [d1, d2] }
  | _ => none }
def fnExactIsLaminarRow : OpenClaim := { program := "ytebofadnefkacaa", sum := "a0313b2716e71cfa684721466eeee2a025e652890bbe06be77fdb17473778054", func := "loop.example/g01129/laws.FnExactIsLaminar", spec := "fnExactIsLaminar", unfollowed := true, recurses := true, apart := false }
def FnExactIsLaminarSaid : Prop := fnExactIsLaminarRow.holds Try.pinned (OpenSpec.ofChange fnExactIsLaminarSpec)

/-- ITS FALSE NEIGHBOUR: 'it returns false'. Refute it at one input. -/
def fnExactIsLaminarWrong : ChangeSpec := { name := "fnExactIsLaminar", fn := fun _ => fun
  | [d1, d2] => { results := [.lit (.bool false)], args := [d1, d2] }
  | _ => none }
def FnExactIsLaminarWrongFalsely : Prop := fnExactIsLaminarRow.holds Try.pinned (OpenSpec.ofChange fnExactIsLaminarWrong)

/-- 'laws.FnExactSeatsBy': WHATEVER THE INPUT: true; the input reads as it did. -/
def fnExactSeatsBySpec : ChangeSpec := { name := "fnExactSeatsBy", fn := fun _ => fun
  | [d1, d2, d3] => { results := [.lit (.bool true)], args := [d1, d2, d3] }
  | _ => none }
def fnExactSeatsByRow : OpenClaim := { program := "ytebofadnefkacaa", sum := "a0313b2716e71cfa684721466eeee2a025e652890bbe06be77fdb17473778054", func := "loop.example/g01129/laws.FnExactSeatsBy", spec := "fnExactSeatsBy", unfollowed := true, recurses := true, apart := false }
def FnExactSeatsBySaid : Prop := fnExactSeatsByRow.holds Try.pinned (OpenSpec.ofChange fnExactSeatsBySpec)

/-- ITS FALSE NEIGHBOUR: 'it returns false'. Refute it at one input. -/
def fnExactSeatsByWrong : ChangeSpec := { name := "fnExactSeatsBy", fn := fun _ => fun
  | [d1, d2, d3] => { results := [.lit (.bool false)], args := [d1, d2, d3] }
  | _ => none }
def FnExactSeatsByWrongFalsely : Prop := fnExactSeatsByRow.holds Try.pinned (OpenSpec.ofChange fnExactSeatsByWrong)

/-- 'laws.FnExactTiedSeats': WHATEVER THE INPUT: true; the input reads as it did. -/
def fnExactTiedSeatsSpec : ChangeSpec := { name := "fnExactTiedSeats", fn := fun _ => fun
  | [d1, d2, d3] => { results := [.lit (.bool true)], args := [d1, d2, d3] }
  | _ => none }
def fnExactTiedSeatsRow : OpenClaim := { program := "ytebofadnefkacaa", sum := "a0313b2716e71cfa684721466eeee2a025e652890bbe06be77fdb17473778054", func := "loop.example/g01129/laws.FnExactTiedSeats", spec := "fnExactTiedSeats", unfollowed := true, recurses := true, apart := false }
def FnExactTiedSeatsSaid : Prop := fnExactTiedSeatsRow.holds Try.pinned (OpenSpec.ofChange fnExactTiedSeatsSpec)

/-- ITS FALSE NEIGHBOUR: 'it returns false'. Refute it at one input. -/
def fnExactTiedSeatsWrong : ChangeSpec := { name := "fnExactTiedSeats", fn := fun _ => fun
  | [d1, d2, d3] => { results := [.lit (.bool false)], args := [d1, d2, d3] }
  | _ => none }
def FnExactTiedSeatsWrongFalsely : Prop := fnExactTiedSeatsRow.holds Try.pinned (OpenSpec.ofChange fnExactTiedSeatsWrong)

/-- 'laws.FnExactFewestFor': WHATEVER THE INPUT: true; the input reads as it did. -/
def fnExactFewestForSpec : ChangeSpec := { name := "fnExactFewestFor", fn := fun _ => fun
  | [d1, d2, d3, d4] => { results := [.lit (.bool true)], args := [d1, d2, d3, d4] }
  | _ => none }
def fnExactFewestForRow : OpenClaim := { program := "ytebofadnefkacaa", sum := "a0313b2716e71cfa684721466eeee2a025e652890bbe06be77fdb17473778054", func := "loop.example/g01129/laws.FnExactFewestFor", spec := "fnExactFewestFor", unfollowed := true, recurses := true, apart := false }
def FnExactFewestForSaid : Prop := fnExactFewestForRow.holds Try.pinned (OpenSpec.ofChange fnExactFewestForSpec)

/-- ITS FALSE NEIGHBOUR: 'it returns false'. Refute it at one input. -/
def fnExactFewestForWrong : ChangeSpec := { name := "fnExactFewestFor", fn := fun _ => fun
  | [d1, d2, d3, d4] => { results := [.lit (.bool false)], args := [d1, d2, d3, d4] }
  | _ => none }
def FnExactFewestForWrongFalsely : Prop := fnExactFewestForRow.holds Try.pinned (OpenSpec.ofChange fnExactFewestForWrong)

/-- 'laws.FnLosses': WHATEVER THE INPUT: true; the input reads as it did. -/
def fnLossesSpec : ChangeSpec := { name := "fnLosses", fn := fun _ => fun
  | [d1, d2] => { results := [.lit (.bool true)], args := [d1, d2] }
  | _ => none }
def fnLossesRow : OpenClaim := { program := "ytebofadnefkacaa", sum := "a0313b2716e71cfa684721466eeee2a025e652890bbe06be77fdb17473778054", func := "loop.example/g01129/laws.FnLosses", spec := "fnLosses", unfollowed := true, recurses := true, apart := false }
def FnLossesSaid : Prop := fnLossesRow.holds Try.pinned (OpenSpec.ofChange fnLossesSpec)

/-- ITS FALSE NEIGHBOUR: 'it returns false'. Refute it at one input. -/
def fnLossesWrong : ChangeSpec := { name := "fnLosses", fn := fun _ => fun
  | [d1, d2] => { results := [.lit (.bool false)], args := [d1, d2] }
  | _ => none }
def FnLossesWrongFalsely : Prop := fnLossesRow.holds Try.pinned (OpenSpec.ofChange fnLossesWrong)

/-- 'laws.FnExactRemainderSeats': WHATEVER THE INPUT: true; the input reads as it did. -/
def fnExactRemainderSeatsSpec : ChangeSpec := { name := "fnExactRemainderSeats", fn := fun _ => fun
  | [d1, d2] => { results := [.lit (.bool true)], args := [d1, d2] }
  | _ => none }
def fnExactRemainderSeatsRow : OpenClaim := { program := "ytebofadnefkacaa", sum := "a0313b2716e71cfa684721466eeee2a025e652890bbe06be77fdb17473778054", func := "loop.example/g01129/laws.FnExactRemainderSeats", spec := "fnExactRemainderSeats", unfollowed := true, recurses := true, apart := false }
def FnExactRemainderSeatsSaid : Prop := fnExactRemainderSeatsRow.holds Try.pinned (OpenSpec.ofChange fnExactRemainderSeatsSpec)

/-- ITS FALSE NEIGHBOUR: 'it returns false'. Refute it at one input. -/
def fnExactRemainderSeatsWrong : ChangeSpec := { name := "fnExactRemainderSeats", fn := fun _ => fun
  | [d1, d2] => { results := [.lit (.bool false)], args := [d1, d2] }
  | _ => none }
def FnExactRemainderSeatsWrongFalsely : Prop := fnExactRemainderSeatsRow.holds Try.pinned (OpenSpec.ofChange fnExactRemainderSeatsWrong)

/-- 'laws.FnExactFirstLoss': WHATEVER THE INPUT: true; the input reads as it did. -/
def fnExactFirstLossSpec : ChangeSpec := { name := "fnExactFirstLoss", fn := fun _ => fun
  | [d] => { results := [.lit (.bool true)], args := [d] }
  | _ => none }
def fnExactFirstLossRow : OpenClaim := { program := "ytebofadnefkacaa", sum := "a0313b2716e71cfa684721466eeee2a025e652890bbe06be77fdb17473778054", func := "loop.example/g01129/laws.FnExactFirstLoss", spec := "fnExactFirstLoss", unfollowed := true, recurses := true, apart := false }
def FnExactFirstLossSaid : Prop := fnExactFirstLossRow.holds Try.pinned (OpenSpec.ofChange fnExactFirstLossSpec)

/-- ITS FALSE NEIGHBOUR: 'it returns false'. Refute it at one input. -/
def fnExactFirstLossWrong : ChangeSpec := { name := "fnExactFirstLoss", fn := fun _ => fun
  | [d] => { results := [.lit (.bool false)], args := [d] }
  | _ => none }
def FnExactFirstLossWrongFalsely : Prop := fnExactFirstLossRow.holds Try.pinned (OpenSpec.ofChange fnExactFirstLossWrong)

/-- 'laws.FnExactIsGroupRounding': WHATEVER THE INPUT: true; the input reads as it did. -/
def fnExactIsGroupRoundingSpec : ChangeSpec := { name := "fnExactIsGroupRounding", fn := fun _ => fun
  | [d1, d2, d3] => { results := [.lit (.bool true)], args := [d1, d2, d3] }
  | _ => none }
def fnExactIsGroupRoundingRow : OpenClaim := { program := "ytebofadnefkacaa", sum := "a0313b2716e71cfa684721466eeee2a025e652890bbe06be77fdb17473778054", func := "loop.example/g01129/laws.FnExactIsGroupRounding", spec := "fnExactIsGroupRounding", unfollowed := true, recurses := true, apart := false }
def FnExactIsGroupRoundingSaid : Prop := fnExactIsGroupRoundingRow.holds Try.pinned (OpenSpec.ofChange fnExactIsGroupRoundingSpec)

/-- ITS FALSE NEIGHBOUR: 'it returns false'. Refute it at one input. -/
def fnExactIsGroupRoundingWrong : ChangeSpec := { name := "fnExactIsGroupRounding", fn := fun _ => fun
  | [d1, d2, d3] => { results := [.lit (.bool false)], args := [d1, d2, d3] }
  | _ => none }
def FnExactIsGroupRoundingWrongFalsely : Prop := fnExactIsGroupRoundingRow.holds Try.pinned (OpenSpec.ofChange fnExactIsGroupRoundingWrong)

/-- 'laws.FnQuotas': WHATEVER THE INPUT: true; the input reads as it did. -/
def fnQuotasSpec : ChangeSpec := { name := "fnQuotas", fn := fun _ => fun
  | [d1, d2] => { results := [.lit (.bool true)], args := [d1, d2] }
  | _ => none }
def fnQuotasRow : OpenClaim := { program := "ytebofadnefkacaa", sum := "a0313b2716e71cfa684721466eeee2a025e652890bbe06be77fdb17473778054", func := "loop.example/g01129/laws.FnQuotas", spec := "fnQuotas", unfollowed := true, recurses := true, apart := false }
def FnQuotasSaid : Prop := fnQuotasRow.holds Try.pinned (OpenSpec.ofChange fnQuotasSpec)

/-- ITS FALSE NEIGHBOUR: 'it returns false'. Refute it at one input. -/
def fnQuotasWrong : ChangeSpec := { name := "fnQuotas", fn := fun _ => fun
  | [d1, d2] => { results := [.lit (.bool false)], args := [d1, d2] }
  | _ => none }
def FnQuotasWrongFalsely : Prop := fnQuotasRow.holds Try.pinned (OpenSpec.ofChange fnQuotasWrong)

/- THE SECOND FORM. 'bulk': how many values and letters a reading holds, each counted each time it is reached (what is shared counts as often as it is met; a slice's spare places count too). A statement '..UptoSaid' is the law's where the arguments, and the package variables that the reading takes, are together of bulk at most 1048576: NARROWER than '..Said'. Prove '..Said' where nothing that the law and all that it calls make is longer than what came in: it says more and counts as full. Else prove '..UptoSaid'. A law counts once. -/
mutual
def uptoBulk {H : Type} : DataW H → Nat
  | .lit (.string bytes) => bytes.length + 1
  | .lit _ => 1
  | .nil => 1
  | .ptr d => uptoBulk d + 1
  | .slice elems spare => uptoBulkAll elems + uptoBulkAll spare + 1
  | .agg parts => uptoBulkAll parts + 1
  | .iface _ d => uptoBulk d + 1
  | .map entries => uptoBulkEntries entries + 1
  | .held _ => 1
def uptoBulkAll {H : Type} : List (DataW H) → Nat
  | [] => 0
  | d :: r => uptoBulk d + uptoBulkAll r
def uptoBulkEntries {H : Type} : List (Lit × DataW H) → Nat
  | [] => 0
  | x :: r => uptoBulkEntry x + uptoBulkEntries r
def uptoBulkEntry {H : Type} : Lit × DataW H → Nat
  | (.string bytes, d) => bytes.length + uptoBulk d + 1
  | (_, d) => uptoBulk d + 1
 end
def uptoSmall : (H : Type) → List (DataW H) → Bool := fun _ ds => decide (uptoBulkAll ds ≤ 1048576)
def OpenSpec.upto (s : _root_.Go.ChangeSpec) : _root_.Go.OpenSpec := { _root_.Go.OpenSpec.ofChange s with cond := some uptoSmall }

/-- 'laws.FnExactIsLaminar', WHERE WHAT IT READS IS OF BULK AT MOST 1048576: true; the input reads as it did. -/
def fnExactIsLaminarUptoRow : OpenClaim := { program := "ytebofadnefkacaa", sum := "a0313b2716e71cfa684721466eeee2a025e652890bbe06be77fdb17473778054", func := "loop.example/g01129/laws.FnExactIsLaminar", spec := "fnExactIsLaminar", unfollowed := true, recurses := true, apart := false, narrowed := true }
def FnExactIsLaminarUptoSaid : Prop := fnExactIsLaminarUptoRow.holds Try.pinned (OpenSpec.upto fnExactIsLaminarSpec)

/-- 'laws.FnExactSeatsBy', WHERE WHAT IT READS IS OF BULK AT MOST 1048576: true; the input reads as it did. -/
def fnExactSeatsByUptoRow : OpenClaim := { program := "ytebofadnefkacaa", sum := "a0313b2716e71cfa684721466eeee2a025e652890bbe06be77fdb17473778054", func := "loop.example/g01129/laws.FnExactSeatsBy", spec := "fnExactSeatsBy", unfollowed := true, recurses := true, apart := false, narrowed := true }
def FnExactSeatsByUptoSaid : Prop := fnExactSeatsByUptoRow.holds Try.pinned (OpenSpec.upto fnExactSeatsBySpec)

/-- 'laws.FnExactTiedSeats', WHERE WHAT IT READS IS OF BULK AT MOST 1048576: true; the input reads as it did. -/
def fnExactTiedSeatsUptoRow : OpenClaim := { program := "ytebofadnefkacaa", sum := "a0313b2716e71cfa684721466eeee2a025e652890bbe06be77fdb17473778054", func := "loop.example/g01129/laws.FnExactTiedSeats", spec := "fnExactTiedSeats", unfollowed := true, recurses := true, apart := false, narrowed := true }
def FnExactTiedSeatsUptoSaid : Prop := fnExactTiedSeatsUptoRow.holds Try.pinned (OpenSpec.upto fnExactTiedSeatsSpec)

/-- 'laws.FnExactFewestFor', WHERE WHAT IT READS IS OF BULK AT MOST 1048576: true; the input reads as it did. -/
def fnExactFewestForUptoRow : OpenClaim := { program := "ytebofadnefkacaa", sum := "a0313b2716e71cfa684721466eeee2a025e652890bbe06be77fdb17473778054", func := "loop.example/g01129/laws.FnExactFewestFor", spec := "fnExactFewestFor", unfollowed := true, recurses := true, apart := false, narrowed := true }
def FnExactFewestForUptoSaid : Prop := fnExactFewestForUptoRow.holds Try.pinned (OpenSpec.upto fnExactFewestForSpec)

/-- 'laws.FnLosses', WHERE WHAT IT READS IS OF BULK AT MOST 1048576: true; the input reads as it did. -/
def fnLossesUptoRow : OpenClaim := { program := "ytebofadnefkacaa", sum := "a0313b2716e71cfa684721466eeee2a025e652890bbe06be77fdb17473778054", func := "loop.example/g01129/laws.FnLosses", spec := "fnLosses", unfollowed := true, recurses := true, apart := false, narrowed := true }
def FnLossesUptoSaid : Prop := fnLossesUptoRow.holds Try.pinned (OpenSpec.upto fnLossesSpec)

/-- 'laws.FnExactRemainderSeats', WHERE WHAT IT READS IS OF BULK AT MOST 1048576: true; the input reads as it did. -/
def fnExactRemainderSeatsUptoRow : OpenClaim := { program := "ytebofadnefkacaa", sum := "a0313b2716e71cfa684721466eeee2a025e652890bbe06be77fdb17473778054", func := "loop.example/g01129/laws.FnExactRemainderSeats", spec := "fnExactRemainderSeats", unfollowed := true, recurses := true, apart := false, narrowed := true }
def FnExactRemainderSeatsUptoSaid : Prop := fnExactRemainderSeatsUptoRow.holds Try.pinned (OpenSpec.upto fnExactRemainderSeatsSpec)

/-- 'laws.FnExactFirstLoss', WHERE WHAT IT READS IS OF BULK AT MOST 1048576: true; the input reads as it did. -/
def fnExactFirstLossUptoRow : OpenClaim := { program := "ytebofadnefkacaa", sum := "a0313b2716e71cfa684721466eeee2a025e652890bbe06be77fdb17473778054", func := "loop.example/g01129/laws.FnExactFirstLoss", spec := "fnExactFirstLoss", unfollowed := true, recurses := true, apart := false, narrowed := true }
def FnExactFirstLossUptoSaid : Prop := fnExactFirstLossUptoRow.holds Try.pinned (OpenSpec.upto fnExactFirstLossSpec)

/-- 'laws.FnExactIsGroupRounding', WHERE WHAT IT READS IS OF BULK AT MOST 1048576: true; the input reads as it did. -/
def fnExactIsGroupRoundingUptoRow : OpenClaim := { program := "ytebofadnefkacaa", sum := "a0313b2716e71cfa684721466eeee2a025e652890bbe06be77fdb17473778054", func := "loop.example/g01129/laws.FnExactIsGroupRounding", spec := "fnExactIsGroupRounding", unfollowed := true, recurses := true, apart := false, narrowed := true }
def FnExactIsGroupRoundingUptoSaid : Prop := fnExactIsGroupRoundingUptoRow.holds Try.pinned (OpenSpec.upto fnExactIsGroupRoundingSpec)

/-- 'laws.FnQuotas', WHERE WHAT IT READS IS OF BULK AT MOST 1048576: true; the input reads as it did. -/
def fnQuotasUptoRow : OpenClaim := { program := "ytebofadnefkacaa", sum := "a0313b2716e71cfa684721466eeee2a025e652890bbe06be77fdb17473778054", func := "loop.example/g01129/laws.FnQuotas", spec := "fnQuotas", unfollowed := true, recurses := true, apart := false, narrowed := true }
def FnQuotasUptoSaid : Prop := fnQuotasUptoRow.holds Try.pinned (OpenSpec.upto fnQuotasSpec)

end Rows
end Go.Proofs.Ytebofadnefkacaa
