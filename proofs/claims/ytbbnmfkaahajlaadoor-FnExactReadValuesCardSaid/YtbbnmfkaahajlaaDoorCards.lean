/-
  DERIVED. GIVEN WITH THE SEED: THE CARDS: each row of YtbbnmfkaahajlaaDoorRows.lean that lists a variable, with what it lists TIED to the program's text (the seventh form; the later family's looks); each row that meets fmt, with fmt's text TOLD by the authors' own Lean function (tested against real Go, not proved from fmt's source: count such statements apart). THE CARD IS WHAT COUNTS. Prove the row's statement (the work); the ties are given (YtbbnmfkaahajlaaDoorTie.lean); close each card by the builder's one call (the guide's Derived/Test/ToyasCard.lean, 'card_holds'). Laid BY PROGRAM, IN A SANDBOX (cutbox-door.mjs). By AI agents, Wed Nov 11 2026. No macro, syntax, notation, axiom, sorry.
-/
import Derived.Test.YtbbnmfkaahajlaaDoorRows
import GoSem.ClaimSeven
namespace Go.Proofs.YtbbnmfkaahajlaaDoor
namespace Rows

/-- THE TIED CARD OF 'laws.FnExactReadValues'. -/
def fnExactReadValuesCard : Claim7 := { stood := { row := fnExactReadValuesRow, standIns := [], harness := (true, "a6ae3b37a5fc1cf3105db7afc8493f9ca2f3b38d669a3a650111c816d2a35dd3"), looks := true }, kinds := [], alts := [], laidByText := true, laidKinds := [.data, .data, .data, .data, .sentinel, .sentinel, .pinned], laidTests := true, laidLooks := .later }
def FnExactReadValuesCardSaid : Prop := Claim7.holds Tryd.pinned (.plain (OpenSpec.ofChange fnExactReadValuesSpec)) fnExactReadValuesCard

/-- THE SECOND FORM's CARD OF 'laws.FnExactReadValues'. -/
def fnExactReadValuesUptoCard : Claim7 := { stood := { row := fnExactReadValuesUptoRow, standIns := [], harness := (true, "a6ae3b37a5fc1cf3105db7afc8493f9ca2f3b38d669a3a650111c816d2a35dd3"), looks := true }, kinds := [], alts := [], laidByText := true, laidKinds := [.data, .data, .data, .data, .sentinel, .sentinel, .pinned], laidTests := true, laidLooks := .later }
def FnExactReadValuesUptoCardSaid : Prop := Claim7.holds Tryd.pinned (.plain (OpenSpec.upto fnExactReadValuesSpec)) fnExactReadValuesUptoCard
end Rows
end Go.Proofs.YtbbnmfkaahajlaaDoor
