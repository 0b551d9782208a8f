/-
  DERIVED. GIVEN WITH THE SEED: THE CARDS: each row of YtijpgenadhhkcaaGreatDoorRows.lean that lists a variable, with what it lists TIED to the program's text (the seventh form; the later family's looks); each row that meets fmt, with fmt's text TOLD by the authors' own Lean function (tested against real Go, not proved from fmt's source: count such statements apart). THE CARD IS WHAT COUNTS. Prove the row's statement (the work); the ties are given (YtijpgenadhhkcaaGreatDoorTie.lean); close each card by the builder's one call (the guide's Derived/Test/ToyasCard.lean, 'card_holds'). Laid BY PROGRAM, IN A SANDBOX (cutbox-door.mjs). By AI agents, Wed Nov 11 2026. No macro, syntax, notation, axiom, sorry.
-/
import Derived.Test.YtijpgenadhhkcaaGreatDoorRows
import GoSem.ClaimSeven
namespace Go.Proofs.YtijpgenadhhkcaaGreatDoor
namespace Rows

/-- THE TIED CARD OF 'laws.FnValues'. -/
def fnValuesCard : Claim7 := { stood := { row := fnValuesRow, standIns := [], harness := (true, "2d3219222910d59e7638533d2cf808b51c32d4a331d2a1f200841f3ec2adf3d1"), looks := true }, kinds := [], alts := [], laidByText := true, laidKinds := [.data, .data, .data, .data, .sentinel, .sentinel, .pinned], laidTests := true, laidLooks := .later }
def FnValuesCardSaid : Prop := Claim7.holds Tryz.pinned (.plain (OpenSpec.ofChange fnValuesSpec)) fnValuesCard

/-- THE SECOND FORM's CARD OF 'laws.FnValues'. -/
def fnValuesUptoCard : Claim7 := { stood := { row := fnValuesUptoRow, standIns := [], harness := (true, "2d3219222910d59e7638533d2cf808b51c32d4a331d2a1f200841f3ec2adf3d1"), looks := true }, kinds := [], alts := [], laidByText := true, laidKinds := [.data, .data, .data, .data, .sentinel, .sentinel, .pinned], laidTests := true, laidLooks := .later }
def FnValuesUptoCardSaid : Prop := Claim7.holds Tryz.pinned (.plain (OpenSpec.upto fnValuesSpec)) fnValuesUptoCard
end Rows
end Go.Proofs.YtijpgenadhhkcaaGreatDoor
