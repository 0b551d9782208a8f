/-
  No cell of these rows narrows 'for every input' (looked for: loops, veiled, ifaces, maps, wideKeys, modest, calm, conditions, laid).
  DERIVED. THE GIVEN ROWS OF THIS SEAT. 12 by the template 'for every input the law returns true; each argument reads behind the call as it read before'; 0 by the template 'total and deterministic' (their statements: YtnibakbjbijghaaTotals.lean).
  GIVEN WITH THE SEED: the statements are not yours to turn. If you find one false, say at which input.
  Laid BY PROGRAM, IN A SANDBOX (cutbox-rows.mjs): the forced cells as the released guide's own fill.sh prints them over the translation 69178641ac896df7… (all of the seat's roots in one cut). By AI agents, Wed Nov 11 2026. No macro, syntax, notation, axiom, sorry.
-/
import Derived.Test.YtnibakbjbijghaaChecked
import GoSem.Claim
import GoSem.ClaimJoined
import GoSem.ClaimMapViews
import Derived.JoinedTies
import Derived.KernelRfl
namespace Go.Proofs.Ytnibakbjbijghaa
/- THE CELL 'sum', in the pinned program and in every row, IS THE sha256 OF THE DUMP (.gsa) THAT YtnibakbjbijghaaProg.lean LOADS. Nothing in Lean hashes anything: it is a label: what it is worth is what the hold of that sum in a sandbox is worth. -/
noncomputable def Try.pinned : Pinned := { name := "ytnibakbjbijghaa", sum := "69178641ac896df742327c75717b89071ae0812992be65c88c9afc9f9003be6e", checked := Try.checked }
namespace Rows
def none {H : Type} : Left H := { results := [], args := [] }

/-- 'laws.FnExactSumOf': WHATEVER THE INPUT: true; the input reads as it did. -/
def fnExactSumOfSpec : ChangeSpec := { name := "fnExactSumOf", fn := fun _ => fun
  | [d] => { results := [.lit (.bool true)], args := [d] }
  | _ => none }
def fnExactSumOfRow : OpenClaim := { program := "ytnibakbjbijghaa", sum := "69178641ac896df742327c75717b89071ae0812992be65c88c9afc9f9003be6e", func := "loop.example/g01129/laws.FnExactSumOf", spec := "fnExactSumOf", unfollowed := true, recurses := true, apart := false }
def FnExactSumOfSaid : Prop := fnExactSumOfRow.holds Try.pinned (OpenSpec.ofChange fnExactSumOfSpec)

/-- ITS FALSE NEIGHBOUR: 'it returns false'. Refute it at one input. -/
def fnExactSumOfWrong : ChangeSpec := { name := "fnExactSumOf", fn := fun _ => fun
  | [d] => { results := [.lit (.bool false)], args := [d] }
  | _ => none }
def FnExactSumOfWrongFalsely : Prop := fnExactSumOfRow.holds Try.pinned (OpenSpec.ofChange fnExactSumOfWrong)

/-- 'laws.FnExactBlockSums': WHATEVER THE INPUT: true; the input reads as it did. -/
def fnExactBlockSumsSpec : ChangeSpec := { name := "fnExactBlockSums", fn := fun _ => fun
  | [d1, d2] => { results := [.lit (.bool true)], args := [d1, d2] }
  | _ => none }
def fnExactBlockSumsRow : OpenClaim := { program := "ytnibakbjbijghaa", sum := "69178641ac896df742327c75717b89071ae0812992be65c88c9afc9f9003be6e", func := "loop.example/g01129/laws.FnExactBlockSums", spec := "fnExactBlockSums", unfollowed := true, recurses := true, apart := false }
def FnExactBlockSumsSaid : Prop := fnExactBlockSumsRow.holds Try.pinned (OpenSpec.ofChange fnExactBlockSumsSpec)

/-- ITS FALSE NEIGHBOUR: 'it returns false'. Refute it at one input. -/
def fnExactBlockSumsWrong : ChangeSpec := { name := "fnExactBlockSums", fn := fun _ => fun
  | [d1, d2] => { results := [.lit (.bool false)], args := [d1, d2] }
  | _ => none }
def FnExactBlockSumsWrongFalsely : Prop := fnExactBlockSumsRow.holds Try.pinned (OpenSpec.ofChange fnExactBlockSumsWrong)

/-- 'laws.FnConstant': WHATEVER THE INPUT: true; the input reads as it did. -/
def fnConstantSpec : ChangeSpec := { name := "fnConstant", fn := fun _ => fun
  | [d1, d2] => { results := [.lit (.bool true)], args := [d1, d2] }
  | _ => none }
def fnConstantRow : OpenClaim := { program := "ytnibakbjbijghaa", sum := "69178641ac896df742327c75717b89071ae0812992be65c88c9afc9f9003be6e", func := "loop.example/g01129/laws.FnConstant", spec := "fnConstant", unfollowed := true, recurses := true, apart := false }
def FnConstantSaid : Prop := fnConstantRow.holds Try.pinned (OpenSpec.ofChange fnConstantSpec)

/-- ITS FALSE NEIGHBOUR: 'it returns false'. Refute it at one input. -/
def fnConstantWrong : ChangeSpec := { name := "fnConstant", fn := fun _ => fun
  | [d1, d2] => { results := [.lit (.bool false)], args := [d1, d2] }
  | _ => none }
def FnConstantWrongFalsely : Prop := fnConstantRow.holds Try.pinned (OpenSpec.ofChange fnConstantWrong)

/-- 'laws.FnExactIsRounding': WHATEVER THE INPUT: true; the input reads as it did. -/
def fnExactIsRoundingSpec : ChangeSpec := { name := "fnExactIsRounding", fn := fun _ => fun
  | [d1, d2] => { results := [.lit (.bool true)], args := [d1, d2] }
  | _ => none }
def fnExactIsRoundingRow : OpenClaim := { program := "ytnibakbjbijghaa", sum := "69178641ac896df742327c75717b89071ae0812992be65c88c9afc9f9003be6e", func := "loop.example/g01129/laws.FnExactIsRounding", spec := "fnExactIsRounding", unfollowed := true, recurses := true, apart := false }
def FnExactIsRoundingSaid : Prop := fnExactIsRoundingRow.holds Try.pinned (OpenSpec.ofChange fnExactIsRoundingSpec)

/-- ITS FALSE NEIGHBOUR: 'it returns false'. Refute it at one input. -/
def fnExactIsRoundingWrong : ChangeSpec := { name := "fnExactIsRounding", fn := fun _ => fun
  | [d1, d2] => { results := [.lit (.bool false)], args := [d1, d2] }
  | _ => none }
def FnExactIsRoundingWrongFalsely : Prop := fnExactIsRoundingRow.holds Try.pinned (OpenSpec.ofChange fnExactIsRoundingWrong)

/-- 'laws.FnExactErrorsOf': WHATEVER THE INPUT: true; the input reads as it did. -/
def fnExactErrorsOfSpec : ChangeSpec := { name := "fnExactErrorsOf", fn := fun _ => fun
  | [d1, d2] => { results := [.lit (.bool true)], args := [d1, d2] }
  | _ => none }
def fnExactErrorsOfRow : OpenClaim := { program := "ytnibakbjbijghaa", sum := "69178641ac896df742327c75717b89071ae0812992be65c88c9afc9f9003be6e", func := "loop.example/g01129/laws.FnExactErrorsOf", spec := "fnExactErrorsOf", unfollowed := true, recurses := true, apart := false }
def FnExactErrorsOfSaid : Prop := fnExactErrorsOfRow.holds Try.pinned (OpenSpec.ofChange fnExactErrorsOfSpec)

/-- ITS FALSE NEIGHBOUR: 'it returns false'. Refute it at one input. -/
def fnExactErrorsOfWrong : ChangeSpec := { name := "fnExactErrorsOf", fn := fun _ => fun
  | [d1, d2] => { results := [.lit (.bool false)], args := [d1, d2] }
  | _ => none }
def FnExactErrorsOfWrongFalsely : Prop := fnExactErrorsOfRow.holds Try.pinned (OpenSpec.ofChange fnExactErrorsOfWrong)

/-- 'laws.FnExactSumBounds': WHATEVER THE INPUT: true; the input reads as it did. -/
def fnExactSumBoundsSpec : ChangeSpec := { name := "fnExactSumBounds", fn := fun _ => fun
  | [d] => { results := [.lit (.bool true)], args := [d] }
  | _ => none }
def fnExactSumBoundsRow : OpenClaim := { program := "ytnibakbjbijghaa", sum := "69178641ac896df742327c75717b89071ae0812992be65c88c9afc9f9003be6e", func := "loop.example/g01129/laws.FnExactSumBounds", spec := "fnExactSumBounds", unfollowed := true, recurses := true, apart := false }
def FnExactSumBoundsSaid : Prop := fnExactSumBoundsRow.holds Try.pinned (OpenSpec.ofChange fnExactSumBoundsSpec)

/-- ITS FALSE NEIGHBOUR: 'it returns false'. Refute it at one input. -/
def fnExactSumBoundsWrong : ChangeSpec := { name := "fnExactSumBounds", fn := fun _ => fun
  | [d] => { results := [.lit (.bool false)], args := [d] }
  | _ => none }
def FnExactSumBoundsWrongFalsely : Prop := fnExactSumBoundsRow.holds Try.pinned (OpenSpec.ofChange fnExactSumBoundsWrong)

/-- 'laws.FnExactQuotasOf': WHATEVER THE INPUT: true; the input reads as it did. -/
def fnExactQuotasOfSpec : ChangeSpec := { name := "fnExactQuotasOf", fn := fun _ => fun
  | [d1, d2] => { results := [.lit (.bool true)], args := [d1, d2] }
  | _ => none }
def fnExactQuotasOfRow : OpenClaim := { program := "ytnibakbjbijghaa", sum := "69178641ac896df742327c75717b89071ae0812992be65c88c9afc9f9003be6e", func := "loop.example/g01129/laws.FnExactQuotasOf", spec := "fnExactQuotasOf", unfollowed := true, recurses := true, apart := false }
def FnExactQuotasOfSaid : Prop := fnExactQuotasOfRow.holds Try.pinned (OpenSpec.ofChange fnExactQuotasOfSpec)

/-- ITS FALSE NEIGHBOUR: 'it returns false'. Refute it at one input. -/
def fnExactQuotasOfWrong : ChangeSpec := { name := "fnExactQuotasOf", fn := fun _ => fun
  | [d1, d2] => { results := [.lit (.bool false)], args := [d1, d2] }
  | _ => none }
def FnExactQuotasOfWrongFalsely : Prop := fnExactQuotasOfRow.holds Try.pinned (OpenSpec.ofChange fnExactQuotasOfWrong)

/-- 'laws.FnExactFloorsOf': WHATEVER THE INPUT: true; the input reads as it did. -/
def fnExactFloorsOfSpec : ChangeSpec := { name := "fnExactFloorsOf", fn := fun _ => fun
  | [d] => { results := [.lit (.bool true)], args := [d] }
  | _ => none }
def fnExactFloorsOfRow : OpenClaim := { program := "ytnibakbjbijghaa", sum := "69178641ac896df742327c75717b89071ae0812992be65c88c9afc9f9003be6e", func := "loop.example/g01129/laws.FnExactFloorsOf", spec := "fnExactFloorsOf", unfollowed := true, recurses := true, apart := false }
def FnExactFloorsOfSaid : Prop := fnExactFloorsOfRow.holds Try.pinned (OpenSpec.ofChange fnExactFloorsOfSpec)

/-- ITS FALSE NEIGHBOUR: 'it returns false'. Refute it at one input. -/
def fnExactFloorsOfWrong : ChangeSpec := { name := "fnExactFloorsOf", fn := fun _ => fun
  | [d] => { results := [.lit (.bool false)], args := [d] }
  | _ => none }
def FnExactFloorsOfWrongFalsely : Prop := fnExactFloorsOfRow.holds Try.pinned (OpenSpec.ofChange fnExactFloorsOfWrong)

/-- 'laws.FnExactCeilingsOf': WHATEVER THE INPUT: true; the input reads as it did. -/
def fnExactCeilingsOfSpec : ChangeSpec := { name := "fnExactCeilingsOf", fn := fun _ => fun
  | [d] => { results := [.lit (.bool true)], args := [d] }
  | _ => none }
def fnExactCeilingsOfRow : OpenClaim := { program := "ytnibakbjbijghaa", sum := "69178641ac896df742327c75717b89071ae0812992be65c88c9afc9f9003be6e", func := "loop.example/g01129/laws.FnExactCeilingsOf", spec := "fnExactCeilingsOf", unfollowed := true, recurses := true, apart := false }
def FnExactCeilingsOfSaid : Prop := fnExactCeilingsOfRow.holds Try.pinned (OpenSpec.ofChange fnExactCeilingsOfSpec)

/-- ITS FALSE NEIGHBOUR: 'it returns false'. Refute it at one input. -/
def fnExactCeilingsOfWrong : ChangeSpec := { name := "fnExactCeilingsOf", fn := fun _ => fun
  | [d] => { results := [.lit (.bool false)], args := [d] }
  | _ => none }
def FnExactCeilingsOfWrongFalsely : Prop := fnExactCeilingsOfRow.holds Try.pinned (OpenSpec.ofChange fnExactCeilingsOfWrong)

/-- 'laws.FnExactRunningErrors': WHATEVER THE INPUT: true; the input reads as it did. -/
def fnExactRunningErrorsSpec : ChangeSpec := { name := "fnExactRunningErrors", fn := fun _ => fun
  | [d1, d2] => { results := [.lit (.bool true)], args := [d1, d2] }
  | _ => none }
def fnExactRunningErrorsRow : OpenClaim := { program := "ytnibakbjbijghaa", sum := "69178641ac896df742327c75717b89071ae0812992be65c88c9afc9f9003be6e", func := "loop.example/g01129/laws.FnExactRunningErrors", spec := "fnExactRunningErrors", unfollowed := true, recurses := true, apart := false }
def FnExactRunningErrorsSaid : Prop := fnExactRunningErrorsRow.holds Try.pinned (OpenSpec.ofChange fnExactRunningErrorsSpec)

/-- ITS FALSE NEIGHBOUR: 'it returns false'. Refute it at one input. -/
def fnExactRunningErrorsWrong : ChangeSpec := { name := "fnExactRunningErrors", fn := fun _ => fun
  | [d1, d2] => { results := [.lit (.bool false)], args := [d1, d2] }
  | _ => none }
def FnExactRunningErrorsWrongFalsely : Prop := fnExactRunningErrorsRow.holds Try.pinned (OpenSpec.ofChange fnExactRunningErrorsWrong)

/-- 'laws.FnExactPrefixFloors': WHATEVER THE INPUT: true; the input reads as it did. -/
def fnExactPrefixFloorsSpec : ChangeSpec := { name := "fnExactPrefixFloors", fn := fun _ => fun
  | [d] => { results := [.lit (.bool true)], args := [d] }
  | _ => none }
def fnExactPrefixFloorsRow : OpenClaim := { program := "ytnibakbjbijghaa", sum := "69178641ac896df742327c75717b89071ae0812992be65c88c9afc9f9003be6e", func := "loop.example/g01129/laws.FnExactPrefixFloors", spec := "fnExactPrefixFloors", unfollowed := true, recurses := true, apart := false }
def FnExactPrefixFloorsSaid : Prop := fnExactPrefixFloorsRow.holds Try.pinned (OpenSpec.ofChange fnExactPrefixFloorsSpec)

/-- ITS FALSE NEIGHBOUR: 'it returns false'. Refute it at one input. -/
def fnExactPrefixFloorsWrong : ChangeSpec := { name := "fnExactPrefixFloors", fn := fun _ => fun
  | [d] => { results := [.lit (.bool false)], args := [d] }
  | _ => none }
def FnExactPrefixFloorsWrongFalsely : Prop := fnExactPrefixFloorsRow.holds Try.pinned (OpenSpec.ofChange fnExactPrefixFloorsWrong)

/-- 'laws.FnSeatsGiven': WHATEVER THE INPUT: true; the input reads as it did. -/
def fnSeatsGivenSpec : ChangeSpec := { name := "fnSeatsGiven", fn := fun _ => fun
  | [d1, d2] => { results := [.lit (.bool true)], args := [d1, d2] }
  | _ => none }
def fnSeatsGivenRow : OpenClaim := { program := "ytnibakbjbijghaa", sum := "69178641ac896df742327c75717b89071ae0812992be65c88c9afc9f9003be6e", func := "loop.example/g01129/laws.FnSeatsGiven", spec := "fnSeatsGiven", unfollowed := true, recurses := true, apart := false }
def FnSeatsGivenSaid : Prop := fnSeatsGivenRow.holds Try.pinned (OpenSpec.ofChange fnSeatsGivenSpec)

/-- ITS FALSE NEIGHBOUR: 'it returns false'. Refute it at one input. -/
def fnSeatsGivenWrong : ChangeSpec := { name := "fnSeatsGiven", fn := fun _ => fun
  | [d1, d2] => { results := [.lit (.bool false)], args := [d1, d2] }
  | _ => none }
def FnSeatsGivenWrongFalsely : Prop := fnSeatsGivenRow.holds Try.pinned (OpenSpec.ofChange fnSeatsGivenWrong)

/- THE SECOND FORM. 'bulk': how many values and letters a reading holds, each counted each time it is reached (what is shared counts as often as it is met; a slice's spare places count too). A statement '..UptoSaid' is the law's where the arguments, and the package variables that the reading takes, are together of bulk at most 1048576: NARROWER than '..Said'. Prove '..Said' where nothing that the law and all that it calls make is longer than what came in: it says more and counts as full. Else prove '..UptoSaid'. A law counts once. -/
mutual
def uptoBulk {H : Type} : DataW H → Nat
  | .lit (.string bytes) => bytes.length + 1
  | .lit _ => 1
  | .nil => 1
  | .ptr d => uptoBulk d + 1
  | .slice elems spare => uptoBulkAll elems + uptoBulkAll spare + 1
  | .agg parts => uptoBulkAll parts + 1
  | .iface _ d => uptoBulk d + 1
  | .map entries => uptoBulkEntries entries + 1
  | .held _ => 1
def uptoBulkAll {H : Type} : List (DataW H) → Nat
  | [] => 0
  | d :: r => uptoBulk d + uptoBulkAll r
def uptoBulkEntries {H : Type} : List (Lit × DataW H) → Nat
  | [] => 0
  | x :: r => uptoBulkEntry x + uptoBulkEntries r
def uptoBulkEntry {H : Type} : Lit × DataW H → Nat
  | (.string bytes, d) => bytes.length + uptoBulk d + 1
  | (_, d) => uptoBulk d + 1
 end
def uptoSmall : (H : Type) → List (DataW H) → Bool := fun _ ds => decide (uptoBulkAll ds ≤ 1048576)
def OpenSpec.upto (s : _root_.Go.ChangeSpec) : _root_.Go.OpenSpec := { _root_.Go.OpenSpec.ofChange s with cond := some uptoSmall }

/-- 'laws.FnExactSumOf', WHERE WHAT IT READS IS OF BULK AT MOST 1048576: true; the input reads as it did. -/
def fnExactSumOfUptoRow : OpenClaim := { program := "ytnibakbjbijghaa", sum := "69178641ac896df742327c75717b89071ae0812992be65c88c9afc9f9003be6e", func := "loop.example/g01129/laws.FnExactSumOf", spec := "fnExactSumOf", unfollowed := true, recurses := true, apart := false, narrowed := true }
def FnExactSumOfUptoSaid : Prop := fnExactSumOfUptoRow.holds Try.pinned (OpenSpec.upto fnExactSumOfSpec)

/-- 'laws.FnExactBlockSums', WHERE WHAT IT READS IS OF BULK AT MOST 1048576: true; the input reads as it did. -/
def fnExactBlockSumsUptoRow : OpenClaim := { program := "ytnibakbjbijghaa", sum := "69178641ac896df742327c75717b89071ae0812992be65c88c9afc9f9003be6e", func := "loop.example/g01129/laws.FnExactBlockSums", spec := "fnExactBlockSums", unfollowed := true, recurses := true, apart := false, narrowed := true }
def FnExactBlockSumsUptoSaid : Prop := fnExactBlockSumsUptoRow.holds Try.pinned (OpenSpec.upto fnExactBlockSumsSpec)

/-- 'laws.FnConstant', WHERE WHAT IT READS IS OF BULK AT MOST 1048576: true; the input reads as it did. -/
def fnConstantUptoRow : OpenClaim := { program := "ytnibakbjbijghaa", sum := "69178641ac896df742327c75717b89071ae0812992be65c88c9afc9f9003be6e", func := "loop.example/g01129/laws.FnConstant", spec := "fnConstant", unfollowed := true, recurses := true, apart := false, narrowed := true }
def FnConstantUptoSaid : Prop := fnConstantUptoRow.holds Try.pinned (OpenSpec.upto fnConstantSpec)

/-- 'laws.FnExactIsRounding', WHERE WHAT IT READS IS OF BULK AT MOST 1048576: true; the input reads as it did. -/
def fnExactIsRoundingUptoRow : OpenClaim := { program := "ytnibakbjbijghaa", sum := "69178641ac896df742327c75717b89071ae0812992be65c88c9afc9f9003be6e", func := "loop.example/g01129/laws.FnExactIsRounding", spec := "fnExactIsRounding", unfollowed := true, recurses := true, apart := false, narrowed := true }
def FnExactIsRoundingUptoSaid : Prop := fnExactIsRoundingUptoRow.holds Try.pinned (OpenSpec.upto fnExactIsRoundingSpec)

/-- 'laws.FnExactErrorsOf', WHERE WHAT IT READS IS OF BULK AT MOST 1048576: true; the input reads as it did. -/
def fnExactErrorsOfUptoRow : OpenClaim := { program := "ytnibakbjbijghaa", sum := "69178641ac896df742327c75717b89071ae0812992be65c88c9afc9f9003be6e", func := "loop.example/g01129/laws.FnExactErrorsOf", spec := "fnExactErrorsOf", unfollowed := true, recurses := true, apart := false, narrowed := true }
def FnExactErrorsOfUptoSaid : Prop := fnExactErrorsOfUptoRow.holds Try.pinned (OpenSpec.upto fnExactErrorsOfSpec)

/-- 'laws.FnExactSumBounds', WHERE WHAT IT READS IS OF BULK AT MOST 1048576: true; the input reads as it did. -/
def fnExactSumBoundsUptoRow : OpenClaim := { program := "ytnibakbjbijghaa", sum := "69178641ac896df742327c75717b89071ae0812992be65c88c9afc9f9003be6e", func := "loop.example/g01129/laws.FnExactSumBounds", spec := "fnExactSumBounds", unfollowed := true, recurses := true, apart := false, narrowed := true }
def FnExactSumBoundsUptoSaid : Prop := fnExactSumBoundsUptoRow.holds Try.pinned (OpenSpec.upto fnExactSumBoundsSpec)

/-- 'laws.FnExactQuotasOf', WHERE WHAT IT READS IS OF BULK AT MOST 1048576: true; the input reads as it did. -/
def fnExactQuotasOfUptoRow : OpenClaim := { program := "ytnibakbjbijghaa", sum := "69178641ac896df742327c75717b89071ae0812992be65c88c9afc9f9003be6e", func := "loop.example/g01129/laws.FnExactQuotasOf", spec := "fnExactQuotasOf", unfollowed := true, recurses := true, apart := false, narrowed := true }
def FnExactQuotasOfUptoSaid : Prop := fnExactQuotasOfUptoRow.holds Try.pinned (OpenSpec.upto fnExactQuotasOfSpec)

/-- 'laws.FnExactFloorsOf', WHERE WHAT IT READS IS OF BULK AT MOST 1048576: true; the input reads as it did. -/
def fnExactFloorsOfUptoRow : OpenClaim := { program := "ytnibakbjbijghaa", sum := "69178641ac896df742327c75717b89071ae0812992be65c88c9afc9f9003be6e", func := "loop.example/g01129/laws.FnExactFloorsOf", spec := "fnExactFloorsOf", unfollowed := true, recurses := true, apart := false, narrowed := true }
def FnExactFloorsOfUptoSaid : Prop := fnExactFloorsOfUptoRow.holds Try.pinned (OpenSpec.upto fnExactFloorsOfSpec)

/-- 'laws.FnExactCeilingsOf', WHERE WHAT IT READS IS OF BULK AT MOST 1048576: true; the input reads as it did. -/
def fnExactCeilingsOfUptoRow : OpenClaim := { program := "ytnibakbjbijghaa", sum := "69178641ac896df742327c75717b89071ae0812992be65c88c9afc9f9003be6e", func := "loop.example/g01129/laws.FnExactCeilingsOf", spec := "fnExactCeilingsOf", unfollowed := true, recurses := true, apart := false, narrowed := true }
def FnExactCeilingsOfUptoSaid : Prop := fnExactCeilingsOfUptoRow.holds Try.pinned (OpenSpec.upto fnExactCeilingsOfSpec)

/-- 'laws.FnExactRunningErrors', WHERE WHAT IT READS IS OF BULK AT MOST 1048576: true; the input reads as it did. -/
def fnExactRunningErrorsUptoRow : OpenClaim := { program := "ytnibakbjbijghaa", sum := "69178641ac896df742327c75717b89071ae0812992be65c88c9afc9f9003be6e", func := "loop.example/g01129/laws.FnExactRunningErrors", spec := "fnExactRunningErrors", unfollowed := true, recurses := true, apart := false, narrowed := true }
def FnExactRunningErrorsUptoSaid : Prop := fnExactRunningErrorsUptoRow.holds Try.pinned (OpenSpec.upto fnExactRunningErrorsSpec)

/-- 'laws.FnExactPrefixFloors', WHERE WHAT IT READS IS OF BULK AT MOST 1048576: true; the input reads as it did. -/
def fnExactPrefixFloorsUptoRow : OpenClaim := { program := "ytnibakbjbijghaa", sum := "69178641ac896df742327c75717b89071ae0812992be65c88c9afc9f9003be6e", func := "loop.example/g01129/laws.FnExactPrefixFloors", spec := "fnExactPrefixFloors", unfollowed := true, recurses := true, apart := false, narrowed := true }
def FnExactPrefixFloorsUptoSaid : Prop := fnExactPrefixFloorsUptoRow.holds Try.pinned (OpenSpec.upto fnExactPrefixFloorsSpec)

/-- 'laws.FnSeatsGiven', WHERE WHAT IT READS IS OF BULK AT MOST 1048576: true; the input reads as it did. -/
def fnSeatsGivenUptoRow : OpenClaim := { program := "ytnibakbjbijghaa", sum := "69178641ac896df742327c75717b89071ae0812992be65c88c9afc9f9003be6e", func := "loop.example/g01129/laws.FnSeatsGiven", spec := "fnSeatsGiven", unfollowed := true, recurses := true, apart := false, narrowed := true }
def FnSeatsGivenUptoSaid : Prop := fnSeatsGivenUptoRow.holds Try.pinned (OpenSpec.upto fnSeatsGivenSpec)

end Rows
end Go.Proofs.Ytnibakbjbijghaa
