/-
  No cell of these rows narrows 'for every input' (looked for: loops, veiled, ifaces, maps, wideKeys, modest, calm, conditions, laid).
  DERIVED. THE GIVEN ROWS OF THIS SEAT. 11 by the template 'for every input the law returns true; each argument reads behind the call as it read before'; 0 by the template 'total and deterministic' (their statements: YtgkgkaphdfhcnaaTotals.lean).
  GIVEN WITH THE SEED: the statements are not yours to turn. If you find one false, say at which input.
  Laid BY PROGRAM, IN A SANDBOX (cutbox-rows.mjs): the forced cells as the released guide's own fill.sh prints them over the translation 769a63727cf9a6fd… (all of the seat's roots in one cut). By AI agents, Wed Nov 11 2026. No macro, syntax, notation, axiom, sorry.
-/
import Derived.Test.YtgkgkaphdfhcnaaChecked
import GoSem.Claim
import GoSem.ClaimJoined
import GoSem.ClaimMapViews
import Derived.JoinedTies
import Derived.KernelRfl
namespace Go.Proofs.Ytgkgkaphdfhcnaa
/- THE CELL 'sum', in the pinned program and in every row, IS THE sha256 OF THE DUMP (.gsa) THAT YtgkgkaphdfhcnaaProg.lean LOADS. Nothing in Lean hashes anything: it is a label: what it is worth is what the hold of that sum in a sandbox is worth. -/
noncomputable def Try.pinned : Pinned := { name := "ytgkgkaphdfhcnaa", sum := "769a63727cf9a6fd0712733bc1339b3091e38f945fa8e9c32893b4109a982c4a", checked := Try.checked }
namespace Rows
def none {H : Type} : Left H := { results := [], args := [] }

/-- 'laws.FnExactConstants': WHATEVER THE INPUT: true; the input reads as it did. -/
def fnExactConstantsSpec : ChangeSpec := { name := "fnExactConstants", fn := fun _ => fun
  | [] => { results := [.lit (.bool true)], args := [] }
  | _ => none }
def fnExactConstantsRow : OpenClaim := { program := "ytgkgkaphdfhcnaa", sum := "769a63727cf9a6fd0712733bc1339b3091e38f945fa8e9c32893b4109a982c4a", func := "loop.example/g01129/laws.FnExactConstants", spec := "fnExactConstants", apart := false }
def FnExactConstantsSaid : Prop := fnExactConstantsRow.holds Try.pinned (OpenSpec.ofChange fnExactConstantsSpec)

/-- ITS FALSE NEIGHBOUR: 'it returns false'. Refute it at one input. -/
def fnExactConstantsWrong : ChangeSpec := { name := "fnExactConstants", fn := fun _ => fun
  | [] => { results := [.lit (.bool false)], args := [] }
  | _ => none }
def FnExactConstantsWrongFalsely : Prop := fnExactConstantsRow.holds Try.pinned (OpenSpec.ofChange fnExactConstantsWrong)

/-- 'laws.FnExactCheckOf': WHATEVER THE INPUT: true; the input reads as it did. -/
def fnExactCheckOfSpec : ChangeSpec := { name := "fnExactCheckOf", fn := fun _ => fun
  | [d1, d2] => { results := [.lit (.bool true)], args := [d1, d2] }
  | _ => none }
def fnExactCheckOfRow : OpenClaim := { program := "ytgkgkaphdfhcnaa", sum := "769a63727cf9a6fd0712733bc1339b3091e38f945fa8e9c32893b4109a982c4a", func := "loop.example/g01129/laws.FnExactCheckOf", spec := "fnExactCheckOf", apart := false }
def FnExactCheckOfSaid : Prop := fnExactCheckOfRow.holds Try.pinned (OpenSpec.ofChange fnExactCheckOfSpec)

/-- ITS FALSE NEIGHBOUR: 'it returns false'. Refute it at one input. -/
def fnExactCheckOfWrong : ChangeSpec := { name := "fnExactCheckOf", fn := fun _ => fun
  | [d1, d2] => { results := [.lit (.bool false)], args := [d1, d2] }
  | _ => none }
def FnExactCheckOfWrongFalsely : Prop := fnExactCheckOfRow.holds Try.pinned (OpenSpec.ofChange fnExactCheckOfWrong)

/-- 'laws.FnExactDivFloor': WHATEVER THE INPUT: true; the input reads as it did. -/
def fnExactDivFloorSpec : ChangeSpec := { name := "fnExactDivFloor", fn := fun _ => fun
  | [d1, d2] => { results := [.lit (.bool true)], args := [d1, d2] }
  | _ => none }
def fnExactDivFloorRow : OpenClaim := { program := "ytgkgkaphdfhcnaa", sum := "769a63727cf9a6fd0712733bc1339b3091e38f945fa8e9c32893b4109a982c4a", func := "loop.example/g01129/laws.FnExactDivFloor", spec := "fnExactDivFloor", unfollowed := true, recurses := true, apart := false }
def FnExactDivFloorSaid : Prop := fnExactDivFloorRow.holds Try.pinned (OpenSpec.ofChange fnExactDivFloorSpec)

/-- ITS FALSE NEIGHBOUR: 'it returns false'. Refute it at one input. -/
def fnExactDivFloorWrong : ChangeSpec := { name := "fnExactDivFloor", fn := fun _ => fun
  | [d1, d2] => { results := [.lit (.bool false)], args := [d1, d2] }
  | _ => none }
def FnExactDivFloorWrongFalsely : Prop := fnExactDivFloorRow.holds Try.pinned (OpenSpec.ofChange fnExactDivFloorWrong)

/-- 'laws.FnExactDivCeiling': WHATEVER THE INPUT: true; the input reads as it did. -/
def fnExactDivCeilingSpec : ChangeSpec := { name := "fnExactDivCeiling", fn := fun _ => fun
  | [d1, d2] => { results := [.lit (.bool true)], args := [d1, d2] }
  | _ => none }
def fnExactDivCeilingRow : OpenClaim := { program := "ytgkgkaphdfhcnaa", sum := "769a63727cf9a6fd0712733bc1339b3091e38f945fa8e9c32893b4109a982c4a", func := "loop.example/g01129/laws.FnExactDivCeiling", spec := "fnExactDivCeiling", unfollowed := true, recurses := true, apart := false }
def FnExactDivCeilingSaid : Prop := fnExactDivCeilingRow.holds Try.pinned (OpenSpec.ofChange fnExactDivCeilingSpec)

/-- ITS FALSE NEIGHBOUR: 'it returns false'. Refute it at one input. -/
def fnExactDivCeilingWrong : ChangeSpec := { name := "fnExactDivCeiling", fn := fun _ => fun
  | [d1, d2] => { results := [.lit (.bool false)], args := [d1, d2] }
  | _ => none }
def FnExactDivCeilingWrongFalsely : Prop := fnExactDivCeilingRow.holds Try.pinned (OpenSpec.ofChange fnExactDivCeilingWrong)

/-- 'laws.FnExactDivNearest': WHATEVER THE INPUT: true; the input reads as it did. -/
def fnExactDivNearestSpec : ChangeSpec := { name := "fnExactDivNearest", fn := fun _ => fun
  | [d1, d2] => { results := [.lit (.bool true)], args := [d1, d2] }
  | _ => none }
def fnExactDivNearestRow : OpenClaim := { program := "ytgkgkaphdfhcnaa", sum := "769a63727cf9a6fd0712733bc1339b3091e38f945fa8e9c32893b4109a982c4a", func := "loop.example/g01129/laws.FnExactDivNearest", spec := "fnExactDivNearest", unfollowed := true, recurses := true, apart := false }
def FnExactDivNearestSaid : Prop := fnExactDivNearestRow.holds Try.pinned (OpenSpec.ofChange fnExactDivNearestSpec)

/-- ITS FALSE NEIGHBOUR: 'it returns false'. Refute it at one input. -/
def fnExactDivNearestWrong : ChangeSpec := { name := "fnExactDivNearest", fn := fun _ => fun
  | [d1, d2] => { results := [.lit (.bool false)], args := [d1, d2] }
  | _ => none }
def FnExactDivNearestWrongFalsely : Prop := fnExactDivNearestRow.holds Try.pinned (OpenSpec.ofChange fnExactDivNearestWrong)

/-- 'laws.FnExactCompareRatios': WHATEVER THE INPUT: true; the input reads as it did. -/
def fnExactCompareRatiosSpec : ChangeSpec := { name := "fnExactCompareRatios", fn := fun _ => fun
  | [d1, d2, d3, d4] => { results := [.lit (.bool true)], args := [d1, d2, d3, d4] }
  | _ => none }
def fnExactCompareRatiosRow : OpenClaim := { program := "ytgkgkaphdfhcnaa", sum := "769a63727cf9a6fd0712733bc1339b3091e38f945fa8e9c32893b4109a982c4a", func := "loop.example/g01129/laws.FnExactCompareRatios", spec := "fnExactCompareRatios", unfollowed := true, recurses := true, apart := false }
def FnExactCompareRatiosSaid : Prop := fnExactCompareRatiosRow.holds Try.pinned (OpenSpec.ofChange fnExactCompareRatiosSpec)

/-- ITS FALSE NEIGHBOUR: 'it returns false'. Refute it at one input. -/
def fnExactCompareRatiosWrong : ChangeSpec := { name := "fnExactCompareRatios", fn := fun _ => fun
  | [d1, d2, d3, d4] => { results := [.lit (.bool false)], args := [d1, d2, d3, d4] }
  | _ => none }
def FnExactCompareRatiosWrongFalsely : Prop := fnExactCompareRatiosRow.holds Try.pinned (OpenSpec.ofChange fnExactCompareRatiosWrong)

/-- 'laws.FnExactConstantWord': WHATEVER THE INPUT: true; the input reads as it did. -/
def fnExactConstantWordSpec : ChangeSpec := { name := "fnExactConstantWord", fn := fun _ => fun
  | [d1, d2, d3] => { results := [.lit (.bool true)], args := [d1, d2, d3] }
  | _ => none }
def fnExactConstantWordRow : OpenClaim := { program := "ytgkgkaphdfhcnaa", sum := "769a63727cf9a6fd0712733bc1339b3091e38f945fa8e9c32893b4109a982c4a", func := "loop.example/g01129/laws.FnExactConstantWord", spec := "fnExactConstantWord", apart := false }
def FnExactConstantWordSaid : Prop := fnExactConstantWordRow.holds Try.pinned (OpenSpec.ofChange fnExactConstantWordSpec)

/-- ITS FALSE NEIGHBOUR: 'it returns false'. Refute it at one input. -/
def fnExactConstantWordWrong : ChangeSpec := { name := "fnExactConstantWord", fn := fun _ => fun
  | [d1, d2, d3] => { results := [.lit (.bool false)], args := [d1, d2, d3] }
  | _ => none }
def FnExactConstantWordWrongFalsely : Prop := fnExactConstantWordRow.holds Try.pinned (OpenSpec.ofChange fnExactConstantWordWrong)

/-- 'laws.FnExactValidVotes': WHATEVER THE INPUT: true; the input reads as it did. -/
def fnExactValidVotesSpec : ChangeSpec := { name := "fnExactValidVotes", fn := fun _ => fun
  | [d] => { results := [.lit (.bool true)], args := [d] }
  | _ => none }
def fnExactValidVotesRow : OpenClaim := { program := "ytgkgkaphdfhcnaa", sum := "769a63727cf9a6fd0712733bc1339b3091e38f945fa8e9c32893b4109a982c4a", func := "loop.example/g01129/laws.FnExactValidVotes", spec := "fnExactValidVotes", unfollowed := true, recurses := true, apart := false }
def FnExactValidVotesSaid : Prop := fnExactValidVotesRow.holds Try.pinned (OpenSpec.ofChange fnExactValidVotesSpec)

/-- ITS FALSE NEIGHBOUR: 'it returns false'. Refute it at one input. -/
def fnExactValidVotesWrong : ChangeSpec := { name := "fnExactValidVotes", fn := fun _ => fun
  | [d] => { results := [.lit (.bool false)], args := [d] }
  | _ => none }
def FnExactValidVotesWrongFalsely : Prop := fnExactValidVotesRow.holds Try.pinned (OpenSpec.ofChange fnExactValidVotesWrong)

/-- 'laws.FnDivided': WHATEVER THE INPUT: true; the input reads as it did. -/
def fnDividedSpec : ChangeSpec := { name := "fnDivided", fn := fun _ => fun
  | [d1, d2] => { results := [.lit (.bool true)], args := [d1, d2] }
  | _ => none }
def fnDividedRow : OpenClaim := { program := "ytgkgkaphdfhcnaa", sum := "769a63727cf9a6fd0712733bc1339b3091e38f945fa8e9c32893b4109a982c4a", func := "loop.example/g01129/laws.FnDivided", spec := "fnDivided", unfollowed := true, recurses := true, apart := false }
def FnDividedSaid : Prop := fnDividedRow.holds Try.pinned (OpenSpec.ofChange fnDividedSpec)

/-- ITS FALSE NEIGHBOUR: 'it returns false'. Refute it at one input. -/
def fnDividedWrong : ChangeSpec := { name := "fnDivided", fn := fun _ => fun
  | [d1, d2] => { results := [.lit (.bool false)], args := [d1, d2] }
  | _ => none }
def FnDividedWrongFalsely : Prop := fnDividedRow.holds Try.pinned (OpenSpec.ofChange fnDividedWrong)

/-- 'laws.FnExactGreatestOf': WHATEVER THE INPUT: true; the input reads as it did. -/
def fnExactGreatestOfSpec : ChangeSpec := { name := "fnExactGreatestOf", fn := fun _ => fun
  | [d] => { results := [.lit (.bool true)], args := [d] }
  | _ => none }
def fnExactGreatestOfRow : OpenClaim := { program := "ytgkgkaphdfhcnaa", sum := "769a63727cf9a6fd0712733bc1339b3091e38f945fa8e9c32893b4109a982c4a", func := "loop.example/g01129/laws.FnExactGreatestOf", spec := "fnExactGreatestOf", unfollowed := true, recurses := true, apart := false }
def FnExactGreatestOfSaid : Prop := fnExactGreatestOfRow.holds Try.pinned (OpenSpec.ofChange fnExactGreatestOfSpec)

/-- ITS FALSE NEIGHBOUR: 'it returns false'. Refute it at one input. -/
def fnExactGreatestOfWrong : ChangeSpec := { name := "fnExactGreatestOf", fn := fun _ => fun
  | [d] => { results := [.lit (.bool false)], args := [d] }
  | _ => none }
def FnExactGreatestOfWrongFalsely : Prop := fnExactGreatestOfRow.holds Try.pinned (OpenSpec.ofChange fnExactGreatestOfWrong)

/-- 'laws.FnExactValidValues': WHATEVER THE INPUT: true; the input reads as it did. -/
def fnExactValidValuesSpec : ChangeSpec := { name := "fnExactValidValues", fn := fun _ => fun
  | [d] => { results := [.lit (.bool true)], args := [d] }
  | _ => none }
def fnExactValidValuesRow : OpenClaim := { program := "ytgkgkaphdfhcnaa", sum := "769a63727cf9a6fd0712733bc1339b3091e38f945fa8e9c32893b4109a982c4a", func := "loop.example/g01129/laws.FnExactValidValues", spec := "fnExactValidValues", unfollowed := true, recurses := true, apart := false }
def FnExactValidValuesSaid : Prop := fnExactValidValuesRow.holds Try.pinned (OpenSpec.ofChange fnExactValidValuesSpec)

/-- ITS FALSE NEIGHBOUR: 'it returns false'. Refute it at one input. -/
def fnExactValidValuesWrong : ChangeSpec := { name := "fnExactValidValues", fn := fun _ => fun
  | [d] => { results := [.lit (.bool false)], args := [d] }
  | _ => none }
def FnExactValidValuesWrongFalsely : Prop := fnExactValidValuesRow.holds Try.pinned (OpenSpec.ofChange fnExactValidValuesWrong)

/- THE SECOND FORM. 'bulk': how many values and letters a reading holds, each counted each time it is reached (what is shared counts as often as it is met; a slice's spare places count too). A statement '..UptoSaid' is the law's where the arguments, and the package variables that the reading takes, are together of bulk at most 1048576: NARROWER than '..Said'. Prove '..Said' where nothing that the law and all that it calls make is longer than what came in: it says more and counts as full. Else prove '..UptoSaid'. A law counts once. -/
mutual
def uptoBulk {H : Type} : DataW H → Nat
  | .lit (.string bytes) => bytes.length + 1
  | .lit _ => 1
  | .nil => 1
  | .ptr d => uptoBulk d + 1
  | .slice elems spare => uptoBulkAll elems + uptoBulkAll spare + 1
  | .agg parts => uptoBulkAll parts + 1
  | .iface _ d => uptoBulk d + 1
  | .map entries => uptoBulkEntries entries + 1
  | .held _ => 1
def uptoBulkAll {H : Type} : List (DataW H) → Nat
  | [] => 0
  | d :: r => uptoBulk d + uptoBulkAll r
def uptoBulkEntries {H : Type} : List (Lit × DataW H) → Nat
  | [] => 0
  | x :: r => uptoBulkEntry x + uptoBulkEntries r
def uptoBulkEntry {H : Type} : Lit × DataW H → Nat
  | (.string bytes, d) => bytes.length + uptoBulk d + 1
  | (_, d) => uptoBulk d + 1
 end
def uptoSmall : (H : Type) → List (DataW H) → Bool := fun _ ds => decide (uptoBulkAll ds ≤ 1048576)
def OpenSpec.upto (s : _root_.Go.ChangeSpec) : _root_.Go.OpenSpec := { _root_.Go.OpenSpec.ofChange s with cond := some uptoSmall }

/-- 'laws.FnExactConstants', WHERE WHAT IT READS IS OF BULK AT MOST 1048576: true; the input reads as it did. -/
def fnExactConstantsUptoRow : OpenClaim := { program := "ytgkgkaphdfhcnaa", sum := "769a63727cf9a6fd0712733bc1339b3091e38f945fa8e9c32893b4109a982c4a", func := "loop.example/g01129/laws.FnExactConstants", spec := "fnExactConstants", apart := false, narrowed := true }
def FnExactConstantsUptoSaid : Prop := fnExactConstantsUptoRow.holds Try.pinned (OpenSpec.upto fnExactConstantsSpec)

/-- 'laws.FnExactCheckOf', WHERE WHAT IT READS IS OF BULK AT MOST 1048576: true; the input reads as it did. -/
def fnExactCheckOfUptoRow : OpenClaim := { program := "ytgkgkaphdfhcnaa", sum := "769a63727cf9a6fd0712733bc1339b3091e38f945fa8e9c32893b4109a982c4a", func := "loop.example/g01129/laws.FnExactCheckOf", spec := "fnExactCheckOf", apart := false, narrowed := true }
def FnExactCheckOfUptoSaid : Prop := fnExactCheckOfUptoRow.holds Try.pinned (OpenSpec.upto fnExactCheckOfSpec)

/-- 'laws.FnExactDivFloor', WHERE WHAT IT READS IS OF BULK AT MOST 1048576: true; the input reads as it did. -/
def fnExactDivFloorUptoRow : OpenClaim := { program := "ytgkgkaphdfhcnaa", sum := "769a63727cf9a6fd0712733bc1339b3091e38f945fa8e9c32893b4109a982c4a", func := "loop.example/g01129/laws.FnExactDivFloor", spec := "fnExactDivFloor", unfollowed := true, recurses := true, apart := false, narrowed := true }
def FnExactDivFloorUptoSaid : Prop := fnExactDivFloorUptoRow.holds Try.pinned (OpenSpec.upto fnExactDivFloorSpec)

/-- 'laws.FnExactDivCeiling', WHERE WHAT IT READS IS OF BULK AT MOST 1048576: true; the input reads as it did. -/
def fnExactDivCeilingUptoRow : OpenClaim := { program := "ytgkgkaphdfhcnaa", sum := "769a63727cf9a6fd0712733bc1339b3091e38f945fa8e9c32893b4109a982c4a", func := "loop.example/g01129/laws.FnExactDivCeiling", spec := "fnExactDivCeiling", unfollowed := true, recurses := true, apart := false, narrowed := true }
def FnExactDivCeilingUptoSaid : Prop := fnExactDivCeilingUptoRow.holds Try.pinned (OpenSpec.upto fnExactDivCeilingSpec)

/-- 'laws.FnExactDivNearest', WHERE WHAT IT READS IS OF BULK AT MOST 1048576: true; the input reads as it did. -/
def fnExactDivNearestUptoRow : OpenClaim := { program := "ytgkgkaphdfhcnaa", sum := "769a63727cf9a6fd0712733bc1339b3091e38f945fa8e9c32893b4109a982c4a", func := "loop.example/g01129/laws.FnExactDivNearest", spec := "fnExactDivNearest", unfollowed := true, recurses := true, apart := false, narrowed := true }
def FnExactDivNearestUptoSaid : Prop := fnExactDivNearestUptoRow.holds Try.pinned (OpenSpec.upto fnExactDivNearestSpec)

/-- 'laws.FnExactCompareRatios', WHERE WHAT IT READS IS OF BULK AT MOST 1048576: true; the input reads as it did. -/
def fnExactCompareRatiosUptoRow : OpenClaim := { program := "ytgkgkaphdfhcnaa", sum := "769a63727cf9a6fd0712733bc1339b3091e38f945fa8e9c32893b4109a982c4a", func := "loop.example/g01129/laws.FnExactCompareRatios", spec := "fnExactCompareRatios", unfollowed := true, recurses := true, apart := false, narrowed := true }
def FnExactCompareRatiosUptoSaid : Prop := fnExactCompareRatiosUptoRow.holds Try.pinned (OpenSpec.upto fnExactCompareRatiosSpec)

/-- 'laws.FnExactConstantWord', WHERE WHAT IT READS IS OF BULK AT MOST 1048576: true; the input reads as it did. -/
def fnExactConstantWordUptoRow : OpenClaim := { program := "ytgkgkaphdfhcnaa", sum := "769a63727cf9a6fd0712733bc1339b3091e38f945fa8e9c32893b4109a982c4a", func := "loop.example/g01129/laws.FnExactConstantWord", spec := "fnExactConstantWord", apart := false, narrowed := true }
def FnExactConstantWordUptoSaid : Prop := fnExactConstantWordUptoRow.holds Try.pinned (OpenSpec.upto fnExactConstantWordSpec)

/-- 'laws.FnExactValidVotes', WHERE WHAT IT READS IS OF BULK AT MOST 1048576: true; the input reads as it did. -/
def fnExactValidVotesUptoRow : OpenClaim := { program := "ytgkgkaphdfhcnaa", sum := "769a63727cf9a6fd0712733bc1339b3091e38f945fa8e9c32893b4109a982c4a", func := "loop.example/g01129/laws.FnExactValidVotes", spec := "fnExactValidVotes", unfollowed := true, recurses := true, apart := false, narrowed := true }
def FnExactValidVotesUptoSaid : Prop := fnExactValidVotesUptoRow.holds Try.pinned (OpenSpec.upto fnExactValidVotesSpec)

/-- 'laws.FnDivided', WHERE WHAT IT READS IS OF BULK AT MOST 1048576: true; the input reads as it did. -/
def fnDividedUptoRow : OpenClaim := { program := "ytgkgkaphdfhcnaa", sum := "769a63727cf9a6fd0712733bc1339b3091e38f945fa8e9c32893b4109a982c4a", func := "loop.example/g01129/laws.FnDivided", spec := "fnDivided", unfollowed := true, recurses := true, apart := false, narrowed := true }
def FnDividedUptoSaid : Prop := fnDividedUptoRow.holds Try.pinned (OpenSpec.upto fnDividedSpec)

/-- 'laws.FnExactGreatestOf', WHERE WHAT IT READS IS OF BULK AT MOST 1048576: true; the input reads as it did. -/
def fnExactGreatestOfUptoRow : OpenClaim := { program := "ytgkgkaphdfhcnaa", sum := "769a63727cf9a6fd0712733bc1339b3091e38f945fa8e9c32893b4109a982c4a", func := "loop.example/g01129/laws.FnExactGreatestOf", spec := "fnExactGreatestOf", unfollowed := true, recurses := true, apart := false, narrowed := true }
def FnExactGreatestOfUptoSaid : Prop := fnExactGreatestOfUptoRow.holds Try.pinned (OpenSpec.upto fnExactGreatestOfSpec)

/-- 'laws.FnExactValidValues', WHERE WHAT IT READS IS OF BULK AT MOST 1048576: true; the input reads as it did. -/
def fnExactValidValuesUptoRow : OpenClaim := { program := "ytgkgkaphdfhcnaa", sum := "769a63727cf9a6fd0712733bc1339b3091e38f945fa8e9c32893b4109a982c4a", func := "loop.example/g01129/laws.FnExactValidValues", spec := "fnExactValidValues", unfollowed := true, recurses := true, apart := false, narrowed := true }
def FnExactValidValuesUptoSaid : Prop := fnExactValidValuesUptoRow.holds Try.pinned (OpenSpec.upto fnExactValidValuesSpec)

end Rows
end Go.Proofs.Ytgkgkaphdfhcnaa
