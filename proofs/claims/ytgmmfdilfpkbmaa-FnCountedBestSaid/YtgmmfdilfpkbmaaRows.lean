/-
  No cell of these rows narrows 'for every input' (looked for: loops, veiled, ifaces, maps, wideKeys, modest, calm, conditions, laid).
  DERIVED. THE GIVEN ROWS OF THIS SEAT. 8 by the template 'for every input the law returns true; each argument reads behind the call as it read before'; 0 by the template 'total and deterministic' (their statements: YtgmmfdilfpkbmaaTotals.lean).
  GIVEN WITH THE SEED: the statements are not yours to turn. If you find one false, say at which input.
  Laid BY PROGRAM, IN A SANDBOX (cutbox-rows.mjs): the forced cells as the released guide's own fill.sh prints them over the translation aa6923ed64d8646a… (all of the seat's roots in one cut). By AI agents, Wed Nov 11 2026. No macro, syntax, notation, axiom, sorry.
-/
import Derived.Test.YtgmmfdilfpkbmaaChecked
import GoSem.Claim
import GoSem.ClaimJoined
import GoSem.ClaimMapViews
import Derived.JoinedTies
import Derived.KernelRfl
namespace Go.Proofs.Ytgmmfdilfpkbmaa
/- THE CELL 'sum', in the pinned program and in every row, IS THE sha256 OF THE DUMP (.gsa) THAT YtgmmfdilfpkbmaaProg.lean LOADS. Nothing in Lean hashes anything: it is a label: what it is worth is what the hold of that sum in a sandbox is worth. -/
noncomputable def Try.pinned : Pinned := { name := "ytgmmfdilfpkbmaa", sum := "aa6923ed64d8646a51347bf723716dafdef36e587f46b0c049605ace51a7cfac", checked := Try.checked }
namespace Rows
def none {H : Type} : Left H := { results := [], args := [] }

/-- 'laws.FnExactBestRunning': WHATEVER THE INPUT: true; the input reads as it did. -/
def fnExactBestRunningSpec : ChangeSpec := { name := "fnExactBestRunning", fn := fun _ => fun
  | [d] => { results := [.lit (.bool true)], args := [d] }
  | _ => none }
def fnExactBestRunningRow : OpenClaim := { program := "ytgmmfdilfpkbmaa", sum := "aa6923ed64d8646a51347bf723716dafdef36e587f46b0c049605ace51a7cfac", func := "loop.example/g01129/laws.FnExactBestRunning", spec := "fnExactBestRunning", unfollowed := true, recurses := true, plainKeys := false, apart := false }
def FnExactBestRunningSaid : Prop := fnExactBestRunningRow.holds Try.pinned (OpenSpec.ofChange fnExactBestRunningSpec)

/-- ITS FALSE NEIGHBOUR: 'it returns false'. Refute it at one input. -/
def fnExactBestRunningWrong : ChangeSpec := { name := "fnExactBestRunning", fn := fun _ => fun
  | [d] => { results := [.lit (.bool false)], args := [d] }
  | _ => none }
def FnExactBestRunningWrongFalsely : Prop := fnExactBestRunningRow.holds Try.pinned (OpenSpec.ofChange fnExactBestRunningWrong)

/-- 'laws.FnRunning': WHATEVER THE INPUT: true; the input reads as it did. -/
def fnRunningSpec : ChangeSpec := { name := "fnRunning", fn := fun _ => fun
  | [d1, d2] => { results := [.lit (.bool true)], args := [d1, d2] }
  | _ => none }
def fnRunningRow : OpenClaim := { program := "ytgmmfdilfpkbmaa", sum := "aa6923ed64d8646a51347bf723716dafdef36e587f46b0c049605ace51a7cfac", func := "loop.example/g01129/laws.FnRunning", spec := "fnRunning", unfollowed := true, recurses := true, plainKeys := false, apart := false }
def FnRunningSaid : Prop := fnRunningRow.holds Try.pinned (OpenSpec.ofChange fnRunningSpec)

/-- ITS FALSE NEIGHBOUR: 'it returns false'. Refute it at one input. -/
def fnRunningWrong : ChangeSpec := { name := "fnRunning", fn := fun _ => fun
  | [d1, d2] => { results := [.lit (.bool false)], args := [d1, d2] }
  | _ => none }
def FnRunningWrongFalsely : Prop := fnRunningRow.holds Try.pinned (OpenSpec.ofChange fnRunningWrong)

/-- 'laws.FnPercents': WHATEVER THE INPUT: true; the input reads as it did. -/
def fnPercentsSpec : ChangeSpec := { name := "fnPercents", fn := fun _ => fun
  | [d1, d2] => { results := [.lit (.bool true)], args := [d1, d2] }
  | _ => none }
def fnPercentsRow : OpenClaim := { program := "ytgmmfdilfpkbmaa", sum := "aa6923ed64d8646a51347bf723716dafdef36e587f46b0c049605ace51a7cfac", func := "loop.example/g01129/laws.FnPercents", spec := "fnPercents", unfollowed := true, recurses := true, plainKeys := false, apart := false }
def FnPercentsSaid : Prop := fnPercentsRow.holds Try.pinned (OpenSpec.ofChange fnPercentsSpec)

/-- ITS FALSE NEIGHBOUR: 'it returns false'. Refute it at one input. -/
def fnPercentsWrong : ChangeSpec := { name := "fnPercents", fn := fun _ => fun
  | [d1, d2] => { results := [.lit (.bool false)], args := [d1, d2] }
  | _ => none }
def FnPercentsWrongFalsely : Prop := fnPercentsRow.holds Try.pinned (OpenSpec.ofChange fnPercentsWrong)

/-- 'laws.FnExactPercentsOf': WHATEVER THE INPUT: true; the input reads as it did. -/
def fnExactPercentsOfSpec : ChangeSpec := { name := "fnExactPercentsOf", fn := fun _ => fun
  | [d1, d2] => { results := [.lit (.bool true)], args := [d1, d2] }
  | _ => none }
def fnExactPercentsOfRow : OpenClaim := { program := "ytgmmfdilfpkbmaa", sum := "aa6923ed64d8646a51347bf723716dafdef36e587f46b0c049605ace51a7cfac", func := "loop.example/g01129/laws.FnExactPercentsOf", spec := "fnExactPercentsOf", unfollowed := true, recurses := true, plainKeys := false, apart := false }
def FnExactPercentsOfSaid : Prop := fnExactPercentsOfRow.holds Try.pinned (OpenSpec.ofChange fnExactPercentsOfSpec)

/-- ITS FALSE NEIGHBOUR: 'it returns false'. Refute it at one input. -/
def fnExactPercentsOfWrong : ChangeSpec := { name := "fnExactPercentsOf", fn := fun _ => fun
  | [d1, d2] => { results := [.lit (.bool false)], args := [d1, d2] }
  | _ => none }
def FnExactPercentsOfWrongFalsely : Prop := fnExactPercentsOfRow.holds Try.pinned (OpenSpec.ofChange fnExactPercentsOfWrong)

/-- 'laws.FnLeastError': WHATEVER THE INPUT: true; the input reads as it did. -/
def fnLeastErrorSpec : ChangeSpec := { name := "fnLeastError", fn := fun _ => fun
  | [d1, d2] => { results := [.lit (.bool true)], args := [d1, d2] }
  | _ => none }
def fnLeastErrorRow : OpenClaim := { program := "ytgmmfdilfpkbmaa", sum := "aa6923ed64d8646a51347bf723716dafdef36e587f46b0c049605ace51a7cfac", func := "loop.example/g01129/laws.FnLeastError", spec := "fnLeastError", unfollowed := true, recurses := true, plainKeys := false, apart := false }
def FnLeastErrorSaid : Prop := fnLeastErrorRow.holds Try.pinned (OpenSpec.ofChange fnLeastErrorSpec)

/-- ITS FALSE NEIGHBOUR: 'it returns false'. Refute it at one input. -/
def fnLeastErrorWrong : ChangeSpec := { name := "fnLeastError", fn := fun _ => fun
  | [d1, d2] => { results := [.lit (.bool false)], args := [d1, d2] }
  | _ => none }
def FnLeastErrorWrongFalsely : Prop := fnLeastErrorRow.holds Try.pinned (OpenSpec.ofChange fnLeastErrorWrong)

/-- 'laws.FnCountedBest': WHATEVER THE INPUT: true; the input reads as it did. -/
def fnCountedBestSpec : ChangeSpec := { name := "fnCountedBest", fn := fun _ => fun
  | [d1, d2] => { results := [.lit (.bool true)], args := [d1, d2] }
  | _ => none }
def fnCountedBestRow : OpenClaim := { program := "ytgmmfdilfpkbmaa", sum := "aa6923ed64d8646a51347bf723716dafdef36e587f46b0c049605ace51a7cfac", func := "loop.example/g01129/laws.FnCountedBest", spec := "fnCountedBest", unfollowed := true, recurses := true, plainKeys := false, apart := false }
def FnCountedBestSaid : Prop := fnCountedBestRow.holds Try.pinned (OpenSpec.ofChange fnCountedBestSpec)

/-- ITS FALSE NEIGHBOUR: 'it returns false'. Refute it at one input. -/
def fnCountedBestWrong : ChangeSpec := { name := "fnCountedBest", fn := fun _ => fun
  | [d1, d2] => { results := [.lit (.bool false)], args := [d1, d2] }
  | _ => none }
def FnCountedBestWrongFalsely : Prop := fnCountedBestRow.holds Try.pinned (OpenSpec.ofChange fnCountedBestWrong)

/-- 'laws.FnExactCountBest': WHATEVER THE INPUT: true; the input reads as it did. -/
def fnExactCountBestSpec : ChangeSpec := { name := "fnExactCountBest", fn := fun _ => fun
  | [d1, d2, d3] => { results := [.lit (.bool true)], args := [d1, d2, d3] }
  | _ => none }
def fnExactCountBestRow : OpenClaim := { program := "ytgmmfdilfpkbmaa", sum := "aa6923ed64d8646a51347bf723716dafdef36e587f46b0c049605ace51a7cfac", func := "loop.example/g01129/laws.FnExactCountBest", spec := "fnExactCountBest", unfollowed := true, recurses := true, plainKeys := false, apart := false }
def FnExactCountBestSaid : Prop := fnExactCountBestRow.holds Try.pinned (OpenSpec.ofChange fnExactCountBestSpec)

/-- ITS FALSE NEIGHBOUR: 'it returns false'. Refute it at one input. -/
def fnExactCountBestWrong : ChangeSpec := { name := "fnExactCountBest", fn := fun _ => fun
  | [d1, d2, d3] => { results := [.lit (.bool false)], args := [d1, d2, d3] }
  | _ => none }
def FnExactCountBestWrongFalsely : Prop := fnExactCountBestRow.holds Try.pinned (OpenSpec.ofChange fnExactCountBestWrong)

/-- 'laws.FnExactBestRounding': WHATEVER THE INPUT: true; the input reads as it did. -/
def fnExactBestRoundingSpec : ChangeSpec := { name := "fnExactBestRounding", fn := fun _ => fun
  | [d1, d2, d3] => { results := [.lit (.bool true)], args := [d1, d2, d3] }
  | _ => none }
def fnExactBestRoundingRow : OpenClaim := { program := "ytgmmfdilfpkbmaa", sum := "aa6923ed64d8646a51347bf723716dafdef36e587f46b0c049605ace51a7cfac", func := "loop.example/g01129/laws.FnExactBestRounding", spec := "fnExactBestRounding", unfollowed := true, recurses := true, plainKeys := false, apart := false }
def FnExactBestRoundingSaid : Prop := fnExactBestRoundingRow.holds Try.pinned (OpenSpec.ofChange fnExactBestRoundingSpec)

/-- ITS FALSE NEIGHBOUR: 'it returns false'. Refute it at one input. -/
def fnExactBestRoundingWrong : ChangeSpec := { name := "fnExactBestRounding", fn := fun _ => fun
  | [d1, d2, d3] => { results := [.lit (.bool false)], args := [d1, d2, d3] }
  | _ => none }
def FnExactBestRoundingWrongFalsely : Prop := fnExactBestRoundingRow.holds Try.pinned (OpenSpec.ofChange fnExactBestRoundingWrong)

/- THE SECOND FORM. 'bulk': how many values and letters a reading holds, each counted each time it is reached (what is shared counts as often as it is met; a slice's spare places count too). A statement '..UptoSaid' is the law's where the arguments, and the package variables that the reading takes, are together of bulk at most 1048576: NARROWER than '..Said'. Prove '..Said' where nothing that the law and all that it calls make is longer than what came in: it says more and counts as full. Else prove '..UptoSaid'. A law counts once. -/
mutual
def uptoBulk {H : Type} : DataW H → Nat
  | .lit (.string bytes) => bytes.length + 1
  | .lit _ => 1
  | .nil => 1
  | .ptr d => uptoBulk d + 1
  | .slice elems spare => uptoBulkAll elems + uptoBulkAll spare + 1
  | .agg parts => uptoBulkAll parts + 1
  | .iface _ d => uptoBulk d + 1
  | .map entries => uptoBulkEntries entries + 1
  | .held _ => 1
def uptoBulkAll {H : Type} : List (DataW H) → Nat
  | [] => 0
  | d :: r => uptoBulk d + uptoBulkAll r
def uptoBulkEntries {H : Type} : List (Lit × DataW H) → Nat
  | [] => 0
  | x :: r => uptoBulkEntry x + uptoBulkEntries r
def uptoBulkEntry {H : Type} : Lit × DataW H → Nat
  | (.string bytes, d) => bytes.length + uptoBulk d + 1
  | (_, d) => uptoBulk d + 1
 end
def uptoSmall : (H : Type) → List (DataW H) → Bool := fun _ ds => decide (uptoBulkAll ds ≤ 1048576)
def OpenSpec.upto (s : _root_.Go.ChangeSpec) : _root_.Go.OpenSpec := { _root_.Go.OpenSpec.ofChange s with cond := some uptoSmall }

/-- 'laws.FnExactBestRunning', WHERE WHAT IT READS IS OF BULK AT MOST 1048576: true; the input reads as it did. -/
def fnExactBestRunningUptoRow : OpenClaim := { program := "ytgmmfdilfpkbmaa", sum := "aa6923ed64d8646a51347bf723716dafdef36e587f46b0c049605ace51a7cfac", func := "loop.example/g01129/laws.FnExactBestRunning", spec := "fnExactBestRunning", unfollowed := true, recurses := true, plainKeys := false, apart := false, narrowed := true }
def FnExactBestRunningUptoSaid : Prop := fnExactBestRunningUptoRow.holds Try.pinned (OpenSpec.upto fnExactBestRunningSpec)

/-- 'laws.FnRunning', WHERE WHAT IT READS IS OF BULK AT MOST 1048576: true; the input reads as it did. -/
def fnRunningUptoRow : OpenClaim := { program := "ytgmmfdilfpkbmaa", sum := "aa6923ed64d8646a51347bf723716dafdef36e587f46b0c049605ace51a7cfac", func := "loop.example/g01129/laws.FnRunning", spec := "fnRunning", unfollowed := true, recurses := true, plainKeys := false, apart := false, narrowed := true }
def FnRunningUptoSaid : Prop := fnRunningUptoRow.holds Try.pinned (OpenSpec.upto fnRunningSpec)

/-- 'laws.FnPercents', WHERE WHAT IT READS IS OF BULK AT MOST 1048576: true; the input reads as it did. -/
def fnPercentsUptoRow : OpenClaim := { program := "ytgmmfdilfpkbmaa", sum := "aa6923ed64d8646a51347bf723716dafdef36e587f46b0c049605ace51a7cfac", func := "loop.example/g01129/laws.FnPercents", spec := "fnPercents", unfollowed := true, recurses := true, plainKeys := false, apart := false, narrowed := true }
def FnPercentsUptoSaid : Prop := fnPercentsUptoRow.holds Try.pinned (OpenSpec.upto fnPercentsSpec)

/-- 'laws.FnExactPercentsOf', WHERE WHAT IT READS IS OF BULK AT MOST 1048576: true; the input reads as it did. -/
def fnExactPercentsOfUptoRow : OpenClaim := { program := "ytgmmfdilfpkbmaa", sum := "aa6923ed64d8646a51347bf723716dafdef36e587f46b0c049605ace51a7cfac", func := "loop.example/g01129/laws.FnExactPercentsOf", spec := "fnExactPercentsOf", unfollowed := true, recurses := true, plainKeys := false, apart := false, narrowed := true }
def FnExactPercentsOfUptoSaid : Prop := fnExactPercentsOfUptoRow.holds Try.pinned (OpenSpec.upto fnExactPercentsOfSpec)

/-- 'laws.FnLeastError', WHERE WHAT IT READS IS OF BULK AT MOST 1048576: true; the input reads as it did. -/
def fnLeastErrorUptoRow : OpenClaim := { program := "ytgmmfdilfpkbmaa", sum := "aa6923ed64d8646a51347bf723716dafdef36e587f46b0c049605ace51a7cfac", func := "loop.example/g01129/laws.FnLeastError", spec := "fnLeastError", unfollowed := true, recurses := true, plainKeys := false, apart := false, narrowed := true }
def FnLeastErrorUptoSaid : Prop := fnLeastErrorUptoRow.holds Try.pinned (OpenSpec.upto fnLeastErrorSpec)

/-- 'laws.FnCountedBest', WHERE WHAT IT READS IS OF BULK AT MOST 1048576: true; the input reads as it did. -/
def fnCountedBestUptoRow : OpenClaim := { program := "ytgmmfdilfpkbmaa", sum := "aa6923ed64d8646a51347bf723716dafdef36e587f46b0c049605ace51a7cfac", func := "loop.example/g01129/laws.FnCountedBest", spec := "fnCountedBest", unfollowed := true, recurses := true, plainKeys := false, apart := false, narrowed := true }
def FnCountedBestUptoSaid : Prop := fnCountedBestUptoRow.holds Try.pinned (OpenSpec.upto fnCountedBestSpec)

/-- 'laws.FnExactCountBest', WHERE WHAT IT READS IS OF BULK AT MOST 1048576: true; the input reads as it did. -/
def fnExactCountBestUptoRow : OpenClaim := { program := "ytgmmfdilfpkbmaa", sum := "aa6923ed64d8646a51347bf723716dafdef36e587f46b0c049605ace51a7cfac", func := "loop.example/g01129/laws.FnExactCountBest", spec := "fnExactCountBest", unfollowed := true, recurses := true, plainKeys := false, apart := false, narrowed := true }
def FnExactCountBestUptoSaid : Prop := fnExactCountBestUptoRow.holds Try.pinned (OpenSpec.upto fnExactCountBestSpec)

/-- 'laws.FnExactBestRounding', WHERE WHAT IT READS IS OF BULK AT MOST 1048576: true; the input reads as it did. -/
def fnExactBestRoundingUptoRow : OpenClaim := { program := "ytgmmfdilfpkbmaa", sum := "aa6923ed64d8646a51347bf723716dafdef36e587f46b0c049605ace51a7cfac", func := "loop.example/g01129/laws.FnExactBestRounding", spec := "fnExactBestRounding", unfollowed := true, recurses := true, plainKeys := false, apart := false, narrowed := true }
def FnExactBestRoundingUptoSaid : Prop := fnExactBestRoundingUptoRow.holds Try.pinned (OpenSpec.upto fnExactBestRoundingSpec)

end Rows
end Go.Proofs.Ytgmmfdilfpkbmaa
