/-
  No cell of these rows narrows 'for every input' (looked for: loops, veiled, ifaces, maps, wideKeys, modest, calm, conditions, laid).
  DERIVED. THE GIVEN ROWS OF THIS SEAT. 12 by the template 'for every input the law returns true; each argument reads behind the call as it read before'; 0 by the template 'total and deterministic' (their statements: YtnjehjkacicamaaTotals.lean).
  GIVEN WITH THE SEED: the statements are not yours to turn. If you find one false, say at which input.
  Laid BY PROGRAM, IN A SANDBOX (cutbox-rows.mjs): the forced cells as the released guide's own fill.sh prints them over the translation 0ac0517dd7f94f7c… (all of the seat's roots in one cut). By AI agents, Wed Nov 11 2026. No macro, syntax, notation, axiom, sorry.
-/
import Derived.Test.YtnjehjkacicamaaChecked
import GoSem.Claim
import GoSem.ClaimJoined
import GoSem.ClaimMapViews
import Derived.JoinedTies
import Derived.KernelRfl
namespace Go.Proofs.Ytnjehjkacicamaa
/- THE CELL 'sum', in the pinned program and in every row, IS THE sha256 OF THE DUMP (.gsa) THAT YtnjehjkacicamaaProg.lean LOADS. Nothing in Lean hashes anything: it is a label: what it is worth is what the hold of that sum in a sandbox is worth. -/
noncomputable def Try.pinned : Pinned := { name := "ytnjehjkacicamaa", sum := "0ac0517dd7f94f7c48199a72f56da153bc4c895930453ed257877ef6d23dc9eb", checked := Try.checked }
namespace Rows
def none {H : Type} : Left H := { results := [], args := [] }

/-- 'laws.FnExactNearestOf': WHATEVER THE INPUT: true; the input reads as it did. -/
def fnExactNearestOfSpec : ChangeSpec := { name := "fnExactNearestOf", fn := fun _ => fun
  | [d] => { results := [.lit (.bool true)], args := [d] }
  | _ => none }
def fnExactNearestOfRow : OpenClaim := { program := "ytnjehjkacicamaa", sum := "0ac0517dd7f94f7c48199a72f56da153bc4c895930453ed257877ef6d23dc9eb", func := "loop.example/g01129/laws.FnExactNearestOf", spec := "fnExactNearestOf", unfollowed := true, recurses := true, plainKeys := false, apart := false }
def FnExactNearestOfSaid : Prop := fnExactNearestOfRow.holds Try.pinned (OpenSpec.ofChange fnExactNearestOfSpec)

/-- ITS FALSE NEIGHBOUR: 'it returns false'. Refute it at one input. -/
def fnExactNearestOfWrong : ChangeSpec := { name := "fnExactNearestOf", fn := fun _ => fun
  | [d] => { results := [.lit (.bool false)], args := [d] }
  | _ => none }
def FnExactNearestOfWrongFalsely : Prop := fnExactNearestOfRow.holds Try.pinned (OpenSpec.ofChange fnExactNearestOfWrong)

/-- 'laws.FnMoreVotes': WHATEVER THE INPUT: true; the input reads as it did. -/
def fnMoreVotesSpec : ChangeSpec := { name := "fnMoreVotes", fn := fun _ => fun
  | [d1, d2] => { results := [.lit (.bool true)], args := [d1, d2] }
  | _ => none }
def fnMoreVotesRow : OpenClaim := { program := "ytnjehjkacicamaa", sum := "0ac0517dd7f94f7c48199a72f56da153bc4c895930453ed257877ef6d23dc9eb", func := "loop.example/g01129/laws.FnMoreVotes", spec := "fnMoreVotes", unfollowed := true, recurses := true, plainKeys := false, apart := false }
def FnMoreVotesSaid : Prop := fnMoreVotesRow.holds Try.pinned (OpenSpec.ofChange fnMoreVotesSpec)

/-- ITS FALSE NEIGHBOUR: 'it returns false'. Refute it at one input. -/
def fnMoreVotesWrong : ChangeSpec := { name := "fnMoreVotes", fn := fun _ => fun
  | [d1, d2] => { results := [.lit (.bool false)], args := [d1, d2] }
  | _ => none }
def FnMoreVotesWrongFalsely : Prop := fnMoreVotesRow.holds Try.pinned (OpenSpec.ofChange fnMoreVotesWrong)

/-- 'laws.FnExactOutsideQuotas': WHATEVER THE INPUT: true; the input reads as it did. -/
def fnExactOutsideQuotasSpec : ChangeSpec := { name := "fnExactOutsideQuotas", fn := fun _ => fun
  | [d1, d2] => { results := [.lit (.bool true)], args := [d1, d2] }
  | _ => none }
def fnExactOutsideQuotasRow : OpenClaim := { program := "ytnjehjkacicamaa", sum := "0ac0517dd7f94f7c48199a72f56da153bc4c895930453ed257877ef6d23dc9eb", func := "loop.example/g01129/laws.FnExactOutsideQuotas", spec := "fnExactOutsideQuotas", unfollowed := true, recurses := true, plainKeys := false, apart := false }
def FnExactOutsideQuotasSaid : Prop := fnExactOutsideQuotasRow.holds Try.pinned (OpenSpec.ofChange fnExactOutsideQuotasSpec)

/-- ITS FALSE NEIGHBOUR: 'it returns false'. Refute it at one input. -/
def fnExactOutsideQuotasWrong : ChangeSpec := { name := "fnExactOutsideQuotas", fn := fun _ => fun
  | [d1, d2] => { results := [.lit (.bool false)], args := [d1, d2] }
  | _ => none }
def FnExactOutsideQuotasWrongFalsely : Prop := fnExactOutsideQuotasRow.holds Try.pinned (OpenSpec.ofChange fnExactOutsideQuotasWrong)

/-- 'laws.FnExactPrefixNearest': WHATEVER THE INPUT: true; the input reads as it did. -/
def fnExactPrefixNearestSpec : ChangeSpec := { name := "fnExactPrefixNearest", fn := fun _ => fun
  | [d] => { results := [.lit (.bool true)], args := [d] }
  | _ => none }
def fnExactPrefixNearestRow : OpenClaim := { program := "ytnjehjkacicamaa", sum := "0ac0517dd7f94f7c48199a72f56da153bc4c895930453ed257877ef6d23dc9eb", func := "loop.example/g01129/laws.FnExactPrefixNearest", spec := "fnExactPrefixNearest", unfollowed := true, recurses := true, plainKeys := false, apart := false }
def FnExactPrefixNearestSaid : Prop := fnExactPrefixNearestRow.holds Try.pinned (OpenSpec.ofChange fnExactPrefixNearestSpec)

/-- ITS FALSE NEIGHBOUR: 'it returns false'. Refute it at one input. -/
def fnExactPrefixNearestWrong : ChangeSpec := { name := "fnExactPrefixNearest", fn := fun _ => fun
  | [d] => { results := [.lit (.bool false)], args := [d] }
  | _ => none }
def FnExactPrefixNearestWrongFalsely : Prop := fnExactPrefixNearestRow.holds Try.pinned (OpenSpec.ofChange fnExactPrefixNearestWrong)

/-- 'laws.FnTies': WHATEVER THE INPUT: true; the input reads as it did. -/
def fnTiesSpec : ChangeSpec := { name := "fnTies", fn := fun _ => fun
  | [d1, d2] => { results := [.lit (.bool true)], args := [d1, d2] }
  | _ => none }
def fnTiesRow : OpenClaim := { program := "ytnjehjkacicamaa", sum := "0ac0517dd7f94f7c48199a72f56da153bc4c895930453ed257877ef6d23dc9eb", func := "loop.example/g01129/laws.FnTies", spec := "fnTies", unfollowed := true, recurses := true, plainKeys := false, apart := false }
def FnTiesSaid : Prop := fnTiesRow.holds Try.pinned (OpenSpec.ofChange fnTiesSpec)

/-- ITS FALSE NEIGHBOUR: 'it returns false'. Refute it at one input. -/
def fnTiesWrong : ChangeSpec := { name := "fnTies", fn := fun _ => fun
  | [d1, d2] => { results := [.lit (.bool false)], args := [d1, d2] }
  | _ => none }
def FnTiesWrongFalsely : Prop := fnTiesRow.holds Try.pinned (OpenSpec.ofChange fnTiesWrong)

/-- 'laws.FnExactIsRunning': WHATEVER THE INPUT: true; the input reads as it did. -/
def fnExactIsRunningSpec : ChangeSpec := { name := "fnExactIsRunning", fn := fun _ => fun
  | [d1, d2] => { results := [.lit (.bool true)], args := [d1, d2] }
  | _ => none }
def fnExactIsRunningRow : OpenClaim := { program := "ytnjehjkacicamaa", sum := "0ac0517dd7f94f7c48199a72f56da153bc4c895930453ed257877ef6d23dc9eb", func := "loop.example/g01129/laws.FnExactIsRunning", spec := "fnExactIsRunning", unfollowed := true, recurses := true, plainKeys := false, apart := false }
def FnExactIsRunningSaid : Prop := fnExactIsRunningRow.holds Try.pinned (OpenSpec.ofChange fnExactIsRunningSpec)

/-- ITS FALSE NEIGHBOUR: 'it returns false'. Refute it at one input. -/
def fnExactIsRunningWrong : ChangeSpec := { name := "fnExactIsRunning", fn := fun _ => fun
  | [d1, d2] => { results := [.lit (.bool false)], args := [d1, d2] }
  | _ => none }
def FnExactIsRunningWrongFalsely : Prop := fnExactIsRunningRow.holds Try.pinned (OpenSpec.ofChange fnExactIsRunningWrong)

/-- 'laws.FnExactIsSeatsBy': WHATEVER THE INPUT: true; the input reads as it did. -/
def fnExactIsSeatsBySpec : ChangeSpec := { name := "fnExactIsSeatsBy", fn := fun _ => fun
  | [d1, d2, d3] => { results := [.lit (.bool true)], args := [d1, d2, d3] }
  | _ => none }
def fnExactIsSeatsByRow : OpenClaim := { program := "ytnjehjkacicamaa", sum := "0ac0517dd7f94f7c48199a72f56da153bc4c895930453ed257877ef6d23dc9eb", func := "loop.example/g01129/laws.FnExactIsSeatsBy", spec := "fnExactIsSeatsBy", unfollowed := true, recurses := true, plainKeys := false, apart := false }
def FnExactIsSeatsBySaid : Prop := fnExactIsSeatsByRow.holds Try.pinned (OpenSpec.ofChange fnExactIsSeatsBySpec)

/-- ITS FALSE NEIGHBOUR: 'it returns false'. Refute it at one input. -/
def fnExactIsSeatsByWrong : ChangeSpec := { name := "fnExactIsSeatsBy", fn := fun _ => fun
  | [d1, d2, d3] => { results := [.lit (.bool false)], args := [d1, d2, d3] }
  | _ => none }
def FnExactIsSeatsByWrongFalsely : Prop := fnExactIsSeatsByRow.holds Try.pinned (OpenSpec.ofChange fnExactIsSeatsByWrong)

/-- 'laws.FnFeedback': WHATEVER THE INPUT: true; the input reads as it did. -/
def fnFeedbackSpec : ChangeSpec := { name := "fnFeedback", fn := fun _ => fun
  | [d1, d2] => { results := [.lit (.bool true)], args := [d1, d2] }
  | _ => none }
def fnFeedbackRow : OpenClaim := { program := "ytnjehjkacicamaa", sum := "0ac0517dd7f94f7c48199a72f56da153bc4c895930453ed257877ef6d23dc9eb", func := "loop.example/g01129/laws.FnFeedback", spec := "fnFeedback", unfollowed := true, recurses := true, plainKeys := false, apart := false }
def FnFeedbackSaid : Prop := fnFeedbackRow.holds Try.pinned (OpenSpec.ofChange fnFeedbackSpec)

/-- ITS FALSE NEIGHBOUR: 'it returns false'. Refute it at one input. -/
def fnFeedbackWrong : ChangeSpec := { name := "fnFeedback", fn := fun _ => fun
  | [d1, d2] => { results := [.lit (.bool false)], args := [d1, d2] }
  | _ => none }
def FnFeedbackWrongFalsely : Prop := fnFeedbackRow.holds Try.pinned (OpenSpec.ofChange fnFeedbackWrong)

/-- 'laws.FnExactFeedbackOf': WHATEVER THE INPUT: true; the input reads as it did. -/
def fnExactFeedbackOfSpec : ChangeSpec := { name := "fnExactFeedbackOf", fn := fun _ => fun
  | [d1, d2, d3] => { results := [.lit (.bool true)], args := [d1, d2, d3] }
  | _ => none }
def fnExactFeedbackOfRow : OpenClaim := { program := "ytnjehjkacicamaa", sum := "0ac0517dd7f94f7c48199a72f56da153bc4c895930453ed257877ef6d23dc9eb", func := "loop.example/g01129/laws.FnExactFeedbackOf", spec := "fnExactFeedbackOf", unfollowed := true, recurses := true, plainKeys := false, apart := false }
def FnExactFeedbackOfSaid : Prop := fnExactFeedbackOfRow.holds Try.pinned (OpenSpec.ofChange fnExactFeedbackOfSpec)

/-- ITS FALSE NEIGHBOUR: 'it returns false'. Refute it at one input. -/
def fnExactFeedbackOfWrong : ChangeSpec := { name := "fnExactFeedbackOf", fn := fun _ => fun
  | [d1, d2, d3] => { results := [.lit (.bool false)], args := [d1, d2, d3] }
  | _ => none }
def FnExactFeedbackOfWrongFalsely : Prop := fnExactFeedbackOfRow.holds Try.pinned (OpenSpec.ofChange fnExactFeedbackOfWrong)

/-- 'laws.FnExactSecondOf': WHATEVER THE INPUT: true; the input reads as it did. -/
def fnExactSecondOfSpec : ChangeSpec := { name := "fnExactSecondOf", fn := fun _ => fun
  | [d1, d2, d3] => { results := [.lit (.bool true)], args := [d1, d2, d3] }
  | _ => none }
def fnExactSecondOfRow : OpenClaim := { program := "ytnjehjkacicamaa", sum := "0ac0517dd7f94f7c48199a72f56da153bc4c895930453ed257877ef6d23dc9eb", func := "loop.example/g01129/laws.FnExactSecondOf", spec := "fnExactSecondOf", unfollowed := true, recurses := true, plainKeys := false, apart := false }
def FnExactSecondOfSaid : Prop := fnExactSecondOfRow.holds Try.pinned (OpenSpec.ofChange fnExactSecondOfSpec)

/-- ITS FALSE NEIGHBOUR: 'it returns false'. Refute it at one input. -/
def fnExactSecondOfWrong : ChangeSpec := { name := "fnExactSecondOf", fn := fun _ => fun
  | [d1, d2, d3] => { results := [.lit (.bool false)], args := [d1, d2, d3] }
  | _ => none }
def FnExactSecondOfWrongFalsely : Prop := fnExactSecondOfRow.holds Try.pinned (OpenSpec.ofChange fnExactSecondOfWrong)

/-- 'laws.FnExactCountRunning': WHATEVER THE INPUT: true; the input reads as it did. -/
def fnExactCountRunningSpec : ChangeSpec := { name := "fnExactCountRunning", fn := fun _ => fun
  | [d] => { results := [.lit (.bool true)], args := [d] }
  | _ => none }
def fnExactCountRunningRow : OpenClaim := { program := "ytnjehjkacicamaa", sum := "0ac0517dd7f94f7c48199a72f56da153bc4c895930453ed257877ef6d23dc9eb", func := "loop.example/g01129/laws.FnExactCountRunning", spec := "fnExactCountRunning", unfollowed := true, recurses := true, plainKeys := false, apart := false }
def FnExactCountRunningSaid : Prop := fnExactCountRunningRow.holds Try.pinned (OpenSpec.ofChange fnExactCountRunningSpec)

/-- ITS FALSE NEIGHBOUR: 'it returns false'. Refute it at one input. -/
def fnExactCountRunningWrong : ChangeSpec := { name := "fnExactCountRunning", fn := fun _ => fun
  | [d] => { results := [.lit (.bool false)], args := [d] }
  | _ => none }
def FnExactCountRunningWrongFalsely : Prop := fnExactCountRunningRow.holds Try.pinned (OpenSpec.ofChange fnExactCountRunningWrong)

/-- 'laws.FnExactErrorOf': WHATEVER THE INPUT: true; the input reads as it did. -/
def fnExactErrorOfSpec : ChangeSpec := { name := "fnExactErrorOf", fn := fun _ => fun
  | [d1, d2, d3] => { results := [.lit (.bool true)], args := [d1, d2, d3] }
  | _ => none }
def fnExactErrorOfRow : OpenClaim := { program := "ytnjehjkacicamaa", sum := "0ac0517dd7f94f7c48199a72f56da153bc4c895930453ed257877ef6d23dc9eb", func := "loop.example/g01129/laws.FnExactErrorOf", spec := "fnExactErrorOf", unfollowed := true, recurses := true, plainKeys := false, apart := false }
def FnExactErrorOfSaid : Prop := fnExactErrorOfRow.holds Try.pinned (OpenSpec.ofChange fnExactErrorOfSpec)

/-- ITS FALSE NEIGHBOUR: 'it returns false'. Refute it at one input. -/
def fnExactErrorOfWrong : ChangeSpec := { name := "fnExactErrorOf", fn := fun _ => fun
  | [d1, d2, d3] => { results := [.lit (.bool false)], args := [d1, d2, d3] }
  | _ => none }
def FnExactErrorOfWrongFalsely : Prop := fnExactErrorOfRow.holds Try.pinned (OpenSpec.ofChange fnExactErrorOfWrong)

/- THE SECOND FORM. 'bulk': how many values and letters a reading holds, each counted each time it is reached (what is shared counts as often as it is met; a slice's spare places count too). A statement '..UptoSaid' is the law's where the arguments, and the package variables that the reading takes, are together of bulk at most 1048576: NARROWER than '..Said'. Prove '..Said' where nothing that the law and all that it calls make is longer than what came in: it says more and counts as full. Else prove '..UptoSaid'. A law counts once. -/
mutual
def uptoBulk {H : Type} : DataW H → Nat
  | .lit (.string bytes) => bytes.length + 1
  | .lit _ => 1
  | .nil => 1
  | .ptr d => uptoBulk d + 1
  | .slice elems spare => uptoBulkAll elems + uptoBulkAll spare + 1
  | .agg parts => uptoBulkAll parts + 1
  | .iface _ d => uptoBulk d + 1
  | .map entries => uptoBulkEntries entries + 1
  | .held _ => 1
def uptoBulkAll {H : Type} : List (DataW H) → Nat
  | [] => 0
  | d :: r => uptoBulk d + uptoBulkAll r
def uptoBulkEntries {H : Type} : List (Lit × DataW H) → Nat
  | [] => 0
  | x :: r => uptoBulkEntry x + uptoBulkEntries r
def uptoBulkEntry {H : Type} : Lit × DataW H → Nat
  | (.string bytes, d) => bytes.length + uptoBulk d + 1
  | (_, d) => uptoBulk d + 1
 end
def uptoSmall : (H : Type) → List (DataW H) → Bool := fun _ ds => decide (uptoBulkAll ds ≤ 1048576)
def OpenSpec.upto (s : _root_.Go.ChangeSpec) : _root_.Go.OpenSpec := { _root_.Go.OpenSpec.ofChange s with cond := some uptoSmall }

/-- 'laws.FnExactNearestOf', WHERE WHAT IT READS IS OF BULK AT MOST 1048576: true; the input reads as it did. -/
def fnExactNearestOfUptoRow : OpenClaim := { program := "ytnjehjkacicamaa", sum := "0ac0517dd7f94f7c48199a72f56da153bc4c895930453ed257877ef6d23dc9eb", func := "loop.example/g01129/laws.FnExactNearestOf", spec := "fnExactNearestOf", unfollowed := true, recurses := true, plainKeys := false, apart := false, narrowed := true }
def FnExactNearestOfUptoSaid : Prop := fnExactNearestOfUptoRow.holds Try.pinned (OpenSpec.upto fnExactNearestOfSpec)

/-- 'laws.FnMoreVotes', WHERE WHAT IT READS IS OF BULK AT MOST 1048576: true; the input reads as it did. -/
def fnMoreVotesUptoRow : OpenClaim := { program := "ytnjehjkacicamaa", sum := "0ac0517dd7f94f7c48199a72f56da153bc4c895930453ed257877ef6d23dc9eb", func := "loop.example/g01129/laws.FnMoreVotes", spec := "fnMoreVotes", unfollowed := true, recurses := true, plainKeys := false, apart := false, narrowed := true }
def FnMoreVotesUptoSaid : Prop := fnMoreVotesUptoRow.holds Try.pinned (OpenSpec.upto fnMoreVotesSpec)

/-- 'laws.FnExactOutsideQuotas', WHERE WHAT IT READS IS OF BULK AT MOST 1048576: true; the input reads as it did. -/
def fnExactOutsideQuotasUptoRow : OpenClaim := { program := "ytnjehjkacicamaa", sum := "0ac0517dd7f94f7c48199a72f56da153bc4c895930453ed257877ef6d23dc9eb", func := "loop.example/g01129/laws.FnExactOutsideQuotas", spec := "fnExactOutsideQuotas", unfollowed := true, recurses := true, plainKeys := false, apart := false, narrowed := true }
def FnExactOutsideQuotasUptoSaid : Prop := fnExactOutsideQuotasUptoRow.holds Try.pinned (OpenSpec.upto fnExactOutsideQuotasSpec)

/-- 'laws.FnExactPrefixNearest', WHERE WHAT IT READS IS OF BULK AT MOST 1048576: true; the input reads as it did. -/
def fnExactPrefixNearestUptoRow : OpenClaim := { program := "ytnjehjkacicamaa", sum := "0ac0517dd7f94f7c48199a72f56da153bc4c895930453ed257877ef6d23dc9eb", func := "loop.example/g01129/laws.FnExactPrefixNearest", spec := "fnExactPrefixNearest", unfollowed := true, recurses := true, plainKeys := false, apart := false, narrowed := true }
def FnExactPrefixNearestUptoSaid : Prop := fnExactPrefixNearestUptoRow.holds Try.pinned (OpenSpec.upto fnExactPrefixNearestSpec)

/-- 'laws.FnTies', WHERE WHAT IT READS IS OF BULK AT MOST 1048576: true; the input reads as it did. -/
def fnTiesUptoRow : OpenClaim := { program := "ytnjehjkacicamaa", sum := "0ac0517dd7f94f7c48199a72f56da153bc4c895930453ed257877ef6d23dc9eb", func := "loop.example/g01129/laws.FnTies", spec := "fnTies", unfollowed := true, recurses := true, plainKeys := false, apart := false, narrowed := true }
def FnTiesUptoSaid : Prop := fnTiesUptoRow.holds Try.pinned (OpenSpec.upto fnTiesSpec)

/-- 'laws.FnExactIsRunning', WHERE WHAT IT READS IS OF BULK AT MOST 1048576: true; the input reads as it did. -/
def fnExactIsRunningUptoRow : OpenClaim := { program := "ytnjehjkacicamaa", sum := "0ac0517dd7f94f7c48199a72f56da153bc4c895930453ed257877ef6d23dc9eb", func := "loop.example/g01129/laws.FnExactIsRunning", spec := "fnExactIsRunning", unfollowed := true, recurses := true, plainKeys := false, apart := false, narrowed := true }
def FnExactIsRunningUptoSaid : Prop := fnExactIsRunningUptoRow.holds Try.pinned (OpenSpec.upto fnExactIsRunningSpec)

/-- 'laws.FnExactIsSeatsBy', WHERE WHAT IT READS IS OF BULK AT MOST 1048576: true; the input reads as it did. -/
def fnExactIsSeatsByUptoRow : OpenClaim := { program := "ytnjehjkacicamaa", sum := "0ac0517dd7f94f7c48199a72f56da153bc4c895930453ed257877ef6d23dc9eb", func := "loop.example/g01129/laws.FnExactIsSeatsBy", spec := "fnExactIsSeatsBy", unfollowed := true, recurses := true, plainKeys := false, apart := false, narrowed := true }
def FnExactIsSeatsByUptoSaid : Prop := fnExactIsSeatsByUptoRow.holds Try.pinned (OpenSpec.upto fnExactIsSeatsBySpec)

/-- 'laws.FnFeedback', WHERE WHAT IT READS IS OF BULK AT MOST 1048576: true; the input reads as it did. -/
def fnFeedbackUptoRow : OpenClaim := { program := "ytnjehjkacicamaa", sum := "0ac0517dd7f94f7c48199a72f56da153bc4c895930453ed257877ef6d23dc9eb", func := "loop.example/g01129/laws.FnFeedback", spec := "fnFeedback", unfollowed := true, recurses := true, plainKeys := false, apart := false, narrowed := true }
def FnFeedbackUptoSaid : Prop := fnFeedbackUptoRow.holds Try.pinned (OpenSpec.upto fnFeedbackSpec)

/-- 'laws.FnExactFeedbackOf', WHERE WHAT IT READS IS OF BULK AT MOST 1048576: true; the input reads as it did. -/
def fnExactFeedbackOfUptoRow : OpenClaim := { program := "ytnjehjkacicamaa", sum := "0ac0517dd7f94f7c48199a72f56da153bc4c895930453ed257877ef6d23dc9eb", func := "loop.example/g01129/laws.FnExactFeedbackOf", spec := "fnExactFeedbackOf", unfollowed := true, recurses := true, plainKeys := false, apart := false, narrowed := true }
def FnExactFeedbackOfUptoSaid : Prop := fnExactFeedbackOfUptoRow.holds Try.pinned (OpenSpec.upto fnExactFeedbackOfSpec)

/-- 'laws.FnExactSecondOf', WHERE WHAT IT READS IS OF BULK AT MOST 1048576: true; the input reads as it did. -/
def fnExactSecondOfUptoRow : OpenClaim := { program := "ytnjehjkacicamaa", sum := "0ac0517dd7f94f7c48199a72f56da153bc4c895930453ed257877ef6d23dc9eb", func := "loop.example/g01129/laws.FnExactSecondOf", spec := "fnExactSecondOf", unfollowed := true, recurses := true, plainKeys := false, apart := false, narrowed := true }
def FnExactSecondOfUptoSaid : Prop := fnExactSecondOfUptoRow.holds Try.pinned (OpenSpec.upto fnExactSecondOfSpec)

/-- 'laws.FnExactCountRunning', WHERE WHAT IT READS IS OF BULK AT MOST 1048576: true; the input reads as it did. -/
def fnExactCountRunningUptoRow : OpenClaim := { program := "ytnjehjkacicamaa", sum := "0ac0517dd7f94f7c48199a72f56da153bc4c895930453ed257877ef6d23dc9eb", func := "loop.example/g01129/laws.FnExactCountRunning", spec := "fnExactCountRunning", unfollowed := true, recurses := true, plainKeys := false, apart := false, narrowed := true }
def FnExactCountRunningUptoSaid : Prop := fnExactCountRunningUptoRow.holds Try.pinned (OpenSpec.upto fnExactCountRunningSpec)

/-- 'laws.FnExactErrorOf', WHERE WHAT IT READS IS OF BULK AT MOST 1048576: true; the input reads as it did. -/
def fnExactErrorOfUptoRow : OpenClaim := { program := "ytnjehjkacicamaa", sum := "0ac0517dd7f94f7c48199a72f56da153bc4c895930453ed257877ef6d23dc9eb", func := "loop.example/g01129/laws.FnExactErrorOf", spec := "fnExactErrorOf", unfollowed := true, recurses := true, plainKeys := false, apart := false, narrowed := true }
def FnExactErrorOfUptoSaid : Prop := fnExactErrorOfUptoRow.holds Try.pinned (OpenSpec.upto fnExactErrorOfSpec)

end Rows
end Go.Proofs.Ytnjehjkacicamaa
