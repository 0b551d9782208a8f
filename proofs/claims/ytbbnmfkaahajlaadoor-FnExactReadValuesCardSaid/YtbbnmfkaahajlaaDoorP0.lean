-- Written by gen.py (wip/gen of this repo) over the kit's print: not trusted, Lean checks it.
import Derived.Test.YtbbnmfkaahajlaaDoorProg
import Derived.Below
import Derived.Deep.Draws
import Derived.Deep.AppendLies
import Derived.Maps.AppendAt
import Derived.OwnWalk
import Derived.Laws.BytesArg
import Derived.Laws.MakeOwn
import Derived.Laws.OwnMore
import Derived.Deep.OwnRows
import Derived.Tactics
import Derived.Lib.ConvBytes
import Derived.Laws.Slices
import Derived.WalkKit
import Derived.KernelRfl
import Derived.RowKit3
import Derived.Deep.LoopGhost
import Derived.Deep.QuietTactic
import Derived.BigQuiet
import Derived.WideLaws
import Derived.Deep.DeepCutAuto
import Derived.Deep.CutBlock
import Derived.Deep.RegionHeld3
import Derived.Laws.Rows
import Derived.Lib.AppendStr
import Derived.ArgAppend
import Derived.Laws.IdiomCopy
import Derived.OrdersHeld
import Derived.Laws.BitsLemmas
import Derived.RowKit
import Derived.Test.YtbbnmfkaahajlaaDoorWWords
import Derived.Test.YtbbnmfkaahajlaaDoorWLast
import Derived.Test.YtbbnmfkaahajlaaDoorWTab
import Derived.Test.YtbbnmfkaahajlaaDoorWFour
import Derived.Test.YtbbnmfkaahajlaaDoorWQPut
import Derived.Test.YtbbnmfkaahajlaaDoorWApart
import Derived.Test.YtbbnmfkaahajlaaDoorWArr
import Derived.Test.YtbbnmfkaahajlaaDoorWZeros
import Derived.Test.YtbbnmfkaahajlaaDoorWFoot
import Derived.Test.YtbbnmfkaahajlaaDoorWKept
import Derived.Test.YtbbnmfkaahajlaaDoorWShare
import Derived.Test.YtbbnmfkaahajlaaDoorWN
import Derived.Test.YtbbnmfkaahajlaaDoorWFootNe
import Derived.Test.YtbbnmfkaahajlaaDoorWAt
import Derived.Test.YtbbnmfkaahajlaaDoorWEqStruct
import Derived.Test.YtbbnmfkaahajlaaDoorWRepsOne
import Derived.Test.YtbbnmfkaahajlaaDoorWInv
import Derived.Test.YtbbnmfkaahajlaaDoorWInvWords
import Derived.Test.YtbbnmfkaahajlaaDoorWGuard
import Derived.Test.YtbbnmfkaahajlaaDoorWNEv
import Derived.Test.YtbbnmfkaahajlaaDoorWMore
import Derived.Test.YtbbnmfkaahajlaaDoorWOwn
namespace Go.Proofs.YtbbnmfkaahajlaaDoor.P
open Go.RowKit Go.Proofs.YtbbnmfkaahajlaaDoorW.PrintWords Go.Proofs.YtbbnmfkaahajlaaDoorW.PrintLast Go.Proofs.YtbbnmfkaahajlaaDoorW.PrintMore
attribute [local go_sem] max2_int min2_int max_two min_two max_three min_three max_four min_four   -- for this text's walks alone
set_option linter.unusedVariables false
set_option linter.unusedSimpArgs false



def errW : Option Int → Value
  | none => .nilIface
  | some c => .iface 0 (.int .i64 c)
theorem errW_none : errW none = .nilIface := rfl
theorem errW_some (c : Int) : errW (some c) = .iface 0 (.int .i64 c) := rfl

theorem info2 : (Tryd.prog.info? 2).map (fun i => (i.zero, i.size, i.bytes)) = some (some (.int .i64 0), 1, 8) := by kernel_rfl
theorem info5 : (Tryd.prog.info? 5).map (fun i => (i.zero, i.size, i.bytes)) = some (some (.int .u8 0), 1, 1) := by kernel_rfl
-- the values' own types

end Go.Proofs.YtbbnmfkaahajlaaDoor.P
