-- Written by gen.py (wip/gen of this repo) over the kit's print: not trusted, Lean checks it.
import Derived.Test.YtecgobloagpicaaProg
import Derived.Below
import Derived.Deep.Draws
import Derived.Deep.AppendLies
import Derived.Maps.AppendAt
import Derived.OwnWalk
import Derived.Laws.BytesArg
import Derived.Laws.MakeOwn
import Derived.Laws.OwnMore
import Derived.Deep.OwnRows
import Derived.Tactics
import Derived.Lib.ConvBytes
import Derived.Laws.Slices
import Derived.WalkKit
import Derived.KernelRfl
import Derived.RowKit3
import Derived.Deep.LoopGhost
import Derived.Deep.QuietTactic
import Derived.BigQuiet
import Derived.WideLaws
import Derived.Deep.DeepCutAuto
import Derived.Deep.CutBlock
import Derived.Deep.RegionHeld3
import Derived.Laws.Rows
import Derived.Lib.AppendStr
import Derived.ArgAppend
import Derived.Laws.IdiomCopy
import Derived.OrdersHeld
import Derived.Laws.BitsLemmas
import Derived.RowKit
import Derived.Test.YtecgobloagpicaaWWords
import Derived.Test.YtecgobloagpicaaWLast
import Derived.Test.YtecgobloagpicaaWTab
import Derived.Test.YtecgobloagpicaaWFour
import Derived.Test.YtecgobloagpicaaWQPut
import Derived.Test.YtecgobloagpicaaWApart
import Derived.Test.YtecgobloagpicaaWArr
import Derived.Test.YtecgobloagpicaaWZeros
import Derived.Test.YtecgobloagpicaaWFoot
import Derived.Test.YtecgobloagpicaaWKept
import Derived.Test.YtecgobloagpicaaWShare
import Derived.Test.YtecgobloagpicaaWN
import Derived.Test.YtecgobloagpicaaWFootNe
import Derived.Test.YtecgobloagpicaaWAt
import Derived.Test.YtecgobloagpicaaWEqStruct
import Derived.Test.YtecgobloagpicaaWRepsOne
import Derived.Test.YtecgobloagpicaaWInv
import Derived.Test.YtecgobloagpicaaWInvWords
import Derived.Test.YtecgobloagpicaaWGuard
import Derived.Test.YtecgobloagpicaaWNEv
import Derived.Test.YtecgobloagpicaaWMore
import Derived.Test.YtecgobloagpicaaWOwn
namespace Go.Proofs.Ytecgobloagpicaa.P
open Go.RowKit Go.Proofs.YtecgobloagpicaaW.PrintWords Go.Proofs.YtecgobloagpicaaW.PrintLast Go.Proofs.YtecgobloagpicaaW.PrintMore
attribute [local go_sem] max2_int min2_int max_two min_two max_three min_three max_four min_four   -- for this text's walks alone
set_option linter.unusedVariables false
set_option linter.unusedSimpArgs false



def errW : Option Int → Value
  | none => .nilIface
  | some c => .iface 0 (.int .i64 c)
theorem errW_none : errW none = .nilIface := rfl
theorem errW_some (c : Int) : errW (some c) = .iface 0 (.int .i64 c) := rfl

theorem info2 : (Try.prog.info? 2).map (fun i => (i.zero, i.size, i.bytes)) = some (some (.int .i64 0), 1, 8) := by kernel_rfl
-- the values' own types

end Go.Proofs.Ytecgobloagpicaa.P
