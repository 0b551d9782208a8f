-- Written by gen.py (wip/gen of this repo) over the kit's print: not trusted, Lean checks it.
import Derived.Test.YtgkgkaphdfhcnaaProg
import Derived.Below
import Derived.Deep.Draws
import Derived.Deep.AppendLies
import Derived.Maps.AppendAt
import Derived.OwnWalk
import Derived.Laws.BytesArg
import Derived.Laws.MakeOwn
import Derived.Laws.OwnMore
import Derived.Deep.OwnRows
import Derived.Tactics
import Derived.Lib.ConvBytes
import Derived.Laws.Slices
import Derived.WalkKit
import Derived.KernelRfl
import Derived.RowKit3
import Derived.Deep.LoopGhost
import Derived.Deep.QuietTactic
import Derived.BigQuiet
import Derived.WideLaws
import Derived.Deep.DeepCutAuto
import Derived.Deep.CutBlock
import Derived.Deep.RegionHeld3
import Derived.Laws.Rows
import Derived.Lib.AppendStr
import Derived.ArgAppend
import Derived.Laws.IdiomCopy
import Derived.OrdersHeld
import Derived.Laws.BitsLemmas
import Derived.RowKit
import Derived.Test.YtgkgkaphdfhcnaaWWords
import Derived.Test.YtgkgkaphdfhcnaaWLast
import Derived.Test.YtgkgkaphdfhcnaaWTab
import Derived.Test.YtgkgkaphdfhcnaaWFour
import Derived.Test.YtgkgkaphdfhcnaaWQPut
import Derived.Test.YtgkgkaphdfhcnaaWApart
import Derived.Test.YtgkgkaphdfhcnaaWArr
import Derived.Test.YtgkgkaphdfhcnaaWZeros
import Derived.Test.YtgkgkaphdfhcnaaWFoot
import Derived.Test.YtgkgkaphdfhcnaaWKept
import Derived.Test.YtgkgkaphdfhcnaaWShare
import Derived.Test.YtgkgkaphdfhcnaaWN
import Derived.Test.YtgkgkaphdfhcnaaWFootNe
import Derived.Test.YtgkgkaphdfhcnaaWAt
import Derived.Test.YtgkgkaphdfhcnaaWEqStruct
import Derived.Test.YtgkgkaphdfhcnaaWRepsOne
import Derived.Test.YtgkgkaphdfhcnaaWInv
import Derived.Test.YtgkgkaphdfhcnaaWInvWords
import Derived.Test.YtgkgkaphdfhcnaaWGuard
import Derived.Test.YtgkgkaphdfhcnaaWNEv
import Derived.Test.YtgkgkaphdfhcnaaWMore
import Derived.Test.YtgkgkaphdfhcnaaWOwn
namespace Go.Proofs.Ytgkgkaphdfhcnaa.P
open Go.RowKit Go.Proofs.YtgkgkaphdfhcnaaW.PrintWords Go.Proofs.YtgkgkaphdfhcnaaW.PrintLast Go.Proofs.YtgkgkaphdfhcnaaW.PrintMore
attribute [local go_sem] max2_int min2_int max_two min_two max_three min_three max_four min_four   -- for this text's walks alone
set_option linter.unusedVariables false
set_option linter.unusedSimpArgs false



def errW : Option Int → Value
  | none => .nilIface
  | some c => .iface 0 (.int .i64 c)
theorem errW_none : errW none = .nilIface := rfl
theorem errW_some (c : Int) : errW (some c) = .iface 0 (.int .i64 c) := rfl

theorem info2 : (Try.prog.info? 2).map (fun i => (i.zero, i.size, i.bytes)) = some (some (.int .i64 0), 1, 8) := by kernel_rfl
theorem info5 : (Try.prog.info? 5).map (fun i => (i.zero, i.size, i.bytes)) = some (some (.int .u8 0), 1, 1) := by kernel_rfl
-- the values' own types

end Go.Proofs.Ytgkgkaphdfhcnaa.P
