-- Written by gen.py (wip/gen of this repo) over the kit's print: not trusted, Lean checks it.
import Derived.Test.YtijpgenadhhkcaaDoorProg
import Derived.Below
import Derived.Deep.Draws
import Derived.Deep.AppendLies
import Derived.Maps.AppendAt
import Derived.OwnWalk
import Derived.Laws.BytesArg
import Derived.Laws.MakeOwn
import Derived.Laws.OwnMore
import Derived.Deep.OwnRows
import Derived.Tactics
import Derived.Lib.ConvBytes
import Derived.Laws.Slices
import Derived.WalkKit
import Derived.KernelRfl
import Derived.RowKit3
import Derived.Deep.LoopGhost
import Derived.Deep.QuietTactic
import Derived.BigQuiet
import Derived.WideLaws
import Derived.Deep.DeepCutAuto
import Derived.Deep.CutBlock
import Derived.Deep.RegionHeld3
import Derived.Laws.Rows
import Derived.Lib.AppendStr
import Derived.ArgAppend
import Derived.Laws.IdiomCopy
import Derived.OrdersHeld
import Derived.Laws.BitsLemmas
import Derived.RowKit
import Derived.Test.YtijpgenadhhkcaaDoorWWords
import Derived.Test.YtijpgenadhhkcaaDoorWLast
import Derived.Test.YtijpgenadhhkcaaDoorWTab
import Derived.Test.YtijpgenadhhkcaaDoorWFour
import Derived.Test.YtijpgenadhhkcaaDoorWQPut
import Derived.Test.YtijpgenadhhkcaaDoorWApart
import Derived.Test.YtijpgenadhhkcaaDoorWArr
import Derived.Test.YtijpgenadhhkcaaDoorWZeros
import Derived.Test.YtijpgenadhhkcaaDoorWFoot
import Derived.Test.YtijpgenadhhkcaaDoorWKept
import Derived.Test.YtijpgenadhhkcaaDoorWShare
import Derived.Test.YtijpgenadhhkcaaDoorWN
import Derived.Test.YtijpgenadhhkcaaDoorWFootNe
import Derived.Test.YtijpgenadhhkcaaDoorWAt
import Derived.Test.YtijpgenadhhkcaaDoorWEqStruct
import Derived.Test.YtijpgenadhhkcaaDoorWRepsOne
import Derived.Test.YtijpgenadhhkcaaDoorWInv
import Derived.Test.YtijpgenadhhkcaaDoorWInvWords
import Derived.Test.YtijpgenadhhkcaaDoorWGuard
import Derived.Test.YtijpgenadhhkcaaDoorWNEv
import Derived.Test.YtijpgenadhhkcaaDoorWMore
import Derived.Test.YtijpgenadhhkcaaDoorWOwn
namespace Go.Proofs.YtijpgenadhhkcaaDoor.P
open Go.RowKit Go.Proofs.YtijpgenadhhkcaaDoorW.PrintWords Go.Proofs.YtijpgenadhhkcaaDoorW.PrintLast Go.Proofs.YtijpgenadhhkcaaDoorW.PrintMore
attribute [local go_sem] max2_int min2_int max_two min_two max_three min_three max_four min_four   -- for this text's walks alone
set_option linter.unusedVariables false
set_option linter.unusedSimpArgs false



def errW : Option Int → Value
  | none => .nilIface
  | some c => .iface 0 (.int .i64 c)
theorem errW_none : errW none = .nilIface := rfl
theorem errW_some (c : Int) : errW (some c) = .iface 0 (.int .i64 c) := rfl

theorem info2 : (Tryd.prog.info? 2).map (fun i => (i.zero, i.size, i.bytes)) = some (some (.int .i64 0), 1, 8) := by kernel_rfl
theorem info9 : (Tryd.prog.info? 9).map (fun i => (i.zero, i.size, i.bytes)) = some (some (.string ⟨#[]⟩), 1, 16) := by kernel_rfl
-- the values' own types

end Go.Proofs.YtijpgenadhhkcaaDoor.P
