-- A text of this session: written by its own program (wip/x/xprint.py), which runs the kit's printer with contracts of its own.
import Derived.Test.YtkflfpkmcdmdhaaProg
import Derived.Below
import Derived.Deep.Draws
import Derived.Deep.AppendLies
import Derived.Maps.AppendAt
import Derived.OwnWalk
import Derived.Laws.BytesArg
import Derived.Laws.MakeOwn
import Derived.Laws.OwnMore
import Derived.Deep.OwnRows
import Derived.Tactics
import Derived.Lib.ConvBytes
import Derived.Laws.Slices
import Derived.WalkKit
import Derived.KernelRfl
import Derived.RowKit3
import Derived.Deep.LoopGhost
import Derived.Deep.QuietTactic
import Derived.BigQuiet
import Derived.WideLaws
import Derived.Deep.DeepCutAuto
import Derived.Deep.CutBlock
import Derived.Deep.RegionHeld3
import Derived.Laws.Rows
import Derived.Lib.AppendStr
import Derived.ArgAppend
import Derived.Laws.IdiomCopy
import Derived.OrdersHeld
import Derived.Laws.BitsLemmas
import Derived.RowKit
import Derived.Test.YtkflfpkmcdmdhaaShelf
import Derived.Test.YtkflfpkmcdmdhaaBytes
import Derived.Test.YtkflfpkmcdmdhaaWWords
import Derived.Test.YtkflfpkmcdmdhaaWLast
import Derived.Test.YtkflfpkmcdmdhaaWTab
import Derived.Test.YtkflfpkmcdmdhaaWFour
import Derived.Test.YtkflfpkmcdmdhaaWQPut
import Derived.Test.YtkflfpkmcdmdhaaWApart
import Derived.Test.YtkflfpkmcdmdhaaWArr
import Derived.Test.YtkflfpkmcdmdhaaWZeros
import Derived.Test.YtkflfpkmcdmdhaaWFoot
import Derived.Test.YtkflfpkmcdmdhaaWKept
import Derived.Test.YtkflfpkmcdmdhaaWShare
import Derived.Test.YtkflfpkmcdmdhaaWN
import Derived.Test.YtkflfpkmcdmdhaaWFootNe
import Derived.Test.YtkflfpkmcdmdhaaWAt
import Derived.Test.YtkflfpkmcdmdhaaWEqStruct
import Derived.Test.YtkflfpkmcdmdhaaWRepsOne
import Derived.Test.YtkflfpkmcdmdhaaWInv
import Derived.Test.YtkflfpkmcdmdhaaWInvWords
import Derived.Test.YtkflfpkmcdmdhaaWGuard
import Derived.Test.YtkflfpkmcdmdhaaWNEv
import Derived.Test.YtkflfpkmcdmdhaaWMore
namespace Go.Proofs.Ytkflfpkmcdmdhaa.XFnExactRoute
open Go.RowKit Go.Proofs.YtkflfpkmcdmdhaaW.PrintWords Go.Proofs.YtkflfpkmcdmdhaaW.PrintLast Go.Proofs.YtkflfpkmcdmdhaaW.PrintMore
attribute [local go_sem] max2_int min2_int max_two min_two max_three min_three max_four min_four   -- for this text's walks alone
set_option linter.unusedVariables false
set_option linter.unusedSimpArgs false



def errW : Option Int → Value
  | none => .nilIface
  | some c => .iface 0 (.int .i64 c)
theorem errW_none : errW none = .nilIface := rfl
theorem errW_some (c : Int) : errW (some c) = .iface 0 (.int .i64 c) := rfl

theorem info5 : (Try.prog.info? 5).map (fun i => (i.zero, i.size, i.bytes)) = some (some (.int .u8 0), 1, 1) := by kernel_rfl
-- the values' own types

end Go.Proofs.Ytkflfpkmcdmdhaa.XFnExactRoute
