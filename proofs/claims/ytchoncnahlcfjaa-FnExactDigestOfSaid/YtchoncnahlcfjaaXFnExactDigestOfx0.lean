-- A text of this session: written by its own program (wip/x/xprint.py), which runs the kit's printer with contracts of its own.
import Derived.Test.YtchoncnahlcfjaaProg
import Derived.Below
import Derived.Deep.Draws
import Derived.Deep.AppendLies
import Derived.Maps.AppendAt
import Derived.OwnWalk
import Derived.Laws.BytesArg
import Derived.Laws.MakeOwn
import Derived.Laws.OwnMore
import Derived.Deep.OwnRows
import Derived.Tactics
import Derived.Lib.ConvBytes
import Derived.Laws.Slices
import Derived.WalkKit
import Derived.KernelRfl
import Derived.RowKit3
import Derived.Deep.LoopGhost
import Derived.Deep.QuietTactic
import Derived.BigQuiet
import Derived.WideLaws
import Derived.Deep.DeepCutAuto
import Derived.Deep.CutBlock
import Derived.Deep.RegionHeld3
import Derived.Laws.Rows
import Derived.Lib.AppendStr
import Derived.ArgAppend
import Derived.Laws.IdiomCopy
import Derived.OrdersHeld
import Derived.Laws.BitsLemmas
import Derived.RowKit
import Derived.Test.YtchoncnahlcfjaaShelf
import Derived.Test.YtchoncnahlcfjaaBytes
import Derived.Sort.OwnSortedInts
import Derived.RangeFuncBox
import Derived.RangeFuncLeaves
import Derived.Shelf.Abstract
import Derived.OwnWalkIn
import Derived.TacticsInMore
import Derived.LoopNIn
import Derived.LoopIn
import Derived.Maps.AppendAt
import Derived.Sort.EveryDepth
import Derived.Lib.Hide
import Derived.Test.YtchoncnahlcfjaaWWords
import Derived.Test.YtchoncnahlcfjaaWLast
import Derived.Test.YtchoncnahlcfjaaWTab
import Derived.Test.YtchoncnahlcfjaaWFour
import Derived.Test.YtchoncnahlcfjaaWQPut
import Derived.Test.YtchoncnahlcfjaaWApart
import Derived.Test.YtchoncnahlcfjaaWArr
import Derived.Test.YtchoncnahlcfjaaWZeros
import Derived.Test.YtchoncnahlcfjaaWFoot
import Derived.Test.YtchoncnahlcfjaaWKept
import Derived.Test.YtchoncnahlcfjaaWShare
import Derived.Test.YtchoncnahlcfjaaWN
import Derived.Test.YtchoncnahlcfjaaWFootNe
import Derived.Test.YtchoncnahlcfjaaWAt
import Derived.Test.YtchoncnahlcfjaaWEqStruct
import Derived.Test.YtchoncnahlcfjaaWRepsOne
import Derived.Test.YtchoncnahlcfjaaWInv
import Derived.Test.YtchoncnahlcfjaaWInvWords
import Derived.Test.YtchoncnahlcfjaaWGuard
import Derived.Test.YtchoncnahlcfjaaWNEv
import Derived.Test.YtchoncnahlcfjaaWMore
namespace Go.Proofs.Ytchoncnahlcfjaa.XFnExactDigestOf
open Go.RowKit Go.Proofs.YtchoncnahlcfjaaW.PrintWords Go.Proofs.YtchoncnahlcfjaaW.PrintLast Go.Proofs.YtchoncnahlcfjaaW.PrintMore
attribute [local go_sem] max2_int min2_int max_two min_two max_three min_three max_four min_four   -- for this text's walks alone
set_option linter.unusedVariables false
set_option linter.unusedSimpArgs false



def errW : Option Int → Value
  | none => .nilIface
  | some c => .iface 0 (.int .i64 c)
theorem errW_none : errW none = .nilIface := rfl
theorem errW_some (c : Int) : errW (some c) = .iface 0 (.int .i64 c) := rfl

theorem info3 : (Try.prog.info? 3).map (fun i => (i.zero, i.size, i.bytes)) = some (some (.int .i64 0), 1, 8) := by kernel_rfl
-- the values' own types

end Go.Proofs.Ytchoncnahlcfjaa.XFnExactDigestOf
