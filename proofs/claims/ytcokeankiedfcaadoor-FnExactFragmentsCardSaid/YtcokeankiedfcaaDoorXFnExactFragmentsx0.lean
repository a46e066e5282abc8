-- A text of this session: written by its own program (wip/x/xprint.py), which runs the kit's printer with contracts of its own.
import Derived.Test.YtcokeankiedfcaaDoorProg
import Derived.Below
import Derived.Deep.Draws
import Derived.Deep.AppendLies
import Derived.Maps.AppendAt
import Derived.OwnWalk
import Derived.Laws.BytesArg
import Derived.Laws.MakeOwn
import Derived.Laws.OwnMore
import Derived.Deep.OwnRows
import Derived.Tactics
import Derived.Lib.ConvBytes
import Derived.Laws.Slices
import Derived.WalkKit
import Derived.KernelRfl
import Derived.RowKit3
import Derived.Deep.LoopGhost
import Derived.Deep.QuietTactic
import Derived.BigQuiet
import Derived.WideLaws
import Derived.Deep.DeepCutAuto
import Derived.Deep.CutBlock
import Derived.Deep.RegionHeld3
import Derived.Laws.Rows
import Derived.Lib.AppendStr
import Derived.ArgAppend
import Derived.Laws.IdiomCopy
import Derived.OrdersHeld
import Derived.Laws.BitsLemmas
import Derived.RowKit
import Derived.Test.YtcokeankiedfcaaDoorShelf
import Derived.Test.YtcokeankiedfcaaDoorBytes
import Derived.Test.YtcokeankiedfcaaDoorTabs
import Derived.Lib.OthersKept
import Derived.Lib.TrimU
import Derived.Lib.Hide
import Derived.Test.YtcokeankiedfcaaDoorFrag
import Derived.Test.YtcokeankiedfcaaDoorWWords
import Derived.Test.YtcokeankiedfcaaDoorWLast
import Derived.Test.YtcokeankiedfcaaDoorWTab
import Derived.Test.YtcokeankiedfcaaDoorWFour
import Derived.Test.YtcokeankiedfcaaDoorWQPut
import Derived.Test.YtcokeankiedfcaaDoorWApart
import Derived.Test.YtcokeankiedfcaaDoorWArr
import Derived.Test.YtcokeankiedfcaaDoorWZeros
import Derived.Test.YtcokeankiedfcaaDoorWFoot
import Derived.Test.YtcokeankiedfcaaDoorWKept
import Derived.Test.YtcokeankiedfcaaDoorWShare
import Derived.Test.YtcokeankiedfcaaDoorWN
import Derived.Test.YtcokeankiedfcaaDoorWFootNe
import Derived.Test.YtcokeankiedfcaaDoorWAt
import Derived.Test.YtcokeankiedfcaaDoorWEqStruct
import Derived.Test.YtcokeankiedfcaaDoorWRepsOne
import Derived.Test.YtcokeankiedfcaaDoorWInv
import Derived.Test.YtcokeankiedfcaaDoorWInvWords
import Derived.Test.YtcokeankiedfcaaDoorWGuard
import Derived.Test.YtcokeankiedfcaaDoorWNEv
import Derived.Test.YtcokeankiedfcaaDoorWMore
namespace Go.Proofs.YtcokeankiedfcaaDoor.XFnExactFragments
open Go.RowKit Go.Proofs.YtcokeankiedfcaaDoorW.PrintWords Go.Proofs.YtcokeankiedfcaaDoorW.PrintLast Go.Proofs.YtcokeankiedfcaaDoorW.PrintMore
attribute [local go_sem] max2_int min2_int max_two min_two max_three min_three max_four min_four   -- for this text's walks alone
set_option linter.unusedVariables false
set_option linter.unusedSimpArgs false



def errW : Option Int → Value
  | none => .nilIface
  | some c => .iface 0 (.int .i64 c)
theorem errW_none : errW none = .nilIface := rfl
theorem errW_some (c : Int) : errW (some c) = .iface 0 (.int .i64 c) := rfl

theorem info3 : (Tryd.prog.info? 3).map (fun i => (i.zero, i.size, i.bytes)) = some (some (.int .i64 0), 1, 8) := by kernel_rfl
theorem info5 : (Tryd.prog.info? 5).map (fun i => (i.zero, i.size, i.bytes)) = some (some (.int .u8 0), 1, 1) := by kernel_rfl
theorem info9 : (Tryd.prog.info? 9).map (fun i => (i.zero, i.size, i.bytes)) = some (some (.string ⟨#[]⟩), 1, 16) := by kernel_rfl
-- the values' own types

end Go.Proofs.YtcokeankiedfcaaDoor.XFnExactFragments
