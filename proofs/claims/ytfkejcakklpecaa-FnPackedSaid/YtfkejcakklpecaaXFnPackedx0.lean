-- A text of this session: written by its own program (wip/x/xprint.py), which runs the kit's printer with contracts of its own.
import Derived.Test.YtfkejcakklpecaaProg
import Derived.Below
import Derived.Deep.Draws
import Derived.Deep.AppendLies
import Derived.Maps.AppendAt
import Derived.OwnWalk
import Derived.Laws.BytesArg
import Derived.Laws.MakeOwn
import Derived.Laws.OwnMore
import Derived.Deep.OwnRows
import Derived.Tactics
import Derived.Lib.ConvBytes
import Derived.Laws.Slices
import Derived.WalkKit
import Derived.KernelRfl
import Derived.RowKit3
import Derived.Deep.LoopGhost
import Derived.Deep.QuietTactic
import Derived.BigQuiet
import Derived.WideLaws
import Derived.Deep.DeepCutAuto
import Derived.Deep.CutBlock
import Derived.Deep.RegionHeld3
import Derived.Laws.Rows
import Derived.Lib.AppendStr
import Derived.ArgAppend
import Derived.Laws.IdiomCopy
import Derived.OrdersHeld
import Derived.Laws.BitsLemmas
import Derived.RowKit
import Derived.Test.YtfkejcakklpecaaShelf
import Derived.Test.YtfkejcakklpecaaBytes
import Derived.Test.YtfkejcakklpecaaWWords
import Derived.Test.YtfkejcakklpecaaWLast
import Derived.Test.YtfkejcakklpecaaWTab
import Derived.Test.YtfkejcakklpecaaWQPut
import Derived.Test.YtfkejcakklpecaaWApart
import Derived.Test.YtfkejcakklpecaaWArr
import Derived.Test.YtfkejcakklpecaaWZeros
import Derived.Test.YtfkejcakklpecaaWFoot
import Derived.Test.YtfkejcakklpecaaWKept
import Derived.Test.YtfkejcakklpecaaWShare
import Derived.Test.YtfkejcakklpecaaWN
import Derived.Test.YtfkejcakklpecaaWRepsOne
import Derived.Test.YtfkejcakklpecaaWGuard
import Derived.Test.YtfkejcakklpecaaWNEv
import Derived.Test.YtfkejcakklpecaaWMore
namespace Go.Proofs.Ytfkejcakklpecaa.XFnPacked
open Go.RowKit Go.Proofs.YtfkejcakklpecaaW.PrintWords Go.Proofs.YtfkejcakklpecaaW.PrintLast Go.Proofs.YtfkejcakklpecaaW.PrintMore
attribute [local go_sem] max2_int min2_int max_two min_two max_three min_three max_four min_four   -- for this text's walks alone
set_option linter.unusedVariables false
set_option linter.unusedSimpArgs false



def errW : Option Int → Value
 | none => .nilIface
 | some c => .iface 0 (.int .i64 c)
theorem errW_none : errW none = .nilIface := rfl
theorem errW_some (c : Int) : errW (some c) = .iface 0 (.int .i64 c) := rfl

theorem info3 : (Try.prog.info? 3).map (fun i => (i.zero, i.size, i.bytes)) = some (some (.int .i64 0), 1, 8) := by kernel_rfl
theorem info5 : (Try.prog.info? 5).map (fun i => (i.zero, i.size, i.bytes)) = some (some (.int .u8 0), 1, 1) := by kernel_rfl
-- the values' own types

end Go.Proofs.Ytfkejcakklpecaa.XFnPacked
