/- What the parts of the law FnExactFoldText's arguments are, and from data that are read to the printed kinds. No condition. -/
import Derived.Test.YtcokeankiedfcaaDoorXFnExactFoldTextx0
import Derived.Test.YtcokeankiedfcaaDoorOpen
namespace Go.Proofs.YtcokeankiedfcaaDoor.WfFnExactFoldText
open Go.RowKit Go.Proofs.YtcokeankiedfcaaDoorW.PrintWords Go.Proofs.YtcokeankiedfcaaDoor.XFnExactFoldText Go.Proofs.YtcokeankiedfcaaDoor.Open
set_option linter.unusedVariables false
end Go.Proofs.YtcokeankiedfcaaDoor.WfFnExactFoldText
