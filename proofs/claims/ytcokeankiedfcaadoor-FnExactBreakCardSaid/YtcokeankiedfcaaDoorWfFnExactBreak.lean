/- What the parts of the law FnExactBreak's arguments are, and from data that are read to the printed kinds. No condition. -/
import Derived.Test.YtcokeankiedfcaaDoorXFnExactBreakx0
import Derived.Test.YtcokeankiedfcaaDoorOpen
namespace Go.Proofs.YtcokeankiedfcaaDoor.WfFnExactBreak
open Go.RowKit Go.Proofs.YtcokeankiedfcaaDoorW.PrintWords Go.Proofs.YtcokeankiedfcaaDoor.XFnExactBreak Go.Proofs.YtcokeankiedfcaaDoor.Open
set_option linter.unusedVariables false
end Go.Proofs.YtcokeankiedfcaaDoor.WfFnExactBreak
