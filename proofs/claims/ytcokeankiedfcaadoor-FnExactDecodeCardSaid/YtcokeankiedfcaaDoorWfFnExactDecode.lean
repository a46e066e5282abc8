/- What the parts of the law FnExactDecode's arguments are, and from data that are read to the printed kinds. No condition. -/
import Derived.Test.YtcokeankiedfcaaDoorXFnExactDecodex0
import Derived.Test.YtcokeankiedfcaaDoorOpen
namespace Go.Proofs.YtcokeankiedfcaaDoor.WfFnExactDecode
open Go.RowKit Go.Proofs.YtcokeankiedfcaaDoorW.PrintWords Go.Proofs.YtcokeankiedfcaaDoor.XFnExactDecode Go.Proofs.YtcokeankiedfcaaDoor.Open
set_option linter.unusedVariables false
end Go.Proofs.YtcokeankiedfcaaDoor.WfFnExactDecode
