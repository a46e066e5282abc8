/- What the parts of the law FnExactFragments's arguments are, and from data that are read to the printed kinds. No condition. -/
import Derived.Test.YtcokeankiedfcaaDoorXFnExactFragmentsx0
import Derived.Test.YtcokeankiedfcaaDoorOpen
namespace Go.Proofs.YtcokeankiedfcaaDoor.WfFnExactFragments
open Go.RowKit Go.Proofs.YtcokeankiedfcaaDoorW.PrintWords Go.Proofs.YtcokeankiedfcaaDoor.XFnExactFragments Go.Proofs.YtcokeankiedfcaaDoor.Open
set_option linter.unusedVariables false
end Go.Proofs.YtcokeankiedfcaaDoor.WfFnExactFragments
