/- What the parts of the law FnExactEdits's arguments are, and from data that are read to the printed kinds. No condition. -/
import Derived.Test.YtcokeankiedfcaaDoorXFnExactEditsx0
import Derived.Test.YtcokeankiedfcaaDoorOpen
namespace Go.Proofs.YtcokeankiedfcaaDoor.WfFnExactEdits
open Go.RowKit Go.Proofs.YtcokeankiedfcaaDoorW.PrintWords Go.Proofs.YtcokeankiedfcaaDoor.XFnExactEdits Go.Proofs.YtcokeankiedfcaaDoor.Open
set_option linter.unusedVariables false
end Go.Proofs.YtcokeankiedfcaaDoor.WfFnExactEdits
