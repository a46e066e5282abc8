/- What the parts of the law FnExactRoute's arguments are, and from data that are read to the printed kinds. No condition. -/
import Derived.Test.YtkflfpkmcdmdhaaXFnExactRoutex0
import Derived.Test.YtkflfpkmcdmdhaaOpen
namespace Go.Proofs.Ytkflfpkmcdmdhaa.WfFnExactRoute
open Go.RowKit Go.Proofs.YtkflfpkmcdmdhaaW.PrintWords Go.Proofs.Ytkflfpkmcdmdhaa.XFnExactRoute Go.Proofs.Ytkflfpkmcdmdhaa.Open
set_option linter.unusedVariables false
end Go.Proofs.Ytkflfpkmcdmdhaa.WfFnExactRoute
