/- The program's constants are those that the law names: the law answers true. No condition. -/
import Derived.Test.YtkflfpkmcdmdhaaPFnExactConstantsx1
namespace Go.Proofs.Ytkflfpkmcdmdhaa.Pure
open Go.RowKit Go.Proofs.Ytkflfpkmcdmdhaa.PFnExactConstants

theorem FnExactConstants : laws_FnExactConstants.Pure := rfl

end Go.Proofs.Ytkflfpkmcdmdhaa.Pure
