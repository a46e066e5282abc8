/- What the parts of the law FnSuggest's arguments are, and from data that are read to the printed kinds. No condition. -/
import Derived.Test.YtcokeankiedfcaaDoorXFnSuggestx0
import Derived.Test.YtcokeankiedfcaaDoorOpen
namespace Go.Proofs.YtcokeankiedfcaaDoor.WfFnSuggest
open Go.RowKit Go.Proofs.YtcokeankiedfcaaDoorW.PrintWords Go.Proofs.YtcokeankiedfcaaDoor.XFnSuggest Go.Proofs.YtcokeankiedfcaaDoor.Open
set_option linter.unusedVariables false
theorem openp0 {H : Type} (enc : TypeId × Value → H) (W : World) : Opens enc Tryd.prog W 33 (Kd.slice 5 (Kd.int .u8)) (fun x => (x.length ≤ maxLen ∧ ∀ y0 ∈ x, (Lit.int .u8 y0).wf = true)) := (opens_slice (e := 5) (by kernel_rfl) (by kernel_rfl) (opens_int (k := .u8) (by kernel_rfl)))
end Go.Proofs.YtcokeankiedfcaaDoor.WfFnSuggest
