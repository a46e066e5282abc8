/- What the parts of the law FnExactSketchOf's arguments are, and from data that are read to the printed kinds. No condition. -/
import Derived.Test.YtchoncnahlcfjaaDoorXFnExactSketchOfx0
import Derived.Test.YtchoncnahlcfjaaDoorOpen
namespace Go.Proofs.YtchoncnahlcfjaaDoor.WfFnExactSketchOf
open Go.RowKit Go.Proofs.YtchoncnahlcfjaaDoorW.PrintWords Go.Proofs.YtchoncnahlcfjaaDoor.XFnExactSketchOf Go.Proofs.YtchoncnahlcfjaaDoor.Open
set_option linter.unusedVariables false
theorem openp0 {H : Type} (enc : TypeId × Value → H) (W : World) : Opens enc Tryd.prog W 22 (Kd.slice 9 Kd.string) (fun x => (x.length ≤ maxLen ∧ ∀ y0 ∈ x, y0.size ≤ maxLen)) := (opens_slice (e := 9) (by kernel_rfl) (by kernel_rfl) (opens_string (by kernel_rfl)))
end Go.Proofs.YtchoncnahlcfjaaDoor.WfFnExactSketchOf
