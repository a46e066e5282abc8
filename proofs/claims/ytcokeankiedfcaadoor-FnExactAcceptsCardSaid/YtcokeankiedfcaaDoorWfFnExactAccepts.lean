/- What the parts of the law FnExactAccepts's arguments are, and from data that are read to the printed kinds. No condition. -/
import Derived.Test.YtcokeankiedfcaaDoorXFnExactAcceptsx0
import Derived.Test.YtcokeankiedfcaaDoorOpen
namespace Go.Proofs.YtcokeankiedfcaaDoor.WfFnExactAccepts
open Go.RowKit Go.Proofs.YtcokeankiedfcaaDoorW.PrintWords Go.Proofs.YtcokeankiedfcaaDoor.XFnExactAccepts Go.Proofs.YtcokeankiedfcaaDoor.Open
set_option linter.unusedVariables false
def wf164 (x : S164) : Prop := (Lit.int .i64 x.f0).wf = true ∧ (Lit.int .i64 x.f1).wf = true
theorem open164 {H : Type} (enc : TypeId × Value → H) (W : World) : Opens enc Tryd.prog W 164 k164 wf164 := by
  have h := opens_struct (enc := enc) (P := Tryd.prog) (W := W) (t := 164) (f := fun x : S164 => (x.f0, x.f1)) (fun a => ⟨a.1, a.2⟩) (fun _ => rfl) Tryd.underlying164 (by kernel_rfl) (fo_cons (by kernel_rfl) (by kernel_rfl) (opens_int (k := .i64) (by kernel_rfl)) (fo_one (by kernel_rfl) (by kernel_rfl) (opens_int (k := .i64) (by kernel_rfl))))
  exact h
def wf133 (x : S133) : Prop := True ∧ ((x.f1.length ≤ maxLen ∧ ∀ y0 ∈ x.f1, wf164 y0) ∧ (Lit.int .i64 x.f2).wf = true)
theorem open133 {H : Type} (enc : TypeId × Value → H) (W : World) : Opens enc Tryd.prog W 133 k133 wf133 := by
  have h := opens_struct (enc := enc) (P := Tryd.prog) (W := W) (t := 133) (f := fun x : S133 => (x.f0, x.f1, x.f2)) (fun a => ⟨a.1, a.2.1, a.2.2⟩) (fun _ => rfl) Tryd.underlying133 (by kernel_rfl) (fo_cons (by kernel_rfl) (by kernel_rfl) (opens_bool (by kernel_rfl)) (fo_cons (by kernel_rfl) (by kernel_rfl) (opens_slice (e := 164) (by kernel_rfl) (by kernel_rfl) (open164 enc W)) (fo_one (by kernel_rfl) (by kernel_rfl) (opens_int (k := .i64) (by kernel_rfl)))))
  exact h
def wfp0 (x : (List (S133))) : Prop := (x.length ≤ maxLen ∧ ∀ y0 ∈ x, wf133 y0)
theorem openp0 {H : Type} (enc : TypeId × Value → H) (W : World) : Opens enc Tryd.prog W 57 (Kd.iso (Kd.slice 133 k133) (fun x : (List (S133)) => x)) wfp0 := by
  have h := opens_struct (enc := enc) (P := Tryd.prog) (W := W) (t := 57) (d := (Kd.slice 133 k133)) (f := fun x : (List (S133)) => x) (fun a => a) (fun _ => rfl) Tryd.underlying57 (by kernel_rfl) (fo_one (by kernel_rfl) (by kernel_rfl) (opens_slice (e := 133) (by kernel_rfl) (by kernel_rfl) (open133 enc W)))
  exact h
end Go.Proofs.YtcokeankiedfcaaDoor.WfFnExactAccepts
