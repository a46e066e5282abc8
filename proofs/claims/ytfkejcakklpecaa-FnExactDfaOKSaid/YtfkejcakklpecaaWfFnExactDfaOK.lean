/- What the parts of the law FnExactDfaOK's arguments are, and from data that are read to the printed kinds. No condition. -/
import Derived.Test.YtfkejcakklpecaaXFnExactDfaOKx0
import Derived.Test.YtfkejcakklpecaaOpen
namespace Go.Proofs.Ytfkejcakklpecaa.WfFnExactDfaOK
open Go.RowKit Go.Proofs.YtfkejcakklpecaaW.PrintWords Go.Proofs.Ytfkejcakklpecaa.XFnExactDfaOK Go.Proofs.Ytfkejcakklpecaa.Open
set_option linter.unusedVariables false
def wf114 (x : S114) : Prop := (Lit.int .i64 x.f0).wf = true ∧ (Lit.int .i64 x.f1).wf = true
theorem open114 {H : Type} (enc : TypeId × Value → H) (W : World) : Opens enc Try.prog W 114 k114 wf114 := by
  have h := opens_struct (enc := enc) (P := Try.prog) (W := W) (t := 114) (f := fun x : S114 => (x.f0, x.f1)) (fun a => ⟨a.1, a.2⟩) (fun _ => rfl) Try.underlying114 (by kernel_rfl) (fo_cons (by kernel_rfl) (by kernel_rfl) (opens_int (k := .i64) (by kernel_rfl)) (fo_one (by kernel_rfl) (by kernel_rfl) (opens_int (k := .i64) (by kernel_rfl))))
  exact h
def wf107 (x : S107) : Prop := True ∧ ((x.f1.length ≤ maxLen ∧ ∀ y0 ∈ x.f1, wf114 y0) ∧ (Lit.int .i64 x.f2).wf = true)
theorem open107 {H : Type} (enc : TypeId × Value → H) (W : World) : Opens enc Try.prog W 107 k107 wf107 := by
  have h := opens_struct (enc := enc) (P := Try.prog) (W := W) (t := 107) (f := fun x : S107 => (x.f0, x.f1, x.f2)) (fun a => ⟨a.1, a.2.1, a.2.2⟩) (fun _ => rfl) Try.underlying107 (by kernel_rfl) (fo_cons (by kernel_rfl) (by kernel_rfl) (opens_bool (by kernel_rfl)) (fo_cons (by kernel_rfl) (by kernel_rfl) (opens_slice (e := 114) (by kernel_rfl) (by kernel_rfl) (open114 enc W)) (fo_one (by kernel_rfl) (by kernel_rfl) (opens_int (k := .i64) (by kernel_rfl)))))
  exact h
def wfp0 (x : (List (S107))) : Prop := (x.length ≤ maxLen ∧ ∀ y0 ∈ x, wf107 y0)
theorem openp0 {H : Type} (enc : TypeId × Value → H) (W : World) : Opens enc Try.prog W 50 (Kd.iso (Kd.slice 107 k107) (fun x : (List (S107)) => x)) wfp0 := by
  have h := opens_struct (enc := enc) (P := Try.prog) (W := W) (t := 50) (d := (Kd.slice 107 k107)) (f := fun x : (List (S107)) => x) (fun a => a) (fun _ => rfl) Try.underlying50 (by kernel_rfl) (fo_one (by kernel_rfl) (by kernel_rfl) (opens_slice (e := 107) (by kernel_rfl) (by kernel_rfl) (open107 enc W)))
  exact h
end Go.Proofs.Ytfkejcakklpecaa.WfFnExactDfaOK
