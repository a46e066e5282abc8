/- What the parts of the law FnExactSchemaOK's arguments are, and from data that are read to the printed kinds. No condition. -/
import Derived.Test.YtmbgncgcddjomaaDoorXFnExactSchemaOKx0
import Derived.Test.YtmbgncgcddjomaaDoorOpen
namespace Go.Proofs.YtmbgncgcddjomaaDoor.WfFnExactSchemaOK
open Go.RowKit Go.Proofs.YtmbgncgcddjomaaDoorW.PrintWords Go.Proofs.YtmbgncgcddjomaaDoor.XFnExactSchemaOK Go.Proofs.YtmbgncgcddjomaaDoor.Open
set_option linter.unusedVariables false
def wf89 (x : S89) : Prop := x.f0.size ≤ maxLen ∧ x.f1.size ≤ maxLen
theorem open89 {H : Type} (enc : TypeId × Value → H) (W : World) : Opens enc Tryd.prog W 89 k89 wf89 := by
 have h := opens_struct (enc := enc) (P := Tryd.prog) (W := W) (t := 89) (f := fun x : S89 => (x.f0, x.f1)) (fun a => ⟨a.1, a.2⟩) (fun _ => rfl) Tryd.underlying89 (by kernel_rfl) (fo_cons (by kernel_rfl) (by kernel_rfl) (opens_string (by kernel_rfl)) (fo_one (by kernel_rfl) (by kernel_rfl) (opens_string (by kernel_rfl))))
 exact h
def wf48 (x : S48) : Prop := True ∧ (True ∧ (True ∧ ((x.f3.length ≤ maxLen ∧ ∀ y0 ∈ x.f3, y0.size ≤ maxLen) ∧ ((x.f4.length ≤ maxLen ∧ ∀ y0 ∈ x.f4, wf89 y0) ∧ ((Lit.int .i64 x.f5).wf = true ∧ (Lit.int .i64 x.f6).wf = true)))))
theorem open48 {H : Type} (enc : TypeId × Value → H) (W : World) : Opens enc Tryd.prog W 48 k48 wf48 := by
 have h := opens_struct (enc := enc) (P := Tryd.prog) (W := W) (t := 48) (f := fun x : S48 => (x.f0, x.f1, x.f2, x.f3, x.f4, x.f5, x.f6)) (fun a => ⟨a.1, a.2.1, a.2.2.1, a.2.2.2.1, a.2.2.2.2.1, a.2.2.2.2.2.1, a.2.2.2.2.2.2⟩) (fun _ => rfl) Tryd.underlying48 (by kernel_rfl) (fo_cons (by kernel_rfl) (by kernel_rfl) (opens_bool (by kernel_rfl)) (fo_cons (by kernel_rfl) (by kernel_rfl) (opens_bool (by kernel_rfl)) (fo_cons (by kernel_rfl) (by kernel_rfl) (opens_bool (by kernel_rfl)) (fo_cons (by kernel_rfl) (by kernel_rfl) (opens_slice (e := 9) (by kernel_rfl) (by kernel_rfl) (opens_string (by kernel_rfl))) (fo_cons (by kernel_rfl) (by kernel_rfl) (opens_slice (e := 89) (by kernel_rfl) (by kernel_rfl) (open89 enc W)) (fo_cons (by kernel_rfl) (by kernel_rfl) (opens_int (k := .i64) (by kernel_rfl)) (fo_one (by kernel_rfl) (by kernel_rfl) (opens_int (k := .i64) (by kernel_rfl)))))))))
 exact h
def wf50 (x : S50) : Prop := x.f0.size ≤ maxLen ∧ ((Lit.int .i64 x.f1).wf = true ∧ wf48 x.f2)
theorem open50 {H : Type} (enc : TypeId × Value → H) (W : World) : Opens enc Tryd.prog W 50 k50 wf50 := by
 have h := opens_struct (enc := enc) (P := Tryd.prog) (W := W) (t := 50) (f := fun x : S50 => (x.f0, x.f1, x.f2)) (fun a => ⟨a.1, a.2.1, a.2.2⟩) (fun _ => rfl) Tryd.underlying50 (by kernel_rfl) (fo_cons (by kernel_rfl) (by kernel_rfl) (opens_string (by kernel_rfl)) (fo_cons (by kernel_rfl) (by kernel_rfl) (opens_int (k := .i64) (by kernel_rfl)) (fo_one (by kernel_rfl) (by kernel_rfl) (open48 enc W))))
 exact h
def wfp0 (x : (List (S50))) : Prop := (x.length ≤ maxLen ∧ ∀ y0 ∈ x, wf50 y0)
theorem openp0 {H : Type} (enc : TypeId × Value → H) (W : World) : Opens enc Tryd.prog W 24 (Kd.iso (Kd.slice 50 k50) (fun x : (List (S50)) => x)) wfp0 := by
 have h := opens_struct (enc := enc) (P := Tryd.prog) (W := W) (t := 24) (d := (Kd.slice 50 k50)) (f := fun x : (List (S50)) => x) (fun a => a) (fun _ => rfl) Tryd.underlying24 (by kernel_rfl) (fo_one (by kernel_rfl) (by kernel_rfl) (opens_slice (e := 50) (by kernel_rfl) (by kernel_rfl) (open50 enc W)))
 exact h
end Go.Proofs.YtmbgncgcddjomaaDoor.WfFnExactSchemaOK
