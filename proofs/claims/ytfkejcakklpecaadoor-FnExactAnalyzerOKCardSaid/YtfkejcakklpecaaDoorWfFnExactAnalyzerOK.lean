/- What the parts of the law FnExactAnalyzerOK's arguments are, and from data that are read to the printed kinds. No condition. -/
import Derived.Test.YtfkejcakklpecaaDoorXFnExactAnalyzerOKx0
import Derived.Test.YtfkejcakklpecaaDoorOpen
namespace Go.Proofs.YtfkejcakklpecaaDoor.WfFnExactAnalyzerOK
open Go.RowKit Go.Proofs.YtfkejcakklpecaaDoorW.PrintWords Go.Proofs.YtfkejcakklpecaaDoor.XFnExactAnalyzerOK Go.Proofs.YtfkejcakklpecaaDoor.Open
set_option linter.unusedVariables false
def wf45 (x : S45) : Prop := x.f0.size ≤ maxLen ∧ x.f1.size ≤ maxLen
theorem open45 {H : Type} (enc : TypeId × Value → H) (W : World) : Opens enc Tryd.prog W 45 k45 wf45 := by
  have h := opens_struct (enc := enc) (P := Tryd.prog) (W := W) (t := 45) (f := fun x : S45 => (x.f0, x.f1)) (fun a => ⟨a.1, a.2⟩) (fun _ => rfl) Tryd.underlying45 (by kernel_rfl) (fo_cons (by kernel_rfl) (by kernel_rfl) (opens_string (by kernel_rfl)) (fo_one (by kernel_rfl) (by kernel_rfl) (opens_string (by kernel_rfl))))
  exact h
def wfp0 (x : (Bool) × (Bool) × (Bool) × (List (ByteArray)) × (List (S45)) × (Int) × (Int)) : Prop := True ∧ (True ∧ (True ∧ ((x.2.2.2.1.length ≤ maxLen ∧ ∀ y0 ∈ x.2.2.2.1, y0.size ≤ maxLen) ∧ ((x.2.2.2.2.1.length ≤ maxLen ∧ ∀ y0 ∈ x.2.2.2.2.1, wf45 y0) ∧ ((Lit.int .i64 x.2.2.2.2.2.1).wf = true ∧ (Lit.int .i64 x.2.2.2.2.2.2).wf = true)))))
theorem openp0 {H : Type} (enc : TypeId × Value → H) (W : World) : Opens enc Tryd.prog W 25 (Kd.iso (Kd.pair Kd.bool (Kd.pair Kd.bool (Kd.pair Kd.bool (Kd.pair (Kd.slice 9 Kd.string) (Kd.pair (Kd.slice 45 k45) (Kd.pair (Kd.int .i64) (Kd.int .i64))))))) (fun x : (Bool) × (Bool) × (Bool) × (List (ByteArray)) × (List (S45)) × (Int) × (Int) => x)) wfp0 := by
  have h := opens_struct (enc := enc) (P := Tryd.prog) (W := W) (t := 25) (d := (Kd.pair Kd.bool (Kd.pair Kd.bool (Kd.pair Kd.bool (Kd.pair (Kd.slice 9 Kd.string) (Kd.pair (Kd.slice 45 k45) (Kd.pair (Kd.int .i64) (Kd.int .i64)))))))) (f := fun x : (Bool) × (Bool) × (Bool) × (List (ByteArray)) × (List (S45)) × (Int) × (Int) => x) (fun a => a) (fun _ => rfl) Tryd.underlying25 (by kernel_rfl) (fo_cons (by kernel_rfl) (by kernel_rfl) (opens_bool (by kernel_rfl)) (fo_cons (by kernel_rfl) (by kernel_rfl) (opens_bool (by kernel_rfl)) (fo_cons (by kernel_rfl) (by kernel_rfl) (opens_bool (by kernel_rfl)) (fo_cons (by kernel_rfl) (by kernel_rfl) (opens_slice (e := 9) (by kernel_rfl) (by kernel_rfl) (opens_string (by kernel_rfl))) (fo_cons (by kernel_rfl) (by kernel_rfl) (opens_slice (e := 45) (by kernel_rfl) (by kernel_rfl) (open45 enc W)) (fo_cons (by kernel_rfl) (by kernel_rfl) (opens_int (k := .i64) (by kernel_rfl)) (fo_one (by kernel_rfl) (by kernel_rfl) (opens_int (k := .i64) (by kernel_rfl)))))))))
  exact h
end Go.Proofs.YtfkejcakklpecaaDoor.WfFnExactAnalyzerOK
