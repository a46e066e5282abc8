/- What the parts of the law FnExactDocBytes's arguments are, and from data that are read to the printed kinds. No condition. -/
import Derived.Test.YtnpdmleglcbobaaXFnExactDocBytesx0
import Derived.Test.YtnpdmleglcbobaaOpen
namespace Go.Proofs.Ytnpdmleglcbobaa.WfFnExactDocBytes
open Go.RowKit Go.Proofs.YtnpdmleglcbobaaW.PrintWords Go.Proofs.Ytnpdmleglcbobaa.XFnExactDocBytes Go.Proofs.Ytnpdmleglcbobaa.Open
set_option linter.unusedVariables false
def wf97 (x : S97) : Prop := x.f0.size ≤ maxLen ∧ ((x.f1.length ≤ maxLen ∧ ∀ y0 ∈ x.f1, y0.size ≤ maxLen) ∧ (x.f2.length ≤ maxLen ∧ ∀ y0 ∈ x.f2, (Lit.int .i64 y0).wf = true))
theorem open97 {H : Type} (enc : TypeId × Value → H) (W : World) : Opens enc Try.prog W 97 k97 wf97 := by
  have h := opens_struct (enc := enc) (P := Try.prog) (W := W) (t := 97) (f := fun x : S97 => (x.f0, x.f1, x.f2)) (fun a => ⟨a.1, a.2.1, a.2.2⟩) (fun _ => rfl) Try.underlying97 (by kernel_rfl) (fo_cons (by kernel_rfl) (by kernel_rfl) (opens_string (by kernel_rfl)) (fo_cons (by kernel_rfl) (by kernel_rfl) (opens_slice (e := 9) (by kernel_rfl) (by kernel_rfl) (opens_string (by kernel_rfl))) (fo_one (by kernel_rfl) (by kernel_rfl) (opens_slice (e := 3) (by kernel_rfl) (by kernel_rfl) (opens_int (k := .i64) (by kernel_rfl))))))
  exact h
def wfp0 (x : (ByteArray) × (List (S97))) : Prop := x.1.size ≤ maxLen ∧ (x.2.length ≤ maxLen ∧ ∀ y0 ∈ x.2, wf97 y0)
theorem openp0 {H : Type} (enc : TypeId × Value → H) (W : World) : Opens enc Try.prog W 24 (Kd.iso (Kd.pair Kd.string (Kd.slice 97 k97)) (fun x : (ByteArray) × (List (S97)) => x)) wfp0 := by
  have h := opens_struct (enc := enc) (P := Try.prog) (W := W) (t := 24) (d := (Kd.pair Kd.string (Kd.slice 97 k97))) (f := fun x : (ByteArray) × (List (S97)) => x) (fun a => a) (fun _ => rfl) Try.underlying24 (by kernel_rfl) (fo_cons (by kernel_rfl) (by kernel_rfl) (opens_string (by kernel_rfl)) (fo_one (by kernel_rfl) (by kernel_rfl) (opens_slice (e := 97) (by kernel_rfl) (by kernel_rfl) (open97 enc W))))
  exact h
end Go.Proofs.Ytnpdmleglcbobaa.WfFnExactDocBytes
