/- What the parts of the law FnExactRecordBytes's arguments are, and from data that are read to the printed kinds. No condition. -/
import Derived.Test.YtnpdmleglcbobaaXFnExactRecordBytesx0
import Derived.Test.YtnpdmleglcbobaaOpen
namespace Go.Proofs.Ytnpdmleglcbobaa.WfFnExactRecordBytes
open Go.RowKit Go.Proofs.YtnpdmleglcbobaaW.PrintWords Go.Proofs.Ytnpdmleglcbobaa.XFnExactRecordBytes Go.Proofs.Ytnpdmleglcbobaa.Open
set_option linter.unusedVariables false
def wf97 (x : S97) : Prop := x.f0.size ≤ maxLen ∧ ((x.f1.length ≤ maxLen ∧ ∀ y0 ∈ x.f1, y0.size ≤ maxLen) ∧ (x.f2.length ≤ maxLen ∧ ∀ y0 ∈ x.f2, (Lit.int .i64 y0).wf = true))
theorem open97 {H : Type} (enc : TypeId × Value → H) (W : World) : Opens enc Try.prog W 97 k97 wf97 := by
  have h := opens_struct (enc := enc) (P := Try.prog) (W := W) (t := 97) (f := fun x : S97 => (x.f0, x.f1, x.f2)) (fun a => ⟨a.1, a.2.1, a.2.2⟩) (fun _ => rfl) Try.underlying97 (by kernel_rfl) (fo_cons (by kernel_rfl) (by kernel_rfl) (opens_string (by kernel_rfl)) (fo_cons (by kernel_rfl) (by kernel_rfl) (opens_slice (e := 9) (by kernel_rfl) (by kernel_rfl) (opens_string (by kernel_rfl))) (fo_one (by kernel_rfl) (by kernel_rfl) (opens_slice (e := 3) (by kernel_rfl) (by kernel_rfl) (opens_int (k := .i64) (by kernel_rfl))))))
  exact h
structure S24 where
  f0 : ByteArray
  f1 : List (S97)
def k24 : Kd S24 := Kd.iso (Kd.pair Kd.string (Kd.slice 97 k97)) (fun x : S24 => (x.f0, x.f1))
def wf24 (x : S24) : Prop := x.f0.size ≤ maxLen ∧ (x.f1.length ≤ maxLen ∧ ∀ y0 ∈ x.f1, wf97 y0)
theorem open24 {H : Type} (enc : TypeId × Value → H) (W : World) : Opens enc Try.prog W 24 k24 wf24 := by
  have h := opens_struct (enc := enc) (P := Try.prog) (W := W) (t := 24) (f := fun x : S24 => (x.f0, x.f1)) (fun a => ⟨a.1, a.2⟩) (fun _ => rfl) Try.underlying24 (by kernel_rfl) (fo_cons (by kernel_rfl) (by kernel_rfl) (opens_string (by kernel_rfl)) (fo_one (by kernel_rfl) (by kernel_rfl) (opens_slice (e := 97) (by kernel_rfl) (by kernel_rfl) (open97 enc W))))
  exact h
def wfp0 (x : (Int) × (Int) × (ByteArray) × (S24)) : Prop := (Lit.int .i64 x.1).wf = true ∧ ((Lit.int .i64 x.2.1).wf = true ∧ (x.2.2.1.size ≤ maxLen ∧ wf24 x.2.2.2))
theorem openp0 {H : Type} (enc : TypeId × Value → H) (W : World) : Opens enc Try.prog W 43 (Kd.iso (Kd.pair (Kd.int .i64) (Kd.pair (Kd.int .i64) (Kd.pair Kd.string k24))) (fun x : (Int) × (Int) × (ByteArray) × (S24) => x)) wfp0 := by
  have h := opens_struct (enc := enc) (P := Try.prog) (W := W) (t := 43) (d := (Kd.pair (Kd.int .i64) (Kd.pair (Kd.int .i64) (Kd.pair Kd.string k24)))) (f := fun x : (Int) × (Int) × (ByteArray) × (S24) => x) (fun a => a) (fun _ => rfl) Try.underlying43 (by kernel_rfl) (fo_cons (by kernel_rfl) (by kernel_rfl) (opens_int (k := .i64) (by kernel_rfl)) (fo_cons (by kernel_rfl) (by kernel_rfl) (opens_int (k := .i64) (by kernel_rfl)) (fo_cons (by kernel_rfl) (by kernel_rfl) (opens_string (by kernel_rfl)) (fo_one (by kernel_rfl) (by kernel_rfl) (open24 enc W)))))
  exact h
end Go.Proofs.Ytnpdmleglcbobaa.WfFnExactRecordBytes
