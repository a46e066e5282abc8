/- What the parts of the law FnExactDigestJoin's arguments are, and from data that are read to the printed kinds. No condition. -/
import Derived.Test.YtchoncnahlcfjaaXFnExactDigestJoinx0
import Derived.Test.YtchoncnahlcfjaaOpen
namespace Go.Proofs.Ytchoncnahlcfjaa.WfFnExactDigestJoin
open Go.RowKit Go.Proofs.YtchoncnahlcfjaaW.PrintWords Go.Proofs.Ytchoncnahlcfjaa.XFnExactDigestJoin Go.Proofs.Ytchoncnahlcfjaa.Open
set_option linter.unusedVariables false
def wfp0 (x : (Int) × (Int) × (Int) × (List (Int))) : Prop := (Lit.int .i64 x.1).wf = true ∧ ((Lit.int .i64 x.2.1).wf = true ∧ ((Lit.int .i64 x.2.2.1).wf = true ∧ (x.2.2.2.length ≤ maxLen ∧ ∀ y0 ∈ x.2.2.2, (Lit.int .i64 y0).wf = true)))
theorem openp0 {H : Type} (enc : TypeId × Value → H) (W : World) : Opens enc Try.prog W 46 (Kd.iso (Kd.pair (Kd.int .i64) (Kd.pair (Kd.int .i64) (Kd.pair (Kd.int .i64) (Kd.slice 3 (Kd.int .i64))))) (fun x : (Int) × (Int) × (Int) × (List (Int)) => x)) wfp0 := by
  have h := opens_struct (enc := enc) (P := Try.prog) (W := W) (t := 46) (d := (Kd.pair (Kd.int .i64) (Kd.pair (Kd.int .i64) (Kd.pair (Kd.int .i64) (Kd.slice 3 (Kd.int .i64)))))) (f := fun x : (Int) × (Int) × (Int) × (List (Int)) => x) (fun a => a) (fun _ => rfl) Try.underlying46 (by kernel_rfl) (fo_cons (by kernel_rfl) (by kernel_rfl) (opens_int (k := .i64) (by kernel_rfl)) (fo_cons (by kernel_rfl) (by kernel_rfl) (opens_int (k := .i64) (by kernel_rfl)) (fo_cons (by kernel_rfl) (by kernel_rfl) (opens_int (k := .i64) (by kernel_rfl)) (fo_one (by kernel_rfl) (by kernel_rfl) (opens_slice (e := 3) (by kernel_rfl) (by kernel_rfl) (opens_int (k := .i64) (by kernel_rfl)))))))
  exact h
def wfp1 (x : (Int) × (Int) × (Int) × (List (Int))) : Prop := (Lit.int .i64 x.1).wf = true ∧ ((Lit.int .i64 x.2.1).wf = true ∧ ((Lit.int .i64 x.2.2.1).wf = true ∧ (x.2.2.2.length ≤ maxLen ∧ ∀ y0 ∈ x.2.2.2, (Lit.int .i64 y0).wf = true)))
theorem openp1 {H : Type} (enc : TypeId × Value → H) (W : World) : Opens enc Try.prog W 46 (Kd.iso (Kd.pair (Kd.int .i64) (Kd.pair (Kd.int .i64) (Kd.pair (Kd.int .i64) (Kd.slice 3 (Kd.int .i64))))) (fun x : (Int) × (Int) × (Int) × (List (Int)) => x)) wfp1 := by
  have h := opens_struct (enc := enc) (P := Try.prog) (W := W) (t := 46) (d := (Kd.pair (Kd.int .i64) (Kd.pair (Kd.int .i64) (Kd.pair (Kd.int .i64) (Kd.slice 3 (Kd.int .i64)))))) (f := fun x : (Int) × (Int) × (Int) × (List (Int)) => x) (fun a => a) (fun _ => rfl) Try.underlying46 (by kernel_rfl) (fo_cons (by kernel_rfl) (by kernel_rfl) (opens_int (k := .i64) (by kernel_rfl)) (fo_cons (by kernel_rfl) (by kernel_rfl) (opens_int (k := .i64) (by kernel_rfl)) (fo_cons (by kernel_rfl) (by kernel_rfl) (opens_int (k := .i64) (by kernel_rfl)) (fo_one (by kernel_rfl) (by kernel_rfl) (opens_slice (e := 3) (by kernel_rfl) (by kernel_rfl) (opens_int (k := .i64) (by kernel_rfl)))))))
  exact h
end Go.Proofs.Ytchoncnahlcfjaa.WfFnExactDigestJoin
