/- Whatever the number, the program's Fold tells what the reference's Fold tells: the law answers true. No condition. -/
import Derived.Test.YtkflfpkmcdmdhaaPFnExactFoldx2
set_option linter.unusedSimpArgs false
namespace Go.Proofs.Ytkflfpkmcdmdhaa.Pure
open Go.RowKit Go.Proofs.Ytkflfpkmcdmdhaa.PFnExactFold Go.Proofs.YtkflfpkmcdmdhaaW.PrintWords Go.Proofs.YtkflfpkmcdmdhaaW.PrintLast

def upper (a : Int) : Bool := decide ((65 ≤ a ∧ a ≤ 90) ∨ (192 ≤ a ∧ a ≤ 222 ∧ a ≠ 215) ∨ (913 ≤ a ∧ a ≤ 939 ∧ a ≠ 930) ∨ (1040 ≤ a ∧ a ≤ 1071))
def out6 (x : Int) : Int := if x = 253 ∨ x = 255 then 121 else x
def out5 (x : Int) : Int := if 249 ≤ x ∧ x ≤ 252 then 117 else out6 x
def out4 (x : Int) : Int := if x = 241 then 110 else if (242 ≤ x ∧ x ≤ 246) ∨ x = 248 then 111 else out5 x
def out3 (x : Int) : Int := if 236 ≤ x ∧ x ≤ 239 then 105 else out4 x
def out2 (x : Int) : Int := if x = 231 then 99 else if 232 ≤ x ∧ x ≤ 235 then 101 else out3 x
def out1 (x : Int) : Int := if 224 ≤ x ∧ x ≤ 229 then 97 else out2 x

theorem within_eq (a lo hi : Int) : impl_within.f a lo hi = some (decide (lo ≤ a ∧ a ≤ hi)) := by
  unfold impl_within.f
  split
  · congr 1; simp; omega
  · congr 1; simp; omega

theorem s6 (k : Nat) (x : Int) (b : Bool) : spec_Fold.j6 (k + 1) x b = some (if b = true then 117 else out6 x) := by
  simp only [spec_Fold.j6, out6]
  (repeat' split) <;> first | rfl | (exfalso; omega)
theorem s5 (k : Nat) (x : Int) (b : Bool) : spec_Fold.j5 (k + 2) x b = some (if b = true then 111 else out5 x) := by
  simp only [spec_Fold.j5, s6, out5, decide_eq_true_eq, Bool.false_eq_true, if_false, if_true]
  (repeat' split) <;> first | rfl | (exfalso; omega)
theorem s4 (k : Nat) (x : Int) (b : Bool) : spec_Fold.j4 (k + 3) x b = some (if b = true then 105 else out4 x) := by
  simp only [spec_Fold.j4, s5, out4, beq_iff_eq, Bool.false_eq_true, if_false, if_true]
  (repeat' split) <;> first | rfl | (exfalso; omega)
theorem s3 (k : Nat) (x : Int) (b : Bool) : spec_Fold.j3 (k + 4) x b = some (if b = true then 101 else out3 x) := by
  simp only [spec_Fold.j3, s4, out3, decide_eq_true_eq, Bool.false_eq_true, if_false, if_true]
  (repeat' split) <;> first | rfl | (exfalso; omega)
theorem s2 (k : Nat) (x : Int) (b : Bool) : spec_Fold.j2 (k + 5) x b = some (if b = true then 97 else out2 x) := by
  simp only [spec_Fold.j2, s3, out2, decide_eq_true_eq, Bool.false_eq_true, if_false, if_true]
  (repeat' split) <;> first | rfl | (exfalso; omega)
theorem s1 (k : Nat) (x : Int) : spec_Fold.j1 (k + 6) x = some (out1 x) := by
  simp only [spec_Fold.j1, s2, out1, decide_eq_true_eq, Bool.false_eq_true, if_false, if_true]
  (repeat' split) <;> first | rfl | (exfalso; omega)
theorem s0 (k : Nat) (x : Int) (b : Bool) : spec_Fold.j0 (k + 7) x b = some (out1 (if b = true then wrap64 (x + 32) else if 1024 ≤ x ∧ x ≤ 1039 then wrap64 (x + 80) else x)) := by
  simp only [spec_Fold.j0, s1]
  (repeat' split) <;> first | rfl | (exfalso; omega)
theorem sf (k : Nat) (a : Int) : spec_Fold.f k a = spec_Fold.j0 k a (upper a) := by
  unfold spec_Fold.f
  (repeat' split) <;> (congr 1; rw [Bool.eq_iff_iff]; simp [upper]; try omega)

theorem i3 (k : Nat) (x : Int) (b : Bool) : impl_Fold.j3 (k + 1) x b = some (if b = true then 111 else out5 x) := by
  simp only [impl_Fold.j3, within_eq, Option.bind_some, decide_eq_true_eq, out5, out6]
  (repeat' split) <;> first | rfl | (exfalso; omega)
theorem i2 (k : Nat) (x : Int) : impl_Fold.j2 (k + 2) x = some (out1 x) := by
  simp only [impl_Fold.j2, within_eq, Option.bind_some, decide_eq_true_eq, i3, out1, out2, out3, out4, beq_iff_eq, Bool.false_eq_true, if_false, if_true]
  (repeat' split) <;> first | rfl | (exfalso; omega)
theorem i1 (k : Nat) (x : Int) (b : Bool) : impl_Fold.j1 (k + 3) x b = some (out1 (if b = true then wrap64 (x + 32) else if 1024 ≤ x ∧ x ≤ 1039 then wrap64 (x + 80) else x)) := by
  simp only [impl_Fold.j1, within_eq, Option.bind_some, decide_eq_true_eq, i2]
  (repeat' split) <;> first | rfl | (exfalso; omega)
theorem i0 (k : Nat) (x : Int) (b : Bool) : impl_Fold.j0 (k + 1) x b = impl_Fold.j1 k x (b || decide ((913 ≤ x ∧ x ≤ 939 ∧ x ≠ 930) ∨ (1040 ≤ x ∧ x ≤ 1071))) := by
  simp only [impl_Fold.j0, within_eq, Option.bind_some, decide_eq_true_eq, Bool.false_eq_true, if_false, if_true]
  (repeat' split) <;> (congr 1; rw [Bool.eq_iff_iff]; simp_all; try omega)
theorem iff (k : Nat) (a : Int) : impl_Fold.f (k + 4) a = some (out1 (if upper a = true then wrap64 (a + 32) else if 1024 ≤ a ∧ a ≤ 1039 then wrap64 (a + 80) else a)) := by
  unfold impl_Fold.f
  simp only [within_eq, Option.bind_some, decide_eq_true_eq, i0, i1]
  (repeat' split) <;> simp_all [upper] <;> omega

theorem FnExactFold : laws_FnExactFold.Pure := by
  intro a _
  refine ⟨7, ?_⟩
  unfold laws_FnExactFold.f
  rw [sf, s0 0, iff 3]
  simp

end Go.Proofs.Ytkflfpkmcdmdhaa.Pure
