/- Whatever the number, the program's Class tells what the reference's Class tells: the law answers true. No condition. -/
import Derived.Test.YtkflfpkmcdmdhaaPFnExactClassx2
namespace Go.Proofs.Ytkflfpkmcdmdhaa.Pure
open Go.RowKit Go.Proofs.Ytkflfpkmcdmdhaa.PFnExactClass Go.Proofs.YtkflfpkmcdmdhaaW.PrintWords Go.Proofs.YtkflfpkmcdmdhaaW.PrintLast

def letter (a : Int) : Bool := decide ((65 ≤ a ∧ a ≤ 90) ∨ (97 ≤ a ∧ a ≤ 122) ∨ (192 ≤ a ∧ a ≤ 591 ∧ a ≠ 215 ∧ a ≠ 247) ∨ (880 ≤ a ∧ a ≤ 1279))
def cls (a : Int) : Int := if letter a = true then 1 else if 48 ≤ a ∧ a ≤ 57 then 2 else if a = 39 ∨ a = 95 then 3 else if (12352 ≤ a ∧ a ≤ 12543) ∨ (19968 ≤ a ∧ a ≤ 40959) then 4 else 0

theorem within_eq (a lo hi : Int) : impl_within.f a lo hi = some (decide (lo ≤ a ∧ a ≤ hi)) := by
  unfold impl_within.f
  split
  · congr 1; simp; omega
  · congr 1; simp; omega

theorem s2 (k : Nat) (a : Int) (b : Bool) : spec_Class.j2 (k + 1) a b = some (if b = true then 3 else if (12352 ≤ a ∧ a ≤ 12543) ∨ (19968 ≤ a ∧ a ≤ 40959) then 4 else 0) := by
  simp only [spec_Class.j2]
  (repeat' split) <;> first | rfl | (exfalso; omega)

theorem s1 (k : Nat) (a : Int) (b : Bool) : spec_Class.j1 (k + 2) a b = some (if b = true then 2 else if a = 39 ∨ a = 95 then 3 else if (12352 ≤ a ∧ a ≤ 12543) ∨ (19968 ≤ a ∧ a ≤ 40959) then 4 else 0) := by
  simp only [spec_Class.j1, s2]
  by_cases hb : b = true
  · simp [hb]
  · by_cases h39 : a = 39
    · simp [hb, h39]
    · by_cases h95 : a = 95
      · simp [hb, h95]
      · simp [hb, h39, h95]

theorem s0 (k : Nat) (a : Int) (b : Bool) : spec_Class.j0 (k + 3) a b = some (if b = true then 1 else if 48 ≤ a ∧ a ≤ 57 then 2 else if a = 39 ∨ a = 95 then 3 else if (12352 ≤ a ∧ a ≤ 12543) ∨ (19968 ≤ a ∧ a ≤ 40959) then 4 else 0) := by
  simp only [spec_Class.j0, s1]
  by_cases hb : b = true
  · simp [hb]
  · by_cases h1 : a ≥ 48
    · have h1' : 48 ≤ a := h1
      simp [hb, h1']
    · have h1' : ¬ 48 ≤ a := h1
      simp [hb, h1']

theorem sf (k : Nat) (a : Int) : spec_Class.f k a = spec_Class.j0 k a (letter a) := by
  unfold spec_Class.f
  (repeat' split) <;> (congr 1; rw [Bool.eq_iff_iff]; simp [letter]; try omega)

theorem i1 (k : Nat) (a : Int) (b : Bool) : impl_Class.j1 (k + 1) a b = some (if b = true then 3 else if (12352 ≤ a ∧ a ≤ 12543) ∨ (19968 ≤ a ∧ a ≤ 40959) then 4 else 0) := by
  simp only [impl_Class.j1, within_eq, Option.bind_some, decide_eq_true_eq]
  (repeat' split) <;> first | rfl | (exfalso; omega)

theorem i0 (k : Nat) (a : Int) (b : Bool) : impl_Class.j0 (k + 2) a b = some (if b = true then 1 else if 48 ≤ a ∧ a ≤ 57 then 2 else if a = 39 ∨ a = 95 then 3 else if (12352 ≤ a ∧ a ≤ 12543) ∨ (19968 ≤ a ∧ a ≤ 40959) then 4 else 0) := by
  simp only [impl_Class.j0, within_eq, Option.bind_some, decide_eq_true_eq, i1]
  by_cases hb : b = true
  · simp [hb]
  · by_cases h1 : 48 ≤ a ∧ a ≤ 57
    · simp [hb, h1]
    · by_cases h39 : a = 39
      · simp [hb, h39]
      · by_cases h95 : a = 95
        · simp [hb, h95]
        · simp [hb, h1, h39, h95]

theorem iff (k : Nat) (a : Int) : impl_Class.f k a = impl_Class.j0 k a (letter a) := by
  unfold impl_Class.f
  simp only [within_eq, Option.bind_some, decide_eq_true_eq]
  (repeat' split) <;> (congr 1; rw [Bool.eq_iff_iff]; simp [letter]; try omega)

theorem FnExactClass : laws_FnExactClass.Pure := by
  intro a _
  refine ⟨3, ?_⟩
  unfold laws_FnExactClass.f
  rw [sf, iff, s0 0, i0 1]
  simp

end Go.Proofs.Ytkflfpkmcdmdhaa.Pure
