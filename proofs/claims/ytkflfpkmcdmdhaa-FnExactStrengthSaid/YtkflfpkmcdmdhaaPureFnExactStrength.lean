/- Whatever the four numbers, the program's Strength tells what the reference's Strength tells: the law answers true. No condition. -/
import Derived.Test.YtkflfpkmcdmdhaaOFnExactStrengthx1
import Derived.Test.YtkflfpkmcdmdhaaKit
namespace Go.Proofs.Ytkflfpkmcdmdhaa.Pure
open Go.RowKit Go.Proofs.Ytkflfpkmcdmdhaa.OFnExactStrength Go.Proofs.YtkflfpkmcdmdhaaW.PrintWords Go.Proofs.YtkflfpkmcdmdhaaW.PrintLast Go.Proofs.Ytkflfpkmcdmdhaa.Kit

theorem within_eq (a lo hi : Int) : impl_within.f a lo hi = some (decide (lo ≤ a ∧ a ≤ hi)) := by
  unfold impl_within.f
  split
  · congr 1; simp; omega
  · congr 1; simp; omega

def good (f l n t : Int) : Bool := decide (1 ≤ f ∧ f ≤ 33554432 ∧ 0 ≤ l ∧ l ≤ 33554432 ∧ 0 ≤ t ∧ t ≤ 33554432 ∧ 0 ≤ n ∧ n ≤ 512)

theorem sf (k : Nat) (f l n t : Int) : spec_Strength.f k f l n t = spec_Strength.j0 k f l n t (!good f l n t) := by
  unfold spec_Strength.f
  (repeat' split) <;> (congr 1; rw [Bool.eq_iff_iff]; simp [good]; try omega)

theorem if' (k : Nat) (f l n t : Int) : impl_Strength.f k f l n t = impl_Strength.j0 k f l n t (!good f l n t) := by
  unfold impl_Strength.f
  simp only [within_eq, Option.bind_some, decide_eq_true_eq]
  (repeat' split) <;> (congr 1; rw [Bool.eq_iff_iff]; simp [good]; try omega)

theorem FnExactStrength : laws_FnExactStrength.Pure := by
  intro f l n t _ _ _ _
  refine ⟨1, ?_⟩
  unfold laws_FnExactStrength.f
  rw [sf, if']
  by_cases hg : good f l n t = true
  · rw [hg]
    have hg' := of_decide_eq_true hg
    obtain ⟨h1, h2, h3, h4, h5, h6, h7, h8⟩ := hg'
    simp only [spec_Strength.j0, impl_Strength.j0, Bool.not_true, Bool.false_eq_true, if_false]
    by_cases ht : t > 0
    · have hz : ¬ t = 0 := by omega
      simp only [if_pos ht, if_neg hz]
      have e1 : wrap64 (900 * l) = 900 * l := w64 (by omega) (by omega)
      have hl : 900 * l ≤ 30198988800 := by omega
      have hm : 900 * l * n ≤ 30198988800 * 512 := Int.mul_le_mul hl h8 h7 (by decide)
      have hm0 : 0 ≤ 900 * l * n := Int.mul_nonneg (by omega) h7
      have hd : wrap64 (wrap64 (wrap64 (1000 * f) + 300) + wrap64 (Int.tdiv (wrap64 (wrap64 (900 * l) * n)) t)) ≠ 0 := by
        rw [e1]
        generalize 900 * l * n = m at *
        rw [w64 (x := m) (by omega) (by omega), Int.tdiv_eq_ediv_of_nonneg hm0]
        have q0 : 0 ≤ m / t := Int.ediv_nonneg hm0 (by omega)
        have q1 : m / t ≤ m := Int.ediv_le_self _ hm0
        generalize m / t = q at *
        rw [w64 (x := q) (by omega) (by omega), w64 (x := 1000 * f) (by omega) (by omega), w64 (x := 1000 * f + 300) (by omega) (by omega), w64 (by omega) (by omega)]
        omega
      simp only [if_neg hd]
      simp
    · simp only [if_neg ht, Int.add_zero]
      have e1 : wrap64 (1000 * f) = 1000 * f := w64 (by omega) (by omega)
      have e2 : wrap64 (1000 * f + 300) = 1000 * f + 300 := w64 (by omega) (by omega)
      have hz : ¬ 1000 * f + 300 = 0 := by omega
      simp only [e1, e2, if_neg hz]
      simp
  · have hg' : good f l n t = false := by simpa using hg
    rw [hg']
    simp [spec_Strength.j0, impl_Strength.j0]

end Go.Proofs.Ytkflfpkmcdmdhaa.Pure
