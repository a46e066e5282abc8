/- Whatever the bytes, the program's Sum32 tells what the reference's Sum32 tells and writes into no byte: the law answers true. No condition. -/
import Derived.Test.YtkflfpkmcdmdhaaPFnExactSum32x1
import Derived.Test.YtkflfpkmcdmdhaaKit
namespace Go.Proofs.Ytkflfpkmcdmdhaa.Pure
open Go.RowKit Go.Proofs.Ytkflfpkmcdmdhaa.PFnExactSum32 Go.Proofs.YtkflfpkmcdmdhaaW.PrintWords Go.Proofs.YtkflfpkmcdmdhaaW.PrintLast Go.Proofs.Ytkflfpkmcdmdhaa.Kit

theorem toB (xs : List Int) (hn : xs.length ≤ 140737488351232) (k : Nat) (hk : xs.length < k) : laws_toByteS.f k xs = some xs := by
  unfold laws_toByteS.f
  rw [if_pos (by omega), if_pos (by omega), Int.toNat_natCast]
  exact toS_all laws_toByteS.l0 (fun _ _ _ _ => rfl) xs (by omega) k hk

theorem eqB (xs : List Int) (hn : xs.length ≤ 140737488351232) (k : Nat) (hk : xs.length < k) : laws_eqByteS.f k xs xs = some true := by
  unfold laws_eqByteS.f
  rw [if_pos rfl]
  exact eqS_all laws_eqByteS.l0 (fun _ _ _ _ => rfl) xs (by omega) k hk

theorem both (xs : List Int) (hn : xs.length ≤ 1048576) (hb : ∀ x ∈ xs, 0 ≤ x ∧ x ≤ 255) (d : Nat) : ∀ (k i : Nat) (h : Int), i + d = xs.length → d < k → 0 ≤ h → h < 4294967296 →
    ∃ r : Int, spec_Sum32.l0 k xs h i = some r ∧ impl_Sum32.l0 k h xs (xs.length : Int) i = some r := by
  induction d with
  | zero =>
    intro k i h hi hk h0 h1
    obtain ⟨k, rfl⟩ : ∃ m, k = m + 1 := ⟨k - 1, by omega⟩
    refine ⟨h, ?_, ?_⟩
    · rw [spec_Sum32.l0, if_neg (by omega)]
    · rw [impl_Sum32.l0, if_neg (by omega), w64 (by omega) (by omega)]
  | succ d ih =>
    intro k i h hi hk h0 h1
    obtain ⟨k, rfl⟩ : ∃ m, k = m + 1 := ⟨k - 1, by omega⟩
    have hr := hb _ (rd_mem xs i (by omega))
    obtain ⟨c, hc0, hc1, e1, e2⟩ := xor32 h (rd xs i) h0 h1 hr.1 (by omega)
    have e : ((i : Int) + 1) = ((i + 1 : Nat) : Int) := by omega
    obtain ⟨r, hs, hi'⟩ := ih k (i + 1) ((c * 16777619) % 4294967296) (by omega) (by omega) (by omega) (by omega)
    refine ⟨r, ?_, ?_⟩
    · rw [spec_Sum32.l0, if_pos (by omega), if_pos (by omega), w64 (x := rd xs i) (by omega) (by omega), e1, w64 (x := c * 16777619) (by omega) (by omega), w64 (by omega) (by omega), e,
        Int.tmod_eq_emod_of_nonneg (by omega)]
      exact hs
    · rw [impl_Sum32.l0, if_pos (by omega), if_pos (by omega), if_pos (by omega), Int.emod_eq_of_lt hr.1 (by omega), e2, w64 (by omega) (by omega), e]
      exact hi'

theorem FnExactSum32 : laws_FnExactSum32.Pure := by
  intro xs _ hn hb
  have hb' : ∀ x ∈ xs, 0 ≤ x ∧ x ≤ 255 := fun x hx => wf8 (hb x hx)
  refine ⟨xs.length + 1, ?_⟩
  unfold laws_FnExactSum32.f
  by_cases h : (xs.length : Int) > 1048576
  · rw [if_pos h]
  · obtain ⟨r, hs, hi⟩ := both xs (by omega) hb' xs.length (xs.length + 1) 0 2166136261 (by omega) (by omega) (by omega) (by omega)
    rw [if_neg h, toB xs (by omega) _ (by omega)]
    simp only [Option.bind_some]
    unfold spec_Sum32.f impl_Sum32.f
    rw [if_neg h, if_neg h]
    have hs' : spec_Sum32.l0 (xs.length + 1) xs 2166136261 0 = some r := hs
    have hi' : impl_Sum32.l0 (xs.length + 1) 2166136261 xs (xs.length : Int) 0 = some r := hi
    rw [hs', hi']
    simp only [Option.bind_some, if_true]
    rw [eqB xs (by omega) _ (by omega)]
    simp

end Go.Proofs.Ytkflfpkmcdmdhaa.Pure
