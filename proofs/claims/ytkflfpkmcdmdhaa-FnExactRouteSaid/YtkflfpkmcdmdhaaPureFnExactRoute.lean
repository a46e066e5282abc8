/- Whatever the text and the number, the program's Route tells what the reference's Route tells: the law answers true. No condition. -/
import Derived.Test.YtkflfpkmcdmdhaaXFnExactRoutex1
import Derived.Test.YtkflfpkmcdmdhaaKit
import Derived.Lib.ItoaNum
import Derived.Lib.Bytes
import Derived.Test.YtkflfpkmcdmdhaaWfFnExactRoute
set_option linter.unusedSimpArgs false
set_option linter.unusedVariables false
namespace Go.Proofs.Ytkflfpkmcdmdhaa.Pure
open Go.RowKit Go.Proofs.Ytkflfpkmcdmdhaa.XFnExactRoute Go.Proofs.YtkflfpkmcdmdhaaW.PrintWords Go.Proofs.YtkflfpkmcdmdhaaW.PrintLast Go.Proofs.YtkflfpkmcdmdhaaW.PrintMore Go.Proofs.Ytkflfpkmcdmdhaa.Kit

theorem both (xs : List Int) (hn : xs.length ≤ 1048576) (hb : ∀ x ∈ xs, 0 ≤ x ∧ x ≤ 255) (d : Nat) : ∀ (k i : Nat) (h : Int), i + d = xs.length → d < k → 0 ≤ h → h < 4294967296 →
    ∃ r : Int, spec_Sum32.l0 k xs h i = some r ∧ impl_Sum32.l0 k h xs (xs.length : Int) i = some r := by
  induction d with
  | zero =>
    intro k i h hi hk h0 h1
    obtain ⟨k, rfl⟩ : ∃ m, k = m + 1 := ⟨k - 1, by omega⟩
    refine ⟨h, ?_, ?_⟩
    · rw [spec_Sum32.l0, if_neg (by omega)]
    · rw [impl_Sum32.l0, if_neg (by omega), w64 (by omega) (by omega)]
  | succ d ih =>
    intro k i h hi hk h0 h1
    obtain ⟨k, rfl⟩ : ∃ m, k = m + 1 := ⟨k - 1, by omega⟩
    have hr := hb _ (rd_mem xs i (by omega))
    obtain ⟨c, hc0, hc1, e1, e2⟩ := xor32 h (rd xs i) h0 h1 hr.1 (by omega)
    have e : ((i : Int) + 1) = ((i + 1 : Nat) : Int) := by omega
    obtain ⟨r, hs, hi'⟩ := ih k (i + 1) ((c * 16777619) % 4294967296) (by omega) (by omega) (by omega) (by omega)
    refine ⟨r, ?_, ?_⟩
    · rw [spec_Sum32.l0, if_pos (by omega), if_pos (by omega), w64 (x := rd xs i) (by omega) (by omega), e1, w64 (x := c * 16777619) (by omega) (by omega), w64 (by omega) (by omega), e,
        Int.tmod_eq_emod_of_nonneg (by omega)]
      exact hs
    · rw [impl_Sum32.l0, if_pos (by omega), if_pos (by omega), if_pos (by omega), Int.emod_eq_of_lt hr.1 (by omega), e2, w64 (by omega) (by omega), e]
      exact hi'


theorem bytes_in (s : ByteArray) : ∀ x ∈ bytesOf s, 0 ≤ x ∧ x ≤ 255 := by
  intro x hx
  obtain ⟨b, _, rfl⟩ := List.mem_map.1 hx
  have := UInt8.toNat_lt b
  omega
theorem sums (s : ByteArray) (h : s.size ≤ 65536) : ∃ r, spec_Sum32.f (s.size + 1) (bytesOf s) = some r ∧ impl_Sum32.f (s.size + 1) (bytesOf s) = some r := by
  have hl : (bytesOf s).length = s.size := bytesOf_length s
  obtain ⟨r, h1, h2⟩ := both (bytesOf s) (by omega) (bytes_in s) (bytesOf s).length (s.size + 1) 0 2166136261 (by omega) (by omega) (by omega) (by omega)
  refine ⟨r, ?_, ?_⟩
  · unfold spec_Sum32.f; rw [if_neg (by omega)]; exact h1
  · unfold impl_Sum32.f; rw [if_neg (by omega)]; exact h2
theorem FnExactRoute (s : ByteArray) (n : Int) (hs : s.size ≤ 140737488351232) (hn : (Lit.int .i64 n).wf = true) : ∃ k, laws_FnExactRoute.f k s n = some true := by
  refine ⟨s.size + 1, ?_⟩
  unfold laws_FnExactRoute.f
  by_cases h : (s.size : Int) > 1048576
  · rw [if_pos h]
  · rw [if_neg h]
    unfold spec_Route.f impl_Route.f
    by_cases c1 : n < 1
    · rw [if_pos c1, if_pos c1, Option.bind_some, Option.bind_some, if_pos rfl]
    · by_cases c2 : n > 8
      · rw [if_neg c1, if_neg c1, if_pos c2, if_pos c2, Option.bind_some, Option.bind_some, if_pos rfl]
      · by_cases c3 : (s.size : Int) > 65536
        · rw [if_neg c1, if_neg c1, if_neg c2, if_neg c2, if_pos c3, if_pos c3, Option.bind_some, Option.bind_some, if_pos rfl]
        · obtain ⟨r, h1, h2⟩ := sums s (by omega)
          have hb : s.size ≤ 9223372036854775807 := by omega
          have hz : ¬ n = 0 := by omega
          rw [if_neg c1, if_neg c1, if_neg c2, if_neg c2, if_neg c3, if_neg c3, if_pos hb, if_pos hb, h1, h2, Option.bind_some, if_neg hz, Option.bind_some, Option.bind_some, if_pos rfl]

end Go.Proofs.Ytkflfpkmcdmdhaa.Pure
