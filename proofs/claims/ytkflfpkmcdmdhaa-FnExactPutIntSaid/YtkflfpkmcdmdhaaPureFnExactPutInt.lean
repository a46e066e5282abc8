/- Whatever the number, the program's PutInt tells what the reference's PutInt tells, and its answer's memory is its own: the law answers true. No condition. -/
import Derived.Test.YtkflfpkmcdmdhaaPFnExactPutIntx2
import Derived.Test.YtkflfpkmcdmdhaaKit
namespace Go.Proofs.Ytkflfpkmcdmdhaa.Pure
open Go.RowKit Go.Proofs.Ytkflfpkmcdmdhaa.PFnExactPutInt Go.Proofs.YtkflfpkmcdmdhaaW.PrintWords Go.Proofs.YtkflfpkmcdmdhaaW.PrintLast Go.Proofs.Ytkflfpkmcdmdhaa.Kit

theorem eqB (xs : List Int) (hn : xs.length ≤ 140737488351232) (k : Nat) (hk : xs.length < k) : laws_eqByteS.f k xs xs = some true := by
  unfold laws_eqByteS.f
  rw [if_pos rfl]
  exact eqS_all laws_eqByteS.l0 (fun _ _ _ _ => rfl) xs (by omega) k hk

theorem put_same (a : Int) : ∃ (r : List Int) (e : Int), r.length ≤ 9 ∧ ∀ k, 9 ≤ k → spec_PutInt.f k a = some (r, e) ∧ impl_PutInt.f k a = some (r, e) := by
  by_cases h : 0 ≤ a ∧ a ≤ 4611686018427387903
  · have hlt : a < 128 ^ (8 + 1) := by rw [pow128_8]; omega
    refine ⟨vb 8 a, 0, (vb_length 8 a).2, fun k hk => ?_⟩
    have h1 := put_spec spec_l03Put.f (fun _ _ => rfl) 8 (by omega) k a h.1 hlt (by omega)
    have h2 := put_impl impl_putInt.l0 (fun _ _ _ => rfl) 8 (by omega) k [] a (by simp) h.1 hlt (by omega)
    unfold spec_PutInt.f impl_PutInt.f spec_l03Num.f impl_within.f impl_putInt.f
    rw [h1, h2]
    simp [h.1, h.2]
  · refine ⟨[], 12, by simp, fun k _ => ?_⟩
    unfold spec_PutInt.f impl_PutInt.f spec_l03Num.f impl_within.f
    by_cases h0 : 0 ≤ a
    · have h1 : ¬ a ≤ 4611686018427387903 := fun h1 => h ⟨h0, h1⟩
      simp [h0, h1]
    · simp [h0]

theorem FnExactPutInt : laws_FnExactPutInt.Pure := by
  intro a _
  obtain ⟨r, e, hl, hb⟩ := put_same a
  obtain ⟨ys, hy, hm, hh⟩ := marks (fun x => x % 256) laws_markByteS.l0 laws_heldByteS.l0 (fun _ _ _ _ => rfl) (fun _ _ _ _ => rfl) r 1 (by omega)
  have hm' : ∀ k, 9 < k → laws_markByteS.f k r 1 = some (((1 + r.length : Nat) : Int), ys) := fun k hk => hm k (by omega)
  have hh' : ∀ k, 9 < k → laws_heldByteS.f k ys 1 = some ((1 + r.length : Nat) : Int) := fun k hk => hh k (by omega)
  refine ⟨20, ?_⟩
  unfold laws_FnExactPutInt.f
  rw [(hb 20 (by omega)).1, (hb 20 (by omega)).2]
  simp only [Option.bind_some]
  rw [eqB r (by omega) _ (by omega)]
  simp only [Option.bind_some, if_true, bne_self_eq_false, laws_FnExactPutInt.j0, Bool.false_eq_true, if_false]
  rw [hm' 19 (by omega)]
  simp only [Option.bind_some]
  rw [hh' 19 (by omega)]
  simp only [Option.bind_some]
  rw [if_neg (by omega), if_pos trivial, (hb 19 (by omega)).2]
  simp only [Option.bind_some]
  rw [eqB r (by omega) _ (by omega)]
  simp only [Option.bind_some, if_true, bne_self_eq_false, laws_FnExactPutInt.j1, Bool.false_eq_true, if_false]
  rw [hh' 18 (by omega)]
  simp only [Option.bind_some]
  rw [if_neg (by omega), if_pos trivial]

end Go.Proofs.Ytkflfpkmcdmdhaa.Pure
