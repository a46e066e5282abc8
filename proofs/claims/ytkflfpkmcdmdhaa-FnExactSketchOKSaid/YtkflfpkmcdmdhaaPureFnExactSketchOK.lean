/- Whatever the sketch, the program's SketchOK tells what the reference's SketchOK tells and writes into no argument: the law's function answers true. No condition. -/
import Derived.Test.YtkflfpkmcdmdhaaXFnExactSketchOKx2
import Derived.Test.YtkflfpkmcdmdhaaKit
import Derived.Lib.ItoaNum
set_option linter.unusedSimpArgs false
set_option linter.unusedVariables false
namespace Go.Proofs.Ytkflfpkmcdmdhaa.Pure
open Go.RowKit Go.Proofs.Ytkflfpkmcdmdhaa.XFnExactSketchOK Go.Proofs.YtkflfpkmcdmdhaaW.PrintWords Go.Proofs.YtkflfpkmcdmdhaaW.PrintLast Go.Proofs.YtkflfpkmcdmdhaaW.PrintMore Go.Proofs.Ytkflfpkmcdmdhaa.Kit

theorem n0 : ((0 : Nat) : Int) = 0 := rfl
def slotsFrom (l : List Int) : Nat → Nat → Bool
  | 0, _ => true
  | d + 1, i => !(decide (l.getD i 0 < 0) || decide (25 < l.getD i 0)) && slotsFrom l d (i + 1)
theorem slots_any (l : List Int) (d : Nat) : ∀ i : Nat, i + d = l.length → slotsFrom l d i = !((l.drop i).any fun x => (decide (x < 0) || decide (25 < x))) := by
  induction d with
  | zero =>
    intro i hi
    rw [List.drop_eq_nil_of_le (by omega)]; rfl
  | succ d ih =>
    intro i hi
    have e : l.getD i 0 = l[i] := by simp [List.getD_eq_getElem?_getD, List.getElem?_eq_getElem (show i < l.length by omega)]
    rw [slotsFrom, ih (i + 1) (by omega), List.drop_eq_getElem_cons (show i < l.length by omega), List.any_cons, e]
    generalize (decide (l[i] < 0) || decide (25 < l[i])) = b
    cases b <;> simp
theorem spec_slots (l : List Int) (hl : l.length = 256) (d : Nat) : ∀ i : Nat, i + d = l.length → Ev (fun k => spec_SketchOK.l0 k (i : Int) l) (slotsFrom l d i) := by
  induction d with
  | zero =>
    intro i hi
    refine Ev.step (fun k => ?_) (Ev.now _)
    rw [spec_SketchOK.l0, if_neg (by omega), slotsFrom]
  | succ d ih =>
    intro i hi
    have c0 : (i : Int) < 256 := by omega
    have c1 : (i : Int) < (l.length : Int) := by omega
    have e1 : Aside0 (wrap64 ((i : Int) + 1) = ((i + 1 : Nat) : Int)) := ⟨by rw [w64 (by omega) (by omega)]; omega⟩
    rw [slotsFrom]
    by_cases a1 : l.getD i 0 < 0
    · rw [decide_eq_true a1, Bool.true_or, Bool.not_true, Bool.false_and]
      refine Ev.step (fun k => ?_) (Ev.now _)
      rw [spec_SketchOK.l0, if_pos c0, if_pos (Int.natCast_nonneg _), if_pos c1, rd_nat, if_pos a1]
    · by_cases a2 : 25 < l.getD i 0
      · rw [decide_eq_true a2, Bool.or_true, Bool.not_true, Bool.false_and]
        refine Ev.step (fun k => ?_) (Ev.now _)
        rw [spec_SketchOK.l0, if_pos c0, if_pos (Int.natCast_nonneg _), if_pos c1, rd_nat, if_neg a1, if_pos a2]
      · rw [decide_eq_false a1, decide_eq_false a2, Bool.or_false, Bool.not_false, Bool.true_and]
        refine Ev.step (fun k => ?_) (ih (i + 1) (by omega))
        rw [spec_SketchOK.l0, if_pos c0, if_pos (Int.natCast_nonneg _), if_pos c1, rd_nat, if_neg a1, if_neg a2, e1.out]
theorem spec_SketchOK_eq (l : List Int) : ∃ r, impl_SketchOK.f l = some r ∧ Ev (fun k => spec_SketchOK.f k l) r := by
  by_cases h : (l.length : Int) = 256
  · have hl : l.length = 256 := by omega
    refine ⟨(!(l.any fun x => (decide (x < 0) || decide (25 < x)))), ?_, ?_⟩
    · unfold impl_SketchOK.f; rw [if_pos h]
    · have h1 := spec_slots l hl l.length 0 (by omega)
      rw [slots_any l l.length 0 (by omega), List.drop_zero, n0] at h1
      refine Ev.congr (fun k => ?_) h1
      unfold spec_SketchOK.f; rw [if_pos h]
  · refine ⟨false, ?_, ?_⟩
    · unfold impl_SketchOK.f; rw [if_neg h]
    · refine Ev.congr (f := fun _ => some false) (fun k => ?_) (Ev.now _)
      unfold spec_SketchOK.f; rw [if_neg h]
theorem toI (xs : List Int) (hn : xs.length ≤ 35184372088832) (k : Nat) (hk : xs.length < k) : laws_toIntS.f k xs = some xs := by
  unfold laws_toIntS.f
  rw [if_pos (by omega), if_pos (by omega), Int.toNat_natCast]
  exact toS_all laws_toIntS.l0 (fun _ _ _ _ => rfl) xs (by omega) k hk
theorem eqI (xs : List Int) (hn : xs.length ≤ 140737488351232) (k : Nat) (hk : xs.length < k) : laws_eqIntS.f k xs xs = some true := by
  unfold laws_eqIntS.f
  rw [if_pos rfl]
  exact eqS_all laws_eqIntS.l0 (fun _ _ _ _ => rfl) xs (by omega) k hk
/-- The law's own measure: a longer slice is let by. -/
theorem sz_big (l : List Int) (hm : l.length ≤ 9223372036854775807) : (l.length > 1048576 → laws_szSketch.f l 1048576 = some (-1)) ∧ (l.length ≤ 1048576 → laws_szSketch.f l 1048576 = some (1048576 - (l.length : Int))) := by
  unfold laws_szSketch.f laws_szIntS.f
  have e : Aside0 (wrap64 (1048576 - (l.length : Int)) = 1048576 - (l.length : Int)) := ⟨w64 (by omega) (by omega)⟩
  constructor
  · intro h
    have h0 : 1048576 - (l.length : Int) < 0 := by omega
    rw [e.out, if_pos h0]; rfl
  · intro h
    have h0 : ¬ (1048576 - (l.length : Int) < 0) := by omega
    rw [e.out, if_neg h0, Option.bind_some, if_neg h0]
theorem FnExactSketchOK (l : List Int) (hm : l.length ≤ maxLen) : ∃ k, laws_FnExactSketchOK.f k l = some true := by
  unfold maxLen at hm
  obtain ⟨z1, z2⟩ := sz_big l hm
  by_cases h : l.length > 1048576
  · refine ⟨0, ?_⟩
    unfold laws_FnExactSketchOK.f
    rw [z1 h, Option.bind_some, if_pos (by decide)]
  · obtain ⟨r, h2, K1, h1⟩ := spec_SketchOK_eq l
    have h1' : ∀ k, K1 ≤ k → spec_SketchOK.f k l = some r := h1
    refine ⟨K1 + l.length + 1, ?_⟩
    have hd : laws_toSketch.f (K1 + l.length + 1) l = some l := by
      unfold laws_toSketch.f
      rw [toI l (by omega) _ (by omega), Option.bind_some]
    unfold laws_FnExactSketchOK.f
    rw [z2 (by omega), Option.bind_some, if_neg (by omega), hd, Option.bind_some, h1' _ (by omega), Option.bind_some, Option.bind_some, h2, Option.bind_some, bne_self_eq_false, if_neg Bool.false_ne_true, Option.bind_some]
    unfold laws_eqSketch.f
    rw [eqI l (by omega) _ (by omega)]
    simp

end Go.Proofs.Ytkflfpkmcdmdhaa.Pure
