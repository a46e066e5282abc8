-- A text of this session: written by its own program (wip/x/xprint.py), which runs the kit's printer with contracts of its own.
import Derived.Test.YtchoncnahlcfjaaXFnExactSketchJoinx0
import Derived.Test.YtchoncnahlcfjaaXFnExactSketchJoinx1
import Derived.Test.YtchoncnahlcfjaaXFnExactSketchJoinx2
import Derived.Test.YtchoncnahlcfjaaXFnExactSketchJoinx3
namespace Go.Proofs.Ytchoncnahlcfjaa.XFnExactSketchJoin
open Go.RowKit Go.Proofs.YtchoncnahlcfjaaW.PrintWords Go.Proofs.YtchoncnahlcfjaaW.PrintLast Go.Proofs.YtchoncnahlcfjaaW.PrintMore
attribute [local go_sem] max2_int min2_int max_two min_two max_three min_three max_four min_four   -- for this text's walks alone
set_option linter.unusedVariables false
set_option linter.unusedSimpArgs false

/-! ### laws_FnExactSketchJoin: function 3 -/
mutual
def laws_FnExactSketchJoin.j0 : Nat → Int → Int → Bool → List Int → List Int → List Int → List Int → List Int → List Int → Option (Bool)
  | 0, _, _, _, _, _, _, _, _, _ => none
  | k + 1, x7, x11, x53, x153000, x154000, x167000, x171000, x175000, x180000 => if x53 = true then (some false) else ((laws_toSketch.f k x153000).bind fun t181 => ((laws_eqSketch.f k x171000 t181).bind fun t184 => (if t184 = true then ((laws_toSketch.f k x154000).bind fun t185 => ((laws_eqSketch.f k x175000 t185).bind fun t188 => (if t188 = true then ((laws_markSketch.f k x171000 1).bind fun bt189 => ((laws_markSketch.f k x175000 bt189.1).bind fun bt191 => (if bt191.1 < 0 then (laws_FnExactSketchJoin.j1 k x7 true x153000 x154000 x167000 x180000) else ((laws_eqSketch.f k x180000 x167000).bind fun t193 => (if t193 = true then (laws_FnExactSketchJoin.j1 k x7 (x11 != x7) x153000 x154000 x167000 x180000) else (laws_FnExactSketchJoin.j1 k x7 true x153000 x154000 x167000 x180000)))))) else (some false)))) else (some false))))
def laws_FnExactSketchJoin.j1 : Nat → Int → Bool → List Int → List Int → List Int → List Int → Option (Bool)
  | 0, _, _, _, _, _, _ => none
  | k + 1, x7, x82, x153000, x154000, x167000, x180000 => if x82 = true then (some false) else ((laws_markSketch.f k x180000 1).bind fun bt194 => ((laws_heldSketch.f k bt194.2 1).bind fun t196 => (if t196 < 0 then (some false) else (if t196 = bt194.1 then ((laws_toSketch.f k x153000).bind fun t197 => ((laws_toSketch.f k x154000).bind fun t200 => ((impl_SketchJoin.f k t197 t200).bind fun bt203 => ((laws_eqSketch.f k bt203.1 x167000).bind fun t208 => (if t208 = true then (laws_FnExactSketchJoin.j2 k bt194.1 (bt203.2 != x7) bt194.2) else (laws_FnExactSketchJoin.j2 k bt194.1 true bt194.2)))))) else (some false)))))
def laws_FnExactSketchJoin.j2 : Nat → Int → Bool → List Int → Option (Bool)
  | 0, _, _, _ => none
  | k + 1, x13, x110, x180000 => if x110 = true then (some false) else ((laws_heldSketch.f k x180000 1).bind fun t209 => (if t209 < 0 then (some false) else (if t209 = x13 then (some true) else (some false))))
end
def laws_FnExactSketchJoin.f (k : Nat) (l0_0 : List Int) (l1_0 : List Int) : Option (Bool) := (laws_szSketch.f l0_0 1048576).bind fun t154 => (if t154 < 0 then (some true) else ((laws_szSketch.f l1_0 t154).bind fun t155 => (if t155 < 0 then (some true) else ((laws_toSketch.f k l0_0).bind fun t156 => ((laws_toSketch.f k l1_0).bind fun t159 => ((spec_SketchJoin.f k t156 t159).bind fun bt162 => ((laws_toSketch.f k l0_0).bind fun t167 => ((laws_toSketch.f k l1_0).bind fun t171 => ((impl_SketchJoin.f k t167 t171).bind fun bt175 => ((laws_eqSketch.f k bt175.1 bt162.1).bind fun t180 => (if t180 = true then (laws_FnExactSketchJoin.j0 k bt162.2 bt175.2 (bt175.2 != bt162.2) l0_0 l1_0 bt162.1 t167 t171 bt175.1) else (laws_FnExactSketchJoin.j0 k bt162.2 bt175.2 true l0_0 l1_0 bt162.1 t167 t171 bt175.1))))))))))))
theorem laws_FnExactSketchJoin.mono_l : ∀ k, (∀ y0 y1 y2 y3 y4 y5 y6 y7 y8, LeO (laws_FnExactSketchJoin.j0 k y0 y1 y2 y3 y4 y5 y6 y7 y8) (laws_FnExactSketchJoin.j0 (k + 1) y0 y1 y2 y3 y4 y5 y6 y7 y8)) ∧ (∀ y0 y1 y2 y3 y4 y5, LeO (laws_FnExactSketchJoin.j1 k y0 y1 y2 y3 y4 y5) (laws_FnExactSketchJoin.j1 (k + 1) y0 y1 y2 y3 y4 y5)) ∧ (∀ y0 y1 y2, LeO (laws_FnExactSketchJoin.j2 k y0 y1 y2) (laws_FnExactSketchJoin.j2 (k + 1) y0 y1 y2))
  | 0 => ⟨fun _ _ _ _ _ _ _ _ _ r h => by simp [laws_FnExactSketchJoin.j0] at h, fun _ _ _ _ _ _ r h => by simp [laws_FnExactSketchJoin.j1] at h, fun _ _ _ r h => by simp [laws_FnExactSketchJoin.j2] at h⟩
  | k + 1 => by
    obtain ⟨ih0, ih1, ih2⟩ := laws_FnExactSketchJoin.mono_l k
    refine ⟨?_, ?_, ?_⟩
    · intro y0 y1 y2 y3 y4 y5 y6 y7 y8
      unfold laws_FnExactSketchJoin.j0
      repeat' first
      | (with_reducible exact ih0 _ _ _ _ _ _ _ _ _)
      | (with_reducible exact ih1 _ _ _ _ _ _)
      | (with_reducible exact ih2 _ _ _)
      | (with_reducible exact impl_SketchJoin.mono _ _ _)
      | (with_reducible exact laws_eqSketch.mono _ _ _)
      | (with_reducible exact laws_heldSketch.mono _ _ _)
      | (with_reducible exact laws_markSketch.mono _ _ _)
      | (with_reducible exact laws_toSketch.mono _ _)
      | (with_reducible exact spec_SketchJoin.mono _ _ _)
      | (with_reducible exact LeO.refl _)
      | (with_reducible exact LeO.none _)
      | (with_reducible refine LeO.ite ?_ ?_)
      | (with_reducible refine LeO.bind ?_ (fun _ => ?_))
      | exact ih0 _ _ _ _ _ _ _ _ _
      | exact ih1 _ _ _ _ _ _
      | exact ih2 _ _ _
      | exact impl_SketchJoin.mono _ _ _
      | exact laws_eqSketch.mono _ _ _
      | exact laws_heldSketch.mono _ _ _
      | exact laws_markSketch.mono _ _ _
      | exact laws_toSketch.mono _ _
      | exact spec_SketchJoin.mono _ _ _
      | exact LeO.none _
      | refine LeO.ite ?_ ?_
      | refine LeO.bind ?_ (fun _ => ?_)
    · intro y0 y1 y2 y3 y4 y5
      unfold laws_FnExactSketchJoin.j1
      repeat' first
      | (with_reducible exact ih0 _ _ _ _ _ _ _ _ _)
      | (with_reducible exact ih1 _ _ _ _ _ _)
      | (with_reducible exact ih2 _ _ _)
      | (with_reducible exact impl_SketchJoin.mono _ _ _)
      | (with_reducible exact laws_eqSketch.mono _ _ _)
      | (with_reducible exact laws_heldSketch.mono _ _ _)
      | (with_reducible exact laws_markSketch.mono _ _ _)
      | (with_reducible exact laws_toSketch.mono _ _)
      | (with_reducible exact spec_SketchJoin.mono _ _ _)
      | (with_reducible exact LeO.refl _)
      | (with_reducible exact LeO.none _)
      | (with_reducible refine LeO.ite ?_ ?_)
      | (with_reducible refine LeO.bind ?_ (fun _ => ?_))
      | exact ih0 _ _ _ _ _ _ _ _ _
      | exact ih1 _ _ _ _ _ _
      | exact ih2 _ _ _
      | exact impl_SketchJoin.mono _ _ _
      | exact laws_eqSketch.mono _ _ _
      | exact laws_heldSketch.mono _ _ _
      | exact laws_markSketch.mono _ _ _
      | exact laws_toSketch.mono _ _
      | exact spec_SketchJoin.mono _ _ _
      | exact LeO.none _
      | refine LeO.ite ?_ ?_
      | refine LeO.bind ?_ (fun _ => ?_)
    · intro y0 y1 y2
      unfold laws_FnExactSketchJoin.j2
      repeat' first
      | (with_reducible exact ih0 _ _ _ _ _ _ _ _ _)
      | (with_reducible exact ih1 _ _ _ _ _ _)
      | (with_reducible exact ih2 _ _ _)
      | (with_reducible exact impl_SketchJoin.mono _ _ _)
      | (with_reducible exact laws_eqSketch.mono _ _ _)
      | (with_reducible exact laws_heldSketch.mono _ _ _)
      | (with_reducible exact laws_markSketch.mono _ _ _)
      | (with_reducible exact laws_toSketch.mono _ _)
      | (with_reducible exact spec_SketchJoin.mono _ _ _)
      | (with_reducible exact LeO.refl _)
      | (with_reducible exact LeO.none _)
      | (with_reducible refine LeO.ite ?_ ?_)
      | (with_reducible refine LeO.bind ?_ (fun _ => ?_))
      | exact ih0 _ _ _ _ _ _ _ _ _
      | exact ih1 _ _ _ _ _ _
      | exact ih2 _ _ _
      | exact impl_SketchJoin.mono _ _ _
      | exact laws_eqSketch.mono _ _ _
      | exact laws_heldSketch.mono _ _ _
      | exact laws_markSketch.mono _ _ _
      | exact laws_toSketch.mono _ _
      | exact spec_SketchJoin.mono _ _ _
      | exact LeO.none _
      | refine LeO.ite ?_ ?_
      | refine LeO.bind ?_ (fun _ => ?_)
theorem laws_FnExactSketchJoin.mono : ∀ a0 a1 k, LeO (laws_FnExactSketchJoin.f k a0 a1) (laws_FnExactSketchJoin.f (k + 1) a0 a1) := by
  intro a0 a1 k
  obtain ⟨ih0, ih1, ih2⟩ := laws_FnExactSketchJoin.mono_l k
  unfold laws_FnExactSketchJoin.f
  repeat' first
      | (with_reducible exact ih0 _ _ _ _ _ _ _ _ _)
      | (with_reducible exact ih1 _ _ _ _ _ _)
      | (with_reducible exact ih2 _ _ _)
      | (with_reducible exact impl_SketchJoin.mono _ _ _)
      | (with_reducible exact laws_eqSketch.mono _ _ _)
      | (with_reducible exact laws_heldSketch.mono _ _ _)
      | (with_reducible exact laws_markSketch.mono _ _ _)
      | (with_reducible exact laws_toSketch.mono _ _)
      | (with_reducible exact spec_SketchJoin.mono _ _ _)
      | (with_reducible exact LeO.refl _)
      | (with_reducible exact LeO.none _)
      | (with_reducible refine LeO.ite ?_ ?_)
      | (with_reducible refine LeO.bind ?_ (fun _ => ?_))
      | exact ih0 _ _ _ _ _ _ _ _ _
      | exact ih1 _ _ _ _ _ _
      | exact ih2 _ _ _
      | exact impl_SketchJoin.mono _ _ _
      | exact laws_eqSketch.mono _ _ _
      | exact laws_heldSketch.mono _ _ _
      | exact laws_markSketch.mono _ _ _
      | exact laws_toSketch.mono _ _
      | exact spec_SketchJoin.mono _ _ _
      | exact LeO.none _
      | refine LeO.ite ?_ ?_
      | refine LeO.bind ?_ (fun _ => ?_)
def laws_FnExactSketchJoin.T8 : Bool × List (List Nat × List Nat) := (true, [([], []), ([0], [0]), ([], []), ([2, 1], [2]), ([1, 3, 3], [1, 3]), ([4], [4]), ([5], [5]), ([5], [5]), ([], []), ([8, 6, 4, 0, 1, 2, 3, 4, 5, 6, 8], [6, 8]), ([7, 9, 0, 1, 2, 3, 4, 5, 6, 7, 8, 9], [7])])
def laws_FnExactSketchJoin.B8 : List Nat := [0, 1, 0, 7, 15, 31, 63, 63, 0, 383, 1023]
theorem laws_FnExactSketchJoin.tab8 : rtab .any (opsOf Try.f3 8) = laws_FnExactSketchJoin.T8 := by kernel_rfl
theorem laws_FnExactSketchJoin.bits8 : waitsOk laws_FnExactSketchJoin.T8.2 laws_FnExactSketchJoin.B8 = true := by kernel_rfl
def laws_FnExactSketchJoin.T31 : Bool × List (List Nat × List Nat) := (true, [([], []), ([0], [0]), ([], []), ([2, 1], [2]), ([1, 3, 3], [1, 3]), ([4], [4]), ([5], [5]), ([5], [5]), ([], []), ([8, 6, 4, 0, 1, 2, 3, 4, 5, 6, 8], [6, 8]), ([7, 9, 0, 1, 2, 3, 4, 5, 6, 7, 8, 9], [7])])
def laws_FnExactSketchJoin.B31 : List Nat := [0, 1, 0, 7, 15, 31, 63, 63, 0, 383, 1023]
theorem laws_FnExactSketchJoin.tab31 : rtab .any (opsOf Try.f3 31) = laws_FnExactSketchJoin.T31 := by kernel_rfl
theorem laws_FnExactSketchJoin.bits31 : waitsOk laws_FnExactSketchJoin.T31.2 laws_FnExactSketchJoin.B31 = true := by kernel_rfl
end Go.Proofs.Ytchoncnahlcfjaa.XFnExactSketchJoin
