-- A text of this session: written by its own program (wip/x/xprint.py), which runs the kit's printer with contracts of its own.
import Derived.Test.YtchoncnahlcfjaaDoorXFnSketchx0
import Derived.Test.YtchoncnahlcfjaaDoorXFnSketchx1
import Derived.Test.YtchoncnahlcfjaaDoorXFnSketchx2
import Derived.Test.YtchoncnahlcfjaaDoorXFnSketchx4
import Derived.Test.YtchoncnahlcfjaaDoorXFnSketchx5
import Derived.Test.YtchoncnahlcfjaaDoorXFnSketchx6
import Derived.Test.YtchoncnahlcfjaaDoorXFnSketchx7
namespace Go.Proofs.YtchoncnahlcfjaaDoor.XFnSketch
open Go.RowKit Go.Proofs.YtchoncnahlcfjaaDoorW.PrintWords Go.Proofs.YtchoncnahlcfjaaDoorW.PrintLast Go.Proofs.YtchoncnahlcfjaaDoorW.PrintMore
attribute [local go_sem] max2_int min2_int max_two min_two max_three min_three max_four min_four   -- for this text's walks alone
set_option linter.unusedVariables false
set_option linter.unusedSimpArgs false

/-! ### laws_FnSketch: function 4 -/
mutual
def laws_FnSketch.j0 : Nat → List ByteArray → Int → Bool → List Int → Option (Bool)
  | 0, _, _, _, _ => none
  | k + 1, x3, x5, x49, x253000 => if x49 = true then (some false) else (if x5 = 0 then (if (x3.length : Int) = 0 then (laws_FnSketch.j1 k x3 true x253000) else (laws_FnSketch.j1 k x3 (decide ((x3.length : Int) ≥ 4096)) x253000)) else (laws_FnSketch.j1 k x3 true x253000))
def laws_FnSketch.j1 : Nat → List ByteArray → Bool → List Int → Option (Bool)
  | 0, _, _, _ => none
  | k + 1, x3, x61, x253000 => if x61 = true then (some true) else (if 0 < (x3.length : Int) then (laws_FnSketch.l0 k x3 (([rdOf ByteArray.empty x3 0] : List ByteArray)) (wrap64 ((x3.length : Int) - 1)) x253000) else (none))
def laws_FnSketch.l0 : Nat → List ByteArray → List ByteArray → Int → List Int → Option (Bool)
  | 0, _, _, _, _ => none
  | k + 1, x3, x8, x9, x253000 => if x9 ≥ 0 then (if 0 ≤ x9 then (if x9 < (x3.length : Int) then (if x8.length < 8796093022208 then (laws_FnSketch.l0 k x3 (x8 ++ [rdOf ByteArray.empty x3 x9]) (wrap64 (x9 - 1)) x253000) else (none)) else (none)) else (none)) else ((impl_SketchOf.f k x8).bind fun bt262 => (if 0 ≤ (wrap64 ((x3.length : Int) / 2)) then (if (wrap64 ((x3.length : Int) / 2)) ≤ (x3.length : Int) then ((impl_SketchOf.f k (x3.take ((wrap64 ((x3.length : Int) / 2)) : Int).toNat)).bind fun bt271 => ((impl_SketchOf.f k (x3.drop ((wrap64 ((x3.length : Int) / 2)) : Int).toNat)).bind fun bt280 => ((impl_SketchJoin.f k bt271.1 bt280.1).bind fun bt285 => (if bt262.2 = 0 then (if bt271.2 = 0 then (if bt280.2 = 0 then (if bt285.2 = 0 then ((laws_sameInts.f k bt262.1 x253000).bind fun t290 => (if t290 = true then ((laws_sameInts.f k bt285.1 x253000).bind fun t291 => (laws_FnSketch.j3 k (!t291) x253000 bt271.1)) else (laws_FnSketch.j3 k true x253000 bt271.1))) else (laws_FnSketch.j3 k true x253000 bt271.1)) else (laws_FnSketch.j3 k true x253000 bt271.1)) else (laws_FnSketch.j3 k true x253000 bt271.1)) else (laws_FnSketch.j3 k true x253000 bt271.1))))) else (none)) else (none)))
def laws_FnSketch.j3 : Nat → Bool → List Int → List Int → Option (Bool)
  | 0, _, _, _ => none
  | k + 1, x137, x253000, x276000 => if x137 = true then (some false) else (laws_FnSketch.l1 k 0 x253000 x276000)
def laws_FnSketch.l1 : Nat → Int → List Int → List Int → Option (Bool)
  | 0, _, _, _ => none
  | k + 1, x19, x253000, x276000 => if x19 < (x253000.length : Int) then (if 0 ≤ x19 then (if x19 < (x276000.length : Int) then (if (rd x276000 x19) > (rd x253000 x19) then (some false) else (laws_FnSketch.l1 k (wrap64 (x19 + 1)) x253000 x276000)) else (none)) else (none)) else ((impl_SketchCount.f k x253000).bind fun bt294 => ((spec_SketchCount.f k x253000).bind fun bt296 => (if bt294.2 = bt296.2 then (if bt294.1 = bt296.1 then (some (decide (bt294.1 ≥ 0))) else (some false)) else (some false))))
end
def laws_FnSketch.f (k : Nat) (l0 : List Int) : Option (Bool) := if (l0.length : Int) > 1048576 then (some true) else ((spec_DrawSketchOf.f k l0).bind fun t240 => ((spec_SketchOf.f k t240).bind fun bt243 => ((impl_SketchOf.f k t240).bind fun bt248 => (if bt243.2 = bt248.2 then ((laws_sameInts.f k bt248.1 bt243.1).bind fun t253 => (laws_FnSketch.j0 k t240 bt243.2 (!t253) bt248.1)) else (laws_FnSketch.j0 k t240 bt243.2 true bt248.1)))))
theorem laws_FnSketch.mono_l : ∀ k, (∀ y0 y1 y2 y3, LeO (laws_FnSketch.j0 k y0 y1 y2 y3) (laws_FnSketch.j0 (k + 1) y0 y1 y2 y3)) ∧ (∀ y0 y1 y2, LeO (laws_FnSketch.j1 k y0 y1 y2) (laws_FnSketch.j1 (k + 1) y0 y1 y2)) ∧ (∀ y0 y1 y2 y3, LeO (laws_FnSketch.l0 k y0 y1 y2 y3) (laws_FnSketch.l0 (k + 1) y0 y1 y2 y3)) ∧ (∀ y0 y1 y2, LeO (laws_FnSketch.j3 k y0 y1 y2) (laws_FnSketch.j3 (k + 1) y0 y1 y2)) ∧ (∀ y0 y1 y2, LeO (laws_FnSketch.l1 k y0 y1 y2) (laws_FnSketch.l1 (k + 1) y0 y1 y2))
  | 0 => ⟨fun _ _ _ _ r h => by simp [laws_FnSketch.j0] at h, fun _ _ _ r h => by simp [laws_FnSketch.j1] at h, fun _ _ _ _ r h => by simp [laws_FnSketch.l0] at h, fun _ _ _ r h => by simp [laws_FnSketch.j3] at h, fun _ _ _ r h => by simp [laws_FnSketch.l1] at h⟩
  | k + 1 => by
    obtain ⟨ih0, ih1, ih2, ih3, ih4⟩ := laws_FnSketch.mono_l k
    refine ⟨?_, ?_, ?_, ?_, ?_⟩
    · intro y0 y1 y2 y3
      unfold laws_FnSketch.j0
      repeat' first
      | (with_reducible exact ih0 _ _ _ _)
      | (with_reducible exact ih1 _ _ _)
      | (with_reducible exact ih2 _ _ _ _)
      | (with_reducible exact ih3 _ _ _)
      | (with_reducible exact ih4 _ _ _)
      | (with_reducible exact impl_SketchCount.mono _ _)
      | (with_reducible exact impl_SketchJoin.mono _ _ _)
      | (with_reducible exact impl_SketchOf.mono _ _)
      | (with_reducible exact laws_sameInts.mono _ _ _)
      | (with_reducible exact spec_DrawSketchOf.mono _ _)
      | (with_reducible exact spec_SketchCount.mono _ _)
      | (with_reducible exact spec_SketchOf.mono _ _)
      | (with_reducible exact LeO.refl _)
      | (with_reducible exact LeO.none _)
      | (with_reducible refine LeO.ite ?_ ?_)
      | (with_reducible refine LeO.bind ?_ (fun _ => ?_))
      | exact ih0 _ _ _ _
      | exact ih1 _ _ _
      | exact ih2 _ _ _ _
      | exact ih3 _ _ _
      | exact ih4 _ _ _
      | exact impl_SketchCount.mono _ _
      | exact impl_SketchJoin.mono _ _ _
      | exact impl_SketchOf.mono _ _
      | exact laws_sameInts.mono _ _ _
      | exact spec_DrawSketchOf.mono _ _
      | exact spec_SketchCount.mono _ _
      | exact spec_SketchOf.mono _ _
      | exact LeO.none _
      | refine LeO.ite ?_ ?_
      | refine LeO.bind ?_ (fun _ => ?_)
    · intro y0 y1 y2
      unfold laws_FnSketch.j1
      repeat' first
      | (with_reducible exact ih0 _ _ _ _)
      | (with_reducible exact ih1 _ _ _)
      | (with_reducible exact ih2 _ _ _ _)
      | (with_reducible exact ih3 _ _ _)
      | (with_reducible exact ih4 _ _ _)
      | (with_reducible exact impl_SketchCount.mono _ _)
      | (with_reducible exact impl_SketchJoin.mono _ _ _)
      | (with_reducible exact impl_SketchOf.mono _ _)
      | (with_reducible exact laws_sameInts.mono _ _ _)
      | (with_reducible exact spec_DrawSketchOf.mono _ _)
      | (with_reducible exact spec_SketchCount.mono _ _)
      | (with_reducible exact spec_SketchOf.mono _ _)
      | (with_reducible exact LeO.refl _)
      | (with_reducible exact LeO.none _)
      | (with_reducible refine LeO.ite ?_ ?_)
      | (with_reducible refine LeO.bind ?_ (fun _ => ?_))
      | exact ih0 _ _ _ _
      | exact ih1 _ _ _
      | exact ih2 _ _ _ _
      | exact ih3 _ _ _
      | exact ih4 _ _ _
      | exact impl_SketchCount.mono _ _
      | exact impl_SketchJoin.mono _ _ _
      | exact impl_SketchOf.mono _ _
      | exact laws_sameInts.mono _ _ _
      | exact spec_DrawSketchOf.mono _ _
      | exact spec_SketchCount.mono _ _
      | exact spec_SketchOf.mono _ _
      | exact LeO.none _
      | refine LeO.ite ?_ ?_
      | refine LeO.bind ?_ (fun _ => ?_)
    · intro y0 y1 y2 y3
      unfold laws_FnSketch.l0
      repeat' first
      | (with_reducible exact ih0 _ _ _ _)
      | (with_reducible exact ih1 _ _ _)
      | (with_reducible exact ih2 _ _ _ _)
      | (with_reducible exact ih3 _ _ _)
      | (with_reducible exact ih4 _ _ _)
      | (with_reducible exact impl_SketchCount.mono _ _)
      | (with_reducible exact impl_SketchJoin.mono _ _ _)
      | (with_reducible exact impl_SketchOf.mono _ _)
      | (with_reducible exact laws_sameInts.mono _ _ _)
      | (with_reducible exact spec_DrawSketchOf.mono _ _)
      | (with_reducible exact spec_SketchCount.mono _ _)
      | (with_reducible exact spec_SketchOf.mono _ _)
      | (with_reducible exact LeO.refl _)
      | (with_reducible exact LeO.none _)
      | (with_reducible refine LeO.ite ?_ ?_)
      | (with_reducible refine LeO.bind ?_ (fun _ => ?_))
      | exact ih0 _ _ _ _
      | exact ih1 _ _ _
      | exact ih2 _ _ _ _
      | exact ih3 _ _ _
      | exact ih4 _ _ _
      | exact impl_SketchCount.mono _ _
      | exact impl_SketchJoin.mono _ _ _
      | exact impl_SketchOf.mono _ _
      | exact laws_sameInts.mono _ _ _
      | exact spec_DrawSketchOf.mono _ _
      | exact spec_SketchCount.mono _ _
      | exact spec_SketchOf.mono _ _
      | exact LeO.none _
      | refine LeO.ite ?_ ?_
      | refine LeO.bind ?_ (fun _ => ?_)
    · intro y0 y1 y2
      unfold laws_FnSketch.j3
      repeat' first
      | (with_reducible exact ih0 _ _ _ _)
      | (with_reducible exact ih1 _ _ _)
      | (with_reducible exact ih2 _ _ _ _)
      | (with_reducible exact ih3 _ _ _)
      | (with_reducible exact ih4 _ _ _)
      | (with_reducible exact impl_SketchCount.mono _ _)
      | (with_reducible exact impl_SketchJoin.mono _ _ _)
      | (with_reducible exact impl_SketchOf.mono _ _)
      | (with_reducible exact laws_sameInts.mono _ _ _)
      | (with_reducible exact spec_DrawSketchOf.mono _ _)
      | (with_reducible exact spec_SketchCount.mono _ _)
      | (with_reducible exact spec_SketchOf.mono _ _)
      | (with_reducible exact LeO.refl _)
      | (with_reducible exact LeO.none _)
      | (with_reducible refine LeO.ite ?_ ?_)
      | (with_reducible refine LeO.bind ?_ (fun _ => ?_))
      | exact ih0 _ _ _ _
      | exact ih1 _ _ _
      | exact ih2 _ _ _ _
      | exact ih3 _ _ _
      | exact ih4 _ _ _
      | exact impl_SketchCount.mono _ _
      | exact impl_SketchJoin.mono _ _ _
      | exact impl_SketchOf.mono _ _
      | exact laws_sameInts.mono _ _ _
      | exact spec_DrawSketchOf.mono _ _
      | exact spec_SketchCount.mono _ _
      | exact spec_SketchOf.mono _ _
      | exact LeO.none _
      | refine LeO.ite ?_ ?_
      | refine LeO.bind ?_ (fun _ => ?_)
    · intro y0 y1 y2
      unfold laws_FnSketch.l1
      repeat' first
      | (with_reducible exact ih0 _ _ _ _)
      | (with_reducible exact ih1 _ _ _)
      | (with_reducible exact ih2 _ _ _ _)
      | (with_reducible exact ih3 _ _ _)
      | (with_reducible exact ih4 _ _ _)
      | (with_reducible exact impl_SketchCount.mono _ _)
      | (with_reducible exact impl_SketchJoin.mono _ _ _)
      | (with_reducible exact impl_SketchOf.mono _ _)
      | (with_reducible exact laws_sameInts.mono _ _ _)
      | (with_reducible exact spec_DrawSketchOf.mono _ _)
      | (with_reducible exact spec_SketchCount.mono _ _)
      | (with_reducible exact spec_SketchOf.mono _ _)
      | (with_reducible exact LeO.refl _)
      | (with_reducible exact LeO.none _)
      | (with_reducible refine LeO.ite ?_ ?_)
      | (with_reducible refine LeO.bind ?_ (fun _ => ?_))
      | exact ih0 _ _ _ _
      | exact ih1 _ _ _
      | exact ih2 _ _ _ _
      | exact ih3 _ _ _
      | exact ih4 _ _ _
      | exact impl_SketchCount.mono _ _
      | exact impl_SketchJoin.mono _ _ _
      | exact impl_SketchOf.mono _ _
      | exact laws_sameInts.mono _ _ _
      | exact spec_DrawSketchOf.mono _ _
      | exact spec_SketchCount.mono _ _
      | exact spec_SketchOf.mono _ _
      | exact LeO.none _
      | refine LeO.ite ?_ ?_
      | refine LeO.bind ?_ (fun _ => ?_)
theorem laws_FnSketch.mono : ∀ a0 k, LeO (laws_FnSketch.f k a0) (laws_FnSketch.f (k + 1) a0) := by
  intro a0 k
  obtain ⟨ih0, ih1, ih2, ih3, ih4⟩ := laws_FnSketch.mono_l k
  unfold laws_FnSketch.f
  repeat' first
      | (with_reducible exact ih0 _ _ _ _)
      | (with_reducible exact ih1 _ _ _)
      | (with_reducible exact ih2 _ _ _ _)
      | (with_reducible exact ih3 _ _ _)
      | (with_reducible exact ih4 _ _ _)
      | (with_reducible exact impl_SketchCount.mono _ _)
      | (with_reducible exact impl_SketchJoin.mono _ _ _)
      | (with_reducible exact impl_SketchOf.mono _ _)
      | (with_reducible exact laws_sameInts.mono _ _ _)
      | (with_reducible exact spec_DrawSketchOf.mono _ _)
      | (with_reducible exact spec_SketchCount.mono _ _)
      | (with_reducible exact spec_SketchOf.mono _ _)
      | (with_reducible exact LeO.refl _)
      | (with_reducible exact LeO.none _)
      | (with_reducible refine LeO.ite ?_ ?_)
      | (with_reducible refine LeO.bind ?_ (fun _ => ?_))
      | exact ih0 _ _ _ _
      | exact ih1 _ _ _
      | exact ih2 _ _ _ _
      | exact ih3 _ _ _
      | exact ih4 _ _ _
      | exact impl_SketchCount.mono _ _
      | exact impl_SketchJoin.mono _ _ _
      | exact impl_SketchOf.mono _ _
      | exact laws_sameInts.mono _ _ _
      | exact spec_DrawSketchOf.mono _ _
      | exact spec_SketchCount.mono _ _
      | exact spec_SketchOf.mono _ _
      | exact LeO.none _
      | refine LeO.ite ?_ ?_
      | refine LeO.bind ?_ (fun _ => ?_)
end Go.Proofs.YtchoncnahlcfjaaDoor.XFnSketch
