-- A text of this session: written by its own program (wip/x/xprint.py), which runs the kit's printer with contracts of its own.
import Derived.Test.YtchoncnahlcfjaaXFnExactDigestJoinx0
import Derived.Test.YtchoncnahlcfjaaXFnExactDigestJoinx1
import Derived.Test.YtchoncnahlcfjaaXFnExactDigestJoinx4
import Derived.Test.YtchoncnahlcfjaaXFnExactDigestJoinx5
import Derived.Test.YtchoncnahlcfjaaXFnExactDigestJoinx7
namespace Go.Proofs.Ytchoncnahlcfjaa.XFnExactDigestJoin
open Go.RowKit Go.Proofs.YtchoncnahlcfjaaW.PrintWords Go.Proofs.YtchoncnahlcfjaaW.PrintLast Go.Proofs.YtchoncnahlcfjaaW.PrintMore
attribute [local go_sem] max2_int min2_int max_two min_two max_three min_three max_four min_four   -- for this text's walks alone
set_option linter.unusedVariables false
set_option linter.unusedSimpArgs false

/-! ### laws_FnExactDigestJoin: function 6 -/
mutual
def laws_FnExactDigestJoin.j0 : Nat → Int → Int → Bool → Int → Int → Int → List Int → Int → Int → Int → List Int → Int → Int → Int → List Int → Int → Int → Int → List Int → Int → Int → Int → List Int → Int → Int → Int → List Int → Option (Bool)
  | 0, _, _, _, _, _, _, _, _, _, _, _, _, _, _, _, _, _, _, _, _, _, _, _, _, _, _, _ => none
  | k + 1, x7, x11, x53, x214000, x214001, x214002, x214003, x215000, x215001, x215002, x215003, x237000, x237001, x237002, x237003, x244000, x244001, x244002, x244003, x251000, x251001, x251002, x251003, x259000, x259001, x259002, x259003 => if x53 = true then (some false) else ((laws_toDigest.f k x214000 x214001 x214002 x214003).bind fun bt260 => ((laws_eqDigest.f k x244000 x244001 x244002 x244003 bt260.1 bt260.2.1 bt260.2.2.1 bt260.2.2.2).bind fun t266 => (if t266 = true then ((laws_toDigest.f k x215000 x215001 x215002 x215003).bind fun bt267 => ((laws_eqDigest.f k x251000 x251001 x251002 x251003 bt267.1 bt267.2.1 bt267.2.2.1 bt267.2.2.2).bind fun t273 => (if t273 = true then ((laws_markDigest.f k x244000 x244001 x244002 x244003 1).bind fun bt274 => ((laws_markDigest.f k x251000 x251001 x251002 x251003 bt274.1).bind fun bt276 => (if bt276.1 < 0 then (laws_FnExactDigestJoin.j1 k x7 true x214000 x214001 x214002 x214003 x215000 x215001 x215002 x215003 x237000 x237001 x237002 x237003 x259000 x259001 x259002 x259003) else ((laws_eqDigest.f k x259000 x259001 x259002 x259003 x237000 x237001 x237002 x237003).bind fun t278 => (if t278 = true then (laws_FnExactDigestJoin.j1 k x7 (x11 != x7) x214000 x214001 x214002 x214003 x215000 x215001 x215002 x215003 x237000 x237001 x237002 x237003 x259000 x259001 x259002 x259003) else (laws_FnExactDigestJoin.j1 k x7 true x214000 x214001 x214002 x214003 x215000 x215001 x215002 x215003 x237000 x237001 x237002 x237003 x259000 x259001 x259002 x259003)))))) else (some false)))) else (some false))))
def laws_FnExactDigestJoin.j1 : Nat → Int → Bool → Int → Int → Int → List Int → Int → Int → Int → List Int → Int → Int → Int → List Int → Int → Int → Int → List Int → Option (Bool)
  | 0, _, _, _, _, _, _, _, _, _, _, _, _, _, _, _, _, _, _ => none
  | k + 1, x7, x82, x214000, x214001, x214002, x214003, x215000, x215001, x215002, x215003, x237000, x237001, x237002, x237003, x259000, x259001, x259002, x259003 => if x82 = true then (some false) else ((laws_markDigest.f k x259000 x259001 x259002 x259003 1).bind fun bt279 => ((laws_heldDigest.f k x259000 x259001 x259002 bt279.2 1).bind fun t281 => (if t281 < 0 then (some false) else (if t281 = bt279.1 then ((laws_toDigest.f k x214000 x214001 x214002 x214003).bind fun bt282 => ((laws_toDigest.f k x215000 x215001 x215002 x215003).bind fun bt288 => ((impl_DigestJoin.f k bt282.1 bt282.2.1 bt282.2.2.1 bt282.2.2.2 bt288.1 bt288.2.1 bt288.2.2.1 bt288.2.2.2).bind fun bt294 => ((laws_eqDigest.f k bt294.1 bt294.2.1 bt294.2.2.1 bt294.2.2.2.1 x237000 x237001 x237002 x237003).bind fun t302 => (if t302 = true then (laws_FnExactDigestJoin.j2 k bt279.1 (bt294.2.2.2.2 != x7) x259000 x259001 x259002 bt279.2) else (laws_FnExactDigestJoin.j2 k bt279.1 true x259000 x259001 x259002 bt279.2)))))) else (some false)))))
def laws_FnExactDigestJoin.j2 : Nat → Int → Bool → Int → Int → Int → List Int → Option (Bool)
  | 0, _, _, _, _, _, _ => none
  | k + 1, x13, x110, x259000, x259001, x259002, x259003 => if x110 = true then (some false) else ((laws_heldDigest.f k x259000 x259001 x259002 x259003 1).bind fun t303 => (if t303 < 0 then (some false) else (if t303 = x13 then (some true) else (some false))))
end
def laws_FnExactDigestJoin.f (k : Nat) (a0_0 : Int) (a0_1 : Int) (a0_2 : Int) (l0_3 : List Int) (a1_0 : Int) (a1_1 : Int) (a1_2 : Int) (l1_3 : List Int) : Option (Bool) := (laws_szDigest.f a0_0 a0_1 a0_2 l0_3 1048576).bind fun t215 => (if t215 < 0 then (some true) else ((laws_szDigest.f a1_0 a1_1 a1_2 l1_3 t215).bind fun t216 => (if t216 < 0 then (some true) else ((laws_toDigest.f k a0_0 a0_1 a0_2 l0_3).bind fun bt217 => ((laws_toDigest.f k a1_0 a1_1 a1_2 l1_3).bind fun bt223 => ((spec_DigestJoin.f k bt217.1 bt217.2.1 bt217.2.2.1 bt217.2.2.2 bt223.1 bt223.2.1 bt223.2.2.1 bt223.2.2.2).bind fun bt229 => ((laws_toDigest.f k a0_0 a0_1 a0_2 l0_3).bind fun bt237 => ((laws_toDigest.f k a1_0 a1_1 a1_2 l1_3).bind fun bt244 => ((impl_DigestJoin.f k bt237.1 bt237.2.1 bt237.2.2.1 bt237.2.2.2 bt244.1 bt244.2.1 bt244.2.2.1 bt244.2.2.2).bind fun bt251 => ((laws_eqDigest.f k bt251.1 bt251.2.1 bt251.2.2.1 bt251.2.2.2.1 bt229.1 bt229.2.1 bt229.2.2.1 bt229.2.2.2.1).bind fun t259 => (if t259 = true then (laws_FnExactDigestJoin.j0 k bt229.2.2.2.2 bt251.2.2.2.2 (bt251.2.2.2.2 != bt229.2.2.2.2) a0_0 a0_1 a0_2 l0_3 a1_0 a1_1 a1_2 l1_3 bt229.1 bt229.2.1 bt229.2.2.1 bt229.2.2.2.1 bt237.1 bt237.2.1 bt237.2.2.1 bt237.2.2.2 bt244.1 bt244.2.1 bt244.2.2.1 bt244.2.2.2 bt251.1 bt251.2.1 bt251.2.2.1 bt251.2.2.2.1) else (laws_FnExactDigestJoin.j0 k bt229.2.2.2.2 bt251.2.2.2.2 true a0_0 a0_1 a0_2 l0_3 a1_0 a1_1 a1_2 l1_3 bt229.1 bt229.2.1 bt229.2.2.1 bt229.2.2.2.1 bt237.1 bt237.2.1 bt237.2.2.1 bt237.2.2.2 bt244.1 bt244.2.1 bt244.2.2.1 bt244.2.2.2 bt251.1 bt251.2.1 bt251.2.2.1 bt251.2.2.2.1))))))))))))
theorem laws_FnExactDigestJoin.mono_l : ∀ k, (∀ y0 y1 y2 y3 y4 y5 y6 y7 y8 y9 y10 y11 y12 y13 y14 y15 y16 y17 y18 y19 y20 y21 y22 y23 y24 y25 y26, LeO (laws_FnExactDigestJoin.j0 k y0 y1 y2 y3 y4 y5 y6 y7 y8 y9 y10 y11 y12 y13 y14 y15 y16 y17 y18 y19 y20 y21 y22 y23 y24 y25 y26) (laws_FnExactDigestJoin.j0 (k + 1) y0 y1 y2 y3 y4 y5 y6 y7 y8 y9 y10 y11 y12 y13 y14 y15 y16 y17 y18 y19 y20 y21 y22 y23 y24 y25 y26)) ∧ (∀ y0 y1 y2 y3 y4 y5 y6 y7 y8 y9 y10 y11 y12 y13 y14 y15 y16 y17, LeO (laws_FnExactDigestJoin.j1 k y0 y1 y2 y3 y4 y5 y6 y7 y8 y9 y10 y11 y12 y13 y14 y15 y16 y17) (laws_FnExactDigestJoin.j1 (k + 1) y0 y1 y2 y3 y4 y5 y6 y7 y8 y9 y10 y11 y12 y13 y14 y15 y16 y17)) ∧ (∀ y0 y1 y2 y3 y4 y5, LeO (laws_FnExactDigestJoin.j2 k y0 y1 y2 y3 y4 y5) (laws_FnExactDigestJoin.j2 (k + 1) y0 y1 y2 y3 y4 y5))
  | 0 => ⟨fun _ _ _ _ _ _ _ _ _ _ _ _ _ _ _ _ _ _ _ _ _ _ _ _ _ _ _ r h => by simp [laws_FnExactDigestJoin.j0] at h, fun _ _ _ _ _ _ _ _ _ _ _ _ _ _ _ _ _ _ r h => by simp [laws_FnExactDigestJoin.j1] at h, fun _ _ _ _ _ _ r h => by simp [laws_FnExactDigestJoin.j2] at h⟩
  | k + 1 => by
    obtain ⟨ih0, ih1, ih2⟩ := laws_FnExactDigestJoin.mono_l k
    refine ⟨?_, ?_, ?_⟩
    · intro y0 y1 y2 y3 y4 y5 y6 y7 y8 y9 y10 y11 y12 y13 y14 y15 y16 y17 y18 y19 y20 y21 y22 y23 y24 y25 y26
      unfold laws_FnExactDigestJoin.j0
      repeat' first
      | (with_reducible exact ih0 _ _ _ _ _ _ _ _ _ _ _ _ _ _ _ _ _ _ _ _ _ _ _ _ _ _ _)
      | (with_reducible exact ih1 _ _ _ _ _ _ _ _ _ _ _ _ _ _ _ _ _ _)
      | (with_reducible exact ih2 _ _ _ _ _ _)
      | (with_reducible exact impl_DigestJoin.mono _ _ _ _ _ _ _ _ _)
      | (with_reducible exact laws_eqDigest.mono _ _ _ _ _ _ _ _ _)
      | (with_reducible exact laws_heldDigest.mono _ _ _ _ _ _)
      | (with_reducible exact laws_markDigest.mono _ _ _ _ _ _)
      | (with_reducible exact laws_toDigest.mono _ _ _ _ _)
      | (with_reducible exact spec_DigestJoin.mono _ _ _ _ _ _ _ _ _)
      | (with_reducible exact LeO.refl _)
      | (with_reducible exact LeO.none _)
      | (with_reducible refine LeO.ite ?_ ?_)
      | (with_reducible refine LeO.bind ?_ (fun _ => ?_))
      | exact ih0 _ _ _ _ _ _ _ _ _ _ _ _ _ _ _ _ _ _ _ _ _ _ _ _ _ _ _
      | exact ih1 _ _ _ _ _ _ _ _ _ _ _ _ _ _ _ _ _ _
      | exact ih2 _ _ _ _ _ _
      | exact impl_DigestJoin.mono _ _ _ _ _ _ _ _ _
      | exact laws_eqDigest.mono _ _ _ _ _ _ _ _ _
      | exact laws_heldDigest.mono _ _ _ _ _ _
      | exact laws_markDigest.mono _ _ _ _ _ _
      | exact laws_toDigest.mono _ _ _ _ _
      | exact spec_DigestJoin.mono _ _ _ _ _ _ _ _ _
      | exact LeO.none _
      | refine LeO.ite ?_ ?_
      | refine LeO.bind ?_ (fun _ => ?_)
    · intro y0 y1 y2 y3 y4 y5 y6 y7 y8 y9 y10 y11 y12 y13 y14 y15 y16 y17
      unfold laws_FnExactDigestJoin.j1
      repeat' first
      | (with_reducible exact ih0 _ _ _ _ _ _ _ _ _ _ _ _ _ _ _ _ _ _ _ _ _ _ _ _ _ _ _)
      | (with_reducible exact ih1 _ _ _ _ _ _ _ _ _ _ _ _ _ _ _ _ _ _)
      | (with_reducible exact ih2 _ _ _ _ _ _)
      | (with_reducible exact impl_DigestJoin.mono _ _ _ _ _ _ _ _ _)
      | (with_reducible exact laws_eqDigest.mono _ _ _ _ _ _ _ _ _)
      | (with_reducible exact laws_heldDigest.mono _ _ _ _ _ _)
      | (with_reducible exact laws_markDigest.mono _ _ _ _ _ _)
      | (with_reducible exact laws_toDigest.mono _ _ _ _ _)
      | (with_reducible exact spec_DigestJoin.mono _ _ _ _ _ _ _ _ _)
      | (with_reducible exact LeO.refl _)
      | (with_reducible exact LeO.none _)
      | (with_reducible refine LeO.ite ?_ ?_)
      | (with_reducible refine LeO.bind ?_ (fun _ => ?_))
      | exact ih0 _ _ _ _ _ _ _ _ _ _ _ _ _ _ _ _ _ _ _ _ _ _ _ _ _ _ _
      | exact ih1 _ _ _ _ _ _ _ _ _ _ _ _ _ _ _ _ _ _
      | exact ih2 _ _ _ _ _ _
      | exact impl_DigestJoin.mono _ _ _ _ _ _ _ _ _
      | exact laws_eqDigest.mono _ _ _ _ _ _ _ _ _
      | exact laws_heldDigest.mono _ _ _ _ _ _
      | exact laws_markDigest.mono _ _ _ _ _ _
      | exact laws_toDigest.mono _ _ _ _ _
      | exact spec_DigestJoin.mono _ _ _ _ _ _ _ _ _
      | exact LeO.none _
      | refine LeO.ite ?_ ?_
      | refine LeO.bind ?_ (fun _ => ?_)
    · intro y0 y1 y2 y3 y4 y5
      unfold laws_FnExactDigestJoin.j2
      repeat' first
      | (with_reducible exact ih0 _ _ _ _ _ _ _ _ _ _ _ _ _ _ _ _ _ _ _ _ _ _ _ _ _ _ _)
      | (with_reducible exact ih1 _ _ _ _ _ _ _ _ _ _ _ _ _ _ _ _ _ _)
      | (with_reducible exact ih2 _ _ _ _ _ _)
      | (with_reducible exact impl_DigestJoin.mono _ _ _ _ _ _ _ _ _)
      | (with_reducible exact laws_eqDigest.mono _ _ _ _ _ _ _ _ _)
      | (with_reducible exact laws_heldDigest.mono _ _ _ _ _ _)
      | (with_reducible exact laws_markDigest.mono _ _ _ _ _ _)
      | (with_reducible exact laws_toDigest.mono _ _ _ _ _)
      | (with_reducible exact spec_DigestJoin.mono _ _ _ _ _ _ _ _ _)
      | (with_reducible exact LeO.refl _)
      | (with_reducible exact LeO.none _)
      | (with_reducible refine LeO.ite ?_ ?_)
      | (with_reducible refine LeO.bind ?_ (fun _ => ?_))
      | exact ih0 _ _ _ _ _ _ _ _ _ _ _ _ _ _ _ _ _ _ _ _ _ _ _ _ _ _ _
      | exact ih1 _ _ _ _ _ _ _ _ _ _ _ _ _ _ _ _ _ _
      | exact ih2 _ _ _ _ _ _
      | exact impl_DigestJoin.mono _ _ _ _ _ _ _ _ _
      | exact laws_eqDigest.mono _ _ _ _ _ _ _ _ _
      | exact laws_heldDigest.mono _ _ _ _ _ _
      | exact laws_markDigest.mono _ _ _ _ _ _
      | exact laws_toDigest.mono _ _ _ _ _
      | exact spec_DigestJoin.mono _ _ _ _ _ _ _ _ _
      | exact LeO.none _
      | refine LeO.ite ?_ ?_
      | refine LeO.bind ?_ (fun _ => ?_)
theorem laws_FnExactDigestJoin.mono : ∀ a0 a1 a2 a3 a4 a5 a6 a7 k, LeO (laws_FnExactDigestJoin.f k a0 a1 a2 a3 a4 a5 a6 a7) (laws_FnExactDigestJoin.f (k + 1) a0 a1 a2 a3 a4 a5 a6 a7) := by
  intro a0 a1 a2 a3 a4 a5 a6 a7 k
  obtain ⟨ih0, ih1, ih2⟩ := laws_FnExactDigestJoin.mono_l k
  unfold laws_FnExactDigestJoin.f
  repeat' first
      | (with_reducible exact ih0 _ _ _ _ _ _ _ _ _ _ _ _ _ _ _ _ _ _ _ _ _ _ _ _ _ _ _)
      | (with_reducible exact ih1 _ _ _ _ _ _ _ _ _ _ _ _ _ _ _ _ _ _)
      | (with_reducible exact ih2 _ _ _ _ _ _)
      | (with_reducible exact impl_DigestJoin.mono _ _ _ _ _ _ _ _ _)
      | (with_reducible exact laws_eqDigest.mono _ _ _ _ _ _ _ _ _)
      | (with_reducible exact laws_heldDigest.mono _ _ _ _ _ _)
      | (with_reducible exact laws_markDigest.mono _ _ _ _ _ _)
      | (with_reducible exact laws_toDigest.mono _ _ _ _ _)
      | (with_reducible exact spec_DigestJoin.mono _ _ _ _ _ _ _ _ _)
      | (with_reducible exact LeO.refl _)
      | (with_reducible exact LeO.none _)
      | (with_reducible refine LeO.ite ?_ ?_)
      | (with_reducible refine LeO.bind ?_ (fun _ => ?_))
      | exact ih0 _ _ _ _ _ _ _ _ _ _ _ _ _ _ _ _ _ _ _ _ _ _ _ _ _ _ _
      | exact ih1 _ _ _ _ _ _ _ _ _ _ _ _ _ _ _ _ _ _
      | exact ih2 _ _ _ _ _ _
      | exact impl_DigestJoin.mono _ _ _ _ _ _ _ _ _
      | exact laws_eqDigest.mono _ _ _ _ _ _ _ _ _
      | exact laws_heldDigest.mono _ _ _ _ _ _
      | exact laws_markDigest.mono _ _ _ _ _ _
      | exact laws_toDigest.mono _ _ _ _ _
      | exact spec_DigestJoin.mono _ _ _ _ _ _ _ _ _
      | exact LeO.none _
      | refine LeO.ite ?_ ?_
      | refine LeO.bind ?_ (fun _ => ?_)
def laws_FnExactDigestJoin.T8 : Bool × List (List Nat × List Nat) := (true, [([], []), ([0], [0]), ([], []), ([2, 1], [2]), ([1, 3, 3], [1, 3]), ([4], [4]), ([5], [5]), ([5], [5]), ([], []), ([8, 6, 4, 0, 1, 2, 3, 4, 5, 6, 8], [6, 8]), ([7, 9, 0, 1, 2, 3, 4, 5, 6, 7, 8, 9], [7])])
def laws_FnExactDigestJoin.B8 : List Nat := [0, 1, 0, 7, 15, 31, 63, 63, 0, 383, 1023]
theorem laws_FnExactDigestJoin.tab8 : rtab .any (opsOf Try.f6 8) = laws_FnExactDigestJoin.T8 := by kernel_rfl
theorem laws_FnExactDigestJoin.bits8 : waitsOk laws_FnExactDigestJoin.T8.2 laws_FnExactDigestJoin.B8 = true := by kernel_rfl
def laws_FnExactDigestJoin.T31 : Bool × List (List Nat × List Nat) := (true, [([], []), ([0], [0]), ([], []), ([2, 1], [2]), ([1, 3, 3], [1, 3]), ([4], [4]), ([5], [5]), ([5], [5]), ([], []), ([8, 6, 4, 0, 1, 2, 3, 4, 5, 6, 8], [6, 8]), ([7, 9, 0, 1, 2, 3, 4, 5, 6, 7, 8, 9], [7])])
def laws_FnExactDigestJoin.B31 : List Nat := [0, 1, 0, 7, 15, 31, 63, 63, 0, 383, 1023]
theorem laws_FnExactDigestJoin.tab31 : rtab .any (opsOf Try.f6 31) = laws_FnExactDigestJoin.T31 := by kernel_rfl
theorem laws_FnExactDigestJoin.bits31 : waitsOk laws_FnExactDigestJoin.T31.2 laws_FnExactDigestJoin.B31 = true := by kernel_rfl
end Go.Proofs.Ytchoncnahlcfjaa.XFnExactDigestJoin
