-- A text of this session: written by its own program (wip/x/xprint.py), which runs the kit's printer with contracts of its own.
import Derived.Test.YtchoncnahlcfjaaXFnDigestx0
import Derived.Test.YtchoncnahlcfjaaXFnDigestx2
import Derived.Test.YtchoncnahlcfjaaXFnDigestx3
import Derived.Test.YtchoncnahlcfjaaXFnDigestx5
import Derived.Test.YtchoncnahlcfjaaXFnDigestx8
import Derived.Test.YtchoncnahlcfjaaXFnDigestx9
import Derived.Test.YtchoncnahlcfjaaXFnDigestx10
namespace Go.Proofs.Ytchoncnahlcfjaa.XFnDigest
open Go.RowKit Go.Proofs.YtchoncnahlcfjaaW.PrintWords Go.Proofs.YtchoncnahlcfjaaW.PrintLast Go.Proofs.YtchoncnahlcfjaaW.PrintMore
attribute [local go_sem] max2_int min2_int max_two min_two max_three min_three max_four min_four   -- for this text's walks alone
set_option linter.unusedVariables false
set_option linter.unusedSimpArgs false

/-! ### laws_FnDigest: function 7 -/
mutual
def laws_FnDigest.j0 : Nat → List Int → List Int → Bool → Option (Bool)
  | 0, _, _, _ => none
  | k + 1, x0, x1, x35 => if x35 = true then (some true) else ((spec_DrawDigestOf.f k x0).bind fun bt268 => ((spec_DigestOf.f k bt268.1 bt268.2).bind fun bt272 => ((impl_DigestOf.f k bt268.1 bt268.2).bind fun bt280 => (if bt280.2.2.2.2 = bt272.2.2.2.2 then (if bt280.2.2.2.2 = 0 then ((laws_at.f x1 0 (wrap64 ((bt268.1.length : Int) + 1))).bind fun t288 => (if 0 ≤ t288 then (if t288 ≤ (bt268.1.length : Int) then ((impl_DigestOf.f k (bt268.1.take (t288 : Int).toNat) bt268.2).bind fun bt293 => ((impl_DigestOf.f k (bt268.1.drop (t288 : Int).toNat) bt268.2).bind fun bt305 => ((impl_DigestJoin.f k bt293.1 bt293.2.1 bt293.2.2.1 bt293.2.2.2.1 bt305.1 bt305.2.1 bt305.2.2.1 bt305.2.2.2.1).bind fun bt313 => (if bt293.2.2.2.2 = 0 then (if bt305.2.2.2.2 = 0 then (if bt313.2.2.2.2 = 0 then (if bt280.2.2.1 = (bt268.1.length : Int) then ((spec_DigestOK.f k bt280.1 bt280.2.1 bt280.2.2.1 bt280.2.2.2.1).bind fun t321 => (laws_FnDigest.j1 k x1 bt268.1 bt268.2 bt313.2.2.2.2 (!t321) bt280.1 bt280.2.1 bt280.2.2.1 bt280.2.2.2.1 bt313.1 bt313.2.1 bt313.2.2.1 bt313.2.2.2.1)) else (laws_FnDigest.j1 k x1 bt268.1 bt268.2 bt313.2.2.2.2 true bt280.1 bt280.2.1 bt280.2.2.1 bt280.2.2.2.1 bt313.1 bt313.2.1 bt313.2.2.1 bt313.2.2.2.1)) else (if (wrap64 ((bt293.2.2.2.1.length : Int) + (bt305.2.2.2.1.length : Int))) ≤ 512 then (laws_FnDigest.j1 k x1 bt268.1 bt268.2 bt313.2.2.2.2 true bt280.1 bt280.2.1 bt280.2.2.1 bt280.2.2.2.1 bt313.1 bt313.2.1 bt313.2.2.1 bt313.2.2.2.1) else (if bt280.2.2.1 = (bt268.1.length : Int) then ((spec_DigestOK.f k bt280.1 bt280.2.1 bt280.2.2.1 bt280.2.2.2.1).bind fun t322 => (laws_FnDigest.j1 k x1 bt268.1 bt268.2 bt313.2.2.2.2 (!t322) bt280.1 bt280.2.1 bt280.2.2.1 bt280.2.2.2.1 bt313.1 bt313.2.1 bt313.2.2.1 bt313.2.2.2.1)) else (laws_FnDigest.j1 k x1 bt268.1 bt268.2 bt313.2.2.2.2 true bt280.1 bt280.2.1 bt280.2.2.1 bt280.2.2.2.1 bt313.1 bt313.2.1 bt313.2.2.1 bt313.2.2.2.1)))) else (laws_FnDigest.j1 k x1 bt268.1 bt268.2 bt313.2.2.2.2 true bt280.1 bt280.2.1 bt280.2.2.1 bt280.2.2.2.1 bt313.1 bt313.2.1 bt313.2.2.1 bt313.2.2.2.1)) else (laws_FnDigest.j1 k x1 bt268.1 bt268.2 bt313.2.2.2.2 true bt280.1 bt280.2.1 bt280.2.2.1 bt280.2.2.2.1 bt313.1 bt313.2.1 bt313.2.2.1 bt313.2.2.2.1))))) else (none)) else (none))) else (some true)) else (some false)))))
def laws_FnDigest.j1 : Nat → List Int → List Int → Int → Int → Bool → Int → Int → Int → List Int → Int → Int → Int → List Int → Option (Bool)
  | 0, _, _, _, _, _, _, _, _, _, _, _, _, _ => none
  | k + 1, x1, x5, x6, x17, x116, x288000, x288001, x288002, x288003, x321000, x321001, x321002, x321003 => if x116 = true then (some false) else (laws_FnDigest.l0 k x1 x5 x6 x17 (-25) x288000 x288001 x288002 x288003 x321000 x321001 x321002 x321003)
def laws_FnDigest.l0 : Nat → List Int → List Int → Int → Int → Int → Int → Int → Int → List Int → Int → Int → Int → List Int → Option (Bool)
  | 0, _, _, _, _, _, _, _, _, _, _, _, _, _ => none
  | k + 1, x1, x5, x6, x17, x18, x288000, x288001, x288002, x288003, x321000, x321001, x321002, x321003 => if x18 ≤ 45 then (laws_FnDigest.l1 k x1 x5 x6 x17 x18 0 0 x288000 x288001 x288002 x288003 x321000 x321001 x321002 x321003) else ((laws_at.f x1 1 101).bind fun t330 => ((impl_DigestAt.f k x288000 x288001 x288002 x288003 t330).bind fun bt331 => (if (x5.length : Int) = 0 then (some (bt331.2 == 8)) else (laws_FnDigest.l2 k x5 bt331.1 bt331.2 false 0))))
def laws_FnDigest.l1 : Nat → List Int → List Int → Int → Int → Int → Int → Int → Int → Int → Int → List Int → Int → Int → Int → List Int → Option (Bool)
  | 0, _, _, _, _, _, _, _, _, _, _, _, _, _, _, _ => none
  | k + 1, x1, x5, x6, x17, x18, x19, x20, x288000, x288001, x288002, x288003, x321000, x321001, x321002, x321003 => if x20 < (x5.length : Int) then (if 0 ≤ x20 then (if (rd x5 x20) ≤ x18 then (laws_FnDigest.l1 k x1 x5 x6 x17 x18 (wrap64 (x19 + 1)) (wrap64 (x20 + 1)) x288000 x288001 x288002 x288003 x321000 x321001 x321002 x321003) else (laws_FnDigest.l1 k x1 x5 x6 x17 x18 x19 (wrap64 (x20 + 1)) x288000 x288001 x288002 x288003 x321000 x321001 x321002 x321003)) else (none)) else ((impl_DigestRank.f k x288000 x288001 x288002 x288003 x18).bind fun bt324 => (if bt324.2.2 = 0 then (if x19 < bt324.1 then (laws_FnDigest.j4 k x1 x5 x6 x17 x18 x19 true x288000 x288001 x288002 x288003 x321000 x321001 x321002 x321003) else (if x19 > bt324.2.1 then (laws_FnDigest.j4 k x1 x5 x6 x17 x18 x19 true x288000 x288001 x288002 x288003 x321000 x321001 x321002 x321003) else (if (wrap64 (bt324.2.1 - bt324.1)) ≥ x6 then (laws_FnDigest.j4 k x1 x5 x6 x17 x18 x19 (decide (bt324.2.1 > 0)) x288000 x288001 x288002 x288003 x321000 x321001 x321002 x321003) else (laws_FnDigest.j4 k x1 x5 x6 x17 x18 x19 false x288000 x288001 x288002 x288003 x321000 x321001 x321002 x321003)))) else (laws_FnDigest.j4 k x1 x5 x6 x17 x18 x19 true x288000 x288001 x288002 x288003 x321000 x321001 x321002 x321003)))
def laws_FnDigest.j4 : Nat → List Int → List Int → Int → Int → Int → Int → Bool → Int → Int → Int → List Int → Int → Int → Int → List Int → Option (Bool)
  | 0, _, _, _, _, _, _, _, _, _, _, _, _, _, _, _ => none
  | k + 1, x1, x5, x6, x17, x18, x19, x164, x288000, x288001, x288002, x288003, x321000, x321001, x321002, x321003 => if x164 = true then (some false) else ((impl_DigestRank.f k x321000 x321001 x321002 x321003 x18).bind fun bt327 => (if x17 = 0 then (if bt327.2.2 = 0 then (if x19 < bt327.1 then (some false) else (if x19 > bt327.2.1 then (some false) else (laws_FnDigest.l0 k x1 x5 x6 x17 (wrap64 (x18 + 1)) x288000 x288001 x288002 x288003 x321000 x321001 x321002 x321003))) else (some false)) else (laws_FnDigest.l0 k x1 x5 x6 x17 (wrap64 (x18 + 1)) x288000 x288001 x288002 x288003 x321000 x321001 x321002 x321003)))
def laws_FnDigest.l2 : Nat → List Int → Int → Int → Bool → Int → Option (Bool)
  | 0, _, _, _, _, _ => none
  | k + 1, x5, x24, x25, x26, x27 => if x27 < (x5.length : Int) then (if x26 = true then (laws_FnDigest.l2 k x5 x24 x25 true (wrap64 (x27 + 1))) else (if 0 ≤ x27 then (laws_FnDigest.l2 k x5 x24 x25 ((rd x5 x27) == x24) (wrap64 (x27 + 1))) else (none))) else (if x25 = 0 then (some x26) else (some false))
end
def laws_FnDigest.f (k : Nat) (l0 : List Int) (l1 : List Int) : Option (Bool) := if (l0.length : Int) > 1048576 then (laws_FnDigest.j0 k l0 l1 true) else (laws_FnDigest.j0 k l0 l1 (decide ((l1.length : Int) > 1048576)))
theorem laws_FnDigest.mono_l : ∀ k, (∀ y0 y1 y2, LeO (laws_FnDigest.j0 k y0 y1 y2) (laws_FnDigest.j0 (k + 1) y0 y1 y2)) ∧ (∀ y0 y1 y2 y3 y4 y5 y6 y7 y8 y9 y10 y11 y12, LeO (laws_FnDigest.j1 k y0 y1 y2 y3 y4 y5 y6 y7 y8 y9 y10 y11 y12) (laws_FnDigest.j1 (k + 1) y0 y1 y2 y3 y4 y5 y6 y7 y8 y9 y10 y11 y12)) ∧ (∀ y0 y1 y2 y3 y4 y5 y6 y7 y8 y9 y10 y11 y12, LeO (laws_FnDigest.l0 k y0 y1 y2 y3 y4 y5 y6 y7 y8 y9 y10 y11 y12) (laws_FnDigest.l0 (k + 1) y0 y1 y2 y3 y4 y5 y6 y7 y8 y9 y10 y11 y12)) ∧ (∀ y0 y1 y2 y3 y4 y5 y6 y7 y8 y9 y10 y11 y12 y13 y14, LeO (laws_FnDigest.l1 k y0 y1 y2 y3 y4 y5 y6 y7 y8 y9 y10 y11 y12 y13 y14) (laws_FnDigest.l1 (k + 1) y0 y1 y2 y3 y4 y5 y6 y7 y8 y9 y10 y11 y12 y13 y14)) ∧ (∀ y0 y1 y2 y3 y4 y5 y6 y7 y8 y9 y10 y11 y12 y13 y14, LeO (laws_FnDigest.j4 k y0 y1 y2 y3 y4 y5 y6 y7 y8 y9 y10 y11 y12 y13 y14) (laws_FnDigest.j4 (k + 1) y0 y1 y2 y3 y4 y5 y6 y7 y8 y9 y10 y11 y12 y13 y14)) ∧ (∀ y0 y1 y2 y3 y4, LeO (laws_FnDigest.l2 k y0 y1 y2 y3 y4) (laws_FnDigest.l2 (k + 1) y0 y1 y2 y3 y4))
  | 0 => ⟨fun _ _ _ r h => by simp [laws_FnDigest.j0] at h, fun _ _ _ _ _ _ _ _ _ _ _ _ _ r h => by simp [laws_FnDigest.j1] at h, fun _ _ _ _ _ _ _ _ _ _ _ _ _ r h => by simp [laws_FnDigest.l0] at h, fun _ _ _ _ _ _ _ _ _ _ _ _ _ _ _ r h => by simp [laws_FnDigest.l1] at h, fun _ _ _ _ _ _ _ _ _ _ _ _ _ _ _ r h => by simp [laws_FnDigest.j4] at h, fun _ _ _ _ _ r h => by simp [laws_FnDigest.l2] at h⟩
  | k + 1 => by
    obtain ⟨ih0, ih1, ih2, ih3, ih4, ih5⟩ := laws_FnDigest.mono_l k
    refine ⟨?_, ?_, ?_, ?_, ?_, ?_⟩
    · intro y0 y1 y2
      unfold laws_FnDigest.j0
      repeat' first
      | (with_reducible exact ih0 _ _ _)
      | (with_reducible exact ih1 _ _ _ _ _ _ _ _ _ _ _ _ _)
      | (with_reducible exact ih2 _ _ _ _ _ _ _ _ _ _ _ _ _)
      | (with_reducible exact ih3 _ _ _ _ _ _ _ _ _ _ _ _ _ _ _)
      | (with_reducible exact ih4 _ _ _ _ _ _ _ _ _ _ _ _ _ _ _)
      | (with_reducible exact ih5 _ _ _ _ _)
      | (with_reducible exact impl_DigestAt.mono _ _ _ _ _ _)
      | (with_reducible exact impl_DigestJoin.mono _ _ _ _ _ _ _ _ _)
      | (with_reducible exact impl_DigestOf.mono _ _ _)
      | (with_reducible exact impl_DigestRank.mono _ _ _ _ _ _)
      | (with_reducible exact spec_DigestOK.mono _ _ _ _ _)
      | (with_reducible exact spec_DigestOf.mono _ _ _)
      | (with_reducible exact spec_DrawDigestOf.mono _ _)
      | (with_reducible exact LeO.refl _)
      | (with_reducible exact LeO.none _)
      | (with_reducible refine LeO.ite ?_ ?_)
      | (with_reducible refine LeO.bind ?_ (fun _ => ?_))
      | exact ih0 _ _ _
      | exact ih1 _ _ _ _ _ _ _ _ _ _ _ _ _
      | exact ih2 _ _ _ _ _ _ _ _ _ _ _ _ _
      | exact ih3 _ _ _ _ _ _ _ _ _ _ _ _ _ _ _
      | exact ih4 _ _ _ _ _ _ _ _ _ _ _ _ _ _ _
      | exact ih5 _ _ _ _ _
      | exact impl_DigestAt.mono _ _ _ _ _ _
      | exact impl_DigestJoin.mono _ _ _ _ _ _ _ _ _
      | exact impl_DigestOf.mono _ _ _
      | exact impl_DigestRank.mono _ _ _ _ _ _
      | exact spec_DigestOK.mono _ _ _ _ _
      | exact spec_DigestOf.mono _ _ _
      | exact spec_DrawDigestOf.mono _ _
      | exact LeO.none _
      | refine LeO.ite ?_ ?_
      | refine LeO.bind ?_ (fun _ => ?_)
    · intro y0 y1 y2 y3 y4 y5 y6 y7 y8 y9 y10 y11 y12
      unfold laws_FnDigest.j1
      repeat' first
      | (with_reducible exact ih0 _ _ _)
      | (with_reducible exact ih1 _ _ _ _ _ _ _ _ _ _ _ _ _)
      | (with_reducible exact ih2 _ _ _ _ _ _ _ _ _ _ _ _ _)
      | (with_reducible exact ih3 _ _ _ _ _ _ _ _ _ _ _ _ _ _ _)
      | (with_reducible exact ih4 _ _ _ _ _ _ _ _ _ _ _ _ _ _ _)
      | (with_reducible exact ih5 _ _ _ _ _)
      | (with_reducible exact impl_DigestAt.mono _ _ _ _ _ _)
      | (with_reducible exact impl_DigestJoin.mono _ _ _ _ _ _ _ _ _)
      | (with_reducible exact impl_DigestOf.mono _ _ _)
      | (with_reducible exact impl_DigestRank.mono _ _ _ _ _ _)
      | (with_reducible exact spec_DigestOK.mono _ _ _ _ _)
      | (with_reducible exact spec_DigestOf.mono _ _ _)
      | (with_reducible exact spec_DrawDigestOf.mono _ _)
      | (with_reducible exact LeO.refl _)
      | (with_reducible exact LeO.none _)
      | (with_reducible refine LeO.ite ?_ ?_)
      | (with_reducible refine LeO.bind ?_ (fun _ => ?_))
      | exact ih0 _ _ _
      | exact ih1 _ _ _ _ _ _ _ _ _ _ _ _ _
      | exact ih2 _ _ _ _ _ _ _ _ _ _ _ _ _
      | exact ih3 _ _ _ _ _ _ _ _ _ _ _ _ _ _ _
      | exact ih4 _ _ _ _ _ _ _ _ _ _ _ _ _ _ _
      | exact ih5 _ _ _ _ _
      | exact impl_DigestAt.mono _ _ _ _ _ _
      | exact impl_DigestJoin.mono _ _ _ _ _ _ _ _ _
      | exact impl_DigestOf.mono _ _ _
      | exact impl_DigestRank.mono _ _ _ _ _ _
      | exact spec_DigestOK.mono _ _ _ _ _
      | exact spec_DigestOf.mono _ _ _
      | exact spec_DrawDigestOf.mono _ _
      | exact LeO.none _
      | refine LeO.ite ?_ ?_
      | refine LeO.bind ?_ (fun _ => ?_)
    · intro y0 y1 y2 y3 y4 y5 y6 y7 y8 y9 y10 y11 y12
      unfold laws_FnDigest.l0
      repeat' first
      | (with_reducible exact ih0 _ _ _)
      | (with_reducible exact ih1 _ _ _ _ _ _ _ _ _ _ _ _ _)
      | (with_reducible exact ih2 _ _ _ _ _ _ _ _ _ _ _ _ _)
      | (with_reducible exact ih3 _ _ _ _ _ _ _ _ _ _ _ _ _ _ _)
      | (with_reducible exact ih4 _ _ _ _ _ _ _ _ _ _ _ _ _ _ _)
      | (with_reducible exact ih5 _ _ _ _ _)
      | (with_reducible exact impl_DigestAt.mono _ _ _ _ _ _)
      | (with_reducible exact impl_DigestJoin.mono _ _ _ _ _ _ _ _ _)
      | (with_reducible exact impl_DigestOf.mono _ _ _)
      | (with_reducible exact impl_DigestRank.mono _ _ _ _ _ _)
      | (with_reducible exact spec_DigestOK.mono _ _ _ _ _)
      | (with_reducible exact spec_DigestOf.mono _ _ _)
      | (with_reducible exact spec_DrawDigestOf.mono _ _)
      | (with_reducible exact LeO.refl _)
      | (with_reducible exact LeO.none _)
      | (with_reducible refine LeO.ite ?_ ?_)
      | (with_reducible refine LeO.bind ?_ (fun _ => ?_))
      | exact ih0 _ _ _
      | exact ih1 _ _ _ _ _ _ _ _ _ _ _ _ _
      | exact ih2 _ _ _ _ _ _ _ _ _ _ _ _ _
      | exact ih3 _ _ _ _ _ _ _ _ _ _ _ _ _ _ _
      | exact ih4 _ _ _ _ _ _ _ _ _ _ _ _ _ _ _
      | exact ih5 _ _ _ _ _
      | exact impl_DigestAt.mono _ _ _ _ _ _
      | exact impl_DigestJoin.mono _ _ _ _ _ _ _ _ _
      | exact impl_DigestOf.mono _ _ _
      | exact impl_DigestRank.mono _ _ _ _ _ _
      | exact spec_DigestOK.mono _ _ _ _ _
      | exact spec_DigestOf.mono _ _ _
      | exact spec_DrawDigestOf.mono _ _
      | exact LeO.none _
      | refine LeO.ite ?_ ?_
      | refine LeO.bind ?_ (fun _ => ?_)
    · intro y0 y1 y2 y3 y4 y5 y6 y7 y8 y9 y10 y11 y12 y13 y14
      unfold laws_FnDigest.l1
      repeat' first
      | (with_reducible exact ih0 _ _ _)
      | (with_reducible exact ih1 _ _ _ _ _ _ _ _ _ _ _ _ _)
      | (with_reducible exact ih2 _ _ _ _ _ _ _ _ _ _ _ _ _)
      | (with_reducible exact ih3 _ _ _ _ _ _ _ _ _ _ _ _ _ _ _)
      | (with_reducible exact ih4 _ _ _ _ _ _ _ _ _ _ _ _ _ _ _)
      | (with_reducible exact ih5 _ _ _ _ _)
      | (with_reducible exact impl_DigestAt.mono _ _ _ _ _ _)
      | (with_reducible exact impl_DigestJoin.mono _ _ _ _ _ _ _ _ _)
      | (with_reducible exact impl_DigestOf.mono _ _ _)
      | (with_reducible exact impl_DigestRank.mono _ _ _ _ _ _)
      | (with_reducible exact spec_DigestOK.mono _ _ _ _ _)
      | (with_reducible exact spec_DigestOf.mono _ _ _)
      | (with_reducible exact spec_DrawDigestOf.mono _ _)
      | (with_reducible exact LeO.refl _)
      | (with_reducible exact LeO.none _)
      | (with_reducible refine LeO.ite ?_ ?_)
      | (with_reducible refine LeO.bind ?_ (fun _ => ?_))
      | exact ih0 _ _ _
      | exact ih1 _ _ _ _ _ _ _ _ _ _ _ _ _
      | exact ih2 _ _ _ _ _ _ _ _ _ _ _ _ _
      | exact ih3 _ _ _ _ _ _ _ _ _ _ _ _ _ _ _
      | exact ih4 _ _ _ _ _ _ _ _ _ _ _ _ _ _ _
      | exact ih5 _ _ _ _ _
      | exact impl_DigestAt.mono _ _ _ _ _ _
      | exact impl_DigestJoin.mono _ _ _ _ _ _ _ _ _
      | exact impl_DigestOf.mono _ _ _
      | exact impl_DigestRank.mono _ _ _ _ _ _
      | exact spec_DigestOK.mono _ _ _ _ _
      | exact spec_DigestOf.mono _ _ _
      | exact spec_DrawDigestOf.mono _ _
      | exact LeO.none _
      | refine LeO.ite ?_ ?_
      | refine LeO.bind ?_ (fun _ => ?_)
    · intro y0 y1 y2 y3 y4 y5 y6 y7 y8 y9 y10 y11 y12 y13 y14
      unfold laws_FnDigest.j4
      repeat' first
      | (with_reducible exact ih0 _ _ _)
      | (with_reducible exact ih1 _ _ _ _ _ _ _ _ _ _ _ _ _)
      | (with_reducible exact ih2 _ _ _ _ _ _ _ _ _ _ _ _ _)
      | (with_reducible exact ih3 _ _ _ _ _ _ _ _ _ _ _ _ _ _ _)
      | (with_reducible exact ih4 _ _ _ _ _ _ _ _ _ _ _ _ _ _ _)
      | (with_reducible exact ih5 _ _ _ _ _)
      | (with_reducible exact impl_DigestAt.mono _ _ _ _ _ _)
      | (with_reducible exact impl_DigestJoin.mono _ _ _ _ _ _ _ _ _)
      | (with_reducible exact impl_DigestOf.mono _ _ _)
      | (with_reducible exact impl_DigestRank.mono _ _ _ _ _ _)
      | (with_reducible exact spec_DigestOK.mono _ _ _ _ _)
      | (with_reducible exact spec_DigestOf.mono _ _ _)
      | (with_reducible exact spec_DrawDigestOf.mono _ _)
      | (with_reducible exact LeO.refl _)
      | (with_reducible exact LeO.none _)
      | (with_reducible refine LeO.ite ?_ ?_)
      | (with_reducible refine LeO.bind ?_ (fun _ => ?_))
      | exact ih0 _ _ _
      | exact ih1 _ _ _ _ _ _ _ _ _ _ _ _ _
      | exact ih2 _ _ _ _ _ _ _ _ _ _ _ _ _
      | exact ih3 _ _ _ _ _ _ _ _ _ _ _ _ _ _ _
      | exact ih4 _ _ _ _ _ _ _ _ _ _ _ _ _ _ _
      | exact ih5 _ _ _ _ _
      | exact impl_DigestAt.mono _ _ _ _ _ _
      | exact impl_DigestJoin.mono _ _ _ _ _ _ _ _ _
      | exact impl_DigestOf.mono _ _ _
      | exact impl_DigestRank.mono _ _ _ _ _ _
      | exact spec_DigestOK.mono _ _ _ _ _
      | exact spec_DigestOf.mono _ _ _
      | exact spec_DrawDigestOf.mono _ _
      | exact LeO.none _
      | refine LeO.ite ?_ ?_
      | refine LeO.bind ?_ (fun _ => ?_)
    · intro y0 y1 y2 y3 y4
      unfold laws_FnDigest.l2
      repeat' first
      | (with_reducible exact ih0 _ _ _)
      | (with_reducible exact ih1 _ _ _ _ _ _ _ _ _ _ _ _ _)
      | (with_reducible exact ih2 _ _ _ _ _ _ _ _ _ _ _ _ _)
      | (with_reducible exact ih3 _ _ _ _ _ _ _ _ _ _ _ _ _ _ _)
      | (with_reducible exact ih4 _ _ _ _ _ _ _ _ _ _ _ _ _ _ _)
      | (with_reducible exact ih5 _ _ _ _ _)
      | (with_reducible exact impl_DigestAt.mono _ _ _ _ _ _)
      | (with_reducible exact impl_DigestJoin.mono _ _ _ _ _ _ _ _ _)
      | (with_reducible exact impl_DigestOf.mono _ _ _)
      | (with_reducible exact impl_DigestRank.mono _ _ _ _ _ _)
      | (with_reducible exact spec_DigestOK.mono _ _ _ _ _)
      | (with_reducible exact spec_DigestOf.mono _ _ _)
      | (with_reducible exact spec_DrawDigestOf.mono _ _)
      | (with_reducible exact LeO.refl _)
      | (with_reducible exact LeO.none _)
      | (with_reducible refine LeO.ite ?_ ?_)
      | (with_reducible refine LeO.bind ?_ (fun _ => ?_))
      | exact ih0 _ _ _
      | exact ih1 _ _ _ _ _ _ _ _ _ _ _ _ _
      | exact ih2 _ _ _ _ _ _ _ _ _ _ _ _ _
      | exact ih3 _ _ _ _ _ _ _ _ _ _ _ _ _ _ _
      | exact ih4 _ _ _ _ _ _ _ _ _ _ _ _ _ _ _
      | exact ih5 _ _ _ _ _
      | exact impl_DigestAt.mono _ _ _ _ _ _
      | exact impl_DigestJoin.mono _ _ _ _ _ _ _ _ _
      | exact impl_DigestOf.mono _ _ _
      | exact impl_DigestRank.mono _ _ _ _ _ _
      | exact spec_DigestOK.mono _ _ _ _ _
      | exact spec_DigestOf.mono _ _ _
      | exact spec_DrawDigestOf.mono _ _
      | exact LeO.none _
      | refine LeO.ite ?_ ?_
      | refine LeO.bind ?_ (fun _ => ?_)
theorem laws_FnDigest.mono : ∀ a0 a1 k, LeO (laws_FnDigest.f k a0 a1) (laws_FnDigest.f (k + 1) a0 a1) := by
  intro a0 a1 k
  obtain ⟨ih0, ih1, ih2, ih3, ih4, ih5⟩ := laws_FnDigest.mono_l k
  unfold laws_FnDigest.f
  repeat' first
      | (with_reducible exact ih0 _ _ _)
      | (with_reducible exact ih1 _ _ _ _ _ _ _ _ _ _ _ _ _)
      | (with_reducible exact ih2 _ _ _ _ _ _ _ _ _ _ _ _ _)
      | (with_reducible exact ih3 _ _ _ _ _ _ _ _ _ _ _ _ _ _ _)
      | (with_reducible exact ih4 _ _ _ _ _ _ _ _ _ _ _ _ _ _ _)
      | (with_reducible exact ih5 _ _ _ _ _)
      | (with_reducible exact impl_DigestAt.mono _ _ _ _ _ _)
      | (with_reducible exact impl_DigestJoin.mono _ _ _ _ _ _ _ _ _)
      | (with_reducible exact impl_DigestOf.mono _ _ _)
      | (with_reducible exact impl_DigestRank.mono _ _ _ _ _ _)
      | (with_reducible exact spec_DigestOK.mono _ _ _ _ _)
      | (with_reducible exact spec_DigestOf.mono _ _ _)
      | (with_reducible exact spec_DrawDigestOf.mono _ _)
      | (with_reducible exact LeO.refl _)
      | (with_reducible exact LeO.none _)
      | (with_reducible refine LeO.ite ?_ ?_)
      | (with_reducible refine LeO.bind ?_ (fun _ => ?_))
      | exact ih0 _ _ _
      | exact ih1 _ _ _ _ _ _ _ _ _ _ _ _ _
      | exact ih2 _ _ _ _ _ _ _ _ _ _ _ _ _
      | exact ih3 _ _ _ _ _ _ _ _ _ _ _ _ _ _ _
      | exact ih4 _ _ _ _ _ _ _ _ _ _ _ _ _ _ _
      | exact ih5 _ _ _ _ _
      | exact impl_DigestAt.mono _ _ _ _ _ _
      | exact impl_DigestJoin.mono _ _ _ _ _ _ _ _ _
      | exact impl_DigestOf.mono _ _ _
      | exact impl_DigestRank.mono _ _ _ _ _ _
      | exact spec_DigestOK.mono _ _ _ _ _
      | exact spec_DigestOf.mono _ _ _
      | exact spec_DrawDigestOf.mono _ _
      | exact LeO.none _
      | refine LeO.ite ?_ ?_
      | refine LeO.bind ?_ (fun _ => ?_)
def laws_FnDigest.T31 : Bool × List (List Nat × List Nat) := (true, [([], []), ([], []), ([1], [1]), ([0, 2, 2], [0, 2]), ([3], [3]), ([4], [4]), ([4], [4]), ([5, 3, 0, 1, 2, 3, 4, 5], [5]), ([6, 7, 0, 1, 2, 3, 4, 5, 6, 7], [6])])
def laws_FnDigest.B31 : List Nat := [0, 0, 2, 7, 15, 31, 31, 63, 255]
theorem laws_FnDigest.tab31 : rtab .any (opsOf Try.f7 31) = laws_FnDigest.T31 := by kernel_rfl
theorem laws_FnDigest.bits31 : waitsOk laws_FnDigest.T31.2 laws_FnDigest.B31 = true := by kernel_rfl
end Go.Proofs.Ytchoncnahlcfjaa.XFnDigest
