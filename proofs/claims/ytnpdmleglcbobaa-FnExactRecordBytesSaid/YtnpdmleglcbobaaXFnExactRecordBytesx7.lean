-- A text of this session: written by its own program (wip/x/xprint.py), which runs the kit's printer with contracts of its own.
import Derived.Test.YtnpdmleglcbobaaXFnExactRecordBytesx0
import Derived.Test.YtnpdmleglcbobaaXFnExactRecordBytesx6
namespace Go.Proofs.Ytnpdmleglcbobaa.XFnExactRecordBytes
open Go.RowKit Go.Proofs.YtnpdmleglcbobaaW.PrintWords Go.Proofs.YtnpdmleglcbobaaW.PrintLast Go.Proofs.YtnpdmleglcbobaaW.PrintMore
attribute [local go_sem] max2_int min2_int max_two min_two max_three min_three max_four min_four   -- for this text's walks alone
set_option linter.unusedVariables false
set_option linter.unusedSimpArgs false
def fl7_ (n m : Nat) : Array Bool := ((List.range n).map fun i => m.testBit i).toArray

/-! ### impl_DocBytes: function 11 -/
mutual
def impl_DocBytes.j0 : Nat → Bool → ByteArray → List (S66) → Option (List Int × Int)
 | 0, _, _, _ => none
 | k + 1, x26, x315000, x315001 => if x26 = true then (some (([] : List Int), 12)) else (impl_DocBytes.l0 k x315001 (x315001.length : Int) 0 x315000 x315001)
def impl_DocBytes.l0 : Nat → List (S66) → Int → Int → ByteArray → List (S66) → Option (List Int × Int)
 | 0, _, _, _, _, _ => none
 | k + 1, x28, x29, x30, x315000, x315001 => if x30 < x29 then (if 0 ≤ x30 then (if x30 < (x28.length : Int) then (if (((rd_T66 x28 x30).f0).size : Int) > 65536 then (impl_DocBytes.j2 k x28 x29 x30 true x315000 x315001 ((rd_T66 x28 x30).f0) ((rd_T66 x28 x30).f1) ((rd_T66 x28 x30).f2)) else (if (((rd_T66 x28 x30).f1).length : Int) > 4096 then (impl_DocBytes.j2 k x28 x29 x30 true x315000 x315001 ((rd_T66 x28 x30).f0) ((rd_T66 x28 x30).f1) ((rd_T66 x28 x30).f2)) else (impl_DocBytes.j2 k x28 x29 x30 (decide ((((rd_T66 x28 x30).f2).length : Int) > 4096)) x315000 x315001 ((rd_T66 x28 x30).f0) ((rd_T66 x28 x30).f1) ((rd_T66 x28 x30).f2)))) else (none)) else (none)) else ((impl_putText.f k ([] : List Int) x315000).bind fun t320 => ((impl_putInt.f k t320 (x315001.length : Int)).bind fun t323 => (impl_DocBytes.l3 k t323 x315001 (x315001.length : Int) 0)))
def impl_DocBytes.j2 : Nat → List (S66) → Int → Int → Bool → ByteArray → List (S66) → ByteArray → List ByteArray → List Int → Option (List Int × Int)
 | 0, _, _, _, _, _, _, _, _, _ => none
 | k + 1, x28, x29, x30, x49, x315000, x315001, x317000, x317001, x317002 => if x49 = true then (some (([] : List Int), 12)) else (impl_DocBytes.l1 k x28 x29 x30 x317001 (x317001.length : Int) 0 x315000 x315001 x317000 x317001 x317002)
def impl_DocBytes.l1 : Nat → List (S66) → Int → Int → List ByteArray → Int → Int → ByteArray → List (S66) → ByteArray → List ByteArray → List Int → Option (List Int × Int)
 | 0, _, _, _, _, _, _, _, _, _, _, _ => none
 | k + 1, x28, x29, x30, x51, x52, x53, x315000, x315001, x317000, x317001, x317002 => if x53 < x52 then (if 0 ≤ x53 then (if x53 < (x51.length : Int) then (if ((rdOf ByteArray.empty x51 x53).size : Int) > 65536 then (some (([] : List Int), 12)) else (impl_DocBytes.l1 k x28 x29 x30 x51 x52 (wrap64 (x53 + 1)) x315000 x315001 x317000 x317001 x317002)) else (none)) else (none)) else (impl_DocBytes.l2 k x28 x29 x30 x317002 (x317002.length : Int) 0 x315000 x315001)
def impl_DocBytes.l2 : Nat → List (S66) → Int → Int → List Int → Int → Int → ByteArray → List (S66) → Option (List Int × Int)
 | 0, _, _, _, _, _, _, _, _ => none
 | k + 1, x28, x29, x30, x62, x63, x64, x315000, x315001 => if x64 < x63 then (if 0 ≤ x64 then (if x64 < (x62.length : Int) then ((impl_within.f (rd x62 x64) (-1000000000000) 1000000000000).bind fun t319 => (if t319 = true then (impl_DocBytes.l2 k x28 x29 x30 x62 x63 (wrap64 (x64 + 1)) x315000 x315001) else (some (([] : List Int), 12)))) else (none)) else (none)) else (impl_DocBytes.l0 k x28 x29 (wrap64 (x30 + 1)) x315000 x315001)
def impl_DocBytes.l3 : Nat → List Int → List (S66) → Int → Int → Option (List Int × Int)
 | 0, _, _, _, _ => none
 | k + 1, x10, x81, x82, x83 => if x83 < x82 then (if 0 ≤ x83 then (if x83 < (x81.length : Int) then ((impl_putText.f k x10 ((rd_T66 x81 x83).f0)).bind fun t328 => ((impl_putInt.f k t328 (((rd_T66 x81 x83).f1).length : Int)).bind fun t331 => (impl_DocBytes.l4 k t331 x81 x82 x83 ((rd_T66 x81 x83).f1) (((rd_T66 x81 x83).f1).length : Int) 0 ((rd_T66 x81 x83).f0) ((rd_T66 x81 x83).f1) ((rd_T66 x81 x83).f2)))) else (none)) else (none)) else (some (x10, 0))
def impl_DocBytes.l4 : Nat → List Int → List (S66) → Int → Int → List ByteArray → Int → Int → ByteArray → List ByteArray → List Int → Option (List Int × Int)
 | 0, _, _, _, _, _, _, _, _, _, _ => none
 | k + 1, x10, x81, x82, x83, x96, x97, x98, x328000, x328001, x328002 => if x98 < x97 then (if 0 ≤ x98 then (if x98 < (x96.length : Int) then ((impl_putText.f k x10 (rdOf ByteArray.empty x96 x98)).bind fun t335 => (impl_DocBytes.l4 k t335 x81 x82 x83 x96 x97 (wrap64 (x98 + 1)) x328000 x328001 x328002)) else (none)) else (none)) else ((impl_putInt.f k x10 (x328002.length : Int)).bind fun t338 => (impl_DocBytes.l5 k t338 x81 x82 x83 x328002 (x328002.length : Int) 0))
def impl_DocBytes.l5 : Nat → List Int → List (S66) → Int → Int → List Int → Int → Int → Option (List Int × Int)
 | 0, _, _, _, _, _, _, _ => none
 | k + 1, x10, x81, x82, x83, x112, x113, x114 => if x114 < x113 then (if 0 ≤ x114 then (if x114 < (x112.length : Int) then (if (rd x112 x114) < 0 then ((impl_putInt.f k x10 (wrap64 ((wrap64 ((-2) * (rd x112 x114))) - 1))).bind fun t342 => (impl_DocBytes.l5 k t342 x81 x82 x83 x112 x113 (wrap64 (x114 + 1)))) else ((impl_putInt.f k x10 (wrap64 (2 * (rd x112 x114)))).bind fun t345 => (impl_DocBytes.l5 k t345 x81 x82 x83 x112 x113 (wrap64 (x114 + 1))))) else (none)) else (none)) else (impl_DocBytes.l3 k x10 x81 x82 (wrap64 (x83 + 1)))
end
def impl_DocBytes.f (k : Nat) (a0_0 : ByteArray) (l0_1 : List (S66)) : Option (List Int × Int) := if (a0_0.size : Int) > 65536 then (impl_DocBytes.j0 k true a0_0 l0_1) else (impl_DocBytes.j0 k (decide ((l0_1.length : Int) > 4096)) a0_0 l0_1)
theorem impl_DocBytes.mono_l : ∀ k, (∀ y0 y1 y2, LeO (impl_DocBytes.j0 k y0 y1 y2) (impl_DocBytes.j0 (k + 1) y0 y1 y2)) ∧ (∀ y0 y1 y2 y3 y4, LeO (impl_DocBytes.l0 k y0 y1 y2 y3 y4) (impl_DocBytes.l0 (k + 1) y0 y1 y2 y3 y4)) ∧ (∀ y0 y1 y2 y3 y4 y5 y6 y7 y8, LeO (impl_DocBytes.j2 k y0 y1 y2 y3 y4 y5 y6 y7 y8) (impl_DocBytes.j2 (k + 1) y0 y1 y2 y3 y4 y5 y6 y7 y8)) ∧ (∀ y0 y1 y2 y3 y4 y5 y6 y7 y8 y9 y10, LeO (impl_DocBytes.l1 k y0 y1 y2 y3 y4 y5 y6 y7 y8 y9 y10) (impl_DocBytes.l1 (k + 1) y0 y1 y2 y3 y4 y5 y6 y7 y8 y9 y10)) ∧ (∀ y0 y1 y2 y3 y4 y5 y6 y7, LeO (impl_DocBytes.l2 k y0 y1 y2 y3 y4 y5 y6 y7) (impl_DocBytes.l2 (k + 1) y0 y1 y2 y3 y4 y5 y6 y7)) ∧ (∀ y0 y1 y2 y3, LeO (impl_DocBytes.l3 k y0 y1 y2 y3) (impl_DocBytes.l3 (k + 1) y0 y1 y2 y3)) ∧ (∀ y0 y1 y2 y3 y4 y5 y6 y7 y8 y9, LeO (impl_DocBytes.l4 k y0 y1 y2 y3 y4 y5 y6 y7 y8 y9) (impl_DocBytes.l4 (k + 1) y0 y1 y2 y3 y4 y5 y6 y7 y8 y9)) ∧ (∀ y0 y1 y2 y3 y4 y5 y6, LeO (impl_DocBytes.l5 k y0 y1 y2 y3 y4 y5 y6) (impl_DocBytes.l5 (k + 1) y0 y1 y2 y3 y4 y5 y6))
 | 0 => ⟨fun _ _ _ r h => by simp [impl_DocBytes.j0] at h, fun _ _ _ _ _ r h => by simp [impl_DocBytes.l0] at h, fun _ _ _ _ _ _ _ _ _ r h => by simp [impl_DocBytes.j2] at h, fun _ _ _ _ _ _ _ _ _ _ _ r h => by simp [impl_DocBytes.l1] at h, fun _ _ _ _ _ _ _ _ r h => by simp [impl_DocBytes.l2] at h, fun _ _ _ _ r h => by simp [impl_DocBytes.l3] at h, fun _ _ _ _ _ _ _ _ _ _ r h => by simp [impl_DocBytes.l4] at h, fun _ _ _ _ _ _ _ r h => by simp [impl_DocBytes.l5] at h⟩
 | k + 1 => by
  obtain ⟨ih0, ih1, ih2, ih3, ih4, ih5, ih6, ih7⟩ := impl_DocBytes.mono_l k
  refine ⟨?_, ?_, ?_, ?_, ?_, ?_, ?_, ?_⟩
  ·intro y0 y1 y2
   unfold impl_DocBytes.j0
   repeat' first
   | (with_reducible exact ih0 _ _ _)
   | (with_reducible exact ih1 _ _ _ _ _)
   | (with_reducible exact ih2 _ _ _ _ _ _ _ _ _)
   | (with_reducible exact ih3 _ _ _ _ _ _ _ _ _ _ _)
   | (with_reducible exact ih4 _ _ _ _ _ _ _ _)
   | (with_reducible exact ih5 _ _ _ _)
   | (with_reducible exact ih6 _ _ _ _ _ _ _ _ _ _)
   | (with_reducible exact ih7 _ _ _ _ _ _ _)
   | (with_reducible exact impl_putInt.mono _ _ _)
   | (with_reducible exact impl_putText.mono _ _ _)
   | (with_reducible exact LeO.refl _)
   | (with_reducible exact LeO.none _)
   | (with_reducible refine LeO.ite ?_ ?_)
   | (with_reducible refine LeO.bind ?_ (fun _ => ?_))
   | exact ih0 _ _ _
   | exact ih1 _ _ _ _ _
   | exact ih2 _ _ _ _ _ _ _ _ _
   | exact ih3 _ _ _ _ _ _ _ _ _ _ _
   | exact ih4 _ _ _ _ _ _ _ _
   | exact ih5 _ _ _ _
   | exact ih6 _ _ _ _ _ _ _ _ _ _
   | exact ih7 _ _ _ _ _ _ _
   | exact impl_putInt.mono _ _ _
   | exact impl_putText.mono _ _ _
   | exact LeO.none _
   | refine LeO.ite ?_ ?_
   | refine LeO.bind ?_ (fun _ => ?_)
  ·intro y0 y1 y2 y3 y4
   unfold impl_DocBytes.l0
   repeat' first
   | (with_reducible exact ih0 _ _ _)
   | (with_reducible exact ih1 _ _ _ _ _)
   | (with_reducible exact ih2 _ _ _ _ _ _ _ _ _)
   | (with_reducible exact ih3 _ _ _ _ _ _ _ _ _ _ _)
   | (with_reducible exact ih4 _ _ _ _ _ _ _ _)
   | (with_reducible exact ih5 _ _ _ _)
   | (with_reducible exact ih6 _ _ _ _ _ _ _ _ _ _)
   | (with_reducible exact ih7 _ _ _ _ _ _ _)
   | (with_reducible exact impl_putInt.mono _ _ _)
   | (with_reducible exact impl_putText.mono _ _ _)
   | (with_reducible exact LeO.refl _)
   | (with_reducible exact LeO.none _)
   | (with_reducible refine LeO.ite ?_ ?_)
   | (with_reducible refine LeO.bind ?_ (fun _ => ?_))
   | exact ih0 _ _ _
   | exact ih1 _ _ _ _ _
   | exact ih2 _ _ _ _ _ _ _ _ _
   | exact ih3 _ _ _ _ _ _ _ _ _ _ _
   | exact ih4 _ _ _ _ _ _ _ _
   | exact ih5 _ _ _ _
   | exact ih6 _ _ _ _ _ _ _ _ _ _
   | exact ih7 _ _ _ _ _ _ _
   | exact impl_putInt.mono _ _ _
   | exact impl_putText.mono _ _ _
   | exact LeO.none _
   | refine LeO.ite ?_ ?_
   | refine LeO.bind ?_ (fun _ => ?_)
  ·intro y0 y1 y2 y3 y4 y5 y6 y7 y8
   unfold impl_DocBytes.j2
   repeat' first
   | (with_reducible exact ih0 _ _ _)
   | (with_reducible exact ih1 _ _ _ _ _)
   | (with_reducible exact ih2 _ _ _ _ _ _ _ _ _)
   | (with_reducible exact ih3 _ _ _ _ _ _ _ _ _ _ _)
   | (with_reducible exact ih4 _ _ _ _ _ _ _ _)
   | (with_reducible exact ih5 _ _ _ _)
   | (with_reducible exact ih6 _ _ _ _ _ _ _ _ _ _)
   | (with_reducible exact ih7 _ _ _ _ _ _ _)
   | (with_reducible exact impl_putInt.mono _ _ _)
   | (with_reducible exact impl_putText.mono _ _ _)
   | (with_reducible exact LeO.refl _)
   | (with_reducible exact LeO.none _)
   | (with_reducible refine LeO.ite ?_ ?_)
   | (with_reducible refine LeO.bind ?_ (fun _ => ?_))
   | exact ih0 _ _ _
   | exact ih1 _ _ _ _ _
   | exact ih2 _ _ _ _ _ _ _ _ _
   | exact ih3 _ _ _ _ _ _ _ _ _ _ _
   | exact ih4 _ _ _ _ _ _ _ _
   | exact ih5 _ _ _ _
   | exact ih6 _ _ _ _ _ _ _ _ _ _
   | exact ih7 _ _ _ _ _ _ _
   | exact impl_putInt.mono _ _ _
   | exact impl_putText.mono _ _ _
   | exact LeO.none _
   | refine LeO.ite ?_ ?_
   | refine LeO.bind ?_ (fun _ => ?_)
  ·intro y0 y1 y2 y3 y4 y5 y6 y7 y8 y9 y10
   unfold impl_DocBytes.l1
   repeat' first
   | (with_reducible exact ih0 _ _ _)
   | (with_reducible exact ih1 _ _ _ _ _)
   | (with_reducible exact ih2 _ _ _ _ _ _ _ _ _)
   | (with_reducible exact ih3 _ _ _ _ _ _ _ _ _ _ _)
   | (with_reducible exact ih4 _ _ _ _ _ _ _ _)
   | (with_reducible exact ih5 _ _ _ _)
   | (with_reducible exact ih6 _ _ _ _ _ _ _ _ _ _)
   | (with_reducible exact ih7 _ _ _ _ _ _ _)
   | (with_reducible exact impl_putInt.mono _ _ _)
   | (with_reducible exact impl_putText.mono _ _ _)
   | (with_reducible exact LeO.refl _)
   | (with_reducible exact LeO.none _)
   | (with_reducible refine LeO.ite ?_ ?_)
   | (with_reducible refine LeO.bind ?_ (fun _ => ?_))
   | exact ih0 _ _ _
   | exact ih1 _ _ _ _ _
   | exact ih2 _ _ _ _ _ _ _ _ _
   | exact ih3 _ _ _ _ _ _ _ _ _ _ _
   | exact ih4 _ _ _ _ _ _ _ _
   | exact ih5 _ _ _ _
   | exact ih6 _ _ _ _ _ _ _ _ _ _
   | exact ih7 _ _ _ _ _ _ _
   | exact impl_putInt.mono _ _ _
   | exact impl_putText.mono _ _ _
   | exact LeO.none _
   | refine LeO.ite ?_ ?_
   | refine LeO.bind ?_ (fun _ => ?_)
  ·intro y0 y1 y2 y3 y4 y5 y6 y7
   unfold impl_DocBytes.l2
   repeat' first
   | (with_reducible exact ih0 _ _ _)
   | (with_reducible exact ih1 _ _ _ _ _)
   | (with_reducible exact ih2 _ _ _ _ _ _ _ _ _)
   | (with_reducible exact ih3 _ _ _ _ _ _ _ _ _ _ _)
   | (with_reducible exact ih4 _ _ _ _ _ _ _ _)
   | (with_reducible exact ih5 _ _ _ _)
   | (with_reducible exact ih6 _ _ _ _ _ _ _ _ _ _)
   | (with_reducible exact ih7 _ _ _ _ _ _ _)
   | (with_reducible exact impl_putInt.mono _ _ _)
   | (with_reducible exact impl_putText.mono _ _ _)
   | (with_reducible exact LeO.refl _)
   | (with_reducible exact LeO.none _)
   | (with_reducible refine LeO.ite ?_ ?_)
   | (with_reducible refine LeO.bind ?_ (fun _ => ?_))
   | exact ih0 _ _ _
   | exact ih1 _ _ _ _ _
   | exact ih2 _ _ _ _ _ _ _ _ _
   | exact ih3 _ _ _ _ _ _ _ _ _ _ _
   | exact ih4 _ _ _ _ _ _ _ _
   | exact ih5 _ _ _ _
   | exact ih6 _ _ _ _ _ _ _ _ _ _
   | exact ih7 _ _ _ _ _ _ _
   | exact impl_putInt.mono _ _ _
   | exact impl_putText.mono _ _ _
   | exact LeO.none _
   | refine LeO.ite ?_ ?_
   | refine LeO.bind ?_ (fun _ => ?_)
  ·intro y0 y1 y2 y3
   unfold impl_DocBytes.l3
   repeat' first
   | (with_reducible exact ih0 _ _ _)
   | (with_reducible exact ih1 _ _ _ _ _)
   | (with_reducible exact ih2 _ _ _ _ _ _ _ _ _)
   | (with_reducible exact ih3 _ _ _ _ _ _ _ _ _ _ _)
   | (with_reducible exact ih4 _ _ _ _ _ _ _ _)
   | (with_reducible exact ih5 _ _ _ _)
   | (with_reducible exact ih6 _ _ _ _ _ _ _ _ _ _)
   | (with_reducible exact ih7 _ _ _ _ _ _ _)
   | (with_reducible exact impl_putInt.mono _ _ _)
   | (with_reducible exact impl_putText.mono _ _ _)
   | (with_reducible exact LeO.refl _)
   | (with_reducible exact LeO.none _)
   | (with_reducible refine LeO.ite ?_ ?_)
   | (with_reducible refine LeO.bind ?_ (fun _ => ?_))
   | exact ih0 _ _ _
   | exact ih1 _ _ _ _ _
   | exact ih2 _ _ _ _ _ _ _ _ _
   | exact ih3 _ _ _ _ _ _ _ _ _ _ _
   | exact ih4 _ _ _ _ _ _ _ _
   | exact ih5 _ _ _ _
   | exact ih6 _ _ _ _ _ _ _ _ _ _
   | exact ih7 _ _ _ _ _ _ _
   | exact impl_putInt.mono _ _ _
   | exact impl_putText.mono _ _ _
   | exact LeO.none _
   | refine LeO.ite ?_ ?_
   | refine LeO.bind ?_ (fun _ => ?_)
  ·intro y0 y1 y2 y3 y4 y5 y6 y7 y8 y9
   unfold impl_DocBytes.l4
   repeat' first
   | (with_reducible exact ih0 _ _ _)
   | (with_reducible exact ih1 _ _ _ _ _)
   | (with_reducible exact ih2 _ _ _ _ _ _ _ _ _)
   | (with_reducible exact ih3 _ _ _ _ _ _ _ _ _ _ _)
   | (with_reducible exact ih4 _ _ _ _ _ _ _ _)
   | (with_reducible exact ih5 _ _ _ _)
   | (with_reducible exact ih6 _ _ _ _ _ _ _ _ _ _)
   | (with_reducible exact ih7 _ _ _ _ _ _ _)
   | (with_reducible exact impl_putInt.mono _ _ _)
   | (with_reducible exact impl_putText.mono _ _ _)
   | (with_reducible exact LeO.refl _)
   | (with_reducible exact LeO.none _)
   | (with_reducible refine LeO.ite ?_ ?_)
   | (with_reducible refine LeO.bind ?_ (fun _ => ?_))
   | exact ih0 _ _ _
   | exact ih1 _ _ _ _ _
   | exact ih2 _ _ _ _ _ _ _ _ _
   | exact ih3 _ _ _ _ _ _ _ _ _ _ _
   | exact ih4 _ _ _ _ _ _ _ _
   | exact ih5 _ _ _ _
   | exact ih6 _ _ _ _ _ _ _ _ _ _
   | exact ih7 _ _ _ _ _ _ _
   | exact impl_putInt.mono _ _ _
   | exact impl_putText.mono _ _ _
   | exact LeO.none _
   | refine LeO.ite ?_ ?_
   | refine LeO.bind ?_ (fun _ => ?_)
  ·intro y0 y1 y2 y3 y4 y5 y6
   unfold impl_DocBytes.l5
   repeat' first
   | (with_reducible exact ih0 _ _ _)
   | (with_reducible exact ih1 _ _ _ _ _)
   | (with_reducible exact ih2 _ _ _ _ _ _ _ _ _)
   | (with_reducible exact ih3 _ _ _ _ _ _ _ _ _ _ _)
   | (with_reducible exact ih4 _ _ _ _ _ _ _ _)
   | (with_reducible exact ih5 _ _ _ _)
   | (with_reducible exact ih6 _ _ _ _ _ _ _ _ _ _)
   | (with_reducible exact ih7 _ _ _ _ _ _ _)
   | (with_reducible exact impl_putInt.mono _ _ _)
   | (with_reducible exact impl_putText.mono _ _ _)
   | (with_reducible exact LeO.refl _)
   | (with_reducible exact LeO.none _)
   | (with_reducible refine LeO.ite ?_ ?_)
   | (with_reducible refine LeO.bind ?_ (fun _ => ?_))
   | exact ih0 _ _ _
   | exact ih1 _ _ _ _ _
   | exact ih2 _ _ _ _ _ _ _ _ _
   | exact ih3 _ _ _ _ _ _ _ _ _ _ _
   | exact ih4 _ _ _ _ _ _ _ _
   | exact ih5 _ _ _ _
   | exact ih6 _ _ _ _ _ _ _ _ _ _
   | exact ih7 _ _ _ _ _ _ _
   | exact impl_putInt.mono _ _ _
   | exact impl_putText.mono _ _ _
   | exact LeO.none _
   | refine LeO.ite ?_ ?_
   | refine LeO.bind ?_ (fun _ => ?_)
theorem impl_DocBytes.mono : ∀ a0 a1 k, LeO (impl_DocBytes.f k a0 a1) (impl_DocBytes.f (k + 1) a0 a1) := by
 intro a0 a1 k
 obtain ⟨ih0, ih1, ih2, ih3, ih4, ih5, ih6, ih7⟩ := impl_DocBytes.mono_l k
 unfold impl_DocBytes.f
 repeat' first
  | (with_reducible exact ih0 _ _ _)
  | (with_reducible exact ih1 _ _ _ _ _)
  | (with_reducible exact ih2 _ _ _ _ _ _ _ _ _)
  | (with_reducible exact ih3 _ _ _ _ _ _ _ _ _ _ _)
  | (with_reducible exact ih4 _ _ _ _ _ _ _ _)
  | (with_reducible exact ih5 _ _ _ _)
  | (with_reducible exact ih6 _ _ _ _ _ _ _ _ _ _)
  | (with_reducible exact ih7 _ _ _ _ _ _ _)
  | (with_reducible exact impl_putInt.mono _ _ _)
  | (with_reducible exact impl_putText.mono _ _ _)
  | (with_reducible exact LeO.refl _)
  | (with_reducible exact LeO.none _)
  | (with_reducible refine LeO.ite ?_ ?_)
  | (with_reducible refine LeO.bind ?_ (fun _ => ?_))
  | exact ih0 _ _ _
  | exact ih1 _ _ _ _ _
  | exact ih2 _ _ _ _ _ _ _ _ _
  | exact ih3 _ _ _ _ _ _ _ _ _ _ _
  | exact ih4 _ _ _ _ _ _ _ _
  | exact ih5 _ _ _ _
  | exact ih6 _ _ _ _ _ _ _ _ _ _
  | exact ih7 _ _ _ _ _ _ _
  | exact impl_putInt.mono _ _ _
  | exact impl_putText.mono _ _ _
  | exact LeO.none _
  | refine LeO.ite ?_ ?_
  | refine LeO.bind ?_ (fun _ => ?_)
def impl_DocBytes.T21 : Bool × List (List Nat × List Nat) := (true, [([], []), ([0], [0]), ([1], [1]), ([], []), ([3], [3]), ([4], [4]), ([2, 5, 2], [2, 5]), ([6, 6, 0, 1, 2, 3, 4, 5, 6], [6])])
def impl_DocBytes.B21 : List Nat := [0, 1, 3, 0, 8, 24, 63, 127]
theorem impl_DocBytes.tab21 : rtab .any (opsOf Try.f11 21) = impl_DocBytes.T21 := by kernel_rfl
theorem impl_DocBytes.bits21 : waitsOk impl_DocBytes.T21.2 impl_DocBytes.B21 = true := by kernel_rfl
def impl_DocBytes.T25 : Bool × List (List Nat × List Nat) := (true, [([], []), ([], []), ([1], [1]), ([0, 2], [0, 2]), ([], []), ([4], [4]), ([5], [5]), ([3, 6, 3], [3, 6]), ([7, 7, 0, 1, 2, 3, 4, 5, 6, 7], [0, 7])])
def impl_DocBytes.B25 : List Nat := [0, 0, 2, 7, 0, 16, 48, 127, 255]
theorem impl_DocBytes.tab25 : rtab .any (opsOf Try.f11 25) = impl_DocBytes.T25 := by kernel_rfl
theorem impl_DocBytes.bits25 : waitsOk impl_DocBytes.T25.2 impl_DocBytes.B25 = true := by kernel_rfl
set_option maxHeartbeats 8000000 in
set_option maxRecDepth 100000 in
theorem impl_DocBytes.calls (k : Nat) (a0_0 : ByteArray) (A0_1 : Option Addr) (c0_1 : Nat) (l0_1 : List (S66)) (r1 : List Int) (r2 : Int) (w : World) (hr0_1 : Kd.C k66 w A0_1 l0_1.length l0_1) (hc0_1 : l0_1.length ≤ c0_1) (h : impl_DocBytes.f k a0_0 l0_1 = some (r1, r2)) :
 Calls Try.prog 11 #[.agg #[.string a0_0, .slice A0_1 l0_1.length c0_1]] w fun e w' => ∃ v0_ : Value, e = .returned (.tuple #[v0_, .int .i64 r2]) ∧ Kd.R (Kd.int .u8) 5 w' w.heap.size (fun _ => True) v0_ r1 ∧ Below w.heap.size w w' := by
 have hu31 := Try.underlying31
 have hu66 := Try.underlying66
 have HR0_1 := Aside0.mk hr0_1
 have HC0_1 := Aside0.mk hc0_1
 clear hr0_1 hc0_1
 have HB := Aside0.mk (Below.refl w.heap.size w)
 have H : (if (a0_0.size : Int) > 65536 then (impl_DocBytes.j0 k true a0_0 l0_1) else (impl_DocBytes.j0 k (decide ((l0_1.length : Int) > 4096)) a0_0 l0_1)) = some (r1, r2) := h
 clear h
 have HC2 := Aside0.mk H
 clear H
 go_enter Try.func11, Try.ntmps11
 go_upto_region 1 with (first | ((with_reducible refine gate_dst (N := 1) rfl ?_); (try (refine gate_guard (by rfl) ?_; dsimp only)); refine box_event ?hg (N := 1) ?hd (cs := #[.string a0_0, .slice A0_1 l0_1.length c0_1]) (t := 31) ?hr ?_; (case hd => rfl); (case hg => rfl); (case hr => first | (go_simp; done) | (go_simp; rfl)); intro gb314 hg w3 hbox hb; have n0_ := Aside0.mk (below_step (zh HB) hb); have n1_ := Aside0.mk (hbox); have n2_ := Aside0.mk ((by rw [hg]; exact (below_size (zh HB)) : w.heap.size ≤ gb314)); have n3_ := Aside0.mk ((by rw [hg]; exact (below_size (zh HB)) : w.heap.size ≤ gb314)); clear HB; have HB := n0_; have BK314 := n1_; have GW314 := n2_; have GE314 := n3_; clear n0_ n1_ n2_ n3_; clear hb hbox hg))
 (try simp only [Act.put, List.setIfInBounds_toArray, List.set_cons_zero, List.set_cons_succ])
 go_cut [26] (fun v26 wc => ∃ (kq : Nat) (x26_1 : Bool), v26 = .bool x26_1 ∧ Aside0 (impl_DocBytes.j0 kq x26_1 a0_0 l0_1 = some (r1, r2)) ∧ Aside0 (kq ≤ k) ∧ Aside0 (wc.heap[gb314]? = some (.cells #[.string a0_0, (.slice A0_1 l0_1.length c0_1)] 31 (0, 0))) ∧ Aside0 (Below w.heap.size w wc))
 case first =>
  have H := HC2.out
  clear HC2
  by_cases c4 : (a0_0.size : Int) > 65536
  ·rw [if_pos c4] at H
   have c4b0 : decide (65536 < (a0_0.size : Int)) = true := decide_eq_true c4
   have c4b1 : decide (65536 < a0_0.size) = true := decide_eq_true (by omega)
   clear c4
   (first | rw [c4b0] | (simp only [i64_w, i32_w]; rw [c4b0]) | skip)
   have H' := Aside0.mk H
   clear H
   have hcz5_0 : w3.cell? ⟨gb314, 0, none⟩ = some (.string a0_0) := (blk_cell BK314.out 0).trans rfl
   have hcz5_1 : w3.cell? ⟨gb314, 1, none⟩ = some (.slice A0_1 l0_1.length c0_1) := (blk_cell BK314.out 1).trans rfl
   have hfz5_0 := blk_frozen BK314.out 0
   have hfz5_1 := blk_frozen BK314.out 1
   go_wp2
   go_meet
   case rel => exact ⟨_, (true), (by first | rfl | (simp; done) | (simp [*]; done)), H', ⟨by first | omega | exact Nat.le_refl _⟩, ⟨zb BK314⟩, ⟨zg HB⟩⟩
  ·rw [if_neg c4] at H
   have c4b0 : decide (65536 < (a0_0.size : Int)) = false := decide_eq_false c4
   have c4b1 : decide (65536 < a0_0.size) = false := decide_eq_false (by omega)
   clear c4
   (first | rw [c4b0] | (simp only [i64_w, i32_w]; rw [c4b0]) | skip)
   have H' := Aside0.mk H
   clear H
   have hcz6_0 : w3.cell? ⟨gb314, 0, none⟩ = some (.string a0_0) := (blk_cell BK314.out 0).trans rfl
   have hcz6_1 : w3.cell? ⟨gb314, 1, none⟩ = some (.slice A0_1 l0_1.length c0_1) := (blk_cell BK314.out 1).trans rfl
   have hfz6_0 := blk_frozen BK314.out 0
   have hfz6_1 := blk_frozen BK314.out 1
   go_wp2
   go_meet
   case rel => exact ⟨_, (decide ((l0_1.length : Int) > 4096)), (by first | rfl | (simp; done) | (simp [*]; done)), H', ⟨by first | omega | exact Nat.le_refl _⟩, ⟨zb BK314⟩, ⟨zg HB⟩⟩
 case rest =>
  clear HC2
  try clear c1
  try clear p2
  try clear c4
  try clear c4b0
  try clear c4b1
  try clear hcz5_0
  try clear hcz5_1
  try clear hcz6_0
  try clear hcz6_1
  try clear hfz5_0
  try clear hfz5_1
  try clear hfz6_0
  try clear hfz6_1
  obtain ⟨kq, x26_1, rfl, HA, HJ1, BK314, HB⟩ := hcut
  cases kq with
  | zero => exact absurd HA.out (by simp [impl_DocBytes.j0])
  | succ kj1 =>
   have H := HA.out
   clear HA
   simp only [impl_DocBytes.j0] at H
   by_cases c7 : x26_1 = true
   ·subst c7
    have H1 : (some (([] : List Int), 12)) = some (r1, r2) := by rw [if_pos rfl] at H; exact H
    clear H
    have H := H1
    clear H1
    simp only [Option.some.injEq, Prod.mk.injEq] at H
    obtain ⟨rfl, rfl⟩ := H
    go_wp2
    go_ret2
    exact ⟨_, zre, by first | exact Kd.R_nil _ _ _ _ _ | exact Kd.N_nil _ _ _ _ _ | exact Kd.V_nil _ _ _ _ _ | exact Kd.Q_nil _ _ _ _ _ | exact Kd.S_nil _ _ _ _ _, zg HB⟩
   ·replace c7 := Bool.eq_false_iff.mpr c7
    subst c7
    have H1 : (impl_DocBytes.l0 kj1 l0_1 (l0_1.length : Int) 0 a0_0 l0_1) = some (r1, r2) := by rw [if_neg (show ¬ (false = true) by decide)] at H; exact H
    clear H
    have H := H1
    clear H1
    have H' := Aside0.mk H
    clear H
    have hcz8_0 : wc.cell? ⟨gb314, 0, none⟩ = some (.string a0_0) := (blk_cell BK314.out 0).trans rfl
    have hcz8_1 : wc.cell? ⟨gb314, 1, none⟩ = some (.slice A0_1 l0_1.length c0_1) := (blk_cell BK314.out 1).trans rfl
    have hfz8_0 := blk_frozen BK314.out 0
    have hfz8_1 := blk_frozen BK314.out 1
    go_wp2
    go_loopg [30] kj1 (fun kq v30 w' => ∃ (x30_2 : Int), v30 = .int .i64 x30_2 ∧ Aside0 (impl_DocBytes.l0 kq l0_1 (l0_1.length : Int) x30_2 a0_0 l0_1 = some (r1, r2)) ∧ Aside0 (kq ≤ kj1) ∧ Aside0 (w'.heap[gb314]? = some (.cells #[.string a0_0, (.slice A0_1 l0_1.length c0_1)] 31 (0, 0))) ∧ Aside0 (Below w.heap.size w w'))
    case atStart => exact ⟨(0), (by first | rfl | (simp; done) | (simp [*]; done)), H', ⟨Nat.le_refl _⟩, ⟨zb BK314⟩, ⟨zg HB⟩⟩
    case round =>
     clear H'
     try clear c1
     try clear p2
     try clear c4
     try clear c4b0
     try clear c4b1
     try clear c7
     try clear hcz5_0
     try clear hcz5_1
     try clear hcz6_0
     try clear hcz6_1
     try clear hcz8_0
     try clear hcz8_1
     try clear hfz5_0
     try clear hfz5_1
     try clear hfz6_0
     try clear hfz6_1
     try clear hfz8_0
     try clear hfz8_1
     try clear p2
     obtain ⟨x30_2, rfl, HA, HK2, BK314, HB⟩ := hrel
     cases gk with
     | zero => exact absurd HA.out (by simp [impl_DocBytes.l0])
     | succ k2 =>
      have H := HA.out
      clear HA
      simp only [impl_DocBytes.l0] at H
      by_cases c9 : x30_2 < (l0_1.length : Int)
      ·rw [if_pos c9] at H
       have c9b0 : decide (x30_2 < (l0_1.length : Int)) = true := decide_eq_true c9
       clear c9
       by_cases c10 : 0 ≤ x30_2
       ·rw [if_pos c10] at H
        have c10b0 : decide (0 ≤ x30_2) = true := decide_eq_true c10
        clear c10
        by_cases c11 : x30_2 < (l0_1.length : Int)
        ·rw [if_pos c11] at H
         have c11b0 : decide (x30_2 < (l0_1.length : Int)) = true := decide_eq_true c11
         clear c11
         have HC12 := Aside0.mk H
         clear H
         have p315 : 0 ≤ (x30_2 : Int) := of_decide_eq_true zas
         have q315 : x30_2 < (l0_1.length : Int) := of_decide_eq_true zas
         obtain ⟨ad315, A315_1, c315_1, A315_2, c315_2, e315, hx315_0, hx315_1, hx315_2, hl315_1, hi315_1, hl315_2, hi315_2⟩ := at_T66 HR0_1.out x30_2 p315 q315
         cases e315
         replace hx315_0 := (HB.out.cell (World.block_lt_of_cell? w _ hx315_0)).trans hx315_0
         replace hx315_1 := (HB.out.cell (World.block_lt_of_cell? w _ hx315_1)).trans hx315_1
         replace hx315_2 := (HB.out.cell (World.block_lt_of_cell? w _ hx315_2)).trans hx315_2
         have HR315_1 := Aside0.mk hi315_1
         have HC315_1 := Aside0.mk hl315_1
         clear hi315_1 hl315_1
         have HR315_2 := Aside0.mk hi315_2
         have HC315_2 := Aside0.mk hl315_2
         clear hi315_2 hl315_2
         replace p315 := eq_true p315
         replace q315 := eq_true q315
         go_upto_region 6 with (first | ((with_reducible refine gate_dst (N := 5) rfl ?_); (try (refine gate_guard (by rfl) ?_; dsimp only)); refine box_event ?hg (N := 5) ?hd (cs := #[.string (⟨#[]⟩ : ByteArray), .slice none 0 0, .slice none 0 0]) (t := 66) ?hr ?_; (case hd => rfl); (case hg => rfl); (case hr => first | (go_simp; done) | (go_simp; rfl)); intro gb316 hg w13 hbox hb; have n0_ := Aside0.mk (blk_below (zb BK314) hb); have n1_ := Aside0.mk (below_step (zg HB) hb); have n2_ := Aside0.mk (hbox); have n3_ := Aside0.mk ((by rw [hg]; exact (below_size (zg HB)) : w.heap.size ≤ gb316)); have n4_ := Aside0.mk ((by rw [hg]; exact (below_size (zg HB)) : w.heap.size ≤ gb316)); have n5_ := Aside0.mk ((by rw [hg]; exact Nat.ne_of_lt (blk_lt (zb BK314)) : gb314 ≠ gb316)); have n6_ := Aside0.mk ((by rw [hg]; exact Nat.ne_of_gt (blk_lt (zb BK314)) : gb316 ≠ gb314)); clear BK314; clear HB; have BK314 := n0_; have HB := n1_; have BK316 := n2_; have GW316 := n3_; have GE316 := n4_; have NB314_316 := n5_; have NB316_314 := n6_; clear n0_ n1_ n2_ n3_ n4_ n5_ n6_; clear hb hbox hg; have hnb14 := NB316_314.out; have hnc14 := NB314_316.out; have hcz15_0 : w13.cell? ⟨gb316, 0, none⟩ = some (.string (⟨#[]⟩ : ByteArray)) := (blk_cell BK316.out 0).trans rfl; have hcz15_1 : w13.cell? ⟨gb316, 1, none⟩ = some (.slice none 0 0) := (blk_cell BK316.out 1).trans rfl; have hcz15_2 : w13.cell? ⟨gb316, 2, none⟩ = some (.slice none 0 0) := (blk_cell BK316.out 2).trans rfl; have hfz15_0 := blk_frozen BK316.out 0; have hfz15_1 := blk_frozen BK316.out 1; have hfz15_2 := blk_frozen BK316.out 2))
         (try simp only [Act.put, List.setIfInBounds_toArray, List.set_cons_zero, List.set_cons_succ])
         go_cut [49] (fun v49 wc => ∃ (kq : Nat) (x49_11 : Bool), v49 = .bool x49_11 ∧ Aside0 (impl_DocBytes.j2 kq l0_1 (l0_1.length : Int) x30_2 x49_11 a0_0 l0_1 ((rd_T66 l0_1 x30_2).f0) ((rd_T66 l0_1 x30_2).f1) ((rd_T66 l0_1 x30_2).f2) = some (r1, r2)) ∧ Aside0 (kq ≤ k2) ∧ Aside0 (wc.heap[gb314]? = some (.cells #[.string a0_0, (.slice (some ad315) l0_1.length c0_1)] 31 (0, 0))) ∧ Aside0 (wc.heap[gb316]? = some (.cells #[.string ((rd_T66 l0_1 x30_2).f0), (.slice A315_1 ((rd_T66 l0_1 x30_2).f1).length c315_1), (.slice A315_2 ((rd_T66 l0_1 x30_2).f2).length c315_2)] 66 (0, 0))) ∧ Aside0 (Below w.heap.size w wc))
         case first =>
          have H := HC12.out
          clear HC12
          by_cases c16 : (((rd_T66 l0_1 x30_2).f0).size : Int) > 65536
          ·rw [if_pos c16] at H
           have c16b0 : decide (65536 < (((rd_T66 l0_1 x30_2).f0).size : Int)) = true := decide_eq_true c16
           have c16b1 : decide (65536 < ((rd_T66 l0_1 x30_2).f0).size) = true := decide_eq_true (by omega)
           clear c16
           (first | rw [c16b0] | (simp only [i64_w, i32_w]; rw [c16b0]) | skip)
           have H' := Aside0.mk H
           clear H
           have hnb17 := NB316_314.out
           have hnc17 := NB314_316.out
           have hcz18_0 : w13.cell? ⟨gb316, 0, none⟩ = some (.string (⟨#[]⟩ : ByteArray)) := (blk_cell BK316.out 0).trans rfl
           have hcz18_1 : w13.cell? ⟨gb316, 1, none⟩ = some (.slice none 0 0) := (blk_cell BK316.out 1).trans rfl
           have hcz18_2 : w13.cell? ⟨gb316, 2, none⟩ = some (.slice none 0 0) := (blk_cell BK316.out 2).trans rfl
           have hfz18_0 := blk_frozen BK316.out 0
           have hfz18_1 := blk_frozen BK316.out 1
           have hfz18_2 := blk_frozen BK316.out 2
           go_wp2
           go_meet
           case rel => exact ⟨_, (true), (by first | rfl | (simp; done) | (simp [*]; done)), H', ⟨by have := HJ1.out; have := HK2.out; first | omega | exact Nat.le_refl _⟩, ⟨by (with_reducible repeat (first | refine blk_drewN ?_ _ | refine blk_drew ?_ | refine blk_alloc ?_ _)); refine blk_far ?_ NB314_316.out _; (with_reducible repeat (first | refine blk_drewN ?_ _ | refine blk_drew ?_ | refine blk_alloc ?_ _)); refine blk_far ?_ NB314_316.out _; (with_reducible repeat (first | refine blk_drewN ?_ _ | refine blk_drew ?_ | refine blk_alloc ?_ _)); refine blk_far ?_ NB314_316.out _; (with_reducible repeat (first | refine blk_drewN ?_ _ | refine blk_drew ?_ | refine blk_alloc ?_ _)); exact BK314.out⟩, ⟨by (with_reducible repeat (first | refine blk_drewN ?_ _ | refine blk_drew ?_ | refine blk_alloc ?_ _)); refine blk_put (cs := #[.string ((rd_T66 l0_1 x30_2).f0), .slice A315_1 ((rd_T66 l0_1 x30_2).f1).length c315_1, .slice none 0 0]) ?_ 2 _ rfl; (with_reducible repeat (first | refine blk_drewN ?_ _ | refine blk_drew ?_ | refine blk_alloc ?_ _)); refine blk_put (cs := #[.string ((rd_T66 l0_1 x30_2).f0), .slice none 0 0, .slice none 0 0]) ?_ 1 _ rfl; (with_reducible repeat (first | refine blk_drewN ?_ _ | refine blk_drew ?_ | refine blk_alloc ?_ _)); refine blk_put (cs := #[.string (⟨#[]⟩ : ByteArray), .slice none 0 0, .slice none 0 0]) ?_ 0 _ rfl; (with_reducible repeat (first | refine blk_drewN ?_ _ | refine blk_drew ?_ | refine blk_alloc ?_ _)); exact BK316.out⟩, ⟨zg HB⟩⟩
          ·rw [if_neg c16] at H
           have c16b0 : decide (65536 < (((rd_T66 l0_1 x30_2).f0).size : Int)) = false := decide_eq_false c16
           have c16b1 : decide (65536 < ((rd_T66 l0_1 x30_2).f0).size) = false := decide_eq_false (by omega)
           clear c16
           (first | rw [c16b0] | (simp only [i64_w, i32_w]; rw [c16b0]) | skip)
           by_cases c19 : (((rd_T66 l0_1 x30_2).f1).length : Int) > 4096
           ·rw [if_pos c19] at H
            have c19b0 : decide (4096 < (((rd_T66 l0_1 x30_2).f1).length : Int)) = true := decide_eq_true c19
            have c19b1 : decide (4096 < ((rd_T66 l0_1 x30_2).f1).length) = true := decide_eq_true (by omega)
            clear c19
            have H' := Aside0.mk H
            clear H
            have hnb20 := NB316_314.out
            have hnc20 := NB314_316.out
            have hcz21_0 : w13.cell? ⟨gb316, 0, none⟩ = some (.string (⟨#[]⟩ : ByteArray)) := (blk_cell BK316.out 0).trans rfl
            have hcz21_1 : w13.cell? ⟨gb316, 1, none⟩ = some (.slice none 0 0) := (blk_cell BK316.out 1).trans rfl
            have hcz21_2 : w13.cell? ⟨gb316, 2, none⟩ = some (.slice none 0 0) := (blk_cell BK316.out 2).trans rfl
            have hfz21_0 := blk_frozen BK316.out 0
            have hfz21_1 := blk_frozen BK316.out 1
            have hfz21_2 := blk_frozen BK316.out 2
            go_wp2
            go_meet
            case rel => exact ⟨_, (true), (by first | rfl | (simp; done) | (simp [*]; done)), H', ⟨by have := HJ1.out; have := HK2.out; first | omega | exact Nat.le_refl _⟩, ⟨by (with_reducible repeat (first | refine blk_drewN ?_ _ | refine blk_drew ?_ | refine blk_alloc ?_ _)); refine blk_far ?_ NB314_316.out _; (with_reducible repeat (first | refine blk_drewN ?_ _ | refine blk_drew ?_ | refine blk_alloc ?_ _)); refine blk_far ?_ NB314_316.out _; (with_reducible repeat (first | refine blk_drewN ?_ _ | refine blk_drew ?_ | refine blk_alloc ?_ _)); refine blk_far ?_ NB314_316.out _; (with_reducible repeat (first | refine blk_drewN ?_ _ | refine blk_drew ?_ | refine blk_alloc ?_ _)); exact BK314.out⟩, ⟨by (with_reducible repeat (first | refine blk_drewN ?_ _ | refine blk_drew ?_ | refine blk_alloc ?_ _)); refine blk_put (cs := #[.string ((rd_T66 l0_1 x30_2).f0), .slice A315_1 ((rd_T66 l0_1 x30_2).f1).length c315_1, .slice none 0 0]) ?_ 2 _ rfl; (with_reducible repeat (first | refine blk_drewN ?_ _ | refine blk_drew ?_ | refine blk_alloc ?_ _)); refine blk_put (cs := #[.string ((rd_T66 l0_1 x30_2).f0), .slice none 0 0, .slice none 0 0]) ?_ 1 _ rfl; (with_reducible repeat (first | refine blk_drewN ?_ _ | refine blk_drew ?_ | refine blk_alloc ?_ _)); refine blk_put (cs := #[.string (⟨#[]⟩ : ByteArray), .slice none 0 0, .slice none 0 0]) ?_ 0 _ rfl; (with_reducible repeat (first | refine blk_drewN ?_ _ | refine blk_drew ?_ | refine blk_alloc ?_ _)); exact BK316.out⟩, ⟨zg HB⟩⟩
           ·rw [if_neg c19] at H
            have c19b0 : decide (4096 < (((rd_T66 l0_1 x30_2).f1).length : Int)) = false := decide_eq_false c19
            have c19b1 : decide (4096 < ((rd_T66 l0_1 x30_2).f1).length) = false := decide_eq_false (by omega)
            clear c19
            have H' := Aside0.mk H
            clear H
            have hnb22 := NB316_314.out
            have hnc22 := NB314_316.out
            have hcz23_0 : w13.cell? ⟨gb316, 0, none⟩ = some (.string (⟨#[]⟩ : ByteArray)) := (blk_cell BK316.out 0).trans rfl
            have hcz23_1 : w13.cell? ⟨gb316, 1, none⟩ = some (.slice none 0 0) := (blk_cell BK316.out 1).trans rfl
            have hcz23_2 : w13.cell? ⟨gb316, 2, none⟩ = some (.slice none 0 0) := (blk_cell BK316.out 2).trans rfl
            have hfz23_0 := blk_frozen BK316.out 0
            have hfz23_1 := blk_frozen BK316.out 1
            have hfz23_2 := blk_frozen BK316.out 2
            go_wp2
            go_meet
            case rel => exact ⟨_, (decide ((((rd_T66 l0_1 x30_2).f2).length : Int) > 4096)), (by first | rfl | (simp; done) | (simp [*]; done)), H', ⟨by have := HJ1.out; have := HK2.out; first | omega | exact Nat.le_refl _⟩, ⟨by (with_reducible repeat (first | refine blk_drewN ?_ _ | refine blk_drew ?_ | refine blk_alloc ?_ _)); refine blk_far ?_ NB314_316.out _; (with_reducible repeat (first | refine blk_drewN ?_ _ | refine blk_drew ?_ | refine blk_alloc ?_ _)); refine blk_far ?_ NB314_316.out _; (with_reducible repeat (first | refine blk_drewN ?_ _ | refine blk_drew ?_ | refine blk_alloc ?_ _)); refine blk_far ?_ NB314_316.out _; (with_reducible repeat (first | refine blk_drewN ?_ _ | refine blk_drew ?_ | refine blk_alloc ?_ _)); exact BK314.out⟩, ⟨by (with_reducible repeat (first | refine blk_drewN ?_ _ | refine blk_drew ?_ | refine blk_alloc ?_ _)); refine blk_put (cs := #[.string ((rd_T66 l0_1 x30_2).f0), .slice A315_1 ((rd_T66 l0_1 x30_2).f1).length c315_1, .slice none 0 0]) ?_ 2 _ rfl; (with_reducible repeat (first | refine blk_drewN ?_ _ | refine blk_drew ?_ | refine blk_alloc ?_ _)); refine blk_put (cs := #[.string ((rd_T66 l0_1 x30_2).f0), .slice none 0 0, .slice none 0 0]) ?_ 1 _ rfl; (with_reducible repeat (first | refine blk_drewN ?_ _ | refine blk_drew ?_ | refine blk_alloc ?_ _)); refine blk_put (cs := #[.string (⟨#[]⟩ : ByteArray), .slice none 0 0, .slice none 0 0]) ?_ 0 _ rfl; (with_reducible repeat (first | refine blk_drewN ?_ _ | refine blk_drew ?_ | refine blk_alloc ?_ _)); exact BK316.out⟩, ⟨zg HB⟩⟩
         case rest =>
          clear HC12
          try clear c1
          try clear c2
          try clear p2
          try clear c3
          try clear p3
          try clear q3
          try clear hx3
          try clear c4
          try clear c4b0
          try clear c4b1
          try clear c7
          try clear c9
          try clear c9b0
          try clear c10
          try clear c10b0
          try clear c11
          try clear c11b0
          try clear c14
          try clear c16
          try clear c16b0
          try clear c16b1
          try clear c17
          try clear c19
          try clear c19b0
          try clear c19b1
          try clear c20
          try clear c22
          try clear hcz15_0
          try clear hcz15_1
          try clear hcz15_2
          try clear hcz18_0
          try clear hcz18_1
          try clear hcz18_2
          try clear hcz21_0
          try clear hcz21_1
          try clear hcz21_2
          try clear hcz23_0
          try clear hcz23_1
          try clear hcz23_2
          try clear hcz5_0
          try clear hcz5_1
          try clear hcz6_0
          try clear hcz6_1
          try clear hcz8_0
          try clear hcz8_1
          try clear hfz15_0
          try clear hfz15_1
          try clear hfz15_2
          try clear hfz18_0
          try clear hfz18_1
          try clear hfz18_2
          try clear hfz21_0
          try clear hfz21_1
          try clear hfz21_2
          try clear hfz23_0
          try clear hfz23_1
          try clear hfz23_2
          try clear hfz5_0
          try clear hfz5_1
          try clear hfz6_0
          try clear hfz6_1
          try clear hfz8_0
          try clear hfz8_1
          try clear hx315_0
          try clear hx315_1
          try clear hx315_2
          try clear p2
          try clear p315
          try clear q315
          obtain ⟨kq, x49_11, rfl, HA, HJ11, BK314, BK316, HB⟩ := hcut
          cases kq with
          | zero => exact absurd HA.out (by simp [impl_DocBytes.j2])
          | succ kj11 =>
           have H := HA.out
           clear HA
           simp only [impl_DocBytes.j2] at H
           by_cases c24 : x49_11 = true
           ·subst c24
            have H1 : (some (([] : List Int), 12)) = some (r1, r2) := by rw [if_pos rfl] at H; exact H
            clear H
            have H := H1
            clear H1
            simp only [Option.some.injEq, Prod.mk.injEq] at H
            obtain ⟨rfl, rfl⟩ := H
            go_wp2
            go_ret2
            exact ⟨_, zre, by first | exact Kd.R_nil _ _ _ _ _ | exact Kd.N_nil _ _ _ _ _ | exact Kd.V_nil _ _ _ _ _ | exact Kd.Q_nil _ _ _ _ _ | exact Kd.S_nil _ _ _ _ _, zg HB⟩
           ·replace c24 := Bool.eq_false_iff.mpr c24
            subst c24
            have H1 : (impl_DocBytes.l1 kj11 l0_1 (l0_1.length : Int) x30_2 ((rd_T66 l0_1 x30_2).f1) (((rd_T66 l0_1 x30_2).f1).length : Int) 0 a0_0 l0_1 ((rd_T66 l0_1 x30_2).f0) ((rd_T66 l0_1 x30_2).f1) ((rd_T66 l0_1 x30_2).f2)) = some (r1, r2) := by rw [if_neg (show ¬ (false = true) by decide)] at H; exact H
            clear H
            have H := H1
            clear H1
            have H' := Aside0.mk H
            clear H
            have hnb25 := NB316_314.out
            have hnc25 := NB314_316.out
            have hcz26_0 : wc.cell? ⟨gb316, 0, none⟩ = some (.string ((rd_T66 l0_1 x30_2).f0)) := (blk_cell BK316.out 0).trans rfl
            have hcz26_1 : wc.cell? ⟨gb316, 1, none⟩ = some (.slice A315_1 ((rd_T66 l0_1 x30_2).f1).length c315_1) := (blk_cell BK316.out 1).trans rfl
            have hcz26_2 : wc.cell? ⟨gb316, 2, none⟩ = some (.slice A315_2 ((rd_T66 l0_1 x30_2).f2).length c315_2) := (blk_cell BK316.out 2).trans rfl
            have hfz26_0 := blk_frozen BK316.out 0
            have hfz26_1 := blk_frozen BK316.out 1
            have hfz26_2 := blk_frozen BK316.out 2
            go_wp2
            go_loopg [53] kj11 (fun kq v53 w' => ∃ (x53_4 : Int), v53 = .int .i64 x53_4 ∧ Aside0 (impl_DocBytes.l1 kq l0_1 (l0_1.length : Int) x30_2 ((rd_T66 l0_1 x30_2).f1) (((rd_T66 l0_1 x30_2).f1).length : Int) x53_4 a0_0 l0_1 ((rd_T66 l0_1 x30_2).f0) ((rd_T66 l0_1 x30_2).f1) ((rd_T66 l0_1 x30_2).f2) = some (r1, r2)) ∧ Aside0 (kq ≤ kj11) ∧ Aside0 (w'.heap[gb314]? = some (.cells #[.string a0_0, (.slice (some ad315) l0_1.length c0_1)] 31 (0, 0))) ∧ Aside0 (w'.heap[gb316]? = some (.cells #[.string ((rd_T66 l0_1 x30_2).f0), (.slice A315_1 ((rd_T66 l0_1 x30_2).f1).length c315_1), (.slice A315_2 ((rd_T66 l0_1 x30_2).f2).length c315_2)] 66 (0, 0))) ∧ Aside0 (Below w.heap.size w w'))
            case atStart => exact ⟨(0), (by first | rfl | (simp; done) | (simp [*]; done)), H', ⟨Nat.le_refl _⟩, ⟨zb BK314⟩, ⟨zb BK316⟩, ⟨zg HB⟩⟩
            case round =>
             clear H'
             try clear c1
             try clear c2
             try clear p2
             try clear c3
             try clear p3
             try clear q3
             try clear hx3
             try clear c4
             try clear c4b0
             try clear c4b1
             try clear c7
             try clear c9
             try clear c9b0
             try clear c10
             try clear c10b0
             try clear c11
             try clear c11b0
             try clear c14
             try clear c16
             try clear c16b0
             try clear c16b1
             try clear c17
             try clear c19
             try clear c19b0
             try clear c19b1
             try clear c20
             try clear c22
             try clear c24
             try clear c25
             try clear hcz15_0
             try clear hcz15_1
             try clear hcz15_2
             try clear hcz18_0
             try clear hcz18_1
             try clear hcz18_2
             try clear hcz21_0
             try clear hcz21_1
             try clear hcz21_2
             try clear hcz23_0
             try clear hcz23_1
             try clear hcz23_2
             try clear hcz26_0
             try clear hcz26_1
             try clear hcz26_2
             try clear hcz5_0
             try clear hcz5_1
             try clear hcz6_0
             try clear hcz6_1
             try clear hcz8_0
             try clear hcz8_1
             try clear hfz15_0
             try clear hfz15_1
             try clear hfz15_2
             try clear hfz18_0
             try clear hfz18_1
             try clear hfz18_2
             try clear hfz21_0
             try clear hfz21_1
             try clear hfz21_2
             try clear hfz23_0
             try clear hfz23_1
             try clear hfz23_2
             try clear hfz26_0
             try clear hfz26_1
             try clear hfz26_2
             try clear hfz5_0
             try clear hfz5_1
             try clear hfz6_0
             try clear hfz6_1
             try clear hfz8_0
             try clear hfz8_1
             try clear hx315_0
             try clear hx315_1
             try clear hx315_2
             try clear p2
             try clear p3
             try clear p315
             try clear q3
             try clear q315
             obtain ⟨x53_4, rfl, HA, HK4, BK314, BK316, HB⟩ := hrel
             cases gk with
             | zero => exact absurd HA.out (by simp [impl_DocBytes.l1])
             | succ k4 =>
              have H := HA.out
              clear HA
              simp only [impl_DocBytes.l1] at H
              by_cases c27 : x53_4 < (((rd_T66 l0_1 x30_2).f1).length : Int)
              ·rw [if_pos c27] at H
               have c27b0 : decide (x53_4 < (((rd_T66 l0_1 x30_2).f1).length : Int)) = true := decide_eq_true c27
               clear c27
               by_cases c28 : 0 ≤ x53_4
               ·rw [if_pos c28] at H
                have c28b0 : decide (0 ≤ x53_4) = true := decide_eq_true c28
                clear c28
                by_cases c29 : x53_4 < (((rd_T66 l0_1 x30_2).f1).length : Int)
                ·rw [if_pos c29] at H
                 have c29b0 : decide (x53_4 < (((rd_T66 l0_1 x30_2).f1).length : Int)) = true := decide_eq_true c29
                 clear c29
                 by_cases c30 : ((rdOf ByteArray.empty ((rd_T66 l0_1 x30_2).f1) x53_4).size : Int) > 65536
                 ·rw [if_pos c30] at H
                  have c30b0 : decide (65536 < ((rdOf ByteArray.empty ((rd_T66 l0_1 x30_2).f1) x53_4).size : Int)) = true := decide_eq_true c30
                  have c30b1 : decide (65536 < (rdOf ByteArray.empty ((rd_T66 l0_1 x30_2).f1) x53_4).size) = true := decide_eq_true (by omega)
                  clear c30
                  simp only [Option.some.injEq, Prod.mk.injEq] at H
                  obtain ⟨rfl, rfl⟩ := H
                  have p317 : 0 ≤ (x53_4 : Int) := of_decide_eq_true zas
                  have q317 : x53_4 < (((rd_T66 l0_1 x30_2).f1).length : Int) := of_decide_eq_true zas
                  obtain ⟨ad317, e317, hx317_0⟩ := Kd.at_string HR315_1.out x53_4 p317 q317
                  cases e317
                  replace hx317_0 := (HB.out.cell (World.block_lt_of_cell? w _ hx317_0)).trans hx317_0
                  replace p317 := eq_true p317
                  replace q317 := eq_true q317
                  go_wp2
                  go_ret2
                  exact ⟨_, zre, by first | exact Kd.R_nil _ _ _ _ _ | exact Kd.N_nil _ _ _ _ _ | exact Kd.V_nil _ _ _ _ _ | exact Kd.Q_nil _ _ _ _ _ | exact Kd.S_nil _ _ _ _ _, zg HB⟩
                 ·rw [if_neg c30] at H
                  have c30b0 : decide (65536 < ((rdOf ByteArray.empty ((rd_T66 l0_1 x30_2).f1) x53_4).size : Int)) = false := decide_eq_false c30
                  have c30b1 : decide (65536 < (rdOf ByteArray.empty ((rd_T66 l0_1 x30_2).f1) x53_4).size) = false := decide_eq_false (by omega)
                  clear c30
                  have H' := Aside0.mk H
                  clear H
                  have p317 : 0 ≤ (x53_4 : Int) := of_decide_eq_true zas
                  have q317 : x53_4 < (((rd_T66 l0_1 x30_2).f1).length : Int) := of_decide_eq_true zas
                  obtain ⟨ad317, e317, hx317_0⟩ := Kd.at_string HR315_1.out x53_4 p317 q317
                  cases e317
                  replace hx317_0 := (HB.out.cell (World.block_lt_of_cell? w _ hx317_0)).trans hx317_0
                  replace p317 := eq_true p317
                  replace q317 := eq_true q317
                  go_wp2
                  go_roundg k4
                  case measure => have := HJ1.out; have := HK2.out; have := HJ11.out; have := HK4.out; omega
                  case rel => exact ⟨(wrap64 (x53_4 + 1)), (by first | rfl | (simp; done) | (simp [*]; done)), H', ⟨by have := HJ1.out; have := HK2.out; have := HJ11.out; have := HK4.out; omega⟩, ⟨zb BK314⟩, ⟨zb BK316⟩, ⟨zg HB⟩⟩
                ·rw [if_neg c29] at H
                 exact absurd H (by simp)
               ·rw [if_neg c28] at H
                exact absurd H (by simp)
              ·rw [if_neg c27] at H
               have c27b0 : decide (x53_4 < (((rd_T66 l0_1 x30_2).f1).length : Int)) = false := decide_eq_false c27
               clear c27
               have H' := Aside0.mk H
               clear H
               have hnb31 := NB316_314.out
               have hnc31 := NB314_316.out
               have hcz32_0 : wr.cell? ⟨gb316, 0, none⟩ = some (.string ((rd_T66 l0_1 x30_2).f0)) := (blk_cell BK316.out 0).trans rfl
               have hcz32_1 : wr.cell? ⟨gb316, 1, none⟩ = some (.slice A315_1 ((rd_T66 l0_1 x30_2).f1).length c315_1) := (blk_cell BK316.out 1).trans rfl
               have hcz32_2 : wr.cell? ⟨gb316, 2, none⟩ = some (.slice A315_2 ((rd_T66 l0_1 x30_2).f2).length c315_2) := (blk_cell BK316.out 2).trans rfl
               have hfz32_0 := blk_frozen BK316.out 0
               have hfz32_1 := blk_frozen BK316.out 1
               have hfz32_2 := blk_frozen BK316.out 2
               go_wp2
               go_loopg [64] k4 (fun kq v64 w' => ∃ (x64_5 : Int), v64 = .int .i64 x64_5 ∧ Aside0 (impl_DocBytes.l2 kq l0_1 (l0_1.length : Int) x30_2 ((rd_T66 l0_1 x30_2).f2) (((rd_T66 l0_1 x30_2).f2).length : Int) x64_5 a0_0 l0_1 = some (r1, r2)) ∧ Aside0 (kq ≤ k4) ∧ Aside0 (w'.heap[gb314]? = some (.cells #[.string a0_0, (.slice (some ad315) l0_1.length c0_1)] 31 (0, 0))) ∧ Aside0 (w'.heap[gb316]? = some (.cells #[.string ((rd_T66 l0_1 x30_2).f0), (.slice A315_1 ((rd_T66 l0_1 x30_2).f1).length c315_1), (.slice A315_2 ((rd_T66 l0_1 x30_2).f2).length c315_2)] 66 (0, 0))) ∧ Aside0 (Below w.heap.size w w'))
               case atStart => exact ⟨(0), (by first | rfl | (simp; done) | (simp [*]; done)), H', ⟨Nat.le_refl _⟩, ⟨zb BK314⟩, ⟨zb BK316⟩, ⟨zg HB⟩⟩
               case round =>
                clear H'
                try clear c1
                try clear c2
                try clear p2
                try clear c3
                try clear p3
                try clear q3
                try clear hx3
                try clear c4
                try clear c4b0
                try clear c4b1
                try clear p6
                try clear c7
                try clear c9
                try clear c9b0
                try clear c10
                try clear c10b0
                try clear c11
                try clear c11b0
                try clear c14
                try clear c16
                try clear c16b0
                try clear c16b1
                try clear c17
                try clear c19
                try clear c19b0
                try clear c19b1
                try clear c20
                try clear c22
                try clear c24
                try clear c25
                try clear c27
                try clear c27b0
                try clear c28
                try clear c28b0
                try clear c29
                try clear c29b0
                try clear c30
                try clear c30b0
                try clear c30b1
                try clear c31
                try clear p31
                try clear q31
                try clear hx31
                try clear hcz15_0
                try clear hcz15_1
                try clear hcz15_2
                try clear hcz18_0
                try clear hcz18_1
                try clear hcz18_2
                try clear hcz21_0
                try clear hcz21_1
                try clear hcz21_2
                try clear hcz23_0
                try clear hcz23_1
                try clear hcz23_2
                try clear hcz26_0
                try clear hcz26_1
                try clear hcz26_2
                try clear hcz32_0
                try clear hcz32_1
                try clear hcz32_2
                try clear hcz5_0
                try clear hcz5_1
                try clear hcz6_0
                try clear hcz6_1
                try clear hcz8_0
                try clear hcz8_1
                try clear hfz15_0
                try clear hfz15_1
                try clear hfz15_2
                try clear hfz18_0
                try clear hfz18_1
                try clear hfz18_2
                try clear hfz21_0
                try clear hfz21_1
                try clear hfz21_2
                try clear hfz23_0
                try clear hfz23_1
                try clear hfz23_2
                try clear hfz26_0
                try clear hfz26_1
                try clear hfz26_2
                try clear hfz32_0
                try clear hfz32_1
                try clear hfz32_2
                try clear hfz5_0
                try clear hfz5_1
                try clear hfz6_0
                try clear hfz6_1
                try clear hfz8_0
                try clear hfz8_1
                try clear hx315_0
                try clear hx315_1
                try clear hx315_2
                try clear hx317_0
                try clear p2
                try clear p3
                try clear p315
                try clear p317
                try clear q3
                try clear q315
                try clear q317
                obtain ⟨x64_5, rfl, HA, HK5, BK314, BK316, HB⟩ := hrel
                cases gk with
                | zero => exact absurd HA.out (by simp [impl_DocBytes.l2])
                | succ k5 =>
                 have H := HA.out
                 clear HA
                 simp only [impl_DocBytes.l2] at H
                 by_cases c33 : x64_5 < (((rd_T66 l0_1 x30_2).f2).length : Int)
                 ·rw [if_pos c33] at H
                  have c33b0 : decide (x64_5 < (((rd_T66 l0_1 x30_2).f2).length : Int)) = true := decide_eq_true c33
                  clear c33
                  by_cases c34 : 0 ≤ x64_5
                  ·rw [if_pos c34] at H
                   have c34b0 : decide (0 ≤ x64_5) = true := decide_eq_true c34
                   clear c34
                   by_cases c35 : x64_5 < (((rd_T66 l0_1 x30_2).f2).length : Int)
                   ·rw [if_pos c35] at H
                    have c35b0 : decide (x64_5 < (((rd_T66 l0_1 x30_2).f2).length : Int)) = true := decide_eq_true c35
                    clear c35
                    replace H := Option.bind_eq_some_iff.mp H
                    obtain ⟨t319, A360, H⟩ := H
                    replace H : (if t319 = true then (impl_DocBytes.l2 k5 l0_1 (l0_1.length : Int) x30_2 ((rd_T66 l0_1 x30_2).f2) (((rd_T66 l0_1 x30_2).f2).length : Int) (wrap64 (x64_5 + 1)) a0_0 l0_1) else (some (([] : List Int), 12))) = some (r1, r2) := H
                    have A36 := Aside0.mk A360
                    clear A360
                    by_cases c37 : t319 = true
                    ·subst c37
                     have H1 : (impl_DocBytes.l2 k5 l0_1 (l0_1.length : Int) x30_2 ((rd_T66 l0_1 x30_2).f2) (((rd_T66 l0_1 x30_2).f2).length : Int) (wrap64 (x64_5 + 1)) a0_0 l0_1) = some (r1, r2) := by rw [if_pos rfl] at H; exact H
                     clear H
                     have H := H1
                     clear H1
                     have H' := Aside0.mk H
                     clear H
                     have p318 : 0 ≤ (x64_5 : Int) := of_decide_eq_true zas
                     have q318 : x64_5 < (((rd_T66 l0_1 x30_2).f2).length : Int) := of_decide_eq_true zas
                     obtain ⟨ad318, e318, hx318_0⟩ := Kd.at_int HR315_2.out x64_5 p318 q318
                     cases e318
                     replace hx318_0 := (HB.out.cell (World.block_lt_of_cell? w _ hx318_0)).trans hx318_0
                     replace p318 := eq_true p318
                     replace q318 := eq_true q318
                     go_wp2_with (first | ((with_reducible refine gate_callee (f := 38) rfl ?_); refine goesL_ (some 69) rfl rfl Try.func38 (by kernel_rfl) rfl #[.int .i64 (rd ((rd_T66 l0_1 x30_2).f2) x64_5), .int .i64 (-1000000000000), .int .i64 1000000000000] rfl zar ?_; (with_reducible refine (impl_within.calls (rd ((rd_T66 l0_1 x30_2).f2) x64_5) (-1000000000000) 1000000000000 true _ A36.out).mono ?_); rintro e w' ⟨rfl, ⟨nd, rfl⟩⟩; refine ⟨_, rfl, ?_⟩))
                     go_roundg k5
                     case measure => have := HJ1.out; have := HK2.out; have := HJ11.out; have := HK4.out; have := HK5.out; omega
                     case rel => exact ⟨(wrap64 (x64_5 + 1)), (by first | rfl | (simp; done) | (simp [*]; done)), H', ⟨by have := HJ1.out; have := HK2.out; have := HJ11.out; have := HK4.out; have := HK5.out; omega⟩, ⟨zb BK314⟩, ⟨zb BK316⟩, ⟨zg HB⟩⟩
                    ·replace c37 := Bool.eq_false_iff.mpr c37
                     subst c37
                     have H1 : (some (([] : List Int), 12)) = some (r1, r2) := by rw [if_neg (show ¬ (false = true) by decide)] at H; exact H
                     clear H
                     have H := H1
                     clear H1
                     simp only [Option.some.injEq, Prod.mk.injEq] at H
                     obtain ⟨rfl, rfl⟩ := H
                     have p318 : 0 ≤ (x64_5 : Int) := of_decide_eq_true zas
                     have q318 : x64_5 < (((rd_T66 l0_1 x30_2).f2).length : Int) := of_decide_eq_true zas
                     obtain ⟨ad318, e318, hx318_0⟩ := Kd.at_int HR315_2.out x64_5 p318 q318
                     cases e318
                     replace hx318_0 := (HB.out.cell (World.block_lt_of_cell? w _ hx318_0)).trans hx318_0
                     replace p318 := eq_true p318
                     replace q318 := eq_true q318
                     go_wp2_with (first | ((with_reducible refine gate_callee (f := 38) rfl ?_); refine goesL_ (some 69) rfl rfl Try.func38 (by kernel_rfl) rfl #[.int .i64 (rd ((rd_T66 l0_1 x30_2).f2) x64_5), .int .i64 (-1000000000000), .int .i64 1000000000000] rfl zar ?_; (with_reducible refine (impl_within.calls (rd ((rd_T66 l0_1 x30_2).f2) x64_5) (-1000000000000) 1000000000000 false _ A36.out).mono ?_); rintro e w' ⟨rfl, ⟨nd, rfl⟩⟩; refine ⟨_, rfl, ?_⟩))
                     go_ret2
                     exact ⟨_, zre, by first | exact Kd.R_nil _ _ _ _ _ | exact Kd.N_nil _ _ _ _ _ | exact Kd.V_nil _ _ _ _ _ | exact Kd.Q_nil _ _ _ _ _ | exact Kd.S_nil _ _ _ _ _, zg HB⟩
                   ·rw [if_neg c35] at H
                    exact absurd H (by simp)
                  ·rw [if_neg c34] at H
                   exact absurd H (by simp)
                 ·rw [if_neg c33] at H
                  have c33b0 : decide (x64_5 < (((rd_T66 l0_1 x30_2).f2).length : Int)) = false := decide_eq_false c33
                  clear c33
                  have H' := Aside0.mk H
                  clear H
                  go_wp2
                  go_roundg k5
                  case measure => have := HJ1.out; have := HK2.out; have := HJ11.out; have := HK4.out; have := HK5.out; omega
                  case rel => exact ⟨(wrap64 (x30_2 + 1)), (by first | rfl | (simp; done) | (simp [*]; done)), H', ⟨by have := HJ1.out; have := HK2.out; have := HJ11.out; have := HK4.out; have := HK5.out; omega⟩, ⟨zb BK314⟩, ⟨zg HB⟩⟩
        ·rw [if_neg c11] at H
         exact absurd H (by simp)
       ·rw [if_neg c10] at H
        exact absurd H (by simp)
      ·rw [if_neg c9] at H
       have c9b0 : decide (x30_2 < (l0_1.length : Int)) = false := decide_eq_false c9
       clear c9
       replace H := Option.bind_eq_some_iff.mp H
       obtain ⟨t320, A380, H⟩ := H
       replace H : ((impl_putInt.f k2 t320 (l0_1.length : Int)).bind fun t323 => (impl_DocBytes.l3 k2 t323 l0_1 (l0_1.length : Int) 0)) = some (r1, r2) := H
       have A38 := Aside0.mk A380
       clear A380
       replace H := Option.bind_eq_some_iff.mp H
       obtain ⟨t323, A390, H⟩ := H
       replace H : (impl_DocBytes.l3 k2 t323 l0_1 (l0_1.length : Int) 0) = some (r1, r2) := H
       have A39 := Aside0.mk A390
       clear A390
       have H' := Aside0.mk H
       clear H
       try go_wp2
       have n0_ := Aside0.mk (blk_drew BK314.out)
       have n1_ := Aside0.mk (below_drew1 HB.out)
       clear BK314
       clear HB
       have BK314 := n0_
       have HB := n1_
       clear n0_ n1_
       refine start_ (n := 8) (S := fun w' => w'.cell? ⟨gb314, 0, none⟩ = some (.string a0_0) ∧ w'.cell? ⟨gb314, 1, none⟩ = some (.slice A0_1 l0_1.length c0_1)) (ds := []) (fl7_ 8 0) (by kernel_rfl) rfl rfl ⟨(blk_cell BK314.out 0).trans rfl, (blk_cell BK314.out 1).trans rfl⟩ (fun hHeld => ?_); refine with_tabW impl_DocBytes.tab21 impl_DocBytes.bits21 (fun HT_ HW_ => ?_)
       generalize wr.drew = w40 at BK314 HB hHeld ⊢
       refine pure_ (i := 0) (N := some 73) (v := ?_) (a' := ?_) (fl7_ 8 1) rfl rfl (any_of HT_.out (by kernel_rfl)) (fun _ _ _ h => h) (Or.inl ⟨by rfl, ?_⟩) ?_ ?_
       rotate_left
       ·intro w'
        go_simp
        with_reducible rfl
       rotate_left
       ·simp only [Act.put, List.setIfInBounds_toArray, List.set_cons_zero, List.set_cons_succ, i64_w, i32_w]
        rfl
       refine pure_ (i := 3) (N := some 76) (v := ?_) (a' := ?_) (fl7_ 8 9) rfl rfl (any_of HT_.out (by kernel_rfl)) (fun _ _ _ h => h) (Or.inl ⟨by rfl, ?_⟩) ?_ ?_
       rotate_left
       ·intro w'
        go_simp
        with_reducible rfl
       rotate_left
       ·simp only [Act.put, List.setIfInBounds_toArray, List.set_cons_zero, List.set_cons_succ, i64_w, i32_w]
        rfl
       refine take_ (i := 1) (N := some 74) (v := ?_) (a' := ?_) (fl7_ 8 11) rfl rfl (take_ofW HT_.out HW_.out (by kernel_rfl)) (fun _ _ _ h => h) (Or.inl ⟨by rfl, ?_⟩) hHeld ?_ ?_
       rotate_left
       ·rintro w' ⟨s0, s1⟩
        go_simp
        with_reducible rfl
       rotate_left
       ·simp only [Act.put, List.setIfInBounds_toArray, List.set_cons_zero, List.set_cons_succ, i64_w, i32_w]
        rfl
       refine take_ (i := 4) (N := some 77) (v := ?_) (a' := ?_) (fl7_ 8 27) rfl rfl (take_ofW HT_.out HW_.out (by kernel_rfl)) (fun _ _ _ h => h) (Or.inl ⟨by rfl, ?_⟩) hHeld ?_ ?_
       rotate_left
       ·rintro w' ⟨s0, s1⟩
        go_simp
        with_reducible rfl
       rotate_left
       ·simp only [Act.put, List.setIfInBounds_toArray, List.set_cons_zero, List.set_cons_succ, i64_w, i32_w]
        rfl
       refine pure_ (i := 5) (N := some 78) (v := ?_) (a' := ?_) (fl7_ 8 59) rfl rfl (any_of HT_.out (by kernel_rfl)) (fun _ _ _ h => h) (Or.inl ⟨by rfl, ?_⟩) ?_ ?_
       rotate_left
       ·intro w'
        go_simp
        with_reducible rfl
       rotate_left
       ·simp only [Act.put, List.setIfInBounds_toArray, List.set_cons_zero, List.set_cons_succ, i64_w, i32_w]
        rfl
       refine one_ (i := 2) (N := some 75) (fl7_ 8 63) rfl rfl (one_of HT_.out (by kernel_rfl)) (by decide) (fun K hK => ?_)
       refine goes_ Try.func40 (by kernel_rfl) rfl #[.slice none 0 0, .string a0_0] (by rfl) rfl rfl zar ?_
       refine (impl_putText.calls k2 (fun k_ => some k_ = (.slice none 0 0 : Value).ownBlock) (.slice none 0 0) ([] : List Int) a0_0 t320 w _ ?side1 ?side2 A38.out).mono ?_
       (case side1 => repeat (first | (with_reducible first | exact HB.out | apply below_alloc | apply pw_below_drewN | apply below_drew1 | refine below_set ?_ GE314.out) | exact HB.out))
       (case side2 => exact Kd.R_nil _ _ _ _ _)
       rintro e w41 ⟨v321, rfl, ho0, hb, hkp⟩
       refine ⟨_, rfl, ?_⟩
       have n0_ := Aside0.mk (blk_kept (zb BK314) hkp (fun hs_ => (fun e_ => by simp [Value.ownBlock] at e_) hs_))
       have n1_ := Aside0.mk (Kd.R_mono (ok' := fun k_ => True) ho0 (fun k_ hk_ => trivial))
       have n2_ := Aside0.mk (hb)
       clear BK314
       clear HB
       have BK314 := n0_
       have HO322 := n1_
       have HB := n2_
       clear n0_ n1_ n2_
       (try clear hb)
       (try clear hkp)
       (try clear ho0)
       obtain ⟨Ao42, co42, eo42⟩ := Kd.R_slice HO322.out
       (first | subst eo42 | (injection eo42 with f1_ f2_ f3_; have f4_ := f1_.symm; have f5_ := f3_.symm; clear f1_ f2_ f3_; subst f4_; subst f5_))
       refine hK.out _ _ ⟨(blk_cell BK314.out 0).trans rfl, (blk_cell BK314.out 1).trans rfl⟩ (fun hHeld => ?_)
       clear hK K
       refine norm_ (a' := ?_) ?_ ?_
       rotate_left
       ·show Act.put _ (some 75) _ = _
        simp only [Act.put, List.setIfInBounds_toArray, List.set_cons_zero, List.set_cons_succ, i64_w, i32_w]
        rfl
       refine one_ (i := 6) (N := some 79) (fl7_ 8 127) rfl rfl (one_of HT_.out (by kernel_rfl)) (by decide) (fun K hK => ?_)
       refine goes_ Try.func39 (by kernel_rfl) rfl #[.slice Ao42 t320.length co42, .int .i64 (l0_1.length : Int)] (by rfl) rfl rfl zar ?_
       with_reducible refine (impl_putInt.calls k2 (fun k_ => some k_ = (.slice Ao42 t320.length co42 : Value).ownBlock) (.slice Ao42 t320.length co42) t320 (l0_1.length : Int) t323 w _ ?side1 ?side2 A39.out).mono ?_
       (case side1 => repeat (first | (with_reducible first | exact HB.out | apply below_alloc | apply pw_below_drewN | apply below_drew1 | refine below_set ?_ GE314.out) | exact HB.out))
       (case side2 => exact Kd.R_tight rfl HO322.out)
       rintro e w43 ⟨v324, rfl, ho0, hb, hkp⟩
       refine ⟨_, rfl, ?_⟩
       have n0_ := Aside0.mk (blk_kept (zb BK314) hkp (fun hs_ => (fun e_ => (Kd.R_ne HO322.out BK314.out (by decide)) e_) hs_))
       have n1_ := Aside0.mk (Kd.R_mono (ok' := fun k_ => True) ho0 (fun k_ hk_ => trivial))
       have n2_ := Aside0.mk (hb)
       clear BK314
       clear HB
       clear HO322
       have BK314 := n0_
       have HO325 := n1_
       have HB := n2_
       clear n0_ n1_ n2_
       (try clear hb)
       (try clear hkp)
       (try clear ho0)
       refine hK.out _ _ ⟨(blk_cell BK314.out 0).trans rfl, (blk_cell BK314.out 1).trans rfl⟩ (fun hHeld => ?_)
       clear hK K
       refine norm_ (a' := ?_) ?_ ?_
       rotate_left
       ·show Act.put _ (some 79) _ = _
        simp only [Act.put, List.setIfInBounds_toArray, List.set_cons_zero, List.set_cons_succ, i64_w, i32_w]
        rfl
       refine pure_ (i := 7) (N := some 10) (v := ?_) (a' := ?_) (fl7_ 8 255) rfl rfl (any_of HT_.out (by kernel_rfl)) (fun _ _ _ h => h) (Or.inl ⟨by rfl, ?_⟩) ?_ ?_
       rotate_left
       ·intro w'
        go_simp
        with_reducible rfl
       rotate_left
       ·simp only [Act.put, List.setIfInBounds_toArray, List.set_cons_zero, List.set_cons_succ, i64_w, i32_w]
        rfl
       refine done_ (done_of HT_.out (by kernel_rfl)) ?_
       have hcz44_0 : w43.cell? ⟨gb314, 0, none⟩ = some (.string a0_0) := (blk_cell BK314.out 0).trans rfl
       have hcz44_1 : w43.cell? ⟨gb314, 1, none⟩ = some (.slice A0_1 l0_1.length c0_1) := (blk_cell BK314.out 1).trans rfl
       have hfz44_0 := blk_frozen BK314.out 0
       have hfz44_1 := blk_frozen BK314.out 1
       try go_wp2
       go_loopg [10, 83] k2 (fun kq v10 v83 w' => ∃ (x10_3 : List Int) (x83_3 : Int), v83 = .int .i64 x83_3 ∧ Aside0 (impl_DocBytes.l3 kq x10_3 l0_1 (l0_1.length : Int) x83_3 = some (r1, r2)) ∧ Aside0 (kq ≤ k2) ∧ Aside0 (Kd.R (Kd.int .u8) 5 w' w.heap.size (fun _ => True) v10 x10_3) ∧ Aside0 (w'.heap[gb314]? = some (.cells #[.string a0_0, (.slice A0_1 l0_1.length c0_1)] 31 (0, 0))) ∧ Aside0 (Below w.heap.size w w'))
       case atStart => exact ⟨(t323), (0), (by first | rfl | (simp; done) | (simp [*]; done)), H', ⟨Nat.le_refl _⟩, ⟨zr HO325⟩, ⟨zb BK314⟩, ⟨zg HB⟩⟩
       case round =>
        clear H'
        try clear c1
        try clear c2
        try clear p2
        try clear c3
        try clear p3
        try clear q3
        try clear hx3
        try clear c4
        try clear c4b0
        try clear c4b1
        try clear p6
        try clear c7
        try clear c9
        try clear c9b0
        try clear c10
        try clear c10b0
        try clear c11
        try clear c11b0
        try clear c14
        try clear c16
        try clear c16b0
        try clear c16b1
        try clear c17
        try clear c19
        try clear c19b0
        try clear c19b1
        try clear c20
        try clear c22
        try clear c24
        try clear c25
        try clear c27
        try clear c27b0
        try clear c28
        try clear c28b0
        try clear c29
        try clear c29b0
        try clear c30
        try clear c30b0
        try clear c30b1
        try clear c31
        try clear p31
        try clear q31
        try clear hx31
        try clear c33
        try clear c33b0
        try clear c34
        try clear c34b0
        try clear c35
        try clear c35b0
        try clear c37
        try clear c38
        try clear c39
        try clear c40
        try clear hcz15_0
        try clear hcz15_1
        try clear hcz15_2
        try clear hcz18_0
        try clear hcz18_1
        try clear hcz18_2
        try clear hcz21_0
        try clear hcz21_1
        try clear hcz21_2
        try clear hcz23_0
        try clear hcz23_1
        try clear hcz23_2
        try clear hcz26_0
        try clear hcz26_1
        try clear hcz26_2
        try clear hcz32_0
        try clear hcz32_1
        try clear hcz32_2
        try clear hcz44_0
        try clear hcz44_1
        try clear hcz5_0
        try clear hcz5_1
        try clear hcz6_0
        try clear hcz6_1
        try clear hcz8_0
        try clear hcz8_1
        try clear hfz15_0
        try clear hfz15_1
        try clear hfz15_2
        try clear hfz18_0
        try clear hfz18_1
        try clear hfz18_2
        try clear hfz21_0
        try clear hfz21_1
        try clear hfz21_2
        try clear hfz23_0
        try clear hfz23_1
        try clear hfz23_2
        try clear hfz26_0
        try clear hfz26_1
        try clear hfz26_2
        try clear hfz32_0
        try clear hfz32_1
        try clear hfz32_2
        try clear hfz44_0
        try clear hfz44_1
        try clear hfz5_0
        try clear hfz5_1
        try clear hfz6_0
        try clear hfz6_1
        try clear hfz8_0
        try clear hfz8_1
        try clear hx315_0
        try clear hx315_1
        try clear hx315_2
        try clear hx317_0
        try clear hx318_0
        try clear p2
        try clear p3
        try clear p31
        try clear p315
        try clear p317
        try clear p318
        try clear p6
        try clear q3
        try clear q31
        try clear q315
        try clear q317
        try clear q318
        obtain ⟨x10_3, x83_3, rfl, HA, HK3, HO_10, BK314, HB⟩ := hrel
        cases gk with
        | zero => exact absurd HA.out (by simp [impl_DocBytes.l3])
        | succ k3 =>
         have H := HA.out
         clear HA
         simp only [impl_DocBytes.l3] at H
         by_cases c45 : x83_3 < (l0_1.length : Int)
         ·rw [if_pos c45] at H
          have c45b0 : decide (x83_3 < (l0_1.length : Int)) = true := decide_eq_true c45
          clear c45
          by_cases c46 : 0 ≤ x83_3
          ·rw [if_pos c46] at H
           have c46b0 : decide (0 ≤ x83_3) = true := decide_eq_true c46
           clear c46
           by_cases c47 : x83_3 < (l0_1.length : Int)
           ·rw [if_pos c47] at H
            have c47b0 : decide (x83_3 < (l0_1.length : Int)) = true := decide_eq_true c47
            clear c47
            replace H := Option.bind_eq_some_iff.mp H
            obtain ⟨t328, A480, H⟩ := H
            replace H : ((impl_putInt.f k3 t328 (((rd_T66 l0_1 x83_3).f1).length : Int)).bind fun t331 => (impl_DocBytes.l4 k3 t331 l0_1 (l0_1.length : Int) x83_3 ((rd_T66 l0_1 x83_3).f1) (((rd_T66 l0_1 x83_3).f1).length : Int) 0 ((rd_T66 l0_1 x83_3).f0) ((rd_T66 l0_1 x83_3).f1) ((rd_T66 l0_1 x83_3).f2))) = some (r1, r2) := H
            have A48 := Aside0.mk A480
            clear A480
            replace H := Option.bind_eq_some_iff.mp H
            obtain ⟨t331, A490, H⟩ := H
            replace H : (impl_DocBytes.l4 k3 t331 l0_1 (l0_1.length : Int) x83_3 ((rd_T66 l0_1 x83_3).f1) (((rd_T66 l0_1 x83_3).f1).length : Int) 0 ((rd_T66 l0_1 x83_3).f0) ((rd_T66 l0_1 x83_3).f1) ((rd_T66 l0_1 x83_3).f2)) = some (r1, r2) := H
            have A49 := Aside0.mk A490
            clear A490
            have H' := Aside0.mk H
            clear H
            have p326 : 0 ≤ (x83_3 : Int) := of_decide_eq_true zas
            have q326 : x83_3 < (l0_1.length : Int) := of_decide_eq_true zas
            obtain ⟨ad326, A326_1, c326_1, A326_2, c326_2, e326, hx326_0, hx326_1, hx326_2, hl326_1, hi326_1, hl326_2, hi326_2⟩ := at_T66 HR0_1.out x83_3 p326 q326
            cases e326
            replace hx326_0 := (HB.out.cell (World.block_lt_of_cell? w _ hx326_0)).trans hx326_0
            replace hx326_1 := (HB.out.cell (World.block_lt_of_cell? w _ hx326_1)).trans hx326_1
            replace hx326_2 := (HB.out.cell (World.block_lt_of_cell? w _ hx326_2)).trans hx326_2
            have HR326_1 := Aside0.mk hi326_1
            have HC326_1 := Aside0.mk hl326_1
            clear hi326_1 hl326_1
            have HR326_2 := Aside0.mk hi326_2
            have HC326_2 := Aside0.mk hl326_2
            clear hi326_2 hl326_2
            replace p326 := eq_true p326
            replace q326 := eq_true q326
            try go_wp2_with (first | ((with_reducible refine gate_dst (N := 12) rfl ?_); (try (refine gate_guard (by rfl) ?_; dsimp only)); refine box_event ?hg (N := 12) ?hd (cs := #[.string (⟨#[]⟩ : ByteArray), .slice none 0 0, .slice none 0 0]) (t := 66) ?hr ?_; (case hd => rfl); (case hg => rfl); (case hr => first | (go_simp; done) | (go_simp; rfl)); intro gb327 hg w50 hbox hb; have n0_ := Aside0.mk (Kd.R_below (zr HO_10) hb); have n1_ := Aside0.mk (blk_below (zb BK314) hb); have n2_ := Aside0.mk (below_step (zg HB) hb); have n3_ := Aside0.mk (hbox); have n4_ := Aside0.mk ((by rw [hg]; exact (below_size (zg HB)) : w.heap.size ≤ gb327)); have n5_ := Aside0.mk ((by rw [hg]; exact (below_size (zg HB)) : w.heap.size ≤ gb327)); have n6_ := Aside0.mk ((by rw [hg]; exact Nat.ne_of_lt (blk_lt (zb BK314)) : gb314 ≠ gb327)); have n7_ := Aside0.mk ((by rw [hg]; exact Nat.ne_of_gt (blk_lt (zb BK314)) : gb327 ≠ gb314)); clear HO_10; clear BK314; clear HB; have HO_10 := n0_; have BK314 := n1_; have HB := n2_; have BK327 := n3_; have GW327 := n4_; have GE327 := n5_; have NB314_327 := n6_; have NB327_314 := n7_; clear n0_ n1_ n2_ n3_ n4_ n5_ n6_ n7_; clear hb hbox hg; have hnb51 := NB327_314.out; have hnc51 := NB314_327.out; have hcz52_0 : w50.cell? ⟨gb327, 0, none⟩ = some (.string (⟨#[]⟩ : ByteArray)) := (blk_cell BK327.out 0).trans rfl; have hcz52_1 : w50.cell? ⟨gb327, 1, none⟩ = some (.slice none 0 0) := (blk_cell BK327.out 1).trans rfl; have hcz52_2 : w50.cell? ⟨gb327, 2, none⟩ = some (.slice none 0 0) := (blk_cell BK327.out 2).trans rfl; have hfz52_0 := blk_frozen BK327.out 0; have hfz52_1 := blk_frozen BK327.out 1; have hfz52_2 := blk_frozen BK327.out 2))
            have n0_ : Aside0 (Kd.R (Kd.int .u8) 5 (((w50.setCell ⟨gb327, 0, none⟩ (.string ((rd_T66 l0_1 x83_3).f0))).setCell ⟨gb327, 1, none⟩ (.slice A326_1 ((rd_T66 l0_1 x83_3).f1).length c326_1)).setCell ⟨gb327, 2, none⟩ (.slice A326_2 ((rd_T66 l0_1 x83_3).f2).length c326_2)) w.heap.size (fun _ => True) u10 x10_3) := ⟨by (with_reducible repeat (first | apply Kd.R_alloc | apply Kd.R_drewN | apply Kd.R_drew)); exact Kd.R_mono (Kd.R_far (p := ⟨gb327, 2, none⟩) (Kd.R_far (p := ⟨gb327, 1, none⟩) (Kd.R_far (p := ⟨gb327, 0, none⟩) (Kd.R_types HO_10.out BK327.out (by decide)) (fun _ hk => hk.2) (.string ((rd_T66 l0_1 x83_3).f0))) (fun _ hk => hk.2) (.slice A326_1 ((rd_T66 l0_1 x83_3).f1).length c326_1)) (fun _ hk => hk.2) (.slice A326_2 ((rd_T66 l0_1 x83_3).f2).length c326_2)) (fun _ hk => trivial)⟩
            have n1_ : Aside0 ((((w50.setCell ⟨gb327, 0, none⟩ (.string ((rd_T66 l0_1 x83_3).f0))).setCell ⟨gb327, 1, none⟩ (.slice A326_1 ((rd_T66 l0_1 x83_3).f1).length c326_1)).setCell ⟨gb327, 2, none⟩ (.slice A326_2 ((rd_T66 l0_1 x83_3).f2).length c326_2)).heap[gb314]? = some (.cells #[.string a0_0, .slice (some ad326) l0_1.length c0_1] 31 (0, 0))) := ⟨by (with_reducible repeat (first | refine blk_drewN ?_ _ | refine blk_drew ?_ | refine blk_alloc ?_ _)); refine blk_far ?_ NB314_327.out _; (with_reducible repeat (first | refine blk_drewN ?_ _ | refine blk_drew ?_ | refine blk_alloc ?_ _)); refine blk_far ?_ NB314_327.out _; (with_reducible repeat (first | refine blk_drewN ?_ _ | refine blk_drew ?_ | refine blk_alloc ?_ _)); refine blk_far ?_ NB314_327.out _; (with_reducible repeat (first | refine blk_drewN ?_ _ | refine blk_drew ?_ | refine blk_alloc ?_ _)); exact BK314.out⟩
            have n2_ : Aside0 ((((w50.setCell ⟨gb327, 0, none⟩ (.string ((rd_T66 l0_1 x83_3).f0))).setCell ⟨gb327, 1, none⟩ (.slice A326_1 ((rd_T66 l0_1 x83_3).f1).length c326_1)).setCell ⟨gb327, 2, none⟩ (.slice A326_2 ((rd_T66 l0_1 x83_3).f2).length c326_2)).heap[gb327]? = some (.cells #[.string ((rd_T66 l0_1 x83_3).f0), .slice A326_1 ((rd_T66 l0_1 x83_3).f1).length c326_1, .slice A326_2 ((rd_T66 l0_1 x83_3).f2).length c326_2] 66 (0, 0))) := ⟨by (with_reducible repeat (first | refine blk_drewN ?_ _ | refine blk_drew ?_ | refine blk_alloc ?_ _)); refine blk_put (cs := #[.string ((rd_T66 l0_1 x83_3).f0), .slice A326_1 ((rd_T66 l0_1 x83_3).f1).length c326_1, .slice none 0 0]) ?_ 2 _ rfl; (with_reducible repeat (first | refine blk_drewN ?_ _ | refine blk_drew ?_ | refine blk_alloc ?_ _)); refine blk_put (cs := #[.string ((rd_T66 l0_1 x83_3).f0), .slice none 0 0, .slice none 0 0]) ?_ 1 _ rfl; (with_reducible repeat (first | refine blk_drewN ?_ _ | refine blk_drew ?_ | refine blk_alloc ?_ _)); refine blk_put (cs := #[.string (⟨#[]⟩ : ByteArray), .slice none 0 0, .slice none 0 0]) ?_ 0 _ rfl; (with_reducible repeat (first | refine blk_drewN ?_ _ | refine blk_drew ?_ | refine blk_alloc ?_ _)); exact BK327.out⟩
            have n3_ : Aside0 (Below w.heap.size w (((w50.setCell ⟨gb327, 0, none⟩ (.string ((rd_T66 l0_1 x83_3).f0))).setCell ⟨gb327, 1, none⟩ (.slice A326_1 ((rd_T66 l0_1 x83_3).f1).length c326_1)).setCell ⟨gb327, 2, none⟩ (.slice A326_2 ((rd_T66 l0_1 x83_3).f2).length c326_2))) := ⟨zg HB⟩
            (try clear HO_10)
            (try clear BK314)
            (try clear BK327)
            (try clear HB)
            generalize (((w50.setCell ⟨gb327, 0, none⟩ (.string ((rd_T66 l0_1 x83_3).f0))).setCell ⟨gb327, 1, none⟩ (.slice A326_1 ((rd_T66 l0_1 x83_3).f1).length c326_1)).setCell ⟨gb327, 2, none⟩ (.slice A326_2 ((rd_T66 l0_1 x83_3).f2).length c326_2)) = w53 at n0_ n1_ n2_ n3_ ⊢
            have HO_10 := n0_
            have BK314 := n1_
            have BK327 := n2_
            have HB := n3_
            clear n0_ n1_ n2_ n3_
            have n0_ := Aside0.mk (Kd.R_drew HO_10.out)
            have n1_ := Aside0.mk (blk_drew BK314.out)
            have n2_ := Aside0.mk (blk_drew BK327.out)
            have n3_ := Aside0.mk (below_drew1 HB.out)
            clear HO_10
            clear BK314
            clear BK327
            clear HB
            have HO_10 := n0_
            have BK314 := n1_
            have BK327 := n2_
            have HB := n3_
            clear n0_ n1_ n2_ n3_
            obtain ⟨Ao55, co55, eo55⟩ := Kd.R_slice HO_10.out
            (first | subst eo55 | (injection eo55 with f1_ f2_ f3_; have f4_ := f1_.symm; have f5_ := f3_.symm; clear f1_ f2_ f3_; subst f4_; subst f5_))
            refine start_ (n := 9) (S := fun w' => w'.cell? ⟨gb327, 0, none⟩ = some (.string ((rd_T66 l0_1 x83_3).f0)) ∧ w'.cell? ⟨gb327, 1, none⟩ = some (.slice A326_1 ((rd_T66 l0_1 x83_3).f1).length c326_1) ∧ w'.cell? ⟨gb327, 2, none⟩ = some (.slice A326_2 ((rd_T66 l0_1 x83_3).f2).length c326_2)) (ds := []) (fl7_ 9 0) (by kernel_rfl) rfl rfl ⟨(blk_cell BK327.out 0).trans rfl, (blk_cell BK327.out 1).trans rfl, (blk_cell BK327.out 2).trans rfl⟩ (fun hHeld => ?_); refine with_tabW impl_DocBytes.tab25 impl_DocBytes.bits25 (fun HT_ HW_ => ?_)
            generalize w53.drew = w54 at HO_10 BK314 BK327 HB hHeld ⊢
            refine pure_ (i := 0) (N := some 87) (v := ?_) (a' := ?_) (fl7_ 9 1) rfl rfl (any_of HT_.out (by kernel_rfl)) (fun _ _ _ h => h) (Or.inl ⟨by rfl, ?_⟩) ?_ ?_
            rotate_left
            ·intro w'
             go_simp
             with_reducible rfl
            rotate_left
            ·simp only [Act.put, List.setIfInBounds_toArray, List.set_cons_zero, List.set_cons_succ, i64_w, i32_w]
             rfl
            refine pure_ (i := 1) (N := some 88) (v := ?_) (a' := ?_) (fl7_ 9 3) rfl rfl (any_of HT_.out (by kernel_rfl)) (fun _ _ _ h => h) (Or.inl ⟨by rfl, ?_⟩) ?_ ?_
            rotate_left
            ·intro w'
             go_simp
             with_reducible rfl
            rotate_left
            ·simp only [Act.put, List.setIfInBounds_toArray, List.set_cons_zero, List.set_cons_succ, i64_w, i32_w]
             rfl
            refine pure_ (i := 4) (N := some 91) (v := ?_) (a' := ?_) (fl7_ 9 19) rfl rfl (any_of HT_.out (by kernel_rfl)) (fun _ _ _ h => h) (Or.inl ⟨by rfl, ?_⟩) ?_ ?_
            rotate_left
            ·intro w'
             go_simp
             with_reducible rfl
            rotate_left
            ·simp only [Act.put, List.setIfInBounds_toArray, List.set_cons_zero, List.set_cons_succ, i64_w, i32_w]
             rfl
            refine take_ (i := 2) (N := some 89) (v := ?_) (a' := ?_) (fl7_ 9 23) rfl rfl (take_ofW HT_.out HW_.out (by kernel_rfl)) (fun _ _ _ h => h) (Or.inl ⟨by rfl, ?_⟩) hHeld ?_ ?_
            rotate_left
            ·rintro w' ⟨s0, s1, s2⟩
             go_simp
             with_reducible rfl
            rotate_left
            ·simp only [Act.put, List.setIfInBounds_toArray, List.set_cons_zero, List.set_cons_succ, i64_w, i32_w]
             rfl
            refine take_ (i := 5) (N := some 92) (v := ?_) (a' := ?_) (fl7_ 9 55) rfl rfl (take_ofW HT_.out HW_.out (by kernel_rfl)) (fun _ _ _ h => h) (Or.inl ⟨by rfl, ?_⟩) hHeld ?_ ?_
            rotate_left
            ·rintro w' ⟨s0, s1, s2⟩
             go_simp
             with_reducible rfl
            rotate_left
            ·simp only [Act.put, List.setIfInBounds_toArray, List.set_cons_zero, List.set_cons_succ, i64_w, i32_w]
             rfl
            refine pure_ (i := 6) (N := some 93) (v := ?_) (a' := ?_) (fl7_ 9 119) rfl rfl (any_of HT_.out (by kernel_rfl)) (fun _ _ _ h => h) (Or.inl ⟨by rfl, ?_⟩) ?_ ?_
            rotate_left
            ·intro w'
             go_simp
             with_reducible rfl
            rotate_left
            ·simp only [Act.put, List.setIfInBounds_toArray, List.set_cons_zero, List.set_cons_succ, i64_w, i32_w]
             rfl
            refine one_ (i := 3) (N := some 90) (fl7_ 9 127) rfl rfl (one_of HT_.out (by kernel_rfl)) (by decide) (fun K hK => ?_)
            refine goes_ Try.func40 (by kernel_rfl) rfl #[.slice Ao55 x10_3.length co55, .string ((rd_T66 l0_1 x83_3).f0)] (by rfl) rfl rfl zar ?_
            with_reducible refine (impl_putText.calls k3 (fun k_ => some k_ = (.slice Ao55 x10_3.length co55 : Value).ownBlock) (.slice Ao55 x10_3.length co55) x10_3 ((rd_T66 l0_1 x83_3).f0) t328 w _ ?side1 ?side2 A48.out).mono ?_
            (case side1 => repeat (first | (with_reducible first | exact HB.out | apply below_alloc | apply pw_below_drewN | apply below_drew1 | refine below_set ?_ GE314.out | refine below_set ?_ GE327.out) | exact HB.out))
            (case side2 => exact Kd.R_tight rfl HO_10.out)
            rintro e w56 ⟨v329, rfl, ho0, hb, hkp⟩
            refine ⟨_, rfl, ?_⟩
            have n0_ := Aside0.mk (blk_kept (zb BK314) hkp (fun hs_ => (fun e_ => (Kd.R_ne HO_10.out BK314.out (by decide)) e_) hs_))
            have n1_ := Aside0.mk (blk_kept (zb BK327) hkp (fun hs_ => (fun e_ => (Kd.R_ne HO_10.out BK327.out (by decide)) e_) hs_))
            have n2_ := Aside0.mk (Kd.R_mono (ok' := fun k_ => True) ho0 (fun k_ hk_ => trivial))
            have n3_ := Aside0.mk (hb)
            clear BK314
            clear BK327
            clear HB
            clear HO_10
            have BK314 := n0_
            have BK327 := n1_
            have HO330 := n2_
            have HB := n3_
            clear n0_ n1_ n2_ n3_
            (try clear hb)
            (try clear hkp)
            (try clear ho0)
            obtain ⟨Ao57, co57, eo57⟩ := Kd.R_slice HO330.out
            (first | subst eo57 | (injection eo57 with f1_ f2_ f3_; have f4_ := f1_.symm; have f5_ := f3_.symm; clear f1_ f2_ f3_; subst f4_; subst f5_))
            refine hK.out _ _ ⟨(blk_cell BK327.out 0).trans rfl, (blk_cell BK327.out 1).trans rfl, (blk_cell BK327.out 2).trans rfl⟩ (fun hHeld => ?_)
            clear hK K
            refine norm_ (a' := ?_) ?_ ?_
            rotate_left
            ·show Act.put _ (some 90) _ = _
             simp only [Act.put, List.setIfInBounds_toArray, List.set_cons_zero, List.set_cons_succ, i64_w, i32_w]
             rfl
            refine one_ (i := 7) (N := some 94) (fl7_ 9 255) rfl rfl (one_of HT_.out (by kernel_rfl)) (by decide) (fun K hK => ?_)
            refine goes_ Try.func39 (by kernel_rfl) rfl #[.slice Ao57 t328.length co57, .int .i64 (((rd_T66 l0_1 x83_3).f1).length : Int)] (by rfl) rfl rfl zar ?_
            with_reducible refine (impl_putInt.calls k3 (fun k_ => some k_ = (.slice Ao57 t328.length co57 : Value).ownBlock) (.slice Ao57 t328.length co57) t328 (((rd_T66 l0_1 x83_3).f1).length : Int) t331 w _ ?side1 ?side2 A49.out).mono ?_
            (case side1 => repeat (first | (with_reducible first | exact HB.out | apply below_alloc | apply pw_below_drewN | apply below_drew1 | refine below_set ?_ GE314.out | refine below_set ?_ GE327.out) | exact HB.out))
            (case side2 => exact Kd.R_tight rfl HO330.out)
            rintro e w58 ⟨v332, rfl, ho0, hb, hkp⟩
            refine ⟨_, rfl, ?_⟩
            have n0_ := Aside0.mk (blk_kept (zb BK314) hkp (fun hs_ => (fun e_ => (Kd.R_ne HO330.out BK314.out (by decide)) e_) hs_))
            have n1_ := Aside0.mk (blk_kept (zb BK327) hkp (fun hs_ => (fun e_ => (Kd.R_ne HO330.out BK327.out (by decide)) e_) hs_))
            have n2_ := Aside0.mk (Kd.R_mono (ok' := fun k_ => True) ho0 (fun k_ hk_ => trivial))
            have n3_ := Aside0.mk (hb)
            clear BK314
            clear BK327
            clear HB
            clear HO330
            have BK314 := n0_
            have BK327 := n1_
            have HO333 := n2_
            have HB := n3_
            clear n0_ n1_ n2_ n3_
            (try clear hb)
            (try clear hkp)
            (try clear ho0)
            refine hK.out _ _ ⟨(blk_cell BK327.out 0).trans rfl, (blk_cell BK327.out 1).trans rfl, (blk_cell BK327.out 2).trans rfl⟩ (fun hHeld => ?_)
            clear hK K
            refine norm_ (a' := ?_) ?_ ?_
            rotate_left
            ·show Act.put _ (some 94) _ = _
             simp only [Act.put, List.setIfInBounds_toArray, List.set_cons_zero, List.set_cons_succ, i64_w, i32_w]
             rfl
            refine pure_ (i := 8) (N := some 10) (v := ?_) (a' := ?_) (fl7_ 9 511) rfl rfl (any_of HT_.out (by kernel_rfl)) (fun _ _ _ h => h) (Or.inl ⟨by rfl, ?_⟩) ?_ ?_
            rotate_left
            ·intro w'
             go_simp
             with_reducible rfl
            rotate_left
            ·simp only [Act.put, List.setIfInBounds_toArray, List.set_cons_zero, List.set_cons_succ, i64_w, i32_w]
             rfl
            refine done_ (done_of HT_.out (by kernel_rfl)) ?_
            have hcz59_0 : w58.cell? ⟨gb327, 0, none⟩ = some (.string ((rd_T66 l0_1 x83_3).f0)) := (blk_cell BK327.out 0).trans rfl
            have hcz59_1 : w58.cell? ⟨gb327, 1, none⟩ = some (.slice A326_1 ((rd_T66 l0_1 x83_3).f1).length c326_1) := (blk_cell BK327.out 1).trans rfl
            have hcz59_2 : w58.cell? ⟨gb327, 2, none⟩ = some (.slice A326_2 ((rd_T66 l0_1 x83_3).f2).length c326_2) := (blk_cell BK327.out 2).trans rfl
            have hfz59_0 := blk_frozen BK327.out 0
            have hfz59_1 := blk_frozen BK327.out 1
            have hfz59_2 := blk_frozen BK327.out 2
            try go_wp2
            go_loopg [10, 98] k3 (fun kq v10 v98 w' => ∃ (x10_4 : List Int) (x98_4 : Int), v98 = .int .i64 x98_4 ∧ Aside0 (impl_DocBytes.l4 kq x10_4 l0_1 (l0_1.length : Int) x83_3 ((rd_T66 l0_1 x83_3).f1) (((rd_T66 l0_1 x83_3).f1).length : Int) x98_4 ((rd_T66 l0_1 x83_3).f0) ((rd_T66 l0_1 x83_3).f1) ((rd_T66 l0_1 x83_3).f2) = some (r1, r2)) ∧ Aside0 (kq ≤ k3) ∧ Aside0 (Kd.R (Kd.int .u8) 5 w' w.heap.size (fun _ => True) v10 x10_4) ∧ Aside0 (w'.heap[gb314]? = some (.cells #[.string a0_0, (.slice (some ad326) l0_1.length c0_1)] 31 (0, 0))) ∧ Aside0 (w'.heap[gb327]? = some (.cells #[.string ((rd_T66 l0_1 x83_3).f0), (.slice A326_1 ((rd_T66 l0_1 x83_3).f1).length c326_1), (.slice A326_2 ((rd_T66 l0_1 x83_3).f2).length c326_2)] 66 (0, 0))) ∧ Aside0 (Below w.heap.size w w'))
            case atStart => exact ⟨(t331), (0), (by first | rfl | (simp; done) | (simp [*]; done)), H', ⟨Nat.le_refl _⟩, ⟨zr HO333⟩, ⟨zb BK314⟩, ⟨zb BK327⟩, ⟨zg HB⟩⟩
            case round =>
             clear H'
             try clear c1
             try clear c2
             try clear p2
             try clear c3
             try clear p3
             try clear q3
             try clear hx3
             try clear c4
             try clear c4b0
             try clear c4b1
             try clear c5
             try clear p6
             try clear c7
             try clear c9
             try clear c9b0
             try clear c10
             try clear c10b0
             try clear c11
             try clear c11b0
             try clear c14
             try clear c16
             try clear c16b0
             try clear c16b1
             try clear c17
             try clear c19
             try clear c19b0
             try clear c19b1
             try clear c20
             try clear c22
             try clear c24
             try clear c25
             try clear c27
             try clear c27b0
             try clear c28
             try clear c28b0
             try clear c29
             try clear c29b0
             try clear c30
             try clear c30b0
             try clear c30b1
             try clear c31
             try clear p31
             try clear q31
             try clear hx31
             try clear c32
             try clear p32
             try clear q32
             try clear hx32
             try clear c33
             try clear c33b0
             try clear c34
             try clear c34b0
             try clear c35
             try clear c35b0
             try clear c37
             try clear c38
             try clear c39
             try clear c40
             try clear c45
             try clear c45b0
             try clear c46
             try clear c46b0
             try clear c47
             try clear c47b0
             try clear c51
             try clear hcz15_0
             try clear hcz15_1
             try clear hcz15_2
             try clear hcz18_0
             try clear hcz18_1
             try clear hcz18_2
             try clear hcz21_0
             try clear hcz21_1
             try clear hcz21_2
             try clear hcz23_0
             try clear hcz23_1
             try clear hcz23_2
             try clear hcz26_0
             try clear hcz26_1
             try clear hcz26_2
             try clear hcz32_0
             try clear hcz32_1
             try clear hcz32_2
             try clear hcz44_0
             try clear hcz44_1
             try clear hcz52_0
             try clear hcz52_1
             try clear hcz52_2
             try clear hcz59_0
             try clear hcz59_1
             try clear hcz59_2
             try clear hcz5_0
             try clear hcz5_1
             try clear hcz6_0
             try clear hcz6_1
             try clear hcz8_0
             try clear hcz8_1
             try clear hfz15_0
             try clear hfz15_1
             try clear hfz15_2
             try clear hfz18_0
             try clear hfz18_1
             try clear hfz18_2
             try clear hfz21_0
             try clear hfz21_1
             try clear hfz21_2
             try clear hfz23_0
             try clear hfz23_1
             try clear hfz23_2
             try clear hfz26_0
             try clear hfz26_1
             try clear hfz26_2
             try clear hfz32_0
             try clear hfz32_1
             try clear hfz32_2
             try clear hfz44_0
             try clear hfz44_1
             try clear hfz52_0
             try clear hfz52_1
             try clear hfz52_2
             try clear hfz59_0
             try clear hfz59_1
             try clear hfz59_2
             try clear hfz5_0
             try clear hfz5_1
             try clear hfz6_0
             try clear hfz6_1
             try clear hfz8_0
             try clear hfz8_1
             try clear hx315_0
             try clear hx315_1
             try clear hx315_2
             try clear hx317_0
             try clear hx318_0
             try clear hx326_0
             try clear hx326_1
             try clear hx326_2
             try clear p2
             try clear p3
             try clear p31
             try clear p315
             try clear p317
             try clear p318
             try clear p326
             try clear p6
             try clear q3
             try clear q31
             try clear q315
             try clear q317
             try clear q318
             try clear q326
             obtain ⟨x10_4, x98_4, rfl, HA, HK4, HO_10, BK314, BK327, HB⟩ := hrel
             cases gk with
             | zero => exact absurd HA.out (by simp [impl_DocBytes.l4])
             | succ k4 =>
              have H := HA.out
              clear HA
              simp only [impl_DocBytes.l4] at H
              by_cases c60 : x98_4 < (((rd_T66 l0_1 x83_3).f1).length : Int)
              ·rw [if_pos c60] at H
               have c60b0 : decide (x98_4 < (((rd_T66 l0_1 x83_3).f1).length : Int)) = true := decide_eq_true c60
               clear c60
               by_cases c61 : 0 ≤ x98_4
               ·rw [if_pos c61] at H
                have c61b0 : decide (0 ≤ x98_4) = true := decide_eq_true c61
                clear c61
                by_cases c62 : x98_4 < (((rd_T66 l0_1 x83_3).f1).length : Int)
                ·rw [if_pos c62] at H
                 have c62b0 : decide (x98_4 < (((rd_T66 l0_1 x83_3).f1).length : Int)) = true := decide_eq_true c62
                 clear c62
                 replace H := Option.bind_eq_some_iff.mp H
                 obtain ⟨t335, A630, H⟩ := H
                 replace H : (impl_DocBytes.l4 k4 t335 l0_1 (l0_1.length : Int) x83_3 ((rd_T66 l0_1 x83_3).f1) (((rd_T66 l0_1 x83_3).f1).length : Int) (wrap64 (x98_4 + 1)) ((rd_T66 l0_1 x83_3).f0) ((rd_T66 l0_1 x83_3).f1) ((rd_T66 l0_1 x83_3).f2)) = some (r1, r2) := H
                 have A63 := Aside0.mk A630
                 clear A630
                 have H' := Aside0.mk H
                 clear H
                 have p334 : 0 ≤ (x98_4 : Int) := of_decide_eq_true zas
                 have q334 : x98_4 < (((rd_T66 l0_1 x83_3).f1).length : Int) := of_decide_eq_true zas
                 obtain ⟨ad334, e334, hx334_0⟩ := Kd.at_string HR326_1.out x98_4 p334 q334
                 cases e334
                 replace hx334_0 := (HB.out.cell (World.block_lt_of_cell? w _ hx334_0)).trans hx334_0
                 replace p334 := eq_true p334
                 replace q334 := eq_true q334
                 obtain ⟨Ao64, co64, eo64⟩ := Kd.R_slice HO_10.out
                 subst eo64
                 go_wp2_with (first | ((with_reducible refine gate_callee (f := 40) rfl ?_); refine goesL_ (some 104) rfl rfl Try.func40 (by kernel_rfl) rfl #[.slice Ao64 x10_4.length co64, .string (rdOf ByteArray.empty ((rd_T66 l0_1 x83_3).f1) x98_4)] rfl zar ?_; (with_reducible refine (impl_putText.calls k4 (fun k_ => some k_ = (.slice Ao64 x10_4.length co64 : Value).ownBlock) (.slice Ao64 x10_4.length co64) x10_4 (rdOf ByteArray.empty ((rd_T66 l0_1 x83_3).f1) x98_4) t335 w _ ?side1 ?side2 A63.out).mono ?_); (case side1 => repeat (first | (with_reducible first | exact HB.out | apply below_alloc | apply pw_below_drewN | apply below_drew1 | refine below_set ?_ GE314.out | refine below_set ?_ GE327.out) | exact HB.out)); (case side2 => exact Kd.R_tight rfl HO_10.out); rintro e w65 ⟨v336, rfl, ho0, hb, hkp⟩; refine ⟨_, rfl, ?_⟩; have n0_ := Aside0.mk (blk_kept (zb BK314) hkp (fun hs_ => (fun e_ => (Kd.R_ne HO_10.out BK314.out (by decide)) e_) hs_)); have n1_ := Aside0.mk (blk_kept (zb BK327) hkp (fun hs_ => (fun e_ => (Kd.R_ne HO_10.out BK327.out (by decide)) e_) hs_)); have n2_ := Aside0.mk (Kd.R_mono (ok' := fun k_ => True) ho0 (fun k_ hk_ => trivial)); have n3_ := Aside0.mk (hb); clear BK314; clear BK327; clear HB; clear HO_10; have BK314 := n0_; have BK327 := n1_; have HO337 := n2_; have HB := n3_; clear n0_ n1_ n2_ n3_; (try clear hb); (try clear hkp); (try clear ho0)))
                 go_roundg k4
                 case measure => have := HJ1.out; have := HK2.out; have := HK3.out; have := HK4.out; omega
                 case rel => exact ⟨(t335), (wrap64 (x98_4 + 1)), (by first | rfl | (simp; done) | (simp [*]; done)), H', ⟨by have := HJ1.out; have := HK2.out; have := HK3.out; have := HK4.out; omega⟩, ⟨zr HO337⟩, ⟨zb BK314⟩, ⟨zb BK327⟩, ⟨zg HB⟩⟩
                ·rw [if_neg c62] at H
                 exact absurd H (by simp)
               ·rw [if_neg c61] at H
                exact absurd H (by simp)
              ·rw [if_neg c60] at H
               have c60b0 : decide (x98_4 < (((rd_T66 l0_1 x83_3).f1).length : Int)) = false := decide_eq_false c60
               clear c60
               replace H := Option.bind_eq_some_iff.mp H
               obtain ⟨t338, A660, H⟩ := H
               replace H : (impl_DocBytes.l5 k4 t338 l0_1 (l0_1.length : Int) x83_3 ((rd_T66 l0_1 x83_3).f2) (((rd_T66 l0_1 x83_3).f2).length : Int) 0) = some (r1, r2) := H
               have A66 := Aside0.mk A660
               clear A660
               have H' := Aside0.mk H
               clear H
               have hnb67 := NB327_314.out
               have hnc67 := NB314_327.out
               have hcz68_0 : wr.cell? ⟨gb327, 0, none⟩ = some (.string ((rd_T66 l0_1 x83_3).f0)) := (blk_cell BK327.out 0).trans rfl
               have hcz68_1 : wr.cell? ⟨gb327, 1, none⟩ = some (.slice A326_1 ((rd_T66 l0_1 x83_3).f1).length c326_1) := (blk_cell BK327.out 1).trans rfl
               have hcz68_2 : wr.cell? ⟨gb327, 2, none⟩ = some (.slice A326_2 ((rd_T66 l0_1 x83_3).f2).length c326_2) := (blk_cell BK327.out 2).trans rfl
               have hfz68_0 := blk_frozen BK327.out 0
               have hfz68_1 := blk_frozen BK327.out 1
               have hfz68_2 := blk_frozen BK327.out 2
               obtain ⟨Ao69, co69, eo69⟩ := Kd.R_slice HO_10.out
               subst eo69
               go_wp2_with (first | ((with_reducible refine gate_callee (f := 39) rfl ?_); refine goesL_ (some 110) rfl rfl Try.func39 (by kernel_rfl) rfl #[.slice Ao69 x10_4.length co69, .int .i64 (((rd_T66 l0_1 x83_3).f2).length : Int)] rfl zar ?_; (with_reducible refine (impl_putInt.calls k4 (fun k_ => some k_ = (.slice Ao69 x10_4.length co69 : Value).ownBlock) (.slice Ao69 x10_4.length co69) x10_4 (((rd_T66 l0_1 x83_3).f2).length : Int) t338 w _ ?side1 ?side2 A66.out).mono ?_); (case side1 => repeat (first | (with_reducible first | exact HB.out | apply below_alloc | apply pw_below_drewN | apply below_drew1 | refine below_set ?_ GE314.out | refine below_set ?_ GE327.out) | exact HB.out)); (case side2 => exact Kd.R_tight rfl HO_10.out); rintro e w70 ⟨v339, rfl, ho0, hb, hkp⟩; refine ⟨_, rfl, ?_⟩; have n0_ := Aside0.mk (blk_kept (zb BK314) hkp (fun hs_ => (fun e_ => (Kd.R_ne HO_10.out BK314.out (by decide)) e_) hs_)); have n1_ := Aside0.mk (blk_kept (zb BK327) hkp (fun hs_ => (fun e_ => (Kd.R_ne HO_10.out BK327.out (by decide)) e_) hs_)); have n2_ := Aside0.mk (Kd.R_mono (ok' := fun k_ => True) ho0 (fun k_ hk_ => trivial)); have n3_ := Aside0.mk (hb); clear BK314; clear BK327; clear HB; clear HO_10; have BK314 := n0_; have BK327 := n1_; have HO340 := n2_; have HB := n3_; clear n0_ n1_ n2_ n3_; (try clear hb); (try clear hkp); (try clear ho0); have hcz71_0 : w70.cell? ⟨gb327, 0, none⟩ = some (.string ((rd_T66 l0_1 x83_3).f0)) := (blk_cell BK327.out 0).trans rfl; have hcz71_1 : w70.cell? ⟨gb327, 1, none⟩ = some (.slice A326_1 ((rd_T66 l0_1 x83_3).f1).length c326_1) := (blk_cell BK327.out 1).trans rfl; have hcz71_2 : w70.cell? ⟨gb327, 2, none⟩ = some (.slice A326_2 ((rd_T66 l0_1 x83_3).f2).length c326_2) := (blk_cell BK327.out 2).trans rfl; have hfz71_0 := blk_frozen BK327.out 0; have hfz71_1 := blk_frozen BK327.out 1; have hfz71_2 := blk_frozen BK327.out 2))
               go_loopg [10, 114] k4 (fun kq v10 v114 w' => ∃ (x10_5 : List Int) (x114_5 : Int), v114 = .int .i64 x114_5 ∧ Aside0 (impl_DocBytes.l5 kq x10_5 l0_1 (l0_1.length : Int) x83_3 ((rd_T66 l0_1 x83_3).f2) (((rd_T66 l0_1 x83_3).f2).length : Int) x114_5 = some (r1, r2)) ∧ Aside0 (kq ≤ k4) ∧ Aside0 (Kd.R (Kd.int .u8) 5 w' w.heap.size (fun _ => True) v10 x10_5) ∧ Aside0 (w'.heap[gb314]? = some (.cells #[.string a0_0, (.slice (some ad326) l0_1.length c0_1)] 31 (0, 0))) ∧ Aside0 (w'.heap[gb327]? = some (.cells #[.string ((rd_T66 l0_1 x83_3).f0), (.slice A326_1 ((rd_T66 l0_1 x83_3).f1).length c326_1), (.slice A326_2 ((rd_T66 l0_1 x83_3).f2).length c326_2)] 66 (0, 0))) ∧ Aside0 (Below w.heap.size w w'))
               case atStart => exact ⟨(t338), (0), (by first | rfl | (simp; done) | (simp [*]; done)), H', ⟨Nat.le_refl _⟩, ⟨zr HO340⟩, ⟨zb BK314⟩, ⟨zb BK327⟩, ⟨zg HB⟩⟩
               case round =>
                clear H'
                try clear c1
                try clear c2
                try clear p2
                try clear c3
                try clear p3
                try clear q3
                try clear hx3
                try clear c4
                try clear c4b0
                try clear c4b1
                try clear c5
                try clear c6
                try clear p6
                try clear c7
                try clear c9
                try clear c9b0
                try clear c10
                try clear c10b0
                try clear c11
                try clear c11b0
                try clear c14
                try clear c16
                try clear c16b0
                try clear c16b1
                try clear c17
                try clear c19
                try clear c19b0
                try clear c19b1
                try clear c20
                try clear c22
                try clear c24
                try clear c25
                try clear c27
                try clear c27b0
                try clear c28
                try clear c28b0
                try clear c29
                try clear c29b0
                try clear c30
                try clear c30b0
                try clear c30b1
                try clear c31
                try clear p31
                try clear q31
                try clear hx31
                try clear c32
                try clear p32
                try clear q32
                try clear hx32
                try clear c33
                try clear c33b0
                try clear p33
                try clear q33
                try clear hx33
                try clear c34
                try clear c34b0
                try clear c35
                try clear c35b0
                try clear c37
                try clear c38
                try clear c39
                try clear c40
                try clear c45
                try clear c45b0
                try clear c46
                try clear c46b0
                try clear c47
                try clear c47b0
                try clear c51
                try clear c60
                try clear c60b0
                try clear c61
                try clear c61b0
                try clear c62
                try clear c62b0
                try clear p64
                try clear c67
                try clear hcz15_0
                try clear hcz15_1
                try clear hcz15_2
                try clear hcz18_0
                try clear hcz18_1
                try clear hcz18_2
                try clear hcz21_0
                try clear hcz21_1
                try clear hcz21_2
                try clear hcz23_0
                try clear hcz23_1
                try clear hcz23_2
                try clear hcz26_0
                try clear hcz26_1
                try clear hcz26_2
                try clear hcz32_0
                try clear hcz32_1
                try clear hcz32_2
                try clear hcz44_0
                try clear hcz44_1
                try clear hcz52_0
                try clear hcz52_1
                try clear hcz52_2
                try clear hcz59_0
                try clear hcz59_1
                try clear hcz59_2
                try clear hcz5_0
                try clear hcz5_1
                try clear hcz68_0
                try clear hcz68_1
                try clear hcz68_2
                try clear hcz6_0
                try clear hcz6_1
                try clear hcz71_0
                try clear hcz71_1
                try clear hcz71_2
                try clear hcz8_0
                try clear hcz8_1
                try clear hfz15_0
                try clear hfz15_1
                try clear hfz15_2
                try clear hfz18_0
                try clear hfz18_1
                try clear hfz18_2
                try clear hfz21_0
                try clear hfz21_1
                try clear hfz21_2
                try clear hfz23_0
                try clear hfz23_1
                try clear hfz23_2
                try clear hfz26_0
                try clear hfz26_1
                try clear hfz26_2
                try clear hfz32_0
                try clear hfz32_1
                try clear hfz32_2
                try clear hfz44_0
                try clear hfz44_1
                try clear hfz52_0
                try clear hfz52_1
                try clear hfz52_2
                try clear hfz59_0
                try clear hfz59_1
                try clear hfz59_2
                try clear hfz5_0
                try clear hfz5_1
                try clear hfz68_0
                try clear hfz68_1
                try clear hfz68_2
                try clear hfz6_0
                try clear hfz6_1
                try clear hfz71_0
                try clear hfz71_1
                try clear hfz71_2
                try clear hfz8_0
                try clear hfz8_1
                try clear hx315_0
                try clear hx315_1
                try clear hx315_2
                try clear hx317_0
                try clear hx318_0
                try clear hx326_0
                try clear hx326_1
                try clear hx326_2
                try clear hx334_0
                try clear p2
                try clear p3
                try clear p31
                try clear p315
                try clear p317
                try clear p318
                try clear p32
                try clear p326
                try clear p334
                try clear p6
                try clear q3
                try clear q31
                try clear q315
                try clear q317
                try clear q318
                try clear q32
                try clear q326
                try clear q334
                obtain ⟨x10_5, x114_5, rfl, HA, HK5, HO_10, BK314, BK327, HB⟩ := hrel
                cases gk with
                | zero => exact absurd HA.out (by simp [impl_DocBytes.l5])
                | succ k5 =>
                 have H := HA.out
                 clear HA
                 simp only [impl_DocBytes.l5] at H
                 by_cases c72 : x114_5 < (((rd_T66 l0_1 x83_3).f2).length : Int)
                 ·rw [if_pos c72] at H
                  have c72b0 : decide (x114_5 < (((rd_T66 l0_1 x83_3).f2).length : Int)) = true := decide_eq_true c72
                  clear c72
                  by_cases c73 : 0 ≤ x114_5
                  ·rw [if_pos c73] at H
                   have c73b0 : decide (0 ≤ x114_5) = true := decide_eq_true c73
                   clear c73
                   by_cases c74 : x114_5 < (((rd_T66 l0_1 x83_3).f2).length : Int)
                   ·rw [if_pos c74] at H
                    have c74b0 : decide (x114_5 < (((rd_T66 l0_1 x83_3).f2).length : Int)) = true := decide_eq_true c74
                    clear c74
                    by_cases c75 : (rd ((rd_T66 l0_1 x83_3).f2) x114_5) < 0
                    ·rw [if_pos c75] at H
                     have c75b0 : decide ((rd ((rd_T66 l0_1 x83_3).f2) x114_5) < 0) = true := decide_eq_true c75
                     clear c75
                     replace H := Option.bind_eq_some_iff.mp H
                     obtain ⟨t342, A760, H⟩ := H
                     replace H : (impl_DocBytes.l5 k5 t342 l0_1 (l0_1.length : Int) x83_3 ((rd_T66 l0_1 x83_3).f2) (((rd_T66 l0_1 x83_3).f2).length : Int) (wrap64 (x114_5 + 1))) = some (r1, r2) := H
                     have A76 := Aside0.mk A760
                     clear A760
                     have H' := Aside0.mk H
                     clear H
                     have p341 : 0 ≤ (x114_5 : Int) := of_decide_eq_true zas
                     have q341 : x114_5 < (((rd_T66 l0_1 x83_3).f2).length : Int) := of_decide_eq_true zas
                     obtain ⟨ad341, e341, hx341_0⟩ := Kd.at_int HR326_2.out x114_5 p341 q341
                     cases e341
                     replace hx341_0 := (HB.out.cell (World.block_lt_of_cell? w _ hx341_0)).trans hx341_0
                     replace p341 := eq_true p341
                     replace q341 := eq_true q341
                     obtain ⟨Ao77, co77, eo77⟩ := Kd.R_slice HO_10.out
                     subst eo77
                     go_wp2_with (first | ((with_reducible refine gate_callee (f := 39) rfl ?_); refine goesL_ (some 124) rfl rfl Try.func39 (by kernel_rfl) rfl #[.slice Ao77 x10_5.length co77, .int .i64 (wrap64 ((wrap64 ((-2) * (rd ((rd_T66 l0_1 x83_3).f2) x114_5))) - 1))] rfl zar ?_; (with_reducible refine (impl_putInt.calls k5 (fun k_ => some k_ = (.slice Ao77 x10_5.length co77 : Value).ownBlock) (.slice Ao77 x10_5.length co77) x10_5 (wrap64 ((wrap64 ((-2) * (rd ((rd_T66 l0_1 x83_3).f2) x114_5))) - 1)) t342 w _ ?side1 ?side2 A76.out).mono ?_); (case side1 => repeat (first | (with_reducible first | exact HB.out | apply below_alloc | apply pw_below_drewN | apply below_drew1 | refine below_set ?_ GE314.out | refine below_set ?_ GE327.out) | exact HB.out)); (case side2 => exact Kd.R_tight rfl HO_10.out); rintro e w78 ⟨v343, rfl, ho0, hb, hkp⟩; refine ⟨_, rfl, ?_⟩; have n0_ := Aside0.mk (blk_kept (zb BK314) hkp (fun hs_ => (fun e_ => (Kd.R_ne HO_10.out BK314.out (by decide)) e_) hs_)); have n1_ := Aside0.mk (blk_kept (zb BK327) hkp (fun hs_ => (fun e_ => (Kd.R_ne HO_10.out BK327.out (by decide)) e_) hs_)); have n2_ := Aside0.mk (Kd.R_mono (ok' := fun k_ => True) ho0 (fun k_ hk_ => trivial)); have n3_ := Aside0.mk (hb); clear BK314; clear BK327; clear HB; clear HO_10; have BK314 := n0_; have BK327 := n1_; have HO344 := n2_; have HB := n3_; clear n0_ n1_ n2_ n3_; (try clear hb); (try clear hkp); (try clear ho0)))
                     go_roundg k5
                     case measure => have := HJ1.out; have := HK2.out; have := HK3.out; have := HK4.out; have := HK5.out; omega
                     case rel => exact ⟨(t342), (wrap64 (x114_5 + 1)), (by first | rfl | (simp; done) | (simp [*]; done)), H', ⟨by have := HJ1.out; have := HK2.out; have := HK3.out; have := HK4.out; have := HK5.out; omega⟩, ⟨zr HO344⟩, ⟨zb BK314⟩, ⟨zb BK327⟩, ⟨zg HB⟩⟩
                    ·rw [if_neg c75] at H
                     have c75b0 : decide ((rd ((rd_T66 l0_1 x83_3).f2) x114_5) < 0) = false := decide_eq_false c75
                     clear c75
                     replace H := Option.bind_eq_some_iff.mp H
                     obtain ⟨t345, A790, H⟩ := H
                     replace H : (impl_DocBytes.l5 k5 t345 l0_1 (l0_1.length : Int) x83_3 ((rd_T66 l0_1 x83_3).f2) (((rd_T66 l0_1 x83_3).f2).length : Int) (wrap64 (x114_5 + 1))) = some (r1, r2) := H
                     have A79 := Aside0.mk A790
                     clear A790
                     have H' := Aside0.mk H
                     clear H
                     have p341 : 0 ≤ (x114_5 : Int) := of_decide_eq_true zas
                     have q341 : x114_5 < (((rd_T66 l0_1 x83_3).f2).length : Int) := of_decide_eq_true zas
                     obtain ⟨ad341, e341, hx341_0⟩ := Kd.at_int HR326_2.out x114_5 p341 q341
                     cases e341
                     replace hx341_0 := (HB.out.cell (World.block_lt_of_cell? w _ hx341_0)).trans hx341_0
                     replace p341 := eq_true p341
                     replace q341 := eq_true q341
                     obtain ⟨Ao80, co80, eo80⟩ := Kd.R_slice HO_10.out
                     subst eo80
                     go_wp2_with (first | ((with_reducible refine gate_callee (f := 39) rfl ?_); refine goesL_ (some 128) rfl rfl Try.func39 (by kernel_rfl) rfl #[.slice Ao80 x10_5.length co80, .int .i64 (wrap64 (2 * (rd ((rd_T66 l0_1 x83_3).f2) x114_5)))] rfl zar ?_; (with_reducible refine (impl_putInt.calls k5 (fun k_ => some k_ = (.slice Ao80 x10_5.length co80 : Value).ownBlock) (.slice Ao80 x10_5.length co80) x10_5 (wrap64 (2 * (rd ((rd_T66 l0_1 x83_3).f2) x114_5))) t345 w _ ?side1 ?side2 A79.out).mono ?_); (case side1 => repeat (first | (with_reducible first | exact HB.out | apply below_alloc | apply pw_below_drewN | apply below_drew1 | refine below_set ?_ GE314.out | refine below_set ?_ GE327.out) | exact HB.out)); (case side2 => exact Kd.R_tight rfl HO_10.out); rintro e w81 ⟨v346, rfl, ho0, hb, hkp⟩; refine ⟨_, rfl, ?_⟩; have n0_ := Aside0.mk (blk_kept (zb BK314) hkp (fun hs_ => (fun e_ => (Kd.R_ne HO_10.out BK314.out (by decide)) e_) hs_)); have n1_ := Aside0.mk (blk_kept (zb BK327) hkp (fun hs_ => (fun e_ => (Kd.R_ne HO_10.out BK327.out (by decide)) e_) hs_)); have n2_ := Aside0.mk (Kd.R_mono (ok' := fun k_ => True) ho0 (fun k_ hk_ => trivial)); have n3_ := Aside0.mk (hb); clear BK314; clear BK327; clear HB; clear HO_10; have BK314 := n0_; have BK327 := n1_; have HO347 := n2_; have HB := n3_; clear n0_ n1_ n2_ n3_; (try clear hb); (try clear hkp); (try clear ho0)))
                     go_roundg k5
                     case measure => have := HJ1.out; have := HK2.out; have := HK3.out; have := HK4.out; have := HK5.out; omega
                     case rel => exact ⟨(t345), (wrap64 (x114_5 + 1)), (by first | rfl | (simp; done) | (simp [*]; done)), H', ⟨by have := HJ1.out; have := HK2.out; have := HK3.out; have := HK4.out; have := HK5.out; omega⟩, ⟨zr HO347⟩, ⟨zb BK314⟩, ⟨zb BK327⟩, ⟨zg HB⟩⟩
                   ·rw [if_neg c74] at H
                    exact absurd H (by simp)
                  ·rw [if_neg c73] at H
                   exact absurd H (by simp)
                 ·rw [if_neg c72] at H
                  have c72b0 : decide (x114_5 < (((rd_T66 l0_1 x83_3).f2).length : Int)) = false := decide_eq_false c72
                  clear c72
                  have H' := Aside0.mk H
                  clear H
                  go_wp2
                  go_roundg k5
                  case measure => have := HJ1.out; have := HK2.out; have := HK3.out; have := HK4.out; have := HK5.out; omega
                  case rel => exact ⟨(x10_5), (wrap64 (x83_3 + 1)), (by first | rfl | (simp; done) | (simp [*]; done)), H', ⟨by have := HJ1.out; have := HK2.out; have := HK3.out; have := HK4.out; have := HK5.out; omega⟩, ⟨zr HO_10⟩, ⟨zb BK314⟩, ⟨zg HB⟩⟩
           ·rw [if_neg c47] at H
            exact absurd H (by simp)
          ·rw [if_neg c46] at H
           exact absurd H (by simp)
         ·rw [if_neg c45] at H
          have c45b0 : decide (x83_3 < (l0_1.length : Int)) = false := decide_eq_false c45
          clear c45
          simp only [Option.some.injEq, Prod.mk.injEq] at H
          obtain ⟨rfl, rfl⟩ := H
          go_wp2
          go_ret2
          exact ⟨_, zre, by (with_reducible repeat (first | apply Kd.R_alloc | apply Kd.R_drewN | apply Kd.R_drew)); exact HO_10.out, zg HB⟩

end Go.Proofs.Ytnpdmleglcbobaa.XFnExactRecordBytes
