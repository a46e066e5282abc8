-- A text of this session: written by its own program (wip/x/xprint.py), which runs the kit's printer with contracts of its own.
import Derived.Test.YtnpdmleglcbobaaXFnExactRecordBytesx0
import Derived.Test.YtnpdmleglcbobaaXFnExactRecordBytesx1
import Derived.Test.YtnpdmleglcbobaaXFnExactRecordBytesx5
import Derived.Test.YtnpdmleglcbobaaXFnExactRecordBytesx6
import Derived.Test.YtnpdmleglcbobaaXFnExactRecordBytesx9
import Derived.Test.YtnpdmleglcbobaaXFnExactRecordBytesx10
import Derived.Test.YtnpdmleglcbobaaXFnExactRecordBytesx11
namespace Go.Proofs.Ytnpdmleglcbobaa.XFnExactRecordBytes
open Go.RowKit Go.Proofs.YtnpdmleglcbobaaW.PrintWords Go.Proofs.YtnpdmleglcbobaaW.PrintLast Go.Proofs.YtnpdmleglcbobaaW.PrintMore
attribute [local go_sem] max2_int min2_int max_two min_two max_three min_three max_four min_four   -- for this text's walks alone
set_option linter.unusedVariables false
set_option linter.unusedSimpArgs false

/-! ### laws_FnExactRecordBytes: function 5 -/
mutual
def laws_FnExactRecordBytes.j0 : Nat → List Int → Int → List Int → Int → Bool → Int → Int → ByteArray → ByteArray → List (S97) → Int → Int → ByteArray → ByteArray → List (S66) → Option (Bool)
 | 0, _, _, _, _, _, _, _, _, _, _, _, _, _, _, _ => none
 | k + 1, x4, x5, x7, x8, x40, x419000, x419001, x419002, x419003, x419004, x439000, x439001, x439002, x439003, x439004 => if x40 = true then (some false) else ((laws_toRecord.f k x419000 x419001 x419002 x419003 x419004).bind fun bt444 => ((laws_eqRecord.f k x439000 x439001 x439002 x439003 x439004 bt444.1 bt444.2.1 bt444.2.2.1 bt444.2.2.2.1 bt444.2.2.2.2).bind fun t451 => (if t451 = true then ((laws_markRecord.f k x439000 x439001 x439002 x439003 x439004 1).bind fun bt452 => (if bt452.1 < 0 then (laws_FnExactRecordBytes.j1 k x4 x5 x7 true x419000 x419001 x419002 x419003 x419004) else ((laws_eqByteS.f k x7 x4).bind fun t454 => (if t454 = true then (laws_FnExactRecordBytes.j1 k x4 x5 x7 (x8 != x5) x419000 x419001 x419002 x419003 x419004) else (laws_FnExactRecordBytes.j1 k x4 x5 x7 true x419000 x419001 x419002 x419003 x419004))))) else (some false))))
def laws_FnExactRecordBytes.j1 : Nat → List Int → Int → List Int → Bool → Int → Int → ByteArray → ByteArray → List (S97) → Option (Bool)
 | 0, _, _, _, _, _, _, _, _, _ => none
 | k + 1, x4, x5, x7, x61, x419000, x419001, x419002, x419003, x419004 => if x61 = true then (some false) else ((laws_markByteS.f k x7 1).bind fun bt455 => ((laws_heldByteS.f k bt455.2 1).bind fun t457 => (if t457 < 0 then (some false) else (if t457 = bt455.1 then ((laws_toRecord.f k x419000 x419001 x419002 x419003 x419004).bind fun bt458 => ((impl_RecordBytes.f k bt458.1 bt458.2.1 bt458.2.2.1 bt458.2.2.2.1 bt458.2.2.2.2).bind fun bt465 => ((laws_eqByteS.f k bt465.1 x4).bind fun t469 => (if t469 = true then (laws_FnExactRecordBytes.j2 k bt455.2 bt455.1 (bt465.2 != x5)) else (laws_FnExactRecordBytes.j2 k bt455.2 bt455.1 true))))) else (some false)))))
def laws_FnExactRecordBytes.j2 : Nat → List Int → Int → Bool → Option (Bool)
 | 0, _, _, _ => none
 | k + 1, x7, x10, x87 => if x87 = true then (some false) else ((laws_heldByteS.f k x7 1).bind fun t470 => (if t470 < 0 then (some false) else (if t470 = x10 then (some true) else (some false))))
end
def laws_FnExactRecordBytes.f (k : Nat) (a0_0 : Int) (a0_1 : Int) (a0_2 : ByteArray) (a0_3 : ByteArray) (l0_4 : List (S97)) : Option (Bool) := (laws_szRecord.f k a0_0 a0_1 a0_2 a0_3 l0_4 1048576).bind fun t419 => (if t419 < 0 then (some true) else ((laws_toRecord.f k a0_0 a0_1 a0_2 a0_3 l0_4).bind fun bt420 => ((spec_RecordBytes.f k bt420.1 bt420.2.1 bt420.2.2.1 bt420.2.2.2.1 bt420.2.2.2.2).bind fun bt427 => ((laws_toRecord.f k a0_0 a0_1 a0_2 a0_3 l0_4).bind fun bt431 => ((impl_RecordBytes.f k bt431.1 bt431.2.1 bt431.2.2.1 bt431.2.2.2.1 bt431.2.2.2.2).bind fun bt439 => ((laws_eqByteS.f k bt439.1 bt427.1).bind fun t443 => (if t443 = true then (laws_FnExactRecordBytes.j0 k bt427.1 bt427.2 bt439.1 bt439.2 (bt439.2 != bt427.2) a0_0 a0_1 a0_2 a0_3 l0_4 bt431.1 bt431.2.1 bt431.2.2.1 bt431.2.2.2.1 bt431.2.2.2.2) else (laws_FnExactRecordBytes.j0 k bt427.1 bt427.2 bt439.1 bt439.2 true a0_0 a0_1 a0_2 a0_3 l0_4 bt431.1 bt431.2.1 bt431.2.2.1 bt431.2.2.2.1 bt431.2.2.2.2))))))))
theorem laws_FnExactRecordBytes.mono_l : ∀ k, (∀ y0 y1 y2 y3 y4 y5 y6 y7 y8 y9 y10 y11 y12 y13 y14, LeO (laws_FnExactRecordBytes.j0 k y0 y1 y2 y3 y4 y5 y6 y7 y8 y9 y10 y11 y12 y13 y14) (laws_FnExactRecordBytes.j0 (k + 1) y0 y1 y2 y3 y4 y5 y6 y7 y8 y9 y10 y11 y12 y13 y14)) ∧ (∀ y0 y1 y2 y3 y4 y5 y6 y7 y8, LeO (laws_FnExactRecordBytes.j1 k y0 y1 y2 y3 y4 y5 y6 y7 y8) (laws_FnExactRecordBytes.j1 (k + 1) y0 y1 y2 y3 y4 y5 y6 y7 y8)) ∧ (∀ y0 y1 y2, LeO (laws_FnExactRecordBytes.j2 k y0 y1 y2) (laws_FnExactRecordBytes.j2 (k + 1) y0 y1 y2))
 | 0 => ⟨fun _ _ _ _ _ _ _ _ _ _ _ _ _ _ _ r h => by simp [laws_FnExactRecordBytes.j0] at h, fun _ _ _ _ _ _ _ _ _ r h => by simp [laws_FnExactRecordBytes.j1] at h, fun _ _ _ r h => by simp [laws_FnExactRecordBytes.j2] at h⟩
 | k + 1 => by
  obtain ⟨ih0, ih1, ih2⟩ := laws_FnExactRecordBytes.mono_l k
  refine ⟨?_, ?_, ?_⟩
  ·intro y0 y1 y2 y3 y4 y5 y6 y7 y8 y9 y10 y11 y12 y13 y14
   unfold laws_FnExactRecordBytes.j0
   repeat' first
   | (with_reducible exact ih0 _ _ _ _ _ _ _ _ _ _ _ _ _ _ _)
   | (with_reducible exact ih1 _ _ _ _ _ _ _ _ _)
   | (with_reducible exact ih2 _ _ _)
   | (with_reducible exact impl_RecordBytes.mono _ _ _ _ _ _)
   | (with_reducible exact laws_eqByteS.mono _ _ _)
   | (with_reducible exact laws_eqRecord.mono _ _ _ _ _ _ _ _ _ _ _)
   | (with_reducible exact laws_heldByteS.mono _ _ _)
   | (with_reducible exact laws_markByteS.mono _ _ _)
   | (with_reducible exact laws_markRecord.mono _ _ _ _ _ _ _)
   | (with_reducible exact laws_szRecord.mono _ _ _ _ _ _ _)
   | (with_reducible exact laws_toRecord.mono _ _ _ _ _ _)
   | (with_reducible exact spec_RecordBytes.mono _ _ _ _ _ _)
   | (with_reducible exact LeO.refl _)
   | (with_reducible exact LeO.none _)
   | (with_reducible refine LeO.ite ?_ ?_)
   | (with_reducible refine LeO.bind ?_ (fun _ => ?_))
   | exact ih0 _ _ _ _ _ _ _ _ _ _ _ _ _ _ _
   | exact ih1 _ _ _ _ _ _ _ _ _
   | exact ih2 _ _ _
   | exact impl_RecordBytes.mono _ _ _ _ _ _
   | exact laws_eqByteS.mono _ _ _
   | exact laws_eqRecord.mono _ _ _ _ _ _ _ _ _ _ _
   | exact laws_heldByteS.mono _ _ _
   | exact laws_markByteS.mono _ _ _
   | exact laws_markRecord.mono _ _ _ _ _ _ _
   | exact laws_szRecord.mono _ _ _ _ _ _ _
   | exact laws_toRecord.mono _ _ _ _ _ _
   | exact spec_RecordBytes.mono _ _ _ _ _ _
   | exact LeO.none _
   | refine LeO.ite ?_ ?_
   | refine LeO.bind ?_ (fun _ => ?_)
  ·intro y0 y1 y2 y3 y4 y5 y6 y7 y8
   unfold laws_FnExactRecordBytes.j1
   repeat' first
   | (with_reducible exact ih0 _ _ _ _ _ _ _ _ _ _ _ _ _ _ _)
   | (with_reducible exact ih1 _ _ _ _ _ _ _ _ _)
   | (with_reducible exact ih2 _ _ _)
   | (with_reducible exact impl_RecordBytes.mono _ _ _ _ _ _)
   | (with_reducible exact laws_eqByteS.mono _ _ _)
   | (with_reducible exact laws_eqRecord.mono _ _ _ _ _ _ _ _ _ _ _)
   | (with_reducible exact laws_heldByteS.mono _ _ _)
   | (with_reducible exact laws_markByteS.mono _ _ _)
   | (with_reducible exact laws_markRecord.mono _ _ _ _ _ _ _)
   | (with_reducible exact laws_szRecord.mono _ _ _ _ _ _ _)
   | (with_reducible exact laws_toRecord.mono _ _ _ _ _ _)
   | (with_reducible exact spec_RecordBytes.mono _ _ _ _ _ _)
   | (with_reducible exact LeO.refl _)
   | (with_reducible exact LeO.none _)
   | (with_reducible refine LeO.ite ?_ ?_)
   | (with_reducible refine LeO.bind ?_ (fun _ => ?_))
   | exact ih0 _ _ _ _ _ _ _ _ _ _ _ _ _ _ _
   | exact ih1 _ _ _ _ _ _ _ _ _
   | exact ih2 _ _ _
   | exact impl_RecordBytes.mono _ _ _ _ _ _
   | exact laws_eqByteS.mono _ _ _
   | exact laws_eqRecord.mono _ _ _ _ _ _ _ _ _ _ _
   | exact laws_heldByteS.mono _ _ _
   | exact laws_markByteS.mono _ _ _
   | exact laws_markRecord.mono _ _ _ _ _ _ _
   | exact laws_szRecord.mono _ _ _ _ _ _ _
   | exact laws_toRecord.mono _ _ _ _ _ _
   | exact spec_RecordBytes.mono _ _ _ _ _ _
   | exact LeO.none _
   | refine LeO.ite ?_ ?_
   | refine LeO.bind ?_ (fun _ => ?_)
  ·intro y0 y1 y2
   unfold laws_FnExactRecordBytes.j2
   repeat' first
   | (with_reducible exact ih0 _ _ _ _ _ _ _ _ _ _ _ _ _ _ _)
   | (with_reducible exact ih1 _ _ _ _ _ _ _ _ _)
   | (with_reducible exact ih2 _ _ _)
   | (with_reducible exact impl_RecordBytes.mono _ _ _ _ _ _)
   | (with_reducible exact laws_eqByteS.mono _ _ _)
   | (with_reducible exact laws_eqRecord.mono _ _ _ _ _ _ _ _ _ _ _)
   | (with_reducible exact laws_heldByteS.mono _ _ _)
   | (with_reducible exact laws_markByteS.mono _ _ _)
   | (with_reducible exact laws_markRecord.mono _ _ _ _ _ _ _)
   | (with_reducible exact laws_szRecord.mono _ _ _ _ _ _ _)
   | (with_reducible exact laws_toRecord.mono _ _ _ _ _ _)
   | (with_reducible exact spec_RecordBytes.mono _ _ _ _ _ _)
   | (with_reducible exact LeO.refl _)
   | (with_reducible exact LeO.none _)
   | (with_reducible refine LeO.ite ?_ ?_)
   | (with_reducible refine LeO.bind ?_ (fun _ => ?_))
   | exact ih0 _ _ _ _ _ _ _ _ _ _ _ _ _ _ _
   | exact ih1 _ _ _ _ _ _ _ _ _
   | exact ih2 _ _ _
   | exact impl_RecordBytes.mono _ _ _ _ _ _
   | exact laws_eqByteS.mono _ _ _
   | exact laws_eqRecord.mono _ _ _ _ _ _ _ _ _ _ _
   | exact laws_heldByteS.mono _ _ _
   | exact laws_markByteS.mono _ _ _
   | exact laws_markRecord.mono _ _ _ _ _ _ _
   | exact laws_szRecord.mono _ _ _ _ _ _ _
   | exact laws_toRecord.mono _ _ _ _ _ _
   | exact spec_RecordBytes.mono _ _ _ _ _ _
   | exact LeO.none _
   | refine LeO.ite ?_ ?_
   | refine LeO.bind ?_ (fun _ => ?_)
theorem laws_FnExactRecordBytes.mono : ∀ a0 a1 a2 a3 a4 k, LeO (laws_FnExactRecordBytes.f k a0 a1 a2 a3 a4) (laws_FnExactRecordBytes.f (k + 1) a0 a1 a2 a3 a4) := by
 intro a0 a1 a2 a3 a4 k
 obtain ⟨ih0, ih1, ih2⟩ := laws_FnExactRecordBytes.mono_l k
 unfold laws_FnExactRecordBytes.f
 repeat' first
  | (with_reducible exact ih0 _ _ _ _ _ _ _ _ _ _ _ _ _ _ _)
  | (with_reducible exact ih1 _ _ _ _ _ _ _ _ _)
  | (with_reducible exact ih2 _ _ _)
  | (with_reducible exact impl_RecordBytes.mono _ _ _ _ _ _)
  | (with_reducible exact laws_eqByteS.mono _ _ _)
  | (with_reducible exact laws_eqRecord.mono _ _ _ _ _ _ _ _ _ _ _)
  | (with_reducible exact laws_heldByteS.mono _ _ _)
  | (with_reducible exact laws_markByteS.mono _ _ _)
  | (with_reducible exact laws_markRecord.mono _ _ _ _ _ _ _)
  | (with_reducible exact laws_szRecord.mono _ _ _ _ _ _ _)
  | (with_reducible exact laws_toRecord.mono _ _ _ _ _ _)
  | (with_reducible exact spec_RecordBytes.mono _ _ _ _ _ _)
  | (with_reducible exact LeO.refl _)
  | (with_reducible exact LeO.none _)
  | (with_reducible refine LeO.ite ?_ ?_)
  | (with_reducible refine LeO.bind ?_ (fun _ => ?_))
  | exact ih0 _ _ _ _ _ _ _ _ _ _ _ _ _ _ _
  | exact ih1 _ _ _ _ _ _ _ _ _
  | exact ih2 _ _ _
  | exact impl_RecordBytes.mono _ _ _ _ _ _
  | exact laws_eqByteS.mono _ _ _
  | exact laws_eqRecord.mono _ _ _ _ _ _ _ _ _ _ _
  | exact laws_heldByteS.mono _ _ _
  | exact laws_markByteS.mono _ _ _
  | exact laws_markRecord.mono _ _ _ _ _ _ _
  | exact laws_szRecord.mono _ _ _ _ _ _ _
  | exact laws_toRecord.mono _ _ _ _ _ _
  | exact spec_RecordBytes.mono _ _ _ _ _ _
  | exact LeO.none _
  | refine LeO.ite ?_ ?_
  | refine LeO.bind ?_ (fun _ => ?_)
set_option maxHeartbeats 8000000 in
set_option maxRecDepth 100000 in
theorem laws_FnExactRecordBytes.calls (k : Nat) (a0_0 : Int) (a0_1 : Int) (a0_2 : ByteArray) (a0_3 : ByteArray) (A0_4 : Option Addr) (c0_4 : Nat) (l0_4 : List (S97)) (r : Bool) (w : World) (hr0_4 : Kd.C k97 w A0_4 l0_4.length l0_4) (hc0_4 : l0_4.length ≤ c0_4) (h : laws_FnExactRecordBytes.f k a0_0 a0_1 a0_2 a0_3 l0_4 = some r) :
 Calls Try.prog 5 #[.agg #[.int .i64 a0_0, .int .i64 a0_1, .string a0_2, .string a0_3, .slice A0_4 l0_4.length c0_4]] w fun e w' => e = .returned (.bool r) ∧ Below w.heap.size w w' := by
 have hu43 := Try.underlying43
 have hu47 := Try.underlying47
 have HR0_4 := Aside0.mk hr0_4
 have HC0_4 := Aside0.mk hc0_4
 clear hr0_4 hc0_4
 have HB := Aside0.mk (Below.refl w.heap.size w)
 have H : ((laws_szRecord.f k a0_0 a0_1 a0_2 a0_3 l0_4 1048576).bind fun t419 => (if t419 < 0 then (some true) else ((laws_toRecord.f k a0_0 a0_1 a0_2 a0_3 l0_4).bind fun bt420 => ((spec_RecordBytes.f k bt420.1 bt420.2.1 bt420.2.2.1 bt420.2.2.2.1 bt420.2.2.2.2).bind fun bt427 => ((laws_toRecord.f k a0_0 a0_1 a0_2 a0_3 l0_4).bind fun bt431 => ((impl_RecordBytes.f k bt431.1 bt431.2.1 bt431.2.2.1 bt431.2.2.2.1 bt431.2.2.2.2).bind fun bt439 => ((laws_eqByteS.f k bt439.1 bt427.1).bind fun t443 => (if t443 = true then (laws_FnExactRecordBytes.j0 k bt427.1 bt427.2 bt439.1 bt439.2 (bt439.2 != bt427.2) a0_0 a0_1 a0_2 a0_3 l0_4 bt431.1 bt431.2.1 bt431.2.2.1 bt431.2.2.2.1 bt431.2.2.2.2) else (laws_FnExactRecordBytes.j0 k bt427.1 bt427.2 bt439.1 bt439.2 true a0_0 a0_1 a0_2 a0_3 l0_4 bt431.1 bt431.2.1 bt431.2.2.1 bt431.2.2.2.1 bt431.2.2.2.2))))))))) = some r := h
 clear h
 replace H := Option.bind_eq_some_iff.mp H
 obtain ⟨t419, A20, H⟩ := H
 replace H : (if t419 < 0 then (some true) else ((laws_toRecord.f k a0_0 a0_1 a0_2 a0_3 l0_4).bind fun bt420 => ((spec_RecordBytes.f k bt420.1 bt420.2.1 bt420.2.2.1 bt420.2.2.2.1 bt420.2.2.2.2).bind fun bt427 => ((laws_toRecord.f k a0_0 a0_1 a0_2 a0_3 l0_4).bind fun bt431 => ((impl_RecordBytes.f k bt431.1 bt431.2.1 bt431.2.2.1 bt431.2.2.2.1 bt431.2.2.2.2).bind fun bt439 => ((laws_eqByteS.f k bt439.1 bt427.1).bind fun t443 => (if t443 = true then (laws_FnExactRecordBytes.j0 k bt427.1 bt427.2 bt439.1 bt439.2 (bt439.2 != bt427.2) a0_0 a0_1 a0_2 a0_3 l0_4 bt431.1 bt431.2.1 bt431.2.2.1 bt431.2.2.2.1 bt431.2.2.2.2) else (laws_FnExactRecordBytes.j0 k bt427.1 bt427.2 bt439.1 bt439.2 true a0_0 a0_1 a0_2 a0_3 l0_4 bt431.1 bt431.2.1 bt431.2.2.1 bt431.2.2.2.1 bt431.2.2.2.2)))))))) = some r := H
 have A2 := Aside0.mk A20
 clear A20
 by_cases c3 : t419 < 0
 ·rw [if_pos c3] at H
  have c3b0 : decide (t419 < 0) = true := decide_eq_true c3
  clear c3
  obtain rfl := Option.some.inj H
  go_enter Try.func5, Try.ntmps5
  go_wp2_with (first | ((with_reducible refine gate_dst (N := 1) rfl ?_); refine box_event ?hg (N := 1) ?hd (cs := #[.int .i64 a0_0, .int .i64 a0_1, .string a0_2, .string a0_3, .slice A0_4 l0_4.length c0_4]) (t := 43) ?hr ?_; (case hd => rfl); (case hg => rfl); (case hr => first | (go_simp; done) | (go_simp; rfl)); intro gb418 hg w4 hbox hb; have n0_ := Aside0.mk (below_step (zh HB) hb); have n1_ := Aside0.mk (hbox); have n2_ := Aside0.mk ((by rw [hg]; exact (below_size (zh HB)) : w.heap.size ≤ gb418)); have n3_ := Aside0.mk ((by rw [hg]; exact (below_size (zh HB)) : w.heap.size ≤ gb418)); clear HB; have HB := n0_; have BK418 := n1_; have GW418 := n2_; have GE418 := n3_; clear n0_ n1_ n2_ n3_; clear hb hbox hg; have hcz5_0 : w4.cell? ⟨gb418, 0, none⟩ = some (.int .i64 a0_0) := (blk_cell BK418.out 0).trans rfl; have hcz5_1 : w4.cell? ⟨gb418, 1, none⟩ = some (.int .i64 a0_1) := (blk_cell BK418.out 1).trans rfl; have hcz5_2 : w4.cell? ⟨gb418, 2, none⟩ = some (.string a0_2) := (blk_cell BK418.out 2).trans rfl; have hcz5_3 : w4.cell? ⟨gb418, 3, none⟩ = some (.string a0_3) := (blk_cell BK418.out 3).trans rfl; have hcz5_4 : w4.cell? ⟨gb418, 4, none⟩ = some (.slice A0_4 l0_4.length c0_4) := (blk_cell BK418.out 4).trans rfl; have hfz5_0 := blk_frozen BK418.out 0; have hfz5_1 := blk_frozen BK418.out 1; have hfz5_2 := blk_frozen BK418.out 2; have hfz5_3 := blk_frozen BK418.out 3; have hfz5_4 := blk_frozen BK418.out 4) | ((with_reducible refine gate_callee (f := 21) rfl ?_); refine goesL_ (some 16) rfl rfl Try.func21 (by kernel_rfl) rfl #[.agg #[.int .i64 a0_0, .int .i64 a0_1, .string a0_2, .string a0_3, .slice A0_4 l0_4.length c0_4], .int .i64 1048576] rfl zar ?_; (with_reducible refine (laws_szRecord.calls k a0_0 a0_1 a0_2 a0_3 _ _ l0_4 1048576 t419 _ ?side1 ?side2 A2.out).mono ?_); (case side1 => repeat (first | exact (Kd.C_below HR0_4.out HB.out) | (with_reducible refine Kd.C_alloc ?_ _) | (with_reducible refine Kd.C_drewN ?_ _) | (with_reducible refine Kd.C_drew ?_))); (case side2 => exact HC0_4.out); rintro e w6 ⟨rfl, hb⟩; refine ⟨_, rfl, ?_⟩; have n0_ := Aside0.mk (blk_below (zb BK418) hb); have n1_ := Aside0.mk (below_step (zg HB) hb); clear BK418; clear HB; have BK418 := n0_; have HB := n1_; clear n0_ n1_; (try clear hb); (try clear hb2); (try clear hk); (try clear hi)))
  go_ret
  exact ⟨zre, zg HB⟩
 ·rw [if_neg c3] at H
  have c3b0 : decide (t419 < 0) = false := decide_eq_false c3
  clear c3
  replace H := Option.bind_eq_some_iff.mp H
  obtain ⟨⟨t420, t421, t422, t423, t424⟩, A70, H⟩ := H
  replace H : ((spec_RecordBytes.f k t420 t421 t422 t423 t424).bind fun bt427 => ((laws_toRecord.f k a0_0 a0_1 a0_2 a0_3 l0_4).bind fun bt431 => ((impl_RecordBytes.f k bt431.1 bt431.2.1 bt431.2.2.1 bt431.2.2.2.1 bt431.2.2.2.2).bind fun bt439 => ((laws_eqByteS.f k bt439.1 bt427.1).bind fun t443 => (if t443 = true then (laws_FnExactRecordBytes.j0 k bt427.1 bt427.2 bt439.1 bt439.2 (bt439.2 != bt427.2) a0_0 a0_1 a0_2 a0_3 l0_4 bt431.1 bt431.2.1 bt431.2.2.1 bt431.2.2.2.1 bt431.2.2.2.2) else (laws_FnExactRecordBytes.j0 k bt427.1 bt427.2 bt439.1 bt439.2 true a0_0 a0_1 a0_2 a0_3 l0_4 bt431.1 bt431.2.1 bt431.2.2.1 bt431.2.2.2.1 bt431.2.2.2.2)))))) = some r := H
  have A7 := Aside0.mk A70
  clear A70
  replace H := Option.bind_eq_some_iff.mp H
  obtain ⟨⟨t427, t430⟩, A80, H⟩ := H
  replace H : ((laws_toRecord.f k a0_0 a0_1 a0_2 a0_3 l0_4).bind fun bt431 => ((impl_RecordBytes.f k bt431.1 bt431.2.1 bt431.2.2.1 bt431.2.2.2.1 bt431.2.2.2.2).bind fun bt439 => ((laws_eqByteS.f k bt439.1 t427).bind fun t443 => (if t443 = true then (laws_FnExactRecordBytes.j0 k t427 t430 bt439.1 bt439.2 (bt439.2 != t430) a0_0 a0_1 a0_2 a0_3 l0_4 bt431.1 bt431.2.1 bt431.2.2.1 bt431.2.2.2.1 bt431.2.2.2.2) else (laws_FnExactRecordBytes.j0 k t427 t430 bt439.1 bt439.2 true a0_0 a0_1 a0_2 a0_3 l0_4 bt431.1 bt431.2.1 bt431.2.2.1 bt431.2.2.2.1 bt431.2.2.2.2))))) = some r := H
  have A8 := Aside0.mk A80
  clear A80
  replace H := Option.bind_eq_some_iff.mp H
  obtain ⟨⟨t431, t432, t433, t434, t435⟩, A90, H⟩ := H
  replace H : ((impl_RecordBytes.f k t431 t432 t433 t434 t435).bind fun bt439 => ((laws_eqByteS.f k bt439.1 t427).bind fun t443 => (if t443 = true then (laws_FnExactRecordBytes.j0 k t427 t430 bt439.1 bt439.2 (bt439.2 != t430) a0_0 a0_1 a0_2 a0_3 l0_4 t431 t432 t433 t434 t435) else (laws_FnExactRecordBytes.j0 k t427 t430 bt439.1 bt439.2 true a0_0 a0_1 a0_2 a0_3 l0_4 t431 t432 t433 t434 t435)))) = some r := H
  have A9 := Aside0.mk A90
  clear A90
  replace H := Option.bind_eq_some_iff.mp H
  obtain ⟨⟨t439, t442⟩, A100, H⟩ := H
  replace H : ((laws_eqByteS.f k t439 t427).bind fun t443 => (if t443 = true then (laws_FnExactRecordBytes.j0 k t427 t430 t439 t442 (t442 != t430) a0_0 a0_1 a0_2 a0_3 l0_4 t431 t432 t433 t434 t435) else (laws_FnExactRecordBytes.j0 k t427 t430 t439 t442 true a0_0 a0_1 a0_2 a0_3 l0_4 t431 t432 t433 t434 t435))) = some r := H
  have A10 := Aside0.mk A100
  clear A100
  have HC11 := Aside0.mk H
  clear H
  go_enter Try.func5, Try.ntmps5
  go_upto_region 8 with (first | ((with_reducible refine gate_dst (N := 1) rfl ?_); refine box_event ?hg (N := 1) ?hd (cs := #[.int .i64 a0_0, .int .i64 a0_1, .string a0_2, .string a0_3, .slice A0_4 l0_4.length c0_4]) (t := 43) ?hr ?_; (case hd => rfl); (case hg => rfl); (case hr => first | (go_simp; done) | (go_simp; rfl)); intro gb418 hg w12 hbox hb; have n0_ := Aside0.mk (below_step (zh HB) hb); have n1_ := Aside0.mk (hbox); have n2_ := Aside0.mk ((by rw [hg]; exact (below_size (zh HB)) : w.heap.size ≤ gb418)); have n3_ := Aside0.mk ((by rw [hg]; exact (below_size (zh HB)) : w.heap.size ≤ gb418)); clear HB; have HB := n0_; have BK418 := n1_; have GW418 := n2_; have GE418 := n3_; clear n0_ n1_ n2_ n3_; clear hb hbox hg; have hcz13_0 : w12.cell? ⟨gb418, 0, none⟩ = some (.int .i64 a0_0) := (blk_cell BK418.out 0).trans rfl; have hcz13_1 : w12.cell? ⟨gb418, 1, none⟩ = some (.int .i64 a0_1) := (blk_cell BK418.out 1).trans rfl; have hcz13_2 : w12.cell? ⟨gb418, 2, none⟩ = some (.string a0_2) := (blk_cell BK418.out 2).trans rfl; have hcz13_3 : w12.cell? ⟨gb418, 3, none⟩ = some (.string a0_3) := (blk_cell BK418.out 3).trans rfl; have hcz13_4 : w12.cell? ⟨gb418, 4, none⟩ = some (.slice A0_4 l0_4.length c0_4) := (blk_cell BK418.out 4).trans rfl; have hfz13_0 := blk_frozen BK418.out 0; have hfz13_1 := blk_frozen BK418.out 1; have hfz13_2 := blk_frozen BK418.out 2; have hfz13_3 := blk_frozen BK418.out 3; have hfz13_4 := blk_frozen BK418.out 4) | ((with_reducible refine gate_callee (f := 21) rfl ?_); refine goesL_ (some 16) rfl rfl Try.func21 (by kernel_rfl) rfl #[.agg #[.int .i64 a0_0, .int .i64 a0_1, .string a0_2, .string a0_3, .slice A0_4 l0_4.length c0_4], .int .i64 1048576] rfl zar ?_; (with_reducible refine (laws_szRecord.calls k a0_0 a0_1 a0_2 a0_3 _ _ l0_4 1048576 t419 _ ?side1 ?side2 A2.out).mono ?_); (case side1 => repeat (first | exact (Kd.C_below HR0_4.out HB.out) | (with_reducible refine Kd.C_alloc ?_ _) | (with_reducible refine Kd.C_drewN ?_ _) | (with_reducible refine Kd.C_drew ?_))); (case side2 => exact HC0_4.out); rintro e w14 ⟨rfl, hb⟩; refine ⟨_, rfl, ?_⟩; have n0_ := Aside0.mk (blk_below (zb BK418) hb); have n1_ := Aside0.mk (below_step (zg HB) hb); clear BK418; clear HB; have BK418 := n0_; have HB := n1_; clear n0_ n1_; (try clear hb); (try clear hb2); (try clear hk); (try clear hi); have hcz15_0 : w14.cell? ⟨gb418, 0, none⟩ = some (.int .i64 a0_0) := (blk_cell BK418.out 0).trans rfl; have hcz15_1 : w14.cell? ⟨gb418, 1, none⟩ = some (.int .i64 a0_1) := (blk_cell BK418.out 1).trans rfl; have hcz15_2 : w14.cell? ⟨gb418, 2, none⟩ = some (.string a0_2) := (blk_cell BK418.out 2).trans rfl; have hcz15_3 : w14.cell? ⟨gb418, 3, none⟩ = some (.string a0_3) := (blk_cell BK418.out 3).trans rfl; have hcz15_4 : w14.cell? ⟨gb418, 4, none⟩ = some (.slice A0_4 l0_4.length c0_4) := (blk_cell BK418.out 4).trans rfl; have hfz15_0 := blk_frozen BK418.out 0; have hfz15_1 := blk_frozen BK418.out 1; have hfz15_2 := blk_frozen BK418.out 2; have hfz15_3 := blk_frozen BK418.out 3; have hfz15_4 := blk_frozen BK418.out 4) | ((with_reducible refine gate_callee (f := 23) rfl ?_); refine goesL_ (some 21) rfl rfl Try.func23 (by kernel_rfl) rfl #[.agg #[.int .i64 a0_0, .int .i64 a0_1, .string a0_2, .string a0_3, .slice A0_4 l0_4.length c0_4]] rfl zar ?_; (with_reducible refine (laws_toRecord.calls k a0_0 a0_1 a0_2 a0_3 _ _ l0_4 t420 t421 t422 t423 t424 _ ?side1 ?side2 A7.out).mono ?_); (case side1 => repeat (first | exact (Kd.C_below HR0_4.out HB.out) | (with_reducible refine Kd.C_alloc ?_ _) | (with_reducible refine Kd.C_drewN ?_ _) | (with_reducible refine Kd.C_drew ?_))); (case side2 => exact HC0_4.out); rintro e w16 ⟨v425, rfl, ho0, hb⟩; refine ⟨_, rfl, ?_⟩; have n0_ := Aside0.mk (Kd.S_lower ho0 (below_size (zg HB))); have n1_ := Aside0.mk (blk_below (zb BK418) hb); have n2_ := Aside0.mk (below_step (zg HB) hb); clear BK418; clear HB; have HO426 := n0_; have BK418 := n1_; have HB := n2_; clear n0_ n1_ n2_; (try clear hb); (try clear hb2); (try clear hk); (try clear hi); (try clear ho0); obtain ⟨Ao17, co17, eo17⟩ := Kd.S_slice HO426.out; subst eo17) | ((with_reducible refine gate_callee (f := 22) rfl ?_); refine goesL_ (some 22) rfl rfl Try.func22 (by kernel_rfl) rfl #[.agg #[.int .i64 t420, .int .i64 t421, .string t422, .string t423, .slice Ao17 t424.length co17]] rfl zar ?_; (with_reducible refine (spec_RecordBytes.calls k t420 t421 t422 t423 _ _ t424 t427 t430 _ ?side1 ?side2 A8.out).mono ?_); (case side1 => repeat (first | exact (Kd.S_reads' HO426.out).2.2 | (with_reducible refine Kd.C_alloc ?_ _) | (with_reducible refine Kd.C_drewN ?_ _) | (with_reducible refine Kd.C_drew ?_))); (case side2 => exact (Kd.S_reads' HO426.out).2.1); rintro e w18 ⟨v428, rfl, ho0, hb⟩; refine ⟨_, rfl, ?_⟩; have n0_ := Aside0.mk (Kd.S_below (zs HO426) hb); have n1_ := Aside0.mk (Kd.R_lower ho0 (below_size (zg HB))); have n2_ := Aside0.mk (blk_below (zb BK418) hb); have n3_ := Aside0.mk (below_step (zg HB) hb); clear HO426; clear BK418; clear HB; have HO426 := n0_; have HO429 := n1_; have BK418 := n2_; have HB := n3_; clear n0_ n1_ n2_ n3_; (try clear hb); (try clear hb2); (try clear hk); (try clear hi); (try clear ho0); have hcz19_0 : w18.cell? ⟨gb418, 0, none⟩ = some (.int .i64 a0_0) := (blk_cell BK418.out 0).trans rfl; have hcz19_1 : w18.cell? ⟨gb418, 1, none⟩ = some (.int .i64 a0_1) := (blk_cell BK418.out 1).trans rfl; have hcz19_2 : w18.cell? ⟨gb418, 2, none⟩ = some (.string a0_2) := (blk_cell BK418.out 2).trans rfl; have hcz19_3 : w18.cell? ⟨gb418, 3, none⟩ = some (.string a0_3) := (blk_cell BK418.out 3).trans rfl; have hcz19_4 : w18.cell? ⟨gb418, 4, none⟩ = some (.slice A0_4 l0_4.length c0_4) := (blk_cell BK418.out 4).trans rfl; have hfz19_0 := blk_frozen BK418.out 0; have hfz19_1 := blk_frozen BK418.out 1; have hfz19_2 := blk_frozen BK418.out 2; have hfz19_3 := blk_frozen BK418.out 3; have hfz19_4 := blk_frozen BK418.out 4) | ((with_reducible refine gate_callee (f := 23) rfl ?_); refine goesL_ (some 26) rfl rfl Try.func23 (by kernel_rfl) rfl #[.agg #[.int .i64 a0_0, .int .i64 a0_1, .string a0_2, .string a0_3, .slice A0_4 l0_4.length c0_4]] rfl zar ?_; (with_reducible refine (laws_toRecord.calls k a0_0 a0_1 a0_2 a0_3 _ _ l0_4 t431 t432 t433 t434 t435 _ ?side1 ?side2 A9.out).mono ?_); (case side1 => repeat (first | exact (Kd.C_below HR0_4.out HB.out) | (with_reducible refine Kd.C_alloc ?_ _) | (with_reducible refine Kd.C_drewN ?_ _) | (with_reducible refine Kd.C_drew ?_))); (case side2 => exact HC0_4.out); rintro e w20 ⟨v436, rfl, ho0, hb⟩; refine ⟨_, rfl, ?_⟩; have n0_ := Aside0.mk (Kd.S_elder' (zs HO426) (Kd.S_base ho0) hb); have n1_ := Aside0.mk (Kd.R_below (zr HO429) hb); have n2_ := Aside0.mk (Kd.S_lower (Kd.S_new' ho0 (Kd.S_lt (zs HO426))) (below_size (zg HB))); have n3_ := Aside0.mk (blk_below (zb BK418) hb); have n4_ := Aside0.mk (below_step (zg HB) hb); clear HO426; clear HO429; clear BK418; clear HB; have HO426 := n0_; have HO429 := n1_; have HO437 := n2_; have BK418 := n3_; have HB := n4_; clear n0_ n1_ n2_ n3_ n4_; (try clear hb); (try clear hb2); (try clear hk); (try clear hi); (try clear ho0)) | ((with_reducible refine gate_dst (N := 6) rfl ?_); refine box_event ?hg (N := 6) ?hd (cs := #[.int .i64 0, .int .i64 0, .string (⟨#[]⟩ : ByteArray), .string (⟨#[]⟩ : ByteArray), .slice none 0 0]) (t := 47) ?hr ?_; (case hd => rfl); (case hg => rfl); (case hr => first | (go_simp; done) | (go_simp; rfl)); intro gb438 hg w21 hbox hb; have n0_ := Aside0.mk (Kd.S_below (zs HO426) hb); have n1_ := Aside0.mk (Kd.R_below (zr HO429) hb); have n2_ := Aside0.mk (Kd.S_below (zs HO437) hb); have n3_ := Aside0.mk (blk_below (zb BK418) hb); have n4_ := Aside0.mk (below_step (zg HB) hb); have n5_ := Aside0.mk (hbox); have n6_ := Aside0.mk ((by rw [hg]; exact (below_size (zg HB)) : w.heap.size ≤ gb438)); have n7_ := Aside0.mk ((by rw [hg]; exact (below_size (zg HB)) : w.heap.size ≤ gb438)); have n8_ := Aside0.mk ((by rw [hg]; exact Nat.ne_of_lt (blk_lt (zb BK418)) : gb418 ≠ gb438)); have n9_ := Aside0.mk ((by rw [hg]; exact Nat.ne_of_gt (blk_lt (zb BK418)) : gb438 ≠ gb418)); clear HO426; clear HO429; clear HO437; clear BK418; clear HB; have HO426 := n0_; have HO429 := n1_; have HO437 := n2_; have BK418 := n3_; have HB := n4_; have BK438 := n5_; have GW438 := n6_; have GE438 := n7_; have NB418_438 := n8_; have NB438_418 := n9_; clear n0_ n1_ n2_ n3_ n4_ n5_ n6_ n7_ n8_ n9_; clear hb hbox hg; have hnb22 := NB438_418.out; have hnc22 := NB418_438.out; have hcz23_0 : w21.cell? ⟨gb438, 0, none⟩ = some (.int .i64 0) := (blk_cell BK438.out 0).trans rfl; have hcz23_1 : w21.cell? ⟨gb438, 1, none⟩ = some (.int .i64 0) := (blk_cell BK438.out 1).trans rfl; have hcz23_2 : w21.cell? ⟨gb438, 2, none⟩ = some (.string (⟨#[]⟩ : ByteArray)) := (blk_cell BK438.out 2).trans rfl; have hcz23_3 : w21.cell? ⟨gb438, 3, none⟩ = some (.string (⟨#[]⟩ : ByteArray)) := (blk_cell BK438.out 3).trans rfl; have hcz23_4 : w21.cell? ⟨gb438, 4, none⟩ = some (.slice none 0 0) := (blk_cell BK438.out 4).trans rfl; have hfz23_0 := blk_frozen BK438.out 0; have hfz23_1 := blk_frozen BK438.out 1; have hfz23_2 := blk_frozen BK438.out 2; have hfz23_3 := blk_frozen BK438.out 3; have hfz23_4 := blk_frozen BK438.out 4; obtain ⟨Ao24, co24, eo24⟩ := Kd.S_slice HO437.out; subst eo24) | ((with_reducible refine gate_callee (f := 24) rfl ?_); refine goesL_ (some 29) rfl rfl Try.func24 (by kernel_rfl) rfl #[.agg #[.int .i64 t431, .int .i64 t432, .string t433, .string t434, .slice Ao24 t435.length co24]] rfl zar ?_; (with_reducible refine (impl_RecordBytes.calls k t431 t432 t433 t434 _ _ t435 t439 t442 _ ?side1 ?side2 A10.out).mono ?_); (case side1 => refine (Kd.S_reads' (e := 66) (base := w.heap.size) (ok := fun k_ => (True ∧ some k_ ≠ (.slice Ao17 t424.length co17 : Value).ownBlock)) (n := t435.length) (c := co24) ?_).2.2; exact (by (with_reducible repeat (first | apply Kd.S_alloc | apply Kd.S_drewN | apply Kd.S_drew)); exact (Kd.S_mono (Kd.S_far (p := ⟨gb438, 4, none⟩) (Kd.S_far (p := ⟨gb438, 3, none⟩) (Kd.S_far (p := ⟨gb438, 2, none⟩) (Kd.S_far (p := ⟨gb438, 1, none⟩) (Kd.S_far (p := ⟨gb438, 0, none⟩) (Kd.S_types HO437.out BK438.out (by decide)) (fun _ hk => hk.2) (.int .i64 t431)) (fun _ hk => hk.2) (.int .i64 t432)) (fun _ hk => hk.2) (.string t433)) (fun _ hk => hk.2) (.string t434)) (fun _ hk => hk.2) (.slice Ao24 t435.length co24)) (fun _ h_ => h_.1)))); (case side2 => exact (Kd.S_reads' HO437.out).2.1); rintro e w25 ⟨v440, rfl, ho0, hb⟩; refine ⟨_, rfl, ?_⟩; have n0_ := Aside0.mk (Kd.S_below (by (with_reducible repeat (first | apply Kd.S_alloc | apply Kd.S_drewN | apply Kd.S_drew)); exact (Kd.S_mono (Kd.S_far (p := ⟨gb438, 4, none⟩) (Kd.S_far (p := ⟨gb438, 3, none⟩) (Kd.S_far (p := ⟨gb438, 2, none⟩) (Kd.S_far (p := ⟨gb438, 1, none⟩) (Kd.S_far (p := ⟨gb438, 0, none⟩) (Kd.S_types HO426.out BK438.out (by decide)) (fun _ hk => hk.2) (.int .i64 t431)) (fun _ hk => hk.2) (.int .i64 t432)) (fun _ hk => hk.2) (.string t433)) (fun _ hk => hk.2) (.string t434)) (fun _ hk => hk.2) (.slice Ao24 t435.length co24)) (fun _ h_ => h_.1))) hb); have n1_ := Aside0.mk (Kd.R_elder' (by (with_reducible repeat (first | apply Kd.R_alloc | apply Kd.R_drewN | apply Kd.R_drew)); exact (Kd.R_mono (Kd.R_far (p := ⟨gb438, 4, none⟩) (Kd.R_far (p := ⟨gb438, 3, none⟩) (Kd.R_far (p := ⟨gb438, 2, none⟩) (Kd.R_far (p := ⟨gb438, 1, none⟩) (Kd.R_far (p := ⟨gb438, 0, none⟩) (Kd.R_types HO429.out BK438.out (by decide)) (fun _ hk => hk.2) (.int .i64 t431)) (fun _ hk => hk.2) (.int .i64 t432)) (fun _ hk => hk.2) (.string t433)) (fun _ hk => hk.2) (.string t434)) (fun _ hk => hk.2) (.slice Ao24 t435.length co24)) (fun _ h_ => h_.1))) (Kd.R_base ho0) hb); have n2_ := Aside0.mk (Kd.S_below (by (with_reducible repeat (first | apply Kd.S_alloc | apply Kd.S_drewN | apply Kd.S_drew)); exact (Kd.S_mono (Kd.S_far (p := ⟨gb438, 4, none⟩) (Kd.S_far (p := ⟨gb438, 3, none⟩) (Kd.S_far (p := ⟨gb438, 2, none⟩) (Kd.S_far (p := ⟨gb438, 1, none⟩) (Kd.S_far (p := ⟨gb438, 0, none⟩) (Kd.S_types HO437.out BK438.out (by decide)) (fun _ hk => hk.2) (.int .i64 t431)) (fun _ hk => hk.2) (.int .i64 t432)) (fun _ hk => hk.2) (.string t433)) (fun _ hk => hk.2) (.string t434)) (fun _ hk => hk.2) (.slice Ao24 t435.length co24)) (fun _ h_ => h_.1))) hb); have n3_ := Aside0.mk (Kd.R_lower (Kd.R_new' ho0 (Kd.R_lt (by (with_reducible repeat (first | apply Kd.R_alloc | apply Kd.R_drewN | apply Kd.R_drew)); exact (Kd.R_mono (Kd.R_far (p := ⟨gb438, 4, none⟩) (Kd.R_far (p := ⟨gb438, 3, none⟩) (Kd.R_far (p := ⟨gb438, 2, none⟩) (Kd.R_far (p := ⟨gb438, 1, none⟩) (Kd.R_far (p := ⟨gb438, 0, none⟩) (Kd.R_types HO429.out BK438.out (by decide)) (fun _ hk => hk.2) (.int .i64 t431)) (fun _ hk => hk.2) (.int .i64 t432)) (fun _ hk => hk.2) (.string t433)) (fun _ hk => hk.2) (.string t434)) (fun _ hk => hk.2) (.slice Ao24 t435.length co24)) (fun _ h_ => h_.1))))) (below_size (zg HB))); have n4_ := Aside0.mk (blk_below (g := gb418) (o := .cells #[.int .i64 a0_0, .int .i64 a0_1, .string a0_2, .string a0_3, .slice A0_4 l0_4.length c0_4] 43 (0, 0)) (by (with_reducible repeat (first | refine blk_drewN ?_ _ | refine blk_drew ?_ | refine blk_alloc ?_ _)); refine blk_far ?_ NB418_438.out _; (with_reducible repeat (first | refine blk_drewN ?_ _ | refine blk_drew ?_ | refine blk_alloc ?_ _)); refine blk_far ?_ NB418_438.out _; (with_reducible repeat (first | refine blk_drewN ?_ _ | refine blk_drew ?_ | refine blk_alloc ?_ _)); refine blk_far ?_ NB418_438.out _; (with_reducible repeat (first | refine blk_drewN ?_ _ | refine blk_drew ?_ | refine blk_alloc ?_ _)); refine blk_far ?_ NB418_438.out _; (with_reducible repeat (first | refine blk_drewN ?_ _ | refine blk_drew ?_ | refine blk_alloc ?_ _)); refine blk_far ?_ NB418_438.out _; (with_reducible repeat (first | refine blk_drewN ?_ _ | refine blk_drew ?_ | refine blk_alloc ?_ _)); exact BK418.out) hb); have n5_ := Aside0.mk (blk_below (g := gb438) (o := .cells #[.int .i64 t431, .int .i64 t432, .string t433, .string t434, .slice Ao24 t435.length co24] 47 (0, 0)) (by (with_reducible repeat (first | refine blk_drewN ?_ _ | refine blk_drew ?_ | refine blk_alloc ?_ _)); refine blk_put (cs := #[.int .i64 t431, .int .i64 t432, .string t433, .string t434, .slice none 0 0]) ?_ 4 _ rfl; (with_reducible repeat (first | refine blk_drewN ?_ _ | refine blk_drew ?_ | refine blk_alloc ?_ _)); refine blk_put (cs := #[.int .i64 t431, .int .i64 t432, .string t433, .string (⟨#[]⟩ : ByteArray), .slice none 0 0]) ?_ 3 _ rfl; (with_reducible repeat (first | refine blk_drewN ?_ _ | refine blk_drew ?_ | refine blk_alloc ?_ _)); refine blk_put (cs := #[.int .i64 t431, .int .i64 t432, .string (⟨#[]⟩ : ByteArray), .string (⟨#[]⟩ : ByteArray), .slice none 0 0]) ?_ 2 _ rfl; (with_reducible repeat (first | refine blk_drewN ?_ _ | refine blk_drew ?_ | refine blk_alloc ?_ _)); refine blk_put (cs := #[.int .i64 t431, .int .i64 0, .string (⟨#[]⟩ : ByteArray), .string (⟨#[]⟩ : ByteArray), .slice none 0 0]) ?_ 1 _ rfl; (with_reducible repeat (first | refine blk_drewN ?_ _ | refine blk_drew ?_ | refine blk_alloc ?_ _)); refine blk_put (cs := #[.int .i64 0, .int .i64 0, .string (⟨#[]⟩ : ByteArray), .string (⟨#[]⟩ : ByteArray), .slice none 0 0]) ?_ 0 _ rfl; (with_reducible repeat (first | refine blk_drewN ?_ _ | refine blk_drew ?_ | refine blk_alloc ?_ _)); exact BK438.out) hb); have n6_ := Aside0.mk (below_step (zg HB) hb); clear HO426; clear HO429; clear HO437; clear BK418; clear BK438; clear HB; have HO426 := n0_; have HO429 := n1_; have HO437 := n2_; have HO441 := n3_; have BK418 := n4_; have BK438 := n5_; have HB := n6_; clear n0_ n1_ n2_ n3_ n4_ n5_ n6_; (try clear hb); (try clear hb2); (try clear hk); (try clear hi); (try clear ho0)))
  (try simp only [Act.put, List.setIfInBounds_toArray, List.set_cons_zero, List.set_cons_succ])
  go_cut [40] (fun v40 wc => ∃ (kq : Nat) (x40_10 : Bool), v40 = .bool x40_10 ∧ Aside0 (laws_FnExactRecordBytes.j0 kq t427 t430 t439 t442 x40_10 a0_0 a0_1 a0_2 a0_3 l0_4 t431 t432 t433 t434 t435 = some r) ∧ Aside0 (kq ≤ k) ∧ Aside0 (Kd.R (Kd.int .u8) 5 wc w.heap.size (fun k_ => some k_ ≠ (v440 : Value).ownBlock) v428 t427) ∧ Aside0 (Kd.R (Kd.int .u8) 5 wc w.heap.size (fun k_ => some k_ ≠ (v428 : Value).ownBlock) v440 t439) ∧ Aside0 (Kd.S k66 66 wc w.heap.size (fun _ => True) (.slice Ao24 t435.length co24) t435) ∧ Aside0 (wc.heap[gb418]? = some (.cells #[.int .i64 a0_0, .int .i64 a0_1, .string a0_2, .string a0_3, (.slice A0_4 l0_4.length c0_4)] 43 (0, 0))) ∧ Aside0 (wc.heap[gb438]? = some (.cells #[.int .i64 t431, .int .i64 t432, .string t433, .string t434, (.slice Ao24 t435.length co24)] 47 (0, 0))) ∧ Aside0 (Below w.heap.size w wc))
  case first =>
   have H := HC11.out
   clear HC11
   replace H := Option.bind_eq_some_iff.mp H
   obtain ⟨t443, A260, H⟩ := H
   replace H : (if t443 = true then (laws_FnExactRecordBytes.j0 k t427 t430 t439 t442 (t442 != t430) a0_0 a0_1 a0_2 a0_3 l0_4 t431 t432 t433 t434 t435) else (laws_FnExactRecordBytes.j0 k t427 t430 t439 t442 true a0_0 a0_1 a0_2 a0_3 l0_4 t431 t432 t433 t434 t435)) = some r := H
   have A26 := Aside0.mk A260
   clear A260
   by_cases c27 : t443 = true
   ·subst c27
    have H1 : (laws_FnExactRecordBytes.j0 k t427 t430 t439 t442 (t442 != t430) a0_0 a0_1 a0_2 a0_3 l0_4 t431 t432 t433 t434 t435) = some r := by rw [if_pos rfl] at H; exact H
    clear H
    have H := H1
    clear H1
    have H' := Aside0.mk H
    clear H
    obtain ⟨Ao28, co28, eo28⟩ := Kd.R_slice HO441.out
    subst eo28
    obtain ⟨Ao29, co29, eo29⟩ := Kd.R_slice HO429.out
    subst eo29
    go_wp2_with (first | ((with_reducible refine gate_callee (f := 12) rfl ?_); refine goesL_ (some 34) rfl rfl Try.func12 (by kernel_rfl) rfl #[.slice Ao28 t439.length co28, .slice Ao29 t427.length co29] rfl zar ?_; (with_reducible refine (laws_eqByteS.calls k _ _ t439 _ _ t427 true _ ?side1 ?side2 ?side3 ?side4 A26.out).mono ?_); (case side1 => repeat (first | exact (Kd.R_reads' HO441.out).2.2 | (with_reducible refine Kd.C_alloc ?_ _) | (with_reducible refine Kd.C_drewN ?_ _) | (with_reducible refine Kd.C_drew ?_))); (case side2 => exact (Kd.R_reads' HO441.out).2.1); (case side3 => repeat (first | exact (Kd.R_reads' HO429.out).2.2 | (with_reducible refine Kd.C_alloc ?_ _) | (with_reducible refine Kd.C_drewN ?_ _) | (with_reducible refine Kd.C_drew ?_))); (case side4 => exact (Kd.R_reads' HO429.out).2.1); rintro e w' ⟨rfl, ⟨nd, rfl⟩⟩; refine ⟨_, rfl, ?_⟩))
    go_meet
    case rel => exact ⟨_, ((t442 != t430)), (by first | rfl | (simp; done) | (simp [*]; done)), H', ⟨by first | omega | exact Nat.le_refl _⟩, ⟨Kd.R_mono (zr HO429) (fun _ hk => hk.2)⟩, ⟨Kd.R_mono (zr HO441) (fun _ hk => hk.2)⟩, ⟨Kd.S_mono (zs HO437) (fun _ hk => trivial)⟩, ⟨zb BK418⟩, ⟨zb BK438⟩, ⟨zg HB⟩⟩
   ·replace c27 := Bool.eq_false_iff.mpr c27
    subst c27
    have H1 : (laws_FnExactRecordBytes.j0 k t427 t430 t439 t442 true a0_0 a0_1 a0_2 a0_3 l0_4 t431 t432 t433 t434 t435) = some r := by rw [if_neg (show ¬ (false = true) by decide)] at H; exact H
    clear H
    have H := H1
    clear H1
    have H' := Aside0.mk H
    clear H
    obtain ⟨Ao30, co30, eo30⟩ := Kd.R_slice HO441.out
    subst eo30
    obtain ⟨Ao31, co31, eo31⟩ := Kd.R_slice HO429.out
    subst eo31
    go_wp2_with (first | ((with_reducible refine gate_callee (f := 12) rfl ?_); refine goesL_ (some 34) rfl rfl Try.func12 (by kernel_rfl) rfl #[.slice Ao30 t439.length co30, .slice Ao31 t427.length co31] rfl zar ?_; (with_reducible refine (laws_eqByteS.calls k _ _ t439 _ _ t427 false _ ?side1 ?side2 ?side3 ?side4 A26.out).mono ?_); (case side1 => repeat (first | exact (Kd.R_reads' HO441.out).2.2 | (with_reducible refine Kd.C_alloc ?_ _) | (with_reducible refine Kd.C_drewN ?_ _) | (with_reducible refine Kd.C_drew ?_))); (case side2 => exact (Kd.R_reads' HO441.out).2.1); (case side3 => repeat (first | exact (Kd.R_reads' HO429.out).2.2 | (with_reducible refine Kd.C_alloc ?_ _) | (with_reducible refine Kd.C_drewN ?_ _) | (with_reducible refine Kd.C_drew ?_))); (case side4 => exact (Kd.R_reads' HO429.out).2.1); rintro e w' ⟨rfl, ⟨nd, rfl⟩⟩; refine ⟨_, rfl, ?_⟩))
    go_meet
    case rel => exact ⟨_, (true), (by first | rfl | (simp; done) | (simp [*]; done)), H', ⟨by first | omega | exact Nat.le_refl _⟩, ⟨Kd.R_mono (zr HO429) (fun _ hk => hk.2)⟩, ⟨Kd.R_mono (zr HO441) (fun _ hk => hk.2)⟩, ⟨Kd.S_mono (zs HO437) (fun _ hk => trivial)⟩, ⟨zb BK418⟩, ⟨zb BK438⟩, ⟨zg HB⟩⟩
  case rest =>
   clear HC11
   try clear c1
   try clear c2
   try clear p2
   try clear c3
   try clear c3b0
   try clear c5
   try clear c12
   try clear c21
   try clear c22
   try clear c23
   try clear c24
   try clear c27
   try clear hcz13_0
   try clear hcz13_1
   try clear hcz13_2
   try clear hcz13_3
   try clear hcz13_4
   try clear hcz15_0
   try clear hcz15_1
   try clear hcz15_2
   try clear hcz15_3
   try clear hcz15_4
   try clear hcz19_0
   try clear hcz19_1
   try clear hcz19_2
   try clear hcz19_3
   try clear hcz19_4
   try clear hcz23_0
   try clear hcz23_1
   try clear hcz23_2
   try clear hcz23_3
   try clear hcz23_4
   try clear hcz5_0
   try clear hcz5_1
   try clear hcz5_2
   try clear hcz5_3
   try clear hcz5_4
   try clear hfz13_0
   try clear hfz13_1
   try clear hfz13_2
   try clear hfz13_3
   try clear hfz13_4
   try clear hfz15_0
   try clear hfz15_1
   try clear hfz15_2
   try clear hfz15_3
   try clear hfz15_4
   try clear hfz19_0
   try clear hfz19_1
   try clear hfz19_2
   try clear hfz19_3
   try clear hfz19_4
   try clear hfz23_0
   try clear hfz23_1
   try clear hfz23_2
   try clear hfz23_3
   try clear hfz23_4
   try clear hfz5_0
   try clear hfz5_1
   try clear hfz5_2
   try clear hfz5_3
   try clear hfz5_4
   obtain ⟨kq, x40_10, rfl, HA, HJ10, HO_4, HO_7, HO_439004, BK418, BK438, HB⟩ := hcut
   cases kq with
   | zero => exact absurd HA.out (by simp [laws_FnExactRecordBytes.j0])
   | succ kj10 =>
    have H := HA.out
    clear HA
    simp only [laws_FnExactRecordBytes.j0] at H
    by_cases c32 : x40_10 = true
    ·subst c32
     have H1 : (some false) = some r := by rw [if_pos rfl] at H; exact H
     clear H
     have H := H1
     clear H1
     obtain rfl := Option.some.inj H
     go_wp2
     go_ret
     exact ⟨zre, zg HB⟩
    ·replace c32 := Bool.eq_false_iff.mpr c32
     subst c32
     have H1 : ((laws_toRecord.f kj10 a0_0 a0_1 a0_2 a0_3 l0_4).bind fun bt444 => ((laws_eqRecord.f kj10 t431 t432 t433 t434 t435 bt444.1 bt444.2.1 bt444.2.2.1 bt444.2.2.2.1 bt444.2.2.2.2).bind fun t451 => (if t451 = true then ((laws_markRecord.f kj10 t431 t432 t433 t434 t435 1).bind fun bt452 => (if bt452.1 < 0 then (laws_FnExactRecordBytes.j1 kj10 t427 t430 t439 true a0_0 a0_1 a0_2 a0_3 l0_4) else ((laws_eqByteS.f kj10 t439 t427).bind fun t454 => (if t454 = true then (laws_FnExactRecordBytes.j1 kj10 t427 t430 t439 (t442 != t430) a0_0 a0_1 a0_2 a0_3 l0_4) else (laws_FnExactRecordBytes.j1 kj10 t427 t430 t439 true a0_0 a0_1 a0_2 a0_3 l0_4))))) else (some false)))) = some r := by rw [if_neg (show ¬ (false = true) by decide)] at H; exact H
     clear H
     have H := H1
     clear H1
     replace H := Option.bind_eq_some_iff.mp H
     obtain ⟨⟨t444, t445, t446, t447, t448⟩, A330, H⟩ := H
     replace H : ((laws_eqRecord.f kj10 t431 t432 t433 t434 t435 t444 t445 t446 t447 t448).bind fun t451 => (if t451 = true then ((laws_markRecord.f kj10 t431 t432 t433 t434 t435 1).bind fun bt452 => (if bt452.1 < 0 then (laws_FnExactRecordBytes.j1 kj10 t427 t430 t439 true a0_0 a0_1 a0_2 a0_3 l0_4) else ((laws_eqByteS.f kj10 t439 t427).bind fun t454 => (if t454 = true then (laws_FnExactRecordBytes.j1 kj10 t427 t430 t439 (t442 != t430) a0_0 a0_1 a0_2 a0_3 l0_4) else (laws_FnExactRecordBytes.j1 kj10 t427 t430 t439 true a0_0 a0_1 a0_2 a0_3 l0_4))))) else (some false))) = some r := H
     have A33 := Aside0.mk A330
     clear A330
     replace H := Option.bind_eq_some_iff.mp H
     obtain ⟨t451, A340, H⟩ := H
     replace H : (if t451 = true then ((laws_markRecord.f kj10 t431 t432 t433 t434 t435 1).bind fun bt452 => (if bt452.1 < 0 then (laws_FnExactRecordBytes.j1 kj10 t427 t430 t439 true a0_0 a0_1 a0_2 a0_3 l0_4) else ((laws_eqByteS.f kj10 t439 t427).bind fun t454 => (if t454 = true then (laws_FnExactRecordBytes.j1 kj10 t427 t430 t439 (t442 != t430) a0_0 a0_1 a0_2 a0_3 l0_4) else (laws_FnExactRecordBytes.j1 kj10 t427 t430 t439 true a0_0 a0_1 a0_2 a0_3 l0_4))))) else (some false)) = some r := H
     have A34 := Aside0.mk A340
     clear A340
     by_cases c35 : t451 = true
     ·subst c35
      have H1 : ((laws_markRecord.f kj10 t431 t432 t433 t434 t435 1).bind fun bt452 => (if bt452.1 < 0 then (laws_FnExactRecordBytes.j1 kj10 t427 t430 t439 true a0_0 a0_1 a0_2 a0_3 l0_4) else ((laws_eqByteS.f kj10 t439 t427).bind fun t454 => (if t454 = true then (laws_FnExactRecordBytes.j1 kj10 t427 t430 t439 (t442 != t430) a0_0 a0_1 a0_2 a0_3 l0_4) else (laws_FnExactRecordBytes.j1 kj10 t427 t430 t439 true a0_0 a0_1 a0_2 a0_3 l0_4))))) = some r := by rw [if_pos rfl] at H; exact H
      clear H
      have H := H1
      clear H1
      replace H := Option.bind_eq_some_iff.mp H
      obtain ⟨⟨t452, t453⟩, A360, H⟩ := H
      replace H : (if t452 < 0 then (laws_FnExactRecordBytes.j1 kj10 t427 t430 t439 true a0_0 a0_1 a0_2 a0_3 l0_4) else ((laws_eqByteS.f kj10 t439 t427).bind fun t454 => (if t454 = true then (laws_FnExactRecordBytes.j1 kj10 t427 t430 t439 (t442 != t430) a0_0 a0_1 a0_2 a0_3 l0_4) else (laws_FnExactRecordBytes.j1 kj10 t427 t430 t439 true a0_0 a0_1 a0_2 a0_3 l0_4)))) = some r := H
      have A36 := Aside0.mk A360
      clear A360
      have HC37 := Aside0.mk H
      clear H
      try go_wp2
      have n0_ := Aside0.mk (Kd.R_drew HO_4.out)
      have n1_ := Aside0.mk (Kd.R_drew HO_7.out)
      have n2_ := Aside0.mk (Kd.S_drew HO_439004.out)
      have n3_ := Aside0.mk (blk_drew BK418.out)
      have n4_ := Aside0.mk (blk_drew BK438.out)
      have n5_ := Aside0.mk (below_drew1 HB.out)
      clear HO_4
      clear HO_7
      clear HO_439004
      clear BK418
      clear BK438
      clear HB
      have HO_4 := n0_
      have HO_7 := n1_
      have HO_439004 := n2_
      have BK418 := n3_
      have BK438 := n4_
      have HB := n5_
      clear n0_ n1_ n2_ n3_ n4_ n5_
      refine start_ (n := 5) (S := fun w' => w'.cell? ⟨gb438, 0, none⟩ = some (.int .i64 t431) ∧ w'.cell? ⟨gb438, 1, none⟩ = some (.int .i64 t432) ∧ w'.cell? ⟨gb438, 2, none⟩ = some (.string t433) ∧ w'.cell? ⟨gb438, 3, none⟩ = some (.string t434) ∧ w'.cell? ⟨gb438, 4, none⟩ = some (.slice Ao24 t435.length co24) ∧ w'.cell? ⟨gb418, 0, none⟩ = some (.int .i64 a0_0) ∧ w'.cell? ⟨gb418, 1, none⟩ = some (.int .i64 a0_1) ∧ w'.cell? ⟨gb418, 2, none⟩ = some (.string a0_2) ∧ w'.cell? ⟨gb418, 3, none⟩ = some (.string a0_3) ∧ w'.cell? ⟨gb418, 4, none⟩ = some (.slice A0_4 l0_4.length c0_4)) (ds := []) #[false, false, false, false, false] (by kernel_rfl) rfl rfl ⟨(blk_cell BK438.out 0).trans rfl, (blk_cell BK438.out 1).trans rfl, (blk_cell BK438.out 2).trans rfl, (blk_cell BK438.out 3).trans rfl, (blk_cell BK438.out 4).trans rfl, (blk_cell BK418.out 0).trans rfl, (blk_cell BK418.out 1).trans rfl, (blk_cell BK418.out 2).trans rfl, (blk_cell BK418.out 3).trans rfl, (blk_cell BK418.out 4).trans rfl⟩ (fun hHeld => ?_)
      generalize wc.drew = w38 at HO_4 HO_7 HO_439004 BK418 BK438 HB hHeld ⊢
      refine take_ (i := 0) (N := some 41) (v := ?_) (a' := ?_) #[true, false, false, false, false] rfl rfl (by kernel_rfl) (fun _ _ _ h => h) (Or.inl ⟨by rfl, ?_⟩) hHeld ?_ ?_
      rotate_left
      ·rintro w' ⟨s0, s1, s2, s3, s4, s5, s6, s7, s8, s9⟩
       go_simp
       with_reducible rfl
      rotate_left
      ·simp only [Act.put, List.setIfInBounds_toArray, List.set_cons_zero, List.set_cons_succ, i64_w, i32_w]
       rfl
      refine take_ (i := 1) (N := some 42) (v := ?_) (a' := ?_) #[true, true, false, false, false] rfl rfl (by kernel_rfl) (fun _ _ _ h => h) (Or.inl ⟨by rfl, ?_⟩) hHeld ?_ ?_
      rotate_left
      ·rintro w' ⟨s0, s1, s2, s3, s4, s5, s6, s7, s8, s9⟩
       go_simp
       with_reducible rfl
      rotate_left
      ·simp only [Act.put, List.setIfInBounds_toArray, List.set_cons_zero, List.set_cons_succ, i64_w, i32_w]
       rfl
      refine one_ (i := 2) (N := some 43) #[true, true, true, false, false] rfl rfl (by kernel_rfl) (by decide) (fun K hK => ?_)
      refine goes_ Try.func23 (by kernel_rfl) rfl #[.agg #[.int .i64 a0_0, .int .i64 a0_1, .string a0_2, .string a0_3, .slice A0_4 l0_4.length c0_4]] (by rfl) rfl rfl zar ?_
      with_reducible refine (laws_toRecord.calls kj10 a0_0 a0_1 a0_2 a0_3 _ _ l0_4 t444 t445 t446 t447 t448 _ ?side1 ?side2 A33.out).mono ?_
      (case side1 => repeat (first | exact (Kd.C_below HR0_4.out HB.out) | (with_reducible refine Kd.C_alloc ?_ _) | (with_reducible refine Kd.C_drewN ?_ _) | (with_reducible refine Kd.C_drew ?_)))
      (case side2 => exact HC0_4.out)
      rintro e w39 ⟨v449, rfl, ho0, hb⟩
      refine ⟨_, rfl, ?_⟩
      have n0_ := Aside0.mk (Kd.R_below (zr HO_4) hb)
      have n1_ := Aside0.mk (Kd.R_below (zr HO_7) hb)
      have n2_ := Aside0.mk (Kd.S_elder' (zs HO_439004) (Kd.S_base ho0) hb)
      have n3_ := Aside0.mk (Kd.S_lower (Kd.S_new' ho0 (Kd.S_lt (zs HO_439004))) (below_size (zg HB)))
      have n4_ := Aside0.mk (blk_below (zb BK418) hb)
      have n5_ := Aside0.mk (blk_below (zb BK438) hb)
      have n6_ := Aside0.mk (below_step (zg HB) hb)
      clear HO_4
      clear HO_7
      clear HO_439004
      clear BK418
      clear BK438
      clear HB
      have HO_4 := n0_
      have HO_7 := n1_
      have HO_439004 := n2_
      have HO450 := n3_
      have BK418 := n4_
      have BK438 := n5_
      have HB := n6_
      clear n0_ n1_ n2_ n3_ n4_ n5_ n6_
      (try clear hb)
      (try clear hb2)
      (try clear hk)
      (try clear hi)
      (try clear ho0)
      obtain ⟨Ao40, co40, eo40⟩ := Kd.S_slice HO450.out
      (first | subst eo40 | (injection eo40 with f1_ f2_ f3_; have f4_ := f1_.symm; have f5_ := f3_.symm; clear f1_ f2_ f3_; subst f4_; subst f5_))
      refine hK.out _ _ ⟨(blk_cell BK438.out 0).trans rfl, (blk_cell BK438.out 1).trans rfl, (blk_cell BK438.out 2).trans rfl, (blk_cell BK438.out 3).trans rfl, (blk_cell BK438.out 4).trans rfl, (blk_cell BK418.out 0).trans rfl, (blk_cell BK418.out 1).trans rfl, (blk_cell BK418.out 2).trans rfl, (blk_cell BK418.out 3).trans rfl, (blk_cell BK418.out 4).trans rfl⟩ (fun hHeld => ?_)
      clear hK K
      refine norm_ (a' := ?_) ?_ ?_
      rotate_left
      ·show Act.put _ (some 43) _ = _
       simp only [Act.put, List.setIfInBounds_toArray, List.set_cons_zero, List.set_cons_succ, i64_w, i32_w]
       rfl
      refine one_ (i := 3) (N := some 44) #[true, true, true, true, false] rfl rfl (by kernel_rfl) (by decide) (fun K hK => ?_)
      refine goes_ Try.func25 (by kernel_rfl) rfl #[.agg #[.int .i64 t431, .int .i64 t432, .string t433, .string t434, .slice Ao24 t435.length co24], .agg #[.int .i64 t444, .int .i64 t445, .string t446, .string t447, .slice Ao40 t448.length co40]] (by rfl) rfl rfl zar ?_
      with_reducible refine (laws_eqRecord.calls kj10 t431 t432 t433 t434 _ _ t435 t444 t445 t446 t447 _ _ t448 true _ ?side1 ?side2 ?side3 ?side4 A34.out).mono ?_
      (case side1 => repeat (first | exact (Kd.S_reads' HO_439004.out).2.2 | (with_reducible refine Kd.C_alloc ?_ _) | (with_reducible refine Kd.C_drewN ?_ _) | (with_reducible refine Kd.C_drew ?_)))
      (case side2 => exact (Kd.S_reads' HO_439004.out).2.1)
      (case side3 => repeat (first | exact (Kd.S_reads' HO450.out).2.2 | (with_reducible refine Kd.C_alloc ?_ _) | (with_reducible refine Kd.C_drewN ?_ _) | (with_reducible refine Kd.C_drew ?_)))
      (case side4 => exact (Kd.S_reads' HO450.out).2.1)
      rintro e w41 ⟨rfl, hb⟩
      refine ⟨_, rfl, ?_⟩
      have n0_ := Aside0.mk (Kd.R_below (zr HO_4) hb)
      have n1_ := Aside0.mk (Kd.R_below (zr HO_7) hb)
      have n2_ := Aside0.mk (Kd.S_below (zs HO_439004) hb)
      have n3_ := Aside0.mk (Kd.S_below (zs HO450) hb)
      have n4_ := Aside0.mk (blk_below (zb BK418) hb)
      have n5_ := Aside0.mk (blk_below (zb BK438) hb)
      have n6_ := Aside0.mk (below_step (zg HB) hb)
      clear HO_4
      clear HO_7
      clear HO_439004
      clear HO450
      clear BK418
      clear BK438
      clear HB
      have HO_4 := n0_
      have HO_7 := n1_
      have HO_439004 := n2_
      have HO450 := n3_
      have BK418 := n4_
      have BK438 := n5_
      have HB := n6_
      clear n0_ n1_ n2_ n3_ n4_ n5_ n6_
      (try clear hb)
      (try clear hb2)
      (try clear hk)
      (try clear hi)
      refine hK.out _ _ ⟨(blk_cell BK438.out 0).trans rfl, (blk_cell BK438.out 1).trans rfl, (blk_cell BK438.out 2).trans rfl, (blk_cell BK438.out 3).trans rfl, (blk_cell BK438.out 4).trans rfl, (blk_cell BK418.out 0).trans rfl, (blk_cell BK418.out 1).trans rfl, (blk_cell BK418.out 2).trans rfl, (blk_cell BK418.out 3).trans rfl, (blk_cell BK418.out 4).trans rfl⟩ (fun hHeld => ?_)
      clear hK K
      refine norm_ (a' := ?_) ?_ ?_
      rotate_left
      ·show Act.put _ (some 44) _ = _
       simp only [Act.put, List.setIfInBounds_toArray, List.set_cons_zero, List.set_cons_succ, i64_w, i32_w]
       rfl
      refine pure_ (i := 4) (N := some 45) (v := ?_) (a' := ?_) #[true, true, true, true, true] rfl rfl (by kernel_rfl) (fun _ _ _ h => h) (Or.inl ⟨by rfl, ?_⟩) ?_ ?_
      rotate_left
      ·intro w'
       go_simp
       with_reducible rfl
      rotate_left
      ·simp only [Act.put, List.setIfInBounds_toArray, List.set_cons_zero, List.set_cons_succ, i64_w, i32_w]
       rfl
      refine done_ (by kernel_rfl) ?_
      have hnb42 := NB438_418.out
      have hnc42 := NB418_438.out
      have hcz43_0 : w41.cell? ⟨gb438, 0, none⟩ = some (.int .i64 t431) := (blk_cell BK438.out 0).trans rfl
      have hcz43_1 : w41.cell? ⟨gb438, 1, none⟩ = some (.int .i64 t432) := (blk_cell BK438.out 1).trans rfl
      have hcz43_2 : w41.cell? ⟨gb438, 2, none⟩ = some (.string t433) := (blk_cell BK438.out 2).trans rfl
      have hcz43_3 : w41.cell? ⟨gb438, 3, none⟩ = some (.string t434) := (blk_cell BK438.out 3).trans rfl
      have hcz43_4 : w41.cell? ⟨gb438, 4, none⟩ = some (.slice Ao24 t435.length co24) := (blk_cell BK438.out 4).trans rfl
      have hfz43_0 := blk_frozen BK438.out 0
      have hfz43_1 := blk_frozen BK438.out 1
      have hfz43_2 := blk_frozen BK438.out 2
      have hfz43_3 := blk_frozen BK438.out 3
      have hfz43_4 := blk_frozen BK438.out 4
      go_upto_region 14 with (first | ((with_reducible refine gate_callee (f := 26) rfl ?_); refine goesL_ (some 48) rfl rfl Try.func26 (by kernel_rfl) rfl #[.agg #[.int .i64 t431, .int .i64 t432, .string t433, .string t434, .slice Ao24 t435.length co24], .int .i64 1] rfl zar ?_; (with_reducible refine (laws_markRecord.calls kj10 t431 t432 t433 t434 ?pz_ (.slice Ao24 t435.length co24) t435 1 t452 t453 w _ ?side1 ?side2 A36.out).mono ?_); (case side1 => repeat (first | (with_reducible first | exact HB.out | apply below_alloc | apply pw_below_drewN | apply below_drew1 | refine below_set ?_ GE418.out | refine below_set ?_ GE438.out) | exact HB.out)); (case side2 => exact Kd.S_bound (HO_439004.out)); rintro e w44 ⟨rfl, hy0, hb, hkp⟩; refine ⟨_, rfl, ?_⟩; have n0_ := Aside0.mk (Kd.R_keptT (zr HO_4) hkp (by decide)); have n1_ := Aside0.mk (Kd.R_keptT (zr HO_7) hkp (by decide)); have n2_ := Aside0.mk (Kd.S_mono hy0 (fun k_ h_ => h_.1)); have n3_ := Aside0.mk (blk_keptT (zb BK418) hkp (by decide)); have n4_ := Aside0.mk (blk_keptT (zb BK438) hkp (by decide)); have n5_ := Aside0.mk (hb); clear HO_4; clear HO_7; clear HO_439004; clear BK418; clear BK438; clear HB; clear HO450; have HO_4 := n0_; have HO_7 := n1_; have HO_439004 := n2_; have BK418 := n3_; have BK438 := n4_; have HB := n5_; clear n0_ n1_ n2_ n3_ n4_ n5_; (try clear hb); (try clear hkp); (try clear hy0)))
      (try simp only [Act.put, List.setIfInBounds_toArray, List.set_cons_zero, List.set_cons_succ])
      go_cut [61] (fun v61 wc => ∃ (kq : Nat) (x61_36 : Bool), v61 = .bool x61_36 ∧ Aside0 (laws_FnExactRecordBytes.j1 kq t427 t430 t439 x61_36 a0_0 a0_1 a0_2 a0_3 l0_4 = some r) ∧ Aside0 (kq ≤ kj10) ∧ Aside0 (Kd.R (Kd.int .u8) 5 wc w.heap.size (fun k_ => some k_ ≠ (v440 : Value).ownBlock) v428 t427) ∧ Aside0 (Kd.R (Kd.int .u8) 5 wc w.heap.size (fun k_ => some k_ ≠ (v428 : Value).ownBlock) v440 t439) ∧ Aside0 (Kd.S k66 66 wc w.heap.size (fun _ => True) (.slice Ao24 t435.length co24) t453) ∧ Aside0 (wc.heap[gb418]? = some (.cells #[.int .i64 a0_0, .int .i64 a0_1, .string a0_2, .string a0_3, (.slice A0_4 l0_4.length c0_4)] 43 (0, 0))) ∧ Aside0 (wc.heap[gb438]? = some (.cells #[.int .i64 t431, .int .i64 t432, .string t433, .string t434, (.slice Ao24 t435.length co24)] 47 (0, 0))) ∧ Aside0 (Below w.heap.size w wc))
      case first =>
       have H := HC37.out
       clear HC37
       by_cases c45 : t452 < 0
       ·rw [if_pos c45] at H
        have c45b0 : decide (t452 < 0) = true := decide_eq_true c45
        clear c45
        (first | rw [c45b0] | (simp only [i64_w, i32_w]; rw [c45b0]) | skip)
        have H' := Aside0.mk H
        clear H
        go_wp2
        go_meet
        case rel => exact ⟨_, (true), (by first | rfl | (simp; done) | (simp [*]; done)), H', ⟨by have := HJ10.out; first | omega | exact Nat.le_refl _⟩, ⟨zr HO_4⟩, ⟨zr HO_7⟩, ⟨Kd.S_mono (zs HO_439004) (fun _ hk => trivial)⟩, ⟨zb BK418⟩, ⟨zb BK438⟩, ⟨zg HB⟩⟩
       ·rw [if_neg c45] at H
        have c45b0 : decide (t452 < 0) = false := decide_eq_false c45
        clear c45
        (first | rw [c45b0] | (simp only [i64_w, i32_w]; rw [c45b0]) | skip)
        replace H := Option.bind_eq_some_iff.mp H
        obtain ⟨t454, A460, H⟩ := H
        replace H : (if t454 = true then (laws_FnExactRecordBytes.j1 kj10 t427 t430 t439 (t442 != t430) a0_0 a0_1 a0_2 a0_3 l0_4) else (laws_FnExactRecordBytes.j1 kj10 t427 t430 t439 true a0_0 a0_1 a0_2 a0_3 l0_4)) = some r := H
        have A46 := Aside0.mk A460
        clear A460
        by_cases c47 : t454 = true
        ·subst c47
         have H1 : (laws_FnExactRecordBytes.j1 kj10 t427 t430 t439 (t442 != t430) a0_0 a0_1 a0_2 a0_3 l0_4) = some r := by rw [if_pos rfl] at H; exact H
         clear H
         have H := H1
         clear H1
         have H' := Aside0.mk H
         clear H
         obtain ⟨Ao48, co48, eo48⟩ := Kd.R_slice HO_7.out
         subst eo48
         obtain ⟨Ao49, co49, eo49⟩ := Kd.R_slice HO_4.out
         subst eo49
         go_wp2_with (first | (go_at_call 12; (with_reducible refine (laws_eqByteS.calls kj10 _ _ t439 _ _ t427 true _ ?side1 ?side2 ?side3 ?side4 A46.out).mono ?_); (case side1 => repeat (first | exact (Kd.R_reads' HO_7.out).2.2 | (with_reducible refine Kd.C_alloc ?_ _) | (with_reducible refine Kd.C_drewN ?_ _) | (with_reducible refine Kd.C_drew ?_))); (case side2 => exact (Kd.R_reads' HO_7.out).2.1); (case side3 => repeat (first | exact (Kd.R_reads' HO_4.out).2.2 | (with_reducible refine Kd.C_alloc ?_ _) | (with_reducible refine Kd.C_drewN ?_ _) | (with_reducible refine Kd.C_drew ?_))); (case side4 => exact (Kd.R_reads' HO_4.out).2.1); rintro e w' ⟨rfl, ⟨nd, rfl⟩⟩))
         go_meet
         case rel => exact ⟨_, ((t442 != t430)), (by first | rfl | (simp; done) | (simp [*]; done)), H', ⟨by have := HJ10.out; first | omega | exact Nat.le_refl _⟩, ⟨zr HO_4⟩, ⟨zr HO_7⟩, ⟨Kd.S_mono (zs HO_439004) (fun _ hk => trivial)⟩, ⟨zb BK418⟩, ⟨zb BK438⟩, ⟨zg HB⟩⟩
        ·replace c47 := Bool.eq_false_iff.mpr c47
         subst c47
         have H1 : (laws_FnExactRecordBytes.j1 kj10 t427 t430 t439 true a0_0 a0_1 a0_2 a0_3 l0_4) = some r := by rw [if_neg (show ¬ (false = true) by decide)] at H; exact H
         clear H
         have H := H1
         clear H1
         have H' := Aside0.mk H
         clear H
         obtain ⟨Ao50, co50, eo50⟩ := Kd.R_slice HO_7.out
         subst eo50
         obtain ⟨Ao51, co51, eo51⟩ := Kd.R_slice HO_4.out
         subst eo51
         go_wp2_with (first | (go_at_call 12; (with_reducible refine (laws_eqByteS.calls kj10 _ _ t439 _ _ t427 false _ ?side1 ?side2 ?side3 ?side4 A46.out).mono ?_); (case side1 => repeat (first | exact (Kd.R_reads' HO_7.out).2.2 | (with_reducible refine Kd.C_alloc ?_ _) | (with_reducible refine Kd.C_drewN ?_ _) | (with_reducible refine Kd.C_drew ?_))); (case side2 => exact (Kd.R_reads' HO_7.out).2.1); (case side3 => repeat (first | exact (Kd.R_reads' HO_4.out).2.2 | (with_reducible refine Kd.C_alloc ?_ _) | (with_reducible refine Kd.C_drewN ?_ _) | (with_reducible refine Kd.C_drew ?_))); (case side4 => exact (Kd.R_reads' HO_4.out).2.1); rintro e w' ⟨rfl, ⟨nd, rfl⟩⟩))
         go_meet
         case rel => exact ⟨_, (true), (by first | rfl | (simp; done) | (simp [*]; done)), H', ⟨by have := HJ10.out; first | omega | exact Nat.le_refl _⟩, ⟨zr HO_4⟩, ⟨zr HO_7⟩, ⟨Kd.S_mono (zs HO_439004) (fun _ hk => trivial)⟩, ⟨zb BK418⟩, ⟨zb BK438⟩, ⟨zg HB⟩⟩
      case rest =>
       clear HC37
       try clear c1
       try clear c2
       try clear p2
       try clear c3
       try clear c3b0
       try clear c4
       try clear c5
       try clear c12
       try clear c21
       try clear c22
       try clear c23
       try clear c24
       try clear c25
       try clear c26
       try clear c27
       try clear c32
       try clear c35
       try clear c42
       try clear c45
       try clear c45b0
       try clear c47
       try clear hcz13_0
       try clear hcz13_1
       try clear hcz13_2
       try clear hcz13_3
       try clear hcz13_4
       try clear hcz15_0
       try clear hcz15_1
       try clear hcz15_2
       try clear hcz15_3
       try clear hcz15_4
       try clear hcz19_0
       try clear hcz19_1
       try clear hcz19_2
       try clear hcz19_3
       try clear hcz19_4
       try clear hcz23_0
       try clear hcz23_1
       try clear hcz23_2
       try clear hcz23_3
       try clear hcz23_4
       try clear hcz43_0
       try clear hcz43_1
       try clear hcz43_2
       try clear hcz43_3
       try clear hcz43_4
       try clear hcz5_0
       try clear hcz5_1
       try clear hcz5_2
       try clear hcz5_3
       try clear hcz5_4
       try clear hfz13_0
       try clear hfz13_1
       try clear hfz13_2
       try clear hfz13_3
       try clear hfz13_4
       try clear hfz15_0
       try clear hfz15_1
       try clear hfz15_2
       try clear hfz15_3
       try clear hfz15_4
       try clear hfz19_0
       try clear hfz19_1
       try clear hfz19_2
       try clear hfz19_3
       try clear hfz19_4
       try clear hfz23_0
       try clear hfz23_1
       try clear hfz23_2
       try clear hfz23_3
       try clear hfz23_4
       try clear hfz43_0
       try clear hfz43_1
       try clear hfz43_2
       try clear hfz43_3
       try clear hfz43_4
       try clear hfz5_0
       try clear hfz5_1
       try clear hfz5_2
       try clear hfz5_3
       try clear hfz5_4
       try clear p2
       obtain ⟨kq, x61_36, rfl, HA, HJ36, HO_4, HO_7, HO_439004, BK418, BK438, HB⟩ := hcut
       have hl439004_36 := (Kd.S_reads' HO_439004.out).1
       rw [hl439004_36] at HO_439004
       (try simp only [hl439004_36])
       (try simp only [hl439004_36] at BK418)
       (try simp only [hl439004_36] at BK438)
       (try simp only [hl439004_36] at HO_4)
       (try simp only [hl439004_36] at HO_7)
       cases kq with
       | zero => exact absurd HA.out (by simp [laws_FnExactRecordBytes.j1])
       | succ kj36 =>
        have H := HA.out
        clear HA
        simp only [laws_FnExactRecordBytes.j1] at H
        by_cases c52 : x61_36 = true
        ·subst c52
         have H1 : (some false) = some r := by rw [if_pos rfl] at H; exact H
         clear H
         have H := H1
         clear H1
         obtain rfl := Option.some.inj H
         go_wp2
         go_ret
         exact ⟨zre, zg HB⟩
        ·replace c52 := Bool.eq_false_iff.mpr c52
         subst c52
         have H1 : ((laws_markByteS.f kj36 t439 1).bind fun bt455 => ((laws_heldByteS.f kj36 bt455.2 1).bind fun t457 => (if t457 < 0 then (some false) else (if t457 = bt455.1 then ((laws_toRecord.f kj36 a0_0 a0_1 a0_2 a0_3 l0_4).bind fun bt458 => ((impl_RecordBytes.f kj36 bt458.1 bt458.2.1 bt458.2.2.1 bt458.2.2.2.1 bt458.2.2.2.2).bind fun bt465 => ((laws_eqByteS.f kj36 bt465.1 t427).bind fun t469 => (if t469 = true then (laws_FnExactRecordBytes.j2 kj36 bt455.2 bt455.1 (bt465.2 != t430)) else (laws_FnExactRecordBytes.j2 kj36 bt455.2 bt455.1 true))))) else (some false))))) = some r := by rw [if_neg (show ¬ (false = true) by decide)] at H; exact H
         clear H
         have H := H1
         clear H1
         replace H := Option.bind_eq_some_iff.mp H
         obtain ⟨⟨t455, t456⟩, A530, H⟩ := H
         replace H : ((laws_heldByteS.f kj36 t456 1).bind fun t457 => (if t457 < 0 then (some false) else (if t457 = t455 then ((laws_toRecord.f kj36 a0_0 a0_1 a0_2 a0_3 l0_4).bind fun bt458 => ((impl_RecordBytes.f kj36 bt458.1 bt458.2.1 bt458.2.2.1 bt458.2.2.2.1 bt458.2.2.2.2).bind fun bt465 => ((laws_eqByteS.f kj36 bt465.1 t427).bind fun t469 => (if t469 = true then (laws_FnExactRecordBytes.j2 kj36 t456 t455 (bt465.2 != t430)) else (laws_FnExactRecordBytes.j2 kj36 t456 t455 true))))) else (some false)))) = some r := H
         have A53 := Aside0.mk A530
         clear A530
         replace H := Option.bind_eq_some_iff.mp H
         obtain ⟨t457, A540, H⟩ := H
         replace H : (if t457 < 0 then (some false) else (if t457 = t455 then ((laws_toRecord.f kj36 a0_0 a0_1 a0_2 a0_3 l0_4).bind fun bt458 => ((impl_RecordBytes.f kj36 bt458.1 bt458.2.1 bt458.2.2.1 bt458.2.2.2.1 bt458.2.2.2.2).bind fun bt465 => ((laws_eqByteS.f kj36 bt465.1 t427).bind fun t469 => (if t469 = true then (laws_FnExactRecordBytes.j2 kj36 t456 t455 (bt465.2 != t430)) else (laws_FnExactRecordBytes.j2 kj36 t456 t455 true))))) else (some false))) = some r := H
         have A54 := Aside0.mk A540
         clear A540
         by_cases c55 : t457 < 0
         ·rw [if_pos c55] at H
          have c55b0 : decide (t457 < 0) = true := decide_eq_true c55
          clear c55
          obtain rfl := Option.some.inj H
          obtain ⟨Ao56, co56, eo56⟩ := Kd.R_slice HO_7.out
          subst eo56
          go_wp2_with (first | ((with_reducible refine gate_callee (f := 15) rfl ?_); refine goesL_ (some 64) rfl rfl Try.func15 (by kernel_rfl) rfl #[.slice Ao56 t439.length co56, .int .i64 1] rfl zar ?_; (with_reducible refine (laws_markByteS.calls kj36 (fun k_ => some k_ = (.slice Ao56 t439.length co56 : Value).ownBlock) (.slice Ao56 t439.length co56) t439 1 t455 t456 w _ ?side1 ?side2 A53.out).mono ?_); (case side1 => repeat (first | (with_reducible first | exact HB.out | apply below_alloc | apply pw_below_drewN | apply below_drew1 | refine below_set ?_ GE418.out | refine below_set ?_ GE438.out) | exact HB.out)); (case side2 => exact Kd.R_tight rfl HO_7.out); rintro e w57 ⟨rfl, hy0, hb, hkp⟩; refine ⟨_, rfl, ?_⟩; have n0_ := Aside0.mk (Kd.R_mono (ok' := fun k_ => some k_ ≠ (.slice Ao56 t439.length co56 : Value).ownBlock) (Kd.R_keptB (HO_4.out) hkp (fun k_ hk_ hs_ => (hk_) hs_)) (fun k_ hk_ => hk_.1)); have n1_ := Aside0.mk (Kd.R_reok rfl hy0 (fun k_ e_ => HO_7.out.1 k_ e_)); have n2_ := Aside0.mk (Kd.S_mono (ok' := fun k_ => True) (Kd.S_keptB ((Kd.S_apart' HO_439004.out (Kd.R_typed HO_7.out) (by decide))) hkp (fun k_ hk_ hs_ => (hk_.2) hs_)) (fun k_ hk_ => trivial)); have n3_ := Aside0.mk (blk_kept (zb BK418) hkp (fun hs_ => (fun e_ => (Kd.R_ne HO_7.out BK418.out (by decide)) e_) hs_)); have n4_ := Aside0.mk (blk_kept (zb BK438) hkp (fun hs_ => (fun e_ => (Kd.R_ne HO_7.out BK438.out (by decide)) e_) hs_)); have n5_ := Aside0.mk (hb); clear HO_4; clear HO_7; clear HO_439004; clear BK418; clear BK438; clear HB; have HO_4 := n0_; have HO_7 := n1_; have HO_439004 := n2_; have BK418 := n3_; have BK438 := n4_; have HB := n5_; clear n0_ n1_ n2_ n3_ n4_ n5_; (try clear hb); (try clear hkp); (try clear hy0)) | ((with_reducible refine gate_callee (f := 16) rfl ?_); refine goesL_ (some 67) rfl rfl Try.func16 (by kernel_rfl) rfl #[.slice Ao56 t456.length co56, .int .i64 1] rfl (by (try simp only [List.map_toArray, List.map_cons, List.map_nil]); first | done | (rw [show t456.length = t439.length from (Kd.R_reads' HO_7.out).1.symm] <;> rfl) | rfl | (simp only [List.length_drop, List.length_take]; rfl)) ?_; (with_reducible refine (laws_heldByteS.calls kj36 _ _ t456 1 t457 _ ?side1 ?side2 A54.out).mono ?_); (case side1 => repeat (first | exact (Kd.R_reads' HO_7.out).2.2 | (with_reducible refine Kd.C_alloc ?_ _) | (with_reducible refine Kd.C_drewN ?_ _) | (with_reducible refine Kd.C_drew ?_))); (case side2 => rw [show t456.length = t439.length from (Kd.R_reads' HO_7.out).1.symm]; exact (Kd.R_reads' HO_7.out).2.1); rintro e w' ⟨rfl, ⟨nd, rfl⟩⟩; refine ⟨_, rfl, ?_⟩))
          go_ret
          exact ⟨zre, zg HB⟩
         ·rw [if_neg c55] at H
          have c55b0 : decide (t457 < 0) = false := decide_eq_false c55
          clear c55
          by_cases c58 : t457 = t455
          ·rw [if_pos c58] at H
           have c58b0 : (t457 == t455) = true := beq_iff_eq.mpr c58
           have c58b1 : (t457 != t455) = false := bne_eq_false_iff_eq.mpr c58
           clear c58
           replace H := Option.bind_eq_some_iff.mp H
           obtain ⟨⟨t458, t459, t460, t461, t462⟩, A590, H⟩ := H
           replace H : ((impl_RecordBytes.f kj36 t458 t459 t460 t461 t462).bind fun bt465 => ((laws_eqByteS.f kj36 bt465.1 t427).bind fun t469 => (if t469 = true then (laws_FnExactRecordBytes.j2 kj36 t456 t455 (bt465.2 != t430)) else (laws_FnExactRecordBytes.j2 kj36 t456 t455 true)))) = some r := H
           have A59 := Aside0.mk A590
           clear A590
           replace H := Option.bind_eq_some_iff.mp H
           obtain ⟨⟨t465, t468⟩, A600, H⟩ := H
           replace H : ((laws_eqByteS.f kj36 t465 t427).bind fun t469 => (if t469 = true then (laws_FnExactRecordBytes.j2 kj36 t456 t455 (t468 != t430)) else (laws_FnExactRecordBytes.j2 kj36 t456 t455 true))) = some r := H
           have A60 := Aside0.mk A600
           clear A600
           have HC61 := Aside0.mk H
           clear H
           obtain ⟨Ao62, co62, eo62⟩ := Kd.R_slice HO_7.out
           subst eo62
           go_upto_region 25 with (first | ((with_reducible refine gate_callee (f := 15) rfl ?_); refine goesL_ (some 64) rfl rfl Try.func15 (by kernel_rfl) rfl #[.slice Ao62 t439.length co62, .int .i64 1] rfl zar ?_; (with_reducible refine (laws_markByteS.calls kj36 (fun k_ => some k_ = (.slice Ao62 t439.length co62 : Value).ownBlock) (.slice Ao62 t439.length co62) t439 1 t455 t456 w _ ?side1 ?side2 A53.out).mono ?_); (case side1 => repeat (first | (with_reducible first | exact HB.out | apply below_alloc | apply pw_below_drewN | apply below_drew1 | refine below_set ?_ GE418.out | refine below_set ?_ GE438.out) | exact HB.out)); (case side2 => exact Kd.R_tight rfl HO_7.out); rintro e w63 ⟨rfl, hy0, hb, hkp⟩; refine ⟨_, rfl, ?_⟩; have n0_ := Aside0.mk (Kd.R_mono (ok' := fun k_ => some k_ ≠ (.slice Ao62 t439.length co62 : Value).ownBlock) (Kd.R_keptB (HO_4.out) hkp (fun k_ hk_ hs_ => (hk_) hs_)) (fun k_ hk_ => hk_.1)); have n1_ := Aside0.mk (Kd.R_reok rfl hy0 (fun k_ e_ => HO_7.out.1 k_ e_)); have n2_ := Aside0.mk (Kd.S_mono (ok' := fun k_ => True) (Kd.S_keptB ((Kd.S_apart' HO_439004.out (Kd.R_typed HO_7.out) (by decide))) hkp (fun k_ hk_ hs_ => (hk_.2) hs_)) (fun k_ hk_ => trivial)); have n3_ := Aside0.mk (blk_kept (zb BK418) hkp (fun hs_ => (fun e_ => (Kd.R_ne HO_7.out BK418.out (by decide)) e_) hs_)); have n4_ := Aside0.mk (blk_kept (zb BK438) hkp (fun hs_ => (fun e_ => (Kd.R_ne HO_7.out BK438.out (by decide)) e_) hs_)); have n5_ := Aside0.mk (hb); clear HO_4; clear HO_7; clear HO_439004; clear BK418; clear BK438; clear HB; have HO_4 := n0_; have HO_7 := n1_; have HO_439004 := n2_; have BK418 := n3_; have BK438 := n4_; have HB := n5_; clear n0_ n1_ n2_ n3_ n4_ n5_; (try clear hb); (try clear hkp); (try clear hy0)) | ((with_reducible refine gate_callee (f := 16) rfl ?_); refine goesL_ (some 67) rfl rfl Try.func16 (by kernel_rfl) rfl #[.slice Ao62 t456.length co62, .int .i64 1] rfl (by (try simp only [List.map_toArray, List.map_cons, List.map_nil]); first | done | (rw [show t456.length = t439.length from (Kd.R_reads' HO_7.out).1.symm] <;> rfl) | rfl | (simp only [List.length_drop, List.length_take]; rfl)) ?_; (with_reducible refine (laws_heldByteS.calls kj36 _ _ t456 1 t457 _ ?side1 ?side2 A54.out).mono ?_); (case side1 => repeat (first | exact (Kd.R_reads' HO_7.out).2.2 | (with_reducible refine Kd.C_alloc ?_ _) | (with_reducible refine Kd.C_drewN ?_ _) | (with_reducible refine Kd.C_drew ?_))); (case side2 => rw [show t456.length = t439.length from (Kd.R_reads' HO_7.out).1.symm]; exact (Kd.R_reads' HO_7.out).2.1); rintro e w' ⟨rfl, ⟨nd, rfl⟩⟩; refine ⟨_, rfl, ?_⟩; have hnb64 := NB418_438.out; have hnc64 := NB438_418.out; have hcz65_0 : w63.cell? ⟨gb418, 0, none⟩ = some (.int .i64 a0_0) := (blk_cell BK418.out 0).trans rfl; have hcz65_1 : w63.cell? ⟨gb418, 1, none⟩ = some (.int .i64 a0_1) := (blk_cell BK418.out 1).trans rfl; have hcz65_2 : w63.cell? ⟨gb418, 2, none⟩ = some (.string a0_2) := (blk_cell BK418.out 2).trans rfl; have hcz65_3 : w63.cell? ⟨gb418, 3, none⟩ = some (.string a0_3) := (blk_cell BK418.out 3).trans rfl; have hcz65_4 : w63.cell? ⟨gb418, 4, none⟩ = some (.slice A0_4 l0_4.length c0_4) := (blk_cell BK418.out 4).trans rfl; have hfz65_0 := blk_frozen BK418.out 0; have hfz65_1 := blk_frozen BK418.out 1; have hfz65_2 := blk_frozen BK418.out 2; have hfz65_3 := blk_frozen BK418.out 3; have hfz65_4 := blk_frozen BK418.out 4) | ((with_reducible refine gate_callee (f := 23) rfl ?_); refine goesL_ (some 75) rfl rfl Try.func23 (by kernel_rfl) rfl #[.agg #[.int .i64 a0_0, .int .i64 a0_1, .string a0_2, .string a0_3, .slice A0_4 l0_4.length c0_4]] rfl zar ?_; (with_reducible refine (laws_toRecord.calls kj36 a0_0 a0_1 a0_2 a0_3 _ _ l0_4 t458 t459 t460 t461 t462 _ ?side1 ?side2 A59.out).mono ?_); (case side1 => repeat (first | exact (Kd.C_below HR0_4.out (zg HB)) | (with_reducible refine Kd.C_alloc ?_ _) | (with_reducible refine Kd.C_drewN ?_ _) | (with_reducible refine Kd.C_drew ?_))); (case side2 => exact HC0_4.out); rintro e w66 ⟨v463, rfl, ho0, hb⟩; refine ⟨_, rfl, ?_⟩; have n0_ := Aside0.mk (Kd.R_below (zr HO_4) hb); have n1_ := Aside0.mk (Kd.R_below (zr HO_7) hb); have n2_ := Aside0.mk (Kd.S_elder' (zs HO_439004) (Kd.S_base ho0) hb); have n3_ := Aside0.mk (Kd.S_lower (Kd.S_new' ho0 (Kd.S_lt (zs HO_439004))) (below_size (zg HB))); have n4_ := Aside0.mk (blk_below (zb BK418) hb); have n5_ := Aside0.mk (blk_below (zb BK438) hb); have n6_ := Aside0.mk (below_step (zg HB) hb); clear HO_4; clear HO_7; clear HO_439004; clear BK418; clear BK438; clear HB; have HO_4 := n0_; have HO_7 := n1_; have HO_439004 := n2_; have HO464 := n3_; have BK418 := n4_; have BK438 := n5_; have HB := n6_; clear n0_ n1_ n2_ n3_ n4_ n5_ n6_; (try clear hb); (try clear hb2); (try clear hk); (try clear hi); (try clear ho0); obtain ⟨Ao67, co67, eo67⟩ := Kd.S_slice HO464.out; subst eo67) | ((with_reducible refine gate_callee (f := 24) rfl ?_); refine goesL_ (some 76) rfl rfl Try.func24 (by kernel_rfl) rfl #[.agg #[.int .i64 t458, .int .i64 t459, .string t460, .string t461, .slice Ao67 t462.length co67]] rfl zar ?_; (with_reducible refine (impl_RecordBytes.calls kj36 t458 t459 t460 t461 _ _ t462 t465 t468 _ ?side1 ?side2 A60.out).mono ?_); (case side1 => repeat (first | exact (Kd.S_reads' HO464.out).2.2 | (with_reducible refine Kd.C_alloc ?_ _) | (with_reducible refine Kd.C_drewN ?_ _) | (with_reducible refine Kd.C_drew ?_))); (case side2 => exact (Kd.S_reads' HO464.out).2.1); rintro e w68 ⟨v466, rfl, ho0, hb⟩; refine ⟨_, rfl, ?_⟩; have n0_ := Aside0.mk (Kd.R_elder' (zr HO_4) (Kd.R_base ho0) hb); have n1_ := Aside0.mk (Kd.R_elder' (zr HO_7) (Kd.R_base ho0) hb); have n2_ := Aside0.mk (Kd.S_below (zs HO_439004) hb); have n3_ := Aside0.mk (Kd.S_below (zs HO464) hb); have n4_ := Aside0.mk (Kd.R_lower (Kd.R_new' (Kd.R_new' ho0 (Kd.R_lt (zr HO_4))) (Kd.R_lt (zr HO_7))) (below_size (zg HB))); have n5_ := Aside0.mk (blk_below (zb BK418) hb); have n6_ := Aside0.mk (blk_below (zb BK438) hb); have n7_ := Aside0.mk (below_step (zg HB) hb); clear HO_4; clear HO_7; clear HO_439004; clear HO464; clear BK418; clear BK438; clear HB; have HO_4 := n0_; have HO_7 := n1_; have HO_439004 := n2_; have HO464 := n3_; have HO467 := n4_; have BK418 := n5_; have BK438 := n6_; have HB := n7_; clear n0_ n1_ n2_ n3_ n4_ n5_ n6_ n7_; (try clear hb); (try clear hb2); (try clear hk); (try clear hi); (try clear ho0)))
           (try simp only [Act.put, List.setIfInBounds_toArray, List.set_cons_zero, List.set_cons_succ])
           go_cut [87] (fun v87 wc => ∃ (kq : Nat) (x87_60 : Bool), v87 = .bool x87_60 ∧ Aside0 (laws_FnExactRecordBytes.j2 kq t456 t455 x87_60 = some r) ∧ Aside0 (kq ≤ kj36) ∧ Aside0 (Kd.R (Kd.int .u8) 5 wc w.heap.size (fun _ => True) (.slice Ao62 t439.length co62) t456) ∧ Aside0 (Kd.S k66 66 wc w.heap.size (fun _ => True) (.slice Ao24 t453.length co24) t453) ∧ Aside0 (wc.heap[gb418]? = some (.cells #[.int .i64 a0_0, .int .i64 a0_1, .string a0_2, .string a0_3, (.slice A0_4 l0_4.length c0_4)] 43 (0, 0))) ∧ Aside0 (wc.heap[gb438]? = some (.cells #[.int .i64 t431, .int .i64 t432, .string t433, .string t434, (.slice Ao24 t453.length co24)] 47 (0, 0))) ∧ Aside0 (Below w.heap.size w wc))
           case first =>
            have H := HC61.out
            clear HC61
            replace H := Option.bind_eq_some_iff.mp H
            obtain ⟨t469, A690, H⟩ := H
            replace H : (if t469 = true then (laws_FnExactRecordBytes.j2 kj36 t456 t455 (t468 != t430)) else (laws_FnExactRecordBytes.j2 kj36 t456 t455 true)) = some r := H
            have A69 := Aside0.mk A690
            clear A690
            by_cases c70 : t469 = true
            ·subst c70
             have H1 : (laws_FnExactRecordBytes.j2 kj36 t456 t455 (t468 != t430)) = some r := by rw [if_pos rfl] at H; exact H
             clear H
             have H := H1
             clear H1
             have H' := Aside0.mk H
             clear H
             obtain ⟨Ao71, co71, eo71⟩ := Kd.R_slice HO467.out
             subst eo71
             obtain ⟨Ao72, co72, eo72⟩ := Kd.R_slice HO_4.out
             subst eo72
             go_wp2_with (first | ((with_reducible refine gate_callee (f := 12) rfl ?_); refine goesL_ (some 81) rfl rfl Try.func12 (by kernel_rfl) rfl #[.slice Ao71 t465.length co71, .slice Ao72 t427.length co72] rfl zar ?_; (with_reducible refine (laws_eqByteS.calls kj36 _ _ t465 _ _ t427 true _ ?side1 ?side2 ?side3 ?side4 A69.out).mono ?_); (case side1 => repeat (first | exact (Kd.R_reads' HO467.out).2.2 | (with_reducible refine Kd.C_alloc ?_ _) | (with_reducible refine Kd.C_drewN ?_ _) | (with_reducible refine Kd.C_drew ?_))); (case side2 => exact (Kd.R_reads' HO467.out).2.1); (case side3 => repeat (first | exact (Kd.R_reads' HO_4.out).2.2 | (with_reducible refine Kd.C_alloc ?_ _) | (with_reducible refine Kd.C_drewN ?_ _) | (with_reducible refine Kd.C_drew ?_))); (case side4 => exact (Kd.R_reads' HO_4.out).2.1); rintro e w' ⟨rfl, ⟨nd, rfl⟩⟩; refine ⟨_, rfl, ?_⟩))
             go_meet
             case rel => exact ⟨_, ((t468 != t430)), (by first | rfl | (simp; done) | (simp [*]; done)), H', ⟨by have := HJ10.out; have := HJ36.out; first | omega | exact Nat.le_refl _⟩, ⟨by (try simp only [hl439004_36]); (with_reducible repeat (first | apply Kd.R_alloc | apply Kd.R_drewN | apply Kd.R_drew)); exact Kd.R_mono HO_7.out (fun _ hk => trivial)⟩, ⟨by (try simp only [hl439004_36]); (with_reducible repeat (first | apply Kd.S_alloc | apply Kd.S_drewN | apply Kd.S_drew)); exact Kd.S_mono HO_439004.out (fun _ hk => trivial)⟩, ⟨by (try simp only [hl439004_36]); (with_reducible repeat (first | refine blk_drewN ?_ _ | refine blk_drew ?_ | refine blk_alloc ?_ _)); exact BK418.out⟩, ⟨by (try simp only [hl439004_36]); (with_reducible repeat (first | refine blk_drewN ?_ _ | refine blk_drew ?_ | refine blk_alloc ?_ _)); exact BK438.out⟩, ⟨zg HB⟩⟩
            ·replace c70 := Bool.eq_false_iff.mpr c70
             subst c70
             have H1 : (laws_FnExactRecordBytes.j2 kj36 t456 t455 true) = some r := by rw [if_neg (show ¬ (false = true) by decide)] at H; exact H
             clear H
             have H := H1
             clear H1
             have H' := Aside0.mk H
             clear H
             obtain ⟨Ao73, co73, eo73⟩ := Kd.R_slice HO467.out
             subst eo73
             obtain ⟨Ao74, co74, eo74⟩ := Kd.R_slice HO_4.out
             subst eo74
             go_wp2_with (first | ((with_reducible refine gate_callee (f := 12) rfl ?_); refine goesL_ (some 81) rfl rfl Try.func12 (by kernel_rfl) rfl #[.slice Ao73 t465.length co73, .slice Ao74 t427.length co74] rfl zar ?_; (with_reducible refine (laws_eqByteS.calls kj36 _ _ t465 _ _ t427 false _ ?side1 ?side2 ?side3 ?side4 A69.out).mono ?_); (case side1 => repeat (first | exact (Kd.R_reads' HO467.out).2.2 | (with_reducible refine Kd.C_alloc ?_ _) | (with_reducible refine Kd.C_drewN ?_ _) | (with_reducible refine Kd.C_drew ?_))); (case side2 => exact (Kd.R_reads' HO467.out).2.1); (case side3 => repeat (first | exact (Kd.R_reads' HO_4.out).2.2 | (with_reducible refine Kd.C_alloc ?_ _) | (with_reducible refine Kd.C_drewN ?_ _) | (with_reducible refine Kd.C_drew ?_))); (case side4 => exact (Kd.R_reads' HO_4.out).2.1); rintro e w' ⟨rfl, ⟨nd, rfl⟩⟩; refine ⟨_, rfl, ?_⟩))
             go_meet
             case rel => exact ⟨_, (true), (by first | rfl | (simp; done) | (simp [*]; done)), H', ⟨by have := HJ10.out; have := HJ36.out; first | omega | exact Nat.le_refl _⟩, ⟨by (try simp only [hl439004_36]); (with_reducible repeat (first | apply Kd.R_alloc | apply Kd.R_drewN | apply Kd.R_drew)); exact Kd.R_mono HO_7.out (fun _ hk => trivial)⟩, ⟨by (try simp only [hl439004_36]); (with_reducible repeat (first | apply Kd.S_alloc | apply Kd.S_drewN | apply Kd.S_drew)); exact Kd.S_mono HO_439004.out (fun _ hk => trivial)⟩, ⟨by (try simp only [hl439004_36]); (with_reducible repeat (first | refine blk_drewN ?_ _ | refine blk_drew ?_ | refine blk_alloc ?_ _)); exact BK418.out⟩, ⟨by (try simp only [hl439004_36]); (with_reducible repeat (first | refine blk_drewN ?_ _ | refine blk_drew ?_ | refine blk_alloc ?_ _)); exact BK438.out⟩, ⟨zg HB⟩⟩
           case rest =>
            clear HC61
            try clear c1
            try clear c2
            try clear p2
            try clear c3
            try clear c3b0
            try clear c4
            try clear c5
            try clear c6
            try clear c7
            try clear c12
            try clear c15
            try clear c16
            try clear c21
            try clear c22
            try clear c23
            try clear c24
            try clear c25
            try clear c26
            try clear c27
            try clear c32
            try clear c35
            try clear c42
            try clear c45
            try clear c45b0
            try clear c47
            try clear c52
            try clear c55
            try clear c55b0
            try clear c58
            try clear c58b0
            try clear c58b1
            try clear c64
            try clear c70
            try clear hcz13_0
            try clear hcz13_1
            try clear hcz13_2
            try clear hcz13_3
            try clear hcz13_4
            try clear hcz15_0
            try clear hcz15_1
            try clear hcz15_2
            try clear hcz15_3
            try clear hcz15_4
            try clear hcz19_0
            try clear hcz19_1
            try clear hcz19_2
            try clear hcz19_3
            try clear hcz19_4
            try clear hcz23_0
            try clear hcz23_1
            try clear hcz23_2
            try clear hcz23_3
            try clear hcz23_4
            try clear hcz43_0
            try clear hcz43_1
            try clear hcz43_2
            try clear hcz43_3
            try clear hcz43_4
            try clear hcz5_0
            try clear hcz5_1
            try clear hcz5_2
            try clear hcz5_3
            try clear hcz5_4
            try clear hcz65_0
            try clear hcz65_1
            try clear hcz65_2
            try clear hcz65_3
            try clear hcz65_4
            try clear hfz13_0
            try clear hfz13_1
            try clear hfz13_2
            try clear hfz13_3
            try clear hfz13_4
            try clear hfz15_0
            try clear hfz15_1
            try clear hfz15_2
            try clear hfz15_3
            try clear hfz15_4
            try clear hfz19_0
            try clear hfz19_1
            try clear hfz19_2
            try clear hfz19_3
            try clear hfz19_4
            try clear hfz23_0
            try clear hfz23_1
            try clear hfz23_2
            try clear hfz23_3
            try clear hfz23_4
            try clear hfz43_0
            try clear hfz43_1
            try clear hfz43_2
            try clear hfz43_3
            try clear hfz43_4
            try clear hfz5_0
            try clear hfz5_1
            try clear hfz5_2
            try clear hfz5_3
            try clear hfz5_4
            try clear hfz65_0
            try clear hfz65_1
            try clear hfz65_2
            try clear hfz65_3
            try clear hfz65_4
            try clear p2
            obtain ⟨kq, x87_60, rfl, HA, HJ60, HO_7, HO_439004, BK418, BK438, HB⟩ := hcut
            have hl7_60 := (Kd.R_reads' HO_7.out).1
            rw [hl7_60] at HO_7
            (try simp only [hl7_60])
            (try simp only [hl7_60] at BK418)
            (try simp only [hl7_60] at BK438)
            (try simp only [hl7_60] at HO_439004)
            cases kq with
            | zero => exact absurd HA.out (by simp [laws_FnExactRecordBytes.j2])
            | succ kj60 =>
             have H := HA.out
             clear HA
             simp only [laws_FnExactRecordBytes.j2] at H
             by_cases c75 : x87_60 = true
             ·subst c75
              have H1 : (some false) = some r := by rw [if_pos rfl] at H; exact H
              clear H
              have H := H1
              clear H1
              obtain rfl := Option.some.inj H
              go_wp2
              go_ret
              exact ⟨zre, zg HB⟩
             ·replace c75 := Bool.eq_false_iff.mpr c75
              subst c75
              have H1 : ((laws_heldByteS.f kj60 t456 1).bind fun t470 => (if t470 < 0 then (some false) else (if t470 = t455 then (some true) else (some false)))) = some r := by rw [if_neg (show ¬ (false = true) by decide)] at H; exact H
              clear H
              have H := H1
              clear H1
              replace H := Option.bind_eq_some_iff.mp H
              obtain ⟨t470, A760, H⟩ := H
              replace H : (if t470 < 0 then (some false) else (if t470 = t455 then (some true) else (some false))) = some r := H
              have A76 := Aside0.mk A760
              clear A760
              by_cases c77 : t470 < 0
              ·rw [if_pos c77] at H
               have c77b0 : decide (t470 < 0) = true := decide_eq_true c77
               clear c77
               obtain rfl := Option.some.inj H
               go_wp2_with (first | ((with_reducible refine gate_callee (f := 16) rfl ?_); refine goesL_ (some 90) rfl rfl Try.func16 (by kernel_rfl) rfl #[.slice Ao62 t456.length co62, .int .i64 1] rfl zar ?_; (with_reducible refine (laws_heldByteS.calls kj60 _ _ t456 1 t470 _ ?side1 ?side2 A76.out).mono ?_); (case side1 => repeat (first | exact (Kd.R_reads' HO_7.out).2.2 | (with_reducible refine Kd.C_alloc ?_ _) | (with_reducible refine Kd.C_drewN ?_ _) | (with_reducible refine Kd.C_drew ?_))); (case side2 => exact (Kd.R_reads' HO_7.out).2.1); rintro e w' ⟨rfl, ⟨nd, rfl⟩⟩; refine ⟨_, rfl, ?_⟩))
               go_ret
               exact ⟨zre, zg HB⟩
              ·rw [if_neg c77] at H
               have c77b0 : decide (t470 < 0) = false := decide_eq_false c77
               clear c77
               by_cases c78 : t470 = t455
               ·rw [if_pos c78] at H
                have c78b0 : (t470 == t455) = true := beq_iff_eq.mpr c78
                have c78b1 : (t470 != t455) = false := bne_eq_false_iff_eq.mpr c78
                clear c78
                obtain rfl := Option.some.inj H
                go_wp2_with (first | ((with_reducible refine gate_callee (f := 16) rfl ?_); refine goesL_ (some 90) rfl rfl Try.func16 (by kernel_rfl) rfl #[.slice Ao62 t456.length co62, .int .i64 1] rfl zar ?_; (with_reducible refine (laws_heldByteS.calls kj60 _ _ t456 1 t470 _ ?side1 ?side2 A76.out).mono ?_); (case side1 => repeat (first | exact (Kd.R_reads' HO_7.out).2.2 | (with_reducible refine Kd.C_alloc ?_ _) | (with_reducible refine Kd.C_drewN ?_ _) | (with_reducible refine Kd.C_drew ?_))); (case side2 => exact (Kd.R_reads' HO_7.out).2.1); rintro e w' ⟨rfl, ⟨nd, rfl⟩⟩; refine ⟨_, rfl, ?_⟩))
                go_ret
                exact ⟨zre, zg HB⟩
               ·rw [if_neg c78] at H
                have c78b0 : (t470 == t455) = false := beq_eq_false_iff_ne.mpr c78
                have c78b1 : (t470 != t455) = true := bne_iff_ne.mpr c78
                obtain rfl := Option.some.inj H
                go_wp2_with (first | ((with_reducible refine gate_callee (f := 16) rfl ?_); refine goesL_ (some 90) rfl rfl Try.func16 (by kernel_rfl) rfl #[.slice Ao62 t456.length co62, .int .i64 1] rfl zar ?_; (with_reducible refine (laws_heldByteS.calls kj60 _ _ t456 1 t470 _ ?side1 ?side2 A76.out).mono ?_); (case side1 => repeat (first | exact (Kd.R_reads' HO_7.out).2.2 | (with_reducible refine Kd.C_alloc ?_ _) | (with_reducible refine Kd.C_drewN ?_ _) | (with_reducible refine Kd.C_drew ?_))); (case side2 => exact (Kd.R_reads' HO_7.out).2.1); rintro e w' ⟨rfl, ⟨nd, rfl⟩⟩; refine ⟨_, rfl, ?_⟩))
                go_ret
                exact ⟨zre, zg HB⟩
          ·rw [if_neg c58] at H
           have c58b0 : (t457 == t455) = false := beq_eq_false_iff_ne.mpr c58
           have c58b1 : (t457 != t455) = true := bne_iff_ne.mpr c58
           obtain rfl := Option.some.inj H
           obtain ⟨Ao79, co79, eo79⟩ := Kd.R_slice HO_7.out
           subst eo79
           go_wp2_with (first | ((with_reducible refine gate_callee (f := 15) rfl ?_); refine goesL_ (some 64) rfl rfl Try.func15 (by kernel_rfl) rfl #[.slice Ao79 t439.length co79, .int .i64 1] rfl zar ?_; (with_reducible refine (laws_markByteS.calls kj36 (fun k_ => some k_ = (.slice Ao79 t439.length co79 : Value).ownBlock) (.slice Ao79 t439.length co79) t439 1 t455 t456 w _ ?side1 ?side2 A53.out).mono ?_); (case side1 => repeat (first | (with_reducible first | exact HB.out | apply below_alloc | apply pw_below_drewN | apply below_drew1 | refine below_set ?_ GE418.out | refine below_set ?_ GE438.out) | exact HB.out)); (case side2 => exact Kd.R_tight rfl HO_7.out); rintro e w80 ⟨rfl, hy0, hb, hkp⟩; refine ⟨_, rfl, ?_⟩; have n0_ := Aside0.mk (Kd.R_mono (ok' := fun k_ => some k_ ≠ (.slice Ao79 t439.length co79 : Value).ownBlock) (Kd.R_keptB (HO_4.out) hkp (fun k_ hk_ hs_ => (hk_) hs_)) (fun k_ hk_ => hk_.1)); have n1_ := Aside0.mk (Kd.R_reok rfl hy0 (fun k_ e_ => HO_7.out.1 k_ e_)); have n2_ := Aside0.mk (Kd.S_mono (ok' := fun k_ => True) (Kd.S_keptB ((Kd.S_apart' HO_439004.out (Kd.R_typed HO_7.out) (by decide))) hkp (fun k_ hk_ hs_ => (hk_.2) hs_)) (fun k_ hk_ => trivial)); have n3_ := Aside0.mk (blk_kept (zb BK418) hkp (fun hs_ => (fun e_ => (Kd.R_ne HO_7.out BK418.out (by decide)) e_) hs_)); have n4_ := Aside0.mk (blk_kept (zb BK438) hkp (fun hs_ => (fun e_ => (Kd.R_ne HO_7.out BK438.out (by decide)) e_) hs_)); have n5_ := Aside0.mk (hb); clear HO_4; clear HO_7; clear HO_439004; clear BK418; clear BK438; clear HB; have HO_4 := n0_; have HO_7 := n1_; have HO_439004 := n2_; have BK418 := n3_; have BK438 := n4_; have HB := n5_; clear n0_ n1_ n2_ n3_ n4_ n5_; (try clear hb); (try clear hkp); (try clear hy0)) | ((with_reducible refine gate_callee (f := 16) rfl ?_); refine goesL_ (some 67) rfl rfl Try.func16 (by kernel_rfl) rfl #[.slice Ao79 t456.length co79, .int .i64 1] rfl (by (try simp only [List.map_toArray, List.map_cons, List.map_nil]); first | done | (rw [show t456.length = t439.length from (Kd.R_reads' HO_7.out).1.symm] <;> rfl) | rfl | (simp only [List.length_drop, List.length_take]; rfl)) ?_; (with_reducible refine (laws_heldByteS.calls kj36 _ _ t456 1 t457 _ ?side1 ?side2 A54.out).mono ?_); (case side1 => repeat (first | exact (Kd.R_reads' HO_7.out).2.2 | (with_reducible refine Kd.C_alloc ?_ _) | (with_reducible refine Kd.C_drewN ?_ _) | (with_reducible refine Kd.C_drew ?_))); (case side2 => rw [show t456.length = t439.length from (Kd.R_reads' HO_7.out).1.symm]; exact (Kd.R_reads' HO_7.out).2.1); rintro e w' ⟨rfl, ⟨nd, rfl⟩⟩; refine ⟨_, rfl, ?_⟩))
           go_ret
           exact ⟨zre, zg HB⟩
     ·replace c35 := Bool.eq_false_iff.mpr c35
      subst c35
      have H1 : (some false) = some r := by rw [if_neg (show ¬ (false = true) by decide)] at H; exact H
      clear H
      have H := H1
      clear H1
      obtain rfl := Option.some.inj H
      try go_wp2
      have n0_ := Aside0.mk (Kd.R_drew HO_4.out)
      have n1_ := Aside0.mk (Kd.R_drew HO_7.out)
      have n2_ := Aside0.mk (Kd.S_drew HO_439004.out)
      have n3_ := Aside0.mk (blk_drew BK418.out)
      have n4_ := Aside0.mk (blk_drew BK438.out)
      have n5_ := Aside0.mk (below_drew1 HB.out)
      clear HO_4
      clear HO_7
      clear HO_439004
      clear BK418
      clear BK438
      clear HB
      have HO_4 := n0_
      have HO_7 := n1_
      have HO_439004 := n2_
      have BK418 := n3_
      have BK438 := n4_
      have HB := n5_
      clear n0_ n1_ n2_ n3_ n4_ n5_
      refine start_ (n := 5) (S := fun w' => w'.cell? ⟨gb438, 0, none⟩ = some (.int .i64 t431) ∧ w'.cell? ⟨gb438, 1, none⟩ = some (.int .i64 t432) ∧ w'.cell? ⟨gb438, 2, none⟩ = some (.string t433) ∧ w'.cell? ⟨gb438, 3, none⟩ = some (.string t434) ∧ w'.cell? ⟨gb438, 4, none⟩ = some (.slice Ao24 t435.length co24) ∧ w'.cell? ⟨gb418, 0, none⟩ = some (.int .i64 a0_0) ∧ w'.cell? ⟨gb418, 1, none⟩ = some (.int .i64 a0_1) ∧ w'.cell? ⟨gb418, 2, none⟩ = some (.string a0_2) ∧ w'.cell? ⟨gb418, 3, none⟩ = some (.string a0_3) ∧ w'.cell? ⟨gb418, 4, none⟩ = some (.slice A0_4 l0_4.length c0_4)) (ds := []) #[false, false, false, false, false] (by kernel_rfl) rfl rfl ⟨(blk_cell BK438.out 0).trans rfl, (blk_cell BK438.out 1).trans rfl, (blk_cell BK438.out 2).trans rfl, (blk_cell BK438.out 3).trans rfl, (blk_cell BK438.out 4).trans rfl, (blk_cell BK418.out 0).trans rfl, (blk_cell BK418.out 1).trans rfl, (blk_cell BK418.out 2).trans rfl, (blk_cell BK418.out 3).trans rfl, (blk_cell BK418.out 4).trans rfl⟩ (fun hHeld => ?_)
      generalize wc.drew = w81 at HO_4 HO_7 HO_439004 BK418 BK438 HB hHeld ⊢
      refine take_ (i := 0) (N := some 41) (v := ?_) (a' := ?_) #[true, false, false, false, false] rfl rfl (by kernel_rfl) (fun _ _ _ h => h) (Or.inl ⟨by rfl, ?_⟩) hHeld ?_ ?_
      rotate_left
      ·rintro w' ⟨s0, s1, s2, s3, s4, s5, s6, s7, s8, s9⟩
       go_simp
       with_reducible rfl
      rotate_left
      ·simp only [Act.put, List.setIfInBounds_toArray, List.set_cons_zero, List.set_cons_succ, i64_w, i32_w]
       rfl
      refine take_ (i := 1) (N := some 42) (v := ?_) (a' := ?_) #[true, true, false, false, false] rfl rfl (by kernel_rfl) (fun _ _ _ h => h) (Or.inl ⟨by rfl, ?_⟩) hHeld ?_ ?_
      rotate_left
      ·rintro w' ⟨s0, s1, s2, s3, s4, s5, s6, s7, s8, s9⟩
       go_simp
       with_reducible rfl
      rotate_left
      ·simp only [Act.put, List.setIfInBounds_toArray, List.set_cons_zero, List.set_cons_succ, i64_w, i32_w]
       rfl
      refine one_ (i := 2) (N := some 43) #[true, true, true, false, false] rfl rfl (by kernel_rfl) (by decide) (fun K hK => ?_)
      refine goes_ Try.func23 (by kernel_rfl) rfl #[.agg #[.int .i64 a0_0, .int .i64 a0_1, .string a0_2, .string a0_3, .slice A0_4 l0_4.length c0_4]] (by rfl) rfl rfl zar ?_
      with_reducible refine (laws_toRecord.calls kj10 a0_0 a0_1 a0_2 a0_3 _ _ l0_4 t444 t445 t446 t447 t448 _ ?side1 ?side2 A33.out).mono ?_
      (case side1 => repeat (first | exact (Kd.C_below HR0_4.out HB.out) | (with_reducible refine Kd.C_alloc ?_ _) | (with_reducible refine Kd.C_drewN ?_ _) | (with_reducible refine Kd.C_drew ?_)))
      (case side2 => exact HC0_4.out)
      rintro e w82 ⟨v449, rfl, ho0, hb⟩
      refine ⟨_, rfl, ?_⟩
      have n0_ := Aside0.mk (Kd.R_below (zr HO_4) hb)
      have n1_ := Aside0.mk (Kd.R_below (zr HO_7) hb)
      have n2_ := Aside0.mk (Kd.S_elder' (zs HO_439004) (Kd.S_base ho0) hb)
      have n3_ := Aside0.mk (Kd.S_lower (Kd.S_new' ho0 (Kd.S_lt (zs HO_439004))) (below_size (zg HB)))
      have n4_ := Aside0.mk (blk_below (zb BK418) hb)
      have n5_ := Aside0.mk (blk_below (zb BK438) hb)
      have n6_ := Aside0.mk (below_step (zg HB) hb)
      clear HO_4
      clear HO_7
      clear HO_439004
      clear BK418
      clear BK438
      clear HB
      have HO_4 := n0_
      have HO_7 := n1_
      have HO_439004 := n2_
      have HO450 := n3_
      have BK418 := n4_
      have BK438 := n5_
      have HB := n6_
      clear n0_ n1_ n2_ n3_ n4_ n5_ n6_
      (try clear hb)
      (try clear hb2)
      (try clear hk)
      (try clear hi)
      (try clear ho0)
      obtain ⟨Ao83, co83, eo83⟩ := Kd.S_slice HO450.out
      (first | subst eo83 | (injection eo83 with f1_ f2_ f3_; have f4_ := f1_.symm; have f5_ := f3_.symm; clear f1_ f2_ f3_; subst f4_; subst f5_))
      refine hK.out _ _ ⟨(blk_cell BK438.out 0).trans rfl, (blk_cell BK438.out 1).trans rfl, (blk_cell BK438.out 2).trans rfl, (blk_cell BK438.out 3).trans rfl, (blk_cell BK438.out 4).trans rfl, (blk_cell BK418.out 0).trans rfl, (blk_cell BK418.out 1).trans rfl, (blk_cell BK418.out 2).trans rfl, (blk_cell BK418.out 3).trans rfl, (blk_cell BK418.out 4).trans rfl⟩ (fun hHeld => ?_)
      clear hK K
      refine norm_ (a' := ?_) ?_ ?_
      rotate_left
      ·show Act.put _ (some 43) _ = _
       simp only [Act.put, List.setIfInBounds_toArray, List.set_cons_zero, List.set_cons_succ, i64_w, i32_w]
       rfl
      refine one_ (i := 3) (N := some 44) #[true, true, true, true, false] rfl rfl (by kernel_rfl) (by decide) (fun K hK => ?_)
      refine goes_ Try.func25 (by kernel_rfl) rfl #[.agg #[.int .i64 t431, .int .i64 t432, .string t433, .string t434, .slice Ao24 t435.length co24], .agg #[.int .i64 t444, .int .i64 t445, .string t446, .string t447, .slice Ao83 t448.length co83]] (by rfl) rfl rfl zar ?_
      with_reducible refine (laws_eqRecord.calls kj10 t431 t432 t433 t434 _ _ t435 t444 t445 t446 t447 _ _ t448 false _ ?side1 ?side2 ?side3 ?side4 A34.out).mono ?_
      (case side1 => repeat (first | exact (Kd.S_reads' HO_439004.out).2.2 | (with_reducible refine Kd.C_alloc ?_ _) | (with_reducible refine Kd.C_drewN ?_ _) | (with_reducible refine Kd.C_drew ?_)))
      (case side2 => exact (Kd.S_reads' HO_439004.out).2.1)
      (case side3 => repeat (first | exact (Kd.S_reads' HO450.out).2.2 | (with_reducible refine Kd.C_alloc ?_ _) | (with_reducible refine Kd.C_drewN ?_ _) | (with_reducible refine Kd.C_drew ?_)))
      (case side4 => exact (Kd.S_reads' HO450.out).2.1)
      rintro e w84 ⟨rfl, hb⟩
      refine ⟨_, rfl, ?_⟩
      have n0_ := Aside0.mk (Kd.R_below (zr HO_4) hb)
      have n1_ := Aside0.mk (Kd.R_below (zr HO_7) hb)
      have n2_ := Aside0.mk (Kd.S_below (zs HO_439004) hb)
      have n3_ := Aside0.mk (Kd.S_below (zs HO450) hb)
      have n4_ := Aside0.mk (blk_below (zb BK418) hb)
      have n5_ := Aside0.mk (blk_below (zb BK438) hb)
      have n6_ := Aside0.mk (below_step (zg HB) hb)
      clear HO_4
      clear HO_7
      clear HO_439004
      clear HO450
      clear BK418
      clear BK438
      clear HB
      have HO_4 := n0_
      have HO_7 := n1_
      have HO_439004 := n2_
      have HO450 := n3_
      have BK418 := n4_
      have BK438 := n5_
      have HB := n6_
      clear n0_ n1_ n2_ n3_ n4_ n5_ n6_
      (try clear hb)
      (try clear hb2)
      (try clear hk)
      (try clear hi)
      refine hK.out _ _ ⟨(blk_cell BK438.out 0).trans rfl, (blk_cell BK438.out 1).trans rfl, (blk_cell BK438.out 2).trans rfl, (blk_cell BK438.out 3).trans rfl, (blk_cell BK438.out 4).trans rfl, (blk_cell BK418.out 0).trans rfl, (blk_cell BK418.out 1).trans rfl, (blk_cell BK418.out 2).trans rfl, (blk_cell BK418.out 3).trans rfl, (blk_cell BK418.out 4).trans rfl⟩ (fun hHeld => ?_)
      clear hK K
      refine norm_ (a' := ?_) ?_ ?_
      rotate_left
      ·show Act.put _ (some 44) _ = _
       simp only [Act.put, List.setIfInBounds_toArray, List.set_cons_zero, List.set_cons_succ, i64_w, i32_w]
       rfl
      refine pure_ (i := 4) (N := some 45) (v := ?_) (a' := ?_) #[true, true, true, true, true] rfl rfl (by kernel_rfl) (fun _ _ _ h => h) (Or.inl ⟨by rfl, ?_⟩) ?_ ?_
      rotate_left
      ·intro w'
       go_simp
       with_reducible rfl
      rotate_left
      ·simp only [Act.put, List.setIfInBounds_toArray, List.set_cons_zero, List.set_cons_succ, i64_w, i32_w]
       rfl
      refine done_ (by kernel_rfl) ?_
      try go_wp2
      go_ret
      exact ⟨zre, zg HB⟩

end Go.Proofs.Ytnpdmleglcbobaa.XFnExactRecordBytes
