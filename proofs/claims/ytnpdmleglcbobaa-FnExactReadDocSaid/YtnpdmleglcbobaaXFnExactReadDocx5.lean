-- A text of this session: written by its own program (wip/x/xprint.py), which runs the kit's printer with contracts of its own.
import Derived.Test.YtnpdmleglcbobaaXFnExactReadDocx0
import Derived.Test.YtnpdmleglcbobaaXFnExactReadDocx3
import Derived.Test.YtnpdmleglcbobaaXFnExactReadDocx4
namespace Go.Proofs.Ytnpdmleglcbobaa.XFnExactReadDoc
open Go.RowKit Go.Proofs.YtnpdmleglcbobaaW.PrintWords Go.Proofs.YtnpdmleglcbobaaW.PrintLast Go.Proofs.YtnpdmleglcbobaaW.PrintMore
attribute [local go_sem] max2_int min2_int max_two min_two max_three min_three max_four min_four   -- for this text's walks alone
set_option linter.unusedVariables false
set_option linter.unusedSimpArgs false
def fl5_ (n m : Nat) : Array Bool := ((List.range n).map fun i => m.testBit i).toArray

/-! ### spec_l06Reader_doc: function 43 -/
mutual
def spec_l06Reader_doc.l0 : Nat → Int → List Int → Int → Bool → ByteArray → List (S66) → Option (ByteArray × (List (S66)) × Int × Bool)
 | 0, _, _, _, _, _, _ => none
 | k + 1, x4, x1000, x1001, x1002, x139000, x139001 => if x4 > 0 then (spec_l06Reader_doc.j1 k x4 (!x1002) x1000 x1001 x1002 x139000 x139001) else (spec_l06Reader_doc.j1 k x4 false x1000 x1001 x1002 x139000 x139001)
def spec_l06Reader_doc.j1 : Nat → Int → Bool → List Int → Int → Bool → ByteArray → List (S66) → Option (ByteArray × (List (S66)) × Int × Bool)
 | 0, _, _, _, _, _, _, _ => none
 | k + 1, x4, x21, x1000, x1001, x1002, x139000, x139001 => if x21 = true then ((spec_l06Reader_text.f k x1000 x1001 x1002).bind fun bt142 => ((spec_l06Reader_count.f k x1000 bt142.2.1 bt142.2.2).bind fun bt146 => (spec_l06Reader_doc.l1 k x4 bt146.1 x1000 bt146.2.1 bt146.2.2 x139000 x139001 bt142.1 ([] : List ByteArray)))) else (some (x139000, x139001, x1001, x1002))
def spec_l06Reader_doc.j3 : Nat → Int → List Int → Int → Bool → ByteArray → List (S66) → ByteArray → List ByteArray → Option (ByteArray × (List (S66)) × Int × Bool)
 | 0, _, _, _, _, _, _, _, _ => none
 | k + 1, x4, x1000, x1001, x1002, x139000, x139001, x146000, x146001 => (spec_l06Reader_count.f k x1000 x1001 x1002).bind fun bt155 => (spec_l06Reader_doc.l2 k x4 bt155.1 x1000 bt155.2.1 bt155.2.2 x139000 x139001 x146000 x146001 ([] : List Int))
def spec_l06Reader_doc.l2 : Nat → Int → Int → List Int → Int → Bool → ByteArray → List (S66) → ByteArray → List ByteArray → List Int → Option (ByteArray × (List (S66)) × Int × Bool)
 | 0, _, _, _, _, _, _, _, _, _, _ => none
 | k + 1, x4, x7, x1000, x1001, x1002, x139000, x139001, x146000, x146001, x146002 => if x7 > 0 then (if x1002 = true then (if x139001.length < 2199023255552 then (spec_l06Reader_doc.l0 k (wrap64 (x4 - 1)) x1000 x1001 x1002 x139000 (x139001 ++ [(⟨x146000, x146001, x146002⟩ : S66)])) else (none)) else ((spec_l06Reader_number.f k x1000 x1001 x1002).bind fun bt161 => (if x146002.length < 17592186044416 then (spec_l06Reader_doc.l2 k x4 (wrap64 (x7 - 1)) x1000 bt161.2.1 bt161.2.2 x139000 x139001 x146000 x146001 (x146002 ++ [bt161.1])) else (none)))) else (if x139001.length < 2199023255552 then (spec_l06Reader_doc.l0 k (wrap64 (x4 - 1)) x1000 x1001 x1002 x139000 (x139001 ++ [(⟨x146000, x146001, x146002⟩ : S66)])) else (none))
def spec_l06Reader_doc.l1 : Nat → Int → Int → List Int → Int → Bool → ByteArray → List (S66) → ByteArray → List ByteArray → Option (ByteArray × (List (S66)) × Int × Bool)
 | 0, _, _, _, _, _, _, _, _, _ => none
 | k + 1, x4, x6, x1000, x1001, x1002, x139000, x139001, x146000, x146001 => if x6 > 0 then (if x1002 = true then (spec_l06Reader_doc.j3 k x4 x1000 x1001 x1002 x139000 x139001 x146000 x146001) else ((spec_l06Reader_text.f k x1000 x1001 x1002).bind fun bt149 => (if x146001.length < 8796093022208 then (spec_l06Reader_doc.l1 k x4 (wrap64 (x6 - 1)) x1000 bt149.2.1 bt149.2.2 x139000 x139001 x146000 (x146001 ++ [bt149.1])) else (none)))) else (spec_l06Reader_doc.j3 k x4 x1000 x1001 x1002 x139000 x139001 x146000 x146001)
end
def spec_l06Reader_doc.f (k : Nat) (s0_0 : List Int) (s0_1 : Int) (s0_2 : Bool) : Option (ByteArray × (List (S66)) × Int × Bool) := (spec_l06Reader_text.f k s0_0 s0_1 s0_2).bind fun bt135 => ((spec_l06Reader_count.f k s0_0 bt135.2.1 bt135.2.2).bind fun bt139 => (spec_l06Reader_doc.l0 k bt139.1 s0_0 bt139.2.1 bt139.2.2 bt135.1 ([] : List (S66))))
theorem spec_l06Reader_doc.mono_l : ∀ k, (∀ y0 y1 y2 y3 y4 y5, LeO (spec_l06Reader_doc.l0 k y0 y1 y2 y3 y4 y5) (spec_l06Reader_doc.l0 (k + 1) y0 y1 y2 y3 y4 y5)) ∧ (∀ y0 y1 y2 y3 y4 y5 y6, LeO (spec_l06Reader_doc.j1 k y0 y1 y2 y3 y4 y5 y6) (spec_l06Reader_doc.j1 (k + 1) y0 y1 y2 y3 y4 y5 y6)) ∧ (∀ y0 y1 y2 y3 y4 y5 y6 y7, LeO (spec_l06Reader_doc.j3 k y0 y1 y2 y3 y4 y5 y6 y7) (spec_l06Reader_doc.j3 (k + 1) y0 y1 y2 y3 y4 y5 y6 y7)) ∧ (∀ y0 y1 y2 y3 y4 y5 y6 y7 y8 y9, LeO (spec_l06Reader_doc.l2 k y0 y1 y2 y3 y4 y5 y6 y7 y8 y9) (spec_l06Reader_doc.l2 (k + 1) y0 y1 y2 y3 y4 y5 y6 y7 y8 y9)) ∧ (∀ y0 y1 y2 y3 y4 y5 y6 y7 y8, LeO (spec_l06Reader_doc.l1 k y0 y1 y2 y3 y4 y5 y6 y7 y8) (spec_l06Reader_doc.l1 (k + 1) y0 y1 y2 y3 y4 y5 y6 y7 y8))
 | 0 => ⟨fun _ _ _ _ _ _ r h => by simp [spec_l06Reader_doc.l0] at h, fun _ _ _ _ _ _ _ r h => by simp [spec_l06Reader_doc.j1] at h, fun _ _ _ _ _ _ _ _ r h => by simp [spec_l06Reader_doc.j3] at h, fun _ _ _ _ _ _ _ _ _ _ r h => by simp [spec_l06Reader_doc.l2] at h, fun _ _ _ _ _ _ _ _ _ r h => by simp [spec_l06Reader_doc.l1] at h⟩
 | k + 1 => by
  obtain ⟨ih0, ih1, ih2, ih3, ih4⟩ := spec_l06Reader_doc.mono_l k
  refine ⟨?_, ?_, ?_, ?_, ?_⟩
  ·intro y0 y1 y2 y3 y4 y5
   unfold spec_l06Reader_doc.l0
   repeat' first
   | (with_reducible exact ih0 _ _ _ _ _ _)
   | (with_reducible exact ih1 _ _ _ _ _ _ _)
   | (with_reducible exact ih2 _ _ _ _ _ _ _ _)
   | (with_reducible exact ih3 _ _ _ _ _ _ _ _ _ _)
   | (with_reducible exact ih4 _ _ _ _ _ _ _ _ _)
   | (with_reducible exact spec_l06Reader_count.mono _ _ _ _)
   | (with_reducible exact spec_l06Reader_number.mono _ _ _ _)
   | (with_reducible exact spec_l06Reader_text.mono _ _ _ _)
   | (with_reducible exact LeO.refl _)
   | (with_reducible exact LeO.none _)
   | (with_reducible refine LeO.ite ?_ ?_)
   | (with_reducible refine LeO.bind ?_ (fun _ => ?_))
   | exact ih0 _ _ _ _ _ _
   | exact ih1 _ _ _ _ _ _ _
   | exact ih2 _ _ _ _ _ _ _ _
   | exact ih3 _ _ _ _ _ _ _ _ _ _
   | exact ih4 _ _ _ _ _ _ _ _ _
   | exact spec_l06Reader_count.mono _ _ _ _
   | exact spec_l06Reader_number.mono _ _ _ _
   | exact spec_l06Reader_text.mono _ _ _ _
   | exact LeO.none _
   | refine LeO.ite ?_ ?_
   | refine LeO.bind ?_ (fun _ => ?_)
  ·intro y0 y1 y2 y3 y4 y5 y6
   unfold spec_l06Reader_doc.j1
   repeat' first
   | (with_reducible exact ih0 _ _ _ _ _ _)
   | (with_reducible exact ih1 _ _ _ _ _ _ _)
   | (with_reducible exact ih2 _ _ _ _ _ _ _ _)
   | (with_reducible exact ih3 _ _ _ _ _ _ _ _ _ _)
   | (with_reducible exact ih4 _ _ _ _ _ _ _ _ _)
   | (with_reducible exact spec_l06Reader_count.mono _ _ _ _)
   | (with_reducible exact spec_l06Reader_number.mono _ _ _ _)
   | (with_reducible exact spec_l06Reader_text.mono _ _ _ _)
   | (with_reducible exact LeO.refl _)
   | (with_reducible exact LeO.none _)
   | (with_reducible refine LeO.ite ?_ ?_)
   | (with_reducible refine LeO.bind ?_ (fun _ => ?_))
   | exact ih0 _ _ _ _ _ _
   | exact ih1 _ _ _ _ _ _ _
   | exact ih2 _ _ _ _ _ _ _ _
   | exact ih3 _ _ _ _ _ _ _ _ _ _
   | exact ih4 _ _ _ _ _ _ _ _ _
   | exact spec_l06Reader_count.mono _ _ _ _
   | exact spec_l06Reader_number.mono _ _ _ _
   | exact spec_l06Reader_text.mono _ _ _ _
   | exact LeO.none _
   | refine LeO.ite ?_ ?_
   | refine LeO.bind ?_ (fun _ => ?_)
  ·intro y0 y1 y2 y3 y4 y5 y6 y7
   unfold spec_l06Reader_doc.j3
   repeat' first
   | (with_reducible exact ih0 _ _ _ _ _ _)
   | (with_reducible exact ih1 _ _ _ _ _ _ _)
   | (with_reducible exact ih2 _ _ _ _ _ _ _ _)
   | (with_reducible exact ih3 _ _ _ _ _ _ _ _ _ _)
   | (with_reducible exact ih4 _ _ _ _ _ _ _ _ _)
   | (with_reducible exact spec_l06Reader_count.mono _ _ _ _)
   | (with_reducible exact spec_l06Reader_number.mono _ _ _ _)
   | (with_reducible exact spec_l06Reader_text.mono _ _ _ _)
   | (with_reducible exact LeO.refl _)
   | (with_reducible exact LeO.none _)
   | (with_reducible refine LeO.ite ?_ ?_)
   | (with_reducible refine LeO.bind ?_ (fun _ => ?_))
   | exact ih0 _ _ _ _ _ _
   | exact ih1 _ _ _ _ _ _ _
   | exact ih2 _ _ _ _ _ _ _ _
   | exact ih3 _ _ _ _ _ _ _ _ _ _
   | exact ih4 _ _ _ _ _ _ _ _ _
   | exact spec_l06Reader_count.mono _ _ _ _
   | exact spec_l06Reader_number.mono _ _ _ _
   | exact spec_l06Reader_text.mono _ _ _ _
   | exact LeO.none _
   | refine LeO.ite ?_ ?_
   | refine LeO.bind ?_ (fun _ => ?_)
  ·intro y0 y1 y2 y3 y4 y5 y6 y7 y8 y9
   unfold spec_l06Reader_doc.l2
   repeat' first
   | (with_reducible exact ih0 _ _ _ _ _ _)
   | (with_reducible exact ih1 _ _ _ _ _ _ _)
   | (with_reducible exact ih2 _ _ _ _ _ _ _ _)
   | (with_reducible exact ih3 _ _ _ _ _ _ _ _ _ _)
   | (with_reducible exact ih4 _ _ _ _ _ _ _ _ _)
   | (with_reducible exact spec_l06Reader_count.mono _ _ _ _)
   | (with_reducible exact spec_l06Reader_number.mono _ _ _ _)
   | (with_reducible exact spec_l06Reader_text.mono _ _ _ _)
   | (with_reducible exact LeO.refl _)
   | (with_reducible exact LeO.none _)
   | (with_reducible refine LeO.ite ?_ ?_)
   | (with_reducible refine LeO.bind ?_ (fun _ => ?_))
   | exact ih0 _ _ _ _ _ _
   | exact ih1 _ _ _ _ _ _ _
   | exact ih2 _ _ _ _ _ _ _ _
   | exact ih3 _ _ _ _ _ _ _ _ _ _
   | exact ih4 _ _ _ _ _ _ _ _ _
   | exact spec_l06Reader_count.mono _ _ _ _
   | exact spec_l06Reader_number.mono _ _ _ _
   | exact spec_l06Reader_text.mono _ _ _ _
   | exact LeO.none _
   | refine LeO.ite ?_ ?_
   | refine LeO.bind ?_ (fun _ => ?_)
  ·intro y0 y1 y2 y3 y4 y5 y6 y7 y8
   unfold spec_l06Reader_doc.l1
   repeat' first
   | (with_reducible exact ih0 _ _ _ _ _ _)
   | (with_reducible exact ih1 _ _ _ _ _ _ _)
   | (with_reducible exact ih2 _ _ _ _ _ _ _ _)
   | (with_reducible exact ih3 _ _ _ _ _ _ _ _ _ _)
   | (with_reducible exact ih4 _ _ _ _ _ _ _ _ _)
   | (with_reducible exact spec_l06Reader_count.mono _ _ _ _)
   | (with_reducible exact spec_l06Reader_number.mono _ _ _ _)
   | (with_reducible exact spec_l06Reader_text.mono _ _ _ _)
   | (with_reducible exact LeO.refl _)
   | (with_reducible exact LeO.none _)
   | (with_reducible refine LeO.ite ?_ ?_)
   | (with_reducible refine LeO.bind ?_ (fun _ => ?_))
   | exact ih0 _ _ _ _ _ _
   | exact ih1 _ _ _ _ _ _ _
   | exact ih2 _ _ _ _ _ _ _ _
   | exact ih3 _ _ _ _ _ _ _ _ _ _
   | exact ih4 _ _ _ _ _ _ _ _ _
   | exact spec_l06Reader_count.mono _ _ _ _
   | exact spec_l06Reader_number.mono _ _ _ _
   | exact spec_l06Reader_text.mono _ _ _ _
   | exact LeO.none _
   | refine LeO.ite ?_ ?_
   | refine LeO.bind ?_ (fun _ => ?_)
theorem spec_l06Reader_doc.mono : ∀ a0 a1 a2 k, LeO (spec_l06Reader_doc.f k a0 a1 a2) (spec_l06Reader_doc.f (k + 1) a0 a1 a2) := by
 intro a0 a1 a2 k
 obtain ⟨ih0, ih1, ih2, ih3, ih4⟩ := spec_l06Reader_doc.mono_l k
 unfold spec_l06Reader_doc.f
 repeat' first
  | (with_reducible exact ih0 _ _ _ _ _ _)
  | (with_reducible exact ih1 _ _ _ _ _ _ _)
  | (with_reducible exact ih2 _ _ _ _ _ _ _ _)
  | (with_reducible exact ih3 _ _ _ _ _ _ _ _ _ _)
  | (with_reducible exact ih4 _ _ _ _ _ _ _ _ _)
  | (with_reducible exact spec_l06Reader_count.mono _ _ _ _)
  | (with_reducible exact spec_l06Reader_number.mono _ _ _ _)
  | (with_reducible exact spec_l06Reader_text.mono _ _ _ _)
  | (with_reducible exact LeO.refl _)
  | (with_reducible exact LeO.none _)
  | (with_reducible refine LeO.ite ?_ ?_)
  | (with_reducible refine LeO.bind ?_ (fun _ => ?_))
  | exact ih0 _ _ _ _ _ _
  | exact ih1 _ _ _ _ _ _ _
  | exact ih2 _ _ _ _ _ _ _ _
  | exact ih3 _ _ _ _ _ _ _ _ _ _
  | exact ih4 _ _ _ _ _ _ _ _ _
  | exact spec_l06Reader_count.mono _ _ _ _
  | exact spec_l06Reader_number.mono _ _ _ _
  | exact spec_l06Reader_text.mono _ _ _ _
  | exact LeO.none _
  | refine LeO.ite ?_ ?_
  | refine LeO.bind ?_ (fun _ => ?_)
def spec_l06Reader_doc.T9 : Bool × List (List Nat × List Nat) := (true, [([], []), ([0], [0]), ([], []), ([2], [2]), ([3], [3]), ([1, 4, 3], [1, 4]), ([0, 1, 2, 3, 4, 5], []), ([6, 5, 5, 0, 1, 2, 3, 4, 5], [5, 6])])
def spec_l06Reader_doc.B9 : List Nat := [0, 1, 0, 4, 12, 31, 63, 127]
theorem spec_l06Reader_doc.tab9 : rtab .any (opsOf Try.f43 9) = spec_l06Reader_doc.T9 := by kernel_rfl
theorem spec_l06Reader_doc.bits9 : waitsOk spec_l06Reader_doc.T9.2 spec_l06Reader_doc.B9 = true := by kernel_rfl
def spec_l06Reader_doc.T13 : Bool × List (List Nat × List Nat) := (true, [([], []), ([0], [0]), ([], []), ([2], [2]), ([3], [3]), ([1, 4, 3], [1, 4]), ([0, 1, 2, 3, 4, 5], []), ([6, 5, 5, 0, 1, 2, 3, 4, 5], [5, 6])])
def spec_l06Reader_doc.B13 : List Nat := [0, 1, 0, 4, 12, 31, 63, 127]
theorem spec_l06Reader_doc.tab13 : rtab .any (opsOf Try.f43 13) = spec_l06Reader_doc.T13 := by kernel_rfl
theorem spec_l06Reader_doc.bits13 : waitsOk spec_l06Reader_doc.T13.2 spec_l06Reader_doc.B13 = true := by kernel_rfl
set_option maxHeartbeats 8000000 in
set_option maxRecDepth 100000 in
theorem spec_l06Reader_doc.calls (k : Nat) (g : Nat) (s0_0 : List Int) (s0_1 : Int) (s0_2 : Bool) (r1 : ByteArray) (r2 : List (S66)) (r3 : Int) (r4 : Bool) (w0 w : World) (hI : IsS74 w0 w g s0_0 s0_1 s0_2) (hB : Below w0.heap.size w0 w) (h : spec_l06Reader_doc.f k s0_0 s0_1 s0_2 = some (r1, r2, r3, r4)) :
 Calls Try.prog 43 #[.pointer (some ⟨g, 0, none⟩)] w fun e w' => ∃ v1_ : Value, e = .returned (.agg #[.string r1, v1_]) ∧ Kd.S k66 66 w' w.heap.size (fun _ => True) v1_ r2 ∧ IsS74 w0 w' g s0_0 r3 r4 ∧ Below w0.heap.size w0 w' ∧ KeepBut w w' g none := by
 have hu31 := Try.underlying31
 have hu66 := Try.underlying66
 have HI0 := Aside0.mk hI
 have HK := Aside0.mk (KeepBut.refl w g none)
 have HL := Aside0.mk hB.size
 clear hI
 have HW0 := Aside0.mk hB.size
 have HB := Aside0.mk hB
 clear hB
 have H : ((spec_l06Reader_text.f k s0_0 s0_1 s0_2).bind fun bt135 => ((spec_l06Reader_count.f k s0_0 bt135.2.1 bt135.2.2).bind fun bt139 => (spec_l06Reader_doc.l0 k bt139.1 s0_0 bt139.2.1 bt139.2.2 bt135.1 ([] : List (S66))))) = some (r1, r2, r3, r4) := h
 clear h
 replace H := Option.bind_eq_some_iff.mp H
 obtain ⟨⟨t135, t136, t137⟩, A20, H⟩ := H
 replace H : ((spec_l06Reader_count.f k s0_0 t136 t137).bind fun bt139 => (spec_l06Reader_doc.l0 k bt139.1 s0_0 bt139.2.1 bt139.2.2 t135 ([] : List (S66)))) = some (r1, r2, r3, r4) := H
 have A2 := Aside0.mk A20
 clear A20
 replace H := Option.bind_eq_some_iff.mp H
 obtain ⟨⟨t139, t140, t141⟩, A30, H⟩ := H
 replace H : (spec_l06Reader_doc.l0 k t139 s0_0 t140 t141 t135 ([] : List (S66))) = some (r1, r2, r3, r4) := H
 have A3 := Aside0.mk A30
 clear A30
 have H' := Aside0.mk H
 clear H
 go_enter Try.func43, Try.ntmps43
 go_wp2_with (first | ((with_reducible refine gate_dst (N := 2) rfl ?_); refine box_event ?hg (N := 2) ?hd (cs := #[.string (⟨#[]⟩ : ByteArray), .slice none 0 0]) (t := 31) ?hr ?_; (case hd => rfl); (case hg => rfl); (case hr => first | (go_simp; done) | (go_simp; rfl)); intro gb134 hg w4 hbox hb; have n0_ := Aside0.mk (IsS74.below (by repeat (first | (with_reducible first | exact HI0.out | apply IsS74.alloc | apply IsS74.drewN | apply IsS74.drew | apply IsS74.set_1 | apply IsS74.set_2) | exact HI0.out)) hb); have n1_ := Aside0.mk (KeepBut.trans (by repeat (first | (with_reducible first | exact HK.out | apply KeepBut.set_ | apply keep_drewN | apply keep_drew | apply keep_alloc) | exact HK.out)) (KeepBut.of_below hb g none) (.inl rfl)); have n2_ := Aside0.mk (below_step (by repeat (first | (with_reducible first | exact HB.out | apply below_alloc | apply pw_below_drewN | apply below_drew1 | refine below_set ?_ (IsS74.ge HI0.out)) | exact HB.out)) hb); have n3_ := Aside0.mk (hbox); have n4_ := Aside0.mk ((by rw [hg]; exact (keep_size (w := w) (g := g) (row := none) (by repeat (first | (with_reducible first | exact HK.out | apply KeepBut.set_ | apply keep_drewN | apply keep_drew | apply keep_alloc) | exact HK.out))) : w.heap.size ≤ gb134)); have n5_ := Aside0.mk ((Nat.le_trans HW0.out (by rw [hg]; exact (keep_size (w := w) (g := g) (row := none) (by repeat (first | (with_reducible first | exact HK.out | apply KeepBut.set_ | apply keep_drewN | apply keep_drew | apply keep_alloc) | exact HK.out))) : w.heap.size ≤ gb134) : w0.heap.size ≤ gb134)); have n6_ := Aside0.mk ((by rw [hg]; exact Nat.ne_of_lt (IsS74.lt (show IsS74 w0 _ g s0_0 s0_1 s0_2 from by repeat (first | (with_reducible first | exact HI0.out | apply IsS74.alloc | apply IsS74.drewN | apply IsS74.drew | apply IsS74.set_1 | apply IsS74.set_2) | exact HI0.out))) : g ≠ gb134)); have n7_ := Aside0.mk ((by rw [hg]; exact Nat.ne_of_gt (IsS74.lt (show IsS74 w0 _ g s0_0 s0_1 s0_2 from by repeat (first | (with_reducible first | exact HI0.out | apply IsS74.alloc | apply IsS74.drewN | apply IsS74.drew | apply IsS74.set_1 | apply IsS74.set_2) | exact HI0.out))) : gb134 ≠ g)); clear HI0; clear HK; clear HB; have HI0 := n0_; have HK := n1_; have HB := n2_; have BK134 := n3_; have GW134 := n4_; have GE134 := n5_; have NB0_134 := n6_; have NB134_0 := n7_; clear n0_ n1_ n2_ n3_ n4_ n5_ n6_ n7_; clear hb hbox hg) | ((with_reducible refine gate_callee (f := 69) rfl ?_); refine goesL_ (some 9) rfl rfl Try.func69 (by kernel_rfl) rfl #[.pointer (some ⟨g, 0, none⟩)] rfl zar ?_; (with_reducible refine (spec_l06Reader_text.calls k g s0_0 s0_1 s0_2 t135 t136 t137 w0 _ ?side1 ?side2 A2.out).mono ?_); (case side1 => repeat (first | (with_reducible first | exact HI0.out | apply IsS74.alloc | apply IsS74.drewN | apply IsS74.drew | apply IsS74.set_1 | apply IsS74.set_2 | refine IsS74.far ?_ NB0_134.out _) | exact HI0.out)); (case side2 => repeat (first | (with_reducible first | exact HB.out | apply below_alloc | apply pw_below_drewN | apply below_drew1 | refine below_set ?_ (IsS74.ge HI0.out) | refine below_set ?_ GE134.out) | exact HB.out)); rintro e w5 ⟨rfl, hi, hb, hk⟩; refine ⟨_, rfl, ?_⟩; have n0_ := Aside0.mk (KeepBut.blk hk (g' := gb134) (o := .cells #[.string (⟨#[]⟩ : ByteArray), .slice none 0 0] 31 (0, 0)) (zb BK134) NB134_0.out (by simp)); have n1_ := Aside0.mk (KeepBut.trans (by repeat (first | (with_reducible first | exact HK.out | apply KeepBut.set_ | apply keep_drewN | apply keep_drew | apply keep_alloc | refine keep_far ?_ GW134.out _) | exact HK.out)) hk (.inl rfl)); have n2_ := Aside0.mk (hb); have n3_ := Aside0.mk (hi); clear BK134; clear HK; clear HB; clear HI0; have BK134 := n0_; have HK := n1_; have HB := n2_; have HI0 := n3_; clear n0_ n1_ n2_ n3_; (try clear hb); (try clear hb2); (try clear hk); (try clear hi)) | ((with_reducible refine gate_dst (N := 3) rfl ?_); refine box_event ?hg (N := 3) ?hd (cs := #[.string (⟨#[]⟩ : ByteArray), .slice none 0 0]) (t := 31) ?hr ?_; (case hd => rfl); (case hg => rfl); (case hr => first | (go_simp; done) | (go_simp; rfl)); intro gb138 hg w6 hbox hb; have n0_ := Aside0.mk (IsS74.below (by repeat (first | (with_reducible first | exact HI0.out | apply IsS74.alloc | apply IsS74.drewN | apply IsS74.drew | apply IsS74.set_1 | apply IsS74.set_2 | refine IsS74.far ?_ NB0_134.out _) | exact HI0.out)) hb); have n1_ := Aside0.mk (blk_below (zb BK134) hb); have n2_ := Aside0.mk (KeepBut.trans (by repeat (first | (with_reducible first | exact HK.out | apply KeepBut.set_ | apply keep_drewN | apply keep_drew | apply keep_alloc | refine keep_far ?_ GW134.out _) | exact HK.out)) (KeepBut.of_below hb g none) (.inl rfl)); have n3_ := Aside0.mk (below_step (by repeat (first | (with_reducible first | exact HB.out | apply below_alloc | apply pw_below_drewN | apply below_drew1 | refine below_set ?_ (IsS74.ge HI0.out) | refine below_set ?_ GE134.out) | exact HB.out)) hb); have n4_ := Aside0.mk (hbox); have n5_ := Aside0.mk ((by rw [hg]; exact (keep_size (w := w) (g := g) (row := none) (by repeat (first | (with_reducible first | exact HK.out | apply KeepBut.set_ | apply keep_drewN | apply keep_drew | apply keep_alloc | refine keep_far ?_ GW134.out _) | exact HK.out))) : w.heap.size ≤ gb138)); have n6_ := Aside0.mk ((Nat.le_trans HW0.out (by rw [hg]; exact (keep_size (w := w) (g := g) (row := none) (by repeat (first | (with_reducible first | exact HK.out | apply KeepBut.set_ | apply keep_drewN | apply keep_drew | apply keep_alloc | refine keep_far ?_ GW134.out _) | exact HK.out))) : w.heap.size ≤ gb138) : w0.heap.size ≤ gb138)); have n7_ := Aside0.mk ((by rw [hg]; exact Nat.ne_of_lt (blk_lt (zb BK134)) : gb134 ≠ gb138)); have n8_ := Aside0.mk ((by rw [hg]; exact Nat.ne_of_gt (blk_lt (zb BK134)) : gb138 ≠ gb134)); have n9_ := Aside0.mk ((by rw [hg]; exact Nat.ne_of_lt (IsS74.lt (show IsS74 w0 _ g s0_0 t136 t137 from by repeat (first | (with_reducible first | exact HI0.out | apply IsS74.alloc | apply IsS74.drewN | apply IsS74.drew | apply IsS74.set_1 | apply IsS74.set_2 | refine IsS74.far ?_ NB0_134.out _) | exact HI0.out))) : g ≠ gb138)); have n10_ := Aside0.mk ((by rw [hg]; exact Nat.ne_of_gt (IsS74.lt (show IsS74 w0 _ g s0_0 t136 t137 from by repeat (first | (with_reducible first | exact HI0.out | apply IsS74.alloc | apply IsS74.drewN | apply IsS74.drew | apply IsS74.set_1 | apply IsS74.set_2 | refine IsS74.far ?_ NB0_134.out _) | exact HI0.out))) : gb138 ≠ g)); clear HI0; clear BK134; clear HK; clear HB; have HI0 := n0_; have BK134 := n1_; have HK := n2_; have HB := n3_; have BK138 := n4_; have GW138 := n5_; have GE138 := n6_; have NB134_138 := n7_; have NB138_134 := n8_; have NB0_138 := n9_; have NB138_0 := n10_; clear n0_ n1_ n2_ n3_ n4_ n5_ n6_ n7_ n8_ n9_ n10_; clear hb hbox hg; have hnb7 := NB138_134.out; have hnc7 := NB134_138.out; have hnb8 := NB138_0.out; have hnc8 := NB0_138.out; have hcz9_0 : w6.cell? ⟨gb138, 0, none⟩ = some (.string (⟨#[]⟩ : ByteArray)) := (blk_cell BK138.out 0).trans rfl; have hcz9_1 : w6.cell? ⟨gb138, 1, none⟩ = some (.slice none 0 0) := (blk_cell BK138.out 1).trans rfl; have hfz9_0 := blk_frozen BK138.out 0; have hfz9_1 := blk_frozen BK138.out 1) | ((with_reducible refine gate_callee (f := 70) rfl ?_); refine goesL_ (some 12) rfl rfl Try.func70 (by kernel_rfl) rfl #[.pointer (some ⟨g, 0, none⟩)] rfl zar ?_; (with_reducible refine (spec_l06Reader_count.calls k g s0_0 t136 t137 t139 t140 t141 w0 _ ?side1 ?side2 A3.out).mono ?_); (case side1 => repeat (first | (with_reducible first | exact HI0.out | apply IsS74.alloc | apply IsS74.drewN | apply IsS74.drew | apply IsS74.set_1 | apply IsS74.set_2 | refine IsS74.far ?_ NB0_134.out _ | refine IsS74.far ?_ NB0_138.out _) | exact HI0.out)); (case side2 => repeat (first | (with_reducible first | exact HB.out | apply below_alloc | apply pw_below_drewN | apply below_drew1 | refine below_set ?_ (IsS74.ge HI0.out) | refine below_set ?_ GE134.out | refine below_set ?_ GE138.out) | exact HB.out)); rintro e w10 ⟨rfl, hi, hb, hk⟩; refine ⟨_, rfl, ?_⟩; have n0_ := Aside0.mk (KeepBut.blk hk (g' := gb134) (o := .cells #[.string (⟨#[]⟩ : ByteArray), .slice none 0 0] 31 (0, 0)) (by (with_reducible repeat (first | refine blk_drewN ?_ _ | refine blk_drew ?_ | refine blk_alloc ?_ _)); refine blk_far ?_ NB134_138.out _; (with_reducible repeat (first | refine blk_drewN ?_ _ | refine blk_drew ?_ | refine blk_alloc ?_ _)); refine blk_far ?_ NB134_138.out _; (with_reducible repeat (first | refine blk_drewN ?_ _ | refine blk_drew ?_ | refine blk_alloc ?_ _)); exact BK134.out) NB134_0.out (by simp)); have n1_ := Aside0.mk (KeepBut.blk hk (g' := gb138) (o := .cells #[.string t135, .slice none 0 0] 31 (0, 0)) (by (with_reducible repeat (first | refine blk_drewN ?_ _ | refine blk_drew ?_ | refine blk_alloc ?_ _)); refine blk_put (cs := #[.string t135, .slice none 0 0]) ?_ 1 _ rfl; (with_reducible repeat (first | refine blk_drewN ?_ _ | refine blk_drew ?_ | refine blk_alloc ?_ _)); refine blk_put (cs := #[.string (⟨#[]⟩ : ByteArray), .slice none 0 0]) ?_ 0 _ rfl; (with_reducible repeat (first | refine blk_drewN ?_ _ | refine blk_drew ?_ | refine blk_alloc ?_ _)); exact BK138.out) NB138_0.out (by simp)); have n2_ := Aside0.mk (KeepBut.trans (by repeat (first | (with_reducible first | exact HK.out | apply KeepBut.set_ | apply keep_drewN | apply keep_drew | apply keep_alloc | refine keep_far ?_ GW134.out _ | refine keep_far ?_ GW138.out _) | exact HK.out)) hk (.inl rfl)); have n3_ := Aside0.mk (hb); have n4_ := Aside0.mk (hi); clear BK134; clear BK138; clear HK; clear HB; clear HI0; have BK134 := n0_; have BK138 := n1_; have HK := n2_; have HB := n3_; have HI0 := n4_; clear n0_ n1_ n2_ n3_ n4_; (try clear hb); (try clear hb2); (try clear hk); (try clear hi)))
 go_loopg [4] k (fun kq v4 w' => ∃ (x4_1 : Int) (x1001_1 : Int) (x1002_1 : Bool) (x139001_1 : List (S66)) (u139001 : Value), v4 = .int .i64 x4_1 ∧ Aside0 (spec_l06Reader_doc.l0 kq x4_1 s0_0 x1001_1 x1002_1 t135 x139001_1 = some (r1, r2, r3, r4)) ∧ Aside0 (kq ≤ k) ∧ Aside0 (Kd.S k66 66 w' w.heap.size (fun _ => True) u139001 x139001_1) ∧ Aside0 (w'.heap[gb134]? = some (.cells #[.string (⟨#[]⟩ : ByteArray), (.slice none 0 0)] 31 (0, 0))) ∧ Aside0 (w'.heap[gb138]? = some (.cells #[.string t135, u139001] 31 (0, 0))) ∧ Aside0 (IsS74 w0 w' g s0_0 x1001_1 x1002_1) ∧ Aside0 (KeepBut w w' g none) ∧ Aside0 (Below w0.heap.size w0 w'))
 case atStart => exact ⟨(t139), (t140), (t141), (([] : List (S66))), (.slice none 0 0), (by first | rfl | (simp; done) | (simp [*]; done)), H', ⟨Nat.le_refl _⟩, ⟨by first | exact Kd.S_nil _ _ _ _ _ | exact Kd.N_nil _ _ _ _ _ | exact Kd.V_nil _ _ _ _ _ | exact Kd.Q_nil _ _ _ _ _ | exact Kd.R_nil _ _ _ _ _⟩, ⟨zb BK134⟩, ⟨zb BK138⟩, ⟨by repeat (first | (with_reducible first | exact HI0.out | apply IsS74.alloc | apply IsS74.drewN | apply IsS74.drew | apply IsS74.set_1 | apply IsS74.set_2 | refine IsS74.far ?_ NB0_134.out _ | refine IsS74.far ?_ NB0_138.out _) | exact HI0.out)⟩, ⟨by repeat (first | (with_reducible first | exact HK.out | apply KeepBut.set_ | apply keep_drewN | apply keep_drew | apply keep_alloc | refine keep_far ?_ GW134.out _ | refine keep_far ?_ GW138.out _) | exact HK.out)⟩, ⟨by repeat (first | (with_reducible first | exact HB.out | apply below_alloc | apply pw_below_drewN | apply below_drew1 | refine below_set ?_ (IsS74.ge HI0.out) | refine below_set ?_ GE134.out | refine below_set ?_ GE138.out) | exact HB.out)⟩⟩
 case round =>
  clear H'
  try clear p2
  try clear c4
  try clear c6
  try clear c7
  try clear c8
  try clear hcz9_0
  try clear hcz9_1
  try clear hfz9_0
  try clear hfz9_1
  obtain ⟨x4_1, x1001_1, x1002_1, x139001_1, u139001, rfl, HA, HK1, HO_139001, BK134, BK138, HI0, HK, HB⟩ := hrel
  cases gk with
  | zero => exact absurd HA.out (by simp [spec_l06Reader_doc.l0])
  | succ k1 =>
   have H := HA.out
   clear HA
   simp only [spec_l06Reader_doc.l0] at H
   have HC11 := Aside0.mk H
   clear H
   go_upto_region 3 with (fail)
   go_cut [21] (fun v21 wc => ∃ (kq : Nat) (x21_10 : Bool), v21 = .bool x21_10 ∧ Aside0 (spec_l06Reader_doc.j1 kq x4_1 x21_10 s0_0 x1001_1 x1002_1 t135 x139001_1 = some (r1, r2, r3, r4)) ∧ Aside0 (kq ≤ k1) ∧ Aside0 (Kd.S k66 66 wc w.heap.size (fun _ => True) u139001 x139001_1) ∧ Aside0 (wc.heap[gb134]? = some (.cells #[.string (⟨#[]⟩ : ByteArray), (.slice none 0 0)] 31 (0, 0))) ∧ Aside0 (wc.heap[gb138]? = some (.cells #[.string t135, u139001] 31 (0, 0))) ∧ Aside0 (IsS74 w0 wc g s0_0 x1001_1 x1002_1) ∧ Aside0 (KeepBut w wc g none) ∧ Aside0 (Below w0.heap.size w0 wc))
   case first =>
    have H := HC11.out
    clear HC11
    by_cases c12 : x4_1 > 0
    ·rw [if_pos c12] at H
     have c12b0 : decide (0 < x4_1) = true := decide_eq_true c12
     clear c12
     (first | rw [c12b0] | (simp only [i64_w, i32_w]; rw [c12b0]) | skip)
     have H' := Aside0.mk H
     clear H
     obtain ⟨ASz13_0, cSz13_0, HGz13, hgz13, HSz13_0⟩ := HI0.out
     have hcz13_0 := cellS74_0 HGz13
     have hcz13_1 := cellS74_1 HGz13
     have hcz13_2 := cellS74_2 HGz13
     have hfz13_1 := blk_frozen HGz13 1
     have hfz13_2 := blk_frozen HGz13 2
     clear HGz13 hgz13
     go_wp2
     go_meet
     case rel => exact ⟨_, (!x1002_1), (by first | rfl | (simp; done) | (simp [*]; done)), H', ⟨by have := HK1.out; first | omega | exact Nat.le_refl _⟩, ⟨zs HO_139001⟩, ⟨zb BK134⟩, ⟨zb BK138⟩, ⟨by repeat (first | (with_reducible first | exact HI0.out | apply IsS74.alloc | apply IsS74.drewN | apply IsS74.drew | apply IsS74.set_1 | apply IsS74.set_2 | refine IsS74.far ?_ NB0_134.out _ | refine IsS74.far ?_ NB0_138.out _) | exact HI0.out)⟩, ⟨by repeat (first | (with_reducible first | exact HK.out | apply KeepBut.set_ | apply keep_drewN | apply keep_drew | apply keep_alloc | refine keep_far ?_ GW134.out _ | refine keep_far ?_ GW138.out _) | exact HK.out)⟩, ⟨by repeat (first | (with_reducible first | exact HB.out | apply below_alloc | apply pw_below_drewN | apply below_drew1 | refine below_set ?_ (IsS74.ge HI0.out) | refine below_set ?_ GE134.out | refine below_set ?_ GE138.out) | exact HB.out)⟩⟩
    ·rw [if_neg c12] at H
     have c12b0 : decide (0 < x4_1) = false := decide_eq_false c12
     clear c12
     (first | rw [c12b0] | (simp only [i64_w, i32_w]; rw [c12b0]) | skip)
     have H' := Aside0.mk H
     clear H
     go_wp2
     go_meet
     case rel => exact ⟨_, (false), (by first | rfl | (simp; done) | (simp [*]; done)), H', ⟨by have := HK1.out; first | omega | exact Nat.le_refl _⟩, ⟨zs HO_139001⟩, ⟨zb BK134⟩, ⟨zb BK138⟩, ⟨by repeat (first | (with_reducible first | exact HI0.out | apply IsS74.alloc | apply IsS74.drewN | apply IsS74.drew | apply IsS74.set_1 | apply IsS74.set_2 | refine IsS74.far ?_ NB0_134.out _ | refine IsS74.far ?_ NB0_138.out _) | exact HI0.out)⟩, ⟨by repeat (first | (with_reducible first | exact HK.out | apply KeepBut.set_ | apply keep_drewN | apply keep_drew | apply keep_alloc | refine keep_far ?_ GW134.out _ | refine keep_far ?_ GW138.out _) | exact HK.out)⟩, ⟨by repeat (first | (with_reducible first | exact HB.out | apply below_alloc | apply pw_below_drewN | apply below_drew1 | refine below_set ?_ (IsS74.ge HI0.out) | refine below_set ?_ GE134.out | refine below_set ?_ GE138.out) | exact HB.out)⟩⟩
   case rest =>
    clear HC11
    try clear c1
    try clear p2
    try clear c4
    try clear c6
    try clear c7
    try clear c8
    try clear c12
    try clear c12b0
    try clear hcz13_0
    try clear hcz13_1
    try clear hcz13_2
    try clear hcz9_0
    try clear hcz9_1
    try clear hfz13_1
    try clear hfz13_2
    try clear hfz9_0
    try clear hfz9_1
    try clear p2
    obtain ⟨kq, x21_10, rfl, HA, HJ10, HO_139001, BK134, BK138, HI0, HK, HB⟩ := hcut
    cases kq with
    | zero => exact absurd HA.out (by simp [spec_l06Reader_doc.j1])
    | succ kj10 =>
     have H := HA.out
     clear HA
     simp only [spec_l06Reader_doc.j1] at H
     by_cases c14 : x21_10 = true
     ·subst c14
      have H1 : ((spec_l06Reader_text.f kj10 s0_0 x1001_1 x1002_1).bind fun bt142 => ((spec_l06Reader_count.f kj10 s0_0 bt142.2.1 bt142.2.2).bind fun bt146 => (spec_l06Reader_doc.l1 kj10 x4_1 bt146.1 s0_0 bt146.2.1 bt146.2.2 t135 x139001_1 bt142.1 ([] : List ByteArray)))) = some (r1, r2, r3, r4) := by rw [if_pos rfl] at H; exact H
      clear H
      have H := H1
      clear H1
      replace H := Option.bind_eq_some_iff.mp H
      obtain ⟨⟨t142, t143, t144⟩, A150, H⟩ := H
      replace H : ((spec_l06Reader_count.f kj10 s0_0 t143 t144).bind fun bt146 => (spec_l06Reader_doc.l1 kj10 x4_1 bt146.1 s0_0 bt146.2.1 bt146.2.2 t135 x139001_1 t142 ([] : List ByteArray))) = some (r1, r2, r3, r4) := H
      have A15 := Aside0.mk A150
      clear A150
      replace H := Option.bind_eq_some_iff.mp H
      obtain ⟨⟨t146, t147, t148⟩, A160, H⟩ := H
      replace H : (spec_l06Reader_doc.l1 kj10 x4_1 t146 s0_0 t147 t148 t135 x139001_1 t142 ([] : List ByteArray)) = some (r1, r2, r3, r4) := H
      have A16 := Aside0.mk A160
      clear A160
      have HC17 := Aside0.mk H
      clear H
      go_upto_block 2 with (first | ((with_reducible refine gate_callee (f := 69) rfl ?_); refine goesL_ (some 25) rfl rfl Try.func69 (by kernel_rfl) rfl #[.pointer (some ⟨g, 0, none⟩)] rfl zar ?_; (with_reducible refine (spec_l06Reader_text.calls kj10 g s0_0 x1001_1 x1002_1 t142 t143 t144 w0 _ ?side1 ?side2 A15.out).mono ?_); (case side1 => repeat (first | (with_reducible first | exact HI0.out | apply IsS74.alloc | apply IsS74.drewN | apply IsS74.drew | apply IsS74.set_1 | apply IsS74.set_2 | refine IsS74.far ?_ NB0_134.out _ | refine IsS74.far ?_ NB0_138.out _) | exact HI0.out)); (case side2 => repeat (first | (with_reducible first | exact HB.out | apply below_alloc | apply pw_below_drewN | apply below_drew1 | refine below_set ?_ (IsS74.ge HI0.out) | refine below_set ?_ GE134.out | refine below_set ?_ GE138.out) | exact HB.out)); rintro e w18 ⟨rfl, hi, hb, hk⟩; refine ⟨_, rfl, ?_⟩; have n0_ := Aside0.mk (Kd.S_mono (Kd.S_keep (IsS74.apartS (show IsS74 w0 _ g s0_0 x1001_1 x1002_1 from by repeat (first | (with_reducible first | exact HI0.out | apply IsS74.alloc | apply IsS74.drewN | apply IsS74.drew | apply IsS74.set_1 | apply IsS74.set_2 | refine IsS74.far ?_ NB0_134.out _ | refine IsS74.far ?_ NB0_138.out _) | exact HI0.out)) (zs HO_139001) (by decide)) hk (fun _ h => h.2)) (fun _ h => h.1)); have n1_ := Aside0.mk (KeepBut.blk hk (g' := gb134) (o := .cells #[.string (⟨#[]⟩ : ByteArray), .slice none 0 0] 31 (0, 0)) (zb BK134) NB134_0.out (by simp)); have n2_ := Aside0.mk (KeepBut.blk hk (g' := gb138) (o := .cells #[.string t135, u139001] 31 (0, 0)) (zb BK138) NB138_0.out (by simp)); have n3_ := Aside0.mk (KeepBut.trans (by repeat (first | (with_reducible first | exact HK.out | apply KeepBut.set_ | apply keep_drewN | apply keep_drew | apply keep_alloc | refine keep_far ?_ GW134.out _ | refine keep_far ?_ GW138.out _) | exact HK.out)) hk (.inl rfl)); have n4_ := Aside0.mk (hb); have n5_ := Aside0.mk (hi); clear HO_139001; clear BK134; clear BK138; clear HK; clear HB; clear HI0; have HO_139001 := n0_; have BK134 := n1_; have BK138 := n2_; have HK := n3_; have HB := n4_; have HI0 := n5_; clear n0_ n1_ n2_ n3_ n4_ n5_; (try clear hb); (try clear hb2); (try clear hk); (try clear hi)) | ((with_reducible refine gate_dst (N := 5) rfl ?_); refine box_event ?hg (N := 5) ?hd (cs := #[.string (⟨#[]⟩ : ByteArray), .slice none 0 0, .slice none 0 0]) (t := 66) ?hr ?_; (case hd => rfl); (case hg => rfl); (case hr => first | (go_simp; done) | (go_simp; rfl)); intro gb145 hg w19 hbox hb; have n0_ := Aside0.mk (Kd.S_below (Kd.S_elderB (zs HO_139001) gb145 (Nat.le_of_eq hg.symm)) hb); have n1_ := Aside0.mk (blk_below (zb BK134) hb); have n2_ := Aside0.mk (blk_below (zb BK138) hb); have n3_ := Aside0.mk (IsS74.below (by repeat (first | (with_reducible first | exact HI0.out | apply IsS74.alloc | apply IsS74.drewN | apply IsS74.drew | apply IsS74.set_1 | apply IsS74.set_2 | refine IsS74.far ?_ NB0_134.out _ | refine IsS74.far ?_ NB0_138.out _) | exact HI0.out)) hb); have n4_ := Aside0.mk (KeepBut.trans (by repeat (first | (with_reducible first | exact HK.out | apply KeepBut.set_ | apply keep_drewN | apply keep_drew | apply keep_alloc | refine keep_far ?_ GW134.out _ | refine keep_far ?_ GW138.out _) | exact HK.out)) (KeepBut.of_below hb g none) (.inl rfl)); have n5_ := Aside0.mk (below_step (by repeat (first | (with_reducible first | exact HB.out | apply below_alloc | apply pw_below_drewN | apply below_drew1 | refine below_set ?_ (IsS74.ge HI0.out) | refine below_set ?_ GE134.out | refine below_set ?_ GE138.out) | exact HB.out)) hb); have n6_ := Aside0.mk (hbox); have n7_ := Aside0.mk ((by rw [hg]; exact (keep_size (w := w) (g := g) (row := none) (by repeat (first | (with_reducible first | exact HK.out | apply KeepBut.set_ | apply keep_drewN | apply keep_drew | apply keep_alloc | refine keep_far ?_ GW134.out _ | refine keep_far ?_ GW138.out _) | exact HK.out))) : w.heap.size ≤ gb145)); have n8_ := Aside0.mk ((Nat.le_trans HW0.out (by rw [hg]; exact (keep_size (w := w) (g := g) (row := none) (by repeat (first | (with_reducible first | exact HK.out | apply KeepBut.set_ | apply keep_drewN | apply keep_drew | apply keep_alloc | refine keep_far ?_ GW134.out _ | refine keep_far ?_ GW138.out _) | exact HK.out))) : w.heap.size ≤ gb145) : w0.heap.size ≤ gb145)); have n9_ := Aside0.mk ((by rw [hg]; exact Nat.ne_of_lt (blk_lt (zb BK134)) : gb134 ≠ gb145)); have n10_ := Aside0.mk ((by rw [hg]; exact Nat.ne_of_gt (blk_lt (zb BK134)) : gb145 ≠ gb134)); have n11_ := Aside0.mk ((by rw [hg]; exact Nat.ne_of_lt (blk_lt (zb BK138)) : gb138 ≠ gb145)); have n12_ := Aside0.mk ((by rw [hg]; exact Nat.ne_of_gt (blk_lt (zb BK138)) : gb145 ≠ gb138)); have n13_ := Aside0.mk ((by rw [hg]; exact Nat.ne_of_lt (IsS74.lt (show IsS74 w0 _ g s0_0 t143 t144 from by repeat (first | (with_reducible first | exact HI0.out | apply IsS74.alloc | apply IsS74.drewN | apply IsS74.drew | apply IsS74.set_1 | apply IsS74.set_2 | refine IsS74.far ?_ NB0_134.out _ | refine IsS74.far ?_ NB0_138.out _) | exact HI0.out))) : g ≠ gb145)); have n14_ := Aside0.mk ((by rw [hg]; exact Nat.ne_of_gt (IsS74.lt (show IsS74 w0 _ g s0_0 t143 t144 from by repeat (first | (with_reducible first | exact HI0.out | apply IsS74.alloc | apply IsS74.drewN | apply IsS74.drew | apply IsS74.set_1 | apply IsS74.set_2 | refine IsS74.far ?_ NB0_134.out _ | refine IsS74.far ?_ NB0_138.out _) | exact HI0.out))) : gb145 ≠ g)); clear HO_139001; clear BK134; clear BK138; clear HI0; clear HK; clear HB; have HO_139001 := n0_; have BK134 := n1_; have BK138 := n2_; have HI0 := n3_; have HK := n4_; have HB := n5_; have BK145 := n6_; have GW145 := n7_; have GE145 := n8_; have NB134_145 := n9_; have NB145_134 := n10_; have NB138_145 := n11_; have NB145_138 := n12_; have NB0_145 := n13_; have NB145_0 := n14_; clear n0_ n1_ n2_ n3_ n4_ n5_ n6_ n7_ n8_ n9_ n10_ n11_ n12_ n13_ n14_; clear hb hbox hg; have hnb20 := NB145_134.out; have hnc20 := NB134_145.out; have hnb21 := NB145_138.out; have hnc21 := NB138_145.out; have hnb22 := NB145_0.out; have hnc22 := NB0_145.out; have hcz23_0 : w19.cell? ⟨gb145, 0, none⟩ = some (.string (⟨#[]⟩ : ByteArray)) := (blk_cell BK145.out 0).trans rfl; have hcz23_1 : w19.cell? ⟨gb145, 1, none⟩ = some (.slice none 0 0) := (blk_cell BK145.out 1).trans rfl; have hcz23_2 : w19.cell? ⟨gb145, 2, none⟩ = some (.slice none 0 0) := (blk_cell BK145.out 2).trans rfl; have hfz23_0 := blk_frozen BK145.out 0; have hfz23_1 := blk_frozen BK145.out 1; have hfz23_2 := blk_frozen BK145.out 2) | ((with_reducible refine gate_callee (f := 70) rfl ?_); refine goesL_ (some 28) rfl rfl Try.func70 (by kernel_rfl) rfl #[.pointer (some ⟨g, 0, none⟩)] rfl zar ?_; (with_reducible refine (spec_l06Reader_count.calls kj10 g s0_0 t143 t144 t146 t147 t148 w0 _ ?side1 ?side2 A16.out).mono ?_); (case side1 => repeat (first | (with_reducible first | exact HI0.out | apply IsS74.alloc | apply IsS74.drewN | apply IsS74.drew | apply IsS74.set_1 | apply IsS74.set_2 | refine IsS74.far ?_ NB0_134.out _ | refine IsS74.far ?_ NB0_138.out _ | refine IsS74.far ?_ NB0_145.out _) | exact HI0.out)); (case side2 => repeat (first | (with_reducible first | exact HB.out | apply below_alloc | apply pw_below_drewN | apply below_drew1 | refine below_set ?_ (IsS74.ge HI0.out) | refine below_set ?_ GE134.out | refine below_set ?_ GE138.out | refine below_set ?_ GE145.out) | exact HB.out)); rintro e w24 ⟨rfl, hi, hb, hk⟩; refine ⟨_, rfl, ?_⟩; have n0_ := Aside0.mk (Kd.S_mono (Kd.S_keep (IsS74.apartS (show IsS74 w0 _ g s0_0 t143 t144 from by repeat (first | (with_reducible first | exact HI0.out | apply IsS74.alloc | apply IsS74.drewN | apply IsS74.drew | apply IsS74.set_1 | apply IsS74.set_2 | refine IsS74.far ?_ NB0_134.out _ | refine IsS74.far ?_ NB0_138.out _ | refine IsS74.far ?_ NB0_145.out _) | exact HI0.out)) (by (with_reducible repeat (first | apply Kd.S_alloc | apply Kd.S_drewN | apply Kd.S_drew)); exact (Kd.S_mono (Kd.S_far (p := ⟨gb145, 2, none⟩) (Kd.S_far (p := ⟨gb145, 1, none⟩) (Kd.S_far (p := ⟨gb145, 0, none⟩) (Kd.S_mono HO_139001.out (fun k_ hk => (⟨hk, hk.2⟩ : _ ∧ k_ ≠ gb145))) (fun _ hk => hk.2) (.string t142)) (fun _ hk => hk.2) (.slice none 0 0)) (fun _ hk => hk.2) (.slice none 0 0)) (fun _ h_ => h_.1))) (by decide)) hk (fun _ h => h.2)) (fun _ h => h.1)); have n1_ := Aside0.mk (KeepBut.blk hk (g' := gb134) (o := .cells #[.string (⟨#[]⟩ : ByteArray), .slice none 0 0] 31 (0, 0)) (by (with_reducible repeat (first | refine blk_drewN ?_ _ | refine blk_drew ?_ | refine blk_alloc ?_ _)); refine blk_far ?_ NB134_145.out _; (with_reducible repeat (first | refine blk_drewN ?_ _ | refine blk_drew ?_ | refine blk_alloc ?_ _)); refine blk_far ?_ NB134_145.out _; (with_reducible repeat (first | refine blk_drewN ?_ _ | refine blk_drew ?_ | refine blk_alloc ?_ _)); refine blk_far ?_ NB134_145.out _; (with_reducible repeat (first | refine blk_drewN ?_ _ | refine blk_drew ?_ | refine blk_alloc ?_ _)); exact BK134.out) NB134_0.out (by simp)); have n2_ := Aside0.mk (KeepBut.blk hk (g' := gb138) (o := .cells #[.string t135, u139001] 31 (0, 0)) (by (with_reducible repeat (first | refine blk_drewN ?_ _ | refine blk_drew ?_ | refine blk_alloc ?_ _)); refine blk_far ?_ NB138_145.out _; (with_reducible repeat (first | refine blk_drewN ?_ _ | refine blk_drew ?_ | refine blk_alloc ?_ _)); refine blk_far ?_ NB138_145.out _; (with_reducible repeat (first | refine blk_drewN ?_ _ | refine blk_drew ?_ | refine blk_alloc ?_ _)); refine blk_far ?_ NB138_145.out _; (with_reducible repeat (first | refine blk_drewN ?_ _ | refine blk_drew ?_ | refine blk_alloc ?_ _)); exact BK138.out) NB138_0.out (by simp)); have n3_ := Aside0.mk (KeepBut.blk hk (g' := gb145) (o := .cells #[.string t142, .slice none 0 0, .slice none 0 0] 66 (0, 0)) (by (with_reducible repeat (first | refine blk_drewN ?_ _ | refine blk_drew ?_ | refine blk_alloc ?_ _)); refine blk_put (cs := #[.string t142, .slice none 0 0, .slice none 0 0]) ?_ 2 _ rfl; (with_reducible repeat (first | refine blk_drewN ?_ _ | refine blk_drew ?_ | refine blk_alloc ?_ _)); refine blk_put (cs := #[.string t142, .slice none 0 0, .slice none 0 0]) ?_ 1 _ rfl; (with_reducible repeat (first | refine blk_drewN ?_ _ | refine blk_drew ?_ | refine blk_alloc ?_ _)); refine blk_put (cs := #[.string (⟨#[]⟩ : ByteArray), .slice none 0 0, .slice none 0 0]) ?_ 0 _ rfl; (with_reducible repeat (first | refine blk_drewN ?_ _ | refine blk_drew ?_ | refine blk_alloc ?_ _)); exact BK145.out) NB145_0.out (by simp)); have n4_ := Aside0.mk (KeepBut.trans (by repeat (first | (with_reducible first | exact HK.out | apply KeepBut.set_ | apply keep_drewN | apply keep_drew | apply keep_alloc | refine keep_far ?_ GW134.out _ | refine keep_far ?_ GW138.out _ | refine keep_far ?_ GW145.out _) | exact HK.out)) hk (.inl rfl)); have n5_ := Aside0.mk (hb); have n6_ := Aside0.mk (hi); clear HO_139001; clear BK134; clear BK138; clear BK145; clear HK; clear HB; clear HI0; have HO_139001 := n0_; have BK134 := n1_; have BK138 := n2_; have BK145 := n3_; have HK := n4_; have HB := n5_; have HI0 := n6_; clear n0_ n1_ n2_ n3_ n4_ n5_ n6_; (try clear hb); (try clear hb2); (try clear hk); (try clear hi)))
      (try simp only [Act.put, List.setIfInBounds_toArray, List.set_cons_zero, List.set_cons_succ])
      go_cut [] (fun wc => ∃ (kq : Nat) (x1001_16 : Int) (x1002_16 : Bool) (x146001_16 : List ByteArray) (u146001 : Value), Aside0 (spec_l06Reader_doc.j3 kq x4_1 s0_0 x1001_16 x1002_16 t135 x139001_1 t142 x146001_16 = some (r1, r2, r3, r4)) ∧ Aside0 (kq ≤ kj10) ∧ Aside0 (Kd.S k66 66 wc w.heap.size (fun k_ => some k_ ≠ (u146001 : Value).ownBlock ∧ k_ ≠ gb145) u139001 x139001_1) ∧ Aside0 (Kd.R Kd.string 9 wc w.heap.size (fun _ => True) u146001 x146001_16) ∧ Aside0 (wc.heap[gb134]? = some (.cells #[.string (⟨#[]⟩ : ByteArray), (.slice none 0 0)] 31 (0, 0))) ∧ Aside0 (wc.heap[gb138]? = some (.cells #[.string t135, u139001] 31 (0, 0))) ∧ Aside0 (wc.heap[gb145]? = some (.cells #[.string t142, u146001, (.slice none 0 0)] 66 (0, 0))) ∧ Aside0 (IsS74 w0 wc g s0_0 x1001_16 x1002_16) ∧ Aside0 (KeepBut w wc g none) ∧ Aside0 (Below w0.heap.size w0 wc))
      case first =>
       have H := HC17.out
       clear HC17
       have H' := Aside0.mk H
       clear H
       go_wp2
       go_loopg [6] kj10 (fun kq v6 w' => ∃ (x6_3 : Int) (x1001_3 : Int) (x1002_3 : Bool) (x146001_3 : List ByteArray) (u146001 : Value), v6 = .int .i64 x6_3 ∧ Aside0 (spec_l06Reader_doc.l1 kq x4_1 x6_3 s0_0 x1001_3 x1002_3 t135 x139001_1 t142 x146001_3 = some (r1, r2, r3, r4)) ∧ Aside0 (kq ≤ kj10) ∧ Aside0 (Kd.S k66 66 w' w.heap.size (fun k_ => some k_ ≠ (u146001 : Value).ownBlock ∧ k_ ≠ gb145) u139001 x139001_1) ∧ Aside0 (Kd.R Kd.string 9 w' w.heap.size (fun _ => True) u146001 x146001_3) ∧ Aside0 (w'.heap[gb134]? = some (.cells #[.string (⟨#[]⟩ : ByteArray), (.slice none 0 0)] 31 (0, 0))) ∧ Aside0 (w'.heap[gb138]? = some (.cells #[.string t135, u139001] 31 (0, 0))) ∧ Aside0 (w'.heap[gb145]? = some (.cells #[.string t142, u146001, (.slice none 0 0)] 66 (0, 0))) ∧ Aside0 (IsS74 w0 w' g s0_0 x1001_3 x1002_3) ∧ Aside0 (KeepBut w w' g none) ∧ Aside0 (Below w0.heap.size w0 w'))
       case atStart => exact ⟨(t146), (t147), (t148), (([] : List ByteArray)), (.slice none 0 0), (by first | rfl | (simp; done) | (simp [*]; done)), H', ⟨Nat.le_refl _⟩, ⟨Kd.S_mono (zs HO_139001) (fun _ hk => ⟨(by simp [Value.ownBlock]), hk.2⟩)⟩, ⟨by first | exact Kd.R_nil _ _ _ _ _ | exact Kd.N_nil _ _ _ _ _ | exact Kd.V_nil _ _ _ _ _ | exact Kd.Q_nil _ _ _ _ _ | exact Kd.S_nil _ _ _ _ _⟩, ⟨zb BK134⟩, ⟨zb BK138⟩, ⟨zb BK145⟩, ⟨by repeat (first | (with_reducible first | exact HI0.out | apply IsS74.alloc | apply IsS74.drewN | apply IsS74.drew | apply IsS74.set_1 | apply IsS74.set_2 | refine IsS74.far ?_ NB0_134.out _ | refine IsS74.far ?_ NB0_138.out _ | refine IsS74.far ?_ NB0_145.out _) | exact HI0.out)⟩, ⟨by repeat (first | (with_reducible first | exact HK.out | apply KeepBut.set_ | apply keep_drewN | apply keep_drew | apply keep_alloc | refine keep_far ?_ GW134.out _ | refine keep_far ?_ GW138.out _ | refine keep_far ?_ GW145.out _) | exact HK.out)⟩, ⟨by repeat (first | (with_reducible first | exact HB.out | apply below_alloc | apply pw_below_drewN | apply below_drew1 | refine below_set ?_ (IsS74.ge HI0.out) | refine below_set ?_ GE134.out | refine below_set ?_ GE138.out | refine below_set ?_ GE145.out) | exact HB.out)⟩⟩
       case round =>
        clear H'
        try clear c1
        try clear c2
        try clear p2
        try clear c4
        try clear c6
        try clear c7
        try clear c8
        try clear c12
        try clear c12b0
        try clear c14
        try clear c20
        try clear c21
        try clear c22
        try clear hcz13_0
        try clear hcz13_1
        try clear hcz13_2
        try clear hcz23_0
        try clear hcz23_1
        try clear hcz23_2
        try clear hcz9_0
        try clear hcz9_1
        try clear hfz13_1
        try clear hfz13_2
        try clear hfz23_0
        try clear hfz23_1
        try clear hfz23_2
        try clear hfz9_0
        try clear hfz9_1
        try clear p2
        obtain ⟨x6_3, x1001_3, x1002_3, x146001_3, u146001, rfl, HA, HK3, HO_139001, HO_146001, BK134, BK138, BK145, HI0, HK, HB⟩ := hrel
        cases gk with
        | zero => exact absurd HA.out (by simp [spec_l06Reader_doc.l1])
        | succ k3 =>
         have H := HA.out
         clear HA
         simp only [spec_l06Reader_doc.l1] at H
         by_cases c25 : x6_3 > 0
         ·rw [if_pos c25] at H
          have c25b0 : decide (0 < x6_3) = true := decide_eq_true c25
          clear c25
          (first | rw [c25b0] | (simp only [i64_w, i32_w]; rw [c25b0]) | skip)
          by_cases c26 : x1002_3 = true
          ·subst c26
           have H1 : (spec_l06Reader_doc.j3 k3 x4_1 s0_0 x1001_3 true t135 x139001_1 t142 x146001_3) = some (r1, r2, r3, r4) := by rw [if_pos rfl] at H; exact H
           clear H
           have H := H1
           clear H1
           have H' := Aside0.mk H
           clear H
           obtain ⟨ASz27_0, cSz27_0, HGz27, hgz27, HSz27_0⟩ := HI0.out
           have hcz27_0 := cellS74_0 HGz27
           have hcz27_1 := cellS74_1 HGz27
           have hcz27_2 := cellS74_2 HGz27
           have hfz27_1 := blk_frozen HGz27 1
           have hfz27_2 := blk_frozen HGz27 2
           clear HGz27 hgz27
           go_wp2
           go_meet
           case rel => exact ⟨_, (x1001_3), (true), (x146001_3), (u146001), H', ⟨by have := HK1.out; have := HJ10.out; have := HK3.out; first | omega | exact Nat.le_refl _⟩, ⟨zs HO_139001⟩, ⟨zr HO_146001⟩, ⟨zb BK134⟩, ⟨zb BK138⟩, ⟨zb BK145⟩, ⟨by repeat (first | (with_reducible first | exact HI0.out | apply IsS74.alloc | apply IsS74.drewN | apply IsS74.drew | apply IsS74.set_1 | apply IsS74.set_2 | refine IsS74.far ?_ NB0_134.out _ | refine IsS74.far ?_ NB0_138.out _ | refine IsS74.far ?_ NB0_145.out _) | exact HI0.out)⟩, ⟨by repeat (first | (with_reducible first | exact HK.out | apply KeepBut.set_ | apply keep_drewN | apply keep_drew | apply keep_alloc | refine keep_far ?_ GW134.out _ | refine keep_far ?_ GW138.out _ | refine keep_far ?_ GW145.out _) | exact HK.out)⟩, ⟨by repeat (first | (with_reducible first | exact HB.out | apply below_alloc | apply pw_below_drewN | apply below_drew1 | refine below_set ?_ (IsS74.ge HI0.out) | refine below_set ?_ GE134.out | refine below_set ?_ GE138.out | refine below_set ?_ GE145.out) | exact HB.out)⟩⟩
          ·replace c26 := Bool.eq_false_iff.mpr c26
           subst c26
           have H1 : ((spec_l06Reader_text.f k3 s0_0 x1001_3 false).bind fun bt149 => (if x146001_3.length < 8796093022208 then (spec_l06Reader_doc.l1 k3 x4_1 (wrap64 (x6_3 - 1)) s0_0 bt149.2.1 bt149.2.2 t135 x139001_1 t142 (x146001_3 ++ [bt149.1])) else (none))) = some (r1, r2, r3, r4) := by rw [if_neg (show ¬ (false = true) by decide)] at H; exact H
           clear H
           have H := H1
           clear H1
           replace H := Option.bind_eq_some_iff.mp H
           obtain ⟨⟨t149, t150, t151⟩, A280, H⟩ := H
           replace H : (if x146001_3.length < 8796093022208 then (spec_l06Reader_doc.l1 k3 x4_1 (wrap64 (x6_3 - 1)) s0_0 t150 t151 t135 x139001_1 t142 (x146001_3 ++ [t149])) else (none)) = some (r1, r2, r3, r4) := H
           have A28 := Aside0.mk A280
           clear A280
           by_cases c29 : x146001_3.length < 8796093022208
           ·rw [if_pos c29] at H
            have LMc29 := Aside0.mk c29
            clear c29
            obtain ⟨y152, hy152⟩ : ∃ y_ : List ByteArray, y_ = (x146001_3 ++ [t149]) := ⟨_, rfl⟩
            replace H : (spec_l06Reader_doc.l1 k3 x4_1 (wrap64 (x6_3 - 1)) s0_0 t150 t151 t135 x139001_1 t142 y152) = some (r1, r2, r3, r4) := by first | (rw [hy152]; with_reducible exact H) | (have H2_ := (Option.bind_some _ _).symm.trans H; rw [hy152]; with_reducible exact H2_) | (have H2_ := (Option.bind_some _ _).symm.trans H; with_reducible exact H2_) | with_reducible exact H | (rw [hy152]; exact H) | exact H
            have Ny152 := Aside0.mk hy152
            clear hy152
            have H' := Aside0.mk H
            clear H
            obtain ⟨ASz30_0, cSz30_0, HGz30, hgz30, HSz30_0⟩ := HI0.out
            have hcz30_0 := cellS74_0 HGz30
            have hcz30_1 := cellS74_1 HGz30
            have hcz30_2 := cellS74_2 HGz30
            have hfz30_1 := blk_frozen HGz30 1
            have hfz30_2 := blk_frozen HGz30 2
            clear HGz30 hgz30
            try go_wp2
            have n0_ := Aside0.mk (Kd.S_drew HO_139001.out)
            have n1_ := Aside0.mk (Kd.R_drew HO_146001.out)
            have n2_ := Aside0.mk (blk_drew BK134.out)
            have n3_ := Aside0.mk (blk_drew BK138.out)
            have n4_ := Aside0.mk (blk_drew BK145.out)
            have n5_ := Aside0.mk (IsS74.drew HI0.out)
            have n6_ := Aside0.mk (keep_drew HK.out)
            have n7_ := Aside0.mk (below_drew1 HB.out)
            clear HO_139001
            clear HO_146001
            clear BK134
            clear BK138
            clear BK145
            clear HI0
            clear HK
            clear HB
            have HO_139001 := n0_
            have HO_146001 := n1_
            have BK134 := n2_
            have BK138 := n3_
            have BK145 := n4_
            have HI0 := n5_
            have HK := n6_
            have HB := n7_
            clear n0_ n1_ n2_ n3_ n4_ n5_ n6_ n7_
            refine start_ (n := 8) (S := fun w' => w'.cell? ⟨gb145, 0, none⟩ = some (.string t142) ∧ w'.cell? ⟨gb145, 1, none⟩ = some (u146001) ∧ w'.cell? ⟨gb145, 2, none⟩ = some (.slice none 0 0)) (ds := [7]) (fl5_ 8 0) (by kernel_rfl) rfl rfl ⟨(blk_cell BK145.out 0).trans rfl, (blk_cell BK145.out 1).trans rfl, (blk_cell BK145.out 2).trans rfl⟩ (fun hHeld => ?_); refine with_tabW spec_l06Reader_doc.tab9 spec_l06Reader_doc.bits9 (fun HT_ HW_ => ?_)
            generalize wr.drew = w31 at HO_139001 HO_146001 BK134 BK138 BK145 HI0 HK HB hHeld ⊢
            refine pure_ (i := 0) (N := some 40) (v := ?_) (a' := ?_) (fl5_ 8 1) rfl rfl (any_of HT_.out (by kernel_rfl)) (fun _ _ _ h => h) (Or.inl ⟨by rfl, ?_⟩) ?_ ?_
            rotate_left
            ·intro w'
             go_simp
             with_reducible rfl
            rotate_left
            ·simp only [Act.put, List.setIfInBounds_toArray, List.set_cons_zero, List.set_cons_succ, i64_w, i32_w]
             rfl
            refine pure_ (i := 2) (N := some 42) (v := ?_) (a' := ?_) (fl5_ 8 5) rfl rfl (any_of HT_.out (by kernel_rfl)) (fun _ _ _ h => h) (Or.inl ⟨by rfl, ?_⟩) ?_ ?_
            rotate_left
            ·intro w'
             go_simp
             with_reducible rfl
            rotate_left
            ·simp only [Act.put, List.setIfInBounds_toArray, List.set_cons_zero, List.set_cons_succ, i64_w, i32_w]
             rfl
            refine take_ (i := 1) (N := some 41) (v := ?_) (a' := ?_) (fl5_ 8 7) rfl rfl (take_ofW HT_.out HW_.out (by kernel_rfl)) (fun _ _ _ h => h) (Or.inl ⟨by rfl, ?_⟩) hHeld ?_ ?_
            rotate_left
            ·rintro w' ⟨s0, s1, s2⟩
             go_simp
             with_reducible rfl
            rotate_left
            ·simp only [Act.put, List.setIfInBounds_toArray, List.set_cons_zero, List.set_cons_succ, i64_w, i32_w]
             rfl
            refine one_ (i := 3) (N := some 43) (fl5_ 8 15) rfl rfl (one_of HT_.out (by kernel_rfl)) (by decide) (fun K hK => ?_)
            refine goes_ Try.func69 (by kernel_rfl) rfl #[.pointer (some ⟨g, 0, none⟩)] (by rfl) rfl rfl zar ?_
            with_reducible refine (spec_l06Reader_text.calls k3 g s0_0 x1001_3 false t149 t150 t151 w0 _ ?side1 ?side2 A28.out).mono ?_
            (case side1 => repeat (first | (with_reducible first | exact HI0.out | apply IsS74.alloc | apply IsS74.drewN | apply IsS74.drew | apply IsS74.set_1 | apply IsS74.set_2 | refine IsS74.far ?_ NB0_134.out _ | refine IsS74.far ?_ NB0_138.out _ | refine IsS74.far ?_ NB0_145.out _) | exact HI0.out))
            (case side2 => repeat (first | (with_reducible first | exact HB.out | apply below_alloc | apply pw_below_drewN | apply below_drew1 | refine below_set ?_ (IsS74.ge HI0.out) | refine below_set ?_ GE134.out | refine below_set ?_ GE138.out | refine below_set ?_ GE145.out) | exact HB.out))
            rintro e w32 ⟨rfl, hi, hb, hk⟩
            refine ⟨_, rfl, ?_⟩
            have n0_ := Aside0.mk (Kd.S_mono (Kd.S_keep (IsS74.apartS (show IsS74 w0 _ g s0_0 x1001_3 false from by repeat (first | (with_reducible first | exact HI0.out | apply IsS74.alloc | apply IsS74.drewN | apply IsS74.drew | apply IsS74.set_1 | apply IsS74.set_2 | refine IsS74.far ?_ NB0_134.out _ | refine IsS74.far ?_ NB0_138.out _ | refine IsS74.far ?_ NB0_145.out _) | exact HI0.out)) (zs HO_139001) (by decide)) hk (fun _ h => h.2)) (fun _ h => h.1))
            have n1_ := Aside0.mk (Kd.R_mono (Kd.R_keep (IsS74.apart (show IsS74 w0 _ g s0_0 x1001_3 false from by repeat (first | (with_reducible first | exact HI0.out | apply IsS74.alloc | apply IsS74.drewN | apply IsS74.drew | apply IsS74.set_1 | apply IsS74.set_2 | refine IsS74.far ?_ NB0_134.out _ | refine IsS74.far ?_ NB0_138.out _ | refine IsS74.far ?_ NB0_145.out _) | exact HI0.out)) (zr HO_146001) (by decide)) hk (fun _ h => h.2)) (fun _ h => h.1))
            have n2_ := Aside0.mk (KeepBut.blk hk (g' := gb134) (o := .cells #[.string (⟨#[]⟩ : ByteArray), .slice none 0 0] 31 (0, 0)) (zb BK134) NB134_0.out (by simp))
            have n3_ := Aside0.mk (KeepBut.blk hk (g' := gb138) (o := .cells #[.string t135, u139001] 31 (0, 0)) (zb BK138) NB138_0.out (by simp))
            have n4_ := Aside0.mk (KeepBut.blk hk (g' := gb145) (o := .cells #[.string t142, u146001, .slice none 0 0] 66 (0, 0)) (zb BK145) NB145_0.out (by simp))
            have n5_ := Aside0.mk (KeepBut.trans (by repeat (first | (with_reducible first | exact HK.out | apply KeepBut.set_ | apply keep_drewN | apply keep_drew | apply keep_alloc | refine keep_far ?_ GW134.out _ | refine keep_far ?_ GW138.out _ | refine keep_far ?_ GW145.out _) | exact HK.out)) hk (.inl rfl))
            have n6_ := Aside0.mk (hb)
            have n7_ := Aside0.mk (hi)
            clear HO_139001
            clear HO_146001
            clear BK134
            clear BK138
            clear BK145
            clear HK
            clear HB
            clear HI0
            have HO_139001 := n0_
            have HO_146001 := n1_
            have BK134 := n2_
            have BK138 := n3_
            have BK145 := n4_
            have HK := n5_
            have HB := n6_
            have HI0 := n7_
            clear n0_ n1_ n2_ n3_ n4_ n5_ n6_ n7_
            (try clear hb)
            (try clear hb2)
            (try clear hk)
            (try clear hi)
            refine hK.out _ _ ⟨(blk_cell BK145.out 0).trans rfl, (blk_cell BK145.out 1).trans rfl, (blk_cell BK145.out 2).trans rfl⟩ (fun hHeld => ?_)
            clear hK K
            refine norm_ (a' := ?_) ?_ ?_
            rotate_left
            ·show Act.put _ (some 43) _ = _
             simp only [Act.put, List.setIfInBounds_toArray, List.set_cons_zero, List.set_cons_succ, i64_w, i32_w]
             rfl
            refine one_ (i := 4) (N := some 44) (fl5_ 8 31) rfl rfl (one_of HT_.out (by kernel_rfl)) (by decide) (fun K hK => ?_)
            refine value_ (w1 := ?_) (v := ?_) (by rfl) rfl ?_ ?_
            rotate_left 2
            ·go_simp
             constructor
             ·rfl
             ·rfl
            refine hK.out _ _ ⟨(blk_cell (blk_alloc BK145.out _) 0).trans rfl, (blk_cell (blk_alloc BK145.out _) 1).trans rfl, (blk_cell (blk_alloc BK145.out _) 2).trans rfl⟩ (fun hHeld => ?_)
            clear hK K
            refine norm_ (a' := ?_) ?_ ?_
            rotate_left
            ·show Act.put _ (some 44) _ = _
             simp only [Act.put, List.setIfInBounds_toArray, List.set_cons_zero, List.set_cons_succ, i64_w, i32_w]
             rfl
            refine one_ (i := 5) (N := some 45) (fl5_ 8 63) rfl rfl (one_of HT_.out (by kernel_rfl)) (by decide) (fun K hK => ?_)
            refine Kd.R_append_step Kd.string w.heap.size (by rfl) (.tmp 41) (.tmp 44) 64 9 (.string ⟨#[]⟩) 16 rfl Try.underlying64 info9 rfl (by decide) (by omega) u146001 x146001_3 t149 [.string t149] (fun _ => True) (fun _ => False) rfl rfl ?aP (fun _ hk => hk.elim) ?aF ?aO (Below.refl _ _) ?aS ?aL ?_
            (case aP => exact rfl)
            (case aF => exact (fun _ _ => trivial))
            (case aO => exact (zr HO_146001))
            (case aS => exact (keep_size (w := w) (g := g) (row := none) (by repeat (first | (with_reducible first | exact HK.out | apply KeepBut.set_ | apply keep_drewN | apply keep_drew | apply keep_alloc | refine keep_far ?_ GW134.out _ | refine keep_far ?_ GW138.out _ | refine keep_far ?_ GW145.out _) | exact HK.out))))
            (case aL => have := LMc29.out; omega)
            intro v153 w33 ho hb hg hat
            rw [← Ny152.out] at ho
            have n0_ := Aside0.mk (Kd.S_after (ok := (fun k_ => k_ ≠ gb145)) (Kd.S_mono (zs HO_139001) (fun _ hk => ⟨hk.2, hk.1⟩)) hg hat)
            have n1_ := Aside0.mk (blk_grown (zb BK134) hg (Kd.R_ne HO_146001.out BK134.out (by decide)))
            have n2_ := Aside0.mk (blk_grown (zb BK138) hg (Kd.R_ne HO_146001.out BK138.out (by decide)))
            have n3_ := Aside0.mk (blk_grown (zb BK145) hg (Kd.R_ne HO_146001.out BK145.out (by decide)))
            have n4_ := Aside0.mk (IsS74.grown (by repeat (first | (with_reducible first | exact HI0.out | apply IsS74.alloc | apply IsS74.drewN | apply IsS74.drew | apply IsS74.set_1 | apply IsS74.set_2 | refine IsS74.far ?_ NB0_134.out _ | refine IsS74.far ?_ NB0_138.out _ | refine IsS74.far ?_ NB0_145.out _) | exact HI0.out)) hg (IsS74.own_ne HI0.out HO_146001.out (by decide)))
            have n5_ := Aside0.mk (below_weaken (by repeat (first | (with_reducible first | exact HB.out | apply below_alloc | apply pw_below_drewN | apply below_drew1 | refine below_set ?_ (IsS74.ge HI0.out) | refine below_set ?_ GE134.out | refine below_set ?_ GE138.out | refine below_set ?_ GE145.out) | exact HB.out)) HL.out hb)
            have n6_ := Aside0.mk (KeepBut.trans (by repeat (first | (with_reducible first | exact HK.out | apply KeepBut.set_ | apply keep_drewN | apply keep_drew | apply keep_alloc | refine keep_far ?_ GW134.out _ | refine keep_far ?_ GW138.out _ | refine keep_far ?_ GW145.out _) | exact HK.out)) (KeepBut.of_grown hg g) (Kd.R_base2 HO_146001.out))
            have n7_ := Aside0.mk (ho)
            clear HO_139001
            clear BK134
            clear BK138
            clear BK145
            clear HI0
            clear HB
            clear HK
            clear HO_146001
            have HO_139001 := n0_
            have BK134 := n1_
            have BK138 := n2_
            have BK145 := n3_
            have HI0 := n4_
            have HB := n5_
            have HK := n6_
            have HO154 := n7_
            clear n0_ n1_ n2_ n3_ n4_ n5_ n6_ n7_
            clear ho hb hg hat
            obtain ⟨Ao34, co34, eo34⟩ := Kd.R_slice HO154.out
            (first | subst eo34 | (injection eo34 with f1_ f2_ f3_; have f4_ := f1_.symm; have f5_ := f3_.symm; clear f1_ f2_ f3_; subst f4_; subst f5_))
            refine hK.out _ _ ⟨(blk_cell BK145.out 0).trans rfl, (blk_cell BK145.out 1).trans rfl, (blk_cell BK145.out 2).trans rfl⟩ (fun hHeld => ?_)
            clear hK K
            refine norm_ (a' := ?_) ?_ ?_
            rotate_left
            ·show Act.put _ (some 45) _ = _
             simp only [Act.put, List.setIfInBounds_toArray, List.set_cons_zero, List.set_cons_succ, i64_w, i32_w]
             rfl
            refine pure_ (i := 6) (N := some 46) (v := ?_) (a' := ?_) (fl5_ 8 127) rfl rfl (any_of HT_.out (by kernel_rfl)) (fun _ _ _ h => h) (Or.inl ⟨by rfl, ?_⟩) ?_ ?_
            rotate_left
            ·intro w'
             go_simp
             with_reducible rfl
            rotate_left
            ·simp only [Act.put, List.setIfInBounds_toArray, List.set_cons_zero, List.set_cons_succ, i64_w, i32_w]
             rfl
            refine last_ (i := 7) (N := none) (fl5_ 8 255) rfl rfl (one_of HT_.out (by kernel_rfl)) (by decide) (fun K hK => ?_)
            have hs35 : w33.cell? ⟨gb145, 1, none⟩ = some (u146001) := (blk_cell BK145.out 1).trans rfl
            have hfs35 := blk_frozen BK145.out 1
            have hns35_0 := NB134_145.out
            have hns35_1 := NB138_145.out
            have hms35_0 := NB145_134.out
            have hms35_1 := NB145_138.out
            refine skip_ (w1 := ?_) (by rfl) rfl ?_ ?_
            rotate_left
            ·go_simp
             rfl
            refine hK.out _ _ ?_
            clear hK K
            refine done_ (done_of HT_.out (by kernel_rfl)) ?_
            try go_wp2
            go_roundg k3
            case measure => have := HK1.out; have := HJ10.out; have := HK3.out; omega
            case rel => exact ⟨(wrap64 (x6_3 - 1)), (t150), (t151), (y152), (.slice Ao34 y152.length co34), (by first | rfl | (simp; done) | (simp [*]; done)), H', ⟨by have := HK1.out; have := HJ10.out; have := HK3.out; omega⟩, ⟨by (with_reducible repeat (first | apply Kd.S_alloc | apply Kd.S_drewN | apply Kd.S_drew)); exact Kd.S_mono (Kd.S_far (p := ⟨gb145, 1, none⟩) (Kd.S_mono HO_139001.out (fun k_ hk => (⟨hk, hk.1⟩ : _ ∧ k_ ≠ gb145))) (fun _ hk => hk.2) (.slice Ao34 y152.length co34)) (fun _ hk => ⟨hk.1.2, hk.1.1⟩)⟩, ⟨by (with_reducible repeat (first | apply Kd.R_alloc | apply Kd.R_drewN | apply Kd.R_drew)); exact Kd.R_mono (Kd.R_far (p := ⟨gb145, 1, none⟩) (Kd.R_types HO154.out BK145.out (by decide)) (fun _ hk => hk.2) (.slice Ao34 y152.length co34)) (fun _ hk => trivial)⟩, ⟨by (with_reducible repeat (first | refine blk_drewN ?_ _ | refine blk_drew ?_ | refine blk_alloc ?_ _)); refine blk_far ?_ NB134_145.out _; (with_reducible repeat (first | refine blk_drewN ?_ _ | refine blk_drew ?_ | refine blk_alloc ?_ _)); exact BK134.out⟩, ⟨by (with_reducible repeat (first | refine blk_drewN ?_ _ | refine blk_drew ?_ | refine blk_alloc ?_ _)); refine blk_far ?_ NB138_145.out _; (with_reducible repeat (first | refine blk_drewN ?_ _ | refine blk_drew ?_ | refine blk_alloc ?_ _)); exact BK138.out⟩, ⟨by (with_reducible repeat (first | refine blk_drewN ?_ _ | refine blk_drew ?_ | refine blk_alloc ?_ _)); refine blk_put (cs := #[.string t142, u146001, .slice none 0 0]) ?_ 1 _ rfl; (with_reducible repeat (first | refine blk_drewN ?_ _ | refine blk_drew ?_ | refine blk_alloc ?_ _)); exact BK145.out⟩, ⟨by repeat (first | (with_reducible first | exact HI0.out | apply IsS74.alloc | apply IsS74.drewN | apply IsS74.drew | apply IsS74.set_1 | apply IsS74.set_2 | refine IsS74.far ?_ NB0_134.out _ | refine IsS74.far ?_ NB0_138.out _ | refine IsS74.far ?_ NB0_145.out _) | exact HI0.out)⟩, ⟨by repeat (first | (with_reducible first | exact HK.out | apply KeepBut.set_ | apply keep_drewN | apply keep_drew | apply keep_alloc | refine keep_far ?_ GW134.out _ | refine keep_far ?_ GW138.out _ | refine keep_far ?_ GW145.out _) | exact HK.out)⟩, ⟨by repeat (first | (with_reducible first | exact HB.out | apply below_alloc | apply pw_below_drewN | apply below_drew1 | refine below_set ?_ (IsS74.ge HI0.out) | refine below_set ?_ GE134.out | refine below_set ?_ GE138.out | refine below_set ?_ GE145.out) | exact HB.out)⟩⟩
           ·rw [if_neg c29] at H
            exact absurd H (by simp)
         ·rw [if_neg c25] at H
          have c25b0 : decide (0 < x6_3) = false := decide_eq_false c25
          clear c25
          (first | rw [c25b0] | (simp only [i64_w, i32_w]; rw [c25b0]) | skip)
          have H' := Aside0.mk H
          clear H
          go_wp2
          go_meet
          case rel => exact ⟨_, (x1001_3), (x1002_3), (x146001_3), (u146001), H', ⟨by have := HK1.out; have := HJ10.out; have := HK3.out; first | omega | exact Nat.le_refl _⟩, ⟨zs HO_139001⟩, ⟨zr HO_146001⟩, ⟨zb BK134⟩, ⟨zb BK138⟩, ⟨zb BK145⟩, ⟨by repeat (first | (with_reducible first | exact HI0.out | apply IsS74.alloc | apply IsS74.drewN | apply IsS74.drew | apply IsS74.set_1 | apply IsS74.set_2 | refine IsS74.far ?_ NB0_134.out _ | refine IsS74.far ?_ NB0_138.out _ | refine IsS74.far ?_ NB0_145.out _) | exact HI0.out)⟩, ⟨by repeat (first | (with_reducible first | exact HK.out | apply KeepBut.set_ | apply keep_drewN | apply keep_drew | apply keep_alloc | refine keep_far ?_ GW134.out _ | refine keep_far ?_ GW138.out _ | refine keep_far ?_ GW145.out _) | exact HK.out)⟩, ⟨by repeat (first | (with_reducible first | exact HB.out | apply below_alloc | apply pw_below_drewN | apply below_drew1 | refine below_set ?_ (IsS74.ge HI0.out) | refine below_set ?_ GE134.out | refine below_set ?_ GE138.out | refine below_set ?_ GE145.out) | exact HB.out)⟩⟩
      case rest =>
       clear HC17
       try clear c1
       try clear c2
       try clear p2
       try clear c4
       try clear c6
       try clear p6
       try clear c7
       try clear c8
       try clear c12
       try clear c12b0
       try clear c14
       try clear c20
       try clear c21
       try clear c22
       try clear c25
       try clear c25b0
       try clear c26
       try clear c29
       try clear hcz13_0
       try clear hcz13_1
       try clear hcz13_2
       try clear hcz23_0
       try clear hcz23_1
       try clear hcz23_2
       try clear hcz27_0
       try clear hcz27_1
       try clear hcz27_2
       try clear hcz30_0
       try clear hcz30_1
       try clear hcz30_2
       try clear hcz9_0
       try clear hcz9_1
       try clear hfz13_1
       try clear hfz13_2
       try clear hfz23_0
       try clear hfz23_1
       try clear hfz23_2
       try clear hfz27_1
       try clear hfz27_2
       try clear hfz30_1
       try clear hfz30_2
       try clear hfz9_0
       try clear hfz9_1
       try clear p2
       obtain ⟨kq, x1001_16, x1002_16, x146001_16, u146001, HA, HJ16, HO_139001, HO_146001, BK134, BK138, BK145, HI0, HK, HB⟩ := hcut
       cases kq with
       | zero => exact absurd HA.out (by simp [spec_l06Reader_doc.j3])
       | succ kj16 =>
        have H := HA.out
        clear HA
        simp only [spec_l06Reader_doc.j3] at H
        replace H := Option.bind_eq_some_iff.mp H
        obtain ⟨⟨t155, t156, t157⟩, A360, H⟩ := H
        replace H : (spec_l06Reader_doc.l2 kj16 x4_1 t155 s0_0 t156 t157 t135 x139001_1 t142 x146001_16 ([] : List Int)) = some (r1, r2, r3, r4) := H
        have A36 := Aside0.mk A360
        clear A360
        have H' := Aside0.mk H
        clear H
        go_wp2_with (first | ((with_reducible refine gate_callee (f := 70) rfl ?_); refine goesL_ (some 48) rfl rfl Try.func70 (by kernel_rfl) rfl #[.pointer (some ⟨g, 0, none⟩)] rfl zar ?_; (with_reducible refine (spec_l06Reader_count.calls kj16 g s0_0 x1001_16 x1002_16 t155 t156 t157 w0 _ ?side1 ?side2 A36.out).mono ?_); (case side1 => repeat (first | (with_reducible first | exact HI0.out | apply IsS74.alloc | apply IsS74.drewN | apply IsS74.drew | apply IsS74.set_1 | apply IsS74.set_2 | refine IsS74.far ?_ NB0_134.out _ | refine IsS74.far ?_ NB0_138.out _ | refine IsS74.far ?_ NB0_145.out _) | exact HI0.out)); (case side2 => repeat (first | (with_reducible first | exact HB.out | apply below_alloc | apply pw_below_drewN | apply below_drew1 | refine below_set ?_ (IsS74.ge HI0.out) | refine below_set ?_ GE134.out | refine below_set ?_ GE138.out | refine below_set ?_ GE145.out) | exact HB.out)); rintro e w37 ⟨rfl, hi, hb, hk⟩; refine ⟨_, rfl, ?_⟩; have n0_ := Aside0.mk (Kd.S_mono (Kd.S_keep (IsS74.apartS (show IsS74 w0 _ g s0_0 x1001_16 x1002_16 from by repeat (first | (with_reducible first | exact HI0.out | apply IsS74.alloc | apply IsS74.drewN | apply IsS74.drew | apply IsS74.set_1 | apply IsS74.set_2 | refine IsS74.far ?_ NB0_134.out _ | refine IsS74.far ?_ NB0_138.out _ | refine IsS74.far ?_ NB0_145.out _) | exact HI0.out)) (zs HO_139001) (by decide)) hk (fun _ h => h.2)) (fun _ h => h.1)); have n1_ := Aside0.mk (Kd.R_mono (Kd.R_keep (IsS74.apart (show IsS74 w0 _ g s0_0 x1001_16 x1002_16 from by repeat (first | (with_reducible first | exact HI0.out | apply IsS74.alloc | apply IsS74.drewN | apply IsS74.drew | apply IsS74.set_1 | apply IsS74.set_2 | refine IsS74.far ?_ NB0_134.out _ | refine IsS74.far ?_ NB0_138.out _ | refine IsS74.far ?_ NB0_145.out _) | exact HI0.out)) (zr HO_146001) (by decide)) hk (fun _ h => h.2)) (fun _ h => h.1)); have n2_ := Aside0.mk (KeepBut.blk hk (g' := gb134) (o := .cells #[.string (⟨#[]⟩ : ByteArray), .slice none 0 0] 31 (0, 0)) (zb BK134) NB134_0.out (by simp)); have n3_ := Aside0.mk (KeepBut.blk hk (g' := gb138) (o := .cells #[.string t135, u139001] 31 (0, 0)) (zb BK138) NB138_0.out (by simp)); have n4_ := Aside0.mk (KeepBut.blk hk (g' := gb145) (o := .cells #[.string t142, u146001, .slice none 0 0] 66 (0, 0)) (zb BK145) NB145_0.out (by simp)); have n5_ := Aside0.mk (KeepBut.trans (by repeat (first | (with_reducible first | exact HK.out | apply KeepBut.set_ | apply keep_drewN | apply keep_drew | apply keep_alloc | refine keep_far ?_ GW134.out _ | refine keep_far ?_ GW138.out _ | refine keep_far ?_ GW145.out _) | exact HK.out)) hk (.inl rfl)); have n6_ := Aside0.mk (hb); have n7_ := Aside0.mk (hi); clear HO_139001; clear HO_146001; clear BK134; clear BK138; clear BK145; clear HK; clear HB; clear HI0; have HO_139001 := n0_; have HO_146001 := n1_; have BK134 := n2_; have BK138 := n3_; have BK145 := n4_; have HK := n5_; have HB := n6_; have HI0 := n7_; clear n0_ n1_ n2_ n3_ n4_ n5_ n6_ n7_; (try clear hb); (try clear hb2); (try clear hk); (try clear hi)))
        go_loopg [7] kj16 (fun kq v7 w' => ∃ (x7_4 : Int) (x1001_4 : Int) (x1002_4 : Bool) (x146002_4 : List Int) (u146002 : Value), v7 = .int .i64 x7_4 ∧ Aside0 (spec_l06Reader_doc.l2 kq x4_1 x7_4 s0_0 x1001_4 x1002_4 t135 x139001_1 t142 x146001_16 x146002_4 = some (r1, r2, r3, r4)) ∧ Aside0 (kq ≤ kj16) ∧ Aside0 (Kd.S k66 66 w' w.heap.size (fun k_ => some k_ ≠ (u146001 : Value).ownBlock ∧ some k_ ≠ (u146002 : Value).ownBlock ∧ k_ ≠ gb145) u139001 x139001_1) ∧ Aside0 (Kd.R Kd.string 9 w' w.heap.size (fun _ => True) u146001 x146001_16) ∧ Aside0 (Kd.R (Kd.int .i64) 3 w' w.heap.size (fun _ => True) u146002 x146002_4) ∧ Aside0 (w'.heap[gb134]? = some (.cells #[.string (⟨#[]⟩ : ByteArray), (.slice none 0 0)] 31 (0, 0))) ∧ Aside0 (w'.heap[gb138]? = some (.cells #[.string t135, u139001] 31 (0, 0))) ∧ Aside0 (w'.heap[gb145]? = some (.cells #[.string t142, u146001, u146002] 66 (0, 0))) ∧ Aside0 (IsS74 w0 w' g s0_0 x1001_4 x1002_4) ∧ Aside0 (KeepBut w w' g none) ∧ Aside0 (Below w0.heap.size w0 w'))
        case atStart => exact ⟨(t155), (t156), (t157), (([] : List Int)), (.slice none 0 0), (by first | rfl | (simp; done) | (simp [*]; done)), H', ⟨Nat.le_refl _⟩, ⟨Kd.S_mono (zs HO_139001) (fun _ hk => ⟨hk.1, ⟨(by simp [Value.ownBlock]), hk.2⟩⟩)⟩, ⟨zr HO_146001⟩, ⟨by first | exact Kd.R_nil _ _ _ _ _ | exact Kd.N_nil _ _ _ _ _ | exact Kd.V_nil _ _ _ _ _ | exact Kd.Q_nil _ _ _ _ _ | exact Kd.S_nil _ _ _ _ _⟩, ⟨zb BK134⟩, ⟨zb BK138⟩, ⟨zb BK145⟩, ⟨by repeat (first | (with_reducible first | exact HI0.out | apply IsS74.alloc | apply IsS74.drewN | apply IsS74.drew | apply IsS74.set_1 | apply IsS74.set_2 | refine IsS74.far ?_ NB0_134.out _ | refine IsS74.far ?_ NB0_138.out _ | refine IsS74.far ?_ NB0_145.out _) | exact HI0.out)⟩, ⟨by repeat (first | (with_reducible first | exact HK.out | apply KeepBut.set_ | apply keep_drewN | apply keep_drew | apply keep_alloc | refine keep_far ?_ GW134.out _ | refine keep_far ?_ GW138.out _ | refine keep_far ?_ GW145.out _) | exact HK.out)⟩, ⟨by repeat (first | (with_reducible first | exact HB.out | apply below_alloc | apply pw_below_drewN | apply below_drew1 | refine below_set ?_ (IsS74.ge HI0.out) | refine below_set ?_ GE134.out | refine below_set ?_ GE138.out | refine below_set ?_ GE145.out) | exact HB.out)⟩⟩
        case round =>
         clear H'
         try clear c1
         try clear c2
         try clear p2
         try clear c4
         try clear c6
         try clear p6
         try clear c7
         try clear c8
         try clear c12
         try clear c12b0
         try clear c14
         try clear c20
         try clear c21
         try clear c22
         try clear c25
         try clear c25b0
         try clear c26
         try clear c29
         try clear hcz13_0
         try clear hcz13_1
         try clear hcz13_2
         try clear hcz23_0
         try clear hcz23_1
         try clear hcz23_2
         try clear hcz27_0
         try clear hcz27_1
         try clear hcz27_2
         try clear hcz30_0
         try clear hcz30_1
         try clear hcz30_2
         try clear hcz9_0
         try clear hcz9_1
         try clear hfz13_1
         try clear hfz13_2
         try clear hfz23_0
         try clear hfz23_1
         try clear hfz23_2
         try clear hfz27_1
         try clear hfz27_2
         try clear hfz30_1
         try clear hfz30_2
         try clear hfz9_0
         try clear hfz9_1
         try clear p2
         try clear p6
         obtain ⟨x7_4, x1001_4, x1002_4, x146002_4, u146002, rfl, HA, HK4, HO_139001, HO_146001, HO_146002, BK134, BK138, BK145, HI0, HK, HB⟩ := hrel
         cases gk with
         | zero => exact absurd HA.out (by simp [spec_l06Reader_doc.l2])
         | succ k4 =>
          have H := HA.out
          clear HA
          simp only [spec_l06Reader_doc.l2] at H
          by_cases c38 : x7_4 > 0
          ·rw [if_pos c38] at H
           have c38b0 : decide (0 < x7_4) = true := decide_eq_true c38
           clear c38
           by_cases c39 : x1002_4 = true
           ·subst c39
            have H1 : (if x139001_1.length < 2199023255552 then (spec_l06Reader_doc.l0 k4 (wrap64 (x4_1 - 1)) s0_0 x1001_4 true t135 (x139001_1 ++ [(⟨t142, x146001_16, x146002_4⟩ : S66)])) else (none)) = some (r1, r2, r3, r4) := by rw [if_pos rfl] at H; exact H
            clear H
            have H := H1
            clear H1
            by_cases c40 : x139001_1.length < 2199023255552
            ·rw [if_pos c40] at H
             have LMc40 := Aside0.mk c40
             clear c40
             obtain ⟨y158, hy158⟩ : ∃ y_ : List (S66), y_ = (x139001_1 ++ [(⟨t142, x146001_16, x146002_4⟩ : S66)]) := ⟨_, rfl⟩
             replace H : (spec_l06Reader_doc.l0 k4 (wrap64 (x4_1 - 1)) s0_0 x1001_4 true t135 y158) = some (r1, r2, r3, r4) := by first | (rw [hy158]; with_reducible exact H) | (have H2_ := (Option.bind_some _ _).symm.trans H; rw [hy158]; with_reducible exact H2_) | (have H2_ := (Option.bind_some _ _).symm.trans H; with_reducible exact H2_) | with_reducible exact H | (rw [hy158]; exact H) | exact H
             have Ny158 := Aside0.mk hy158
             clear hy158
             have H' := Aside0.mk H
             clear H
             obtain ⟨ASz41_0, cSz41_0, HGz41, hgz41, HSz41_0⟩ := HI0.out
             have hcz41_0 := cellS74_0 HGz41
             have hcz41_1 := cellS74_1 HGz41
             have hcz41_2 := cellS74_2 HGz41
             have hfz41_1 := blk_frozen HGz41 1
             have hfz41_2 := blk_frozen HGz41 2
             clear HGz41 hgz41
             have hnb42 := NB138_134.out
             have hnc42 := NB134_138.out
             have hnb43 := NB138_145.out
             have hnc43 := NB145_138.out
             have hnb44 := NB138_0.out
             have hnc44 := NB0_138.out
             have hcz45_0 : wr.cell? ⟨gb138, 0, none⟩ = some (.string t135) := (blk_cell BK138.out 0).trans rfl
             have hcz45_1 : wr.cell? ⟨gb138, 1, none⟩ = some (u139001) := (blk_cell BK138.out 1).trans rfl
             have hfz45_0 := blk_frozen BK138.out 0
             have hfz45_1 := blk_frozen BK138.out 1
             have hnb46 := NB145_134.out
             have hnc46 := NB134_145.out
             have hnb47 := NB145_0.out
             have hnc47 := NB0_145.out
             have hcz48_0 : wr.cell? ⟨gb145, 0, none⟩ = some (.string t142) := (blk_cell BK145.out 0).trans rfl
             have hcz48_1 : wr.cell? ⟨gb145, 1, none⟩ = some (u146001) := (blk_cell BK145.out 1).trans rfl
             have hcz48_2 : wr.cell? ⟨gb145, 2, none⟩ = some (u146002) := (blk_cell BK145.out 2).trans rfl
             have hfz48_0 := blk_frozen BK145.out 0
             have hfz48_1 := blk_frozen BK145.out 1
             have hfz48_2 := blk_frozen BK145.out 2
             obtain ⟨Ao50, co50, eo50⟩ := Kd.R_slice HO_146001.out
             subst eo50
             obtain ⟨Ao51, co51, eo51⟩ := Kd.R_slice HO_146002.out
             subst eo51
             go_wp2_with (first | ((with_reducible refine gate_builtin (b := .append) (xs := #[.tmp 68, .tmp 70]) rfl ?_); at_builtin; refine Kd.S_append k66 w.heap.size rfl (.tmp 68) (.tmp 70) 29 66 (.agg #[(.string ⟨#[]⟩), (.slice none 0 0), (.slice none 0 0)]) 64 rfl Try.underlying29 info66 rfl (by decide) (by omega) u139001 x139001_1 (⟨t142, x146001_16, x146002_4⟩ : S66) [.string t142, .slice Ao50 x146001_16.length co50, .slice Ao51 x146002_4.length co51] (fun k_ => k_ ≠ gb145) (fun k_ => some k_ = (.slice Ao50 x146001_16.length co50 : Value).ownBlock ∨ some k_ = (.slice Ao51 x146002_4.length co51 : Value).ownBlock) rfl rfl ?aP (fun k_ hk_ => hk_.elim (fun h_ => ((Kd.R_mono (ok' := fun k_ => ((fun k_ => k_ ≠ gb145)) k_ ∧ some k_ ≠ (u139001 : Value).ownBlock) (Kd.R_types (Kd.R_apart' (HO_146001.out) (Kd.S_typed HO_139001.out) (by decide)) BK145.out (by decide)) (fun k_ hk => ⟨hk.2, hk.1.2⟩))).1 k_ h_.symm) (fun h_ => ((Kd.R_mono (ok' := fun k_ => ((fun k_ => k_ ≠ gb145)) k_ ∧ some k_ ≠ (u139001 : Value).ownBlock) (Kd.R_types (Kd.R_apart' (HO_146002.out) (Kd.S_typed HO_139001.out) (by decide)) BK145.out (by decide)) (fun k_ hk => ⟨hk.2, hk.1.2⟩))).1 k_ h_.symm)) ?aF ?aO (Below.refl _ _) ?aS ?aL ?_; (case aP => exact k66_mkM _ _ _ (⟨t142, x146001_16, x146002_4⟩ : S66) (Kd.R_mono (Kd.R_tight rfl (Kd.R_mono (ok' := fun k_ => ((fun k_ => k_ ≠ gb145)) k_ ∧ some k_ ≠ (u139001 : Value).ownBlock) (Kd.R_types (Kd.R_apart' (HO_146001.out) (Kd.S_typed HO_139001.out) (by decide)) BK145.out (by decide)) (fun k_ hk => ⟨hk.2, hk.1.2⟩))) (fun _ h_ => Or.inl h_)) (Kd.R_mono (Kd.R_tight rfl (Kd.R_mono (ok' := fun k_ => ((fun k_ => k_ ≠ gb145)) k_ ∧ some k_ ≠ (u139001 : Value).ownBlock) (Kd.R_types (Kd.R_apart' (HO_146002.out) (Kd.S_typed HO_139001.out) (by decide)) BK145.out (by decide)) (fun k_ hk => ⟨hk.2, hk.1.2⟩))) (fun _ h_ => Or.inr (h_)))); (case aF => exact (fun k_ hk => Kd.freshB (zb BK145) k_ hk)); (case aO => exact (Kd.S_mono (zs HO_139001) (fun k_ hk => ⟨hk.2.2, fun e_ => e_.elim (fun h_ => hk.1 h_) (fun h_ => hk.2.1 h_)⟩))); (case aS => exact (keep_size (w := w) (g := g) (row := none) (by repeat (first | (with_reducible first | exact HK.out | apply KeepBut.set_ | apply keep_drewN | apply keep_drew | apply keep_alloc | refine keep_far ?_ GW134.out _ | refine keep_far ?_ GW138.out _ | refine keep_far ?_ GW145.out _) | exact HK.out)))); (case aL => have := LMc40.out; omega); intro v159 w49 ho hb hg hat; rw [← Ny158.out] at ho; have n0_ := Aside0.mk (blk_grown (zb BK134) hg (Kd.S_ne HO_139001.out BK134.out (by decide))); have n1_ := Aside0.mk (blk_grown (zb BK138) hg (Kd.S_ne HO_139001.out BK138.out (by decide))); have n2_ := Aside0.mk (blk_grown (zb BK145) hg (Kd.S_away HO_139001.out (fun _ hk => hk.2.2))); have n3_ := Aside0.mk (IsS74.grown (by repeat (first | (with_reducible first | exact HI0.out | apply IsS74.alloc | apply IsS74.drewN | apply IsS74.drew | apply IsS74.set_1 | apply IsS74.set_2 | refine IsS74.far ?_ NB0_134.out _ | refine IsS74.far ?_ NB0_138.out _ | refine IsS74.far ?_ NB0_145.out _) | exact HI0.out)) hg (IsS74.own_neS HI0.out HO_139001.out (by decide))); have n4_ := Aside0.mk (below_weaken (by repeat (first | (with_reducible first | exact HB.out | apply below_alloc | apply pw_below_drewN | apply below_drew1 | refine below_set ?_ (IsS74.ge HI0.out) | refine below_set ?_ GE134.out | refine below_set ?_ GE138.out | refine below_set ?_ GE145.out) | exact HB.out)) HL.out hb); have n5_ := Aside0.mk (KeepBut.trans (by repeat (first | (with_reducible first | exact HK.out | apply KeepBut.set_ | apply keep_drewN | apply keep_drew | apply keep_alloc | refine keep_far ?_ GW134.out _ | refine keep_far ?_ GW138.out _ | refine keep_far ?_ GW145.out _) | exact HK.out)) (KeepBut.of_grown hg g) (Kd.S_base2 HO_139001.out)); have n6_ := Aside0.mk (ho); clear BK134; clear BK138; clear BK145; clear HI0; clear HB; clear HK; clear HO_139001; clear HO_146001; clear HO_146002; have BK134 := n0_; have BK138 := n1_; have BK145 := n2_; have HI0 := n3_; have HB := n4_; have HK := n5_; have HO160 := n6_; clear n0_ n1_ n2_ n3_ n4_ n5_ n6_; clear ho hb hg hat; obtain ⟨Ao52, co52, eo52⟩ := Kd.S_slice HO160.out; subst eo52; have hcz53_0 : w49.cell? ⟨gb138, 0, none⟩ = some (.string t135) := (blk_cell BK138.out 0).trans rfl; have hcz53_1 : w49.cell? ⟨gb138, 1, none⟩ = some (u139001) := (blk_cell BK138.out 1).trans rfl; have hfz53_0 := blk_frozen BK138.out 0; have hfz53_1 := blk_frozen BK138.out 1))
             go_roundg k4
             case measure => have := HK1.out; have := HJ10.out; have := HJ16.out; have := HK4.out; omega
             case rel => exact ⟨(wrap64 (x4_1 - 1)), (x1001_4), (true), (y158), (.slice Ao52 y158.length co52), (by first | rfl | (simp; done) | (simp [*]; done)), H', ⟨by have := HK1.out; have := HJ10.out; have := HJ16.out; have := HK4.out; omega⟩, ⟨by (with_reducible repeat (first | apply Kd.S_alloc | apply Kd.S_drewN | apply Kd.S_drew)); exact Kd.S_mono (Kd.S_far (p := ⟨gb138, 1, none⟩) (Kd.S_types HO160.out BK138.out (by decide)) (fun _ hk => hk.2) (.slice Ao52 y158.length co52)) (fun _ hk => trivial)⟩, ⟨by (with_reducible repeat (first | refine blk_drewN ?_ _ | refine blk_drew ?_ | refine blk_alloc ?_ _)); refine blk_far ?_ NB134_138.out _; (with_reducible repeat (first | refine blk_drewN ?_ _ | refine blk_drew ?_ | refine blk_alloc ?_ _)); exact BK134.out⟩, ⟨by (with_reducible repeat (first | refine blk_drewN ?_ _ | refine blk_drew ?_ | refine blk_alloc ?_ _)); refine blk_put (cs := #[.string t135, u139001]) ?_ 1 _ rfl; (with_reducible repeat (first | refine blk_drewN ?_ _ | refine blk_drew ?_ | refine blk_alloc ?_ _)); exact BK138.out⟩, ⟨by repeat (first | (with_reducible first | exact HI0.out | apply IsS74.alloc | apply IsS74.drewN | apply IsS74.drew | apply IsS74.set_1 | apply IsS74.set_2 | refine IsS74.far ?_ NB0_134.out _ | refine IsS74.far ?_ NB0_138.out _ | refine IsS74.far ?_ NB0_145.out _) | exact HI0.out)⟩, ⟨by repeat (first | (with_reducible first | exact HK.out | apply KeepBut.set_ | apply keep_drewN | apply keep_drew | apply keep_alloc | refine keep_far ?_ GW134.out _ | refine keep_far ?_ GW138.out _ | refine keep_far ?_ GW145.out _) | exact HK.out)⟩, ⟨by repeat (first | (with_reducible first | exact HB.out | apply below_alloc | apply pw_below_drewN | apply below_drew1 | refine below_set ?_ (IsS74.ge HI0.out) | refine below_set ?_ GE134.out | refine below_set ?_ GE138.out | refine below_set ?_ GE145.out) | exact HB.out)⟩⟩
            ·rw [if_neg c40] at H
             exact absurd H (by simp)
           ·replace c39 := Bool.eq_false_iff.mpr c39
            subst c39
            have H1 : ((spec_l06Reader_number.f k4 s0_0 x1001_4 false).bind fun bt161 => (if x146002_4.length < 17592186044416 then (spec_l06Reader_doc.l2 k4 x4_1 (wrap64 (x7_4 - 1)) s0_0 bt161.2.1 bt161.2.2 t135 x139001_1 t142 x146001_16 (x146002_4 ++ [bt161.1])) else (none))) = some (r1, r2, r3, r4) := by rw [if_neg (show ¬ (false = true) by decide)] at H; exact H
            clear H
            have H := H1
            clear H1
            replace H := Option.bind_eq_some_iff.mp H
            obtain ⟨⟨t161, t162, t163⟩, A540, H⟩ := H
            replace H : (if x146002_4.length < 17592186044416 then (spec_l06Reader_doc.l2 k4 x4_1 (wrap64 (x7_4 - 1)) s0_0 t162 t163 t135 x139001_1 t142 x146001_16 (x146002_4 ++ [t161])) else (none)) = some (r1, r2, r3, r4) := H
            have A54 := Aside0.mk A540
            clear A540
            by_cases c55 : x146002_4.length < 17592186044416
            ·rw [if_pos c55] at H
             have LMc55 := Aside0.mk c55
             clear c55
             obtain ⟨y164, hy164⟩ : ∃ y_ : List Int, y_ = (x146002_4 ++ [t161]) := ⟨_, rfl⟩
             replace H : (spec_l06Reader_doc.l2 k4 x4_1 (wrap64 (x7_4 - 1)) s0_0 t162 t163 t135 x139001_1 t142 x146001_16 y164) = some (r1, r2, r3, r4) := by first | (rw [hy164]; with_reducible exact H) | (have H2_ := (Option.bind_some _ _).symm.trans H; rw [hy164]; with_reducible exact H2_) | (have H2_ := (Option.bind_some _ _).symm.trans H; with_reducible exact H2_) | with_reducible exact H | (rw [hy164]; exact H) | exact H
             have Ny164 := Aside0.mk hy164
             clear hy164
             have H' := Aside0.mk H
             clear H
             obtain ⟨ASz56_0, cSz56_0, HGz56, hgz56, HSz56_0⟩ := HI0.out
             have hcz56_0 := cellS74_0 HGz56
             have hcz56_1 := cellS74_1 HGz56
             have hcz56_2 := cellS74_2 HGz56
             have hfz56_1 := blk_frozen HGz56 1
             have hfz56_2 := blk_frozen HGz56 2
             clear HGz56 hgz56
             try go_wp2
             have n0_ := Aside0.mk (Kd.S_drew HO_139001.out)
             have n1_ := Aside0.mk (Kd.R_drew HO_146001.out)
             have n2_ := Aside0.mk (Kd.R_drew HO_146002.out)
             have n3_ := Aside0.mk (blk_drew BK134.out)
             have n4_ := Aside0.mk (blk_drew BK138.out)
             have n5_ := Aside0.mk (blk_drew BK145.out)
             have n6_ := Aside0.mk (IsS74.drew HI0.out)
             have n7_ := Aside0.mk (keep_drew HK.out)
             have n8_ := Aside0.mk (below_drew1 HB.out)
             clear HO_139001
             clear HO_146001
             clear HO_146002
             clear BK134
             clear BK138
             clear BK145
             clear HI0
             clear HK
             clear HB
             have HO_139001 := n0_
             have HO_146001 := n1_
             have HO_146002 := n2_
             have BK134 := n3_
             have BK138 := n4_
             have BK145 := n5_
             have HI0 := n6_
             have HK := n7_
             have HB := n8_
             clear n0_ n1_ n2_ n3_ n4_ n5_ n6_ n7_ n8_
             refine start_ (n := 8) (S := fun w' => w'.cell? ⟨gb145, 0, none⟩ = some (.string t142) ∧ w'.cell? ⟨gb145, 1, none⟩ = some (u146001) ∧ w'.cell? ⟨gb145, 2, none⟩ = some (u146002)) (ds := [7]) (fl5_ 8 0) (by kernel_rfl) rfl rfl ⟨(blk_cell BK145.out 0).trans rfl, (blk_cell BK145.out 1).trans rfl, (blk_cell BK145.out 2).trans rfl⟩ (fun hHeld => ?_); refine with_tabW spec_l06Reader_doc.tab13 spec_l06Reader_doc.bits13 (fun HT_ HW_ => ?_)
             generalize wr.drew = w57 at HO_139001 HO_146001 HO_146002 BK134 BK138 BK145 HI0 HK HB hHeld ⊢
             refine pure_ (i := 0) (N := some 60) (v := ?_) (a' := ?_) (fl5_ 8 1) rfl rfl (any_of HT_.out (by kernel_rfl)) (fun _ _ _ h => h) (Or.inl ⟨by rfl, ?_⟩) ?_ ?_
             rotate_left
             ·intro w'
              go_simp
              with_reducible rfl
             rotate_left
             ·simp only [Act.put, List.setIfInBounds_toArray, List.set_cons_zero, List.set_cons_succ, i64_w, i32_w]
              rfl
             refine pure_ (i := 2) (N := some 62) (v := ?_) (a' := ?_) (fl5_ 8 5) rfl rfl (any_of HT_.out (by kernel_rfl)) (fun _ _ _ h => h) (Or.inl ⟨by rfl, ?_⟩) ?_ ?_
             rotate_left
             ·intro w'
              go_simp
              with_reducible rfl
             rotate_left
             ·simp only [Act.put, List.setIfInBounds_toArray, List.set_cons_zero, List.set_cons_succ, i64_w, i32_w]
              rfl
             refine take_ (i := 1) (N := some 61) (v := ?_) (a' := ?_) (fl5_ 8 7) rfl rfl (take_ofW HT_.out HW_.out (by kernel_rfl)) (fun _ _ _ h => h) (Or.inl ⟨by rfl, ?_⟩) hHeld ?_ ?_
             rotate_left
             ·rintro w' ⟨s0, s1, s2⟩
              go_simp
              with_reducible rfl
             rotate_left
             ·simp only [Act.put, List.setIfInBounds_toArray, List.set_cons_zero, List.set_cons_succ, i64_w, i32_w]
              rfl
             refine one_ (i := 3) (N := some 63) (fl5_ 8 15) rfl rfl (one_of HT_.out (by kernel_rfl)) (by decide) (fun K hK => ?_)
             refine goes_ Try.func71 (by kernel_rfl) rfl #[.pointer (some ⟨g, 0, none⟩)] (by rfl) rfl rfl zar ?_
             with_reducible refine (spec_l06Reader_number.calls k4 g s0_0 x1001_4 false t161 t162 t163 w0 _ ?side1 ?side2 A54.out).mono ?_
             (case side1 => repeat (first | (with_reducible first | exact HI0.out | apply IsS74.alloc | apply IsS74.drewN | apply IsS74.drew | apply IsS74.set_1 | apply IsS74.set_2 | refine IsS74.far ?_ NB0_134.out _ | refine IsS74.far ?_ NB0_138.out _ | refine IsS74.far ?_ NB0_145.out _) | exact HI0.out))
             (case side2 => repeat (first | (with_reducible first | exact HB.out | apply below_alloc | apply pw_below_drewN | apply below_drew1 | refine below_set ?_ (IsS74.ge HI0.out) | refine below_set ?_ GE134.out | refine below_set ?_ GE138.out | refine below_set ?_ GE145.out) | exact HB.out))
             rintro e w58 ⟨rfl, hi, hb, hk⟩
             refine ⟨_, rfl, ?_⟩
             have n0_ := Aside0.mk (Kd.S_mono (Kd.S_keep (IsS74.apartS (show IsS74 w0 _ g s0_0 x1001_4 false from by repeat (first | (with_reducible first | exact HI0.out | apply IsS74.alloc | apply IsS74.drewN | apply IsS74.drew | apply IsS74.set_1 | apply IsS74.set_2 | refine IsS74.far ?_ NB0_134.out _ | refine IsS74.far ?_ NB0_138.out _ | refine IsS74.far ?_ NB0_145.out _) | exact HI0.out)) (zs HO_139001) (by decide)) hk (fun _ h => h.2)) (fun _ h => h.1))
             have n1_ := Aside0.mk (Kd.R_mono (Kd.R_keep (IsS74.apart (show IsS74 w0 _ g s0_0 x1001_4 false from by repeat (first | (with_reducible first | exact HI0.out | apply IsS74.alloc | apply IsS74.drewN | apply IsS74.drew | apply IsS74.set_1 | apply IsS74.set_2 | refine IsS74.far ?_ NB0_134.out _ | refine IsS74.far ?_ NB0_138.out _ | refine IsS74.far ?_ NB0_145.out _) | exact HI0.out)) (zr HO_146001) (by decide)) hk (fun _ h => h.2)) (fun _ h => h.1))
             have n2_ := Aside0.mk (Kd.R_mono (Kd.R_keep (IsS74.apart (show IsS74 w0 _ g s0_0 x1001_4 false from by repeat (first | (with_reducible first | exact HI0.out | apply IsS74.alloc | apply IsS74.drewN | apply IsS74.drew | apply IsS74.set_1 | apply IsS74.set_2 | refine IsS74.far ?_ NB0_134.out _ | refine IsS74.far ?_ NB0_138.out _ | refine IsS74.far ?_ NB0_145.out _) | exact HI0.out)) (zr HO_146002) (by decide)) hk (fun _ h => h.2)) (fun _ h => h.1))
             have n3_ := Aside0.mk (KeepBut.blk hk (g' := gb134) (o := .cells #[.string (⟨#[]⟩ : ByteArray), .slice none 0 0] 31 (0, 0)) (zb BK134) NB134_0.out (by simp))
             have n4_ := Aside0.mk (KeepBut.blk hk (g' := gb138) (o := .cells #[.string t135, u139001] 31 (0, 0)) (zb BK138) NB138_0.out (by simp))
             have n5_ := Aside0.mk (KeepBut.blk hk (g' := gb145) (o := .cells #[.string t142, u146001, u146002] 66 (0, 0)) (zb BK145) NB145_0.out (by simp))
             have n6_ := Aside0.mk (KeepBut.trans (by repeat (first | (with_reducible first | exact HK.out | apply KeepBut.set_ | apply keep_drewN | apply keep_drew | apply keep_alloc | refine keep_far ?_ GW134.out _ | refine keep_far ?_ GW138.out _ | refine keep_far ?_ GW145.out _) | exact HK.out)) hk (.inl rfl))
             have n7_ := Aside0.mk (hb)
             have n8_ := Aside0.mk (hi)
             clear HO_139001
             clear HO_146001
             clear HO_146002
             clear BK134
             clear BK138
             clear BK145
             clear HK
             clear HB
             clear HI0
             have HO_139001 := n0_
             have HO_146001 := n1_
             have HO_146002 := n2_
             have BK134 := n3_
             have BK138 := n4_
             have BK145 := n5_
             have HK := n6_
             have HB := n7_
             have HI0 := n8_
             clear n0_ n1_ n2_ n3_ n4_ n5_ n6_ n7_ n8_
             (try clear hb)
             (try clear hb2)
             (try clear hk)
             (try clear hi)
             refine hK.out _ _ ⟨(blk_cell BK145.out 0).trans rfl, (blk_cell BK145.out 1).trans rfl, (blk_cell BK145.out 2).trans rfl⟩ (fun hHeld => ?_)
             clear hK K
             refine norm_ (a' := ?_) ?_ ?_
             rotate_left
             ·show Act.put _ (some 63) _ = _
              simp only [Act.put, List.setIfInBounds_toArray, List.set_cons_zero, List.set_cons_succ, i64_w, i32_w]
              rfl
             refine one_ (i := 4) (N := some 64) (fl5_ 8 31) rfl rfl (one_of HT_.out (by kernel_rfl)) (by decide) (fun K hK => ?_)
             refine value_ (w1 := ?_) (v := ?_) (by rfl) rfl ?_ ?_
             rotate_left 2
             ·go_simp
              constructor
              ·rfl
              ·rfl
             refine hK.out _ _ ⟨(blk_cell (blk_alloc BK145.out _) 0).trans rfl, (blk_cell (blk_alloc BK145.out _) 1).trans rfl, (blk_cell (blk_alloc BK145.out _) 2).trans rfl⟩ (fun hHeld => ?_)
             clear hK K
             refine norm_ (a' := ?_) ?_ ?_
             rotate_left
             ·show Act.put _ (some 64) _ = _
              simp only [Act.put, List.setIfInBounds_toArray, List.set_cons_zero, List.set_cons_succ, i64_w, i32_w]
              rfl
             refine one_ (i := 5) (N := some 65) (fl5_ 8 63) rfl rfl (one_of HT_.out (by kernel_rfl)) (by decide) (fun K hK => ?_)
             refine Kd.R_append_step (Kd.int .i64) w.heap.size (by rfl) (.tmp 61) (.tmp 64) 52 3 (.int .i64 0) 8 rfl Try.underlying52 info3 rfl (by decide) (by omega) u146002 x146002_4 t161 [.int .i64 t161] (fun _ => True) (fun _ => False) rfl rfl ?aP (fun _ hk => hk.elim) ?aF ?aO (Below.refl _ _) ?aS ?aL ?_
             (case aP => exact rfl)
             (case aF => exact (fun _ _ => trivial))
             (case aO => exact (zr HO_146002))
             (case aS => exact (keep_size (w := w) (g := g) (row := none) (by repeat (first | (with_reducible first | exact HK.out | apply KeepBut.set_ | apply keep_drewN | apply keep_drew | apply keep_alloc | refine keep_far ?_ GW134.out _ | refine keep_far ?_ GW138.out _ | refine keep_far ?_ GW145.out _) | exact HK.out))))
             (case aL => have := LMc55.out; omega)
             intro v165 w59 ho hb hg hat
             rw [← Ny164.out] at ho
             have n0_ := Aside0.mk (Kd.S_after (ok := (fun k_ => some k_ ≠ (u146001 : Value).ownBlock ∧ k_ ≠ gb145)) (Kd.S_mono (zs HO_139001) (fun _ hk => ⟨⟨hk.1, hk.2.2⟩, hk.2.1⟩)) hg hat)
             have n1_ := Aside0.mk (Kd.R_over' (zr HO_146001) (Kd.R_typed (zr HO_146002)) (by decide) hg)
             have n2_ := Aside0.mk (blk_grown (zb BK134) hg (Kd.R_ne HO_146002.out BK134.out (by decide)))
             have n3_ := Aside0.mk (blk_grown (zb BK138) hg (Kd.R_ne HO_146002.out BK138.out (by decide)))
             have n4_ := Aside0.mk (blk_grown (zb BK145) hg (Kd.R_ne HO_146002.out BK145.out (by decide)))
             have n5_ := Aside0.mk (IsS74.grown (by repeat (first | (with_reducible first | exact HI0.out | apply IsS74.alloc | apply IsS74.drewN | apply IsS74.drew | apply IsS74.set_1 | apply IsS74.set_2 | refine IsS74.far ?_ NB0_134.out _ | refine IsS74.far ?_ NB0_138.out _ | refine IsS74.far ?_ NB0_145.out _) | exact HI0.out)) hg (IsS74.own_ne HI0.out HO_146002.out (by decide)))
             have n6_ := Aside0.mk (below_weaken (by repeat (first | (with_reducible first | exact HB.out | apply below_alloc | apply pw_below_drewN | apply below_drew1 | refine below_set ?_ (IsS74.ge HI0.out) | refine below_set ?_ GE134.out | refine below_set ?_ GE138.out | refine below_set ?_ GE145.out) | exact HB.out)) HL.out hb)
             have n7_ := Aside0.mk (KeepBut.trans (by repeat (first | (with_reducible first | exact HK.out | apply KeepBut.set_ | apply keep_drewN | apply keep_drew | apply keep_alloc | refine keep_far ?_ GW134.out _ | refine keep_far ?_ GW138.out _ | refine keep_far ?_ GW145.out _) | exact HK.out)) (KeepBut.of_grown hg g) (Kd.R_base2 HO_146002.out))
             have n8_ := Aside0.mk (ho)
             clear HO_139001
             clear HO_146001
             clear BK134
             clear BK138
             clear BK145
             clear HI0
             clear HB
             clear HK
             clear HO_146002
             have HO_139001 := n0_
             have HO_146001 := n1_
             have BK134 := n2_
             have BK138 := n3_
             have BK145 := n4_
             have HI0 := n5_
             have HB := n6_
             have HK := n7_
             have HO166 := n8_
             clear n0_ n1_ n2_ n3_ n4_ n5_ n6_ n7_ n8_
             clear ho hb hg hat
             obtain ⟨Ao60, co60, eo60⟩ := Kd.R_slice HO166.out
             (first | subst eo60 | (injection eo60 with f1_ f2_ f3_; have f4_ := f1_.symm; have f5_ := f3_.symm; clear f1_ f2_ f3_; subst f4_; subst f5_))
             refine hK.out _ _ ⟨(blk_cell BK145.out 0).trans rfl, (blk_cell BK145.out 1).trans rfl, (blk_cell BK145.out 2).trans rfl⟩ (fun hHeld => ?_)
             clear hK K
             refine norm_ (a' := ?_) ?_ ?_
             rotate_left
             ·show Act.put _ (some 65) _ = _
              simp only [Act.put, List.setIfInBounds_toArray, List.set_cons_zero, List.set_cons_succ, i64_w, i32_w]
              rfl
             refine pure_ (i := 6) (N := some 66) (v := ?_) (a' := ?_) (fl5_ 8 127) rfl rfl (any_of HT_.out (by kernel_rfl)) (fun _ _ _ h => h) (Or.inl ⟨by rfl, ?_⟩) ?_ ?_
             rotate_left
             ·intro w'
              go_simp
              with_reducible rfl
             rotate_left
             ·simp only [Act.put, List.setIfInBounds_toArray, List.set_cons_zero, List.set_cons_succ, i64_w, i32_w]
              rfl
             refine last_ (i := 7) (N := none) (fl5_ 8 255) rfl rfl (one_of HT_.out (by kernel_rfl)) (by decide) (fun K hK => ?_)
             have hs61 : w59.cell? ⟨gb145, 2, none⟩ = some (u146002) := (blk_cell BK145.out 2).trans rfl
             have hfs61 := blk_frozen BK145.out 2
             have hns61_0 := NB134_145.out
             have hns61_1 := NB138_145.out
             have hms61_0 := NB145_134.out
             have hms61_1 := NB145_138.out
             refine skip_ (w1 := ?_) (by rfl) rfl ?_ ?_
             rotate_left
             ·go_simp
              rfl
             refine hK.out _ _ ?_
             clear hK K
             refine done_ (done_of HT_.out (by kernel_rfl)) ?_
             try go_wp2
             go_roundg k4
             case measure => have := HK1.out; have := HJ10.out; have := HJ16.out; have := HK4.out; omega
             case rel => exact ⟨(wrap64 (x7_4 - 1)), (t162), (t163), (y164), (.slice Ao60 y164.length co60), (by first | rfl | (simp; done) | (simp [*]; done)), H', ⟨by have := HK1.out; have := HJ10.out; have := HJ16.out; have := HK4.out; omega⟩, ⟨by (with_reducible repeat (first | apply Kd.S_alloc | apply Kd.S_drewN | apply Kd.S_drew)); exact Kd.S_mono (Kd.S_far (p := ⟨gb145, 2, none⟩) (Kd.S_mono HO_139001.out (fun k_ hk => (⟨hk, hk.1.2⟩ : _ ∧ k_ ≠ gb145))) (fun _ hk => hk.2) (.slice Ao60 y164.length co60)) (fun _ hk => ⟨hk.1.1.1, ⟨hk.1.2, hk.1.1.2⟩⟩)⟩, ⟨by (with_reducible repeat (first | apply Kd.R_alloc | apply Kd.R_drewN | apply Kd.R_drew)); exact Kd.R_mono (Kd.R_far (p := ⟨gb145, 2, none⟩) (Kd.R_types HO_146001.out BK145.out (by decide)) (fun _ hk => hk.2) (.slice Ao60 y164.length co60)) (fun _ hk => trivial)⟩, ⟨by (with_reducible repeat (first | apply Kd.R_alloc | apply Kd.R_drewN | apply Kd.R_drew)); exact Kd.R_mono (Kd.R_far (p := ⟨gb145, 2, none⟩) (Kd.R_types HO166.out BK145.out (by decide)) (fun _ hk => hk.2) (.slice Ao60 y164.length co60)) (fun _ hk => trivial)⟩, ⟨by (with_reducible repeat (first | refine blk_drewN ?_ _ | refine blk_drew ?_ | refine blk_alloc ?_ _)); refine blk_far ?_ NB134_145.out _; (with_reducible repeat (first | refine blk_drewN ?_ _ | refine blk_drew ?_ | refine blk_alloc ?_ _)); exact BK134.out⟩, ⟨by (with_reducible repeat (first | refine blk_drewN ?_ _ | refine blk_drew ?_ | refine blk_alloc ?_ _)); refine blk_far ?_ NB138_145.out _; (with_reducible repeat (first | refine blk_drewN ?_ _ | refine blk_drew ?_ | refine blk_alloc ?_ _)); exact BK138.out⟩, ⟨by (with_reducible repeat (first | refine blk_drewN ?_ _ | refine blk_drew ?_ | refine blk_alloc ?_ _)); refine blk_put (cs := #[.string t142, u146001, u146002]) ?_ 2 _ rfl; (with_reducible repeat (first | refine blk_drewN ?_ _ | refine blk_drew ?_ | refine blk_alloc ?_ _)); exact BK145.out⟩, ⟨by repeat (first | (with_reducible first | exact HI0.out | apply IsS74.alloc | apply IsS74.drewN | apply IsS74.drew | apply IsS74.set_1 | apply IsS74.set_2 | refine IsS74.far ?_ NB0_134.out _ | refine IsS74.far ?_ NB0_138.out _ | refine IsS74.far ?_ NB0_145.out _) | exact HI0.out)⟩, ⟨by repeat (first | (with_reducible first | exact HK.out | apply KeepBut.set_ | apply keep_drewN | apply keep_drew | apply keep_alloc | refine keep_far ?_ GW134.out _ | refine keep_far ?_ GW138.out _ | refine keep_far ?_ GW145.out _) | exact HK.out)⟩, ⟨by repeat (first | (with_reducible first | exact HB.out | apply below_alloc | apply pw_below_drewN | apply below_drew1 | refine below_set ?_ (IsS74.ge HI0.out) | refine below_set ?_ GE134.out | refine below_set ?_ GE138.out | refine below_set ?_ GE145.out) | exact HB.out)⟩⟩
            ·rw [if_neg c55] at H
             exact absurd H (by simp)
          ·rw [if_neg c38] at H
           have c38b0 : decide (0 < x7_4) = false := decide_eq_false c38
           clear c38
           by_cases c62 : x139001_1.length < 2199023255552
           ·rw [if_pos c62] at H
            have LMc62 := Aside0.mk c62
            clear c62
            obtain ⟨y167, hy167⟩ : ∃ y_ : List (S66), y_ = (x139001_1 ++ [(⟨t142, x146001_16, x146002_4⟩ : S66)]) := ⟨_, rfl⟩
            replace H : (spec_l06Reader_doc.l0 k4 (wrap64 (x4_1 - 1)) s0_0 x1001_4 x1002_4 t135 y167) = some (r1, r2, r3, r4) := by first | (rw [hy167]; with_reducible exact H) | (have H2_ := (Option.bind_some _ _).symm.trans H; rw [hy167]; with_reducible exact H2_) | (have H2_ := (Option.bind_some _ _).symm.trans H; with_reducible exact H2_) | with_reducible exact H | (rw [hy167]; exact H) | exact H
            have Ny167 := Aside0.mk hy167
            clear hy167
            have H' := Aside0.mk H
            clear H
            have hnb63 := NB138_134.out
            have hnc63 := NB134_138.out
            have hnb64 := NB138_145.out
            have hnc64 := NB145_138.out
            have hnb65 := NB138_0.out
            have hnc65 := NB0_138.out
            have hcz66_0 : wr.cell? ⟨gb138, 0, none⟩ = some (.string t135) := (blk_cell BK138.out 0).trans rfl
            have hcz66_1 : wr.cell? ⟨gb138, 1, none⟩ = some (u139001) := (blk_cell BK138.out 1).trans rfl
            have hfz66_0 := blk_frozen BK138.out 0
            have hfz66_1 := blk_frozen BK138.out 1
            have hnb67 := NB145_134.out
            have hnc67 := NB134_145.out
            have hnb68 := NB145_0.out
            have hnc68 := NB0_145.out
            have hcz69_0 : wr.cell? ⟨gb145, 0, none⟩ = some (.string t142) := (blk_cell BK145.out 0).trans rfl
            have hcz69_1 : wr.cell? ⟨gb145, 1, none⟩ = some (u146001) := (blk_cell BK145.out 1).trans rfl
            have hcz69_2 : wr.cell? ⟨gb145, 2, none⟩ = some (u146002) := (blk_cell BK145.out 2).trans rfl
            have hfz69_0 := blk_frozen BK145.out 0
            have hfz69_1 := blk_frozen BK145.out 1
            have hfz69_2 := blk_frozen BK145.out 2
            obtain ⟨Ao71, co71, eo71⟩ := Kd.R_slice HO_146001.out
            subst eo71
            obtain ⟨Ao72, co72, eo72⟩ := Kd.R_slice HO_146002.out
            subst eo72
            go_wp2_with (first | ((with_reducible refine gate_builtin (b := .append) (xs := #[.tmp 68, .tmp 70]) rfl ?_); at_builtin; refine Kd.S_append k66 w.heap.size rfl (.tmp 68) (.tmp 70) 29 66 (.agg #[(.string ⟨#[]⟩), (.slice none 0 0), (.slice none 0 0)]) 64 rfl Try.underlying29 info66 rfl (by decide) (by omega) u139001 x139001_1 (⟨t142, x146001_16, x146002_4⟩ : S66) [.string t142, .slice Ao71 x146001_16.length co71, .slice Ao72 x146002_4.length co72] (fun k_ => k_ ≠ gb145) (fun k_ => some k_ = (.slice Ao71 x146001_16.length co71 : Value).ownBlock ∨ some k_ = (.slice Ao72 x146002_4.length co72 : Value).ownBlock) rfl rfl ?aP (fun k_ hk_ => hk_.elim (fun h_ => ((Kd.R_mono (ok' := fun k_ => ((fun k_ => k_ ≠ gb145)) k_ ∧ some k_ ≠ (u139001 : Value).ownBlock) (Kd.R_types (Kd.R_apart' (HO_146001.out) (Kd.S_typed HO_139001.out) (by decide)) BK145.out (by decide)) (fun k_ hk => ⟨hk.2, hk.1.2⟩))).1 k_ h_.symm) (fun h_ => ((Kd.R_mono (ok' := fun k_ => ((fun k_ => k_ ≠ gb145)) k_ ∧ some k_ ≠ (u139001 : Value).ownBlock) (Kd.R_types (Kd.R_apart' (HO_146002.out) (Kd.S_typed HO_139001.out) (by decide)) BK145.out (by decide)) (fun k_ hk => ⟨hk.2, hk.1.2⟩))).1 k_ h_.symm)) ?aF ?aO (Below.refl _ _) ?aS ?aL ?_; (case aP => exact k66_mkM _ _ _ (⟨t142, x146001_16, x146002_4⟩ : S66) (Kd.R_mono (Kd.R_tight rfl (Kd.R_mono (ok' := fun k_ => ((fun k_ => k_ ≠ gb145)) k_ ∧ some k_ ≠ (u139001 : Value).ownBlock) (Kd.R_types (Kd.R_apart' (HO_146001.out) (Kd.S_typed HO_139001.out) (by decide)) BK145.out (by decide)) (fun k_ hk => ⟨hk.2, hk.1.2⟩))) (fun _ h_ => Or.inl h_)) (Kd.R_mono (Kd.R_tight rfl (Kd.R_mono (ok' := fun k_ => ((fun k_ => k_ ≠ gb145)) k_ ∧ some k_ ≠ (u139001 : Value).ownBlock) (Kd.R_types (Kd.R_apart' (HO_146002.out) (Kd.S_typed HO_139001.out) (by decide)) BK145.out (by decide)) (fun k_ hk => ⟨hk.2, hk.1.2⟩))) (fun _ h_ => Or.inr (h_)))); (case aF => exact (fun k_ hk => Kd.freshB (zb BK145) k_ hk)); (case aO => exact (Kd.S_mono (zs HO_139001) (fun k_ hk => ⟨hk.2.2, fun e_ => e_.elim (fun h_ => hk.1 h_) (fun h_ => hk.2.1 h_)⟩))); (case aS => exact (keep_size (w := w) (g := g) (row := none) (by repeat (first | (with_reducible first | exact HK.out | apply KeepBut.set_ | apply keep_drewN | apply keep_drew | apply keep_alloc | refine keep_far ?_ GW134.out _ | refine keep_far ?_ GW138.out _ | refine keep_far ?_ GW145.out _) | exact HK.out)))); (case aL => have := LMc62.out; omega); intro v168 w70 ho hb hg hat; rw [← Ny167.out] at ho; have n0_ := Aside0.mk (blk_grown (zb BK134) hg (Kd.S_ne HO_139001.out BK134.out (by decide))); have n1_ := Aside0.mk (blk_grown (zb BK138) hg (Kd.S_ne HO_139001.out BK138.out (by decide))); have n2_ := Aside0.mk (blk_grown (zb BK145) hg (Kd.S_away HO_139001.out (fun _ hk => hk.2.2))); have n3_ := Aside0.mk (IsS74.grown (by repeat (first | (with_reducible first | exact HI0.out | apply IsS74.alloc | apply IsS74.drewN | apply IsS74.drew | apply IsS74.set_1 | apply IsS74.set_2 | refine IsS74.far ?_ NB0_134.out _ | refine IsS74.far ?_ NB0_138.out _ | refine IsS74.far ?_ NB0_145.out _) | exact HI0.out)) hg (IsS74.own_neS HI0.out HO_139001.out (by decide))); have n4_ := Aside0.mk (below_weaken (by repeat (first | (with_reducible first | exact HB.out | apply below_alloc | apply pw_below_drewN | apply below_drew1 | refine below_set ?_ (IsS74.ge HI0.out) | refine below_set ?_ GE134.out | refine below_set ?_ GE138.out | refine below_set ?_ GE145.out) | exact HB.out)) HL.out hb); have n5_ := Aside0.mk (KeepBut.trans (by repeat (first | (with_reducible first | exact HK.out | apply KeepBut.set_ | apply keep_drewN | apply keep_drew | apply keep_alloc | refine keep_far ?_ GW134.out _ | refine keep_far ?_ GW138.out _ | refine keep_far ?_ GW145.out _) | exact HK.out)) (KeepBut.of_grown hg g) (Kd.S_base2 HO_139001.out)); have n6_ := Aside0.mk (ho); clear BK134; clear BK138; clear BK145; clear HI0; clear HB; clear HK; clear HO_139001; clear HO_146001; clear HO_146002; have BK134 := n0_; have BK138 := n1_; have BK145 := n2_; have HI0 := n3_; have HB := n4_; have HK := n5_; have HO169 := n6_; clear n0_ n1_ n2_ n3_ n4_ n5_ n6_; clear ho hb hg hat; obtain ⟨Ao73, co73, eo73⟩ := Kd.S_slice HO169.out; subst eo73; have hcz74_0 : w70.cell? ⟨gb138, 0, none⟩ = some (.string t135) := (blk_cell BK138.out 0).trans rfl; have hcz74_1 : w70.cell? ⟨gb138, 1, none⟩ = some (u139001) := (blk_cell BK138.out 1).trans rfl; have hfz74_0 := blk_frozen BK138.out 0; have hfz74_1 := blk_frozen BK138.out 1))
            go_roundg k4
            case measure => have := HK1.out; have := HJ10.out; have := HJ16.out; have := HK4.out; omega
            case rel => exact ⟨(wrap64 (x4_1 - 1)), (x1001_4), (x1002_4), (y167), (.slice Ao73 y167.length co73), (by first | rfl | (simp; done) | (simp [*]; done)), H', ⟨by have := HK1.out; have := HJ10.out; have := HJ16.out; have := HK4.out; omega⟩, ⟨by (with_reducible repeat (first | apply Kd.S_alloc | apply Kd.S_drewN | apply Kd.S_drew)); exact Kd.S_mono (Kd.S_far (p := ⟨gb138, 1, none⟩) (Kd.S_types HO169.out BK138.out (by decide)) (fun _ hk => hk.2) (.slice Ao73 y167.length co73)) (fun _ hk => trivial)⟩, ⟨by (with_reducible repeat (first | refine blk_drewN ?_ _ | refine blk_drew ?_ | refine blk_alloc ?_ _)); refine blk_far ?_ NB134_138.out _; (with_reducible repeat (first | refine blk_drewN ?_ _ | refine blk_drew ?_ | refine blk_alloc ?_ _)); exact BK134.out⟩, ⟨by (with_reducible repeat (first | refine blk_drewN ?_ _ | refine blk_drew ?_ | refine blk_alloc ?_ _)); refine blk_put (cs := #[.string t135, u139001]) ?_ 1 _ rfl; (with_reducible repeat (first | refine blk_drewN ?_ _ | refine blk_drew ?_ | refine blk_alloc ?_ _)); exact BK138.out⟩, ⟨by repeat (first | (with_reducible first | exact HI0.out | apply IsS74.alloc | apply IsS74.drewN | apply IsS74.drew | apply IsS74.set_1 | apply IsS74.set_2 | refine IsS74.far ?_ NB0_134.out _ | refine IsS74.far ?_ NB0_138.out _ | refine IsS74.far ?_ NB0_145.out _) | exact HI0.out)⟩, ⟨by repeat (first | (with_reducible first | exact HK.out | apply KeepBut.set_ | apply keep_drewN | apply keep_drew | apply keep_alloc | refine keep_far ?_ GW134.out _ | refine keep_far ?_ GW138.out _ | refine keep_far ?_ GW145.out _) | exact HK.out)⟩, ⟨by repeat (first | (with_reducible first | exact HB.out | apply below_alloc | apply pw_below_drewN | apply below_drew1 | refine below_set ?_ (IsS74.ge HI0.out) | refine below_set ?_ GE134.out | refine below_set ?_ GE138.out | refine below_set ?_ GE145.out) | exact HB.out)⟩⟩
           ·rw [if_neg c62] at H
            exact absurd H (by simp)
     ·replace c14 := Bool.eq_false_iff.mpr c14
      subst c14
      have H1 : (some (t135, x139001_1, x1001_1, x1002_1)) = some (r1, r2, r3, r4) := by rw [if_neg (show ¬ (false = true) by decide)] at H; exact H
      clear H
      have H := H1
      clear H1
      simp only [Option.some.injEq, Prod.mk.injEq] at H
      obtain ⟨rfl, rfl, rfl, rfl⟩ := H
      have hnb75 := NB138_134.out
      have hnc75 := NB134_138.out
      have hnb76 := NB138_0.out
      have hnc76 := NB0_138.out
      have hcz77_0 : wc.cell? ⟨gb138, 0, none⟩ = some (.string t135) := (blk_cell BK138.out 0).trans rfl
      have hcz77_1 : wc.cell? ⟨gb138, 1, none⟩ = some (u139001) := (blk_cell BK138.out 1).trans rfl
      have hfz77_0 := blk_frozen BK138.out 0
      have hfz77_1 := blk_frozen BK138.out 1
      have hnb78 := NB134_0.out
      have hnc78 := NB0_134.out
      have hcz79_0 : wc.cell? ⟨gb134, 0, none⟩ = some (.string (⟨#[]⟩ : ByteArray)) := (blk_cell BK134.out 0).trans rfl
      have hcz79_1 : wc.cell? ⟨gb134, 1, none⟩ = some (.slice none 0 0) := (blk_cell BK134.out 1).trans rfl
      have hfz79_0 := blk_frozen BK134.out 0
      have hfz79_1 := blk_frozen BK134.out 1
      obtain ⟨Ao80, co80, eo80⟩ := Kd.S_slice HO_139001.out
      subst eo80
      go_wp2
      refine bodyPost_ret (results_cell_row rfl _ _ gb134 31 #[.string t135, .slice Ao80 x139001_1.length co80] (0, 0) _ rfl (by (with_reducible repeat (first | refine blk_drewN ?_ _ | refine blk_drew ?_ | refine blk_alloc ?_ _)); refine blk_put (cs := #[.string t135, .slice none 0 0]) ?_ 1 _ rfl; (with_reducible repeat (first | refine blk_drewN ?_ _ | refine blk_drew ?_ | refine blk_alloc ?_ _)); refine blk_put (cs := #[.string (⟨#[]⟩ : ByteArray), .slice none 0 0]) ?_ 0 _ rfl; (with_reducible repeat (first | refine blk_drewN ?_ _ | refine blk_drew ?_ | refine blk_alloc ?_ _)); exact BK134.out) Try.underlying31 rfl (by kernel_rfl)) rfl ?_
      exact ⟨_, zre, by (with_reducible repeat (first | apply Kd.S_alloc | apply Kd.S_drewN | apply Kd.S_drew)); exact Kd.S_mono (Kd.S_far (p := ⟨gb134, 1, none⟩) (Kd.S_far (p := ⟨gb134, 0, none⟩) (Kd.S_types HO_139001.out BK134.out (by decide)) (fun _ hk => hk.2) (.string t135)) (fun _ hk => hk.2) (.slice Ao80 x139001_1.length co80)) (fun _ hk => trivial), by repeat (first | (with_reducible first | exact HI0.out | apply IsS74.alloc | apply IsS74.drewN | apply IsS74.drew | apply IsS74.set_1 | apply IsS74.set_2 | refine IsS74.far ?_ NB0_134.out _ | refine IsS74.far ?_ NB0_138.out _) | exact HI0.out), by repeat (first | (with_reducible first | exact HB.out | apply below_alloc | apply pw_below_drewN | apply below_drew1 | refine below_set ?_ (IsS74.ge HI0.out) | refine below_set ?_ GE134.out | refine below_set ?_ GE138.out) | exact HB.out), by repeat (first | (with_reducible first | exact HK.out | apply KeepBut.set_ | apply keep_drewN | apply keep_drew | apply keep_alloc | refine keep_far ?_ GW134.out _ | refine keep_far ?_ GW138.out _) | exact HK.out)⟩

end Go.Proofs.Ytnpdmleglcbobaa.XFnExactReadDoc
