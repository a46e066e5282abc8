-- A text of this session: written by its own program (wip/x/xprint.py), which runs the kit's printer with contracts of its own.
import Derived.Test.YtnpdmleglcbobaaXFnExactReadDocx0
import Derived.Test.YtnpdmleglcbobaaXFnExactReadDocx6
namespace Go.Proofs.Ytnpdmleglcbobaa.XFnExactReadDoc
open Go.RowKit Go.Proofs.YtnpdmleglcbobaaW.PrintWords Go.Proofs.YtnpdmleglcbobaaW.PrintLast Go.Proofs.YtnpdmleglcbobaaW.PrintMore
attribute [local go_sem] max2_int min2_int max_two min_two max_three min_three max_four min_four   -- for this text's walks alone
set_option linter.unusedVariables false
set_option linter.unusedSimpArgs false
def fl7_ (n m : Nat) : Array Bool := ((List.range n).map fun i => m.testBit i).toArray

/-! ### impl_docReader_doc: function 44 -/
mutual
def impl_docReader_doc.l0 : Nat → Int → Int → List Int → Int → Bool → ByteArray → List (S66) → Option (ByteArray × (List (S66)) × Int × Bool)
 | 0, _, _, _, _, _, _, _ => none
 | k + 1, x10, x11, x1000, x1001, x1002, x194000, x194001 => if x11 < x10 then ((impl_docReader_text.f k x1000 x1001 x1002).bind fun bt197 => ((impl_docReader_int.f k x1000 bt197.2.1 bt197.2.2 4096).bind fun bt201 => (impl_docReader_doc.l1 k x10 x11 bt201.1 0 x1000 bt201.2.1 bt201.2.2 x194000 x194001 bt197.1 ([] : List ByteArray)))) else (some (x194000, x194001, x1001, x1002))
def impl_docReader_doc.l1 : Nat → Int → Int → Int → Int → List Int → Int → Bool → ByteArray → List (S66) → ByteArray → List ByteArray → Option (ByteArray × (List (S66)) × Int × Bool)
 | 0, _, _, _, _, _, _, _, _, _, _, _ => none
 | k + 1, x10, x11, x17, x18, x1000, x1001, x1002, x194000, x194001, x201000, x201001 => if x18 < x17 then ((impl_docReader_text.f k x1000 x1001 x1002).bind fun bt204 => (if x201001.length < 8796093022208 then (if bt204.2.2 = true then (some (x194000, x194001, bt204.2.1, bt204.2.2)) else (impl_docReader_doc.l1 k x10 x11 x17 (wrap64 (x18 + 1)) x1000 bt204.2.1 bt204.2.2 x194000 x194001 x201000 (x201001 ++ [bt204.1]))) else (none))) else ((impl_docReader_int.f k x1000 x1001 x1002 4096).bind fun bt210 => (impl_docReader_doc.l2 k x10 x11 bt210.1 0 x1000 bt210.2.1 bt210.2.2 x194000 x194001 x201000 x201001 ([] : List Int)))
def impl_docReader_doc.l2 : Nat → Int → Int → Int → Int → List Int → Int → Bool → ByteArray → List (S66) → ByteArray → List ByteArray → List Int → Option (ByteArray × (List (S66)) × Int × Bool)
 | 0, _, _, _, _, _, _, _, _, _, _, _, _ => none
 | k + 1, x10, x11, x34, x35, x1000, x1001, x1002, x194000, x194001, x201000, x201001, x201002 => if x35 < x34 then ((impl_docReader_int.f k x1000 x1001 x1002 2000000000000).bind fun bt216 => (if (Int.tmod bt216.1 2) = 1 then (if x201002.length < 17592186044416 then (if bt216.2.2 = true then (some (x194000, x194001, bt216.2.1, bt216.2.2)) else (impl_docReader_doc.l2 k x10 x11 x34 (wrap64 (x35 + 1)) x1000 bt216.2.1 bt216.2.2 x194000 x194001 x201000 x201001 (x201002 ++ [wrap64 (Int.tdiv (wrap64 (-(wrap64 (bt216.1 + 1)))) 2)]))) else (none)) else (if x201002.length < 17592186044416 then (if bt216.2.2 = true then (some (x194000, x194001, bt216.2.1, bt216.2.2)) else (impl_docReader_doc.l2 k x10 x11 x34 (wrap64 (x35 + 1)) x1000 bt216.2.1 bt216.2.2 x194000 x194001 x201000 x201001 (x201002 ++ [wrap64 (Int.tdiv bt216.1 2)]))) else (none)))) else (if x194001.length < 2199023255552 then ((some (x194001 ++ [(⟨x201000, x201001, x201002⟩ : S66)] : List (S66))).bind fun y213 => (if x1002 = true then (some (x194000, y213, x1001, x1002)) else (impl_docReader_doc.l0 k x10 (wrap64 (x11 + 1)) x1000 x1001 x1002 x194000 y213))) else (none))
end
def impl_docReader_doc.f (k : Nat) (s0_0 : List Int) (s0_1 : Int) (s0_2 : Bool) : Option (ByteArray × (List (S66)) × Int × Bool) := (impl_docReader_text.f k s0_0 s0_1 s0_2).bind fun bt190 => ((impl_docReader_int.f k s0_0 bt190.2.1 bt190.2.2 4096).bind fun bt194 => (impl_docReader_doc.l0 k bt194.1 0 s0_0 bt194.2.1 bt194.2.2 bt190.1 ([] : List (S66))))
theorem impl_docReader_doc.mono_l : ∀ k, (∀ y0 y1 y2 y3 y4 y5 y6, LeO (impl_docReader_doc.l0 k y0 y1 y2 y3 y4 y5 y6) (impl_docReader_doc.l0 (k + 1) y0 y1 y2 y3 y4 y5 y6)) ∧ (∀ y0 y1 y2 y3 y4 y5 y6 y7 y8 y9 y10, LeO (impl_docReader_doc.l1 k y0 y1 y2 y3 y4 y5 y6 y7 y8 y9 y10) (impl_docReader_doc.l1 (k + 1) y0 y1 y2 y3 y4 y5 y6 y7 y8 y9 y10)) ∧ (∀ y0 y1 y2 y3 y4 y5 y6 y7 y8 y9 y10 y11, LeO (impl_docReader_doc.l2 k y0 y1 y2 y3 y4 y5 y6 y7 y8 y9 y10 y11) (impl_docReader_doc.l2 (k + 1) y0 y1 y2 y3 y4 y5 y6 y7 y8 y9 y10 y11))
 | 0 => ⟨fun _ _ _ _ _ _ _ r h => by simp [impl_docReader_doc.l0] at h, fun _ _ _ _ _ _ _ _ _ _ _ r h => by simp [impl_docReader_doc.l1] at h, fun _ _ _ _ _ _ _ _ _ _ _ _ r h => by simp [impl_docReader_doc.l2] at h⟩
 | k + 1 => by
  obtain ⟨ih0, ih1, ih2⟩ := impl_docReader_doc.mono_l k
  refine ⟨?_, ?_, ?_⟩
  ·intro y0 y1 y2 y3 y4 y5 y6
   unfold impl_docReader_doc.l0
   repeat' first
   | (with_reducible exact ih0 _ _ _ _ _ _ _)
   | (with_reducible exact ih1 _ _ _ _ _ _ _ _ _ _ _)
   | (with_reducible exact ih2 _ _ _ _ _ _ _ _ _ _ _ _)
   | (with_reducible exact impl_docReader_int.mono _ _ _ _ _)
   | (with_reducible exact impl_docReader_text.mono _ _ _ _)
   | (with_reducible exact LeO.refl _)
   | (with_reducible exact LeO.none _)
   | (with_reducible refine LeO.ite ?_ ?_)
   | (with_reducible refine LeO.bind ?_ (fun _ => ?_))
   | exact ih0 _ _ _ _ _ _ _
   | exact ih1 _ _ _ _ _ _ _ _ _ _ _
   | exact ih2 _ _ _ _ _ _ _ _ _ _ _ _
   | exact impl_docReader_int.mono _ _ _ _ _
   | exact impl_docReader_text.mono _ _ _ _
   | exact LeO.none _
   | refine LeO.ite ?_ ?_
   | refine LeO.bind ?_ (fun _ => ?_)
  ·intro y0 y1 y2 y3 y4 y5 y6 y7 y8 y9 y10
   unfold impl_docReader_doc.l1
   repeat' first
   | (with_reducible exact ih0 _ _ _ _ _ _ _)
   | (with_reducible exact ih1 _ _ _ _ _ _ _ _ _ _ _)
   | (with_reducible exact ih2 _ _ _ _ _ _ _ _ _ _ _ _)
   | (with_reducible exact impl_docReader_int.mono _ _ _ _ _)
   | (with_reducible exact impl_docReader_text.mono _ _ _ _)
   | (with_reducible exact LeO.refl _)
   | (with_reducible exact LeO.none _)
   | (with_reducible refine LeO.ite ?_ ?_)
   | (with_reducible refine LeO.bind ?_ (fun _ => ?_))
   | exact ih0 _ _ _ _ _ _ _
   | exact ih1 _ _ _ _ _ _ _ _ _ _ _
   | exact ih2 _ _ _ _ _ _ _ _ _ _ _ _
   | exact impl_docReader_int.mono _ _ _ _ _
   | exact impl_docReader_text.mono _ _ _ _
   | exact LeO.none _
   | refine LeO.ite ?_ ?_
   | refine LeO.bind ?_ (fun _ => ?_)
  ·intro y0 y1 y2 y3 y4 y5 y6 y7 y8 y9 y10 y11
   unfold impl_docReader_doc.l2
   repeat' first
   | (with_reducible exact ih0 _ _ _ _ _ _ _)
   | (with_reducible exact ih1 _ _ _ _ _ _ _ _ _ _ _)
   | (with_reducible exact ih2 _ _ _ _ _ _ _ _ _ _ _ _)
   | (with_reducible exact impl_docReader_int.mono _ _ _ _ _)
   | (with_reducible exact impl_docReader_text.mono _ _ _ _)
   | (with_reducible exact LeO.refl _)
   | (with_reducible exact LeO.none _)
   | (with_reducible refine LeO.ite ?_ ?_)
   | (with_reducible refine LeO.bind ?_ (fun _ => ?_))
   | exact ih0 _ _ _ _ _ _ _
   | exact ih1 _ _ _ _ _ _ _ _ _ _ _
   | exact ih2 _ _ _ _ _ _ _ _ _ _ _ _
   | exact impl_docReader_int.mono _ _ _ _ _
   | exact impl_docReader_text.mono _ _ _ _
   | exact LeO.none _
   | refine LeO.ite ?_ ?_
   | refine LeO.bind ?_ (fun _ => ?_)
theorem impl_docReader_doc.mono : ∀ a0 a1 a2 k, LeO (impl_docReader_doc.f k a0 a1 a2) (impl_docReader_doc.f (k + 1) a0 a1 a2) := by
 intro a0 a1 a2 k
 obtain ⟨ih0, ih1, ih2⟩ := impl_docReader_doc.mono_l k
 unfold impl_docReader_doc.f
 repeat' first
  | (with_reducible exact ih0 _ _ _ _ _ _ _)
  | (with_reducible exact ih1 _ _ _ _ _ _ _ _ _ _ _)
  | (with_reducible exact ih2 _ _ _ _ _ _ _ _ _ _ _ _)
  | (with_reducible exact impl_docReader_int.mono _ _ _ _ _)
  | (with_reducible exact impl_docReader_text.mono _ _ _ _)
  | (with_reducible exact LeO.refl _)
  | (with_reducible exact LeO.none _)
  | (with_reducible refine LeO.ite ?_ ?_)
  | (with_reducible refine LeO.bind ?_ (fun _ => ?_))
  | exact ih0 _ _ _ _ _ _ _
  | exact ih1 _ _ _ _ _ _ _ _ _ _ _
  | exact ih2 _ _ _ _ _ _ _ _ _ _ _ _
  | exact impl_docReader_int.mono _ _ _ _ _
  | exact impl_docReader_text.mono _ _ _ _
  | exact LeO.none _
  | refine LeO.ite ?_ ?_
  | refine LeO.bind ?_ (fun _ => ?_)
def impl_docReader_doc.T7 : Bool × List (List Nat × List Nat) := (true, [([], []), ([0], [0]), ([], []), ([2], [2]), ([3], [3]), ([1, 4, 3], [1, 4]), ([0, 1, 2, 3, 4, 5], []), ([6, 5, 5, 0, 1, 2, 3, 4, 5], [5, 6])])
def impl_docReader_doc.B7 : List Nat := [0, 1, 0, 4, 12, 31, 63, 127]
theorem impl_docReader_doc.tab7 : rtab .any (opsOf Try.f44 7) = impl_docReader_doc.T7 := by kernel_rfl
theorem impl_docReader_doc.bits7 : waitsOk impl_docReader_doc.T7.2 impl_docReader_doc.B7 = true := by kernel_rfl
set_option maxHeartbeats 8000000 in
set_option maxRecDepth 100000 in
theorem impl_docReader_doc.calls (k : Nat) (g : Nat) (s0_0 : List Int) (s0_1 : Int) (s0_2 : Bool) (r1 : ByteArray) (r2 : List (S66)) (r3 : Int) (r4 : Bool) (w0 w : World) (hI : IsS78 w0 w g s0_0 s0_1 s0_2) (hB : Below w0.heap.size w0 w) (h : impl_docReader_doc.f k s0_0 s0_1 s0_2 = some (r1, r2, r3, r4)) :
 Calls Try.prog 44 #[.pointer (some ⟨g, 0, none⟩)] w fun e w' => ∃ v1_ : Value, e = .returned (.agg #[.string r1, v1_]) ∧ Kd.S k66 66 w' w.heap.size (fun _ => True) v1_ r2 ∧ IsS78 w0 w' g s0_0 r3 r4 ∧ Below w0.heap.size w0 w' ∧ KeepBut w w' g none := by
 have hu31 := Try.underlying31
 have hu66 := Try.underlying66
 have HI0 := Aside0.mk hI
 have HK := Aside0.mk (KeepBut.refl w g none)
 have HL := Aside0.mk hB.size
 clear hI
 have HW0 := Aside0.mk hB.size
 have HB := Aside0.mk hB
 clear hB
 have H : ((impl_docReader_text.f k s0_0 s0_1 s0_2).bind fun bt190 => ((impl_docReader_int.f k s0_0 bt190.2.1 bt190.2.2 4096).bind fun bt194 => (impl_docReader_doc.l0 k bt194.1 0 s0_0 bt194.2.1 bt194.2.2 bt190.1 ([] : List (S66))))) = some (r1, r2, r3, r4) := h
 clear h
 replace H := Option.bind_eq_some_iff.mp H
 obtain ⟨⟨t190, t191, t192⟩, A20, H⟩ := H
 replace H : ((impl_docReader_int.f k s0_0 t191 t192 4096).bind fun bt194 => (impl_docReader_doc.l0 k bt194.1 0 s0_0 bt194.2.1 bt194.2.2 t190 ([] : List (S66)))) = some (r1, r2, r3, r4) := H
 have A2 := Aside0.mk A20
 clear A20
 replace H := Option.bind_eq_some_iff.mp H
 obtain ⟨⟨t194, t195, t196⟩, A30, H⟩ := H
 replace H : (impl_docReader_doc.l0 k t194 0 s0_0 t195 t196 t190 ([] : List (S66))) = some (r1, r2, r3, r4) := H
 have A3 := Aside0.mk A30
 clear A30
 have H' := Aside0.mk H
 clear H
 go_enter Try.func44, Try.ntmps44
 go_wp2_with (first | ((with_reducible refine gate_dst (N := 2) rfl ?_); refine box_event ?hg (N := 2) ?hd (cs := #[.string (⟨#[]⟩ : ByteArray), .slice none 0 0]) (t := 31) ?hr ?_; (case hd => rfl); (case hg => rfl); (case hr => first | (go_simp; done) | (go_simp; rfl)); intro gb189 hg w4 hbox hb; have n0_ := Aside0.mk (IsS78.below (by repeat (first | (with_reducible first | exact HI0.out | apply IsS78.alloc | apply IsS78.drewN | apply IsS78.drew | apply IsS78.set_1 | apply IsS78.set_2) | exact HI0.out)) hb); have n1_ := Aside0.mk (KeepBut.trans (by repeat (first | (with_reducible first | exact HK.out | apply KeepBut.set_ | apply keep_drewN | apply keep_drew | apply keep_alloc) | exact HK.out)) (KeepBut.of_below hb g none) (.inl rfl)); have n2_ := Aside0.mk (below_step (by repeat (first | (with_reducible first | exact HB.out | apply below_alloc | apply pw_below_drewN | apply below_drew1 | refine below_set ?_ (IsS78.ge HI0.out)) | exact HB.out)) hb); have n3_ := Aside0.mk (hbox); have n4_ := Aside0.mk ((by rw [hg]; exact (keep_size (w := w) (g := g) (row := none) (by repeat (first | (with_reducible first | exact HK.out | apply KeepBut.set_ | apply keep_drewN | apply keep_drew | apply keep_alloc) | exact HK.out))) : w.heap.size ≤ gb189)); have n5_ := Aside0.mk ((Nat.le_trans HW0.out (by rw [hg]; exact (keep_size (w := w) (g := g) (row := none) (by repeat (first | (with_reducible first | exact HK.out | apply KeepBut.set_ | apply keep_drewN | apply keep_drew | apply keep_alloc) | exact HK.out))) : w.heap.size ≤ gb189) : w0.heap.size ≤ gb189)); have n6_ := Aside0.mk ((by rw [hg]; exact Nat.ne_of_lt (IsS78.lt (show IsS78 w0 _ g s0_0 s0_1 s0_2 from by repeat (first | (with_reducible first | exact HI0.out | apply IsS78.alloc | apply IsS78.drewN | apply IsS78.drew | apply IsS78.set_1 | apply IsS78.set_2) | exact HI0.out))) : g ≠ gb189)); have n7_ := Aside0.mk ((by rw [hg]; exact Nat.ne_of_gt (IsS78.lt (show IsS78 w0 _ g s0_0 s0_1 s0_2 from by repeat (first | (with_reducible first | exact HI0.out | apply IsS78.alloc | apply IsS78.drewN | apply IsS78.drew | apply IsS78.set_1 | apply IsS78.set_2) | exact HI0.out))) : gb189 ≠ g)); clear HI0; clear HK; clear HB; have HI0 := n0_; have HK := n1_; have HB := n2_; have BK189 := n3_; have GW189 := n4_; have GE189 := n5_; have NB0_189 := n6_; have NB189_0 := n7_; clear n0_ n1_ n2_ n3_ n4_ n5_ n6_ n7_; clear hb hbox hg) | ((with_reducible refine gate_callee (f := 72) rfl ?_); refine goesL_ (some 7) rfl rfl Try.func72 (by kernel_rfl) rfl #[.pointer (some ⟨g, 0, none⟩)] rfl zar ?_; (with_reducible refine (impl_docReader_text.calls k g s0_0 s0_1 s0_2 t190 t191 t192 w0 _ ?side1 ?side2 A2.out).mono ?_); (case side1 => repeat (first | (with_reducible first | exact HI0.out | apply IsS78.alloc | apply IsS78.drewN | apply IsS78.drew | apply IsS78.set_1 | apply IsS78.set_2 | refine IsS78.far ?_ NB0_189.out _) | exact HI0.out)); (case side2 => repeat (first | (with_reducible first | exact HB.out | apply below_alloc | apply pw_below_drewN | apply below_drew1 | refine below_set ?_ (IsS78.ge HI0.out) | refine below_set ?_ GE189.out) | exact HB.out)); rintro e w5 ⟨rfl, hi, hb, hk⟩; refine ⟨_, rfl, ?_⟩; have n0_ := Aside0.mk (KeepBut.blk hk (g' := gb189) (o := .cells #[.string (⟨#[]⟩ : ByteArray), .slice none 0 0] 31 (0, 0)) (zb BK189) NB189_0.out (by simp)); have n1_ := Aside0.mk (KeepBut.trans (by repeat (first | (with_reducible first | exact HK.out | apply KeepBut.set_ | apply keep_drewN | apply keep_drew | apply keep_alloc | refine keep_far ?_ GW189.out _) | exact HK.out)) hk (.inl rfl)); have n2_ := Aside0.mk (hb); have n3_ := Aside0.mk (hi); clear BK189; clear HK; clear HB; clear HI0; have BK189 := n0_; have HK := n1_; have HB := n2_; have HI0 := n3_; clear n0_ n1_ n2_ n3_; (try clear hb); (try clear hb2); (try clear hk); (try clear hi)) | ((with_reducible refine gate_dst (N := 3) rfl ?_); refine box_event ?hg (N := 3) ?hd (cs := #[.string (⟨#[]⟩ : ByteArray), .slice none 0 0]) (t := 31) ?hr ?_; (case hd => rfl); (case hg => rfl); (case hr => first | (go_simp; done) | (go_simp; rfl)); intro gb193 hg w6 hbox hb; have n0_ := Aside0.mk (IsS78.below (by repeat (first | (with_reducible first | exact HI0.out | apply IsS78.alloc | apply IsS78.drewN | apply IsS78.drew | apply IsS78.set_1 | apply IsS78.set_2 | refine IsS78.far ?_ NB0_189.out _) | exact HI0.out)) hb); have n1_ := Aside0.mk (blk_below (zb BK189) hb); have n2_ := Aside0.mk (KeepBut.trans (by repeat (first | (with_reducible first | exact HK.out | apply KeepBut.set_ | apply keep_drewN | apply keep_drew | apply keep_alloc | refine keep_far ?_ GW189.out _) | exact HK.out)) (KeepBut.of_below hb g none) (.inl rfl)); have n3_ := Aside0.mk (below_step (by repeat (first | (with_reducible first | exact HB.out | apply below_alloc | apply pw_below_drewN | apply below_drew1 | refine below_set ?_ (IsS78.ge HI0.out) | refine below_set ?_ GE189.out) | exact HB.out)) hb); have n4_ := Aside0.mk (hbox); have n5_ := Aside0.mk ((by rw [hg]; exact (keep_size (w := w) (g := g) (row := none) (by repeat (first | (with_reducible first | exact HK.out | apply KeepBut.set_ | apply keep_drewN | apply keep_drew | apply keep_alloc | refine keep_far ?_ GW189.out _) | exact HK.out))) : w.heap.size ≤ gb193)); have n6_ := Aside0.mk ((Nat.le_trans HW0.out (by rw [hg]; exact (keep_size (w := w) (g := g) (row := none) (by repeat (first | (with_reducible first | exact HK.out | apply KeepBut.set_ | apply keep_drewN | apply keep_drew | apply keep_alloc | refine keep_far ?_ GW189.out _) | exact HK.out))) : w.heap.size ≤ gb193) : w0.heap.size ≤ gb193)); have n7_ := Aside0.mk ((by rw [hg]; exact Nat.ne_of_lt (blk_lt (zb BK189)) : gb189 ≠ gb193)); have n8_ := Aside0.mk ((by rw [hg]; exact Nat.ne_of_gt (blk_lt (zb BK189)) : gb193 ≠ gb189)); have n9_ := Aside0.mk ((by rw [hg]; exact Nat.ne_of_lt (IsS78.lt (show IsS78 w0 _ g s0_0 t191 t192 from by repeat (first | (with_reducible first | exact HI0.out | apply IsS78.alloc | apply IsS78.drewN | apply IsS78.drew | apply IsS78.set_1 | apply IsS78.set_2 | refine IsS78.far ?_ NB0_189.out _) | exact HI0.out))) : g ≠ gb193)); have n10_ := Aside0.mk ((by rw [hg]; exact Nat.ne_of_gt (IsS78.lt (show IsS78 w0 _ g s0_0 t191 t192 from by repeat (first | (with_reducible first | exact HI0.out | apply IsS78.alloc | apply IsS78.drewN | apply IsS78.drew | apply IsS78.set_1 | apply IsS78.set_2 | refine IsS78.far ?_ NB0_189.out _) | exact HI0.out))) : gb193 ≠ g)); clear HI0; clear BK189; clear HK; clear HB; have HI0 := n0_; have BK189 := n1_; have HK := n2_; have HB := n3_; have BK193 := n4_; have GW193 := n5_; have GE193 := n6_; have NB189_193 := n7_; have NB193_189 := n8_; have NB0_193 := n9_; have NB193_0 := n10_; clear n0_ n1_ n2_ n3_ n4_ n5_ n6_ n7_ n8_ n9_ n10_; clear hb hbox hg; have hnb7 := NB193_189.out; have hnc7 := NB189_193.out; have hnb8 := NB193_0.out; have hnc8 := NB0_193.out; have hcz9_0 : w6.cell? ⟨gb193, 0, none⟩ = some (.string (⟨#[]⟩ : ByteArray)) := (blk_cell BK193.out 0).trans rfl; have hcz9_1 : w6.cell? ⟨gb193, 1, none⟩ = some (.slice none 0 0) := (blk_cell BK193.out 1).trans rfl; have hfz9_0 := blk_frozen BK193.out 0; have hfz9_1 := blk_frozen BK193.out 1) | ((with_reducible refine gate_callee (f := 73) rfl ?_); refine goesL_ (some 10) rfl rfl Try.func73 (by kernel_rfl) rfl #[.pointer (some ⟨g, 0, none⟩), .int .i64 4096] rfl zar ?_; (with_reducible refine (impl_docReader_int.calls k g s0_0 t191 t192 4096 t194 t195 t196 w0 _ ?side1 ?side2 A3.out).mono ?_); (case side1 => repeat (first | (with_reducible first | exact HI0.out | apply IsS78.alloc | apply IsS78.drewN | apply IsS78.drew | apply IsS78.set_1 | apply IsS78.set_2 | refine IsS78.far ?_ NB0_189.out _ | refine IsS78.far ?_ NB0_193.out _) | exact HI0.out)); (case side2 => repeat (first | (with_reducible first | exact HB.out | apply below_alloc | apply pw_below_drewN | apply below_drew1 | refine below_set ?_ (IsS78.ge HI0.out) | refine below_set ?_ GE189.out | refine below_set ?_ GE193.out) | exact HB.out)); rintro e w10 ⟨rfl, hi, hb, hk⟩; refine ⟨_, rfl, ?_⟩; have n0_ := Aside0.mk (KeepBut.blk hk (g' := gb189) (o := .cells #[.string (⟨#[]⟩ : ByteArray), .slice none 0 0] 31 (0, 0)) (by (with_reducible repeat (first | refine blk_drewN ?_ _ | refine blk_drew ?_ | refine blk_alloc ?_ _)); refine blk_far ?_ NB189_193.out _; (with_reducible repeat (first | refine blk_drewN ?_ _ | refine blk_drew ?_ | refine blk_alloc ?_ _)); refine blk_far ?_ NB189_193.out _; (with_reducible repeat (first | refine blk_drewN ?_ _ | refine blk_drew ?_ | refine blk_alloc ?_ _)); exact BK189.out) NB189_0.out (by simp)); have n1_ := Aside0.mk (KeepBut.blk hk (g' := gb193) (o := .cells #[.string t190, .slice none 0 0] 31 (0, 0)) (by (with_reducible repeat (first | refine blk_drewN ?_ _ | refine blk_drew ?_ | refine blk_alloc ?_ _)); refine blk_put (cs := #[.string t190, .slice none 0 0]) ?_ 1 _ rfl; (with_reducible repeat (first | refine blk_drewN ?_ _ | refine blk_drew ?_ | refine blk_alloc ?_ _)); refine blk_put (cs := #[.string (⟨#[]⟩ : ByteArray), .slice none 0 0]) ?_ 0 _ rfl; (with_reducible repeat (first | refine blk_drewN ?_ _ | refine blk_drew ?_ | refine blk_alloc ?_ _)); exact BK193.out) NB193_0.out (by simp)); have n2_ := Aside0.mk (KeepBut.trans (by repeat (first | (with_reducible first | exact HK.out | apply KeepBut.set_ | apply keep_drewN | apply keep_drew | apply keep_alloc | refine keep_far ?_ GW189.out _ | refine keep_far ?_ GW193.out _) | exact HK.out)) hk (.inl rfl)); have n3_ := Aside0.mk (hb); have n4_ := Aside0.mk (hi); clear BK189; clear BK193; clear HK; clear HB; clear HI0; have BK189 := n0_; have BK193 := n1_; have HK := n2_; have HB := n3_; have HI0 := n4_; clear n0_ n1_ n2_ n3_ n4_; (try clear hb); (try clear hb2); (try clear hk); (try clear hi)))
 go_loopg [11] k (fun kq v11 w' => ∃ (x11_1 : Int) (x1001_1 : Int) (x1002_1 : Bool) (x190000_1 : ByteArray) (x194001_1 : List (S66)) (u194001 : Value), v11 = .int .i64 x11_1 ∧ Aside0 (impl_docReader_doc.l0 kq t194 x11_1 s0_0 x1001_1 x1002_1 t190 x194001_1 = some (r1, r2, r3, r4)) ∧ Aside0 (kq ≤ k) ∧ Aside0 (Kd.S k66 66 w' w.heap.size (fun _ => True) u194001 x194001_1) ∧ Aside0 (w'.heap[gb189]? = some (.cells #[.string x190000_1, (.slice none 0 0)] 31 (0, 0))) ∧ Aside0 (w'.heap[gb193]? = some (.cells #[.string t190, u194001] 31 (0, 0))) ∧ Aside0 (IsS78 w0 w' g s0_0 x1001_1 x1002_1) ∧ Aside0 (KeepBut w w' g none) ∧ Aside0 (Below w0.heap.size w0 w'))
 case atStart => exact ⟨(0), (t195), (t196), ((⟨#[]⟩ : ByteArray)), (([] : List (S66))), (.slice none 0 0), (by first | rfl | (simp; done) | (simp [*]; done)), H', ⟨Nat.le_refl _⟩, ⟨by first | exact Kd.S_nil _ _ _ _ _ | exact Kd.N_nil _ _ _ _ _ | exact Kd.V_nil _ _ _ _ _ | exact Kd.Q_nil _ _ _ _ _ | exact Kd.R_nil _ _ _ _ _⟩, ⟨zb BK189⟩, ⟨zb BK193⟩, ⟨by repeat (first | (with_reducible first | exact HI0.out | apply IsS78.alloc | apply IsS78.drewN | apply IsS78.drew | apply IsS78.set_1 | apply IsS78.set_2 | refine IsS78.far ?_ NB0_189.out _ | refine IsS78.far ?_ NB0_193.out _) | exact HI0.out)⟩, ⟨by repeat (first | (with_reducible first | exact HK.out | apply KeepBut.set_ | apply keep_drewN | apply keep_drew | apply keep_alloc | refine keep_far ?_ GW189.out _ | refine keep_far ?_ GW193.out _) | exact HK.out)⟩, ⟨by repeat (first | (with_reducible first | exact HB.out | apply below_alloc | apply pw_below_drewN | apply below_drew1 | refine below_set ?_ (IsS78.ge HI0.out) | refine below_set ?_ GE189.out | refine below_set ?_ GE193.out) | exact HB.out)⟩⟩
 case round =>
  clear H'
  try clear p2
  try clear c4
  try clear c7
  try clear c8
  try clear hcz9_0
  try clear hcz9_1
  try clear hfz9_0
  try clear hfz9_1
  obtain ⟨x11_1, x1001_1, x1002_1, x190000_1, x194001_1, u194001, rfl, HA, HK1, HO_194001, BK189, BK193, HI0, HK, HB⟩ := hrel
  cases gk with
  | zero => exact absurd HA.out (by simp [impl_docReader_doc.l0])
  | succ k1 =>
   have H := HA.out
   clear HA
   simp only [impl_docReader_doc.l0] at H
   by_cases c11 : x11_1 < t194
   ·rw [if_pos c11] at H
    have c11b0 : decide (x11_1 < t194) = true := decide_eq_true c11
    clear c11
    replace H := Option.bind_eq_some_iff.mp H
    obtain ⟨⟨t197, t198, t199⟩, A120, H⟩ := H
    replace H : ((impl_docReader_int.f k1 s0_0 t198 t199 4096).bind fun bt201 => (impl_docReader_doc.l1 k1 t194 x11_1 bt201.1 0 s0_0 bt201.2.1 bt201.2.2 t190 x194001_1 t197 ([] : List ByteArray))) = some (r1, r2, r3, r4) := H
    have A12 := Aside0.mk A120
    clear A120
    replace H := Option.bind_eq_some_iff.mp H
    obtain ⟨⟨t201, t202, t203⟩, A130, H⟩ := H
    replace H : (impl_docReader_doc.l1 k1 t194 x11_1 t201 0 s0_0 t202 t203 t190 x194001_1 t197 ([] : List ByteArray)) = some (r1, r2, r3, r4) := H
    have A13 := Aside0.mk A130
    clear A130
    have H' := Aside0.mk H
    clear H
    go_wp2_with (first | ((with_reducible refine gate_callee (f := 72) rfl ?_); refine goesL_ (some 14) rfl rfl Try.func72 (by kernel_rfl) rfl #[.pointer (some ⟨g, 0, none⟩)] rfl zar ?_; (with_reducible refine (impl_docReader_text.calls k1 g s0_0 x1001_1 x1002_1 t197 t198 t199 w0 _ ?side1 ?side2 A12.out).mono ?_); (case side1 => repeat (first | (with_reducible first | exact HI0.out | apply IsS78.alloc | apply IsS78.drewN | apply IsS78.drew | apply IsS78.set_1 | apply IsS78.set_2 | refine IsS78.far ?_ NB0_189.out _ | refine IsS78.far ?_ NB0_193.out _) | exact HI0.out)); (case side2 => repeat (first | (with_reducible first | exact HB.out | apply below_alloc | apply pw_below_drewN | apply below_drew1 | refine below_set ?_ (IsS78.ge HI0.out) | refine below_set ?_ GE189.out | refine below_set ?_ GE193.out) | exact HB.out)); rintro e w14 ⟨rfl, hi, hb, hk⟩; refine ⟨_, rfl, ?_⟩; have n0_ := Aside0.mk (Kd.S_mono (Kd.S_keep (IsS78.apartS (show IsS78 w0 _ g s0_0 x1001_1 x1002_1 from by repeat (first | (with_reducible first | exact HI0.out | apply IsS78.alloc | apply IsS78.drewN | apply IsS78.drew | apply IsS78.set_1 | apply IsS78.set_2 | refine IsS78.far ?_ NB0_189.out _ | refine IsS78.far ?_ NB0_193.out _) | exact HI0.out)) (zs HO_194001) (by decide)) hk (fun _ h => h.2)) (fun _ h => h.1)); have n1_ := Aside0.mk (KeepBut.blk hk (g' := gb189) (o := .cells #[.string x190000_1, .slice none 0 0] 31 (0, 0)) (zb BK189) NB189_0.out (by simp)); have n2_ := Aside0.mk (KeepBut.blk hk (g' := gb193) (o := .cells #[.string t190, u194001] 31 (0, 0)) (zb BK193) NB193_0.out (by simp)); have n3_ := Aside0.mk (KeepBut.trans (by repeat (first | (with_reducible first | exact HK.out | apply KeepBut.set_ | apply keep_drewN | apply keep_drew | apply keep_alloc | refine keep_far ?_ GW189.out _ | refine keep_far ?_ GW193.out _) | exact HK.out)) hk (.inl rfl)); have n4_ := Aside0.mk (hb); have n5_ := Aside0.mk (hi); clear HO_194001; clear BK189; clear BK193; clear HK; clear HB; clear HI0; have HO_194001 := n0_; have BK189 := n1_; have BK193 := n2_; have HK := n3_; have HB := n4_; have HI0 := n5_; clear n0_ n1_ n2_ n3_ n4_ n5_; (try clear hb); (try clear hb2); (try clear hk); (try clear hi)) | ((with_reducible refine gate_dst (N := 4) rfl ?_); refine box_event ?hg (N := 4) ?hd (cs := #[.string (⟨#[]⟩ : ByteArray), .slice none 0 0, .slice none 0 0]) (t := 66) ?hr ?_; (case hd => rfl); (case hg => rfl); (case hr => first | (go_simp; done) | (go_simp; rfl)); intro gb200 hg w15 hbox hb; have n0_ := Aside0.mk (Kd.S_below (Kd.S_elderB (zs HO_194001) gb200 (Nat.le_of_eq hg.symm)) hb); have n1_ := Aside0.mk (blk_below (zb BK189) hb); have n2_ := Aside0.mk (blk_below (zb BK193) hb); have n3_ := Aside0.mk (IsS78.below (by repeat (first | (with_reducible first | exact HI0.out | apply IsS78.alloc | apply IsS78.drewN | apply IsS78.drew | apply IsS78.set_1 | apply IsS78.set_2 | refine IsS78.far ?_ NB0_189.out _ | refine IsS78.far ?_ NB0_193.out _) | exact HI0.out)) hb); have n4_ := Aside0.mk (KeepBut.trans (by repeat (first | (with_reducible first | exact HK.out | apply KeepBut.set_ | apply keep_drewN | apply keep_drew | apply keep_alloc | refine keep_far ?_ GW189.out _ | refine keep_far ?_ GW193.out _) | exact HK.out)) (KeepBut.of_below hb g none) (.inl rfl)); have n5_ := Aside0.mk (below_step (by repeat (first | (with_reducible first | exact HB.out | apply below_alloc | apply pw_below_drewN | apply below_drew1 | refine below_set ?_ (IsS78.ge HI0.out) | refine below_set ?_ GE189.out | refine below_set ?_ GE193.out) | exact HB.out)) hb); have n6_ := Aside0.mk (hbox); have n7_ := Aside0.mk ((by rw [hg]; exact (keep_size (w := w) (g := g) (row := none) (by repeat (first | (with_reducible first | exact HK.out | apply KeepBut.set_ | apply keep_drewN | apply keep_drew | apply keep_alloc | refine keep_far ?_ GW189.out _ | refine keep_far ?_ GW193.out _) | exact HK.out))) : w.heap.size ≤ gb200)); have n8_ := Aside0.mk ((Nat.le_trans HW0.out (by rw [hg]; exact (keep_size (w := w) (g := g) (row := none) (by repeat (first | (with_reducible first | exact HK.out | apply KeepBut.set_ | apply keep_drewN | apply keep_drew | apply keep_alloc | refine keep_far ?_ GW189.out _ | refine keep_far ?_ GW193.out _) | exact HK.out))) : w.heap.size ≤ gb200) : w0.heap.size ≤ gb200)); have n9_ := Aside0.mk ((by rw [hg]; exact Nat.ne_of_lt (blk_lt (zb BK189)) : gb189 ≠ gb200)); have n10_ := Aside0.mk ((by rw [hg]; exact Nat.ne_of_gt (blk_lt (zb BK189)) : gb200 ≠ gb189)); have n11_ := Aside0.mk ((by rw [hg]; exact Nat.ne_of_lt (blk_lt (zb BK193)) : gb193 ≠ gb200)); have n12_ := Aside0.mk ((by rw [hg]; exact Nat.ne_of_gt (blk_lt (zb BK193)) : gb200 ≠ gb193)); have n13_ := Aside0.mk ((by rw [hg]; exact Nat.ne_of_lt (IsS78.lt (show IsS78 w0 _ g s0_0 t198 t199 from by repeat (first | (with_reducible first | exact HI0.out | apply IsS78.alloc | apply IsS78.drewN | apply IsS78.drew | apply IsS78.set_1 | apply IsS78.set_2 | refine IsS78.far ?_ NB0_189.out _ | refine IsS78.far ?_ NB0_193.out _) | exact HI0.out))) : g ≠ gb200)); have n14_ := Aside0.mk ((by rw [hg]; exact Nat.ne_of_gt (IsS78.lt (show IsS78 w0 _ g s0_0 t198 t199 from by repeat (first | (with_reducible first | exact HI0.out | apply IsS78.alloc | apply IsS78.drewN | apply IsS78.drew | apply IsS78.set_1 | apply IsS78.set_2 | refine IsS78.far ?_ NB0_189.out _ | refine IsS78.far ?_ NB0_193.out _) | exact HI0.out))) : gb200 ≠ g)); clear HO_194001; clear BK189; clear BK193; clear HI0; clear HK; clear HB; have HO_194001 := n0_; have BK189 := n1_; have BK193 := n2_; have HI0 := n3_; have HK := n4_; have HB := n5_; have BK200 := n6_; have GW200 := n7_; have GE200 := n8_; have NB189_200 := n9_; have NB200_189 := n10_; have NB193_200 := n11_; have NB200_193 := n12_; have NB0_200 := n13_; have NB200_0 := n14_; clear n0_ n1_ n2_ n3_ n4_ n5_ n6_ n7_ n8_ n9_ n10_ n11_ n12_ n13_ n14_; clear hb hbox hg; have hnb16 := NB200_189.out; have hnc16 := NB189_200.out; have hnb17 := NB200_193.out; have hnc17 := NB193_200.out; have hnb18 := NB200_0.out; have hnc18 := NB0_200.out; have hcz19_0 : w15.cell? ⟨gb200, 0, none⟩ = some (.string (⟨#[]⟩ : ByteArray)) := (blk_cell BK200.out 0).trans rfl; have hcz19_1 : w15.cell? ⟨gb200, 1, none⟩ = some (.slice none 0 0) := (blk_cell BK200.out 1).trans rfl; have hcz19_2 : w15.cell? ⟨gb200, 2, none⟩ = some (.slice none 0 0) := (blk_cell BK200.out 2).trans rfl; have hfz19_0 := blk_frozen BK200.out 0; have hfz19_1 := blk_frozen BK200.out 1; have hfz19_2 := blk_frozen BK200.out 2) | ((with_reducible refine gate_callee (f := 73) rfl ?_); refine goesL_ (some 17) rfl rfl Try.func73 (by kernel_rfl) rfl #[.pointer (some ⟨g, 0, none⟩), .int .i64 4096] rfl zar ?_; (with_reducible refine (impl_docReader_int.calls k1 g s0_0 t198 t199 4096 t201 t202 t203 w0 _ ?side1 ?side2 A13.out).mono ?_); (case side1 => repeat (first | (with_reducible first | exact HI0.out | apply IsS78.alloc | apply IsS78.drewN | apply IsS78.drew | apply IsS78.set_1 | apply IsS78.set_2 | refine IsS78.far ?_ NB0_189.out _ | refine IsS78.far ?_ NB0_193.out _ | refine IsS78.far ?_ NB0_200.out _) | exact HI0.out)); (case side2 => repeat (first | (with_reducible first | exact HB.out | apply below_alloc | apply pw_below_drewN | apply below_drew1 | refine below_set ?_ (IsS78.ge HI0.out) | refine below_set ?_ GE189.out | refine below_set ?_ GE193.out | refine below_set ?_ GE200.out) | exact HB.out)); rintro e w20 ⟨rfl, hi, hb, hk⟩; refine ⟨_, rfl, ?_⟩; have n0_ := Aside0.mk (Kd.S_mono (Kd.S_keep (IsS78.apartS (show IsS78 w0 _ g s0_0 t198 t199 from by repeat (first | (with_reducible first | exact HI0.out | apply IsS78.alloc | apply IsS78.drewN | apply IsS78.drew | apply IsS78.set_1 | apply IsS78.set_2 | refine IsS78.far ?_ NB0_189.out _ | refine IsS78.far ?_ NB0_193.out _ | refine IsS78.far ?_ NB0_200.out _) | exact HI0.out)) (by (with_reducible repeat (first | apply Kd.S_alloc | apply Kd.S_drewN | apply Kd.S_drew)); exact (Kd.S_mono (Kd.S_far (p := ⟨gb200, 2, none⟩) (Kd.S_far (p := ⟨gb200, 1, none⟩) (Kd.S_far (p := ⟨gb200, 0, none⟩) (Kd.S_mono HO_194001.out (fun k_ hk => (⟨hk, hk.2⟩ : _ ∧ k_ ≠ gb200))) (fun _ hk => hk.2) (.string t197)) (fun _ hk => hk.2) (.slice none 0 0)) (fun _ hk => hk.2) (.slice none 0 0)) (fun _ h_ => h_.1))) (by decide)) hk (fun _ h => h.2)) (fun _ h => h.1)); have n1_ := Aside0.mk (KeepBut.blk hk (g' := gb189) (o := .cells #[.string x190000_1, .slice none 0 0] 31 (0, 0)) (by (with_reducible repeat (first | refine blk_drewN ?_ _ | refine blk_drew ?_ | refine blk_alloc ?_ _)); refine blk_far ?_ NB189_200.out _; (with_reducible repeat (first | refine blk_drewN ?_ _ | refine blk_drew ?_ | refine blk_alloc ?_ _)); refine blk_far ?_ NB189_200.out _; (with_reducible repeat (first | refine blk_drewN ?_ _ | refine blk_drew ?_ | refine blk_alloc ?_ _)); refine blk_far ?_ NB189_200.out _; (with_reducible repeat (first | refine blk_drewN ?_ _ | refine blk_drew ?_ | refine blk_alloc ?_ _)); exact BK189.out) NB189_0.out (by simp)); have n2_ := Aside0.mk (KeepBut.blk hk (g' := gb193) (o := .cells #[.string t190, u194001] 31 (0, 0)) (by (with_reducible repeat (first | refine blk_drewN ?_ _ | refine blk_drew ?_ | refine blk_alloc ?_ _)); refine blk_far ?_ NB193_200.out _; (with_reducible repeat (first | refine blk_drewN ?_ _ | refine blk_drew ?_ | refine blk_alloc ?_ _)); refine blk_far ?_ NB193_200.out _; (with_reducible repeat (first | refine blk_drewN ?_ _ | refine blk_drew ?_ | refine blk_alloc ?_ _)); refine blk_far ?_ NB193_200.out _; (with_reducible repeat (first | refine blk_drewN ?_ _ | refine blk_drew ?_ | refine blk_alloc ?_ _)); exact BK193.out) NB193_0.out (by simp)); have n3_ := Aside0.mk (KeepBut.blk hk (g' := gb200) (o := .cells #[.string t197, .slice none 0 0, .slice none 0 0] 66 (0, 0)) (by (with_reducible repeat (first | refine blk_drewN ?_ _ | refine blk_drew ?_ | refine blk_alloc ?_ _)); refine blk_put (cs := #[.string t197, .slice none 0 0, .slice none 0 0]) ?_ 2 _ rfl; (with_reducible repeat (first | refine blk_drewN ?_ _ | refine blk_drew ?_ | refine blk_alloc ?_ _)); refine blk_put (cs := #[.string t197, .slice none 0 0, .slice none 0 0]) ?_ 1 _ rfl; (with_reducible repeat (first | refine blk_drewN ?_ _ | refine blk_drew ?_ | refine blk_alloc ?_ _)); refine blk_put (cs := #[.string (⟨#[]⟩ : ByteArray), .slice none 0 0, .slice none 0 0]) ?_ 0 _ rfl; (with_reducible repeat (first | refine blk_drewN ?_ _ | refine blk_drew ?_ | refine blk_alloc ?_ _)); exact BK200.out) NB200_0.out (by simp)); have n4_ := Aside0.mk (KeepBut.trans (by repeat (first | (with_reducible first | exact HK.out | apply KeepBut.set_ | apply keep_drewN | apply keep_drew | apply keep_alloc | refine keep_far ?_ GW189.out _ | refine keep_far ?_ GW193.out _ | refine keep_far ?_ GW200.out _) | exact HK.out)) hk (.inl rfl)); have n5_ := Aside0.mk (hb); have n6_ := Aside0.mk (hi); clear HO_194001; clear BK189; clear BK193; clear BK200; clear HK; clear HB; clear HI0; have HO_194001 := n0_; have BK189 := n1_; have BK193 := n2_; have BK200 := n3_; have HK := n4_; have HB := n5_; have HI0 := n6_; clear n0_ n1_ n2_ n3_ n4_ n5_ n6_; (try clear hb); (try clear hb2); (try clear hk); (try clear hi)))
    go_loopg [18] k1 (fun kq v18 w' => ∃ (x18_2 : Int) (x1001_2 : Int) (x1002_2 : Bool) (x190000_2 : ByteArray) (x201001_2 : List ByteArray) (u201001 : Value), v18 = .int .i64 x18_2 ∧ Aside0 (impl_docReader_doc.l1 kq t194 x11_1 t201 x18_2 s0_0 x1001_2 x1002_2 t190 x194001_1 t197 x201001_2 = some (r1, r2, r3, r4)) ∧ Aside0 (kq ≤ k1) ∧ Aside0 (Kd.S k66 66 w' w.heap.size (fun k_ => some k_ ≠ (u201001 : Value).ownBlock ∧ k_ ≠ gb200) u194001 x194001_1) ∧ Aside0 (Kd.R Kd.string 9 w' w.heap.size (fun _ => True) u201001 x201001_2) ∧ Aside0 (w'.heap[gb189]? = some (.cells #[.string x190000_2, (.slice none 0 0)] 31 (0, 0))) ∧ Aside0 (w'.heap[gb193]? = some (.cells #[.string t190, u194001] 31 (0, 0))) ∧ Aside0 (w'.heap[gb200]? = some (.cells #[.string t197, u201001, (.slice none 0 0)] 66 (0, 0))) ∧ Aside0 (IsS78 w0 w' g s0_0 x1001_2 x1002_2) ∧ Aside0 (KeepBut w w' g none) ∧ Aside0 (Below w0.heap.size w0 w'))
    case atStart => exact ⟨(0), (t202), (t203), (x190000_1), (([] : List ByteArray)), (.slice none 0 0), (by first | rfl | (simp; done) | (simp [*]; done)), H', ⟨Nat.le_refl _⟩, ⟨Kd.S_mono (zs HO_194001) (fun _ hk => ⟨(by simp [Value.ownBlock]), hk.2⟩)⟩, ⟨by first | exact Kd.R_nil _ _ _ _ _ | exact Kd.N_nil _ _ _ _ _ | exact Kd.V_nil _ _ _ _ _ | exact Kd.Q_nil _ _ _ _ _ | exact Kd.S_nil _ _ _ _ _⟩, ⟨zb BK189⟩, ⟨zb BK193⟩, ⟨zb BK200⟩, ⟨by repeat (first | (with_reducible first | exact HI0.out | apply IsS78.alloc | apply IsS78.drewN | apply IsS78.drew | apply IsS78.set_1 | apply IsS78.set_2 | refine IsS78.far ?_ NB0_189.out _ | refine IsS78.far ?_ NB0_193.out _ | refine IsS78.far ?_ NB0_200.out _) | exact HI0.out)⟩, ⟨by repeat (first | (with_reducible first | exact HK.out | apply KeepBut.set_ | apply keep_drewN | apply keep_drew | apply keep_alloc | refine keep_far ?_ GW189.out _ | refine keep_far ?_ GW193.out _ | refine keep_far ?_ GW200.out _) | exact HK.out)⟩, ⟨by repeat (first | (with_reducible first | exact HB.out | apply below_alloc | apply pw_below_drewN | apply below_drew1 | refine below_set ?_ (IsS78.ge HI0.out) | refine below_set ?_ GE189.out | refine below_set ?_ GE193.out | refine below_set ?_ GE200.out) | exact HB.out)⟩⟩
    case round =>
     clear H'
     try clear c1
     try clear p2
     try clear c4
     try clear c7
     try clear c8
     try clear c11
     try clear c11b0
     try clear c16
     try clear c17
     try clear c18
     try clear hcz19_0
     try clear hcz19_1
     try clear hcz19_2
     try clear hcz9_0
     try clear hcz9_1
     try clear hfz19_0
     try clear hfz19_1
     try clear hfz19_2
     try clear hfz9_0
     try clear hfz9_1
     try clear p2
     obtain ⟨x18_2, x1001_2, x1002_2, x190000_2, x201001_2, u201001, rfl, HA, HK2, HO_194001, HO_201001, BK189, BK193, BK200, HI0, HK, HB⟩ := hrel
     cases gk with
     | zero => exact absurd HA.out (by simp [impl_docReader_doc.l1])
     | succ k2 =>
      have H := HA.out
      clear HA
      simp only [impl_docReader_doc.l1] at H
      by_cases c21 : x18_2 < t201
      ·rw [if_pos c21] at H
       have c21b0 : decide (x18_2 < t201) = true := decide_eq_true c21
       clear c21
       replace H := Option.bind_eq_some_iff.mp H
       obtain ⟨⟨t204, t205, t206⟩, A220, H⟩ := H
       replace H : (if x201001_2.length < 8796093022208 then (if t206 = true then (some (t190, x194001_1, t205, t206)) else (impl_docReader_doc.l1 k2 t194 x11_1 t201 (wrap64 (x18_2 + 1)) s0_0 t205 t206 t190 x194001_1 t197 (x201001_2 ++ [t204]))) else (none)) = some (r1, r2, r3, r4) := H
       have A22 := Aside0.mk A220
       clear A220
       by_cases c23 : x201001_2.length < 8796093022208
       ·rw [if_pos c23] at H
        have LMc23 := Aside0.mk c23
        clear c23
        obtain ⟨y207, hy207⟩ : ∃ y_ : List ByteArray, y_ = (x201001_2 ++ [t204]) := ⟨_, rfl⟩
        replace H : (if t206 = true then (some (t190, x194001_1, t205, t206)) else (impl_docReader_doc.l1 k2 t194 x11_1 t201 (wrap64 (x18_2 + 1)) s0_0 t205 t206 t190 x194001_1 t197 y207)) = some (r1, r2, r3, r4) := by first | (rw [hy207]; with_reducible exact H) | (have H2_ := (Option.bind_some _ _).symm.trans H; rw [hy207]; with_reducible exact H2_) | (have H2_ := (Option.bind_some _ _).symm.trans H; with_reducible exact H2_) | with_reducible exact H | (rw [hy207]; exact H) | exact H
        have Ny207 := Aside0.mk hy207
        clear hy207
        by_cases c24 : t206 = true
        ·subst c24
         have H1 : (some (t190, x194001_1, t205, true)) = some (r1, r2, r3, r4) := by rw [if_pos rfl] at H; exact H
         clear H
         have H := H1
         clear H1
         simp only [Option.some.injEq, Prod.mk.injEq] at H
         obtain ⟨rfl, rfl, rfl, rfl⟩ := H
         try go_wp2
         have n0_ := Aside0.mk (Kd.S_drew HO_194001.out)
         have n1_ := Aside0.mk (Kd.R_drew HO_201001.out)
         have n2_ := Aside0.mk (blk_drew BK189.out)
         have n3_ := Aside0.mk (blk_drew BK193.out)
         have n4_ := Aside0.mk (blk_drew BK200.out)
         have n5_ := Aside0.mk (IsS78.drew HI0.out)
         have n6_ := Aside0.mk (keep_drew HK.out)
         have n7_ := Aside0.mk (below_drew1 HB.out)
         clear HO_194001
         clear HO_201001
         clear BK189
         clear BK193
         clear BK200
         clear HI0
         clear HK
         clear HB
         have HO_194001 := n0_
         have HO_201001 := n1_
         have BK189 := n2_
         have BK193 := n3_
         have BK200 := n4_
         have HI0 := n5_
         have HK := n6_
         have HB := n7_
         clear n0_ n1_ n2_ n3_ n4_ n5_ n6_ n7_
         refine start_ (n := 8) (S := fun w' => w'.cell? ⟨gb200, 0, none⟩ = some (.string t197) ∧ w'.cell? ⟨gb200, 1, none⟩ = some (u201001) ∧ w'.cell? ⟨gb200, 2, none⟩ = some (.slice none 0 0)) (ds := [7]) (fl7_ 8 0) (by kernel_rfl) rfl rfl ⟨(blk_cell BK200.out 0).trans rfl, (blk_cell BK200.out 1).trans rfl, (blk_cell BK200.out 2).trans rfl⟩ (fun hHeld => ?_); refine with_tabW impl_docReader_doc.tab7 impl_docReader_doc.bits7 (fun HT_ HW_ => ?_)
         generalize wr.drew = w25 at HO_194001 HO_201001 BK189 BK193 BK200 HI0 HK HB hHeld ⊢
         refine pure_ (i := 0) (N := some 20) (v := ?_) (a' := ?_) (fl7_ 8 1) rfl rfl (any_of HT_.out (by kernel_rfl)) (fun _ _ _ h => h) (Or.inl ⟨by rfl, ?_⟩) ?_ ?_
         rotate_left
         ·intro w'
          go_simp
          with_reducible rfl
         rotate_left
         ·simp only [Act.put, List.setIfInBounds_toArray, List.set_cons_zero, List.set_cons_succ, i64_w, i32_w]
          rfl
         refine pure_ (i := 2) (N := some 22) (v := ?_) (a' := ?_) (fl7_ 8 5) rfl rfl (any_of HT_.out (by kernel_rfl)) (fun _ _ _ h => h) (Or.inl ⟨by rfl, ?_⟩) ?_ ?_
         rotate_left
         ·intro w'
          go_simp
          with_reducible rfl
         rotate_left
         ·simp only [Act.put, List.setIfInBounds_toArray, List.set_cons_zero, List.set_cons_succ, i64_w, i32_w]
          rfl
         refine take_ (i := 1) (N := some 21) (v := ?_) (a' := ?_) (fl7_ 8 7) rfl rfl (take_ofW HT_.out HW_.out (by kernel_rfl)) (fun _ _ _ h => h) (Or.inl ⟨by rfl, ?_⟩) hHeld ?_ ?_
         rotate_left
         ·rintro w' ⟨s0, s1, s2⟩
          go_simp
          with_reducible rfl
         rotate_left
         ·simp only [Act.put, List.setIfInBounds_toArray, List.set_cons_zero, List.set_cons_succ, i64_w, i32_w]
          rfl
         refine one_ (i := 3) (N := some 23) (fl7_ 8 15) rfl rfl (one_of HT_.out (by kernel_rfl)) (by decide) (fun K hK => ?_)
         refine goes_ Try.func72 (by kernel_rfl) rfl #[.pointer (some ⟨g, 0, none⟩)] (by rfl) rfl rfl zar ?_
         with_reducible refine (impl_docReader_text.calls k2 g s0_0 x1001_2 x1002_2 t204 t205 true w0 _ ?side1 ?side2 A22.out).mono ?_
         (case side1 => repeat (first | (with_reducible first | exact HI0.out | apply IsS78.alloc | apply IsS78.drewN | apply IsS78.drew | apply IsS78.set_1 | apply IsS78.set_2 | refine IsS78.far ?_ NB0_189.out _ | refine IsS78.far ?_ NB0_193.out _ | refine IsS78.far ?_ NB0_200.out _) | exact HI0.out))
         (case side2 => repeat (first | (with_reducible first | exact HB.out | apply below_alloc | apply pw_below_drewN | apply below_drew1 | refine below_set ?_ (IsS78.ge HI0.out) | refine below_set ?_ GE189.out | refine below_set ?_ GE193.out | refine below_set ?_ GE200.out) | exact HB.out))
         rintro e w26 ⟨rfl, hi, hb, hk⟩
         refine ⟨_, rfl, ?_⟩
         have n0_ := Aside0.mk (Kd.S_mono (Kd.S_keep (IsS78.apartS (show IsS78 w0 _ g s0_0 x1001_2 x1002_2 from by repeat (first | (with_reducible first | exact HI0.out | apply IsS78.alloc | apply IsS78.drewN | apply IsS78.drew | apply IsS78.set_1 | apply IsS78.set_2 | refine IsS78.far ?_ NB0_189.out _ | refine IsS78.far ?_ NB0_193.out _ | refine IsS78.far ?_ NB0_200.out _) | exact HI0.out)) (zs HO_194001) (by decide)) hk (fun _ h => h.2)) (fun _ h => h.1))
         have n1_ := Aside0.mk (Kd.R_mono (Kd.R_keep (IsS78.apart (show IsS78 w0 _ g s0_0 x1001_2 x1002_2 from by repeat (first | (with_reducible first | exact HI0.out | apply IsS78.alloc | apply IsS78.drewN | apply IsS78.drew | apply IsS78.set_1 | apply IsS78.set_2 | refine IsS78.far ?_ NB0_189.out _ | refine IsS78.far ?_ NB0_193.out _ | refine IsS78.far ?_ NB0_200.out _) | exact HI0.out)) (zr HO_201001) (by decide)) hk (fun _ h => h.2)) (fun _ h => h.1))
         have n2_ := Aside0.mk (KeepBut.blk hk (g' := gb189) (o := .cells #[.string x190000_2, .slice none 0 0] 31 (0, 0)) (zb BK189) NB189_0.out (by simp))
         have n3_ := Aside0.mk (KeepBut.blk hk (g' := gb193) (o := .cells #[.string t190, u194001] 31 (0, 0)) (zb BK193) NB193_0.out (by simp))
         have n4_ := Aside0.mk (KeepBut.blk hk (g' := gb200) (o := .cells #[.string t197, u201001, .slice none 0 0] 66 (0, 0)) (zb BK200) NB200_0.out (by simp))
         have n5_ := Aside0.mk (KeepBut.trans (by repeat (first | (with_reducible first | exact HK.out | apply KeepBut.set_ | apply keep_drewN | apply keep_drew | apply keep_alloc | refine keep_far ?_ GW189.out _ | refine keep_far ?_ GW193.out _ | refine keep_far ?_ GW200.out _) | exact HK.out)) hk (.inl rfl))
         have n6_ := Aside0.mk (hb)
         have n7_ := Aside0.mk (hi)
         clear HO_194001
         clear HO_201001
         clear BK189
         clear BK193
         clear BK200
         clear HK
         clear HB
         clear HI0
         have HO_194001 := n0_
         have HO_201001 := n1_
         have BK189 := n2_
         have BK193 := n3_
         have BK200 := n4_
         have HK := n5_
         have HB := n6_
         have HI0 := n7_
         clear n0_ n1_ n2_ n3_ n4_ n5_ n6_ n7_
         (try clear hb)
         (try clear hb2)
         (try clear hk)
         (try clear hi)
         refine hK.out _ _ ⟨(blk_cell BK200.out 0).trans rfl, (blk_cell BK200.out 1).trans rfl, (blk_cell BK200.out 2).trans rfl⟩ (fun hHeld => ?_)
         clear hK K
         refine norm_ (a' := ?_) ?_ ?_
         rotate_left
         ·show Act.put _ (some 23) _ = _
          simp only [Act.put, List.setIfInBounds_toArray, List.set_cons_zero, List.set_cons_succ, i64_w, i32_w]
          rfl
         refine one_ (i := 4) (N := some 24) (fl7_ 8 31) rfl rfl (one_of HT_.out (by kernel_rfl)) (by decide) (fun K hK => ?_)
         refine value_ (w1 := ?_) (v := ?_) (by rfl) rfl ?_ ?_
         rotate_left 2
         ·go_simp
          constructor
          ·rfl
          ·rfl
         refine hK.out _ _ ⟨(blk_cell (blk_alloc BK200.out _) 0).trans rfl, (blk_cell (blk_alloc BK200.out _) 1).trans rfl, (blk_cell (blk_alloc BK200.out _) 2).trans rfl⟩ (fun hHeld => ?_)
         clear hK K
         refine norm_ (a' := ?_) ?_ ?_
         rotate_left
         ·show Act.put _ (some 24) _ = _
          simp only [Act.put, List.setIfInBounds_toArray, List.set_cons_zero, List.set_cons_succ, i64_w, i32_w]
          rfl
         refine one_ (i := 5) (N := some 25) (fl7_ 8 63) rfl rfl (one_of HT_.out (by kernel_rfl)) (by decide) (fun K hK => ?_)
         refine Kd.R_append_step Kd.string w.heap.size (by rfl) (.tmp 21) (.tmp 24) 64 9 (.string ⟨#[]⟩) 16 rfl Try.underlying64 info9 rfl (by decide) (by omega) u201001 x201001_2 t204 [.string t204] (fun _ => True) (fun _ => False) rfl rfl ?aP (fun _ hk => hk.elim) ?aF ?aO (Below.refl _ _) ?aS ?aL ?_
         (case aP => exact rfl)
         (case aF => exact (fun _ _ => trivial))
         (case aO => exact (zr HO_201001))
         (case aS => exact (keep_size (w := w) (g := g) (row := none) (by repeat (first | (with_reducible first | exact HK.out | apply KeepBut.set_ | apply keep_drewN | apply keep_drew | apply keep_alloc | refine keep_far ?_ GW189.out _ | refine keep_far ?_ GW193.out _ | refine keep_far ?_ GW200.out _) | exact HK.out))))
         (case aL => have := LMc23.out; omega)
         intro v208 w27 ho hb hg hat
         rw [← Ny207.out] at ho
         have n0_ := Aside0.mk (Kd.S_after (ok := (fun k_ => k_ ≠ gb200)) (Kd.S_mono (zs HO_194001) (fun _ hk => ⟨hk.2, hk.1⟩)) hg hat)
         have n1_ := Aside0.mk (blk_grown (zb BK189) hg (Kd.R_ne HO_201001.out BK189.out (by decide)))
         have n2_ := Aside0.mk (blk_grown (zb BK193) hg (Kd.R_ne HO_201001.out BK193.out (by decide)))
         have n3_ := Aside0.mk (blk_grown (zb BK200) hg (Kd.R_ne HO_201001.out BK200.out (by decide)))
         have n4_ := Aside0.mk (IsS78.grown (by repeat (first | (with_reducible first | exact HI0.out | apply IsS78.alloc | apply IsS78.drewN | apply IsS78.drew | apply IsS78.set_1 | apply IsS78.set_2 | refine IsS78.far ?_ NB0_189.out _ | refine IsS78.far ?_ NB0_193.out _ | refine IsS78.far ?_ NB0_200.out _) | exact HI0.out)) hg (IsS78.own_ne HI0.out HO_201001.out (by decide)))
         have n5_ := Aside0.mk (below_weaken (by repeat (first | (with_reducible first | exact HB.out | apply below_alloc | apply pw_below_drewN | apply below_drew1 | refine below_set ?_ (IsS78.ge HI0.out) | refine below_set ?_ GE189.out | refine below_set ?_ GE193.out | refine below_set ?_ GE200.out) | exact HB.out)) HL.out hb)
         have n6_ := Aside0.mk (KeepBut.trans (by repeat (first | (with_reducible first | exact HK.out | apply KeepBut.set_ | apply keep_drewN | apply keep_drew | apply keep_alloc | refine keep_far ?_ GW189.out _ | refine keep_far ?_ GW193.out _ | refine keep_far ?_ GW200.out _) | exact HK.out)) (KeepBut.of_grown hg g) (Kd.R_base2 HO_201001.out))
         have n7_ := Aside0.mk (ho)
         clear HO_194001
         clear BK189
         clear BK193
         clear BK200
         clear HI0
         clear HB
         clear HK
         clear HO_201001
         have HO_194001 := n0_
         have BK189 := n1_
         have BK193 := n2_
         have BK200 := n3_
         have HI0 := n4_
         have HB := n5_
         have HK := n6_
         have HO209 := n7_
         clear n0_ n1_ n2_ n3_ n4_ n5_ n6_ n7_
         clear ho hb hg hat
         obtain ⟨Ao28, co28, eo28⟩ := Kd.R_slice HO209.out
         (first | subst eo28 | (injection eo28 with f1_ f2_ f3_; have f4_ := f1_.symm; have f5_ := f3_.symm; clear f1_ f2_ f3_; subst f4_; subst f5_))
         refine hK.out _ _ ⟨(blk_cell BK200.out 0).trans rfl, (blk_cell BK200.out 1).trans rfl, (blk_cell BK200.out 2).trans rfl⟩ (fun hHeld => ?_)
         clear hK K
         refine norm_ (a' := ?_) ?_ ?_
         rotate_left
         ·show Act.put _ (some 25) _ = _
          simp only [Act.put, List.setIfInBounds_toArray, List.set_cons_zero, List.set_cons_succ, i64_w, i32_w]
          rfl
         refine pure_ (i := 6) (N := some 26) (v := ?_) (a' := ?_) (fl7_ 8 127) rfl rfl (any_of HT_.out (by kernel_rfl)) (fun _ _ _ h => h) (Or.inl ⟨by rfl, ?_⟩) ?_ ?_
         rotate_left
         ·intro w'
          go_simp
          with_reducible rfl
         rotate_left
         ·simp only [Act.put, List.setIfInBounds_toArray, List.set_cons_zero, List.set_cons_succ, i64_w, i32_w]
          rfl
         refine last_ (i := 7) (N := none) (fl7_ 8 255) rfl rfl (one_of HT_.out (by kernel_rfl)) (by decide) (fun K hK => ?_)
         have hs29 : w27.cell? ⟨gb200, 1, none⟩ = some (u201001) := (blk_cell BK200.out 1).trans rfl
         have hfs29 := blk_frozen BK200.out 1
         have hns29_0 := NB189_200.out
         have hns29_1 := NB193_200.out
         have hms29_0 := NB200_189.out
         have hms29_1 := NB200_193.out
         refine skip_ (w1 := ?_) (by rfl) rfl ?_ ?_
         rotate_left
         ·go_simp
          rfl
         refine hK.out _ _ ?_
         clear hK K
         refine done_ (done_of HT_.out (by kernel_rfl)) ?_
         obtain ⟨ASz30_0, cSz30_0, HGz30, hgz30, HSz30_0⟩ := HI0.out
         have hcz30_0 := cellS78_0 HGz30
         have hcz30_1 := cellS78_1 HGz30
         have hcz30_2 := cellS78_2 HGz30
         have hfz30_1 := blk_frozen HGz30 1
         have hfz30_2 := blk_frozen HGz30 2
         clear HGz30 hgz30
         have hnb31 := NB193_189.out
         have hnc31 := NB189_193.out
         have hnb32 := NB193_200.out
         have hnc32 := NB200_193.out
         have hnb33 := NB193_0.out
         have hnc33 := NB0_193.out
         have hcz34_0 : w27.cell? ⟨gb193, 0, none⟩ = some (.string t190) := (blk_cell BK193.out 0).trans rfl
         have hcz34_1 : w27.cell? ⟨gb193, 1, none⟩ = some (u194001) := (blk_cell BK193.out 1).trans rfl
         have hfz34_0 := blk_frozen BK193.out 0
         have hfz34_1 := blk_frozen BK193.out 1
         have hnb35 := NB189_200.out
         have hnc35 := NB200_189.out
         have hnb36 := NB189_0.out
         have hnc36 := NB0_189.out
         have hcz37_0 : w27.cell? ⟨gb189, 0, none⟩ = some (.string x190000_2) := (blk_cell BK189.out 0).trans rfl
         have hcz37_1 : w27.cell? ⟨gb189, 1, none⟩ = some (.slice none 0 0) := (blk_cell BK189.out 1).trans rfl
         have hfz37_0 := blk_frozen BK189.out 0
         have hfz37_1 := blk_frozen BK189.out 1
         obtain ⟨Ao38, co38, eo38⟩ := Kd.S_slice HO_194001.out
         subst eo38
         try go_wp2
         refine bodyPost_ret (results_cell_row rfl _ _ gb189 31 #[.string t190, .slice Ao38 x194001_1.length co38] (0, 0) _ rfl (by (with_reducible repeat (first | refine blk_drewN ?_ _ | refine blk_drew ?_ | refine blk_alloc ?_ _)); refine blk_put (cs := #[.string t190, .slice none 0 0]) ?_ 1 _ rfl; (with_reducible repeat (first | refine blk_drewN ?_ _ | refine blk_drew ?_ | refine blk_alloc ?_ _)); refine blk_put (cs := #[.string x190000_2, .slice none 0 0]) ?_ 0 _ rfl; (with_reducible repeat (first | refine blk_drewN ?_ _ | refine blk_drew ?_ | refine blk_alloc ?_ _)); refine blk_far ?_ NB189_200.out _; (with_reducible repeat (first | refine blk_drewN ?_ _ | refine blk_drew ?_ | refine blk_alloc ?_ _)); exact BK189.out) Try.underlying31 rfl (by kernel_rfl)) rfl ?_
         exact ⟨_, zre, by (with_reducible repeat (first | apply Kd.S_alloc | apply Kd.S_drewN | apply Kd.S_drew)); exact Kd.S_mono (Kd.S_far (p := ⟨gb189, 1, none⟩) (Kd.S_far (p := ⟨gb189, 0, none⟩) (Kd.S_far (p := ⟨gb200, 1, none⟩) (Kd.S_types (Kd.S_mono HO_194001.out (fun k_ hk => (⟨hk, hk.1⟩ : _ ∧ k_ ≠ gb200))) BK189.out (by decide)) (fun _ hk => hk.1.2) (.slice Ao28 y207.length co28)) (fun _ hk => hk.2) (.string t190)) (fun _ hk => hk.2) (.slice Ao38 x194001_1.length co38)) (fun _ hk => trivial), by repeat (first | (with_reducible first | exact HI0.out | apply IsS78.alloc | apply IsS78.drewN | apply IsS78.drew | apply IsS78.set_1 | apply IsS78.set_2 | refine IsS78.far ?_ NB0_189.out _ | refine IsS78.far ?_ NB0_193.out _ | refine IsS78.far ?_ NB0_200.out _) | exact HI0.out), by repeat (first | (with_reducible first | exact HB.out | apply below_alloc | apply pw_below_drewN | apply below_drew1 | refine below_set ?_ (IsS78.ge HI0.out) | refine below_set ?_ GE189.out | refine below_set ?_ GE193.out | refine below_set ?_ GE200.out) | exact HB.out), by repeat (first | (with_reducible first | exact HK.out | apply KeepBut.set_ | apply keep_drewN | apply keep_drew | apply keep_alloc | refine keep_far ?_ GW189.out _ | refine keep_far ?_ GW193.out _ | refine keep_far ?_ GW200.out _) | exact HK.out)⟩
        ·replace c24 := Bool.eq_false_iff.mpr c24
         subst c24
         have H1 : (impl_docReader_doc.l1 k2 t194 x11_1 t201 (wrap64 (x18_2 + 1)) s0_0 t205 false t190 x194001_1 t197 y207) = some (r1, r2, r3, r4) := by rw [if_neg (show ¬ (false = true) by decide)] at H; exact H
         clear H
         have H := H1
         clear H1
         have H' := Aside0.mk H
         clear H
         try go_wp2
         have n0_ := Aside0.mk (Kd.S_drew HO_194001.out)
         have n1_ := Aside0.mk (Kd.R_drew HO_201001.out)
         have n2_ := Aside0.mk (blk_drew BK189.out)
         have n3_ := Aside0.mk (blk_drew BK193.out)
         have n4_ := Aside0.mk (blk_drew BK200.out)
         have n5_ := Aside0.mk (IsS78.drew HI0.out)
         have n6_ := Aside0.mk (keep_drew HK.out)
         have n7_ := Aside0.mk (below_drew1 HB.out)
         clear HO_194001
         clear HO_201001
         clear BK189
         clear BK193
         clear BK200
         clear HI0
         clear HK
         clear HB
         have HO_194001 := n0_
         have HO_201001 := n1_
         have BK189 := n2_
         have BK193 := n3_
         have BK200 := n4_
         have HI0 := n5_
         have HK := n6_
         have HB := n7_
         clear n0_ n1_ n2_ n3_ n4_ n5_ n6_ n7_
         refine start_ (n := 8) (S := fun w' => w'.cell? ⟨gb200, 0, none⟩ = some (.string t197) ∧ w'.cell? ⟨gb200, 1, none⟩ = some (u201001) ∧ w'.cell? ⟨gb200, 2, none⟩ = some (.slice none 0 0)) (ds := [7]) (fl7_ 8 0) (by kernel_rfl) rfl rfl ⟨(blk_cell BK200.out 0).trans rfl, (blk_cell BK200.out 1).trans rfl, (blk_cell BK200.out 2).trans rfl⟩ (fun hHeld => ?_); refine with_tabW impl_docReader_doc.tab7 impl_docReader_doc.bits7 (fun HT_ HW_ => ?_)
         generalize wr.drew = w39 at HO_194001 HO_201001 BK189 BK193 BK200 HI0 HK HB hHeld ⊢
         refine pure_ (i := 0) (N := some 20) (v := ?_) (a' := ?_) (fl7_ 8 1) rfl rfl (any_of HT_.out (by kernel_rfl)) (fun _ _ _ h => h) (Or.inl ⟨by rfl, ?_⟩) ?_ ?_
         rotate_left
         ·intro w'
          go_simp
          with_reducible rfl
         rotate_left
         ·simp only [Act.put, List.setIfInBounds_toArray, List.set_cons_zero, List.set_cons_succ, i64_w, i32_w]
          rfl
         refine pure_ (i := 2) (N := some 22) (v := ?_) (a' := ?_) (fl7_ 8 5) rfl rfl (any_of HT_.out (by kernel_rfl)) (fun _ _ _ h => h) (Or.inl ⟨by rfl, ?_⟩) ?_ ?_
         rotate_left
         ·intro w'
          go_simp
          with_reducible rfl
         rotate_left
         ·simp only [Act.put, List.setIfInBounds_toArray, List.set_cons_zero, List.set_cons_succ, i64_w, i32_w]
          rfl
         refine take_ (i := 1) (N := some 21) (v := ?_) (a' := ?_) (fl7_ 8 7) rfl rfl (take_ofW HT_.out HW_.out (by kernel_rfl)) (fun _ _ _ h => h) (Or.inl ⟨by rfl, ?_⟩) hHeld ?_ ?_
         rotate_left
         ·rintro w' ⟨s0, s1, s2⟩
          go_simp
          with_reducible rfl
         rotate_left
         ·simp only [Act.put, List.setIfInBounds_toArray, List.set_cons_zero, List.set_cons_succ, i64_w, i32_w]
          rfl
         refine one_ (i := 3) (N := some 23) (fl7_ 8 15) rfl rfl (one_of HT_.out (by kernel_rfl)) (by decide) (fun K hK => ?_)
         refine goes_ Try.func72 (by kernel_rfl) rfl #[.pointer (some ⟨g, 0, none⟩)] (by rfl) rfl rfl zar ?_
         with_reducible refine (impl_docReader_text.calls k2 g s0_0 x1001_2 x1002_2 t204 t205 false w0 _ ?side1 ?side2 A22.out).mono ?_
         (case side1 => repeat (first | (with_reducible first | exact HI0.out | apply IsS78.alloc | apply IsS78.drewN | apply IsS78.drew | apply IsS78.set_1 | apply IsS78.set_2 | refine IsS78.far ?_ NB0_189.out _ | refine IsS78.far ?_ NB0_193.out _ | refine IsS78.far ?_ NB0_200.out _) | exact HI0.out))
         (case side2 => repeat (first | (with_reducible first | exact HB.out | apply below_alloc | apply pw_below_drewN | apply below_drew1 | refine below_set ?_ (IsS78.ge HI0.out) | refine below_set ?_ GE189.out | refine below_set ?_ GE193.out | refine below_set ?_ GE200.out) | exact HB.out))
         rintro e w40 ⟨rfl, hi, hb, hk⟩
         refine ⟨_, rfl, ?_⟩
         have n0_ := Aside0.mk (Kd.S_mono (Kd.S_keep (IsS78.apartS (show IsS78 w0 _ g s0_0 x1001_2 x1002_2 from by repeat (first | (with_reducible first | exact HI0.out | apply IsS78.alloc | apply IsS78.drewN | apply IsS78.drew | apply IsS78.set_1 | apply IsS78.set_2 | refine IsS78.far ?_ NB0_189.out _ | refine IsS78.far ?_ NB0_193.out _ | refine IsS78.far ?_ NB0_200.out _) | exact HI0.out)) (zs HO_194001) (by decide)) hk (fun _ h => h.2)) (fun _ h => h.1))
         have n1_ := Aside0.mk (Kd.R_mono (Kd.R_keep (IsS78.apart (show IsS78 w0 _ g s0_0 x1001_2 x1002_2 from by repeat (first | (with_reducible first | exact HI0.out | apply IsS78.alloc | apply IsS78.drewN | apply IsS78.drew | apply IsS78.set_1 | apply IsS78.set_2 | refine IsS78.far ?_ NB0_189.out _ | refine IsS78.far ?_ NB0_193.out _ | refine IsS78.far ?_ NB0_200.out _) | exact HI0.out)) (zr HO_201001) (by decide)) hk (fun _ h => h.2)) (fun _ h => h.1))
         have n2_ := Aside0.mk (KeepBut.blk hk (g' := gb189) (o := .cells #[.string x190000_2, .slice none 0 0] 31 (0, 0)) (zb BK189) NB189_0.out (by simp))
         have n3_ := Aside0.mk (KeepBut.blk hk (g' := gb193) (o := .cells #[.string t190, u194001] 31 (0, 0)) (zb BK193) NB193_0.out (by simp))
         have n4_ := Aside0.mk (KeepBut.blk hk (g' := gb200) (o := .cells #[.string t197, u201001, .slice none 0 0] 66 (0, 0)) (zb BK200) NB200_0.out (by simp))
         have n5_ := Aside0.mk (KeepBut.trans (by repeat (first | (with_reducible first | exact HK.out | apply KeepBut.set_ | apply keep_drewN | apply keep_drew | apply keep_alloc | refine keep_far ?_ GW189.out _ | refine keep_far ?_ GW193.out _ | refine keep_far ?_ GW200.out _) | exact HK.out)) hk (.inl rfl))
         have n6_ := Aside0.mk (hb)
         have n7_ := Aside0.mk (hi)
         clear HO_194001
         clear HO_201001
         clear BK189
         clear BK193
         clear BK200
         clear HK
         clear HB
         clear HI0
         have HO_194001 := n0_
         have HO_201001 := n1_
         have BK189 := n2_
         have BK193 := n3_
         have BK200 := n4_
         have HK := n5_
         have HB := n6_
         have HI0 := n7_
         clear n0_ n1_ n2_ n3_ n4_ n5_ n6_ n7_
         (try clear hb)
         (try clear hb2)
         (try clear hk)
         (try clear hi)
         refine hK.out _ _ ⟨(blk_cell BK200.out 0).trans rfl, (blk_cell BK200.out 1).trans rfl, (blk_cell BK200.out 2).trans rfl⟩ (fun hHeld => ?_)
         clear hK K
         refine norm_ (a' := ?_) ?_ ?_
         rotate_left
         ·show Act.put _ (some 23) _ = _
          simp only [Act.put, List.setIfInBounds_toArray, List.set_cons_zero, List.set_cons_succ, i64_w, i32_w]
          rfl
         refine one_ (i := 4) (N := some 24) (fl7_ 8 31) rfl rfl (one_of HT_.out (by kernel_rfl)) (by decide) (fun K hK => ?_)
         refine value_ (w1 := ?_) (v := ?_) (by rfl) rfl ?_ ?_
         rotate_left 2
         ·go_simp
          constructor
          ·rfl
          ·rfl
         refine hK.out _ _ ⟨(blk_cell (blk_alloc BK200.out _) 0).trans rfl, (blk_cell (blk_alloc BK200.out _) 1).trans rfl, (blk_cell (blk_alloc BK200.out _) 2).trans rfl⟩ (fun hHeld => ?_)
         clear hK K
         refine norm_ (a' := ?_) ?_ ?_
         rotate_left
         ·show Act.put _ (some 24) _ = _
          simp only [Act.put, List.setIfInBounds_toArray, List.set_cons_zero, List.set_cons_succ, i64_w, i32_w]
          rfl
         refine one_ (i := 5) (N := some 25) (fl7_ 8 63) rfl rfl (one_of HT_.out (by kernel_rfl)) (by decide) (fun K hK => ?_)
         refine Kd.R_append_step Kd.string w.heap.size (by rfl) (.tmp 21) (.tmp 24) 64 9 (.string ⟨#[]⟩) 16 rfl Try.underlying64 info9 rfl (by decide) (by omega) u201001 x201001_2 t204 [.string t204] (fun _ => True) (fun _ => False) rfl rfl ?aP (fun _ hk => hk.elim) ?aF ?aO (Below.refl _ _) ?aS ?aL ?_
         (case aP => exact rfl)
         (case aF => exact (fun _ _ => trivial))
         (case aO => exact (zr HO_201001))
         (case aS => exact (keep_size (w := w) (g := g) (row := none) (by repeat (first | (with_reducible first | exact HK.out | apply KeepBut.set_ | apply keep_drewN | apply keep_drew | apply keep_alloc | refine keep_far ?_ GW189.out _ | refine keep_far ?_ GW193.out _ | refine keep_far ?_ GW200.out _) | exact HK.out))))
         (case aL => have := LMc23.out; omega)
         intro v208 w41 ho hb hg hat
         rw [← Ny207.out] at ho
         have n0_ := Aside0.mk (Kd.S_after (ok := (fun k_ => k_ ≠ gb200)) (Kd.S_mono (zs HO_194001) (fun _ hk => ⟨hk.2, hk.1⟩)) hg hat)
         have n1_ := Aside0.mk (blk_grown (zb BK189) hg (Kd.R_ne HO_201001.out BK189.out (by decide)))
         have n2_ := Aside0.mk (blk_grown (zb BK193) hg (Kd.R_ne HO_201001.out BK193.out (by decide)))
         have n3_ := Aside0.mk (blk_grown (zb BK200) hg (Kd.R_ne HO_201001.out BK200.out (by decide)))
         have n4_ := Aside0.mk (IsS78.grown (by repeat (first | (with_reducible first | exact HI0.out | apply IsS78.alloc | apply IsS78.drewN | apply IsS78.drew | apply IsS78.set_1 | apply IsS78.set_2 | refine IsS78.far ?_ NB0_189.out _ | refine IsS78.far ?_ NB0_193.out _ | refine IsS78.far ?_ NB0_200.out _) | exact HI0.out)) hg (IsS78.own_ne HI0.out HO_201001.out (by decide)))
         have n5_ := Aside0.mk (below_weaken (by repeat (first | (with_reducible first | exact HB.out | apply below_alloc | apply pw_below_drewN | apply below_drew1 | refine below_set ?_ (IsS78.ge HI0.out) | refine below_set ?_ GE189.out | refine below_set ?_ GE193.out | refine below_set ?_ GE200.out) | exact HB.out)) HL.out hb)
         have n6_ := Aside0.mk (KeepBut.trans (by repeat (first | (with_reducible first | exact HK.out | apply KeepBut.set_ | apply keep_drewN | apply keep_drew | apply keep_alloc | refine keep_far ?_ GW189.out _ | refine keep_far ?_ GW193.out _ | refine keep_far ?_ GW200.out _) | exact HK.out)) (KeepBut.of_grown hg g) (Kd.R_base2 HO_201001.out))
         have n7_ := Aside0.mk (ho)
         clear HO_194001
         clear BK189
         clear BK193
         clear BK200
         clear HI0
         clear HB
         clear HK
         clear HO_201001
         have HO_194001 := n0_
         have BK189 := n1_
         have BK193 := n2_
         have BK200 := n3_
         have HI0 := n4_
         have HB := n5_
         have HK := n6_
         have HO209 := n7_
         clear n0_ n1_ n2_ n3_ n4_ n5_ n6_ n7_
         clear ho hb hg hat
         obtain ⟨Ao42, co42, eo42⟩ := Kd.R_slice HO209.out
         (first | subst eo42 | (injection eo42 with f1_ f2_ f3_; have f4_ := f1_.symm; have f5_ := f3_.symm; clear f1_ f2_ f3_; subst f4_; subst f5_))
         refine hK.out _ _ ⟨(blk_cell BK200.out 0).trans rfl, (blk_cell BK200.out 1).trans rfl, (blk_cell BK200.out 2).trans rfl⟩ (fun hHeld => ?_)
         clear hK K
         refine norm_ (a' := ?_) ?_ ?_
         rotate_left
         ·show Act.put _ (some 25) _ = _
          simp only [Act.put, List.setIfInBounds_toArray, List.set_cons_zero, List.set_cons_succ, i64_w, i32_w]
          rfl
         refine pure_ (i := 6) (N := some 26) (v := ?_) (a' := ?_) (fl7_ 8 127) rfl rfl (any_of HT_.out (by kernel_rfl)) (fun _ _ _ h => h) (Or.inl ⟨by rfl, ?_⟩) ?_ ?_
         rotate_left
         ·intro w'
          go_simp
          with_reducible rfl
         rotate_left
         ·simp only [Act.put, List.setIfInBounds_toArray, List.set_cons_zero, List.set_cons_succ, i64_w, i32_w]
          rfl
         refine last_ (i := 7) (N := none) (fl7_ 8 255) rfl rfl (one_of HT_.out (by kernel_rfl)) (by decide) (fun K hK => ?_)
         have hs43 : w41.cell? ⟨gb200, 1, none⟩ = some (u201001) := (blk_cell BK200.out 1).trans rfl
         have hfs43 := blk_frozen BK200.out 1
         have hns43_0 := NB189_200.out
         have hns43_1 := NB193_200.out
         have hms43_0 := NB200_189.out
         have hms43_1 := NB200_193.out
         refine skip_ (w1 := ?_) (by rfl) rfl ?_ ?_
         rotate_left
         ·go_simp
          rfl
         refine hK.out _ _ ?_
         clear hK K
         refine done_ (done_of HT_.out (by kernel_rfl)) ?_
         obtain ⟨ASz44_0, cSz44_0, HGz44, hgz44, HSz44_0⟩ := HI0.out
         have hcz44_0 := cellS78_0 HGz44
         have hcz44_1 := cellS78_1 HGz44
         have hcz44_2 := cellS78_2 HGz44
         have hfz44_1 := blk_frozen HGz44 1
         have hfz44_2 := blk_frozen HGz44 2
         clear HGz44 hgz44
         try go_wp2
         go_roundg k2
         case measure => have := HK1.out; have := HK2.out; omega
         case rel => exact ⟨(wrap64 (x18_2 + 1)), (t205), (false), (x190000_2), (y207), (.slice Ao42 y207.length co42), (by first | rfl | (simp; done) | (simp [*]; done)), H', ⟨by have := HK1.out; have := HK2.out; omega⟩, ⟨by (with_reducible repeat (first | apply Kd.S_alloc | apply Kd.S_drewN | apply Kd.S_drew)); exact Kd.S_mono (Kd.S_far (p := ⟨gb200, 1, none⟩) (Kd.S_mono HO_194001.out (fun k_ hk => (⟨hk, hk.1⟩ : _ ∧ k_ ≠ gb200))) (fun _ hk => hk.2) (.slice Ao42 y207.length co42)) (fun _ hk => ⟨hk.1.2, hk.1.1⟩)⟩, ⟨by (with_reducible repeat (first | apply Kd.R_alloc | apply Kd.R_drewN | apply Kd.R_drew)); exact Kd.R_mono (Kd.R_far (p := ⟨gb200, 1, none⟩) (Kd.R_types HO209.out BK200.out (by decide)) (fun _ hk => hk.2) (.slice Ao42 y207.length co42)) (fun _ hk => trivial)⟩, ⟨by (with_reducible repeat (first | refine blk_drewN ?_ _ | refine blk_drew ?_ | refine blk_alloc ?_ _)); refine blk_far ?_ NB189_200.out _; (with_reducible repeat (first | refine blk_drewN ?_ _ | refine blk_drew ?_ | refine blk_alloc ?_ _)); exact BK189.out⟩, ⟨by (with_reducible repeat (first | refine blk_drewN ?_ _ | refine blk_drew ?_ | refine blk_alloc ?_ _)); refine blk_far ?_ NB193_200.out _; (with_reducible repeat (first | refine blk_drewN ?_ _ | refine blk_drew ?_ | refine blk_alloc ?_ _)); exact BK193.out⟩, ⟨by (with_reducible repeat (first | refine blk_drewN ?_ _ | refine blk_drew ?_ | refine blk_alloc ?_ _)); refine blk_put (cs := #[.string t197, u201001, .slice none 0 0]) ?_ 1 _ rfl; (with_reducible repeat (first | refine blk_drewN ?_ _ | refine blk_drew ?_ | refine blk_alloc ?_ _)); exact BK200.out⟩, ⟨by repeat (first | (with_reducible first | exact HI0.out | apply IsS78.alloc | apply IsS78.drewN | apply IsS78.drew | apply IsS78.set_1 | apply IsS78.set_2 | refine IsS78.far ?_ NB0_189.out _ | refine IsS78.far ?_ NB0_193.out _ | refine IsS78.far ?_ NB0_200.out _) | exact HI0.out)⟩, ⟨by repeat (first | (with_reducible first | exact HK.out | apply KeepBut.set_ | apply keep_drewN | apply keep_drew | apply keep_alloc | refine keep_far ?_ GW189.out _ | refine keep_far ?_ GW193.out _ | refine keep_far ?_ GW200.out _) | exact HK.out)⟩, ⟨by repeat (first | (with_reducible first | exact HB.out | apply below_alloc | apply pw_below_drewN | apply below_drew1 | refine below_set ?_ (IsS78.ge HI0.out) | refine below_set ?_ GE189.out | refine below_set ?_ GE193.out | refine below_set ?_ GE200.out) | exact HB.out)⟩⟩
       ·rw [if_neg c23] at H
        exact absurd H (by simp)
      ·rw [if_neg c21] at H
       have c21b0 : decide (x18_2 < t201) = false := decide_eq_false c21
       clear c21
       replace H := Option.bind_eq_some_iff.mp H
       obtain ⟨⟨t210, t211, t212⟩, A450, H⟩ := H
       replace H : (impl_docReader_doc.l2 k2 t194 x11_1 t210 0 s0_0 t211 t212 t190 x194001_1 t197 x201001_2 ([] : List Int)) = some (r1, r2, r3, r4) := H
       have A45 := Aside0.mk A450
       clear A450
       have H' := Aside0.mk H
       clear H
       go_wp2_with (first | ((with_reducible refine gate_callee (f := 73) rfl ?_); refine goesL_ (some 34) rfl rfl Try.func73 (by kernel_rfl) rfl #[.pointer (some ⟨g, 0, none⟩), .int .i64 4096] rfl zar ?_; (with_reducible refine (impl_docReader_int.calls k2 g s0_0 x1001_2 x1002_2 4096 t210 t211 t212 w0 _ ?side1 ?side2 A45.out).mono ?_); (case side1 => repeat (first | (with_reducible first | exact HI0.out | apply IsS78.alloc | apply IsS78.drewN | apply IsS78.drew | apply IsS78.set_1 | apply IsS78.set_2 | refine IsS78.far ?_ NB0_189.out _ | refine IsS78.far ?_ NB0_193.out _ | refine IsS78.far ?_ NB0_200.out _) | exact HI0.out)); (case side2 => repeat (first | (with_reducible first | exact HB.out | apply below_alloc | apply pw_below_drewN | apply below_drew1 | refine below_set ?_ (IsS78.ge HI0.out) | refine below_set ?_ GE189.out | refine below_set ?_ GE193.out | refine below_set ?_ GE200.out) | exact HB.out)); rintro e w46 ⟨rfl, hi, hb, hk⟩; refine ⟨_, rfl, ?_⟩; have n0_ := Aside0.mk (Kd.S_mono (Kd.S_keep (IsS78.apartS (show IsS78 w0 _ g s0_0 x1001_2 x1002_2 from by repeat (first | (with_reducible first | exact HI0.out | apply IsS78.alloc | apply IsS78.drewN | apply IsS78.drew | apply IsS78.set_1 | apply IsS78.set_2 | refine IsS78.far ?_ NB0_189.out _ | refine IsS78.far ?_ NB0_193.out _ | refine IsS78.far ?_ NB0_200.out _) | exact HI0.out)) (zs HO_194001) (by decide)) hk (fun _ h => h.2)) (fun _ h => h.1)); have n1_ := Aside0.mk (Kd.R_mono (Kd.R_keep (IsS78.apart (show IsS78 w0 _ g s0_0 x1001_2 x1002_2 from by repeat (first | (with_reducible first | exact HI0.out | apply IsS78.alloc | apply IsS78.drewN | apply IsS78.drew | apply IsS78.set_1 | apply IsS78.set_2 | refine IsS78.far ?_ NB0_189.out _ | refine IsS78.far ?_ NB0_193.out _ | refine IsS78.far ?_ NB0_200.out _) | exact HI0.out)) (zr HO_201001) (by decide)) hk (fun _ h => h.2)) (fun _ h => h.1)); have n2_ := Aside0.mk (KeepBut.blk hk (g' := gb189) (o := .cells #[.string x190000_2, .slice none 0 0] 31 (0, 0)) (zb BK189) NB189_0.out (by simp)); have n3_ := Aside0.mk (KeepBut.blk hk (g' := gb193) (o := .cells #[.string t190, u194001] 31 (0, 0)) (zb BK193) NB193_0.out (by simp)); have n4_ := Aside0.mk (KeepBut.blk hk (g' := gb200) (o := .cells #[.string t197, u201001, .slice none 0 0] 66 (0, 0)) (zb BK200) NB200_0.out (by simp)); have n5_ := Aside0.mk (KeepBut.trans (by repeat (first | (with_reducible first | exact HK.out | apply KeepBut.set_ | apply keep_drewN | apply keep_drew | apply keep_alloc | refine keep_far ?_ GW189.out _ | refine keep_far ?_ GW193.out _ | refine keep_far ?_ GW200.out _) | exact HK.out)) hk (.inl rfl)); have n6_ := Aside0.mk (hb); have n7_ := Aside0.mk (hi); clear HO_194001; clear HO_201001; clear BK189; clear BK193; clear BK200; clear HK; clear HB; clear HI0; have HO_194001 := n0_; have HO_201001 := n1_; have BK189 := n2_; have BK193 := n3_; have BK200 := n4_; have HK := n5_; have HB := n6_; have HI0 := n7_; clear n0_ n1_ n2_ n3_ n4_ n5_ n6_ n7_; (try clear hb); (try clear hb2); (try clear hk); (try clear hi)))
       go_loopg [35] k2 (fun kq v35 w' => ∃ (x35_3 : Int) (x1001_3 : Int) (x1002_3 : Bool) (x190000_3 : ByteArray) (x201002_3 : List Int) (u201002 : Value), v35 = .int .i64 x35_3 ∧ Aside0 (impl_docReader_doc.l2 kq t194 x11_1 t210 x35_3 s0_0 x1001_3 x1002_3 t190 x194001_1 t197 x201001_2 x201002_3 = some (r1, r2, r3, r4)) ∧ Aside0 (kq ≤ k2) ∧ Aside0 (Kd.S k66 66 w' w.heap.size (fun k_ => some k_ ≠ (u201001 : Value).ownBlock ∧ some k_ ≠ (u201002 : Value).ownBlock ∧ k_ ≠ gb200) u194001 x194001_1) ∧ Aside0 (Kd.R Kd.string 9 w' w.heap.size (fun _ => True) u201001 x201001_2) ∧ Aside0 (Kd.R (Kd.int .i64) 3 w' w.heap.size (fun _ => True) u201002 x201002_3) ∧ Aside0 (w'.heap[gb189]? = some (.cells #[.string x190000_3, (.slice none 0 0)] 31 (0, 0))) ∧ Aside0 (w'.heap[gb193]? = some (.cells #[.string t190, u194001] 31 (0, 0))) ∧ Aside0 (w'.heap[gb200]? = some (.cells #[.string t197, u201001, u201002] 66 (0, 0))) ∧ Aside0 (IsS78 w0 w' g s0_0 x1001_3 x1002_3) ∧ Aside0 (KeepBut w w' g none) ∧ Aside0 (Below w0.heap.size w0 w'))
       case atStart => exact ⟨(0), (t211), (t212), (x190000_2), (([] : List Int)), (.slice none 0 0), (by first | rfl | (simp; done) | (simp [*]; done)), H', ⟨Nat.le_refl _⟩, ⟨Kd.S_mono (zs HO_194001) (fun _ hk => ⟨hk.1, ⟨(by simp [Value.ownBlock]), hk.2⟩⟩)⟩, ⟨zr HO_201001⟩, ⟨by first | exact Kd.R_nil _ _ _ _ _ | exact Kd.N_nil _ _ _ _ _ | exact Kd.V_nil _ _ _ _ _ | exact Kd.Q_nil _ _ _ _ _ | exact Kd.S_nil _ _ _ _ _⟩, ⟨zb BK189⟩, ⟨zb BK193⟩, ⟨zb BK200⟩, ⟨by repeat (first | (with_reducible first | exact HI0.out | apply IsS78.alloc | apply IsS78.drewN | apply IsS78.drew | apply IsS78.set_1 | apply IsS78.set_2 | refine IsS78.far ?_ NB0_189.out _ | refine IsS78.far ?_ NB0_193.out _ | refine IsS78.far ?_ NB0_200.out _) | exact HI0.out)⟩, ⟨by repeat (first | (with_reducible first | exact HK.out | apply KeepBut.set_ | apply keep_drewN | apply keep_drew | apply keep_alloc | refine keep_far ?_ GW189.out _ | refine keep_far ?_ GW193.out _ | refine keep_far ?_ GW200.out _) | exact HK.out)⟩, ⟨by repeat (first | (with_reducible first | exact HB.out | apply below_alloc | apply pw_below_drewN | apply below_drew1 | refine below_set ?_ (IsS78.ge HI0.out) | refine below_set ?_ GE189.out | refine below_set ?_ GE193.out | refine below_set ?_ GE200.out) | exact HB.out)⟩⟩
       case round =>
        clear H'
        try clear c1
        try clear c2
        try clear p2
        try clear c3
        try clear c4
        try clear p6
        try clear c7
        try clear c8
        try clear c11
        try clear c11b0
        try clear c16
        try clear c17
        try clear c18
        try clear c21
        try clear c21b0
        try clear c23
        try clear c24
        try clear c31
        try clear c32
        try clear c33
        try clear c35
        try clear c36
        try clear c44
        try clear hcz19_0
        try clear hcz19_1
        try clear hcz19_2
        try clear hcz30_0
        try clear hcz30_1
        try clear hcz30_2
        try clear hcz34_0
        try clear hcz34_1
        try clear hcz37_0
        try clear hcz37_1
        try clear hcz44_0
        try clear hcz44_1
        try clear hcz44_2
        try clear hcz9_0
        try clear hcz9_1
        try clear hfz19_0
        try clear hfz19_1
        try clear hfz19_2
        try clear hfz30_1
        try clear hfz30_2
        try clear hfz34_0
        try clear hfz34_1
        try clear hfz37_0
        try clear hfz37_1
        try clear hfz44_1
        try clear hfz44_2
        try clear hfz9_0
        try clear hfz9_1
        try clear p2
        obtain ⟨x35_3, x1001_3, x1002_3, x190000_3, x201002_3, u201002, rfl, HA, HK3, HO_194001, HO_201001, HO_201002, BK189, BK193, BK200, HI0, HK, HB⟩ := hrel
        cases gk with
        | zero => exact absurd HA.out (by simp [impl_docReader_doc.l2])
        | succ k3 =>
         have H := HA.out
         clear HA
         simp only [impl_docReader_doc.l2] at H
         by_cases c47 : x35_3 < t210
         ·rw [if_pos c47] at H
          have c47b0 : decide (x35_3 < t210) = true := decide_eq_true c47
          clear c47
          replace H := Option.bind_eq_some_iff.mp H
          obtain ⟨⟨t216, t217, t218⟩, A480, H⟩ := H
          replace H : (if (Int.tmod t216 2) = 1 then (if x201002_3.length < 17592186044416 then (if t218 = true then (some (t190, x194001_1, t217, t218)) else (impl_docReader_doc.l2 k3 t194 x11_1 t210 (wrap64 (x35_3 + 1)) s0_0 t217 t218 t190 x194001_1 t197 x201001_2 (x201002_3 ++ [wrap64 (Int.tdiv (wrap64 (-(wrap64 (t216 + 1)))) 2)]))) else (none)) else (if x201002_3.length < 17592186044416 then (if t218 = true then (some (t190, x194001_1, t217, t218)) else (impl_docReader_doc.l2 k3 t194 x11_1 t210 (wrap64 (x35_3 + 1)) s0_0 t217 t218 t190 x194001_1 t197 x201001_2 (x201002_3 ++ [wrap64 (Int.tdiv t216 2)]))) else (none))) = some (r1, r2, r3, r4) := H
          have A48 := Aside0.mk A480
          clear A480
          by_cases c49 : (Int.tmod t216 2) = 1
          ·rw [if_pos c49] at H
           have c49b0 : ((Int.tmod t216 2) == 1) = true := beq_iff_eq.mpr c49
           have c49b1 : ((Int.tmod t216 2) != 1) = false := bne_eq_false_iff_eq.mpr c49
           clear c49
           by_cases c50 : x201002_3.length < 17592186044416
           ·rw [if_pos c50] at H
            have LMc50 := Aside0.mk c50
            clear c50
            obtain ⟨y219, hy219⟩ : ∃ y_ : List Int, y_ = (x201002_3 ++ [wrap64 (Int.tdiv (wrap64 (-(wrap64 (t216 + 1)))) 2)]) := ⟨_, rfl⟩
            replace H : (if t218 = true then (some (t190, x194001_1, t217, t218)) else (impl_docReader_doc.l2 k3 t194 x11_1 t210 (wrap64 (x35_3 + 1)) s0_0 t217 t218 t190 x194001_1 t197 x201001_2 y219)) = some (r1, r2, r3, r4) := by first | (rw [hy219]; with_reducible exact H) | (have H2_ := (Option.bind_some _ _).symm.trans H; rw [hy219]; with_reducible exact H2_) | (have H2_ := (Option.bind_some _ _).symm.trans H; with_reducible exact H2_) | with_reducible exact H | (rw [hy219]; exact H) | exact H
            have Ny219 := Aside0.mk hy219
            clear hy219
            by_cases c51 : t218 = true
            ·subst c51
             have H1 : (some (t190, x194001_1, t217, true)) = some (r1, r2, r3, r4) := by rw [if_pos rfl] at H; exact H
             clear H
             have H := H1
             clear H1
             simp only [Option.some.injEq, Prod.mk.injEq] at H
             obtain ⟨rfl, rfl, rfl, rfl⟩ := H
             go_wp2_with (first | ((with_reducible refine gate_callee (f := 73) rfl ?_); refine goesL_ (some 38) rfl rfl Try.func73 (by kernel_rfl) rfl #[.pointer (some ⟨g, 0, none⟩), .int .i64 2000000000000] rfl zar ?_; (with_reducible refine (impl_docReader_int.calls k3 g s0_0 x1001_3 x1002_3 2000000000000 t216 t217 true w0 _ ?side1 ?side2 A48.out).mono ?_); (case side1 => repeat (first | (with_reducible first | exact HI0.out | apply IsS78.alloc | apply IsS78.drewN | apply IsS78.drew | apply IsS78.set_1 | apply IsS78.set_2 | refine IsS78.far ?_ NB0_189.out _ | refine IsS78.far ?_ NB0_193.out _ | refine IsS78.far ?_ NB0_200.out _) | exact HI0.out)); (case side2 => repeat (first | (with_reducible first | exact HB.out | apply below_alloc | apply pw_below_drewN | apply below_drew1 | refine below_set ?_ (IsS78.ge HI0.out) | refine below_set ?_ GE189.out | refine below_set ?_ GE193.out | refine below_set ?_ GE200.out) | exact HB.out)); rintro e w52 ⟨rfl, hi, hb, hk⟩; refine ⟨_, rfl, ?_⟩; have n0_ := Aside0.mk (Kd.S_mono (Kd.S_keep (IsS78.apartS (show IsS78 w0 _ g s0_0 x1001_3 x1002_3 from by repeat (first | (with_reducible first | exact HI0.out | apply IsS78.alloc | apply IsS78.drewN | apply IsS78.drew | apply IsS78.set_1 | apply IsS78.set_2 | refine IsS78.far ?_ NB0_189.out _ | refine IsS78.far ?_ NB0_193.out _ | refine IsS78.far ?_ NB0_200.out _) | exact HI0.out)) (zs HO_194001) (by decide)) hk (fun _ h => h.2)) (fun _ h => h.1)); have n1_ := Aside0.mk (Kd.R_mono (Kd.R_keep (IsS78.apart (show IsS78 w0 _ g s0_0 x1001_3 x1002_3 from by repeat (first | (with_reducible first | exact HI0.out | apply IsS78.alloc | apply IsS78.drewN | apply IsS78.drew | apply IsS78.set_1 | apply IsS78.set_2 | refine IsS78.far ?_ NB0_189.out _ | refine IsS78.far ?_ NB0_193.out _ | refine IsS78.far ?_ NB0_200.out _) | exact HI0.out)) (zr HO_201001) (by decide)) hk (fun _ h => h.2)) (fun _ h => h.1)); have n2_ := Aside0.mk (Kd.R_mono (Kd.R_keep (IsS78.apart (show IsS78 w0 _ g s0_0 x1001_3 x1002_3 from by repeat (first | (with_reducible first | exact HI0.out | apply IsS78.alloc | apply IsS78.drewN | apply IsS78.drew | apply IsS78.set_1 | apply IsS78.set_2 | refine IsS78.far ?_ NB0_189.out _ | refine IsS78.far ?_ NB0_193.out _ | refine IsS78.far ?_ NB0_200.out _) | exact HI0.out)) (zr HO_201002) (by decide)) hk (fun _ h => h.2)) (fun _ h => h.1)); have n3_ := Aside0.mk (KeepBut.blk hk (g' := gb189) (o := .cells #[.string x190000_3, .slice none 0 0] 31 (0, 0)) (zb BK189) NB189_0.out (by simp)); have n4_ := Aside0.mk (KeepBut.blk hk (g' := gb193) (o := .cells #[.string t190, u194001] 31 (0, 0)) (zb BK193) NB193_0.out (by simp)); have n5_ := Aside0.mk (KeepBut.blk hk (g' := gb200) (o := .cells #[.string t197, u201001, u201002] 66 (0, 0)) (zb BK200) NB200_0.out (by simp)); have n6_ := Aside0.mk (KeepBut.trans (by repeat (first | (with_reducible first | exact HK.out | apply KeepBut.set_ | apply keep_drewN | apply keep_drew | apply keep_alloc | refine keep_far ?_ GW189.out _ | refine keep_far ?_ GW193.out _ | refine keep_far ?_ GW200.out _) | exact HK.out)) hk (.inl rfl)); have n7_ := Aside0.mk (hb); have n8_ := Aside0.mk (hi); clear HO_194001; clear HO_201001; clear HO_201002; clear BK189; clear BK193; clear BK200; clear HK; clear HB; clear HI0; have HO_194001 := n0_; have HO_201001 := n1_; have HO_201002 := n2_; have BK189 := n3_; have BK193 := n4_; have BK200 := n5_; have HK := n6_; have HB := n7_; have HI0 := n8_; clear n0_ n1_ n2_ n3_ n4_ n5_ n6_ n7_ n8_; (try clear hb); (try clear hb2); (try clear hk); (try clear hi); have hnb53 := NB200_189.out; have hnc53 := NB189_200.out; have hnb54 := NB200_193.out; have hnc54 := NB193_200.out; have hnb55 := NB200_0.out; have hnc55 := NB0_200.out; have hcz56_0 : w52.cell? ⟨gb200, 0, none⟩ = some (.string t197) := (blk_cell BK200.out 0).trans rfl; have hcz56_1 : w52.cell? ⟨gb200, 1, none⟩ = some (u201001) := (blk_cell BK200.out 1).trans rfl; have hcz56_2 : w52.cell? ⟨gb200, 2, none⟩ = some (u201002) := (blk_cell BK200.out 2).trans rfl; have hfz56_0 := blk_frozen BK200.out 0; have hfz56_1 := blk_frozen BK200.out 1; have hfz56_2 := blk_frozen BK200.out 2) | ((with_reducible refine gate_builtin (b := .append) (xs := #[.tmp 46, .tmp 49]) rfl ?_); at_builtin; refine Kd.R_append (Kd.int .i64) w.heap.size rfl (.tmp 46) (.tmp 49) 52 3 (.int .i64 0) 8 rfl Try.underlying52 info3 rfl (by decide) (by omega) u201002 x201002_3 (wrap64 (Int.tdiv (wrap64 (-(wrap64 (t216 + 1)))) 2)) [.int .i64 (wrap64 (Int.tdiv (wrap64 (-(wrap64 (t216 + 1)))) 2))] (fun _ => True) (fun _ => False) rfl rfl ?aP (fun _ hk => hk.elim) ?aF ?aO (Below.refl _ _) ?aS ?aL ?_; (case aP => exact rfl); (case aF => exact (fun _ _ => trivial)); (case aO => exact (zr HO_201002)); (case aS => exact (keep_size (w := w) (g := g) (row := none) (by repeat (first | (with_reducible first | exact HK.out | apply KeepBut.set_ | apply keep_drewN | apply keep_drew | apply keep_alloc | refine keep_far ?_ GW189.out _ | refine keep_far ?_ GW193.out _ | refine keep_far ?_ GW200.out _) | exact HK.out)))); (case aL => have := LMc50.out; omega); intro v220 w57 ho hb hg hat; rw [← Ny219.out] at ho; have n0_ := Aside0.mk (Kd.S_after (ok := (fun k_ => some k_ ≠ (u201001 : Value).ownBlock ∧ k_ ≠ gb200)) (Kd.S_mono (zs HO_194001) (fun _ hk => ⟨⟨hk.1, hk.2.2⟩, hk.2.1⟩)) hg hat); have n1_ := Aside0.mk (Kd.R_over' (zr HO_201001) (Kd.R_typed (zr HO_201002)) (by decide) hg); have n2_ := Aside0.mk (blk_grown (zb BK189) hg (Kd.R_ne HO_201002.out BK189.out (by decide))); have n3_ := Aside0.mk (blk_grown (zb BK193) hg (Kd.R_ne HO_201002.out BK193.out (by decide))); have n4_ := Aside0.mk (blk_grown (zb BK200) hg (Kd.R_ne HO_201002.out BK200.out (by decide))); have n5_ := Aside0.mk (IsS78.grown (by repeat (first | (with_reducible first | exact HI0.out | apply IsS78.alloc | apply IsS78.drewN | apply IsS78.drew | apply IsS78.set_1 | apply IsS78.set_2 | refine IsS78.far ?_ NB0_189.out _ | refine IsS78.far ?_ NB0_193.out _ | refine IsS78.far ?_ NB0_200.out _) | exact HI0.out)) hg (IsS78.own_ne HI0.out HO_201002.out (by decide))); have n6_ := Aside0.mk (below_weaken (by repeat (first | (with_reducible first | exact HB.out | apply below_alloc | apply pw_below_drewN | apply below_drew1 | refine below_set ?_ (IsS78.ge HI0.out) | refine below_set ?_ GE189.out | refine below_set ?_ GE193.out | refine below_set ?_ GE200.out) | exact HB.out)) HL.out hb); have n7_ := Aside0.mk (KeepBut.trans (by repeat (first | (with_reducible first | exact HK.out | apply KeepBut.set_ | apply keep_drewN | apply keep_drew | apply keep_alloc | refine keep_far ?_ GW189.out _ | refine keep_far ?_ GW193.out _ | refine keep_far ?_ GW200.out _) | exact HK.out)) (KeepBut.of_grown hg g) (Kd.R_base2 HO_201002.out)); have n8_ := Aside0.mk (ho); clear HO_194001; clear HO_201001; clear BK189; clear BK193; clear BK200; clear HI0; clear HB; clear HK; clear HO_201002; have HO_194001 := n0_; have HO_201001 := n1_; have BK189 := n2_; have BK193 := n3_; have BK200 := n4_; have HI0 := n5_; have HB := n6_; have HK := n7_; have HO221 := n8_; clear n0_ n1_ n2_ n3_ n4_ n5_ n6_ n7_ n8_; clear ho hb hg hat; obtain ⟨Ao58, co58, eo58⟩ := Kd.R_slice HO221.out; subst eo58; have hcz59_0 : w57.cell? ⟨gb200, 0, none⟩ = some (.string t197) := (blk_cell BK200.out 0).trans rfl; have hcz59_1 : w57.cell? ⟨gb200, 1, none⟩ = some (u201001) := (blk_cell BK200.out 1).trans rfl; have hcz59_2 : w57.cell? ⟨gb200, 2, none⟩ = some (u201002) := (blk_cell BK200.out 2).trans rfl; have hfz59_0 := blk_frozen BK200.out 0; have hfz59_1 := blk_frozen BK200.out 1; have hfz59_2 := blk_frozen BK200.out 2; obtain ⟨ASz60_0, cSz60_0, HGz60, hgz60, HSz60_0⟩ := HI0.out; have hcz60_0 := cellS78_0 HGz60; have hcz60_1 := cellS78_1 HGz60; have hcz60_2 := cellS78_2 HGz60; have hfz60_1 := blk_frozen HGz60 1; have hfz60_2 := blk_frozen HGz60 2; clear HGz60 hgz60; have hnb61 := NB193_189.out; have hnc61 := NB189_193.out; have hnb62 := NB193_0.out; have hnc62 := NB0_193.out; have hcz63_0 : w57.cell? ⟨gb193, 0, none⟩ = some (.string t190) := (blk_cell BK193.out 0).trans rfl; have hcz63_1 : w57.cell? ⟨gb193, 1, none⟩ = some (u194001) := (blk_cell BK193.out 1).trans rfl; have hfz63_0 := blk_frozen BK193.out 0; have hfz63_1 := blk_frozen BK193.out 1; have hnb64 := NB189_0.out; have hnc64 := NB0_189.out; have hcz65_0 : w57.cell? ⟨gb189, 0, none⟩ = some (.string x190000_3) := (blk_cell BK189.out 0).trans rfl; have hcz65_1 : w57.cell? ⟨gb189, 1, none⟩ = some (.slice none 0 0) := (blk_cell BK189.out 1).trans rfl; have hfz65_0 := blk_frozen BK189.out 0; have hfz65_1 := blk_frozen BK189.out 1; obtain ⟨Ao66, co66, eo66⟩ := Kd.S_slice HO_194001.out; subst eo66))
             refine bodyPost_ret (results_cell_row rfl _ _ gb189 31 #[.string t190, .slice Ao66 x194001_1.length co66] (0, 0) _ rfl (by (with_reducible repeat (first | refine blk_drewN ?_ _ | refine blk_drew ?_ | refine blk_alloc ?_ _)); refine blk_put (cs := #[.string t190, .slice none 0 0]) ?_ 1 _ rfl; (with_reducible repeat (first | refine blk_drewN ?_ _ | refine blk_drew ?_ | refine blk_alloc ?_ _)); refine blk_put (cs := #[.string x190000_3, .slice none 0 0]) ?_ 0 _ rfl; (with_reducible repeat (first | refine blk_drewN ?_ _ | refine blk_drew ?_ | refine blk_alloc ?_ _)); refine blk_far ?_ NB189_200.out _; (with_reducible repeat (first | refine blk_drewN ?_ _ | refine blk_drew ?_ | refine blk_alloc ?_ _)); exact BK189.out) Try.underlying31 rfl (by kernel_rfl)) rfl ?_
             exact ⟨_, zre, by (with_reducible repeat (first | apply Kd.S_alloc | apply Kd.S_drewN | apply Kd.S_drew)); exact Kd.S_mono (Kd.S_far (p := ⟨gb189, 1, none⟩) (Kd.S_far (p := ⟨gb189, 0, none⟩) (Kd.S_far (p := ⟨gb200, 2, none⟩) (Kd.S_types (Kd.S_mono HO_194001.out (fun k_ hk => (⟨hk, hk.1.2⟩ : _ ∧ k_ ≠ gb200))) BK189.out (by decide)) (fun _ hk => hk.1.2) (.slice Ao58 y219.length co58)) (fun _ hk => hk.2) (.string t190)) (fun _ hk => hk.2) (.slice Ao66 x194001_1.length co66)) (fun _ hk => trivial), by repeat (first | (with_reducible first | exact HI0.out | apply IsS78.alloc | apply IsS78.drewN | apply IsS78.drew | apply IsS78.set_1 | apply IsS78.set_2 | refine IsS78.far ?_ NB0_189.out _ | refine IsS78.far ?_ NB0_193.out _ | refine IsS78.far ?_ NB0_200.out _) | exact HI0.out), by repeat (first | (with_reducible first | exact HB.out | apply below_alloc | apply pw_below_drewN | apply below_drew1 | refine below_set ?_ (IsS78.ge HI0.out) | refine below_set ?_ GE189.out | refine below_set ?_ GE193.out | refine below_set ?_ GE200.out) | exact HB.out), by repeat (first | (with_reducible first | exact HK.out | apply KeepBut.set_ | apply keep_drewN | apply keep_drew | apply keep_alloc | refine keep_far ?_ GW189.out _ | refine keep_far ?_ GW193.out _ | refine keep_far ?_ GW200.out _) | exact HK.out)⟩
            ·replace c51 := Bool.eq_false_iff.mpr c51
             subst c51
             have H1 : (impl_docReader_doc.l2 k3 t194 x11_1 t210 (wrap64 (x35_3 + 1)) s0_0 t217 false t190 x194001_1 t197 x201001_2 y219) = some (r1, r2, r3, r4) := by rw [if_neg (show ¬ (false = true) by decide)] at H; exact H
             clear H
             have H := H1
             clear H1
             have H' := Aside0.mk H
             clear H
             go_wp2_with (first | ((with_reducible refine gate_callee (f := 73) rfl ?_); refine goesL_ (some 38) rfl rfl Try.func73 (by kernel_rfl) rfl #[.pointer (some ⟨g, 0, none⟩), .int .i64 2000000000000] rfl zar ?_; (with_reducible refine (impl_docReader_int.calls k3 g s0_0 x1001_3 x1002_3 2000000000000 t216 t217 false w0 _ ?side1 ?side2 A48.out).mono ?_); (case side1 => repeat (first | (with_reducible first | exact HI0.out | apply IsS78.alloc | apply IsS78.drewN | apply IsS78.drew | apply IsS78.set_1 | apply IsS78.set_2 | refine IsS78.far ?_ NB0_189.out _ | refine IsS78.far ?_ NB0_193.out _ | refine IsS78.far ?_ NB0_200.out _) | exact HI0.out)); (case side2 => repeat (first | (with_reducible first | exact HB.out | apply below_alloc | apply pw_below_drewN | apply below_drew1 | refine below_set ?_ (IsS78.ge HI0.out) | refine below_set ?_ GE189.out | refine below_set ?_ GE193.out | refine below_set ?_ GE200.out) | exact HB.out)); rintro e w67 ⟨rfl, hi, hb, hk⟩; refine ⟨_, rfl, ?_⟩; have n0_ := Aside0.mk (Kd.S_mono (Kd.S_keep (IsS78.apartS (show IsS78 w0 _ g s0_0 x1001_3 x1002_3 from by repeat (first | (with_reducible first | exact HI0.out | apply IsS78.alloc | apply IsS78.drewN | apply IsS78.drew | apply IsS78.set_1 | apply IsS78.set_2 | refine IsS78.far ?_ NB0_189.out _ | refine IsS78.far ?_ NB0_193.out _ | refine IsS78.far ?_ NB0_200.out _) | exact HI0.out)) (zs HO_194001) (by decide)) hk (fun _ h => h.2)) (fun _ h => h.1)); have n1_ := Aside0.mk (Kd.R_mono (Kd.R_keep (IsS78.apart (show IsS78 w0 _ g s0_0 x1001_3 x1002_3 from by repeat (first | (with_reducible first | exact HI0.out | apply IsS78.alloc | apply IsS78.drewN | apply IsS78.drew | apply IsS78.set_1 | apply IsS78.set_2 | refine IsS78.far ?_ NB0_189.out _ | refine IsS78.far ?_ NB0_193.out _ | refine IsS78.far ?_ NB0_200.out _) | exact HI0.out)) (zr HO_201001) (by decide)) hk (fun _ h => h.2)) (fun _ h => h.1)); have n2_ := Aside0.mk (Kd.R_mono (Kd.R_keep (IsS78.apart (show IsS78 w0 _ g s0_0 x1001_3 x1002_3 from by repeat (first | (with_reducible first | exact HI0.out | apply IsS78.alloc | apply IsS78.drewN | apply IsS78.drew | apply IsS78.set_1 | apply IsS78.set_2 | refine IsS78.far ?_ NB0_189.out _ | refine IsS78.far ?_ NB0_193.out _ | refine IsS78.far ?_ NB0_200.out _) | exact HI0.out)) (zr HO_201002) (by decide)) hk (fun _ h => h.2)) (fun _ h => h.1)); have n3_ := Aside0.mk (KeepBut.blk hk (g' := gb189) (o := .cells #[.string x190000_3, .slice none 0 0] 31 (0, 0)) (zb BK189) NB189_0.out (by simp)); have n4_ := Aside0.mk (KeepBut.blk hk (g' := gb193) (o := .cells #[.string t190, u194001] 31 (0, 0)) (zb BK193) NB193_0.out (by simp)); have n5_ := Aside0.mk (KeepBut.blk hk (g' := gb200) (o := .cells #[.string t197, u201001, u201002] 66 (0, 0)) (zb BK200) NB200_0.out (by simp)); have n6_ := Aside0.mk (KeepBut.trans (by repeat (first | (with_reducible first | exact HK.out | apply KeepBut.set_ | apply keep_drewN | apply keep_drew | apply keep_alloc | refine keep_far ?_ GW189.out _ | refine keep_far ?_ GW193.out _ | refine keep_far ?_ GW200.out _) | exact HK.out)) hk (.inl rfl)); have n7_ := Aside0.mk (hb); have n8_ := Aside0.mk (hi); clear HO_194001; clear HO_201001; clear HO_201002; clear BK189; clear BK193; clear BK200; clear HK; clear HB; clear HI0; have HO_194001 := n0_; have HO_201001 := n1_; have HO_201002 := n2_; have BK189 := n3_; have BK193 := n4_; have BK200 := n5_; have HK := n6_; have HB := n7_; have HI0 := n8_; clear n0_ n1_ n2_ n3_ n4_ n5_ n6_ n7_ n8_; (try clear hb); (try clear hb2); (try clear hk); (try clear hi); have hnb68 := NB200_189.out; have hnc68 := NB189_200.out; have hnb69 := NB200_193.out; have hnc69 := NB193_200.out; have hnb70 := NB200_0.out; have hnc70 := NB0_200.out; have hcz71_0 : w67.cell? ⟨gb200, 0, none⟩ = some (.string t197) := (blk_cell BK200.out 0).trans rfl; have hcz71_1 : w67.cell? ⟨gb200, 1, none⟩ = some (u201001) := (blk_cell BK200.out 1).trans rfl; have hcz71_2 : w67.cell? ⟨gb200, 2, none⟩ = some (u201002) := (blk_cell BK200.out 2).trans rfl; have hfz71_0 := blk_frozen BK200.out 0; have hfz71_1 := blk_frozen BK200.out 1; have hfz71_2 := blk_frozen BK200.out 2) | ((with_reducible refine gate_builtin (b := .append) (xs := #[.tmp 46, .tmp 49]) rfl ?_); at_builtin; refine Kd.R_append (Kd.int .i64) w.heap.size rfl (.tmp 46) (.tmp 49) 52 3 (.int .i64 0) 8 rfl Try.underlying52 info3 rfl (by decide) (by omega) u201002 x201002_3 (wrap64 (Int.tdiv (wrap64 (-(wrap64 (t216 + 1)))) 2)) [.int .i64 (wrap64 (Int.tdiv (wrap64 (-(wrap64 (t216 + 1)))) 2))] (fun _ => True) (fun _ => False) rfl rfl ?aP (fun _ hk => hk.elim) ?aF ?aO (Below.refl _ _) ?aS ?aL ?_; (case aP => exact rfl); (case aF => exact (fun _ _ => trivial)); (case aO => exact (zr HO_201002)); (case aS => exact (keep_size (w := w) (g := g) (row := none) (by repeat (first | (with_reducible first | exact HK.out | apply KeepBut.set_ | apply keep_drewN | apply keep_drew | apply keep_alloc | refine keep_far ?_ GW189.out _ | refine keep_far ?_ GW193.out _ | refine keep_far ?_ GW200.out _) | exact HK.out)))); (case aL => have := LMc50.out; omega); intro v220 w72 ho hb hg hat; rw [← Ny219.out] at ho; have n0_ := Aside0.mk (Kd.S_after (ok := (fun k_ => some k_ ≠ (u201001 : Value).ownBlock ∧ k_ ≠ gb200)) (Kd.S_mono (zs HO_194001) (fun _ hk => ⟨⟨hk.1, hk.2.2⟩, hk.2.1⟩)) hg hat); have n1_ := Aside0.mk (Kd.R_over' (zr HO_201001) (Kd.R_typed (zr HO_201002)) (by decide) hg); have n2_ := Aside0.mk (blk_grown (zb BK189) hg (Kd.R_ne HO_201002.out BK189.out (by decide))); have n3_ := Aside0.mk (blk_grown (zb BK193) hg (Kd.R_ne HO_201002.out BK193.out (by decide))); have n4_ := Aside0.mk (blk_grown (zb BK200) hg (Kd.R_ne HO_201002.out BK200.out (by decide))); have n5_ := Aside0.mk (IsS78.grown (by repeat (first | (with_reducible first | exact HI0.out | apply IsS78.alloc | apply IsS78.drewN | apply IsS78.drew | apply IsS78.set_1 | apply IsS78.set_2 | refine IsS78.far ?_ NB0_189.out _ | refine IsS78.far ?_ NB0_193.out _ | refine IsS78.far ?_ NB0_200.out _) | exact HI0.out)) hg (IsS78.own_ne HI0.out HO_201002.out (by decide))); have n6_ := Aside0.mk (below_weaken (by repeat (first | (with_reducible first | exact HB.out | apply below_alloc | apply pw_below_drewN | apply below_drew1 | refine below_set ?_ (IsS78.ge HI0.out) | refine below_set ?_ GE189.out | refine below_set ?_ GE193.out | refine below_set ?_ GE200.out) | exact HB.out)) HL.out hb); have n7_ := Aside0.mk (KeepBut.trans (by repeat (first | (with_reducible first | exact HK.out | apply KeepBut.set_ | apply keep_drewN | apply keep_drew | apply keep_alloc | refine keep_far ?_ GW189.out _ | refine keep_far ?_ GW193.out _ | refine keep_far ?_ GW200.out _) | exact HK.out)) (KeepBut.of_grown hg g) (Kd.R_base2 HO_201002.out)); have n8_ := Aside0.mk (ho); clear HO_194001; clear HO_201001; clear BK189; clear BK193; clear BK200; clear HI0; clear HB; clear HK; clear HO_201002; have HO_194001 := n0_; have HO_201001 := n1_; have BK189 := n2_; have BK193 := n3_; have BK200 := n4_; have HI0 := n5_; have HB := n6_; have HK := n7_; have HO221 := n8_; clear n0_ n1_ n2_ n3_ n4_ n5_ n6_ n7_ n8_; clear ho hb hg hat; obtain ⟨Ao73, co73, eo73⟩ := Kd.R_slice HO221.out; subst eo73; have hcz74_0 : w72.cell? ⟨gb200, 0, none⟩ = some (.string t197) := (blk_cell BK200.out 0).trans rfl; have hcz74_1 : w72.cell? ⟨gb200, 1, none⟩ = some (u201001) := (blk_cell BK200.out 1).trans rfl; have hcz74_2 : w72.cell? ⟨gb200, 2, none⟩ = some (u201002) := (blk_cell BK200.out 2).trans rfl; have hfz74_0 := blk_frozen BK200.out 0; have hfz74_1 := blk_frozen BK200.out 1; have hfz74_2 := blk_frozen BK200.out 2; obtain ⟨ASz75_0, cSz75_0, HGz75, hgz75, HSz75_0⟩ := HI0.out; have hcz75_0 := cellS78_0 HGz75; have hcz75_1 := cellS78_1 HGz75; have hcz75_2 := cellS78_2 HGz75; have hfz75_1 := blk_frozen HGz75 1; have hfz75_2 := blk_frozen HGz75 2; clear HGz75 hgz75))
             go_roundg k3
             case measure => have := HK1.out; have := HK2.out; have := HK3.out; omega
             case rel => exact ⟨(wrap64 (x35_3 + 1)), (t217), (false), (x190000_3), (y219), (.slice Ao73 y219.length co73), (by first | rfl | (simp; done) | (simp [*]; done)), H', ⟨by have := HK1.out; have := HK2.out; have := HK3.out; omega⟩, ⟨by (with_reducible repeat (first | apply Kd.S_alloc | apply Kd.S_drewN | apply Kd.S_drew)); exact Kd.S_mono (Kd.S_far (p := ⟨gb200, 2, none⟩) (Kd.S_mono HO_194001.out (fun k_ hk => (⟨hk, hk.1.2⟩ : _ ∧ k_ ≠ gb200))) (fun _ hk => hk.2) (.slice Ao73 y219.length co73)) (fun _ hk => ⟨hk.1.1.1, ⟨hk.1.2, hk.1.1.2⟩⟩)⟩, ⟨by (with_reducible repeat (first | apply Kd.R_alloc | apply Kd.R_drewN | apply Kd.R_drew)); exact Kd.R_mono (Kd.R_far (p := ⟨gb200, 2, none⟩) (Kd.R_types HO_201001.out BK200.out (by decide)) (fun _ hk => hk.2) (.slice Ao73 y219.length co73)) (fun _ hk => trivial)⟩, ⟨by (with_reducible repeat (first | apply Kd.R_alloc | apply Kd.R_drewN | apply Kd.R_drew)); exact Kd.R_mono (Kd.R_far (p := ⟨gb200, 2, none⟩) (Kd.R_types HO221.out BK200.out (by decide)) (fun _ hk => hk.2) (.slice Ao73 y219.length co73)) (fun _ hk => trivial)⟩, ⟨by (with_reducible repeat (first | refine blk_drewN ?_ _ | refine blk_drew ?_ | refine blk_alloc ?_ _)); refine blk_far ?_ NB189_200.out _; (with_reducible repeat (first | refine blk_drewN ?_ _ | refine blk_drew ?_ | refine blk_alloc ?_ _)); exact BK189.out⟩, ⟨by (with_reducible repeat (first | refine blk_drewN ?_ _ | refine blk_drew ?_ | refine blk_alloc ?_ _)); refine blk_far ?_ NB193_200.out _; (with_reducible repeat (first | refine blk_drewN ?_ _ | refine blk_drew ?_ | refine blk_alloc ?_ _)); exact BK193.out⟩, ⟨by (with_reducible repeat (first | refine blk_drewN ?_ _ | refine blk_drew ?_ | refine blk_alloc ?_ _)); refine blk_put (cs := #[.string t197, u201001, u201002]) ?_ 2 _ rfl; (with_reducible repeat (first | refine blk_drewN ?_ _ | refine blk_drew ?_ | refine blk_alloc ?_ _)); exact BK200.out⟩, ⟨by repeat (first | (with_reducible first | exact HI0.out | apply IsS78.alloc | apply IsS78.drewN | apply IsS78.drew | apply IsS78.set_1 | apply IsS78.set_2 | refine IsS78.far ?_ NB0_189.out _ | refine IsS78.far ?_ NB0_193.out _ | refine IsS78.far ?_ NB0_200.out _) | exact HI0.out)⟩, ⟨by repeat (first | (with_reducible first | exact HK.out | apply KeepBut.set_ | apply keep_drewN | apply keep_drew | apply keep_alloc | refine keep_far ?_ GW189.out _ | refine keep_far ?_ GW193.out _ | refine keep_far ?_ GW200.out _) | exact HK.out)⟩, ⟨by repeat (first | (with_reducible first | exact HB.out | apply below_alloc | apply pw_below_drewN | apply below_drew1 | refine below_set ?_ (IsS78.ge HI0.out) | refine below_set ?_ GE189.out | refine below_set ?_ GE193.out | refine below_set ?_ GE200.out) | exact HB.out)⟩⟩
           ·rw [if_neg c50] at H
            exact absurd H (by simp)
          ·rw [if_neg c49] at H
           have c49b0 : ((Int.tmod t216 2) == 1) = false := beq_eq_false_iff_ne.mpr c49
           have c49b1 : ((Int.tmod t216 2) != 1) = true := bne_iff_ne.mpr c49
           by_cases c76 : x201002_3.length < 17592186044416
           ·rw [if_pos c76] at H
            have LMc76 := Aside0.mk c76
            clear c76
            obtain ⟨y222, hy222⟩ : ∃ y_ : List Int, y_ = (x201002_3 ++ [wrap64 (Int.tdiv t216 2)]) := ⟨_, rfl⟩
            replace H : (if t218 = true then (some (t190, x194001_1, t217, t218)) else (impl_docReader_doc.l2 k3 t194 x11_1 t210 (wrap64 (x35_3 + 1)) s0_0 t217 t218 t190 x194001_1 t197 x201001_2 y222)) = some (r1, r2, r3, r4) := by first | (rw [hy222]; with_reducible exact H) | (have H2_ := (Option.bind_some _ _).symm.trans H; rw [hy222]; with_reducible exact H2_) | (have H2_ := (Option.bind_some _ _).symm.trans H; with_reducible exact H2_) | with_reducible exact H | (rw [hy222]; exact H) | exact H
            have Ny222 := Aside0.mk hy222
            clear hy222
            by_cases c77 : t218 = true
            ·subst c77
             have H1 : (some (t190, x194001_1, t217, true)) = some (r1, r2, r3, r4) := by rw [if_pos rfl] at H; exact H
             clear H
             have H := H1
             clear H1
             simp only [Option.some.injEq, Prod.mk.injEq] at H
             obtain ⟨rfl, rfl, rfl, rfl⟩ := H
             go_wp2_with (first | ((with_reducible refine gate_callee (f := 73) rfl ?_); refine goesL_ (some 38) rfl rfl Try.func73 (by kernel_rfl) rfl #[.pointer (some ⟨g, 0, none⟩), .int .i64 2000000000000] rfl zar ?_; (with_reducible refine (impl_docReader_int.calls k3 g s0_0 x1001_3 x1002_3 2000000000000 t216 t217 true w0 _ ?side1 ?side2 A48.out).mono ?_); (case side1 => repeat (first | (with_reducible first | exact HI0.out | apply IsS78.alloc | apply IsS78.drewN | apply IsS78.drew | apply IsS78.set_1 | apply IsS78.set_2 | refine IsS78.far ?_ NB0_189.out _ | refine IsS78.far ?_ NB0_193.out _ | refine IsS78.far ?_ NB0_200.out _) | exact HI0.out)); (case side2 => repeat (first | (with_reducible first | exact HB.out | apply below_alloc | apply pw_below_drewN | apply below_drew1 | refine below_set ?_ (IsS78.ge HI0.out) | refine below_set ?_ GE189.out | refine below_set ?_ GE193.out | refine below_set ?_ GE200.out) | exact HB.out)); rintro e w78 ⟨rfl, hi, hb, hk⟩; refine ⟨_, rfl, ?_⟩; have n0_ := Aside0.mk (Kd.S_mono (Kd.S_keep (IsS78.apartS (show IsS78 w0 _ g s0_0 x1001_3 x1002_3 from by repeat (first | (with_reducible first | exact HI0.out | apply IsS78.alloc | apply IsS78.drewN | apply IsS78.drew | apply IsS78.set_1 | apply IsS78.set_2 | refine IsS78.far ?_ NB0_189.out _ | refine IsS78.far ?_ NB0_193.out _ | refine IsS78.far ?_ NB0_200.out _) | exact HI0.out)) (zs HO_194001) (by decide)) hk (fun _ h => h.2)) (fun _ h => h.1)); have n1_ := Aside0.mk (Kd.R_mono (Kd.R_keep (IsS78.apart (show IsS78 w0 _ g s0_0 x1001_3 x1002_3 from by repeat (first | (with_reducible first | exact HI0.out | apply IsS78.alloc | apply IsS78.drewN | apply IsS78.drew | apply IsS78.set_1 | apply IsS78.set_2 | refine IsS78.far ?_ NB0_189.out _ | refine IsS78.far ?_ NB0_193.out _ | refine IsS78.far ?_ NB0_200.out _) | exact HI0.out)) (zr HO_201001) (by decide)) hk (fun _ h => h.2)) (fun _ h => h.1)); have n2_ := Aside0.mk (Kd.R_mono (Kd.R_keep (IsS78.apart (show IsS78 w0 _ g s0_0 x1001_3 x1002_3 from by repeat (first | (with_reducible first | exact HI0.out | apply IsS78.alloc | apply IsS78.drewN | apply IsS78.drew | apply IsS78.set_1 | apply IsS78.set_2 | refine IsS78.far ?_ NB0_189.out _ | refine IsS78.far ?_ NB0_193.out _ | refine IsS78.far ?_ NB0_200.out _) | exact HI0.out)) (zr HO_201002) (by decide)) hk (fun _ h => h.2)) (fun _ h => h.1)); have n3_ := Aside0.mk (KeepBut.blk hk (g' := gb189) (o := .cells #[.string x190000_3, .slice none 0 0] 31 (0, 0)) (zb BK189) NB189_0.out (by simp)); have n4_ := Aside0.mk (KeepBut.blk hk (g' := gb193) (o := .cells #[.string t190, u194001] 31 (0, 0)) (zb BK193) NB193_0.out (by simp)); have n5_ := Aside0.mk (KeepBut.blk hk (g' := gb200) (o := .cells #[.string t197, u201001, u201002] 66 (0, 0)) (zb BK200) NB200_0.out (by simp)); have n6_ := Aside0.mk (KeepBut.trans (by repeat (first | (with_reducible first | exact HK.out | apply KeepBut.set_ | apply keep_drewN | apply keep_drew | apply keep_alloc | refine keep_far ?_ GW189.out _ | refine keep_far ?_ GW193.out _ | refine keep_far ?_ GW200.out _) | exact HK.out)) hk (.inl rfl)); have n7_ := Aside0.mk (hb); have n8_ := Aside0.mk (hi); clear HO_194001; clear HO_201001; clear HO_201002; clear BK189; clear BK193; clear BK200; clear HK; clear HB; clear HI0; have HO_194001 := n0_; have HO_201001 := n1_; have HO_201002 := n2_; have BK189 := n3_; have BK193 := n4_; have BK200 := n5_; have HK := n6_; have HB := n7_; have HI0 := n8_; clear n0_ n1_ n2_ n3_ n4_ n5_ n6_ n7_ n8_; (try clear hb); (try clear hb2); (try clear hk); (try clear hi); have hnb79 := NB200_189.out; have hnc79 := NB189_200.out; have hnb80 := NB200_193.out; have hnc80 := NB193_200.out; have hnb81 := NB200_0.out; have hnc81 := NB0_200.out; have hcz82_0 : w78.cell? ⟨gb200, 0, none⟩ = some (.string t197) := (blk_cell BK200.out 0).trans rfl; have hcz82_1 : w78.cell? ⟨gb200, 1, none⟩ = some (u201001) := (blk_cell BK200.out 1).trans rfl; have hcz82_2 : w78.cell? ⟨gb200, 2, none⟩ = some (u201002) := (blk_cell BK200.out 2).trans rfl; have hfz82_0 := blk_frozen BK200.out 0; have hfz82_1 := blk_frozen BK200.out 1; have hfz82_2 := blk_frozen BK200.out 2) | ((with_reducible refine gate_builtin (b := .append) (xs := #[.tmp 46, .tmp 49]) rfl ?_); at_builtin; refine Kd.R_append (Kd.int .i64) w.heap.size rfl (.tmp 46) (.tmp 49) 52 3 (.int .i64 0) 8 rfl Try.underlying52 info3 rfl (by decide) (by omega) u201002 x201002_3 (wrap64 (Int.tdiv t216 2)) [.int .i64 (wrap64 (Int.tdiv t216 2))] (fun _ => True) (fun _ => False) rfl rfl ?aP (fun _ hk => hk.elim) ?aF ?aO (Below.refl _ _) ?aS ?aL ?_; (case aP => exact rfl); (case aF => exact (fun _ _ => trivial)); (case aO => exact (zr HO_201002)); (case aS => exact (keep_size (w := w) (g := g) (row := none) (by repeat (first | (with_reducible first | exact HK.out | apply KeepBut.set_ | apply keep_drewN | apply keep_drew | apply keep_alloc | refine keep_far ?_ GW189.out _ | refine keep_far ?_ GW193.out _ | refine keep_far ?_ GW200.out _) | exact HK.out)))); (case aL => have := LMc76.out; omega); intro v223 w83 ho hb hg hat; rw [← Ny222.out] at ho; have n0_ := Aside0.mk (Kd.S_after (ok := (fun k_ => some k_ ≠ (u201001 : Value).ownBlock ∧ k_ ≠ gb200)) (Kd.S_mono (zs HO_194001) (fun _ hk => ⟨⟨hk.1, hk.2.2⟩, hk.2.1⟩)) hg hat); have n1_ := Aside0.mk (Kd.R_over' (zr HO_201001) (Kd.R_typed (zr HO_201002)) (by decide) hg); have n2_ := Aside0.mk (blk_grown (zb BK189) hg (Kd.R_ne HO_201002.out BK189.out (by decide))); have n3_ := Aside0.mk (blk_grown (zb BK193) hg (Kd.R_ne HO_201002.out BK193.out (by decide))); have n4_ := Aside0.mk (blk_grown (zb BK200) hg (Kd.R_ne HO_201002.out BK200.out (by decide))); have n5_ := Aside0.mk (IsS78.grown (by repeat (first | (with_reducible first | exact HI0.out | apply IsS78.alloc | apply IsS78.drewN | apply IsS78.drew | apply IsS78.set_1 | apply IsS78.set_2 | refine IsS78.far ?_ NB0_189.out _ | refine IsS78.far ?_ NB0_193.out _ | refine IsS78.far ?_ NB0_200.out _) | exact HI0.out)) hg (IsS78.own_ne HI0.out HO_201002.out (by decide))); have n6_ := Aside0.mk (below_weaken (by repeat (first | (with_reducible first | exact HB.out | apply below_alloc | apply pw_below_drewN | apply below_drew1 | refine below_set ?_ (IsS78.ge HI0.out) | refine below_set ?_ GE189.out | refine below_set ?_ GE193.out | refine below_set ?_ GE200.out) | exact HB.out)) HL.out hb); have n7_ := Aside0.mk (KeepBut.trans (by repeat (first | (with_reducible first | exact HK.out | apply KeepBut.set_ | apply keep_drewN | apply keep_drew | apply keep_alloc | refine keep_far ?_ GW189.out _ | refine keep_far ?_ GW193.out _ | refine keep_far ?_ GW200.out _) | exact HK.out)) (KeepBut.of_grown hg g) (Kd.R_base2 HO_201002.out)); have n8_ := Aside0.mk (ho); clear HO_194001; clear HO_201001; clear BK189; clear BK193; clear BK200; clear HI0; clear HB; clear HK; clear HO_201002; have HO_194001 := n0_; have HO_201001 := n1_; have BK189 := n2_; have BK193 := n3_; have BK200 := n4_; have HI0 := n5_; have HB := n6_; have HK := n7_; have HO224 := n8_; clear n0_ n1_ n2_ n3_ n4_ n5_ n6_ n7_ n8_; clear ho hb hg hat; obtain ⟨Ao84, co84, eo84⟩ := Kd.R_slice HO224.out; subst eo84; have hcz85_0 : w83.cell? ⟨gb200, 0, none⟩ = some (.string t197) := (blk_cell BK200.out 0).trans rfl; have hcz85_1 : w83.cell? ⟨gb200, 1, none⟩ = some (u201001) := (blk_cell BK200.out 1).trans rfl; have hcz85_2 : w83.cell? ⟨gb200, 2, none⟩ = some (u201002) := (blk_cell BK200.out 2).trans rfl; have hfz85_0 := blk_frozen BK200.out 0; have hfz85_1 := blk_frozen BK200.out 1; have hfz85_2 := blk_frozen BK200.out 2; obtain ⟨ASz86_0, cSz86_0, HGz86, hgz86, HSz86_0⟩ := HI0.out; have hcz86_0 := cellS78_0 HGz86; have hcz86_1 := cellS78_1 HGz86; have hcz86_2 := cellS78_2 HGz86; have hfz86_1 := blk_frozen HGz86 1; have hfz86_2 := blk_frozen HGz86 2; clear HGz86 hgz86; have hnb87 := NB193_189.out; have hnc87 := NB189_193.out; have hnb88 := NB193_0.out; have hnc88 := NB0_193.out; have hcz89_0 : w83.cell? ⟨gb193, 0, none⟩ = some (.string t190) := (blk_cell BK193.out 0).trans rfl; have hcz89_1 : w83.cell? ⟨gb193, 1, none⟩ = some (u194001) := (blk_cell BK193.out 1).trans rfl; have hfz89_0 := blk_frozen BK193.out 0; have hfz89_1 := blk_frozen BK193.out 1; have hnb90 := NB189_0.out; have hnc90 := NB0_189.out; have hcz91_0 : w83.cell? ⟨gb189, 0, none⟩ = some (.string x190000_3) := (blk_cell BK189.out 0).trans rfl; have hcz91_1 : w83.cell? ⟨gb189, 1, none⟩ = some (.slice none 0 0) := (blk_cell BK189.out 1).trans rfl; have hfz91_0 := blk_frozen BK189.out 0; have hfz91_1 := blk_frozen BK189.out 1; obtain ⟨Ao92, co92, eo92⟩ := Kd.S_slice HO_194001.out; subst eo92))
             refine bodyPost_ret (results_cell_row rfl _ _ gb189 31 #[.string t190, .slice Ao92 x194001_1.length co92] (0, 0) _ rfl (by (with_reducible repeat (first | refine blk_drewN ?_ _ | refine blk_drew ?_ | refine blk_alloc ?_ _)); refine blk_put (cs := #[.string t190, .slice none 0 0]) ?_ 1 _ rfl; (with_reducible repeat (first | refine blk_drewN ?_ _ | refine blk_drew ?_ | refine blk_alloc ?_ _)); refine blk_put (cs := #[.string x190000_3, .slice none 0 0]) ?_ 0 _ rfl; (with_reducible repeat (first | refine blk_drewN ?_ _ | refine blk_drew ?_ | refine blk_alloc ?_ _)); refine blk_far ?_ NB189_200.out _; (with_reducible repeat (first | refine blk_drewN ?_ _ | refine blk_drew ?_ | refine blk_alloc ?_ _)); exact BK189.out) Try.underlying31 rfl (by kernel_rfl)) rfl ?_
             exact ⟨_, zre, by (with_reducible repeat (first | apply Kd.S_alloc | apply Kd.S_drewN | apply Kd.S_drew)); exact Kd.S_mono (Kd.S_far (p := ⟨gb189, 1, none⟩) (Kd.S_far (p := ⟨gb189, 0, none⟩) (Kd.S_far (p := ⟨gb200, 2, none⟩) (Kd.S_types (Kd.S_mono HO_194001.out (fun k_ hk => (⟨hk, hk.1.2⟩ : _ ∧ k_ ≠ gb200))) BK189.out (by decide)) (fun _ hk => hk.1.2) (.slice Ao84 y222.length co84)) (fun _ hk => hk.2) (.string t190)) (fun _ hk => hk.2) (.slice Ao92 x194001_1.length co92)) (fun _ hk => trivial), by repeat (first | (with_reducible first | exact HI0.out | apply IsS78.alloc | apply IsS78.drewN | apply IsS78.drew | apply IsS78.set_1 | apply IsS78.set_2 | refine IsS78.far ?_ NB0_189.out _ | refine IsS78.far ?_ NB0_193.out _ | refine IsS78.far ?_ NB0_200.out _) | exact HI0.out), by repeat (first | (with_reducible first | exact HB.out | apply below_alloc | apply pw_below_drewN | apply below_drew1 | refine below_set ?_ (IsS78.ge HI0.out) | refine below_set ?_ GE189.out | refine below_set ?_ GE193.out | refine below_set ?_ GE200.out) | exact HB.out), by repeat (first | (with_reducible first | exact HK.out | apply KeepBut.set_ | apply keep_drewN | apply keep_drew | apply keep_alloc | refine keep_far ?_ GW189.out _ | refine keep_far ?_ GW193.out _ | refine keep_far ?_ GW200.out _) | exact HK.out)⟩
            ·replace c77 := Bool.eq_false_iff.mpr c77
             subst c77
             have H1 : (impl_docReader_doc.l2 k3 t194 x11_1 t210 (wrap64 (x35_3 + 1)) s0_0 t217 false t190 x194001_1 t197 x201001_2 y222) = some (r1, r2, r3, r4) := by rw [if_neg (show ¬ (false = true) by decide)] at H; exact H
             clear H
             have H := H1
             clear H1
             have H' := Aside0.mk H
             clear H
             go_wp2_with (first | ((with_reducible refine gate_callee (f := 73) rfl ?_); refine goesL_ (some 38) rfl rfl Try.func73 (by kernel_rfl) rfl #[.pointer (some ⟨g, 0, none⟩), .int .i64 2000000000000] rfl zar ?_; (with_reducible refine (impl_docReader_int.calls k3 g s0_0 x1001_3 x1002_3 2000000000000 t216 t217 false w0 _ ?side1 ?side2 A48.out).mono ?_); (case side1 => repeat (first | (with_reducible first | exact HI0.out | apply IsS78.alloc | apply IsS78.drewN | apply IsS78.drew | apply IsS78.set_1 | apply IsS78.set_2 | refine IsS78.far ?_ NB0_189.out _ | refine IsS78.far ?_ NB0_193.out _ | refine IsS78.far ?_ NB0_200.out _) | exact HI0.out)); (case side2 => repeat (first | (with_reducible first | exact HB.out | apply below_alloc | apply pw_below_drewN | apply below_drew1 | refine below_set ?_ (IsS78.ge HI0.out) | refine below_set ?_ GE189.out | refine below_set ?_ GE193.out | refine below_set ?_ GE200.out) | exact HB.out)); rintro e w93 ⟨rfl, hi, hb, hk⟩; refine ⟨_, rfl, ?_⟩; have n0_ := Aside0.mk (Kd.S_mono (Kd.S_keep (IsS78.apartS (show IsS78 w0 _ g s0_0 x1001_3 x1002_3 from by repeat (first | (with_reducible first | exact HI0.out | apply IsS78.alloc | apply IsS78.drewN | apply IsS78.drew | apply IsS78.set_1 | apply IsS78.set_2 | refine IsS78.far ?_ NB0_189.out _ | refine IsS78.far ?_ NB0_193.out _ | refine IsS78.far ?_ NB0_200.out _) | exact HI0.out)) (zs HO_194001) (by decide)) hk (fun _ h => h.2)) (fun _ h => h.1)); have n1_ := Aside0.mk (Kd.R_mono (Kd.R_keep (IsS78.apart (show IsS78 w0 _ g s0_0 x1001_3 x1002_3 from by repeat (first | (with_reducible first | exact HI0.out | apply IsS78.alloc | apply IsS78.drewN | apply IsS78.drew | apply IsS78.set_1 | apply IsS78.set_2 | refine IsS78.far ?_ NB0_189.out _ | refine IsS78.far ?_ NB0_193.out _ | refine IsS78.far ?_ NB0_200.out _) | exact HI0.out)) (zr HO_201001) (by decide)) hk (fun _ h => h.2)) (fun _ h => h.1)); have n2_ := Aside0.mk (Kd.R_mono (Kd.R_keep (IsS78.apart (show IsS78 w0 _ g s0_0 x1001_3 x1002_3 from by repeat (first | (with_reducible first | exact HI0.out | apply IsS78.alloc | apply IsS78.drewN | apply IsS78.drew | apply IsS78.set_1 | apply IsS78.set_2 | refine IsS78.far ?_ NB0_189.out _ | refine IsS78.far ?_ NB0_193.out _ | refine IsS78.far ?_ NB0_200.out _) | exact HI0.out)) (zr HO_201002) (by decide)) hk (fun _ h => h.2)) (fun _ h => h.1)); have n3_ := Aside0.mk (KeepBut.blk hk (g' := gb189) (o := .cells #[.string x190000_3, .slice none 0 0] 31 (0, 0)) (zb BK189) NB189_0.out (by simp)); have n4_ := Aside0.mk (KeepBut.blk hk (g' := gb193) (o := .cells #[.string t190, u194001] 31 (0, 0)) (zb BK193) NB193_0.out (by simp)); have n5_ := Aside0.mk (KeepBut.blk hk (g' := gb200) (o := .cells #[.string t197, u201001, u201002] 66 (0, 0)) (zb BK200) NB200_0.out (by simp)); have n6_ := Aside0.mk (KeepBut.trans (by repeat (first | (with_reducible first | exact HK.out | apply KeepBut.set_ | apply keep_drewN | apply keep_drew | apply keep_alloc | refine keep_far ?_ GW189.out _ | refine keep_far ?_ GW193.out _ | refine keep_far ?_ GW200.out _) | exact HK.out)) hk (.inl rfl)); have n7_ := Aside0.mk (hb); have n8_ := Aside0.mk (hi); clear HO_194001; clear HO_201001; clear HO_201002; clear BK189; clear BK193; clear BK200; clear HK; clear HB; clear HI0; have HO_194001 := n0_; have HO_201001 := n1_; have HO_201002 := n2_; have BK189 := n3_; have BK193 := n4_; have BK200 := n5_; have HK := n6_; have HB := n7_; have HI0 := n8_; clear n0_ n1_ n2_ n3_ n4_ n5_ n6_ n7_ n8_; (try clear hb); (try clear hb2); (try clear hk); (try clear hi); have hnb94 := NB200_189.out; have hnc94 := NB189_200.out; have hnb95 := NB200_193.out; have hnc95 := NB193_200.out; have hnb96 := NB200_0.out; have hnc96 := NB0_200.out; have hcz97_0 : w93.cell? ⟨gb200, 0, none⟩ = some (.string t197) := (blk_cell BK200.out 0).trans rfl; have hcz97_1 : w93.cell? ⟨gb200, 1, none⟩ = some (u201001) := (blk_cell BK200.out 1).trans rfl; have hcz97_2 : w93.cell? ⟨gb200, 2, none⟩ = some (u201002) := (blk_cell BK200.out 2).trans rfl; have hfz97_0 := blk_frozen BK200.out 0; have hfz97_1 := blk_frozen BK200.out 1; have hfz97_2 := blk_frozen BK200.out 2) | ((with_reducible refine gate_builtin (b := .append) (xs := #[.tmp 46, .tmp 49]) rfl ?_); at_builtin; refine Kd.R_append (Kd.int .i64) w.heap.size rfl (.tmp 46) (.tmp 49) 52 3 (.int .i64 0) 8 rfl Try.underlying52 info3 rfl (by decide) (by omega) u201002 x201002_3 (wrap64 (Int.tdiv t216 2)) [.int .i64 (wrap64 (Int.tdiv t216 2))] (fun _ => True) (fun _ => False) rfl rfl ?aP (fun _ hk => hk.elim) ?aF ?aO (Below.refl _ _) ?aS ?aL ?_; (case aP => exact rfl); (case aF => exact (fun _ _ => trivial)); (case aO => exact (zr HO_201002)); (case aS => exact (keep_size (w := w) (g := g) (row := none) (by repeat (first | (with_reducible first | exact HK.out | apply KeepBut.set_ | apply keep_drewN | apply keep_drew | apply keep_alloc | refine keep_far ?_ GW189.out _ | refine keep_far ?_ GW193.out _ | refine keep_far ?_ GW200.out _) | exact HK.out)))); (case aL => have := LMc76.out; omega); intro v223 w98 ho hb hg hat; rw [← Ny222.out] at ho; have n0_ := Aside0.mk (Kd.S_after (ok := (fun k_ => some k_ ≠ (u201001 : Value).ownBlock ∧ k_ ≠ gb200)) (Kd.S_mono (zs HO_194001) (fun _ hk => ⟨⟨hk.1, hk.2.2⟩, hk.2.1⟩)) hg hat); have n1_ := Aside0.mk (Kd.R_over' (zr HO_201001) (Kd.R_typed (zr HO_201002)) (by decide) hg); have n2_ := Aside0.mk (blk_grown (zb BK189) hg (Kd.R_ne HO_201002.out BK189.out (by decide))); have n3_ := Aside0.mk (blk_grown (zb BK193) hg (Kd.R_ne HO_201002.out BK193.out (by decide))); have n4_ := Aside0.mk (blk_grown (zb BK200) hg (Kd.R_ne HO_201002.out BK200.out (by decide))); have n5_ := Aside0.mk (IsS78.grown (by repeat (first | (with_reducible first | exact HI0.out | apply IsS78.alloc | apply IsS78.drewN | apply IsS78.drew | apply IsS78.set_1 | apply IsS78.set_2 | refine IsS78.far ?_ NB0_189.out _ | refine IsS78.far ?_ NB0_193.out _ | refine IsS78.far ?_ NB0_200.out _) | exact HI0.out)) hg (IsS78.own_ne HI0.out HO_201002.out (by decide))); have n6_ := Aside0.mk (below_weaken (by repeat (first | (with_reducible first | exact HB.out | apply below_alloc | apply pw_below_drewN | apply below_drew1 | refine below_set ?_ (IsS78.ge HI0.out) | refine below_set ?_ GE189.out | refine below_set ?_ GE193.out | refine below_set ?_ GE200.out) | exact HB.out)) HL.out hb); have n7_ := Aside0.mk (KeepBut.trans (by repeat (first | (with_reducible first | exact HK.out | apply KeepBut.set_ | apply keep_drewN | apply keep_drew | apply keep_alloc | refine keep_far ?_ GW189.out _ | refine keep_far ?_ GW193.out _ | refine keep_far ?_ GW200.out _) | exact HK.out)) (KeepBut.of_grown hg g) (Kd.R_base2 HO_201002.out)); have n8_ := Aside0.mk (ho); clear HO_194001; clear HO_201001; clear BK189; clear BK193; clear BK200; clear HI0; clear HB; clear HK; clear HO_201002; have HO_194001 := n0_; have HO_201001 := n1_; have BK189 := n2_; have BK193 := n3_; have BK200 := n4_; have HI0 := n5_; have HB := n6_; have HK := n7_; have HO224 := n8_; clear n0_ n1_ n2_ n3_ n4_ n5_ n6_ n7_ n8_; clear ho hb hg hat; obtain ⟨Ao99, co99, eo99⟩ := Kd.R_slice HO224.out; subst eo99; have hcz100_0 : w98.cell? ⟨gb200, 0, none⟩ = some (.string t197) := (blk_cell BK200.out 0).trans rfl; have hcz100_1 : w98.cell? ⟨gb200, 1, none⟩ = some (u201001) := (blk_cell BK200.out 1).trans rfl; have hcz100_2 : w98.cell? ⟨gb200, 2, none⟩ = some (u201002) := (blk_cell BK200.out 2).trans rfl; have hfz100_0 := blk_frozen BK200.out 0; have hfz100_1 := blk_frozen BK200.out 1; have hfz100_2 := blk_frozen BK200.out 2; obtain ⟨ASz101_0, cSz101_0, HGz101, hgz101, HSz101_0⟩ := HI0.out; have hcz101_0 := cellS78_0 HGz101; have hcz101_1 := cellS78_1 HGz101; have hcz101_2 := cellS78_2 HGz101; have hfz101_1 := blk_frozen HGz101 1; have hfz101_2 := blk_frozen HGz101 2; clear HGz101 hgz101))
             go_roundg k3
             case measure => have := HK1.out; have := HK2.out; have := HK3.out; omega
             case rel => exact ⟨(wrap64 (x35_3 + 1)), (t217), (false), (x190000_3), (y222), (.slice Ao99 y222.length co99), (by first | rfl | (simp; done) | (simp [*]; done)), H', ⟨by have := HK1.out; have := HK2.out; have := HK3.out; omega⟩, ⟨by (with_reducible repeat (first | apply Kd.S_alloc | apply Kd.S_drewN | apply Kd.S_drew)); exact Kd.S_mono (Kd.S_far (p := ⟨gb200, 2, none⟩) (Kd.S_mono HO_194001.out (fun k_ hk => (⟨hk, hk.1.2⟩ : _ ∧ k_ ≠ gb200))) (fun _ hk => hk.2) (.slice Ao99 y222.length co99)) (fun _ hk => ⟨hk.1.1.1, ⟨hk.1.2, hk.1.1.2⟩⟩)⟩, ⟨by (with_reducible repeat (first | apply Kd.R_alloc | apply Kd.R_drewN | apply Kd.R_drew)); exact Kd.R_mono (Kd.R_far (p := ⟨gb200, 2, none⟩) (Kd.R_types HO_201001.out BK200.out (by decide)) (fun _ hk => hk.2) (.slice Ao99 y222.length co99)) (fun _ hk => trivial)⟩, ⟨by (with_reducible repeat (first | apply Kd.R_alloc | apply Kd.R_drewN | apply Kd.R_drew)); exact Kd.R_mono (Kd.R_far (p := ⟨gb200, 2, none⟩) (Kd.R_types HO224.out BK200.out (by decide)) (fun _ hk => hk.2) (.slice Ao99 y222.length co99)) (fun _ hk => trivial)⟩, ⟨by (with_reducible repeat (first | refine blk_drewN ?_ _ | refine blk_drew ?_ | refine blk_alloc ?_ _)); refine blk_far ?_ NB189_200.out _; (with_reducible repeat (first | refine blk_drewN ?_ _ | refine blk_drew ?_ | refine blk_alloc ?_ _)); exact BK189.out⟩, ⟨by (with_reducible repeat (first | refine blk_drewN ?_ _ | refine blk_drew ?_ | refine blk_alloc ?_ _)); refine blk_far ?_ NB193_200.out _; (with_reducible repeat (first | refine blk_drewN ?_ _ | refine blk_drew ?_ | refine blk_alloc ?_ _)); exact BK193.out⟩, ⟨by (with_reducible repeat (first | refine blk_drewN ?_ _ | refine blk_drew ?_ | refine blk_alloc ?_ _)); refine blk_put (cs := #[.string t197, u201001, u201002]) ?_ 2 _ rfl; (with_reducible repeat (first | refine blk_drewN ?_ _ | refine blk_drew ?_ | refine blk_alloc ?_ _)); exact BK200.out⟩, ⟨by repeat (first | (with_reducible first | exact HI0.out | apply IsS78.alloc | apply IsS78.drewN | apply IsS78.drew | apply IsS78.set_1 | apply IsS78.set_2 | refine IsS78.far ?_ NB0_189.out _ | refine IsS78.far ?_ NB0_193.out _ | refine IsS78.far ?_ NB0_200.out _) | exact HI0.out)⟩, ⟨by repeat (first | (with_reducible first | exact HK.out | apply KeepBut.set_ | apply keep_drewN | apply keep_drew | apply keep_alloc | refine keep_far ?_ GW189.out _ | refine keep_far ?_ GW193.out _ | refine keep_far ?_ GW200.out _) | exact HK.out)⟩, ⟨by repeat (first | (with_reducible first | exact HB.out | apply below_alloc | apply pw_below_drewN | apply below_drew1 | refine below_set ?_ (IsS78.ge HI0.out) | refine below_set ?_ GE189.out | refine below_set ?_ GE193.out | refine below_set ?_ GE200.out) | exact HB.out)⟩⟩
           ·rw [if_neg c76] at H
            exact absurd H (by simp)
         ·rw [if_neg c47] at H
          have c47b0 : decide (x35_3 < t210) = false := decide_eq_false c47
          clear c47
          by_cases c102 : x194001_1.length < 2199023255552
          ·rw [if_pos c102] at H
           have LMc102 := Aside0.mk c102
           clear c102
           obtain ⟨y213, hy213⟩ : ∃ y_ : List (S66), y_ = (x194001_1 ++ [(⟨t197, x201001_2, x201002_3⟩ : S66)]) := ⟨_, rfl⟩
           replace H : (if x1002_3 = true then (some (t190, y213, x1001_3, x1002_3)) else (impl_docReader_doc.l0 k3 t194 (wrap64 (x11_1 + 1)) s0_0 x1001_3 x1002_3 t190 y213)) = some (r1, r2, r3, r4) := by first | (rw [hy213]; with_reducible exact H) | (have H2_ := (Option.bind_some _ _).symm.trans H; rw [hy213]; with_reducible exact H2_) | (have H2_ := (Option.bind_some _ _).symm.trans H; with_reducible exact H2_) | with_reducible exact H | (rw [hy213]; exact H) | exact H
           have Ny213 := Aside0.mk hy213
           clear hy213
           by_cases c103 : x1002_3 = true
           ·subst c103
            have H1 : (some (t190, y213, x1001_3, true)) = some (r1, r2, r3, r4) := by rw [if_pos rfl] at H; exact H
            clear H
            have H := H1
            clear H1
            simp only [Option.some.injEq, Prod.mk.injEq] at H
            obtain ⟨rfl, rfl, rfl, rfl⟩ := H
            have hnb104 := NB193_189.out
            have hnc104 := NB189_193.out
            have hnb105 := NB193_200.out
            have hnc105 := NB200_193.out
            have hnb106 := NB193_0.out
            have hnc106 := NB0_193.out
            have hcz107_0 : wr.cell? ⟨gb193, 0, none⟩ = some (.string t190) := (blk_cell BK193.out 0).trans rfl
            have hcz107_1 : wr.cell? ⟨gb193, 1, none⟩ = some (u194001) := (blk_cell BK193.out 1).trans rfl
            have hfz107_0 := blk_frozen BK193.out 0
            have hfz107_1 := blk_frozen BK193.out 1
            have hnb108 := NB200_189.out
            have hnc108 := NB189_200.out
            have hnb109 := NB200_0.out
            have hnc109 := NB0_200.out
            have hcz110_0 : wr.cell? ⟨gb200, 0, none⟩ = some (.string t197) := (blk_cell BK200.out 0).trans rfl
            have hcz110_1 : wr.cell? ⟨gb200, 1, none⟩ = some (u201001) := (blk_cell BK200.out 1).trans rfl
            have hcz110_2 : wr.cell? ⟨gb200, 2, none⟩ = some (u201002) := (blk_cell BK200.out 2).trans rfl
            have hfz110_0 := blk_frozen BK200.out 0
            have hfz110_1 := blk_frozen BK200.out 1
            have hfz110_2 := blk_frozen BK200.out 2
            obtain ⟨Ao112, co112, eo112⟩ := Kd.R_slice HO_201001.out
            subst eo112
            obtain ⟨Ao113, co113, eo113⟩ := Kd.R_slice HO_201002.out
            subst eo113
            go_wp2_with (first | ((with_reducible refine gate_builtin (b := .append) (xs := #[.tmp 59, .tmp 61]) rfl ?_); at_builtin; refine Kd.S_append k66 w.heap.size rfl (.tmp 59) (.tmp 61) 29 66 (.agg #[(.string ⟨#[]⟩), (.slice none 0 0), (.slice none 0 0)]) 64 rfl Try.underlying29 info66 rfl (by decide) (by omega) u194001 x194001_1 (⟨t197, x201001_2, x201002_3⟩ : S66) [.string t197, .slice Ao112 x201001_2.length co112, .slice Ao113 x201002_3.length co113] (fun k_ => k_ ≠ gb200) (fun k_ => some k_ = (.slice Ao112 x201001_2.length co112 : Value).ownBlock ∨ some k_ = (.slice Ao113 x201002_3.length co113 : Value).ownBlock) rfl rfl ?aP (fun k_ hk_ => hk_.elim (fun h_ => ((Kd.R_mono (ok' := fun k_ => ((fun k_ => k_ ≠ gb200)) k_ ∧ some k_ ≠ (u194001 : Value).ownBlock) (Kd.R_types (Kd.R_apart' (HO_201001.out) (Kd.S_typed HO_194001.out) (by decide)) BK200.out (by decide)) (fun k_ hk => ⟨hk.2, hk.1.2⟩))).1 k_ h_.symm) (fun h_ => ((Kd.R_mono (ok' := fun k_ => ((fun k_ => k_ ≠ gb200)) k_ ∧ some k_ ≠ (u194001 : Value).ownBlock) (Kd.R_types (Kd.R_apart' (HO_201002.out) (Kd.S_typed HO_194001.out) (by decide)) BK200.out (by decide)) (fun k_ hk => ⟨hk.2, hk.1.2⟩))).1 k_ h_.symm)) ?aF ?aO (Below.refl _ _) ?aS ?aL ?_; (case aP => exact k66_mkM _ _ _ (⟨t197, x201001_2, x201002_3⟩ : S66) (Kd.R_mono (Kd.R_tight rfl (Kd.R_mono (ok' := fun k_ => ((fun k_ => k_ ≠ gb200)) k_ ∧ some k_ ≠ (u194001 : Value).ownBlock) (Kd.R_types (Kd.R_apart' (HO_201001.out) (Kd.S_typed HO_194001.out) (by decide)) BK200.out (by decide)) (fun k_ hk => ⟨hk.2, hk.1.2⟩))) (fun _ h_ => Or.inl h_)) (Kd.R_mono (Kd.R_tight rfl (Kd.R_mono (ok' := fun k_ => ((fun k_ => k_ ≠ gb200)) k_ ∧ some k_ ≠ (u194001 : Value).ownBlock) (Kd.R_types (Kd.R_apart' (HO_201002.out) (Kd.S_typed HO_194001.out) (by decide)) BK200.out (by decide)) (fun k_ hk => ⟨hk.2, hk.1.2⟩))) (fun _ h_ => Or.inr (h_)))); (case aF => exact (fun k_ hk => Kd.freshB (zb BK200) k_ hk)); (case aO => exact (Kd.S_mono (zs HO_194001) (fun k_ hk => ⟨hk.2.2, fun e_ => e_.elim (fun h_ => hk.1 h_) (fun h_ => hk.2.1 h_)⟩))); (case aS => exact (keep_size (w := w) (g := g) (row := none) (by repeat (first | (with_reducible first | exact HK.out | apply KeepBut.set_ | apply keep_drewN | apply keep_drew | apply keep_alloc | refine keep_far ?_ GW189.out _ | refine keep_far ?_ GW193.out _ | refine keep_far ?_ GW200.out _) | exact HK.out)))); (case aL => have := LMc102.out; omega); intro v214 w111 ho hb hg hat; rw [← Ny213.out] at ho; have n0_ := Aside0.mk (blk_grown (zb BK189) hg (Kd.S_ne HO_194001.out BK189.out (by decide))); have n1_ := Aside0.mk (blk_grown (zb BK193) hg (Kd.S_ne HO_194001.out BK193.out (by decide))); have n2_ := Aside0.mk (blk_grown (zb BK200) hg (Kd.S_away HO_194001.out (fun _ hk => hk.2.2))); have n3_ := Aside0.mk (IsS78.grown (by repeat (first | (with_reducible first | exact HI0.out | apply IsS78.alloc | apply IsS78.drewN | apply IsS78.drew | apply IsS78.set_1 | apply IsS78.set_2 | refine IsS78.far ?_ NB0_189.out _ | refine IsS78.far ?_ NB0_193.out _ | refine IsS78.far ?_ NB0_200.out _) | exact HI0.out)) hg (IsS78.own_neS HI0.out HO_194001.out (by decide))); have n4_ := Aside0.mk (below_weaken (by repeat (first | (with_reducible first | exact HB.out | apply below_alloc | apply pw_below_drewN | apply below_drew1 | refine below_set ?_ (IsS78.ge HI0.out) | refine below_set ?_ GE189.out | refine below_set ?_ GE193.out | refine below_set ?_ GE200.out) | exact HB.out)) HL.out hb); have n5_ := Aside0.mk (KeepBut.trans (by repeat (first | (with_reducible first | exact HK.out | apply KeepBut.set_ | apply keep_drewN | apply keep_drew | apply keep_alloc | refine keep_far ?_ GW189.out _ | refine keep_far ?_ GW193.out _ | refine keep_far ?_ GW200.out _) | exact HK.out)) (KeepBut.of_grown hg g) (Kd.S_base2 HO_194001.out)); have n6_ := Aside0.mk (ho); clear BK189; clear BK193; clear BK200; clear HI0; clear HB; clear HK; clear HO_194001; clear HO_201001; clear HO_201002; have BK189 := n0_; have BK193 := n1_; have BK200 := n2_; have HI0 := n3_; have HB := n4_; have HK := n5_; have HO215 := n6_; clear n0_ n1_ n2_ n3_ n4_ n5_ n6_; clear ho hb hg hat; obtain ⟨Ao114, co114, eo114⟩ := Kd.S_slice HO215.out; subst eo114; have hcz115_0 : w111.cell? ⟨gb193, 0, none⟩ = some (.string t190) := (blk_cell BK193.out 0).trans rfl; have hcz115_1 : w111.cell? ⟨gb193, 1, none⟩ = some (u194001) := (blk_cell BK193.out 1).trans rfl; have hfz115_0 := blk_frozen BK193.out 0; have hfz115_1 := blk_frozen BK193.out 1; obtain ⟨ASz116_0, cSz116_0, HGz116, hgz116, HSz116_0⟩ := HI0.out; have hcz116_0 := cellS78_0 HGz116; have hcz116_1 := cellS78_1 HGz116; have hcz116_2 := cellS78_2 HGz116; have hfz116_1 := blk_frozen HGz116 1; have hfz116_2 := blk_frozen HGz116 2; clear HGz116 hgz116; have hnb117 := NB189_0.out; have hnc117 := NB0_189.out; have hcz118_0 : w111.cell? ⟨gb189, 0, none⟩ = some (.string x190000_3) := (blk_cell BK189.out 0).trans rfl; have hcz118_1 : w111.cell? ⟨gb189, 1, none⟩ = some (.slice none 0 0) := (blk_cell BK189.out 1).trans rfl; have hfz118_0 := blk_frozen BK189.out 0; have hfz118_1 := blk_frozen BK189.out 1))
            refine bodyPost_ret (results_cell_row rfl _ _ gb189 31 #[.string t190, .slice Ao114 y213.length co114] (0, 0) _ rfl (by (with_reducible repeat (first | refine blk_drewN ?_ _ | refine blk_drew ?_ | refine blk_alloc ?_ _)); refine blk_put (cs := #[.string t190, .slice none 0 0]) ?_ 1 _ rfl; (with_reducible repeat (first | refine blk_drewN ?_ _ | refine blk_drew ?_ | refine blk_alloc ?_ _)); refine blk_put (cs := #[.string x190000_3, .slice none 0 0]) ?_ 0 _ rfl; (with_reducible repeat (first | refine blk_drewN ?_ _ | refine blk_drew ?_ | refine blk_alloc ?_ _)); refine blk_far ?_ NB189_193.out _; (with_reducible repeat (first | refine blk_drewN ?_ _ | refine blk_drew ?_ | refine blk_alloc ?_ _)); exact BK189.out) Try.underlying31 rfl (by kernel_rfl)) rfl ?_
            exact ⟨_, zre, by (with_reducible repeat (first | apply Kd.S_alloc | apply Kd.S_drewN | apply Kd.S_drew)); exact Kd.S_mono (Kd.S_far (p := ⟨gb189, 1, none⟩) (Kd.S_far (p := ⟨gb189, 0, none⟩) (Kd.S_far (p := ⟨gb193, 1, none⟩) (Kd.S_types (Kd.S_types HO215.out BK193.out (by decide)) BK189.out (by decide)) (fun _ hk => hk.1.2) (.slice Ao114 y213.length co114)) (fun _ hk => hk.2) (.string t190)) (fun _ hk => hk.2) (.slice Ao114 y213.length co114)) (fun _ hk => trivial), by repeat (first | (with_reducible first | exact HI0.out | apply IsS78.alloc | apply IsS78.drewN | apply IsS78.drew | apply IsS78.set_1 | apply IsS78.set_2 | refine IsS78.far ?_ NB0_189.out _ | refine IsS78.far ?_ NB0_193.out _ | refine IsS78.far ?_ NB0_200.out _) | exact HI0.out), by repeat (first | (with_reducible first | exact HB.out | apply below_alloc | apply pw_below_drewN | apply below_drew1 | refine below_set ?_ (IsS78.ge HI0.out) | refine below_set ?_ GE189.out | refine below_set ?_ GE193.out | refine below_set ?_ GE200.out) | exact HB.out), by repeat (first | (with_reducible first | exact HK.out | apply KeepBut.set_ | apply keep_drewN | apply keep_drew | apply keep_alloc | refine keep_far ?_ GW189.out _ | refine keep_far ?_ GW193.out _ | refine keep_far ?_ GW200.out _) | exact HK.out)⟩
           ·replace c103 := Bool.eq_false_iff.mpr c103
            subst c103
            have H1 : (impl_docReader_doc.l0 k3 t194 (wrap64 (x11_1 + 1)) s0_0 x1001_3 false t190 y213) = some (r1, r2, r3, r4) := by rw [if_neg (show ¬ (false = true) by decide)] at H; exact H
            clear H
            have H := H1
            clear H1
            have H' := Aside0.mk H
            clear H
            have hnb119 := NB193_189.out
            have hnc119 := NB189_193.out
            have hnb120 := NB193_200.out
            have hnc120 := NB200_193.out
            have hnb121 := NB193_0.out
            have hnc121 := NB0_193.out
            have hcz122_0 : wr.cell? ⟨gb193, 0, none⟩ = some (.string t190) := (blk_cell BK193.out 0).trans rfl
            have hcz122_1 : wr.cell? ⟨gb193, 1, none⟩ = some (u194001) := (blk_cell BK193.out 1).trans rfl
            have hfz122_0 := blk_frozen BK193.out 0
            have hfz122_1 := blk_frozen BK193.out 1
            have hnb123 := NB200_189.out
            have hnc123 := NB189_200.out
            have hnb124 := NB200_0.out
            have hnc124 := NB0_200.out
            have hcz125_0 : wr.cell? ⟨gb200, 0, none⟩ = some (.string t197) := (blk_cell BK200.out 0).trans rfl
            have hcz125_1 : wr.cell? ⟨gb200, 1, none⟩ = some (u201001) := (blk_cell BK200.out 1).trans rfl
            have hcz125_2 : wr.cell? ⟨gb200, 2, none⟩ = some (u201002) := (blk_cell BK200.out 2).trans rfl
            have hfz125_0 := blk_frozen BK200.out 0
            have hfz125_1 := blk_frozen BK200.out 1
            have hfz125_2 := blk_frozen BK200.out 2
            obtain ⟨Ao127, co127, eo127⟩ := Kd.R_slice HO_201001.out
            subst eo127
            obtain ⟨Ao128, co128, eo128⟩ := Kd.R_slice HO_201002.out
            subst eo128
            go_wp2_with (first | ((with_reducible refine gate_builtin (b := .append) (xs := #[.tmp 59, .tmp 61]) rfl ?_); at_builtin; refine Kd.S_append k66 w.heap.size rfl (.tmp 59) (.tmp 61) 29 66 (.agg #[(.string ⟨#[]⟩), (.slice none 0 0), (.slice none 0 0)]) 64 rfl Try.underlying29 info66 rfl (by decide) (by omega) u194001 x194001_1 (⟨t197, x201001_2, x201002_3⟩ : S66) [.string t197, .slice Ao127 x201001_2.length co127, .slice Ao128 x201002_3.length co128] (fun k_ => k_ ≠ gb200) (fun k_ => some k_ = (.slice Ao127 x201001_2.length co127 : Value).ownBlock ∨ some k_ = (.slice Ao128 x201002_3.length co128 : Value).ownBlock) rfl rfl ?aP (fun k_ hk_ => hk_.elim (fun h_ => ((Kd.R_mono (ok' := fun k_ => ((fun k_ => k_ ≠ gb200)) k_ ∧ some k_ ≠ (u194001 : Value).ownBlock) (Kd.R_types (Kd.R_apart' (HO_201001.out) (Kd.S_typed HO_194001.out) (by decide)) BK200.out (by decide)) (fun k_ hk => ⟨hk.2, hk.1.2⟩))).1 k_ h_.symm) (fun h_ => ((Kd.R_mono (ok' := fun k_ => ((fun k_ => k_ ≠ gb200)) k_ ∧ some k_ ≠ (u194001 : Value).ownBlock) (Kd.R_types (Kd.R_apart' (HO_201002.out) (Kd.S_typed HO_194001.out) (by decide)) BK200.out (by decide)) (fun k_ hk => ⟨hk.2, hk.1.2⟩))).1 k_ h_.symm)) ?aF ?aO (Below.refl _ _) ?aS ?aL ?_; (case aP => exact k66_mkM _ _ _ (⟨t197, x201001_2, x201002_3⟩ : S66) (Kd.R_mono (Kd.R_tight rfl (Kd.R_mono (ok' := fun k_ => ((fun k_ => k_ ≠ gb200)) k_ ∧ some k_ ≠ (u194001 : Value).ownBlock) (Kd.R_types (Kd.R_apart' (HO_201001.out) (Kd.S_typed HO_194001.out) (by decide)) BK200.out (by decide)) (fun k_ hk => ⟨hk.2, hk.1.2⟩))) (fun _ h_ => Or.inl h_)) (Kd.R_mono (Kd.R_tight rfl (Kd.R_mono (ok' := fun k_ => ((fun k_ => k_ ≠ gb200)) k_ ∧ some k_ ≠ (u194001 : Value).ownBlock) (Kd.R_types (Kd.R_apart' (HO_201002.out) (Kd.S_typed HO_194001.out) (by decide)) BK200.out (by decide)) (fun k_ hk => ⟨hk.2, hk.1.2⟩))) (fun _ h_ => Or.inr (h_)))); (case aF => exact (fun k_ hk => Kd.freshB (zb BK200) k_ hk)); (case aO => exact (Kd.S_mono (zs HO_194001) (fun k_ hk => ⟨hk.2.2, fun e_ => e_.elim (fun h_ => hk.1 h_) (fun h_ => hk.2.1 h_)⟩))); (case aS => exact (keep_size (w := w) (g := g) (row := none) (by repeat (first | (with_reducible first | exact HK.out | apply KeepBut.set_ | apply keep_drewN | apply keep_drew | apply keep_alloc | refine keep_far ?_ GW189.out _ | refine keep_far ?_ GW193.out _ | refine keep_far ?_ GW200.out _) | exact HK.out)))); (case aL => have := LMc102.out; omega); intro v214 w126 ho hb hg hat; rw [← Ny213.out] at ho; have n0_ := Aside0.mk (blk_grown (zb BK189) hg (Kd.S_ne HO_194001.out BK189.out (by decide))); have n1_ := Aside0.mk (blk_grown (zb BK193) hg (Kd.S_ne HO_194001.out BK193.out (by decide))); have n2_ := Aside0.mk (blk_grown (zb BK200) hg (Kd.S_away HO_194001.out (fun _ hk => hk.2.2))); have n3_ := Aside0.mk (IsS78.grown (by repeat (first | (with_reducible first | exact HI0.out | apply IsS78.alloc | apply IsS78.drewN | apply IsS78.drew | apply IsS78.set_1 | apply IsS78.set_2 | refine IsS78.far ?_ NB0_189.out _ | refine IsS78.far ?_ NB0_193.out _ | refine IsS78.far ?_ NB0_200.out _) | exact HI0.out)) hg (IsS78.own_neS HI0.out HO_194001.out (by decide))); have n4_ := Aside0.mk (below_weaken (by repeat (first | (with_reducible first | exact HB.out | apply below_alloc | apply pw_below_drewN | apply below_drew1 | refine below_set ?_ (IsS78.ge HI0.out) | refine below_set ?_ GE189.out | refine below_set ?_ GE193.out | refine below_set ?_ GE200.out) | exact HB.out)) HL.out hb); have n5_ := Aside0.mk (KeepBut.trans (by repeat (first | (with_reducible first | exact HK.out | apply KeepBut.set_ | apply keep_drewN | apply keep_drew | apply keep_alloc | refine keep_far ?_ GW189.out _ | refine keep_far ?_ GW193.out _ | refine keep_far ?_ GW200.out _) | exact HK.out)) (KeepBut.of_grown hg g) (Kd.S_base2 HO_194001.out)); have n6_ := Aside0.mk (ho); clear BK189; clear BK193; clear BK200; clear HI0; clear HB; clear HK; clear HO_194001; clear HO_201001; clear HO_201002; have BK189 := n0_; have BK193 := n1_; have BK200 := n2_; have HI0 := n3_; have HB := n4_; have HK := n5_; have HO215 := n6_; clear n0_ n1_ n2_ n3_ n4_ n5_ n6_; clear ho hb hg hat; obtain ⟨Ao129, co129, eo129⟩ := Kd.S_slice HO215.out; subst eo129; have hcz130_0 : w126.cell? ⟨gb193, 0, none⟩ = some (.string t190) := (blk_cell BK193.out 0).trans rfl; have hcz130_1 : w126.cell? ⟨gb193, 1, none⟩ = some (u194001) := (blk_cell BK193.out 1).trans rfl; have hfz130_0 := blk_frozen BK193.out 0; have hfz130_1 := blk_frozen BK193.out 1; obtain ⟨ASz131_0, cSz131_0, HGz131, hgz131, HSz131_0⟩ := HI0.out; have hcz131_0 := cellS78_0 HGz131; have hcz131_1 := cellS78_1 HGz131; have hcz131_2 := cellS78_2 HGz131; have hfz131_1 := blk_frozen HGz131 1; have hfz131_2 := blk_frozen HGz131 2; clear HGz131 hgz131))
            go_roundg k3
            case measure => have := HK1.out; have := HK2.out; have := HK3.out; omega
            case rel => exact ⟨(wrap64 (x11_1 + 1)), (x1001_3), (false), (x190000_3), (y213), (.slice Ao129 y213.length co129), (by first | rfl | (simp; done) | (simp [*]; done)), H', ⟨by have := HK1.out; have := HK2.out; have := HK3.out; omega⟩, ⟨by (with_reducible repeat (first | apply Kd.S_alloc | apply Kd.S_drewN | apply Kd.S_drew)); exact Kd.S_mono (Kd.S_far (p := ⟨gb193, 1, none⟩) (Kd.S_types HO215.out BK193.out (by decide)) (fun _ hk => hk.2) (.slice Ao129 y213.length co129)) (fun _ hk => trivial)⟩, ⟨by (with_reducible repeat (first | refine blk_drewN ?_ _ | refine blk_drew ?_ | refine blk_alloc ?_ _)); refine blk_far ?_ NB189_193.out _; (with_reducible repeat (first | refine blk_drewN ?_ _ | refine blk_drew ?_ | refine blk_alloc ?_ _)); exact BK189.out⟩, ⟨by (with_reducible repeat (first | refine blk_drewN ?_ _ | refine blk_drew ?_ | refine blk_alloc ?_ _)); refine blk_put (cs := #[.string t190, u194001]) ?_ 1 _ rfl; (with_reducible repeat (first | refine blk_drewN ?_ _ | refine blk_drew ?_ | refine blk_alloc ?_ _)); exact BK193.out⟩, ⟨by repeat (first | (with_reducible first | exact HI0.out | apply IsS78.alloc | apply IsS78.drewN | apply IsS78.drew | apply IsS78.set_1 | apply IsS78.set_2 | refine IsS78.far ?_ NB0_189.out _ | refine IsS78.far ?_ NB0_193.out _ | refine IsS78.far ?_ NB0_200.out _) | exact HI0.out)⟩, ⟨by repeat (first | (with_reducible first | exact HK.out | apply KeepBut.set_ | apply keep_drewN | apply keep_drew | apply keep_alloc | refine keep_far ?_ GW189.out _ | refine keep_far ?_ GW193.out _ | refine keep_far ?_ GW200.out _) | exact HK.out)⟩, ⟨by repeat (first | (with_reducible first | exact HB.out | apply below_alloc | apply pw_below_drewN | apply below_drew1 | refine below_set ?_ (IsS78.ge HI0.out) | refine below_set ?_ GE189.out | refine below_set ?_ GE193.out | refine below_set ?_ GE200.out) | exact HB.out)⟩⟩
          ·rw [if_neg c102] at H
           exact absurd H (by simp)
   ·rw [if_neg c11] at H
    have c11b0 : decide (x11_1 < t194) = false := decide_eq_false c11
    clear c11
    simp only [Option.some.injEq, Prod.mk.injEq] at H
    obtain ⟨rfl, rfl, rfl, rfl⟩ := H
    have hnb132 := NB193_189.out
    have hnc132 := NB189_193.out
    have hnb133 := NB193_0.out
    have hnc133 := NB0_193.out
    have hcz134_0 : wr.cell? ⟨gb193, 0, none⟩ = some (.string t190) := (blk_cell BK193.out 0).trans rfl
    have hcz134_1 : wr.cell? ⟨gb193, 1, none⟩ = some (u194001) := (blk_cell BK193.out 1).trans rfl
    have hfz134_0 := blk_frozen BK193.out 0
    have hfz134_1 := blk_frozen BK193.out 1
    have hnb135 := NB189_0.out
    have hnc135 := NB0_189.out
    have hcz136_0 : wr.cell? ⟨gb189, 0, none⟩ = some (.string x190000_1) := (blk_cell BK189.out 0).trans rfl
    have hcz136_1 : wr.cell? ⟨gb189, 1, none⟩ = some (.slice none 0 0) := (blk_cell BK189.out 1).trans rfl
    have hfz136_0 := blk_frozen BK189.out 0
    have hfz136_1 := blk_frozen BK189.out 1
    obtain ⟨Ao137, co137, eo137⟩ := Kd.S_slice HO_194001.out
    subst eo137
    go_wp2
    refine bodyPost_ret (results_cell_row rfl _ _ gb189 31 #[.string t190, .slice Ao137 x194001_1.length co137] (0, 0) _ rfl (by (with_reducible repeat (first | refine blk_drewN ?_ _ | refine blk_drew ?_ | refine blk_alloc ?_ _)); refine blk_put (cs := #[.string t190, .slice none 0 0]) ?_ 1 _ rfl; (with_reducible repeat (first | refine blk_drewN ?_ _ | refine blk_drew ?_ | refine blk_alloc ?_ _)); refine blk_put (cs := #[.string x190000_1, .slice none 0 0]) ?_ 0 _ rfl; (with_reducible repeat (first | refine blk_drewN ?_ _ | refine blk_drew ?_ | refine blk_alloc ?_ _)); exact BK189.out) Try.underlying31 rfl (by kernel_rfl)) rfl ?_
    exact ⟨_, zre, by (with_reducible repeat (first | apply Kd.S_alloc | apply Kd.S_drewN | apply Kd.S_drew)); exact Kd.S_mono (Kd.S_far (p := ⟨gb189, 1, none⟩) (Kd.S_far (p := ⟨gb189, 0, none⟩) (Kd.S_types HO_194001.out BK189.out (by decide)) (fun _ hk => hk.2) (.string t190)) (fun _ hk => hk.2) (.slice Ao137 x194001_1.length co137)) (fun _ hk => trivial), by repeat (first | (with_reducible first | exact HI0.out | apply IsS78.alloc | apply IsS78.drewN | apply IsS78.drew | apply IsS78.set_1 | apply IsS78.set_2 | refine IsS78.far ?_ NB0_189.out _ | refine IsS78.far ?_ NB0_193.out _) | exact HI0.out), by repeat (first | (with_reducible first | exact HB.out | apply below_alloc | apply pw_below_drewN | apply below_drew1 | refine below_set ?_ (IsS78.ge HI0.out) | refine below_set ?_ GE189.out | refine below_set ?_ GE193.out) | exact HB.out), by repeat (first | (with_reducible first | exact HK.out | apply KeepBut.set_ | apply keep_drewN | apply keep_drew | apply keep_alloc | refine keep_far ?_ GW189.out _ | refine keep_far ?_ GW193.out _) | exact HK.out)⟩

end Go.Proofs.Ytnpdmleglcbobaa.XFnExactReadDoc
