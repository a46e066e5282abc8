-- A printed text of this session (wip/x/xprint.py).
import Derived.Test.YtnpdmleglcbobaaXFnExactReadLogx0
import Derived.Test.YtnpdmleglcbobaaXFnExactReadLogx9
namespace Go.Proofs.Ytnpdmleglcbobaa.XFnExactReadLog
open Go.RowKit Go.Proofs.YtnpdmleglcbobaaW.PrintWords Go.Proofs.YtnpdmleglcbobaaW.PrintLast Go.Proofs.YtnpdmleglcbobaaW.PrintMore
attribute [local go_sem] max2_int min2_int max_two min_two max_three min_three max_four min_four   -- for this text's walks alone
set_option linter.unusedVariables false
set_option linter.unusedSimpArgs false
def fl10_ (n m : Nat) : Array Bool := ((List.range n).map fun i => m.testBit i).toArray

/-! ### spec_l06Reader_doc: function 43 -/
mutual
def spec_l06Reader_doc.l0 : Nat → Int → List Int → Int → Bool → ByteArray → List (S66) → Option (ByteArray × (List (S66)) × Int × Bool)
 | 0, _, _, _, _, _, _ => none
 | k + 1, x4, x1000, x1001, x1002, x304000, x304001 => if x4 > 0 then (spec_l06Reader_doc.j1 k x4 (!x1002) x1000 x1001 x1002 x304000 x304001) else (spec_l06Reader_doc.j1 k x4 false x1000 x1001 x1002 x304000 x304001)
def spec_l06Reader_doc.j1 : Nat → Int → Bool → List Int → Int → Bool → ByteArray → List (S66) → Option (ByteArray × (List (S66)) × Int × Bool)
 | 0, _, _, _, _, _, _, _ => none
 | k + 1, x4, x21, x1000, x1001, x1002, x304000, x304001 => if x21 = true then ((spec_l06Reader_text.f k x1000 x1001 x1002).bind fun bt307 => ((spec_l06Reader_count.f k x1000 bt307.2.1 bt307.2.2).bind fun bt311 => (spec_l06Reader_doc.l1 k x4 bt311.1 x1000 bt311.2.1 bt311.2.2 x304000 x304001 bt307.1 ([] : List ByteArray)))) else (some (x304000, x304001, x1001, x1002))
def spec_l06Reader_doc.j3 : Nat → Int → List Int → Int → Bool → ByteArray → List (S66) → ByteArray → List ByteArray → Option (ByteArray × (List (S66)) × Int × Bool)
 | 0, _, _, _, _, _, _, _, _ => none
 | k + 1, x4, x1000, x1001, x1002, x304000, x304001, x311000, x311001 => (spec_l06Reader_count.f k x1000 x1001 x1002).bind fun bt320 => (spec_l06Reader_doc.l2 k x4 bt320.1 x1000 bt320.2.1 bt320.2.2 x304000 x304001 x311000 x311001 ([] : List Int))
def spec_l06Reader_doc.l2 : Nat → Int → Int → List Int → Int → Bool → ByteArray → List (S66) → ByteArray → List ByteArray → List Int → Option (ByteArray × (List (S66)) × Int × Bool)
 | 0, _, _, _, _, _, _, _, _, _, _ => none
 | k + 1, x4, x7, x1000, x1001, x1002, x304000, x304001, x311000, x311001, x311002 => if x7 > 0 then (if x1002 = true then (if x304001.length < 2199023255552 then (spec_l06Reader_doc.l0 k (wrap64 (x4 - 1)) x1000 x1001 x1002 x304000 (x304001 ++ [(⟨x311000, x311001, x311002⟩ : S66)])) else (none)) else ((spec_l06Reader_number.f k x1000 x1001 x1002).bind fun bt326 => (if x311002.length < 17592186044416 then (spec_l06Reader_doc.l2 k x4 (wrap64 (x7 - 1)) x1000 bt326.2.1 bt326.2.2 x304000 x304001 x311000 x311001 (x311002 ++ [bt326.1])) else (none)))) else (if x304001.length < 2199023255552 then (spec_l06Reader_doc.l0 k (wrap64 (x4 - 1)) x1000 x1001 x1002 x304000 (x304001 ++ [(⟨x311000, x311001, x311002⟩ : S66)])) else (none))
def spec_l06Reader_doc.l1 : Nat → Int → Int → List Int → Int → Bool → ByteArray → List (S66) → ByteArray → List ByteArray → Option (ByteArray × (List (S66)) × Int × Bool)
 | 0, _, _, _, _, _, _, _, _, _ => none
 | k + 1, x4, x6, x1000, x1001, x1002, x304000, x304001, x311000, x311001 => if x6 > 0 then (if x1002 = true then (spec_l06Reader_doc.j3 k x4 x1000 x1001 x1002 x304000 x304001 x311000 x311001) else ((spec_l06Reader_text.f k x1000 x1001 x1002).bind fun bt314 => (if x311001.length < 8796093022208 then (spec_l06Reader_doc.l1 k x4 (wrap64 (x6 - 1)) x1000 bt314.2.1 bt314.2.2 x304000 x304001 x311000 (x311001 ++ [bt314.1])) else (none)))) else (spec_l06Reader_doc.j3 k x4 x1000 x1001 x1002 x304000 x304001 x311000 x311001)
end
def spec_l06Reader_doc.f (k : Nat) (s0_0 : List Int) (s0_1 : Int) (s0_2 : Bool) : Option (ByteArray × (List (S66)) × Int × Bool) := (spec_l06Reader_text.f k s0_0 s0_1 s0_2).bind fun bt300 => ((spec_l06Reader_count.f k s0_0 bt300.2.1 bt300.2.2).bind fun bt304 => (spec_l06Reader_doc.l0 k bt304.1 s0_0 bt304.2.1 bt304.2.2 bt300.1 ([] : List (S66))))
theorem spec_l06Reader_doc.mono_l : ∀ k, (∀ y0 y1 y2 y3 y4 y5, LeO (spec_l06Reader_doc.l0 k y0 y1 y2 y3 y4 y5) (spec_l06Reader_doc.l0 (k + 1) y0 y1 y2 y3 y4 y5)) ∧ (∀ y0 y1 y2 y3 y4 y5 y6, LeO (spec_l06Reader_doc.j1 k y0 y1 y2 y3 y4 y5 y6) (spec_l06Reader_doc.j1 (k + 1) y0 y1 y2 y3 y4 y5 y6)) ∧ (∀ y0 y1 y2 y3 y4 y5 y6 y7, LeO (spec_l06Reader_doc.j3 k y0 y1 y2 y3 y4 y5 y6 y7) (spec_l06Reader_doc.j3 (k + 1) y0 y1 y2 y3 y4 y5 y6 y7)) ∧ (∀ y0 y1 y2 y3 y4 y5 y6 y7 y8 y9, LeO (spec_l06Reader_doc.l2 k y0 y1 y2 y3 y4 y5 y6 y7 y8 y9) (spec_l06Reader_doc.l2 (k + 1) y0 y1 y2 y3 y4 y5 y6 y7 y8 y9)) ∧ (∀ y0 y1 y2 y3 y4 y5 y6 y7 y8, LeO (spec_l06Reader_doc.l1 k y0 y1 y2 y3 y4 y5 y6 y7 y8) (spec_l06Reader_doc.l1 (k + 1) y0 y1 y2 y3 y4 y5 y6 y7 y8))
 | 0 => ⟨fun _ _ _ _ _ _ r h => by simp [spec_l06Reader_doc.l0] at h, fun _ _ _ _ _ _ _ r h => by simp [spec_l06Reader_doc.j1] at h, fun _ _ _ _ _ _ _ _ r h => by simp [spec_l06Reader_doc.j3] at h, fun _ _ _ _ _ _ _ _ _ _ r h => by simp [spec_l06Reader_doc.l2] at h, fun _ _ _ _ _ _ _ _ _ r h => by simp [spec_l06Reader_doc.l1] at h⟩
 | k + 1 => by
  obtain ⟨ih0, ih1, ih2, ih3, ih4⟩ := spec_l06Reader_doc.mono_l k
  refine ⟨?_, ?_, ?_, ?_, ?_⟩
  all_goals intros
  all_goals first | unfold spec_l06Reader_doc.l0 | unfold spec_l06Reader_doc.j1 | unfold spec_l06Reader_doc.j3 | unfold spec_l06Reader_doc.l2 | unfold spec_l06Reader_doc.l1
  all_goals
   repeat' first
   | (with_reducible exact ih0 _ _ _ _ _ _)
   | (with_reducible exact ih1 _ _ _ _ _ _ _)
   | (with_reducible exact ih2 _ _ _ _ _ _ _ _)
   | (with_reducible exact ih3 _ _ _ _ _ _ _ _ _ _)
   | (with_reducible exact ih4 _ _ _ _ _ _ _ _ _)
   | (with_reducible exact spec_l06Reader_count.mono _ _ _ _)
   | (with_reducible exact spec_l06Reader_number.mono _ _ _ _)
   | (with_reducible exact spec_l06Reader_text.mono _ _ _ _)
   | (with_reducible exact LeO.refl _)
   | (with_reducible exact LeO.none _)
   | (with_reducible refine LeO.ite ?_ ?_)
   | (with_reducible refine LeO.bind ?_ (fun _ => ?_))
theorem spec_l06Reader_doc.mono : ∀ a0 a1 a2 k, LeO (spec_l06Reader_doc.f k a0 a1 a2) (spec_l06Reader_doc.f (k + 1) a0 a1 a2) := by
 intro a0 a1 a2 k
 obtain ⟨ih0, ih1, ih2, ih3, ih4⟩ := spec_l06Reader_doc.mono_l k
 unfold spec_l06Reader_doc.f
 repeat' first
  | (with_reducible exact ih0 _ _ _ _ _ _)
  | (with_reducible exact ih1 _ _ _ _ _ _ _)
  | (with_reducible exact ih2 _ _ _ _ _ _ _ _)
  | (with_reducible exact ih3 _ _ _ _ _ _ _ _ _ _)
  | (with_reducible exact ih4 _ _ _ _ _ _ _ _ _)
  | (with_reducible exact spec_l06Reader_count.mono _ _ _ _)
  | (with_reducible exact spec_l06Reader_number.mono _ _ _ _)
  | (with_reducible exact spec_l06Reader_text.mono _ _ _ _)
  | (with_reducible exact LeO.refl _)
  | (with_reducible exact LeO.none _)
  | (with_reducible refine LeO.ite ?_ ?_)
  | (with_reducible refine LeO.bind ?_ (fun _ => ?_))
def spec_l06Reader_doc.T9 : Bool × List (List Nat × List Nat) := (true, [([], []), ([0], [0]), ([], []), ([2], [2]), ([3], [3]), ([1, 4, 3], [1, 4]), ([0, 1, 2, 3, 4, 5], []), ([6, 5, 5, 0, 1, 2, 3, 4, 5], [5, 6])])
def spec_l06Reader_doc.B9 : List Nat := [0, 1, 0, 4, 12, 31, 63, 127]
theorem spec_l06Reader_doc.tab9 : rtab .any (opsOf Try.f43 9) = spec_l06Reader_doc.T9 := by kernel_rfl
theorem spec_l06Reader_doc.bits9 : waitsOk spec_l06Reader_doc.T9.2 spec_l06Reader_doc.B9 = true := by kernel_rfl
def spec_l06Reader_doc.T13 : Bool × List (List Nat × List Nat) := (true, [([], []), ([0], [0]), ([], []), ([2], [2]), ([3], [3]), ([1, 4, 3], [1, 4]), ([0, 1, 2, 3, 4, 5], []), ([6, 5, 5, 0, 1, 2, 3, 4, 5], [5, 6])])
def spec_l06Reader_doc.B13 : List Nat := [0, 1, 0, 4, 12, 31, 63, 127]
theorem spec_l06Reader_doc.tab13 : rtab .any (opsOf Try.f43 13) = spec_l06Reader_doc.T13 := by kernel_rfl
theorem spec_l06Reader_doc.bits13 : waitsOk spec_l06Reader_doc.T13.2 spec_l06Reader_doc.B13 = true := by kernel_rfl
set_option maxHeartbeats 8000000 in
set_option maxRecDepth 100000 in
theorem spec_l06Reader_doc.calls (k : Nat) (g : Nat) (s0_0 : List Int) (s0_1 : Int) (s0_2 : Bool) (r1 : ByteArray) (r2 : List (S66)) (r3 : Int) (r4 : Bool) (w0 w : World) (hI : IsS74 w0 w g s0_0 s0_1 s0_2) (hB : Below w0.heap.size w0 w) (h : spec_l06Reader_doc.f k s0_0 s0_1 s0_2 = some (r1, r2, r3, r4)) :
 Calls Try.prog 43 #[.pointer (some ⟨g, 0, none⟩)] w fun e w' => ∃ v1_ : Value, e = .returned (.agg #[.string r1, v1_]) ∧ Kd.S k66 66 w' w.heap.size (fun _ => True) v1_ r2 ∧ IsS74 w0 w' g s0_0 r3 r4 ∧ Below w0.heap.size w0 w' ∧ KeepBut w w' g none := by
 have hu31 := Try.underlying31
 have hu66 := Try.underlying66
 have HI0 := Aside0.mk hI
 have HK := Aside0.mk (KeepBut.refl w g none)
 have HL := Aside0.mk hB.size
 clear hI
 have HW0 := Aside0.mk hB.size
 have HB := Aside0.mk hB
 clear hB
 have H := h
 unfold spec_l06Reader_doc.f at H
 clear h
 replace H := Option.bind_eq_some_iff.mp H
 obtain ⟨⟨t300, t301, t302⟩, A20, H⟩ := H
 try dsimp only at H
 have A2 := Aside0.mk A20
 clear A20
 replace H := Option.bind_eq_some_iff.mp H
 obtain ⟨⟨t304, t305, t306⟩, A30, H⟩ := H
 try dsimp only at H
 have A3 := Aside0.mk A30
 clear A30
 have H' := Aside0.mk H
 clear H
 go_enter Try.func43, Try.ntmps43
 go_wp2_with (first | ((with_reducible refine gate_dst (N := 2) rfl ?_); refine box_event (by rfl) (N := 2) (by rfl) (cs := #[.string (⟨#[]⟩ : ByteArray), .slice none 0 0]) (t := 31) zgs ?_; intro gb299 hg w4 hbox hb; replace HB := Aside0.mk (below_step (zj74 HB) hb); have BK299 := Aside0.mk (hbox); have GW299 := zge hg (keep_size (w := w) (g := g) (row := none) (zk HK)); have GE299 := Aside0.mk ((Nat.le_trans HW0.out (by rw [hg]; exact (keep_size (w := w) (g := g) (row := none) (zk HK)) : w.heap.size ≤ gb299) : w0.heap.size ≤ gb299)); replace HK := Aside0.mk (KeepBut.trans (zk HK) (KeepBut.of_below hb g none) (.inl rfl)); have NB0_299 := znl hg (IsS74.lt (show IsS74 w0 _ g s0_0 s0_1 s0_2 from zi74 HI0)); have NB299_0 := zng hg (IsS74.lt (show IsS74 w0 _ g s0_0 s0_1 s0_2 from zi74 HI0)); replace HI0 := Aside0.mk (IsS74.below (zi74 HI0) hb); clear hb hbox hg) | ((with_reducible refine gate_callee (f := 69) rfl ?_); refine goesL_ (some 9) rfl rfl Try.func69 (by kernel_rfl) rfl #[.pointer (some ⟨g, 0, none⟩)] rfl zar ?_; (with_reducible refine (spec_l06Reader_text.calls k g s0_0 s0_1 s0_2 t300 t301 t302 w0 _ ?side1 ?side2 A2.out).mono ?_); (case side1 => exact zi74 HI0); (case side2 => exact zj74 HB); rintro e w5 ⟨rfl, hi, hb, hk⟩; refine ⟨_, rfl, ?_⟩; replace BK299 := Aside0.mk (KeepBut.blk hk (g' := gb299) (o := .cells #[.string (⟨#[]⟩ : ByteArray), .slice none 0 0] 31 (0, 0)) (zb BK299) NB299_0.out (by simp)); replace HK := Aside0.mk (KeepBut.trans (zk HK) hk (.inl rfl)); replace HB := Aside0.mk (hb); replace HI0 := Aside0.mk (hi); (try clear hb); (try clear hb2); (try clear hk); (try clear hi)) | ((with_reducible refine gate_dst (N := 3) rfl ?_); refine box_event (by rfl) (N := 3) (by rfl) (cs := #[.string (⟨#[]⟩ : ByteArray), .slice none 0 0]) (t := 31) zgs ?_; intro gb303 hg w6 hbox hb; replace HB := Aside0.mk (below_step (zj74 HB) hb); have BK303 := Aside0.mk (hbox); have GW303 := zge hg (keep_size (w := w) (g := g) (row := none) (zk HK)); have GE303 := Aside0.mk ((Nat.le_trans HW0.out (by rw [hg]; exact (keep_size (w := w) (g := g) (row := none) (zk HK)) : w.heap.size ≤ gb303) : w0.heap.size ≤ gb303)); replace HK := Aside0.mk (KeepBut.trans (zk HK) (KeepBut.of_below hb g none) (.inl rfl)); have NB299_303 := znl hg (blk_lt (zb BK299)); have NB303_299 := zng hg (blk_lt (zb BK299)); replace BK299 := Aside0.mk (blk_below (zb BK299) hb); have NB0_303 := znl hg (IsS74.lt (show IsS74 w0 _ g s0_0 t301 t302 from zi74 HI0)); have NB303_0 := zng hg (IsS74.lt (show IsS74 w0 _ g s0_0 t301 t302 from zi74 HI0)); replace HI0 := Aside0.mk (IsS74.below (zi74 HI0) hb); clear hb hbox hg; have hnb7 := NB303_299.out; have hnc7 := NB299_303.out; have hnb8 := NB303_0.out; have hnc8 := NB0_303.out; obtain ⟨⟨hcz9_0, hcz9_1⟩, hfz9_0, hfz9_1⟩ := zc2 BK303) | ((with_reducible refine gate_callee (f := 70) rfl ?_); refine goesL_ (some 12) rfl rfl Try.func70 (by kernel_rfl) rfl #[.pointer (some ⟨g, 0, none⟩)] rfl zar ?_; (with_reducible refine (spec_l06Reader_count.calls k g s0_0 t301 t302 t304 t305 t306 w0 _ ?side1 ?side2 A3.out).mono ?_); (case side1 => exact zi74 HI0); (case side2 => exact zj74 HB); rintro e w10 ⟨rfl, hi, hb, hk⟩; refine ⟨_, rfl, ?_⟩; replace BK299 := Aside0.mk (KeepBut.blk hk (g' := gb299) (o := .cells #[.string (⟨#[]⟩ : ByteArray), .slice none 0 0] 31 (0, 0)) (zp BK299) NB299_0.out (by simp)); replace BK303 := Aside0.mk (KeepBut.blk hk (g' := gb303) (o := .cells #[.string t300, .slice none 0 0] 31 (0, 0)) (zp BK303) NB303_0.out (by simp)); replace HK := Aside0.mk (KeepBut.trans (zk HK) hk (.inl rfl)); replace HB := Aside0.mk (hb); replace HI0 := Aside0.mk (hi); (try clear hb); (try clear hb2); (try clear hk); (try clear hi)))
 go_loopg [4] k (fun kq v4 w' => ∃ (x4_1 : Int) (x1001_1 : Int) (x1002_1 : Bool) (x304001_1 : List (S66)) (u304001 : Value), v4 = .int .i64 x4_1 ∧ Aside0 (spec_l06Reader_doc.l0 kq x4_1 s0_0 x1001_1 x1002_1 t300 x304001_1 = some (r1, r2, r3, r4)) ∧ Aside0 (kq ≤ k) ∧ Aside0 (Kd.S k66 66 w' w.heap.size (fun _ => True) u304001 x304001_1) ∧ Aside0 (w'.heap[gb299]? = some (.cells #[.string (⟨#[]⟩ : ByteArray), (.slice none 0 0)] 31 (0, 0))) ∧ Aside0 (w'.heap[gb303]? = some (.cells #[.string t300, u304001] 31 (0, 0))) ∧ Aside0 (IsS74 w0 w' g s0_0 x1001_1 x1002_1) ∧ Aside0 (KeepBut w w' g none) ∧ Aside0 (Below w0.heap.size w0 w'))
 case atStart => exact ⟨(t304), (t305), (t306), (([] : List (S66))), (.slice none 0 0), zrs, H', ⟨Nat.le_refl _⟩, ⟨by first | exact Kd.S_nil _ _ _ _ _ | exact Kd.N_nil _ _ _ _ _ | exact Kd.V_nil _ _ _ _ _ | exact Kd.Q_nil _ _ _ _ _ | exact Kd.R_nil _ _ _ _ _⟩, ⟨zb BK299⟩, ⟨zb BK303⟩, ⟨zi74 HI0⟩, ⟨zk HK⟩, ⟨zj74 HB⟩⟩
 case round =>
  clear H'
  try clear hcz9_0 hcz9_1 hfz9_0 hfz9_1
  obtain ⟨x4_1, x1001_1, x1002_1, x304001_1, u304001, rfl, HA, HK1, HO_304001, BK299, BK303, HI0, HK, HB⟩ := hrel
  cases gk with
  | zero => exact absurd HA.out (by simp [spec_l06Reader_doc.l0])
  | succ k1 =>
   have H := HA.out
   clear HA
   simp only [spec_l06Reader_doc.l0] at H
   have HC11 := Aside0.mk H
   clear H
   go_upto_region 3 with (fail)
   go_cut [21] (fun v21 wc => ∃ (kq : Nat) (x21_10 : Bool), v21 = .bool x21_10 ∧ Aside0 (spec_l06Reader_doc.j1 kq x4_1 x21_10 s0_0 x1001_1 x1002_1 t300 x304001_1 = some (r1, r2, r3, r4)) ∧ Aside0 (kq ≤ k1) ∧ Aside0 (Kd.S k66 66 wc w.heap.size (fun _ => True) u304001 x304001_1) ∧ Aside0 (wc.heap[gb299]? = some (.cells #[.string (⟨#[]⟩ : ByteArray), (.slice none 0 0)] 31 (0, 0))) ∧ Aside0 (wc.heap[gb303]? = some (.cells #[.string t300, u304001] 31 (0, 0))) ∧ Aside0 (IsS74 w0 wc g s0_0 x1001_1 x1002_1) ∧ Aside0 (KeepBut w wc g none) ∧ Aside0 (Below w0.heap.size w0 wc))
   case first =>
    have H := HC11.out
    clear HC11
    by_cases c12 : x4_1 > 0
    rotate_left
    ·rw [if_neg c12] at H
     have c12b0 : decide (0 < x4_1) = false := decide_eq_false c12
     clear c12
     (first | rw [c12b0] | (simp only [i64_w, i32_w]; rw [c12b0]) | skip)
     have H' := Aside0.mk H
     clear H
     go_wp2
     go_meet
     case rel => exact ⟨_, (false), zrs, H', ⟨by have := HK1.out; first | omega | exact Nat.le_refl _⟩, ⟨zs HO_304001⟩, ⟨zb BK299⟩, ⟨zb BK303⟩, ⟨zi74 HI0⟩, ⟨zk HK⟩, ⟨zj74 HB⟩⟩
    rw [if_pos c12] at H
    have c12b0 : decide (0 < x4_1) = true := decide_eq_true c12
    clear c12
    (first | rw [c12b0] | (simp only [i64_w, i32_w]; rw [c12b0]) | skip)
    have H' := Aside0.mk H
    clear H
    obtain ⟨ASz13_0, cSz13_0, HGz13, hgz13, HSz13_0⟩ := HI0.out
    have hcz13_0 := cellS74_0 HGz13
    have hcz13_1 := cellS74_1 HGz13
    have hcz13_2 := cellS74_2 HGz13
    have hfz13_1 := blk_frozen HGz13 1
    have hfz13_2 := blk_frozen HGz13 2
    clear HGz13 hgz13
    go_wp2
    go_meet
    case rel => exact ⟨_, (!x1002_1), zrs, H', ⟨by have := HK1.out; first | omega | exact Nat.le_refl _⟩, ⟨zs HO_304001⟩, ⟨zb BK299⟩, ⟨zb BK303⟩, ⟨zi74 HI0⟩, ⟨zk HK⟩, ⟨zj74 HB⟩⟩
   case rest =>
    clear HC11
    try clear hcz9_0 hcz9_1
    try clear hfz9_0 hfz9_1
    obtain ⟨kq, x21_10, rfl, HA, HJ10, HO_304001, BK299, BK303, HI0, HK, HB⟩ := hcut
    cases kq with
    | zero => exact absurd HA.out (by simp [spec_l06Reader_doc.j1])
    | succ kj10 =>
     have H := HA.out
     clear HA
     simp only [spec_l06Reader_doc.j1] at H
     by_cases c14 : x21_10 = true
     rotate_left
     ·replace c14 := Bool.eq_false_iff.mpr c14
      subst c14
      rw [if_neg (show ¬ (false = true) by decide)] at H
      simp only [Option.some.injEq, Prod.mk.injEq] at H
      obtain ⟨rfl, rfl, rfl, rfl⟩ := H
      have hnb75 := NB303_299.out
      have hnc75 := NB299_303.out
      have hnb76 := NB303_0.out
      have hnc76 := NB0_303.out
      obtain ⟨⟨hcz77_0, hcz77_1⟩, hfz77_0, hfz77_1⟩ := zc2 BK303
      have hnb78 := NB299_0.out
      have hnc78 := NB0_299.out
      obtain ⟨⟨hcz79_0, hcz79_1⟩, hfz79_0, hfz79_1⟩ := zc2 BK299
      obtain ⟨Ao80, co80, eo80⟩ := Kd.S_slice HO_304001.out
      subst eo80
      go_wp2
      refine bodyPost_ret (results_cell_row rfl _ _ gb299 31 #[.string t300, .slice Ao80 x304001_1.length co80] (0, 0) _ rfl (zp BK299) Try.underlying31 rfl (by kernel_rfl)) rfl ?_
      exact ⟨_, zre, by (with_reducible repeat (first | apply Kd.S_alloc | apply Kd.S_drewN | apply Kd.S_drew)); exact Kd.S_mono (Kd.S_far (p := ⟨gb299, 1, none⟩) (Kd.S_far (p := ⟨gb299, 0, none⟩) (Kd.S_types HO_304001.out BK299.out (by decide)) (fun _ hk => hk.2) (.string t300)) (fun _ hk => hk.2) (.slice Ao80 x304001_1.length co80)) (fun _ hk => trivial), zi74 HI0, zj74 HB, zk HK⟩

     subst c14
     rw [if_pos rfl] at H
     replace H := Option.bind_eq_some_iff.mp H
     obtain ⟨⟨t307, t308, t309⟩, A150, H⟩ := H
     try dsimp only at H
     have A15 := Aside0.mk A150
     clear A150
     replace H := Option.bind_eq_some_iff.mp H
     obtain ⟨⟨t311, t312, t313⟩, A160, H⟩ := H
     try dsimp only at H
     have A16 := Aside0.mk A160
     clear A160
     have HC17 := Aside0.mk H
     clear H
     go_upto_block 2 with (first | ((with_reducible refine gate_callee (f := 69) rfl ?_); refine goesL_ (some 25) rfl rfl Try.func69 (by kernel_rfl) rfl #[.pointer (some ⟨g, 0, none⟩)] rfl zar ?_; (with_reducible refine (spec_l06Reader_text.calls kj10 g s0_0 x1001_1 x1002_1 t307 t308 t309 w0 _ ?side1 ?side2 A15.out).mono ?_); (case side1 => exact zi74 HI0); (case side2 => exact zj74 HB); rintro e w18 ⟨rfl, hi, hb, hk⟩; refine ⟨_, rfl, ?_⟩; replace HO_304001 := Aside0.mk (Kd.S_mono (Kd.S_keep (IsS74.apartS (show IsS74 w0 _ g s0_0 x1001_1 x1002_1 from zi74 HI0) (zs HO_304001) (by decide)) hk (fun _ h => h.2)) (fun _ h => h.1)); replace BK299 := Aside0.mk (KeepBut.blk hk (g' := gb299) (o := .cells #[.string (⟨#[]⟩ : ByteArray), .slice none 0 0] 31 (0, 0)) (zb BK299) NB299_0.out (by simp)); replace BK303 := Aside0.mk (KeepBut.blk hk (g' := gb303) (o := .cells #[.string t300, u304001] 31 (0, 0)) (zb BK303) NB303_0.out (by simp)); replace HK := Aside0.mk (KeepBut.trans (zk HK) hk (.inl rfl)); replace HB := Aside0.mk (hb); replace HI0 := Aside0.mk (hi); (try clear hb); (try clear hb2); (try clear hk); (try clear hi)) | ((with_reducible refine gate_dst (N := 5) rfl ?_); refine box_event (by rfl) (N := 5) (by rfl) (cs := #[.string (⟨#[]⟩ : ByteArray), .slice none 0 0, .slice none 0 0]) (t := 66) zgs ?_; intro gb310 hg w19 hbox hb; replace HO_304001 := Aside0.mk (Kd.S_below (Kd.S_elderB (zs HO_304001) gb310 (Nat.le_of_eq hg.symm)) hb); replace HB := Aside0.mk (below_step (zj74 HB) hb); have BK310 := Aside0.mk (hbox); have GW310 := zge hg (keep_size (w := w) (g := g) (row := none) (zk HK)); have GE310 := Aside0.mk ((Nat.le_trans HW0.out (by rw [hg]; exact (keep_size (w := w) (g := g) (row := none) (zk HK)) : w.heap.size ≤ gb310) : w0.heap.size ≤ gb310)); replace HK := Aside0.mk (KeepBut.trans (zk HK) (KeepBut.of_below hb g none) (.inl rfl)); have NB299_310 := znl hg (blk_lt (zb BK299)); have NB310_299 := zng hg (blk_lt (zb BK299)); replace BK299 := Aside0.mk (blk_below (zb BK299) hb); have NB303_310 := znl hg (blk_lt (zb BK303)); have NB310_303 := zng hg (blk_lt (zb BK303)); replace BK303 := Aside0.mk (blk_below (zb BK303) hb); have NB0_310 := znl hg (IsS74.lt (show IsS74 w0 _ g s0_0 t308 t309 from zi74 HI0)); have NB310_0 := zng hg (IsS74.lt (show IsS74 w0 _ g s0_0 t308 t309 from zi74 HI0)); replace HI0 := Aside0.mk (IsS74.below (zi74 HI0) hb); clear hb hbox hg; have hnb20 := NB310_299.out; have hnc20 := NB299_310.out; have hnb21 := NB310_303.out; have hnc21 := NB303_310.out; have hnb22 := NB310_0.out; have hnc22 := NB0_310.out; obtain ⟨⟨hcz23_0, hcz23_1, hcz23_2⟩, hfz23_0, hfz23_1, hfz23_2⟩ := zc3 BK310) | ((with_reducible refine gate_callee (f := 70) rfl ?_); refine goesL_ (some 28) rfl rfl Try.func70 (by kernel_rfl) rfl #[.pointer (some ⟨g, 0, none⟩)] rfl zar ?_; (with_reducible refine (spec_l06Reader_count.calls kj10 g s0_0 t308 t309 t311 t312 t313 w0 _ ?side1 ?side2 A16.out).mono ?_); (case side1 => exact zi74 HI0); (case side2 => exact zj74 HB); rintro e w24 ⟨rfl, hi, hb, hk⟩; refine ⟨_, rfl, ?_⟩; replace HO_304001 := Aside0.mk (Kd.S_mono (Kd.S_keep (IsS74.apartS (show IsS74 w0 _ g s0_0 t308 t309 from zi74 HI0) (by (with_reducible repeat (first | apply Kd.S_alloc | apply Kd.S_drewN | apply Kd.S_drew)); exact (Kd.S_mono (Kd.S_far (p := ⟨gb310, 2, none⟩) (Kd.S_far (p := ⟨gb310, 1, none⟩) (Kd.S_far (p := ⟨gb310, 0, none⟩) (Kd.S_mono HO_304001.out (fun k_ hk => (⟨hk, hk.2⟩ : _ ∧ k_ ≠ gb310))) (fun _ hk => hk.2) (.string t307)) (fun _ hk => hk.2) (.slice none 0 0)) (fun _ hk => hk.2) (.slice none 0 0)) (fun _ h_ => h_.1))) (by decide)) hk (fun _ h => h.2)) (fun _ h => h.1)); replace BK299 := Aside0.mk (KeepBut.blk hk (g' := gb299) (o := .cells #[.string (⟨#[]⟩ : ByteArray), .slice none 0 0] 31 (0, 0)) (zp BK299) NB299_0.out (by simp)); replace BK303 := Aside0.mk (KeepBut.blk hk (g' := gb303) (o := .cells #[.string t300, u304001] 31 (0, 0)) (zp BK303) NB303_0.out (by simp)); replace BK310 := Aside0.mk (KeepBut.blk hk (g' := gb310) (o := .cells #[.string t307, .slice none 0 0, .slice none 0 0] 66 (0, 0)) (zp BK310) NB310_0.out (by simp)); replace HK := Aside0.mk (KeepBut.trans (zk HK) hk (.inl rfl)); replace HB := Aside0.mk (hb); replace HI0 := Aside0.mk (hi); (try clear hb); (try clear hb2); (try clear hk); (try clear hi)))
     (try simp only [Act.put, List.setIfInBounds_toArray, List.set_cons_zero, List.set_cons_succ])
     go_cut [] (fun wc => ∃ (kq : Nat) (x1001_16 : Int) (x1002_16 : Bool) (x311001_16 : List ByteArray) (u311001 : Value), Aside0 (spec_l06Reader_doc.j3 kq x4_1 s0_0 x1001_16 x1002_16 t300 x304001_1 t307 x311001_16 = some (r1, r2, r3, r4)) ∧ Aside0 (kq ≤ kj10) ∧ Aside0 (Kd.S k66 66 wc w.heap.size (fun k_ => some k_ ≠ (u311001 : Value).ownBlock ∧ k_ ≠ gb310) u304001 x304001_1) ∧ Aside0 (Kd.R Kd.string 9 wc w.heap.size (fun _ => True) u311001 x311001_16) ∧ Aside0 (wc.heap[gb299]? = some (.cells #[.string (⟨#[]⟩ : ByteArray), (.slice none 0 0)] 31 (0, 0))) ∧ Aside0 (wc.heap[gb303]? = some (.cells #[.string t300, u304001] 31 (0, 0))) ∧ Aside0 (wc.heap[gb310]? = some (.cells #[.string t307, u311001, (.slice none 0 0)] 66 (0, 0))) ∧ Aside0 (IsS74 w0 wc g s0_0 x1001_16 x1002_16) ∧ Aside0 (KeepBut w wc g none) ∧ Aside0 (Below w0.heap.size w0 wc))
     case first =>
      have H := HC17.out
      clear HC17
      have H' := Aside0.mk H
      clear H
      go_wp2
      go_loopg [6] kj10 (fun kq v6 w' => ∃ (x6_3 : Int) (x1001_3 : Int) (x1002_3 : Bool) (x311001_3 : List ByteArray) (u311001 : Value), v6 = .int .i64 x6_3 ∧ Aside0 (spec_l06Reader_doc.l1 kq x4_1 x6_3 s0_0 x1001_3 x1002_3 t300 x304001_1 t307 x311001_3 = some (r1, r2, r3, r4)) ∧ Aside0 (kq ≤ kj10) ∧ Aside0 (Kd.S k66 66 w' w.heap.size (fun k_ => some k_ ≠ (u311001 : Value).ownBlock ∧ k_ ≠ gb310) u304001 x304001_1) ∧ Aside0 (Kd.R Kd.string 9 w' w.heap.size (fun _ => True) u311001 x311001_3) ∧ Aside0 (w'.heap[gb299]? = some (.cells #[.string (⟨#[]⟩ : ByteArray), (.slice none 0 0)] 31 (0, 0))) ∧ Aside0 (w'.heap[gb303]? = some (.cells #[.string t300, u304001] 31 (0, 0))) ∧ Aside0 (w'.heap[gb310]? = some (.cells #[.string t307, u311001, (.slice none 0 0)] 66 (0, 0))) ∧ Aside0 (IsS74 w0 w' g s0_0 x1001_3 x1002_3) ∧ Aside0 (KeepBut w w' g none) ∧ Aside0 (Below w0.heap.size w0 w'))
      case atStart => exact ⟨(t311), (t312), (t313), (([] : List ByteArray)), (.slice none 0 0), zrs, H', ⟨Nat.le_refl _⟩, ⟨Kd.S_mono (zs HO_304001) (fun _ hk => ⟨(by simp [Value.ownBlock]), hk.2⟩)⟩, ⟨by first | exact Kd.R_nil _ _ _ _ _ | exact Kd.N_nil _ _ _ _ _ | exact Kd.V_nil _ _ _ _ _ | exact Kd.Q_nil _ _ _ _ _ | exact Kd.S_nil _ _ _ _ _⟩, ⟨zb BK299⟩, ⟨zb BK303⟩, ⟨zb BK310⟩, ⟨zi74 HI0⟩, ⟨zk HK⟩, ⟨zj74 HB⟩⟩
      case round =>
       clear H'
       try clear c14
       try clear hcz23_0 hcz23_1 hcz23_2
       try clear hcz9_0 hcz9_1
       try clear hfz23_0 hfz23_1 hfz23_2
       try clear hfz9_0 hfz9_1
       obtain ⟨x6_3, x1001_3, x1002_3, x311001_3, u311001, rfl, HA, HK3, HO_304001, HO_311001, BK299, BK303, BK310, HI0, HK, HB⟩ := hrel
       cases gk with
       | zero => exact absurd HA.out (by simp [spec_l06Reader_doc.l1])
       | succ k3 =>
        have H := HA.out
        clear HA
        simp only [spec_l06Reader_doc.l1] at H
        by_cases c25 : x6_3 > 0
        rotate_left
        ·rw [if_neg c25] at H
         have c25b0 : decide (0 < x6_3) = false := decide_eq_false c25
         clear c25
         (first | rw [c25b0] | (simp only [i64_w, i32_w]; rw [c25b0]) | skip)
         have H' := Aside0.mk H
         clear H
         go_wp2
         go_meet
         case rel => exact ⟨_, (x1001_3), (x1002_3), (x311001_3), (u311001), H', ⟨by have := HK1.out; have := HJ10.out; have := HK3.out; first | omega | exact Nat.le_refl _⟩, ⟨zs HO_304001⟩, ⟨zr HO_311001⟩, ⟨zb BK299⟩, ⟨zb BK303⟩, ⟨zb BK310⟩, ⟨zi74 HI0⟩, ⟨zk HK⟩, ⟨zj74 HB⟩⟩
        rw [if_pos c25] at H
        have c25b0 : decide (0 < x6_3) = true := decide_eq_true c25
        clear c25
        (first | rw [c25b0] | (simp only [i64_w, i32_w]; rw [c25b0]) | skip)
        by_cases c26 : x1002_3 = true
        ·subst c26
         rw [if_pos rfl] at H
         have H' := Aside0.mk H
         clear H
         obtain ⟨ASz27_0, cSz27_0, HGz27, hgz27, HSz27_0⟩ := HI0.out
         have hcz27_0 := cellS74_0 HGz27
         have hcz27_1 := cellS74_1 HGz27
         have hcz27_2 := cellS74_2 HGz27
         have hfz27_1 := blk_frozen HGz27 1
         have hfz27_2 := blk_frozen HGz27 2
         clear HGz27 hgz27
         go_wp2
         go_meet
         case rel => exact ⟨_, (x1001_3), (true), (x311001_3), (u311001), H', ⟨by have := HK1.out; have := HJ10.out; have := HK3.out; first | omega | exact Nat.le_refl _⟩, ⟨zs HO_304001⟩, ⟨zr HO_311001⟩, ⟨zb BK299⟩, ⟨zb BK303⟩, ⟨zb BK310⟩, ⟨zi74 HI0⟩, ⟨zk HK⟩, ⟨zj74 HB⟩⟩
        replace c26 := Bool.eq_false_iff.mpr c26
        subst c26
        rw [if_neg (show ¬ (false = true) by decide)] at H
        replace H := Option.bind_eq_some_iff.mp H
        obtain ⟨⟨t314, t315, t316⟩, A280, H⟩ := H
        try dsimp only at H
        have A28 := Aside0.mk A280
        clear A280
        by_cases c29 : x311001_3.length < 8796093022208
        rotate_left
        ·rw [if_neg c29] at H
         exact absurd H (by simp)
        rw [if_pos c29] at H
        have LMc29 := Aside0.mk c29
        clear c29
        obtain ⟨y317, hy317⟩ : ∃ y_ : List ByteArray, y_ = (x311001_3 ++ [t314]) := ⟨_, rfl⟩
        replace H : (spec_l06Reader_doc.l1 k3 x4_1 (wrap64 (x6_3 - 1)) s0_0 t315 t316 t300 x304001_1 t307 y317) = some (r1, r2, r3, r4) := zby hy317 H
        have Ny317 := Aside0.mk hy317
        clear hy317
        have H' := Aside0.mk H
        clear H
        obtain ⟨ASz30_0, cSz30_0, HGz30, hgz30, HSz30_0⟩ := HI0.out
        have hcz30_0 := cellS74_0 HGz30
        have hcz30_1 := cellS74_1 HGz30
        have hcz30_2 := cellS74_2 HGz30
        have hfz30_1 := blk_frozen HGz30 1
        have hfz30_2 := blk_frozen HGz30 2
        clear HGz30 hgz30
        try go_wp2
        replace HO_304001 := Aside0.mk (Kd.S_drew HO_304001.out)
        replace HO_311001 := Aside0.mk (Kd.R_drew HO_311001.out)
        replace BK299 := Aside0.mk (blk_drew BK299.out)
        replace BK303 := Aside0.mk (blk_drew BK303.out)
        replace BK310 := Aside0.mk (blk_drew BK310.out)
        replace HI0 := Aside0.mk (IsS74.drew HI0.out)
        replace HK := Aside0.mk (keep_drew HK.out)
        replace HB := Aside0.mk (below_drew1 HB.out)
        refine start_ (n := 8) (S := fun w' => w'.cell? ⟨gb310, 0, none⟩ = some (.string t307) ∧ w'.cell? ⟨gb310, 1, none⟩ = some (u311001) ∧ w'.cell? ⟨gb310, 2, none⟩ = some (.slice none 0 0)) (ds := [7]) (fl10_ 8 0) (by kernel_rfl) rfl rfl ⟨(blk_cell BK310.out 0).trans rfl, (blk_cell BK310.out 1).trans rfl, (blk_cell BK310.out 2).trans rfl⟩ (fun hHeld => ?_); refine with_tabW spec_l06Reader_doc.tab9 spec_l06Reader_doc.bits9 (fun HT_ HW_ => ?_)
        generalize wr.drew = w31 at HO_304001 HO_311001 BK299 BK303 BK310 HI0 HK HB hHeld ⊢
        refine zpu HT_ 0 40 (fl10_ 8 1) ?_
        refine zpu HT_ 2 42 (fl10_ 8 5) ?_
        refine take_ (i := 1) (N := some 41) (v := ?_) (a' := ?_) (fl10_ 8 7) rfl rfl (take_ofW HT_.out HW_.out (by kernel_rfl)) (fun _ _ _ h => h) (Or.inl ⟨by rfl, ?_⟩) hHeld ?_ ?_
        rotate_left
        ·rintro w' ⟨s0, s1, s2⟩
         go_simp
         with_reducible rfl
        rotate_left
        ·simp only [Act.put, List.setIfInBounds_toArray, List.set_cons_zero, List.set_cons_succ, i64_w, i32_w]
         rfl
        refine one_ (i := 3) (N := some 43) (fl10_ 8 15) rfl rfl (one_of HT_.out (by kernel_rfl)) (by decide) (fun K hK => ?_)
        refine goes_ Try.func69 (by kernel_rfl) rfl #[.pointer (some ⟨g, 0, none⟩)] (by rfl) rfl rfl zar ?_
        with_reducible refine (spec_l06Reader_text.calls k3 g s0_0 x1001_3 false t314 t315 t316 w0 _ ?side1 ?side2 A28.out).mono ?_
        (case side1 => exact zi74 HI0)
        (case side2 => exact zj74 HB)
        rintro e w32 ⟨rfl, hi, hb, hk⟩
        refine ⟨_, rfl, ?_⟩
        replace HO_304001 := Aside0.mk (Kd.S_mono (Kd.S_keep (IsS74.apartS (show IsS74 w0 _ g s0_0 x1001_3 false from zi74 HI0) (zs HO_304001) (by decide)) hk (fun _ h => h.2)) (fun _ h => h.1))
        replace HO_311001 := Aside0.mk (Kd.R_mono (Kd.R_keep (IsS74.apart (show IsS74 w0 _ g s0_0 x1001_3 false from zi74 HI0) (zr HO_311001) (by decide)) hk (fun _ h => h.2)) (fun _ h => h.1))
        replace BK299 := Aside0.mk (KeepBut.blk hk (g' := gb299) (o := .cells #[.string (⟨#[]⟩ : ByteArray), .slice none 0 0] 31 (0, 0)) (zb BK299) NB299_0.out (by simp))
        replace BK303 := Aside0.mk (KeepBut.blk hk (g' := gb303) (o := .cells #[.string t300, u304001] 31 (0, 0)) (zb BK303) NB303_0.out (by simp))
        replace BK310 := Aside0.mk (KeepBut.blk hk (g' := gb310) (o := .cells #[.string t307, u311001, .slice none 0 0] 66 (0, 0)) (zb BK310) NB310_0.out (by simp))
        replace HK := Aside0.mk (KeepBut.trans (zk HK) hk (.inl rfl))
        replace HB := Aside0.mk (hb)
        replace HI0 := Aside0.mk (hi)
        (try clear hb)
        (try clear hb2)
        (try clear hk)
        (try clear hi)
        refine hK.out _ _ ⟨(blk_cell BK310.out 0).trans rfl, (blk_cell BK310.out 1).trans rfl, (blk_cell BK310.out 2).trans rfl⟩ (fun hHeld => ?_)
        clear hK K
        refine norm_ (a' := ?_) ?_ ?_
        rotate_left
        ·show Act.put _ (some 43) _ = _
         simp only [Act.put, List.setIfInBounds_toArray, List.set_cons_zero, List.set_cons_succ, i64_w, i32_w]
         rfl
        refine one_ (i := 4) (N := some 44) (fl10_ 8 31) rfl rfl (one_of HT_.out (by kernel_rfl)) (by decide) (fun K hK => ?_)
        refine value_ (w1 := ?_) (v := ?_) (by rfl) rfl ?_ ?_
        rotate_left 2
        ·go_simp
         constructor
         ·rfl
         ·rfl
        refine hK.out _ _ ⟨(blk_cell (blk_alloc BK310.out _) 0).trans rfl, (blk_cell (blk_alloc BK310.out _) 1).trans rfl, (blk_cell (blk_alloc BK310.out _) 2).trans rfl⟩ (fun hHeld => ?_)
        clear hK K
        refine norm_ (a' := ?_) ?_ ?_
        rotate_left
        ·show Act.put _ (some 44) _ = _
         simp only [Act.put, List.setIfInBounds_toArray, List.set_cons_zero, List.set_cons_succ, i64_w, i32_w]
         rfl
        refine one_ (i := 5) (N := some 45) (fl10_ 8 63) rfl rfl (one_of HT_.out (by kernel_rfl)) (by decide) (fun K hK => ?_)
        refine Kd.R_append_step Kd.string w.heap.size (by rfl) (.tmp 41) (.tmp 44) 64 9 (.string ⟨#[]⟩) 16 rfl Try.underlying64 info9 rfl (by decide) (by omega) u311001 x311001_3 t314 [.string t314] (fun _ => True) (fun _ => False) rfl rfl ?aP (fun _ hk => hk.elim) ?aF ?aO (Below.refl _ _) ?aS ?aL ?_
        (case aP => exact rfl)
        (case aF => exact (fun _ _ => trivial))
        (case aO => exact (zr HO_311001))
        (case aS => exact (keep_size (w := w) (g := g) (row := none) (zk HK)))
        (case aL => have := LMc29.out; omega)
        intro v318 w33 ho hb hg hat
        rw [← Ny317.out] at ho
        replace HO_304001 := Aside0.mk (Kd.S_after (ok := (fun k_ => k_ ≠ gb310)) (Kd.S_mono (zs HO_304001) (fun _ hk => ⟨hk.2, hk.1⟩)) hg hat)
        replace BK299 := Aside0.mk (blk_grown (zb BK299) hg (Kd.R_ne HO_311001.out BK299.out (by decide)))
        replace BK303 := Aside0.mk (blk_grown (zb BK303) hg (Kd.R_ne HO_311001.out BK303.out (by decide)))
        replace BK310 := Aside0.mk (blk_grown (zb BK310) hg (Kd.R_ne HO_311001.out BK310.out (by decide)))
        replace HI0 := Aside0.mk (IsS74.grown (zi74 HI0) hg (IsS74.own_ne HI0.out HO_311001.out (by decide)))
        replace HB := Aside0.mk (below_weaken (zj74 HB) HL.out hb)
        replace HK := Aside0.mk (KeepBut.trans (zk HK) (KeepBut.of_grown hg g) (Kd.R_base2 HO_311001.out))
        have HO319 := Aside0.mk (ho)
        clear HO_311001
        clear ho hb hg hat
        obtain ⟨Ao34, co34, eo34⟩ := Kd.R_slice HO319.out
        (first | subst eo34 | (injection eo34 with f1_ f2_ f3_; have f4_ := f1_.symm; have f5_ := f3_.symm; clear f1_ f2_ f3_; subst f4_; subst f5_))
        refine hK.out _ _ ⟨(blk_cell BK310.out 0).trans rfl, (blk_cell BK310.out 1).trans rfl, (blk_cell BK310.out 2).trans rfl⟩ (fun hHeld => ?_)
        clear hK K
        refine norm_ (a' := ?_) ?_ ?_
        rotate_left
        ·show Act.put _ (some 45) _ = _
         simp only [Act.put, List.setIfInBounds_toArray, List.set_cons_zero, List.set_cons_succ, i64_w, i32_w]
         rfl
        refine zpu HT_ 6 46 (fl10_ 8 127) ?_
        refine last_ (i := 7) (N := none) (fl10_ 8 255) rfl rfl (one_of HT_.out (by kernel_rfl)) (by decide) (fun K hK => ?_)
        have hs35 : w33.cell? ⟨gb310, 1, none⟩ = some (u311001) := (blk_cell BK310.out 1).trans rfl
        have hfs35 := blk_frozen BK310.out 1
        have hns35_0 := NB299_310.out
        have hns35_1 := NB303_310.out
        have hms35_0 := NB310_299.out
        have hms35_1 := NB310_303.out
        refine skip_ (w1 := ?_) (by rfl) rfl ?_ ?_
        rotate_left
        ·go_simp
         rfl
        refine hK.out _ _ ?_
        clear hK K
        refine done_ (done_of HT_.out (by kernel_rfl)) ?_
        try go_wp2
        go_roundg k3
        case measure => have := HK1.out; have := HJ10.out; have := HK3.out; omega
        case rel => exact ⟨(wrap64 (x6_3 - 1)), (t315), (t316), (y317), (.slice Ao34 y317.length co34), zrs, H', ⟨by have := HK1.out; have := HJ10.out; have := HK3.out; omega⟩, ⟨by (with_reducible repeat (first | apply Kd.S_alloc | apply Kd.S_drewN | apply Kd.S_drew)); exact Kd.S_mono (Kd.S_far (p := ⟨gb310, 1, none⟩) (Kd.S_mono HO_304001.out (fun k_ hk => (⟨hk, hk.1⟩ : _ ∧ k_ ≠ gb310))) (fun _ hk => hk.2) (.slice Ao34 y317.length co34)) (fun _ hk => ⟨hk.1.2, hk.1.1⟩)⟩, ⟨by (with_reducible repeat (first | apply Kd.R_alloc | apply Kd.R_drewN | apply Kd.R_drew)); exact Kd.R_mono (Kd.R_far (p := ⟨gb310, 1, none⟩) (Kd.R_types HO319.out BK310.out (by decide)) (fun _ hk => hk.2) (.slice Ao34 y317.length co34)) (fun _ hk => trivial)⟩, ⟨zp BK299⟩, ⟨zp BK303⟩, ⟨zp BK310⟩, ⟨zi74 HI0⟩, ⟨zk HK⟩, ⟨zj74 HB⟩⟩
     case rest =>
      clear HC17
      try clear c14
      try clear hcz23_0 hcz23_1 hcz23_2
      try clear hcz9_0 hcz9_1
      try clear hfz23_0 hfz23_1 hfz23_2
      try clear hfz9_0 hfz9_1
      obtain ⟨kq, x1001_16, x1002_16, x311001_16, u311001, HA, HJ16, HO_304001, HO_311001, BK299, BK303, BK310, HI0, HK, HB⟩ := hcut
      cases kq with
      | zero => exact absurd HA.out (by simp [spec_l06Reader_doc.j3])
      | succ kj16 =>
       have H := HA.out
       clear HA
       simp only [spec_l06Reader_doc.j3] at H
       replace H := Option.bind_eq_some_iff.mp H
       obtain ⟨⟨t320, t321, t322⟩, A360, H⟩ := H
       try dsimp only at H
       have A36 := Aside0.mk A360
       clear A360
       have H' := Aside0.mk H
       clear H
       go_wp2_with (first | ((with_reducible refine gate_callee (f := 70) rfl ?_); refine goesL_ (some 48) rfl rfl Try.func70 (by kernel_rfl) rfl #[.pointer (some ⟨g, 0, none⟩)] rfl zar ?_; (with_reducible refine (spec_l06Reader_count.calls kj16 g s0_0 x1001_16 x1002_16 t320 t321 t322 w0 _ ?side1 ?side2 A36.out).mono ?_); (case side1 => exact zi74 HI0); (case side2 => exact zj74 HB); rintro e w37 ⟨rfl, hi, hb, hk⟩; refine ⟨_, rfl, ?_⟩; replace HO_304001 := Aside0.mk (Kd.S_mono (Kd.S_keep (IsS74.apartS (show IsS74 w0 _ g s0_0 x1001_16 x1002_16 from zi74 HI0) (zs HO_304001) (by decide)) hk (fun _ h => h.2)) (fun _ h => h.1)); replace HO_311001 := Aside0.mk (Kd.R_mono (Kd.R_keep (IsS74.apart (show IsS74 w0 _ g s0_0 x1001_16 x1002_16 from zi74 HI0) (zr HO_311001) (by decide)) hk (fun _ h => h.2)) (fun _ h => h.1)); replace BK299 := Aside0.mk (KeepBut.blk hk (g' := gb299) (o := .cells #[.string (⟨#[]⟩ : ByteArray), .slice none 0 0] 31 (0, 0)) (zb BK299) NB299_0.out (by simp)); replace BK303 := Aside0.mk (KeepBut.blk hk (g' := gb303) (o := .cells #[.string t300, u304001] 31 (0, 0)) (zb BK303) NB303_0.out (by simp)); replace BK310 := Aside0.mk (KeepBut.blk hk (g' := gb310) (o := .cells #[.string t307, u311001, .slice none 0 0] 66 (0, 0)) (zb BK310) NB310_0.out (by simp)); replace HK := Aside0.mk (KeepBut.trans (zk HK) hk (.inl rfl)); replace HB := Aside0.mk (hb); replace HI0 := Aside0.mk (hi); (try clear hb); (try clear hb2); (try clear hk); (try clear hi)))
       go_loopg [7] kj16 (fun kq v7 w' => ∃ (x7_4 : Int) (x1001_4 : Int) (x1002_4 : Bool) (x311002_4 : List Int) (u311002 : Value), v7 = .int .i64 x7_4 ∧ Aside0 (spec_l06Reader_doc.l2 kq x4_1 x7_4 s0_0 x1001_4 x1002_4 t300 x304001_1 t307 x311001_16 x311002_4 = some (r1, r2, r3, r4)) ∧ Aside0 (kq ≤ kj16) ∧ Aside0 (Kd.S k66 66 w' w.heap.size (fun k_ => some k_ ≠ (u311001 : Value).ownBlock ∧ some k_ ≠ (u311002 : Value).ownBlock ∧ k_ ≠ gb310) u304001 x304001_1) ∧ Aside0 (Kd.R Kd.string 9 w' w.heap.size (fun _ => True) u311001 x311001_16) ∧ Aside0 (Kd.R (Kd.int .i64) 3 w' w.heap.size (fun _ => True) u311002 x311002_4) ∧ Aside0 (w'.heap[gb299]? = some (.cells #[.string (⟨#[]⟩ : ByteArray), (.slice none 0 0)] 31 (0, 0))) ∧ Aside0 (w'.heap[gb303]? = some (.cells #[.string t300, u304001] 31 (0, 0))) ∧ Aside0 (w'.heap[gb310]? = some (.cells #[.string t307, u311001, u311002] 66 (0, 0))) ∧ Aside0 (IsS74 w0 w' g s0_0 x1001_4 x1002_4) ∧ Aside0 (KeepBut w w' g none) ∧ Aside0 (Below w0.heap.size w0 w'))
       case atStart => exact ⟨(t320), (t321), (t322), (([] : List Int)), (.slice none 0 0), zrs, H', ⟨Nat.le_refl _⟩, ⟨Kd.S_mono (zs HO_304001) (fun _ hk => ⟨hk.1, ⟨(by simp [Value.ownBlock]), hk.2⟩⟩)⟩, ⟨zr HO_311001⟩, ⟨by first | exact Kd.R_nil _ _ _ _ _ | exact Kd.N_nil _ _ _ _ _ | exact Kd.V_nil _ _ _ _ _ | exact Kd.Q_nil _ _ _ _ _ | exact Kd.S_nil _ _ _ _ _⟩, ⟨zb BK299⟩, ⟨zb BK303⟩, ⟨zb BK310⟩, ⟨zi74 HI0⟩, ⟨zk HK⟩, ⟨zj74 HB⟩⟩
       case round =>
        clear H'
        try clear c14
        try clear hcz23_0 hcz23_1 hcz23_2
        try clear hcz9_0 hcz9_1
        try clear hfz23_0 hfz23_1 hfz23_2
        try clear hfz9_0 hfz9_1
        obtain ⟨x7_4, x1001_4, x1002_4, x311002_4, u311002, rfl, HA, HK4, HO_304001, HO_311001, HO_311002, BK299, BK303, BK310, HI0, HK, HB⟩ := hrel
        cases gk with
        | zero => exact absurd HA.out (by simp [spec_l06Reader_doc.l2])
        | succ k4 =>
         have H := HA.out
         clear HA
         simp only [spec_l06Reader_doc.l2] at H
         by_cases c38 : x7_4 > 0
         rotate_left
         ·rw [if_neg c38] at H
          have c38b0 : decide (0 < x7_4) = false := decide_eq_false c38
          clear c38
          by_cases c62 : x304001_1.length < 2199023255552
          rotate_left
          ·rw [if_neg c62] at H
           exact absurd H (by simp)
          rw [if_pos c62] at H
          have LMc62 := Aside0.mk c62
          clear c62
          obtain ⟨y332, hy332⟩ : ∃ y_ : List (S66), y_ = (x304001_1 ++ [(⟨t307, x311001_16, x311002_4⟩ : S66)]) := ⟨_, rfl⟩
          replace H : (spec_l06Reader_doc.l0 k4 (wrap64 (x4_1 - 1)) s0_0 x1001_4 x1002_4 t300 y332) = some (r1, r2, r3, r4) := zby hy332 H
          have Ny332 := Aside0.mk hy332
          clear hy332
          have H' := Aside0.mk H
          clear H
          have hnb63 := NB303_299.out
          have hnc63 := NB299_303.out
          have hnb64 := NB303_310.out
          have hnc64 := NB310_303.out
          have hnb65 := NB303_0.out
          have hnc65 := NB0_303.out
          obtain ⟨⟨hcz66_0, hcz66_1⟩, hfz66_0, hfz66_1⟩ := zc2 BK303
          have hnb67 := NB310_299.out
          have hnc67 := NB299_310.out
          have hnb68 := NB310_0.out
          have hnc68 := NB0_310.out
          obtain ⟨⟨hcz69_0, hcz69_1, hcz69_2⟩, hfz69_0, hfz69_1, hfz69_2⟩ := zc3 BK310
          obtain ⟨Ao71, co71, eo71⟩ := Kd.R_slice HO_311001.out
          subst eo71
          obtain ⟨Ao72, co72, eo72⟩ := Kd.R_slice HO_311002.out
          subst eo72
          go_wp2_with (first | ((with_reducible refine gate_builtin (b := .append) (xs := #[.tmp 68, .tmp 70]) rfl ?_); at_builtin; refine Kd.S_append k66 w.heap.size rfl (.tmp 68) (.tmp 70) 29 66 (.agg #[(.string ⟨#[]⟩), (.slice none 0 0), (.slice none 0 0)]) 64 rfl Try.underlying29 info66 rfl (by decide) (by omega) u304001 x304001_1 (⟨t307, x311001_16, x311002_4⟩ : S66) [.string t307, .slice Ao71 x311001_16.length co71, .slice Ao72 x311002_4.length co72] (fun k_ => k_ ≠ gb310) (fun k_ => some k_ = (.slice Ao71 x311001_16.length co71 : Value).ownBlock ∨ some k_ = (.slice Ao72 x311002_4.length co72 : Value).ownBlock) rfl rfl ?aP (fun k_ hk_ => hk_.elim (fun h_ => ((Kd.R_mono (ok' := fun k_ => ((fun k_ => k_ ≠ gb310)) k_ ∧ some k_ ≠ (u304001 : Value).ownBlock) (Kd.R_types (Kd.R_apart' (HO_311001.out) (Kd.S_typed HO_304001.out) (by decide)) BK310.out (by decide)) (fun k_ hk => ⟨hk.2, hk.1.2⟩))).1 k_ h_.symm) (fun h_ => ((Kd.R_mono (ok' := fun k_ => ((fun k_ => k_ ≠ gb310)) k_ ∧ some k_ ≠ (u304001 : Value).ownBlock) (Kd.R_types (Kd.R_apart' (HO_311002.out) (Kd.S_typed HO_304001.out) (by decide)) BK310.out (by decide)) (fun k_ hk => ⟨hk.2, hk.1.2⟩))).1 k_ h_.symm)) ?aF ?aO (Below.refl _ _) ?aS ?aL ?_; (case aP => exact k66_mkM _ _ _ (⟨t307, x311001_16, x311002_4⟩ : S66) (Kd.R_mono (Kd.R_tight rfl (Kd.R_mono (ok' := fun k_ => ((fun k_ => k_ ≠ gb310)) k_ ∧ some k_ ≠ (u304001 : Value).ownBlock) (Kd.R_types (Kd.R_apart' (HO_311001.out) (Kd.S_typed HO_304001.out) (by decide)) BK310.out (by decide)) (fun k_ hk => ⟨hk.2, hk.1.2⟩))) (fun _ h_ => Or.inl h_)) (Kd.R_mono (Kd.R_tight rfl (Kd.R_mono (ok' := fun k_ => ((fun k_ => k_ ≠ gb310)) k_ ∧ some k_ ≠ (u304001 : Value).ownBlock) (Kd.R_types (Kd.R_apart' (HO_311002.out) (Kd.S_typed HO_304001.out) (by decide)) BK310.out (by decide)) (fun k_ hk => ⟨hk.2, hk.1.2⟩))) (fun _ h_ => Or.inr (h_)))); (case aF => exact (fun k_ hk => Kd.freshB (zb BK310) k_ hk)); (case aO => exact (Kd.S_mono (zs HO_304001) (fun k_ hk => ⟨hk.2.2, fun e_ => e_.elim (fun h_ => hk.1 h_) (fun h_ => hk.2.1 h_)⟩))); (case aS => exact (keep_size (w := w) (g := g) (row := none) (zk HK))); (case aL => have := LMc62.out; omega); intro v333 w70 ho hb hg hat; rw [← Ny332.out] at ho; replace BK299 := Aside0.mk (blk_grown (zb BK299) hg (Kd.S_ne HO_304001.out BK299.out (by decide))); replace BK303 := Aside0.mk (blk_grown (zb BK303) hg (Kd.S_ne HO_304001.out BK303.out (by decide))); replace BK310 := Aside0.mk (blk_grown (zb BK310) hg (Kd.S_away HO_304001.out (fun _ hk => hk.2.2))); replace HI0 := Aside0.mk (IsS74.grown (zi74 HI0) hg (IsS74.own_neS HI0.out HO_304001.out (by decide))); replace HB := Aside0.mk (below_weaken (zj74 HB) HL.out hb); replace HK := Aside0.mk (KeepBut.trans (zk HK) (KeepBut.of_grown hg g) (Kd.S_base2 HO_304001.out)); have HO334 := Aside0.mk (ho); clear HO_304001 HO_311001 HO_311002; clear ho hb hg hat; obtain ⟨Ao73, co73, eo73⟩ := Kd.S_slice HO334.out; subst eo73; obtain ⟨⟨hcz74_0, hcz74_1⟩, hfz74_0, hfz74_1⟩ := zc2 BK303))
          go_roundg k4
          case measure => have := HK1.out; have := HJ10.out; have := HJ16.out; have := HK4.out; omega
          case rel => exact ⟨(wrap64 (x4_1 - 1)), (x1001_4), (x1002_4), (y332), (.slice Ao73 y332.length co73), zrs, H', ⟨by have := HK1.out; have := HJ10.out; have := HJ16.out; have := HK4.out; omega⟩, ⟨by (with_reducible repeat (first | apply Kd.S_alloc | apply Kd.S_drewN | apply Kd.S_drew)); exact Kd.S_mono (Kd.S_far (p := ⟨gb303, 1, none⟩) (Kd.S_types HO334.out BK303.out (by decide)) (fun _ hk => hk.2) (.slice Ao73 y332.length co73)) (fun _ hk => trivial)⟩, ⟨zp BK299⟩, ⟨zp BK303⟩, ⟨zi74 HI0⟩, ⟨zk HK⟩, ⟨zj74 HB⟩⟩
         rw [if_pos c38] at H
         have c38b0 : decide (0 < x7_4) = true := decide_eq_true c38
         clear c38
         by_cases c39 : x1002_4 = true
         ·subst c39
          rw [if_pos rfl] at H
          by_cases c40 : x304001_1.length < 2199023255552
          rotate_left
          ·rw [if_neg c40] at H
           exact absurd H (by simp)
          rw [if_pos c40] at H
          have LMc40 := Aside0.mk c40
          clear c40
          obtain ⟨y323, hy323⟩ : ∃ y_ : List (S66), y_ = (x304001_1 ++ [(⟨t307, x311001_16, x311002_4⟩ : S66)]) := ⟨_, rfl⟩
          replace H : (spec_l06Reader_doc.l0 k4 (wrap64 (x4_1 - 1)) s0_0 x1001_4 true t300 y323) = some (r1, r2, r3, r4) := zby hy323 H
          have Ny323 := Aside0.mk hy323
          clear hy323
          have H' := Aside0.mk H
          clear H
          obtain ⟨ASz41_0, cSz41_0, HGz41, hgz41, HSz41_0⟩ := HI0.out
          have hcz41_0 := cellS74_0 HGz41
          have hcz41_1 := cellS74_1 HGz41
          have hcz41_2 := cellS74_2 HGz41
          have hfz41_1 := blk_frozen HGz41 1
          have hfz41_2 := blk_frozen HGz41 2
          clear HGz41 hgz41
          have hnb42 := NB303_299.out
          have hnc42 := NB299_303.out
          have hnb43 := NB303_310.out
          have hnc43 := NB310_303.out
          have hnb44 := NB303_0.out
          have hnc44 := NB0_303.out
          obtain ⟨⟨hcz45_0, hcz45_1⟩, hfz45_0, hfz45_1⟩ := zc2 BK303
          have hnb46 := NB310_299.out
          have hnc46 := NB299_310.out
          have hnb47 := NB310_0.out
          have hnc47 := NB0_310.out
          obtain ⟨⟨hcz48_0, hcz48_1, hcz48_2⟩, hfz48_0, hfz48_1, hfz48_2⟩ := zc3 BK310
          obtain ⟨Ao50, co50, eo50⟩ := Kd.R_slice HO_311001.out
          subst eo50
          obtain ⟨Ao51, co51, eo51⟩ := Kd.R_slice HO_311002.out
          subst eo51
          go_wp2_with (first | ((with_reducible refine gate_builtin (b := .append) (xs := #[.tmp 68, .tmp 70]) rfl ?_); at_builtin; refine Kd.S_append k66 w.heap.size rfl (.tmp 68) (.tmp 70) 29 66 (.agg #[(.string ⟨#[]⟩), (.slice none 0 0), (.slice none 0 0)]) 64 rfl Try.underlying29 info66 rfl (by decide) (by omega) u304001 x304001_1 (⟨t307, x311001_16, x311002_4⟩ : S66) [.string t307, .slice Ao50 x311001_16.length co50, .slice Ao51 x311002_4.length co51] (fun k_ => k_ ≠ gb310) (fun k_ => some k_ = (.slice Ao50 x311001_16.length co50 : Value).ownBlock ∨ some k_ = (.slice Ao51 x311002_4.length co51 : Value).ownBlock) rfl rfl ?aP (fun k_ hk_ => hk_.elim (fun h_ => ((Kd.R_mono (ok' := fun k_ => ((fun k_ => k_ ≠ gb310)) k_ ∧ some k_ ≠ (u304001 : Value).ownBlock) (Kd.R_types (Kd.R_apart' (HO_311001.out) (Kd.S_typed HO_304001.out) (by decide)) BK310.out (by decide)) (fun k_ hk => ⟨hk.2, hk.1.2⟩))).1 k_ h_.symm) (fun h_ => ((Kd.R_mono (ok' := fun k_ => ((fun k_ => k_ ≠ gb310)) k_ ∧ some k_ ≠ (u304001 : Value).ownBlock) (Kd.R_types (Kd.R_apart' (HO_311002.out) (Kd.S_typed HO_304001.out) (by decide)) BK310.out (by decide)) (fun k_ hk => ⟨hk.2, hk.1.2⟩))).1 k_ h_.symm)) ?aF ?aO (Below.refl _ _) ?aS ?aL ?_; (case aP => exact k66_mkM _ _ _ (⟨t307, x311001_16, x311002_4⟩ : S66) (Kd.R_mono (Kd.R_tight rfl (Kd.R_mono (ok' := fun k_ => ((fun k_ => k_ ≠ gb310)) k_ ∧ some k_ ≠ (u304001 : Value).ownBlock) (Kd.R_types (Kd.R_apart' (HO_311001.out) (Kd.S_typed HO_304001.out) (by decide)) BK310.out (by decide)) (fun k_ hk => ⟨hk.2, hk.1.2⟩))) (fun _ h_ => Or.inl h_)) (Kd.R_mono (Kd.R_tight rfl (Kd.R_mono (ok' := fun k_ => ((fun k_ => k_ ≠ gb310)) k_ ∧ some k_ ≠ (u304001 : Value).ownBlock) (Kd.R_types (Kd.R_apart' (HO_311002.out) (Kd.S_typed HO_304001.out) (by decide)) BK310.out (by decide)) (fun k_ hk => ⟨hk.2, hk.1.2⟩))) (fun _ h_ => Or.inr (h_)))); (case aF => exact (fun k_ hk => Kd.freshB (zb BK310) k_ hk)); (case aO => exact (Kd.S_mono (zs HO_304001) (fun k_ hk => ⟨hk.2.2, fun e_ => e_.elim (fun h_ => hk.1 h_) (fun h_ => hk.2.1 h_)⟩))); (case aS => exact (keep_size (w := w) (g := g) (row := none) (zk HK))); (case aL => have := LMc40.out; omega); intro v324 w49 ho hb hg hat; rw [← Ny323.out] at ho; replace BK299 := Aside0.mk (blk_grown (zb BK299) hg (Kd.S_ne HO_304001.out BK299.out (by decide))); replace BK303 := Aside0.mk (blk_grown (zb BK303) hg (Kd.S_ne HO_304001.out BK303.out (by decide))); replace BK310 := Aside0.mk (blk_grown (zb BK310) hg (Kd.S_away HO_304001.out (fun _ hk => hk.2.2))); replace HI0 := Aside0.mk (IsS74.grown (zi74 HI0) hg (IsS74.own_neS HI0.out HO_304001.out (by decide))); replace HB := Aside0.mk (below_weaken (zj74 HB) HL.out hb); replace HK := Aside0.mk (KeepBut.trans (zk HK) (KeepBut.of_grown hg g) (Kd.S_base2 HO_304001.out)); have HO325 := Aside0.mk (ho); clear HO_304001 HO_311001 HO_311002; clear ho hb hg hat; obtain ⟨Ao52, co52, eo52⟩ := Kd.S_slice HO325.out; subst eo52; obtain ⟨⟨hcz53_0, hcz53_1⟩, hfz53_0, hfz53_1⟩ := zc2 BK303))
          go_roundg k4
          case measure => have := HK1.out; have := HJ10.out; have := HJ16.out; have := HK4.out; omega
          case rel => exact ⟨(wrap64 (x4_1 - 1)), (x1001_4), (true), (y323), (.slice Ao52 y323.length co52), zrs, H', ⟨by have := HK1.out; have := HJ10.out; have := HJ16.out; have := HK4.out; omega⟩, ⟨by (with_reducible repeat (first | apply Kd.S_alloc | apply Kd.S_drewN | apply Kd.S_drew)); exact Kd.S_mono (Kd.S_far (p := ⟨gb303, 1, none⟩) (Kd.S_types HO325.out BK303.out (by decide)) (fun _ hk => hk.2) (.slice Ao52 y323.length co52)) (fun _ hk => trivial)⟩, ⟨zp BK299⟩, ⟨zp BK303⟩, ⟨zi74 HI0⟩, ⟨zk HK⟩, ⟨zj74 HB⟩⟩
         replace c39 := Bool.eq_false_iff.mpr c39
         subst c39
         rw [if_neg (show ¬ (false = true) by decide)] at H
         replace H := Option.bind_eq_some_iff.mp H
         obtain ⟨⟨t326, t327, t328⟩, A540, H⟩ := H
         try dsimp only at H
         have A54 := Aside0.mk A540
         clear A540
         by_cases c55 : x311002_4.length < 17592186044416
         rotate_left
         ·rw [if_neg c55] at H
          exact absurd H (by simp)
         rw [if_pos c55] at H
         have LMc55 := Aside0.mk c55
         clear c55
         obtain ⟨y329, hy329⟩ : ∃ y_ : List Int, y_ = (x311002_4 ++ [t326]) := ⟨_, rfl⟩
         replace H : (spec_l06Reader_doc.l2 k4 x4_1 (wrap64 (x7_4 - 1)) s0_0 t327 t328 t300 x304001_1 t307 x311001_16 y329) = some (r1, r2, r3, r4) := zby hy329 H
         have Ny329 := Aside0.mk hy329
         clear hy329
         have H' := Aside0.mk H
         clear H
         obtain ⟨ASz56_0, cSz56_0, HGz56, hgz56, HSz56_0⟩ := HI0.out
         have hcz56_0 := cellS74_0 HGz56
         have hcz56_1 := cellS74_1 HGz56
         have hcz56_2 := cellS74_2 HGz56
         have hfz56_1 := blk_frozen HGz56 1
         have hfz56_2 := blk_frozen HGz56 2
         clear HGz56 hgz56
         try go_wp2
         replace HO_304001 := Aside0.mk (Kd.S_drew HO_304001.out)
         replace HO_311001 := Aside0.mk (Kd.R_drew HO_311001.out)
         replace HO_311002 := Aside0.mk (Kd.R_drew HO_311002.out)
         replace BK299 := Aside0.mk (blk_drew BK299.out)
         replace BK303 := Aside0.mk (blk_drew BK303.out)
         replace BK310 := Aside0.mk (blk_drew BK310.out)
         replace HI0 := Aside0.mk (IsS74.drew HI0.out)
         replace HK := Aside0.mk (keep_drew HK.out)
         replace HB := Aside0.mk (below_drew1 HB.out)
         refine start_ (n := 8) (S := fun w' => w'.cell? ⟨gb310, 0, none⟩ = some (.string t307) ∧ w'.cell? ⟨gb310, 1, none⟩ = some (u311001) ∧ w'.cell? ⟨gb310, 2, none⟩ = some (u311002)) (ds := [7]) (fl10_ 8 0) (by kernel_rfl) rfl rfl ⟨(blk_cell BK310.out 0).trans rfl, (blk_cell BK310.out 1).trans rfl, (blk_cell BK310.out 2).trans rfl⟩ (fun hHeld => ?_); refine with_tabW spec_l06Reader_doc.tab13 spec_l06Reader_doc.bits13 (fun HT_ HW_ => ?_)
         generalize wr.drew = w57 at HO_304001 HO_311001 HO_311002 BK299 BK303 BK310 HI0 HK HB hHeld ⊢
         refine zpu HT_ 0 60 (fl10_ 8 1) ?_
         refine zpu HT_ 2 62 (fl10_ 8 5) ?_
         refine take_ (i := 1) (N := some 61) (v := ?_) (a' := ?_) (fl10_ 8 7) rfl rfl (take_ofW HT_.out HW_.out (by kernel_rfl)) (fun _ _ _ h => h) (Or.inl ⟨by rfl, ?_⟩) hHeld ?_ ?_
         rotate_left
         ·rintro w' ⟨s0, s1, s2⟩
          go_simp
          with_reducible rfl
         rotate_left
         ·simp only [Act.put, List.setIfInBounds_toArray, List.set_cons_zero, List.set_cons_succ, i64_w, i32_w]
          rfl
         refine one_ (i := 3) (N := some 63) (fl10_ 8 15) rfl rfl (one_of HT_.out (by kernel_rfl)) (by decide) (fun K hK => ?_)
         refine goes_ Try.func71 (by kernel_rfl) rfl #[.pointer (some ⟨g, 0, none⟩)] (by rfl) rfl rfl zar ?_
         with_reducible refine (spec_l06Reader_number.calls k4 g s0_0 x1001_4 false t326 t327 t328 w0 _ ?side1 ?side2 A54.out).mono ?_
         (case side1 => exact zi74 HI0)
         (case side2 => exact zj74 HB)
         rintro e w58 ⟨rfl, hi, hb, hk⟩
         refine ⟨_, rfl, ?_⟩
         replace HO_304001 := Aside0.mk (Kd.S_mono (Kd.S_keep (IsS74.apartS (show IsS74 w0 _ g s0_0 x1001_4 false from zi74 HI0) (zs HO_304001) (by decide)) hk (fun _ h => h.2)) (fun _ h => h.1))
         replace HO_311001 := Aside0.mk (Kd.R_mono (Kd.R_keep (IsS74.apart (show IsS74 w0 _ g s0_0 x1001_4 false from zi74 HI0) (zr HO_311001) (by decide)) hk (fun _ h => h.2)) (fun _ h => h.1))
         replace HO_311002 := Aside0.mk (Kd.R_mono (Kd.R_keep (IsS74.apart (show IsS74 w0 _ g s0_0 x1001_4 false from zi74 HI0) (zr HO_311002) (by decide)) hk (fun _ h => h.2)) (fun _ h => h.1))
         replace BK299 := Aside0.mk (KeepBut.blk hk (g' := gb299) (o := .cells #[.string (⟨#[]⟩ : ByteArray), .slice none 0 0] 31 (0, 0)) (zb BK299) NB299_0.out (by simp))
         replace BK303 := Aside0.mk (KeepBut.blk hk (g' := gb303) (o := .cells #[.string t300, u304001] 31 (0, 0)) (zb BK303) NB303_0.out (by simp))
         replace BK310 := Aside0.mk (KeepBut.blk hk (g' := gb310) (o := .cells #[.string t307, u311001, u311002] 66 (0, 0)) (zb BK310) NB310_0.out (by simp))
         replace HK := Aside0.mk (KeepBut.trans (zk HK) hk (.inl rfl))
         replace HB := Aside0.mk (hb)
         replace HI0 := Aside0.mk (hi)
         (try clear hb)
         (try clear hb2)
         (try clear hk)
         (try clear hi)
         refine hK.out _ _ ⟨(blk_cell BK310.out 0).trans rfl, (blk_cell BK310.out 1).trans rfl, (blk_cell BK310.out 2).trans rfl⟩ (fun hHeld => ?_)
         clear hK K
         refine norm_ (a' := ?_) ?_ ?_
         rotate_left
         ·show Act.put _ (some 63) _ = _
          simp only [Act.put, List.setIfInBounds_toArray, List.set_cons_zero, List.set_cons_succ, i64_w, i32_w]
          rfl
         refine one_ (i := 4) (N := some 64) (fl10_ 8 31) rfl rfl (one_of HT_.out (by kernel_rfl)) (by decide) (fun K hK => ?_)
         refine value_ (w1 := ?_) (v := ?_) (by rfl) rfl ?_ ?_
         rotate_left 2
         ·go_simp
          constructor
          ·rfl
          ·rfl
         refine hK.out _ _ ⟨(blk_cell (blk_alloc BK310.out _) 0).trans rfl, (blk_cell (blk_alloc BK310.out _) 1).trans rfl, (blk_cell (blk_alloc BK310.out _) 2).trans rfl⟩ (fun hHeld => ?_)
         clear hK K
         refine norm_ (a' := ?_) ?_ ?_
         rotate_left
         ·show Act.put _ (some 64) _ = _
          simp only [Act.put, List.setIfInBounds_toArray, List.set_cons_zero, List.set_cons_succ, i64_w, i32_w]
          rfl
         refine one_ (i := 5) (N := some 65) (fl10_ 8 63) rfl rfl (one_of HT_.out (by kernel_rfl)) (by decide) (fun K hK => ?_)
         refine Kd.R_append_step (Kd.int .i64) w.heap.size (by rfl) (.tmp 61) (.tmp 64) 52 3 (.int .i64 0) 8 rfl Try.underlying52 info3 rfl (by decide) (by omega) u311002 x311002_4 t326 [.int .i64 t326] (fun _ => True) (fun _ => False) rfl rfl ?aP (fun _ hk => hk.elim) ?aF ?aO (Below.refl _ _) ?aS ?aL ?_
         (case aP => exact rfl)
         (case aF => exact (fun _ _ => trivial))
         (case aO => exact (zr HO_311002))
         (case aS => exact (keep_size (w := w) (g := g) (row := none) (zk HK)))
         (case aL => have := LMc55.out; omega)
         intro v330 w59 ho hb hg hat
         rw [← Ny329.out] at ho
         replace HO_304001 := Aside0.mk (Kd.S_after (ok := (fun k_ => some k_ ≠ (u311001 : Value).ownBlock ∧ k_ ≠ gb310)) (Kd.S_mono (zs HO_304001) (fun _ hk => ⟨⟨hk.1, hk.2.2⟩, hk.2.1⟩)) hg hat)
         replace HO_311001 := Aside0.mk (Kd.R_over' (zr HO_311001) (Kd.R_typed (zr HO_311002)) (by decide) hg)
         replace BK299 := Aside0.mk (blk_grown (zb BK299) hg (Kd.R_ne HO_311002.out BK299.out (by decide)))
         replace BK303 := Aside0.mk (blk_grown (zb BK303) hg (Kd.R_ne HO_311002.out BK303.out (by decide)))
         replace BK310 := Aside0.mk (blk_grown (zb BK310) hg (Kd.R_ne HO_311002.out BK310.out (by decide)))
         replace HI0 := Aside0.mk (IsS74.grown (zi74 HI0) hg (IsS74.own_ne HI0.out HO_311002.out (by decide)))
         replace HB := Aside0.mk (below_weaken (zj74 HB) HL.out hb)
         replace HK := Aside0.mk (KeepBut.trans (zk HK) (KeepBut.of_grown hg g) (Kd.R_base2 HO_311002.out))
         have HO331 := Aside0.mk (ho)
         clear HO_311002
         clear ho hb hg hat
         obtain ⟨Ao60, co60, eo60⟩ := Kd.R_slice HO331.out
         (first | subst eo60 | (injection eo60 with f1_ f2_ f3_; have f4_ := f1_.symm; have f5_ := f3_.symm; clear f1_ f2_ f3_; subst f4_; subst f5_))
         refine hK.out _ _ ⟨(blk_cell BK310.out 0).trans rfl, (blk_cell BK310.out 1).trans rfl, (blk_cell BK310.out 2).trans rfl⟩ (fun hHeld => ?_)
         clear hK K
         refine norm_ (a' := ?_) ?_ ?_
         rotate_left
         ·show Act.put _ (some 65) _ = _
          simp only [Act.put, List.setIfInBounds_toArray, List.set_cons_zero, List.set_cons_succ, i64_w, i32_w]
          rfl
         refine zpu HT_ 6 66 (fl10_ 8 127) ?_
         refine last_ (i := 7) (N := none) (fl10_ 8 255) rfl rfl (one_of HT_.out (by kernel_rfl)) (by decide) (fun K hK => ?_)
         have hs61 : w59.cell? ⟨gb310, 2, none⟩ = some (u311002) := (blk_cell BK310.out 2).trans rfl
         have hfs61 := blk_frozen BK310.out 2
         have hns61_0 := NB299_310.out
         have hns61_1 := NB303_310.out
         have hms61_0 := NB310_299.out
         have hms61_1 := NB310_303.out
         refine skip_ (w1 := ?_) (by rfl) rfl ?_ ?_
         rotate_left
         ·go_simp
          rfl
         refine hK.out _ _ ?_
         clear hK K
         refine done_ (done_of HT_.out (by kernel_rfl)) ?_
         try go_wp2
         go_roundg k4
         case measure => have := HK1.out; have := HJ10.out; have := HJ16.out; have := HK4.out; omega
         case rel => exact ⟨(wrap64 (x7_4 - 1)), (t327), (t328), (y329), (.slice Ao60 y329.length co60), zrs, H', ⟨by have := HK1.out; have := HJ10.out; have := HJ16.out; have := HK4.out; omega⟩, ⟨by (with_reducible repeat (first | apply Kd.S_alloc | apply Kd.S_drewN | apply Kd.S_drew)); exact Kd.S_mono (Kd.S_far (p := ⟨gb310, 2, none⟩) (Kd.S_mono HO_304001.out (fun k_ hk => (⟨hk, hk.1.2⟩ : _ ∧ k_ ≠ gb310))) (fun _ hk => hk.2) (.slice Ao60 y329.length co60)) (fun _ hk => ⟨hk.1.1.1, ⟨hk.1.2, hk.1.1.2⟩⟩)⟩, ⟨by (with_reducible repeat (first | apply Kd.R_alloc | apply Kd.R_drewN | apply Kd.R_drew)); exact Kd.R_mono (Kd.R_far (p := ⟨gb310, 2, none⟩) (Kd.R_types HO_311001.out BK310.out (by decide)) (fun _ hk => hk.2) (.slice Ao60 y329.length co60)) (fun _ hk => trivial)⟩, ⟨by (with_reducible repeat (first | apply Kd.R_alloc | apply Kd.R_drewN | apply Kd.R_drew)); exact Kd.R_mono (Kd.R_far (p := ⟨gb310, 2, none⟩) (Kd.R_types HO331.out BK310.out (by decide)) (fun _ hk => hk.2) (.slice Ao60 y329.length co60)) (fun _ hk => trivial)⟩, ⟨zp BK299⟩, ⟨zp BK303⟩, ⟨zp BK310⟩, ⟨zi74 HI0⟩, ⟨zk HK⟩, ⟨zj74 HB⟩⟩
end Go.Proofs.Ytnpdmleglcbobaa.XFnExactReadLog
