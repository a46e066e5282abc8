-- A printed text of this session (wip/x/xprint.py).
import Derived.Test.YtnpdmleglcbobaaXFnExactReadLogx0
import Derived.Test.YtnpdmleglcbobaaXFnExactReadLogx2
namespace Go.Proofs.Ytnpdmleglcbobaa.XFnExactReadLog
open Go.RowKit Go.Proofs.YtnpdmleglcbobaaW.PrintWords Go.Proofs.YtnpdmleglcbobaaW.PrintLast Go.Proofs.YtnpdmleglcbobaaW.PrintMore
attribute [local go_sem] max2_int min2_int max_two min_two max_three min_three max_four min_four   -- for this text's walks alone
set_option linter.unusedVariables false
set_option linter.unusedSimpArgs false
def fl3_ (n m : Nat) : Array Bool := ((List.range n).map fun i => m.testBit i).toArray

/-! ### impl_docReader_doc: function 44 -/
mutual
def impl_docReader_doc.l0 : Nat → Int → Int → List Int → Int → Bool → ByteArray → List (S66) → Option (ByteArray × (List (S66)) × Int × Bool)
 | 0, _, _, _, _, _, _, _ => none
 | k + 1, x10, x11, x1000, x1001, x1002, x119000, x119001 => if x11 < x10 then ((impl_docReader_text.f k x1000 x1001 x1002).bind fun bt122 => ((impl_docReader_int.f k x1000 bt122.2.1 bt122.2.2 4096).bind fun bt126 => (impl_docReader_doc.l1 k x10 x11 bt126.1 0 x1000 bt126.2.1 bt126.2.2 x119000 x119001 bt122.1 ([] : List ByteArray)))) else (some (x119000, x119001, x1001, x1002))
def impl_docReader_doc.l1 : Nat → Int → Int → Int → Int → List Int → Int → Bool → ByteArray → List (S66) → ByteArray → List ByteArray → Option (ByteArray × (List (S66)) × Int × Bool)
 | 0, _, _, _, _, _, _, _, _, _, _, _ => none
 | k + 1, x10, x11, x17, x18, x1000, x1001, x1002, x119000, x119001, x126000, x126001 => if x18 < x17 then ((impl_docReader_text.f k x1000 x1001 x1002).bind fun bt129 => (if x126001.length < 8796093022208 then (if bt129.2.2 = true then (some (x119000, x119001, bt129.2.1, bt129.2.2)) else (impl_docReader_doc.l1 k x10 x11 x17 (wrap64 (x18 + 1)) x1000 bt129.2.1 bt129.2.2 x119000 x119001 x126000 (x126001 ++ [bt129.1]))) else (none))) else ((impl_docReader_int.f k x1000 x1001 x1002 4096).bind fun bt135 => (impl_docReader_doc.l2 k x10 x11 bt135.1 0 x1000 bt135.2.1 bt135.2.2 x119000 x119001 x126000 x126001 ([] : List Int)))
def impl_docReader_doc.l2 : Nat → Int → Int → Int → Int → List Int → Int → Bool → ByteArray → List (S66) → ByteArray → List ByteArray → List Int → Option (ByteArray × (List (S66)) × Int × Bool)
 | 0, _, _, _, _, _, _, _, _, _, _, _, _ => none
 | k + 1, x10, x11, x34, x35, x1000, x1001, x1002, x119000, x119001, x126000, x126001, x126002 => if x35 < x34 then ((impl_docReader_int.f k x1000 x1001 x1002 2000000000000).bind fun bt141 => (if (Int.tmod bt141.1 2) = 1 then (if x126002.length < 17592186044416 then (if bt141.2.2 = true then (some (x119000, x119001, bt141.2.1, bt141.2.2)) else (impl_docReader_doc.l2 k x10 x11 x34 (wrap64 (x35 + 1)) x1000 bt141.2.1 bt141.2.2 x119000 x119001 x126000 x126001 (x126002 ++ [wrap64 (Int.tdiv (wrap64 (-(wrap64 (bt141.1 + 1)))) 2)]))) else (none)) else (if x126002.length < 17592186044416 then (if bt141.2.2 = true then (some (x119000, x119001, bt141.2.1, bt141.2.2)) else (impl_docReader_doc.l2 k x10 x11 x34 (wrap64 (x35 + 1)) x1000 bt141.2.1 bt141.2.2 x119000 x119001 x126000 x126001 (x126002 ++ [wrap64 (Int.tdiv bt141.1 2)]))) else (none)))) else (if x119001.length < 2199023255552 then ((some (x119001 ++ [(⟨x126000, x126001, x126002⟩ : S66)] : List (S66))).bind fun y138 => (if x1002 = true then (some (x119000, y138, x1001, x1002)) else (impl_docReader_doc.l0 k x10 (wrap64 (x11 + 1)) x1000 x1001 x1002 x119000 y138))) else (none))
end
def impl_docReader_doc.f (k : Nat) (s0_0 : List Int) (s0_1 : Int) (s0_2 : Bool) : Option (ByteArray × (List (S66)) × Int × Bool) := (impl_docReader_text.f k s0_0 s0_1 s0_2).bind fun bt115 => ((impl_docReader_int.f k s0_0 bt115.2.1 bt115.2.2 4096).bind fun bt119 => (impl_docReader_doc.l0 k bt119.1 0 s0_0 bt119.2.1 bt119.2.2 bt115.1 ([] : List (S66))))
theorem impl_docReader_doc.mono_l : ∀ k, (∀ y0 y1 y2 y3 y4 y5 y6, LeO (impl_docReader_doc.l0 k y0 y1 y2 y3 y4 y5 y6) (impl_docReader_doc.l0 (k + 1) y0 y1 y2 y3 y4 y5 y6)) ∧ (∀ y0 y1 y2 y3 y4 y5 y6 y7 y8 y9 y10, LeO (impl_docReader_doc.l1 k y0 y1 y2 y3 y4 y5 y6 y7 y8 y9 y10) (impl_docReader_doc.l1 (k + 1) y0 y1 y2 y3 y4 y5 y6 y7 y8 y9 y10)) ∧ (∀ y0 y1 y2 y3 y4 y5 y6 y7 y8 y9 y10 y11, LeO (impl_docReader_doc.l2 k y0 y1 y2 y3 y4 y5 y6 y7 y8 y9 y10 y11) (impl_docReader_doc.l2 (k + 1) y0 y1 y2 y3 y4 y5 y6 y7 y8 y9 y10 y11))
 | 0 => ⟨fun _ _ _ _ _ _ _ r h => by simp [impl_docReader_doc.l0] at h, fun _ _ _ _ _ _ _ _ _ _ _ r h => by simp [impl_docReader_doc.l1] at h, fun _ _ _ _ _ _ _ _ _ _ _ _ r h => by simp [impl_docReader_doc.l2] at h⟩
 | k + 1 => by
  obtain ⟨ih0, ih1, ih2⟩ := impl_docReader_doc.mono_l k
  refine ⟨?_, ?_, ?_⟩
  all_goals intros
  all_goals first | unfold impl_docReader_doc.l0 | unfold impl_docReader_doc.l1 | unfold impl_docReader_doc.l2
  all_goals
   repeat' first
   | (with_reducible exact ih0 _ _ _ _ _ _ _)
   | (with_reducible exact ih1 _ _ _ _ _ _ _ _ _ _ _)
   | (with_reducible exact ih2 _ _ _ _ _ _ _ _ _ _ _ _)
   | (with_reducible exact impl_docReader_int.mono _ _ _ _ _)
   | (with_reducible exact impl_docReader_text.mono _ _ _ _)
   | (with_reducible exact LeO.refl _)
   | (with_reducible exact LeO.none _)
   | (with_reducible refine LeO.ite ?_ ?_)
   | (with_reducible refine LeO.bind ?_ (fun _ => ?_))
theorem impl_docReader_doc.mono : ∀ a0 a1 a2 k, LeO (impl_docReader_doc.f k a0 a1 a2) (impl_docReader_doc.f (k + 1) a0 a1 a2) := by
 intro a0 a1 a2 k
 obtain ⟨ih0, ih1, ih2⟩ := impl_docReader_doc.mono_l k
 unfold impl_docReader_doc.f
 repeat' first
  | (with_reducible exact ih0 _ _ _ _ _ _ _)
  | (with_reducible exact ih1 _ _ _ _ _ _ _ _ _ _ _)
  | (with_reducible exact ih2 _ _ _ _ _ _ _ _ _ _ _ _)
  | (with_reducible exact impl_docReader_int.mono _ _ _ _ _)
  | (with_reducible exact impl_docReader_text.mono _ _ _ _)
  | (with_reducible exact LeO.refl _)
  | (with_reducible exact LeO.none _)
  | (with_reducible refine LeO.ite ?_ ?_)
  | (with_reducible refine LeO.bind ?_ (fun _ => ?_))
def impl_docReader_doc.T7 : Bool × List (List Nat × List Nat) := (true, [([], []), ([0], [0]), ([], []), ([2], [2]), ([3], [3]), ([1, 4, 3], [1, 4]), ([0, 1, 2, 3, 4, 5], []), ([6, 5, 5, 0, 1, 2, 3, 4, 5], [5, 6])])
def impl_docReader_doc.B7 : List Nat := [0, 1, 0, 4, 12, 31, 63, 127]
theorem impl_docReader_doc.tab7 : rtab .any (opsOf Try.f44 7) = impl_docReader_doc.T7 := by kernel_rfl
theorem impl_docReader_doc.bits7 : waitsOk impl_docReader_doc.T7.2 impl_docReader_doc.B7 = true := by kernel_rfl
set_option maxHeartbeats 8000000 in
set_option maxRecDepth 100000 in
theorem impl_docReader_doc.calls (k : Nat) (g : Nat) (s0_0 : List Int) (s0_1 : Int) (s0_2 : Bool) (r1 : ByteArray) (r2 : List (S66)) (r3 : Int) (r4 : Bool) (w0 w : World) (hI : IsS78 w0 w g s0_0 s0_1 s0_2) (hB : Below w0.heap.size w0 w) (h : impl_docReader_doc.f k s0_0 s0_1 s0_2 = some (r1, r2, r3, r4)) :
 Calls Try.prog 44 #[.pointer (some ⟨g, 0, none⟩)] w fun e w' => ∃ v1_ : Value, e = .returned (.agg #[.string r1, v1_]) ∧ Kd.S k66 66 w' w.heap.size (fun _ => True) v1_ r2 ∧ IsS78 w0 w' g s0_0 r3 r4 ∧ Below w0.heap.size w0 w' ∧ KeepBut w w' g none := by
 have hu31 := Try.underlying31
 have hu66 := Try.underlying66
 have HI0 := Aside0.mk hI
 have HK := Aside0.mk (KeepBut.refl w g none)
 have HL := Aside0.mk hB.size
 clear hI
 have HW0 := Aside0.mk hB.size
 have HB := Aside0.mk hB
 clear hB
 have H := h
 unfold impl_docReader_doc.f at H
 clear h
 replace H := Option.bind_eq_some_iff.mp H
 obtain ⟨⟨t115, t116, t117⟩, A20, H⟩ := H
 try dsimp only at H
 have A2 := Aside0.mk A20
 clear A20
 replace H := Option.bind_eq_some_iff.mp H
 obtain ⟨⟨t119, t120, t121⟩, A30, H⟩ := H
 try dsimp only at H
 have A3 := Aside0.mk A30
 clear A30
 have H' := Aside0.mk H
 clear H
 go_enter Try.func44, Try.ntmps44
 go_wp2_with (first | ((with_reducible refine gate_dst (N := 2) rfl ?_); refine box_event (by rfl) (N := 2) (by rfl) (cs := #[.string (⟨#[]⟩ : ByteArray), .slice none 0 0]) (t := 31) zgs ?_; intro gb114 hg w4 hbox hb; replace HB := Aside0.mk (below_step (zj78 HB) hb); have BK114 := Aside0.mk (hbox); have GW114 := zge hg (keep_size (w := w) (g := g) (row := none) (zk HK)); have GE114 := Aside0.mk ((Nat.le_trans HW0.out (by rw [hg]; exact (keep_size (w := w) (g := g) (row := none) (zk HK)) : w.heap.size ≤ gb114) : w0.heap.size ≤ gb114)); replace HK := Aside0.mk (KeepBut.trans (zk HK) (KeepBut.of_below hb g none) (.inl rfl)); have NB0_114 := znl hg (IsS78.lt (show IsS78 w0 _ g s0_0 s0_1 s0_2 from zi78 HI0)); have NB114_0 := zng hg (IsS78.lt (show IsS78 w0 _ g s0_0 s0_1 s0_2 from zi78 HI0)); replace HI0 := Aside0.mk (IsS78.below (zi78 HI0) hb); clear hb hbox hg) | ((with_reducible refine gate_callee (f := 72) rfl ?_); refine goesL_ (some 7) rfl rfl Try.func72 (by kernel_rfl) rfl #[.pointer (some ⟨g, 0, none⟩)] rfl zar ?_; (with_reducible refine (impl_docReader_text.calls k g s0_0 s0_1 s0_2 t115 t116 t117 w0 _ ?side1 ?side2 A2.out).mono ?_); (case side1 => exact zi78 HI0); (case side2 => exact zj78 HB); rintro e w5 ⟨rfl, hi, hb, hk⟩; refine ⟨_, rfl, ?_⟩; replace BK114 := Aside0.mk (KeepBut.blk hk (g' := gb114) (o := .cells #[.string (⟨#[]⟩ : ByteArray), .slice none 0 0] 31 (0, 0)) (zb BK114) NB114_0.out (by simp)); replace HK := Aside0.mk (KeepBut.trans (zk HK) hk (.inl rfl)); replace HB := Aside0.mk (hb); replace HI0 := Aside0.mk (hi); (try clear hb); (try clear hb2); (try clear hk); (try clear hi)) | ((with_reducible refine gate_dst (N := 3) rfl ?_); refine box_event (by rfl) (N := 3) (by rfl) (cs := #[.string (⟨#[]⟩ : ByteArray), .slice none 0 0]) (t := 31) zgs ?_; intro gb118 hg w6 hbox hb; replace HB := Aside0.mk (below_step (zj78 HB) hb); have BK118 := Aside0.mk (hbox); have GW118 := zge hg (keep_size (w := w) (g := g) (row := none) (zk HK)); have GE118 := Aside0.mk ((Nat.le_trans HW0.out (by rw [hg]; exact (keep_size (w := w) (g := g) (row := none) (zk HK)) : w.heap.size ≤ gb118) : w0.heap.size ≤ gb118)); replace HK := Aside0.mk (KeepBut.trans (zk HK) (KeepBut.of_below hb g none) (.inl rfl)); have NB114_118 := znl hg (blk_lt (zb BK114)); have NB118_114 := zng hg (blk_lt (zb BK114)); replace BK114 := Aside0.mk (blk_below (zb BK114) hb); have NB0_118 := znl hg (IsS78.lt (show IsS78 w0 _ g s0_0 t116 t117 from zi78 HI0)); have NB118_0 := zng hg (IsS78.lt (show IsS78 w0 _ g s0_0 t116 t117 from zi78 HI0)); replace HI0 := Aside0.mk (IsS78.below (zi78 HI0) hb); clear hb hbox hg; have hnb7 := NB118_114.out; have hnc7 := NB114_118.out; have hnb8 := NB118_0.out; have hnc8 := NB0_118.out; obtain ⟨⟨hcz9_0, hcz9_1⟩, hfz9_0, hfz9_1⟩ := zc2 BK118) | ((with_reducible refine gate_callee (f := 73) rfl ?_); refine goesL_ (some 10) rfl rfl Try.func73 (by kernel_rfl) rfl #[.pointer (some ⟨g, 0, none⟩), .int .i64 4096] rfl zar ?_; (with_reducible refine (impl_docReader_int.calls k g s0_0 t116 t117 4096 t119 t120 t121 w0 _ ?side1 ?side2 A3.out).mono ?_); (case side1 => exact zi78 HI0); (case side2 => exact zj78 HB); rintro e w10 ⟨rfl, hi, hb, hk⟩; refine ⟨_, rfl, ?_⟩; replace BK114 := Aside0.mk (KeepBut.blk hk (g' := gb114) (o := .cells #[.string (⟨#[]⟩ : ByteArray), .slice none 0 0] 31 (0, 0)) (zp BK114) NB114_0.out (by simp)); replace BK118 := Aside0.mk (KeepBut.blk hk (g' := gb118) (o := .cells #[.string t115, .slice none 0 0] 31 (0, 0)) (zp BK118) NB118_0.out (by simp)); replace HK := Aside0.mk (KeepBut.trans (zk HK) hk (.inl rfl)); replace HB := Aside0.mk (hb); replace HI0 := Aside0.mk (hi); (try clear hb); (try clear hb2); (try clear hk); (try clear hi)))
 go_loopg [11] k (fun kq v11 w' => ∃ (x11_1 : Int) (x1001_1 : Int) (x1002_1 : Bool) (x115000_1 : ByteArray) (x119001_1 : List (S66)) (u119001 : Value), v11 = .int .i64 x11_1 ∧ Aside0 (impl_docReader_doc.l0 kq t119 x11_1 s0_0 x1001_1 x1002_1 t115 x119001_1 = some (r1, r2, r3, r4)) ∧ Aside0 (kq ≤ k) ∧ Aside0 (Kd.S k66 66 w' w.heap.size (fun _ => True) u119001 x119001_1) ∧ Aside0 (w'.heap[gb114]? = some (.cells #[.string x115000_1, (.slice none 0 0)] 31 (0, 0))) ∧ Aside0 (w'.heap[gb118]? = some (.cells #[.string t115, u119001] 31 (0, 0))) ∧ Aside0 (IsS78 w0 w' g s0_0 x1001_1 x1002_1) ∧ Aside0 (KeepBut w w' g none) ∧ Aside0 (Below w0.heap.size w0 w'))
 case atStart => exact ⟨(0), (t120), (t121), ((⟨#[]⟩ : ByteArray)), (([] : List (S66))), (.slice none 0 0), zrs, H', ⟨Nat.le_refl _⟩, ⟨by first | exact Kd.S_nil _ _ _ _ _ | exact Kd.N_nil _ _ _ _ _ | exact Kd.V_nil _ _ _ _ _ | exact Kd.Q_nil _ _ _ _ _ | exact Kd.R_nil _ _ _ _ _⟩, ⟨zb BK114⟩, ⟨zb BK118⟩, ⟨zi78 HI0⟩, ⟨zk HK⟩, ⟨zj78 HB⟩⟩
 case round =>
  clear H'
  try clear hcz9_0 hcz9_1 hfz9_0 hfz9_1
  obtain ⟨x11_1, x1001_1, x1002_1, x115000_1, x119001_1, u119001, rfl, HA, HK1, HO_119001, BK114, BK118, HI0, HK, HB⟩ := hrel
  cases gk with
  | zero => exact absurd HA.out (by simp [impl_docReader_doc.l0])
  | succ k1 =>
   have H := HA.out
   clear HA
   simp only [impl_docReader_doc.l0] at H
   by_cases c11 : x11_1 < t119
   rotate_left
   ·rw [if_neg c11] at H
    have c11b0 : decide (x11_1 < t119) = false := decide_eq_false c11
    clear c11
    simp only [Option.some.injEq, Prod.mk.injEq] at H
    obtain ⟨rfl, rfl, rfl, rfl⟩ := H
    have hnb132 := NB118_114.out
    have hnc132 := NB114_118.out
    have hnb133 := NB118_0.out
    have hnc133 := NB0_118.out
    obtain ⟨⟨hcz134_0, hcz134_1⟩, hfz134_0, hfz134_1⟩ := zc2 BK118
    have hnb135 := NB114_0.out
    have hnc135 := NB0_114.out
    obtain ⟨⟨hcz136_0, hcz136_1⟩, hfz136_0, hfz136_1⟩ := zc2 BK114
    obtain ⟨Ao137, co137, eo137⟩ := Kd.S_slice HO_119001.out
    subst eo137
    go_wp2
    refine bodyPost_ret (results_cell_row rfl _ _ gb114 31 #[.string t115, .slice Ao137 x119001_1.length co137] (0, 0) _ rfl (zp BK114) Try.underlying31 rfl (by kernel_rfl)) rfl ?_
    exact ⟨_, zre, by (with_reducible repeat (first | apply Kd.S_alloc | apply Kd.S_drewN | apply Kd.S_drew)); exact Kd.S_mono (Kd.S_far (p := ⟨gb114, 1, none⟩) (Kd.S_far (p := ⟨gb114, 0, none⟩) (Kd.S_types HO_119001.out BK114.out (by decide)) (fun _ hk => hk.2) (.string t115)) (fun _ hk => hk.2) (.slice Ao137 x119001_1.length co137)) (fun _ hk => trivial), zi78 HI0, zj78 HB, zk HK⟩

   rw [if_pos c11] at H
   have c11b0 : decide (x11_1 < t119) = true := decide_eq_true c11
   clear c11
   replace H := Option.bind_eq_some_iff.mp H
   obtain ⟨⟨t122, t123, t124⟩, A120, H⟩ := H
   try dsimp only at H
   have A12 := Aside0.mk A120
   clear A120
   replace H := Option.bind_eq_some_iff.mp H
   obtain ⟨⟨t126, t127, t128⟩, A130, H⟩ := H
   try dsimp only at H
   have A13 := Aside0.mk A130
   clear A130
   have H' := Aside0.mk H
   clear H
   go_wp2_with (first | ((with_reducible refine gate_callee (f := 72) rfl ?_); refine goesL_ (some 14) rfl rfl Try.func72 (by kernel_rfl) rfl #[.pointer (some ⟨g, 0, none⟩)] rfl zar ?_; (with_reducible refine (impl_docReader_text.calls k1 g s0_0 x1001_1 x1002_1 t122 t123 t124 w0 _ ?side1 ?side2 A12.out).mono ?_); (case side1 => exact zi78 HI0); (case side2 => exact zj78 HB); rintro e w14 ⟨rfl, hi, hb, hk⟩; refine ⟨_, rfl, ?_⟩; replace HO_119001 := Aside0.mk (Kd.S_mono (Kd.S_keep (IsS78.apartS (show IsS78 w0 _ g s0_0 x1001_1 x1002_1 from zi78 HI0) (zs HO_119001) (by decide)) hk (fun _ h => h.2)) (fun _ h => h.1)); replace BK114 := Aside0.mk (KeepBut.blk hk (g' := gb114) (o := .cells #[.string x115000_1, .slice none 0 0] 31 (0, 0)) (zb BK114) NB114_0.out (by simp)); replace BK118 := Aside0.mk (KeepBut.blk hk (g' := gb118) (o := .cells #[.string t115, u119001] 31 (0, 0)) (zb BK118) NB118_0.out (by simp)); replace HK := Aside0.mk (KeepBut.trans (zk HK) hk (.inl rfl)); replace HB := Aside0.mk (hb); replace HI0 := Aside0.mk (hi); (try clear hb); (try clear hb2); (try clear hk); (try clear hi)) | ((with_reducible refine gate_dst (N := 4) rfl ?_); refine box_event (by rfl) (N := 4) (by rfl) (cs := #[.string (⟨#[]⟩ : ByteArray), .slice none 0 0, .slice none 0 0]) (t := 66) zgs ?_; intro gb125 hg w15 hbox hb; replace HO_119001 := Aside0.mk (Kd.S_below (Kd.S_elderB (zs HO_119001) gb125 (Nat.le_of_eq hg.symm)) hb); replace HB := Aside0.mk (below_step (zj78 HB) hb); have BK125 := Aside0.mk (hbox); have GW125 := zge hg (keep_size (w := w) (g := g) (row := none) (zk HK)); have GE125 := Aside0.mk ((Nat.le_trans HW0.out (by rw [hg]; exact (keep_size (w := w) (g := g) (row := none) (zk HK)) : w.heap.size ≤ gb125) : w0.heap.size ≤ gb125)); replace HK := Aside0.mk (KeepBut.trans (zk HK) (KeepBut.of_below hb g none) (.inl rfl)); have NB114_125 := znl hg (blk_lt (zb BK114)); have NB125_114 := zng hg (blk_lt (zb BK114)); replace BK114 := Aside0.mk (blk_below (zb BK114) hb); have NB118_125 := znl hg (blk_lt (zb BK118)); have NB125_118 := zng hg (blk_lt (zb BK118)); replace BK118 := Aside0.mk (blk_below (zb BK118) hb); have NB0_125 := znl hg (IsS78.lt (show IsS78 w0 _ g s0_0 t123 t124 from zi78 HI0)); have NB125_0 := zng hg (IsS78.lt (show IsS78 w0 _ g s0_0 t123 t124 from zi78 HI0)); replace HI0 := Aside0.mk (IsS78.below (zi78 HI0) hb); clear hb hbox hg; have hnb16 := NB125_114.out; have hnc16 := NB114_125.out; have hnb17 := NB125_118.out; have hnc17 := NB118_125.out; have hnb18 := NB125_0.out; have hnc18 := NB0_125.out; obtain ⟨⟨hcz19_0, hcz19_1, hcz19_2⟩, hfz19_0, hfz19_1, hfz19_2⟩ := zc3 BK125) | ((with_reducible refine gate_callee (f := 73) rfl ?_); refine goesL_ (some 17) rfl rfl Try.func73 (by kernel_rfl) rfl #[.pointer (some ⟨g, 0, none⟩), .int .i64 4096] rfl zar ?_; (with_reducible refine (impl_docReader_int.calls k1 g s0_0 t123 t124 4096 t126 t127 t128 w0 _ ?side1 ?side2 A13.out).mono ?_); (case side1 => exact zi78 HI0); (case side2 => exact zj78 HB); rintro e w20 ⟨rfl, hi, hb, hk⟩; refine ⟨_, rfl, ?_⟩; replace HO_119001 := Aside0.mk (Kd.S_mono (Kd.S_keep (IsS78.apartS (show IsS78 w0 _ g s0_0 t123 t124 from zi78 HI0) (by (with_reducible repeat (first | apply Kd.S_alloc | apply Kd.S_drewN | apply Kd.S_drew)); exact (Kd.S_mono (Kd.S_far (p := ⟨gb125, 2, none⟩) (Kd.S_far (p := ⟨gb125, 1, none⟩) (Kd.S_far (p := ⟨gb125, 0, none⟩) (Kd.S_mono HO_119001.out (fun k_ hk => (⟨hk, hk.2⟩ : _ ∧ k_ ≠ gb125))) (fun _ hk => hk.2) (.string t122)) (fun _ hk => hk.2) (.slice none 0 0)) (fun _ hk => hk.2) (.slice none 0 0)) (fun _ h_ => h_.1))) (by decide)) hk (fun _ h => h.2)) (fun _ h => h.1)); replace BK114 := Aside0.mk (KeepBut.blk hk (g' := gb114) (o := .cells #[.string x115000_1, .slice none 0 0] 31 (0, 0)) (zp BK114) NB114_0.out (by simp)); replace BK118 := Aside0.mk (KeepBut.blk hk (g' := gb118) (o := .cells #[.string t115, u119001] 31 (0, 0)) (zp BK118) NB118_0.out (by simp)); replace BK125 := Aside0.mk (KeepBut.blk hk (g' := gb125) (o := .cells #[.string t122, .slice none 0 0, .slice none 0 0] 66 (0, 0)) (zp BK125) NB125_0.out (by simp)); replace HK := Aside0.mk (KeepBut.trans (zk HK) hk (.inl rfl)); replace HB := Aside0.mk (hb); replace HI0 := Aside0.mk (hi); (try clear hb); (try clear hb2); (try clear hk); (try clear hi)))
   go_loopg [18] k1 (fun kq v18 w' => ∃ (x18_2 : Int) (x1001_2 : Int) (x1002_2 : Bool) (x115000_2 : ByteArray) (x126001_2 : List ByteArray) (u126001 : Value), v18 = .int .i64 x18_2 ∧ Aside0 (impl_docReader_doc.l1 kq t119 x11_1 t126 x18_2 s0_0 x1001_2 x1002_2 t115 x119001_1 t122 x126001_2 = some (r1, r2, r3, r4)) ∧ Aside0 (kq ≤ k1) ∧ Aside0 (Kd.S k66 66 w' w.heap.size (fun k_ => some k_ ≠ (u126001 : Value).ownBlock ∧ k_ ≠ gb125) u119001 x119001_1) ∧ Aside0 (Kd.R Kd.string 9 w' w.heap.size (fun _ => True) u126001 x126001_2) ∧ Aside0 (w'.heap[gb114]? = some (.cells #[.string x115000_2, (.slice none 0 0)] 31 (0, 0))) ∧ Aside0 (w'.heap[gb118]? = some (.cells #[.string t115, u119001] 31 (0, 0))) ∧ Aside0 (w'.heap[gb125]? = some (.cells #[.string t122, u126001, (.slice none 0 0)] 66 (0, 0))) ∧ Aside0 (IsS78 w0 w' g s0_0 x1001_2 x1002_2) ∧ Aside0 (KeepBut w w' g none) ∧ Aside0 (Below w0.heap.size w0 w'))
   case atStart => exact ⟨(0), (t127), (t128), (x115000_1), (([] : List ByteArray)), (.slice none 0 0), zrs, H', ⟨Nat.le_refl _⟩, ⟨Kd.S_mono (zs HO_119001) (fun _ hk => ⟨(by simp [Value.ownBlock]), hk.2⟩)⟩, ⟨by first | exact Kd.R_nil _ _ _ _ _ | exact Kd.N_nil _ _ _ _ _ | exact Kd.V_nil _ _ _ _ _ | exact Kd.Q_nil _ _ _ _ _ | exact Kd.S_nil _ _ _ _ _⟩, ⟨zb BK114⟩, ⟨zb BK118⟩, ⟨zb BK125⟩, ⟨zi78 HI0⟩, ⟨zk HK⟩, ⟨zj78 HB⟩⟩
   case round =>
    clear H'
    try clear c11
    try clear c11b0
    try clear hcz19_0 hcz19_1 hcz19_2
    try clear hcz9_0 hcz9_1
    try clear hfz19_0 hfz19_1 hfz19_2
    try clear hfz9_0 hfz9_1
    obtain ⟨x18_2, x1001_2, x1002_2, x115000_2, x126001_2, u126001, rfl, HA, HK2, HO_119001, HO_126001, BK114, BK118, BK125, HI0, HK, HB⟩ := hrel
    cases gk with
    | zero => exact absurd HA.out (by simp [impl_docReader_doc.l1])
    | succ k2 =>
     have H := HA.out
     clear HA
     simp only [impl_docReader_doc.l1] at H
     by_cases c21 : x18_2 < t126
     ·rw [if_pos c21] at H
      have c21b0 : decide (x18_2 < t126) = true := decide_eq_true c21
      clear c21
      replace H := Option.bind_eq_some_iff.mp H
      obtain ⟨⟨t129, t130, t131⟩, A220, H⟩ := H
      try dsimp only at H
      have A22 := Aside0.mk A220
      clear A220
      by_cases c23 : x126001_2.length < 8796093022208
      rotate_left
      ·rw [if_neg c23] at H
       exact absurd H (by simp)
      rw [if_pos c23] at H
      have LMc23 := Aside0.mk c23
      clear c23
      obtain ⟨y132, hy132⟩ : ∃ y_ : List ByteArray, y_ = (x126001_2 ++ [t129]) := ⟨_, rfl⟩
      replace H : (if t131 = true then (some (t115, x119001_1, t130, t131)) else (impl_docReader_doc.l1 k2 t119 x11_1 t126 (wrap64 (x18_2 + 1)) s0_0 t130 t131 t115 x119001_1 t122 y132)) = some (r1, r2, r3, r4) := zby hy132 H
      have Ny132 := Aside0.mk hy132
      clear hy132
      by_cases c24 : t131 = true
      rotate_left
      ·replace c24 := Bool.eq_false_iff.mpr c24
       subst c24
       rw [if_neg (show ¬ (false = true) by decide)] at H
       have H' := Aside0.mk H
       clear H
       try go_wp2
       replace HO_119001 := Aside0.mk (Kd.S_drew HO_119001.out)
       replace HO_126001 := Aside0.mk (Kd.R_drew HO_126001.out)
       replace BK114 := Aside0.mk (blk_drew BK114.out)
       replace BK118 := Aside0.mk (blk_drew BK118.out)
       replace BK125 := Aside0.mk (blk_drew BK125.out)
       replace HI0 := Aside0.mk (IsS78.drew HI0.out)
       replace HK := Aside0.mk (keep_drew HK.out)
       replace HB := Aside0.mk (below_drew1 HB.out)
       refine start_ (n := 8) (S := fun w' => w'.cell? ⟨gb125, 0, none⟩ = some (.string t122) ∧ w'.cell? ⟨gb125, 1, none⟩ = some (u126001) ∧ w'.cell? ⟨gb125, 2, none⟩ = some (.slice none 0 0)) (ds := [7]) (fl3_ 8 0) (by kernel_rfl) rfl rfl ⟨(blk_cell BK125.out 0).trans rfl, (blk_cell BK125.out 1).trans rfl, (blk_cell BK125.out 2).trans rfl⟩ (fun hHeld => ?_); refine with_tabW impl_docReader_doc.tab7 impl_docReader_doc.bits7 (fun HT_ HW_ => ?_)
       generalize wr.drew = w39 at HO_119001 HO_126001 BK114 BK118 BK125 HI0 HK HB hHeld ⊢
       refine zpu HT_ 0 20 (fl3_ 8 1) ?_
       refine zpu HT_ 2 22 (fl3_ 8 5) ?_
       refine take_ (i := 1) (N := some 21) (v := ?_) (a' := ?_) (fl3_ 8 7) rfl rfl (take_ofW HT_.out HW_.out (by kernel_rfl)) (fun _ _ _ h => h) (Or.inl ⟨by rfl, ?_⟩) hHeld ?_ ?_
       rotate_left
       ·rintro w' ⟨s0, s1, s2⟩
        go_simp
        with_reducible rfl
       rotate_left
       ·simp only [Act.put, List.setIfInBounds_toArray, List.set_cons_zero, List.set_cons_succ, i64_w, i32_w]
        rfl
       refine one_ (i := 3) (N := some 23) (fl3_ 8 15) rfl rfl (one_of HT_.out (by kernel_rfl)) (by decide) (fun K hK => ?_)
       refine goes_ Try.func72 (by kernel_rfl) rfl #[.pointer (some ⟨g, 0, none⟩)] (by rfl) rfl rfl zar ?_
       with_reducible refine (impl_docReader_text.calls k2 g s0_0 x1001_2 x1002_2 t129 t130 false w0 _ ?side1 ?side2 A22.out).mono ?_
       (case side1 => exact zi78 HI0)
       (case side2 => exact zj78 HB)
       rintro e w40 ⟨rfl, hi, hb, hk⟩
       refine ⟨_, rfl, ?_⟩
       replace HO_119001 := Aside0.mk (Kd.S_mono (Kd.S_keep (IsS78.apartS (show IsS78 w0 _ g s0_0 x1001_2 x1002_2 from zi78 HI0) (zs HO_119001) (by decide)) hk (fun _ h => h.2)) (fun _ h => h.1))
       replace HO_126001 := Aside0.mk (Kd.R_mono (Kd.R_keep (IsS78.apart (show IsS78 w0 _ g s0_0 x1001_2 x1002_2 from zi78 HI0) (zr HO_126001) (by decide)) hk (fun _ h => h.2)) (fun _ h => h.1))
       replace BK114 := Aside0.mk (KeepBut.blk hk (g' := gb114) (o := .cells #[.string x115000_2, .slice none 0 0] 31 (0, 0)) (zb BK114) NB114_0.out (by simp))
       replace BK118 := Aside0.mk (KeepBut.blk hk (g' := gb118) (o := .cells #[.string t115, u119001] 31 (0, 0)) (zb BK118) NB118_0.out (by simp))
       replace BK125 := Aside0.mk (KeepBut.blk hk (g' := gb125) (o := .cells #[.string t122, u126001, .slice none 0 0] 66 (0, 0)) (zb BK125) NB125_0.out (by simp))
       replace HK := Aside0.mk (KeepBut.trans (zk HK) hk (.inl rfl))
       replace HB := Aside0.mk (hb)
       replace HI0 := Aside0.mk (hi)
       (try clear hb)
       (try clear hb2)
       (try clear hk)
       (try clear hi)
       refine hK.out _ _ ⟨(blk_cell BK125.out 0).trans rfl, (blk_cell BK125.out 1).trans rfl, (blk_cell BK125.out 2).trans rfl⟩ (fun hHeld => ?_)
       clear hK K
       refine norm_ (a' := ?_) ?_ ?_
       rotate_left
       ·show Act.put _ (some 23) _ = _
        simp only [Act.put, List.setIfInBounds_toArray, List.set_cons_zero, List.set_cons_succ, i64_w, i32_w]
        rfl
       refine one_ (i := 4) (N := some 24) (fl3_ 8 31) rfl rfl (one_of HT_.out (by kernel_rfl)) (by decide) (fun K hK => ?_)
       refine value_ (w1 := ?_) (v := ?_) (by rfl) rfl ?_ ?_
       rotate_left 2
       ·go_simp
        constructor
        ·rfl
        ·rfl
       refine hK.out _ _ ⟨(blk_cell (blk_alloc BK125.out _) 0).trans rfl, (blk_cell (blk_alloc BK125.out _) 1).trans rfl, (blk_cell (blk_alloc BK125.out _) 2).trans rfl⟩ (fun hHeld => ?_)
       clear hK K
       refine norm_ (a' := ?_) ?_ ?_
       rotate_left
       ·show Act.put _ (some 24) _ = _
        simp only [Act.put, List.setIfInBounds_toArray, List.set_cons_zero, List.set_cons_succ, i64_w, i32_w]
        rfl
       refine one_ (i := 5) (N := some 25) (fl3_ 8 63) rfl rfl (one_of HT_.out (by kernel_rfl)) (by decide) (fun K hK => ?_)
       refine Kd.R_append_step Kd.string w.heap.size (by rfl) (.tmp 21) (.tmp 24) 64 9 (.string ⟨#[]⟩) 16 rfl Try.underlying64 info9 rfl (by decide) (by omega) u126001 x126001_2 t129 [.string t129] (fun _ => True) (fun _ => False) rfl rfl ?aP (fun _ hk => hk.elim) ?aF ?aO (Below.refl _ _) ?aS ?aL ?_
       (case aP => exact rfl)
       (case aF => exact (fun _ _ => trivial))
       (case aO => exact (zr HO_126001))
       (case aS => exact (keep_size (w := w) (g := g) (row := none) (zk HK)))
       (case aL => have := LMc23.out; omega)
       intro v133 w41 ho hb hg hat
       rw [← Ny132.out] at ho
       replace HO_119001 := Aside0.mk (Kd.S_after (ok := (fun k_ => k_ ≠ gb125)) (Kd.S_mono (zs HO_119001) (fun _ hk => ⟨hk.2, hk.1⟩)) hg hat)
       replace BK114 := Aside0.mk (blk_grown (zb BK114) hg (Kd.R_ne HO_126001.out BK114.out (by decide)))
       replace BK118 := Aside0.mk (blk_grown (zb BK118) hg (Kd.R_ne HO_126001.out BK118.out (by decide)))
       replace BK125 := Aside0.mk (blk_grown (zb BK125) hg (Kd.R_ne HO_126001.out BK125.out (by decide)))
       replace HI0 := Aside0.mk (IsS78.grown (zi78 HI0) hg (IsS78.own_ne HI0.out HO_126001.out (by decide)))
       replace HB := Aside0.mk (below_weaken (zj78 HB) HL.out hb)
       replace HK := Aside0.mk (KeepBut.trans (zk HK) (KeepBut.of_grown hg g) (Kd.R_base2 HO_126001.out))
       have HO134 := Aside0.mk (ho)
       clear HO_126001
       clear ho hb hg hat
       obtain ⟨Ao42, co42, eo42⟩ := Kd.R_slice HO134.out
       (first | subst eo42 | (injection eo42 with f1_ f2_ f3_; have f4_ := f1_.symm; have f5_ := f3_.symm; clear f1_ f2_ f3_; subst f4_; subst f5_))
       refine hK.out _ _ ⟨(blk_cell BK125.out 0).trans rfl, (blk_cell BK125.out 1).trans rfl, (blk_cell BK125.out 2).trans rfl⟩ (fun hHeld => ?_)
       clear hK K
       refine norm_ (a' := ?_) ?_ ?_
       rotate_left
       ·show Act.put _ (some 25) _ = _
        simp only [Act.put, List.setIfInBounds_toArray, List.set_cons_zero, List.set_cons_succ, i64_w, i32_w]
        rfl
       refine zpu HT_ 6 26 (fl3_ 8 127) ?_
       refine last_ (i := 7) (N := none) (fl3_ 8 255) rfl rfl (one_of HT_.out (by kernel_rfl)) (by decide) (fun K hK => ?_)
       have hs43 : w41.cell? ⟨gb125, 1, none⟩ = some (u126001) := (blk_cell BK125.out 1).trans rfl
       have hfs43 := blk_frozen BK125.out 1
       have hns43_0 := NB114_125.out
       have hns43_1 := NB118_125.out
       have hms43_0 := NB125_114.out
       have hms43_1 := NB125_118.out
       refine skip_ (w1 := ?_) (by rfl) rfl ?_ ?_
       rotate_left
       ·go_simp
        rfl
       refine hK.out _ _ ?_
       clear hK K
       refine done_ (done_of HT_.out (by kernel_rfl)) ?_
       obtain ⟨ASz44_0, cSz44_0, HGz44, hgz44, HSz44_0⟩ := HI0.out
       have hcz44_0 := cellS78_0 HGz44
       have hcz44_1 := cellS78_1 HGz44
       have hcz44_2 := cellS78_2 HGz44
       have hfz44_1 := blk_frozen HGz44 1
       have hfz44_2 := blk_frozen HGz44 2
       clear HGz44 hgz44
       try go_wp2
       go_roundg k2
       case measure => have := HK1.out; have := HK2.out; omega
       case rel => exact ⟨(wrap64 (x18_2 + 1)), (t130), (false), (x115000_2), (y132), (.slice Ao42 y132.length co42), zrs, H', ⟨by have := HK1.out; have := HK2.out; omega⟩, ⟨by (with_reducible repeat (first | apply Kd.S_alloc | apply Kd.S_drewN | apply Kd.S_drew)); exact Kd.S_mono (Kd.S_far (p := ⟨gb125, 1, none⟩) (Kd.S_mono HO_119001.out (fun k_ hk => (⟨hk, hk.1⟩ : _ ∧ k_ ≠ gb125))) (fun _ hk => hk.2) (.slice Ao42 y132.length co42)) (fun _ hk => ⟨hk.1.2, hk.1.1⟩)⟩, ⟨by (with_reducible repeat (first | apply Kd.R_alloc | apply Kd.R_drewN | apply Kd.R_drew)); exact Kd.R_mono (Kd.R_far (p := ⟨gb125, 1, none⟩) (Kd.R_types HO134.out BK125.out (by decide)) (fun _ hk => hk.2) (.slice Ao42 y132.length co42)) (fun _ hk => trivial)⟩, ⟨zp BK114⟩, ⟨zp BK118⟩, ⟨zp BK125⟩, ⟨zi78 HI0⟩, ⟨zk HK⟩, ⟨zj78 HB⟩⟩
      subst c24
      rw [if_pos rfl] at H
      simp only [Option.some.injEq, Prod.mk.injEq] at H
      obtain ⟨rfl, rfl, rfl, rfl⟩ := H
      try go_wp2
      replace HO_119001 := Aside0.mk (Kd.S_drew HO_119001.out)
      replace HO_126001 := Aside0.mk (Kd.R_drew HO_126001.out)
      replace BK114 := Aside0.mk (blk_drew BK114.out)
      replace BK118 := Aside0.mk (blk_drew BK118.out)
      replace BK125 := Aside0.mk (blk_drew BK125.out)
      replace HI0 := Aside0.mk (IsS78.drew HI0.out)
      replace HK := Aside0.mk (keep_drew HK.out)
      replace HB := Aside0.mk (below_drew1 HB.out)
      refine start_ (n := 8) (S := fun w' => w'.cell? ⟨gb125, 0, none⟩ = some (.string t122) ∧ w'.cell? ⟨gb125, 1, none⟩ = some (u126001) ∧ w'.cell? ⟨gb125, 2, none⟩ = some (.slice none 0 0)) (ds := [7]) (fl3_ 8 0) (by kernel_rfl) rfl rfl ⟨(blk_cell BK125.out 0).trans rfl, (blk_cell BK125.out 1).trans rfl, (blk_cell BK125.out 2).trans rfl⟩ (fun hHeld => ?_); refine with_tabW impl_docReader_doc.tab7 impl_docReader_doc.bits7 (fun HT_ HW_ => ?_)
      generalize wr.drew = w25 at HO_119001 HO_126001 BK114 BK118 BK125 HI0 HK HB hHeld ⊢
      refine zpu HT_ 0 20 (fl3_ 8 1) ?_
      refine zpu HT_ 2 22 (fl3_ 8 5) ?_
      refine take_ (i := 1) (N := some 21) (v := ?_) (a' := ?_) (fl3_ 8 7) rfl rfl (take_ofW HT_.out HW_.out (by kernel_rfl)) (fun _ _ _ h => h) (Or.inl ⟨by rfl, ?_⟩) hHeld ?_ ?_
      rotate_left
      ·rintro w' ⟨s0, s1, s2⟩
       go_simp
       with_reducible rfl
      rotate_left
      ·simp only [Act.put, List.setIfInBounds_toArray, List.set_cons_zero, List.set_cons_succ, i64_w, i32_w]
       rfl
      refine one_ (i := 3) (N := some 23) (fl3_ 8 15) rfl rfl (one_of HT_.out (by kernel_rfl)) (by decide) (fun K hK => ?_)
      refine goes_ Try.func72 (by kernel_rfl) rfl #[.pointer (some ⟨g, 0, none⟩)] (by rfl) rfl rfl zar ?_
      with_reducible refine (impl_docReader_text.calls k2 g s0_0 x1001_2 x1002_2 t129 t130 true w0 _ ?side1 ?side2 A22.out).mono ?_
      (case side1 => exact zi78 HI0)
      (case side2 => exact zj78 HB)
      rintro e w26 ⟨rfl, hi, hb, hk⟩
      refine ⟨_, rfl, ?_⟩
      replace HO_119001 := Aside0.mk (Kd.S_mono (Kd.S_keep (IsS78.apartS (show IsS78 w0 _ g s0_0 x1001_2 x1002_2 from zi78 HI0) (zs HO_119001) (by decide)) hk (fun _ h => h.2)) (fun _ h => h.1))
      replace HO_126001 := Aside0.mk (Kd.R_mono (Kd.R_keep (IsS78.apart (show IsS78 w0 _ g s0_0 x1001_2 x1002_2 from zi78 HI0) (zr HO_126001) (by decide)) hk (fun _ h => h.2)) (fun _ h => h.1))
      replace BK114 := Aside0.mk (KeepBut.blk hk (g' := gb114) (o := .cells #[.string x115000_2, .slice none 0 0] 31 (0, 0)) (zb BK114) NB114_0.out (by simp))
      replace BK118 := Aside0.mk (KeepBut.blk hk (g' := gb118) (o := .cells #[.string t115, u119001] 31 (0, 0)) (zb BK118) NB118_0.out (by simp))
      replace BK125 := Aside0.mk (KeepBut.blk hk (g' := gb125) (o := .cells #[.string t122, u126001, .slice none 0 0] 66 (0, 0)) (zb BK125) NB125_0.out (by simp))
      replace HK := Aside0.mk (KeepBut.trans (zk HK) hk (.inl rfl))
      replace HB := Aside0.mk (hb)
      replace HI0 := Aside0.mk (hi)
      (try clear hb)
      (try clear hb2)
      (try clear hk)
      (try clear hi)
      refine hK.out _ _ ⟨(blk_cell BK125.out 0).trans rfl, (blk_cell BK125.out 1).trans rfl, (blk_cell BK125.out 2).trans rfl⟩ (fun hHeld => ?_)
      clear hK K
      refine norm_ (a' := ?_) ?_ ?_
      rotate_left
      ·show Act.put _ (some 23) _ = _
       simp only [Act.put, List.setIfInBounds_toArray, List.set_cons_zero, List.set_cons_succ, i64_w, i32_w]
       rfl
      refine one_ (i := 4) (N := some 24) (fl3_ 8 31) rfl rfl (one_of HT_.out (by kernel_rfl)) (by decide) (fun K hK => ?_)
      refine value_ (w1 := ?_) (v := ?_) (by rfl) rfl ?_ ?_
      rotate_left 2
      ·go_simp
       constructor
       ·rfl
       ·rfl
      refine hK.out _ _ ⟨(blk_cell (blk_alloc BK125.out _) 0).trans rfl, (blk_cell (blk_alloc BK125.out _) 1).trans rfl, (blk_cell (blk_alloc BK125.out _) 2).trans rfl⟩ (fun hHeld => ?_)
      clear hK K
      refine norm_ (a' := ?_) ?_ ?_
      rotate_left
      ·show Act.put _ (some 24) _ = _
       simp only [Act.put, List.setIfInBounds_toArray, List.set_cons_zero, List.set_cons_succ, i64_w, i32_w]
       rfl
      refine one_ (i := 5) (N := some 25) (fl3_ 8 63) rfl rfl (one_of HT_.out (by kernel_rfl)) (by decide) (fun K hK => ?_)
      refine Kd.R_append_step Kd.string w.heap.size (by rfl) (.tmp 21) (.tmp 24) 64 9 (.string ⟨#[]⟩) 16 rfl Try.underlying64 info9 rfl (by decide) (by omega) u126001 x126001_2 t129 [.string t129] (fun _ => True) (fun _ => False) rfl rfl ?aP (fun _ hk => hk.elim) ?aF ?aO (Below.refl _ _) ?aS ?aL ?_
      (case aP => exact rfl)
      (case aF => exact (fun _ _ => trivial))
      (case aO => exact (zr HO_126001))
      (case aS => exact (keep_size (w := w) (g := g) (row := none) (zk HK)))
      (case aL => have := LMc23.out; omega)
      intro v133 w27 ho hb hg hat
      rw [← Ny132.out] at ho
      replace HO_119001 := Aside0.mk (Kd.S_after (ok := (fun k_ => k_ ≠ gb125)) (Kd.S_mono (zs HO_119001) (fun _ hk => ⟨hk.2, hk.1⟩)) hg hat)
      replace BK114 := Aside0.mk (blk_grown (zb BK114) hg (Kd.R_ne HO_126001.out BK114.out (by decide)))
      replace BK118 := Aside0.mk (blk_grown (zb BK118) hg (Kd.R_ne HO_126001.out BK118.out (by decide)))
      replace BK125 := Aside0.mk (blk_grown (zb BK125) hg (Kd.R_ne HO_126001.out BK125.out (by decide)))
      replace HI0 := Aside0.mk (IsS78.grown (zi78 HI0) hg (IsS78.own_ne HI0.out HO_126001.out (by decide)))
      replace HB := Aside0.mk (below_weaken (zj78 HB) HL.out hb)
      replace HK := Aside0.mk (KeepBut.trans (zk HK) (KeepBut.of_grown hg g) (Kd.R_base2 HO_126001.out))
      have HO134 := Aside0.mk (ho)
      clear HO_126001
      clear ho hb hg hat
      obtain ⟨Ao28, co28, eo28⟩ := Kd.R_slice HO134.out
      (first | subst eo28 | (injection eo28 with f1_ f2_ f3_; have f4_ := f1_.symm; have f5_ := f3_.symm; clear f1_ f2_ f3_; subst f4_; subst f5_))
      refine hK.out _ _ ⟨(blk_cell BK125.out 0).trans rfl, (blk_cell BK125.out 1).trans rfl, (blk_cell BK125.out 2).trans rfl⟩ (fun hHeld => ?_)
      clear hK K
      refine norm_ (a' := ?_) ?_ ?_
      rotate_left
      ·show Act.put _ (some 25) _ = _
       simp only [Act.put, List.setIfInBounds_toArray, List.set_cons_zero, List.set_cons_succ, i64_w, i32_w]
       rfl
      refine zpu HT_ 6 26 (fl3_ 8 127) ?_
      refine last_ (i := 7) (N := none) (fl3_ 8 255) rfl rfl (one_of HT_.out (by kernel_rfl)) (by decide) (fun K hK => ?_)
      have hs29 : w27.cell? ⟨gb125, 1, none⟩ = some (u126001) := (blk_cell BK125.out 1).trans rfl
      have hfs29 := blk_frozen BK125.out 1
      have hns29_0 := NB114_125.out
      have hns29_1 := NB118_125.out
      have hms29_0 := NB125_114.out
      have hms29_1 := NB125_118.out
      refine skip_ (w1 := ?_) (by rfl) rfl ?_ ?_
      rotate_left
      ·go_simp
       rfl
      refine hK.out _ _ ?_
      clear hK K
      refine done_ (done_of HT_.out (by kernel_rfl)) ?_
      obtain ⟨ASz30_0, cSz30_0, HGz30, hgz30, HSz30_0⟩ := HI0.out
      have hcz30_0 := cellS78_0 HGz30
      have hcz30_1 := cellS78_1 HGz30
      have hcz30_2 := cellS78_2 HGz30
      have hfz30_1 := blk_frozen HGz30 1
      have hfz30_2 := blk_frozen HGz30 2
      clear HGz30 hgz30
      have hnb31 := NB118_114.out
      have hnc31 := NB114_118.out
      have hnb32 := NB118_125.out
      have hnc32 := NB125_118.out
      have hnb33 := NB118_0.out
      have hnc33 := NB0_118.out
      obtain ⟨⟨hcz34_0, hcz34_1⟩, hfz34_0, hfz34_1⟩ := zc2 BK118
      have hnb35 := NB114_125.out
      have hnc35 := NB125_114.out
      have hnb36 := NB114_0.out
      have hnc36 := NB0_114.out
      obtain ⟨⟨hcz37_0, hcz37_1⟩, hfz37_0, hfz37_1⟩ := zc2 BK114
      obtain ⟨Ao38, co38, eo38⟩ := Kd.S_slice HO_119001.out
      subst eo38
      try go_wp2
      refine bodyPost_ret (results_cell_row rfl _ _ gb114 31 #[.string t115, .slice Ao38 x119001_1.length co38] (0, 0) _ rfl (zp BK114) Try.underlying31 rfl (by kernel_rfl)) rfl ?_
      exact ⟨_, zre, by (with_reducible repeat (first | apply Kd.S_alloc | apply Kd.S_drewN | apply Kd.S_drew)); exact Kd.S_mono (Kd.S_far (p := ⟨gb114, 1, none⟩) (Kd.S_far (p := ⟨gb114, 0, none⟩) (Kd.S_far (p := ⟨gb125, 1, none⟩) (Kd.S_types (Kd.S_mono HO_119001.out (fun k_ hk => (⟨hk, hk.1⟩ : _ ∧ k_ ≠ gb125))) BK114.out (by decide)) (fun _ hk => hk.1.2) (.slice Ao28 y132.length co28)) (fun _ hk => hk.2) (.string t115)) (fun _ hk => hk.2) (.slice Ao38 x119001_1.length co38)) (fun _ hk => trivial), zi78 HI0, zj78 HB, zk HK⟩
     rw [if_neg c21] at H
     have c21b0 : decide (x18_2 < t126) = false := decide_eq_false c21
     clear c21
     replace H := Option.bind_eq_some_iff.mp H
     obtain ⟨⟨t135, t136, t137⟩, A450, H⟩ := H
     try dsimp only at H
     have A45 := Aside0.mk A450
     clear A450
     have H' := Aside0.mk H
     clear H
     go_wp2_with (first | ((with_reducible refine gate_callee (f := 73) rfl ?_); refine goesL_ (some 34) rfl rfl Try.func73 (by kernel_rfl) rfl #[.pointer (some ⟨g, 0, none⟩), .int .i64 4096] rfl zar ?_; (with_reducible refine (impl_docReader_int.calls k2 g s0_0 x1001_2 x1002_2 4096 t135 t136 t137 w0 _ ?side1 ?side2 A45.out).mono ?_); (case side1 => exact zi78 HI0); (case side2 => exact zj78 HB); rintro e w46 ⟨rfl, hi, hb, hk⟩; refine ⟨_, rfl, ?_⟩; replace HO_119001 := Aside0.mk (Kd.S_mono (Kd.S_keep (IsS78.apartS (show IsS78 w0 _ g s0_0 x1001_2 x1002_2 from zi78 HI0) (zs HO_119001) (by decide)) hk (fun _ h => h.2)) (fun _ h => h.1)); replace HO_126001 := Aside0.mk (Kd.R_mono (Kd.R_keep (IsS78.apart (show IsS78 w0 _ g s0_0 x1001_2 x1002_2 from zi78 HI0) (zr HO_126001) (by decide)) hk (fun _ h => h.2)) (fun _ h => h.1)); replace BK114 := Aside0.mk (KeepBut.blk hk (g' := gb114) (o := .cells #[.string x115000_2, .slice none 0 0] 31 (0, 0)) (zb BK114) NB114_0.out (by simp)); replace BK118 := Aside0.mk (KeepBut.blk hk (g' := gb118) (o := .cells #[.string t115, u119001] 31 (0, 0)) (zb BK118) NB118_0.out (by simp)); replace BK125 := Aside0.mk (KeepBut.blk hk (g' := gb125) (o := .cells #[.string t122, u126001, .slice none 0 0] 66 (0, 0)) (zb BK125) NB125_0.out (by simp)); replace HK := Aside0.mk (KeepBut.trans (zk HK) hk (.inl rfl)); replace HB := Aside0.mk (hb); replace HI0 := Aside0.mk (hi); (try clear hb); (try clear hb2); (try clear hk); (try clear hi)))
     go_loopg [35] k2 (fun kq v35 w' => ∃ (x35_3 : Int) (x1001_3 : Int) (x1002_3 : Bool) (x115000_3 : ByteArray) (x126002_3 : List Int) (u126002 : Value), v35 = .int .i64 x35_3 ∧ Aside0 (impl_docReader_doc.l2 kq t119 x11_1 t135 x35_3 s0_0 x1001_3 x1002_3 t115 x119001_1 t122 x126001_2 x126002_3 = some (r1, r2, r3, r4)) ∧ Aside0 (kq ≤ k2) ∧ Aside0 (Kd.S k66 66 w' w.heap.size (fun k_ => some k_ ≠ (u126001 : Value).ownBlock ∧ some k_ ≠ (u126002 : Value).ownBlock ∧ k_ ≠ gb125) u119001 x119001_1) ∧ Aside0 (Kd.R Kd.string 9 w' w.heap.size (fun _ => True) u126001 x126001_2) ∧ Aside0 (Kd.R (Kd.int .i64) 3 w' w.heap.size (fun _ => True) u126002 x126002_3) ∧ Aside0 (w'.heap[gb114]? = some (.cells #[.string x115000_3, (.slice none 0 0)] 31 (0, 0))) ∧ Aside0 (w'.heap[gb118]? = some (.cells #[.string t115, u119001] 31 (0, 0))) ∧ Aside0 (w'.heap[gb125]? = some (.cells #[.string t122, u126001, u126002] 66 (0, 0))) ∧ Aside0 (IsS78 w0 w' g s0_0 x1001_3 x1002_3) ∧ Aside0 (KeepBut w w' g none) ∧ Aside0 (Below w0.heap.size w0 w'))
     case atStart => exact ⟨(0), (t136), (t137), (x115000_2), (([] : List Int)), (.slice none 0 0), zrs, H', ⟨Nat.le_refl _⟩, ⟨Kd.S_mono (zs HO_119001) (fun _ hk => ⟨hk.1, ⟨(by simp [Value.ownBlock]), hk.2⟩⟩)⟩, ⟨zr HO_126001⟩, ⟨by first | exact Kd.R_nil _ _ _ _ _ | exact Kd.N_nil _ _ _ _ _ | exact Kd.V_nil _ _ _ _ _ | exact Kd.Q_nil _ _ _ _ _ | exact Kd.S_nil _ _ _ _ _⟩, ⟨zb BK114⟩, ⟨zb BK118⟩, ⟨zb BK125⟩, ⟨zi78 HI0⟩, ⟨zk HK⟩, ⟨zj78 HB⟩⟩
     case round =>
      clear H'
      try clear c11
      try clear c11b0
      try clear c21
      try clear c21b0
      try clear hcz19_0 hcz19_1 hcz19_2
      try clear hcz9_0 hcz9_1
      try clear hfz19_0 hfz19_1 hfz19_2
      try clear hfz9_0 hfz9_1
      obtain ⟨x35_3, x1001_3, x1002_3, x115000_3, x126002_3, u126002, rfl, HA, HK3, HO_119001, HO_126001, HO_126002, BK114, BK118, BK125, HI0, HK, HB⟩ := hrel
      cases gk with
      | zero => exact absurd HA.out (by simp [impl_docReader_doc.l2])
      | succ k3 =>
       have H := HA.out
       clear HA
       simp only [impl_docReader_doc.l2] at H
       by_cases c47 : x35_3 < t135
       rotate_left
       ·rw [if_neg c47] at H
        have c47b0 : decide (x35_3 < t135) = false := decide_eq_false c47
        clear c47
        by_cases c102 : x119001_1.length < 2199023255552
        rotate_left
        ·rw [if_neg c102] at H
         exact absurd H (by simp)
        rw [if_pos c102] at H
        have LMc102 := Aside0.mk c102
        clear c102
        obtain ⟨y138, hy138⟩ : ∃ y_ : List (S66), y_ = (x119001_1 ++ [(⟨t122, x126001_2, x126002_3⟩ : S66)]) := ⟨_, rfl⟩
        replace H : (if x1002_3 = true then (some (t115, y138, x1001_3, x1002_3)) else (impl_docReader_doc.l0 k3 t119 (wrap64 (x11_1 + 1)) s0_0 x1001_3 x1002_3 t115 y138)) = some (r1, r2, r3, r4) := zby hy138 H
        have Ny138 := Aside0.mk hy138
        clear hy138
        by_cases c103 : x1002_3 = true
        rotate_left
        ·replace c103 := Bool.eq_false_iff.mpr c103
         subst c103
         rw [if_neg (show ¬ (false = true) by decide)] at H
         have H' := Aside0.mk H
         clear H
         have hnb119 := NB118_114.out
         have hnc119 := NB114_118.out
         have hnb120 := NB118_125.out
         have hnc120 := NB125_118.out
         have hnb121 := NB118_0.out
         have hnc121 := NB0_118.out
         obtain ⟨⟨hcz122_0, hcz122_1⟩, hfz122_0, hfz122_1⟩ := zc2 BK118
         have hnb123 := NB125_114.out
         have hnc123 := NB114_125.out
         have hnb124 := NB125_0.out
         have hnc124 := NB0_125.out
         obtain ⟨⟨hcz125_0, hcz125_1, hcz125_2⟩, hfz125_0, hfz125_1, hfz125_2⟩ := zc3 BK125
         obtain ⟨Ao127, co127, eo127⟩ := Kd.R_slice HO_126001.out
         subst eo127
         obtain ⟨Ao128, co128, eo128⟩ := Kd.R_slice HO_126002.out
         subst eo128
         go_wp2_with (first | ((with_reducible refine gate_builtin (b := .append) (xs := #[.tmp 59, .tmp 61]) rfl ?_); at_builtin; refine Kd.S_append k66 w.heap.size rfl (.tmp 59) (.tmp 61) 29 66 (.agg #[(.string ⟨#[]⟩), (.slice none 0 0), (.slice none 0 0)]) 64 rfl Try.underlying29 info66 rfl (by decide) (by omega) u119001 x119001_1 (⟨t122, x126001_2, x126002_3⟩ : S66) [.string t122, .slice Ao127 x126001_2.length co127, .slice Ao128 x126002_3.length co128] (fun k_ => k_ ≠ gb125) (fun k_ => some k_ = (.slice Ao127 x126001_2.length co127 : Value).ownBlock ∨ some k_ = (.slice Ao128 x126002_3.length co128 : Value).ownBlock) rfl rfl ?aP (fun k_ hk_ => hk_.elim (fun h_ => ((Kd.R_mono (ok' := fun k_ => ((fun k_ => k_ ≠ gb125)) k_ ∧ some k_ ≠ (u119001 : Value).ownBlock) (Kd.R_types (Kd.R_apart' (HO_126001.out) (Kd.S_typed HO_119001.out) (by decide)) BK125.out (by decide)) (fun k_ hk => ⟨hk.2, hk.1.2⟩))).1 k_ h_.symm) (fun h_ => ((Kd.R_mono (ok' := fun k_ => ((fun k_ => k_ ≠ gb125)) k_ ∧ some k_ ≠ (u119001 : Value).ownBlock) (Kd.R_types (Kd.R_apart' (HO_126002.out) (Kd.S_typed HO_119001.out) (by decide)) BK125.out (by decide)) (fun k_ hk => ⟨hk.2, hk.1.2⟩))).1 k_ h_.symm)) ?aF ?aO (Below.refl _ _) ?aS ?aL ?_; (case aP => exact k66_mkM _ _ _ (⟨t122, x126001_2, x126002_3⟩ : S66) (Kd.R_mono (Kd.R_tight rfl (Kd.R_mono (ok' := fun k_ => ((fun k_ => k_ ≠ gb125)) k_ ∧ some k_ ≠ (u119001 : Value).ownBlock) (Kd.R_types (Kd.R_apart' (HO_126001.out) (Kd.S_typed HO_119001.out) (by decide)) BK125.out (by decide)) (fun k_ hk => ⟨hk.2, hk.1.2⟩))) (fun _ h_ => Or.inl h_)) (Kd.R_mono (Kd.R_tight rfl (Kd.R_mono (ok' := fun k_ => ((fun k_ => k_ ≠ gb125)) k_ ∧ some k_ ≠ (u119001 : Value).ownBlock) (Kd.R_types (Kd.R_apart' (HO_126002.out) (Kd.S_typed HO_119001.out) (by decide)) BK125.out (by decide)) (fun k_ hk => ⟨hk.2, hk.1.2⟩))) (fun _ h_ => Or.inr (h_)))); (case aF => exact (fun k_ hk => Kd.freshB (zb BK125) k_ hk)); (case aO => exact (Kd.S_mono (zs HO_119001) (fun k_ hk => ⟨hk.2.2, fun e_ => e_.elim (fun h_ => hk.1 h_) (fun h_ => hk.2.1 h_)⟩))); (case aS => exact (keep_size (w := w) (g := g) (row := none) (zk HK))); (case aL => have := LMc102.out; omega); intro v139 w126 ho hb hg hat; rw [← Ny138.out] at ho; replace BK114 := Aside0.mk (blk_grown (zb BK114) hg (Kd.S_ne HO_119001.out BK114.out (by decide))); replace BK118 := Aside0.mk (blk_grown (zb BK118) hg (Kd.S_ne HO_119001.out BK118.out (by decide))); replace BK125 := Aside0.mk (blk_grown (zb BK125) hg (Kd.S_away HO_119001.out (fun _ hk => hk.2.2))); replace HI0 := Aside0.mk (IsS78.grown (zi78 HI0) hg (IsS78.own_neS HI0.out HO_119001.out (by decide))); replace HB := Aside0.mk (below_weaken (zj78 HB) HL.out hb); replace HK := Aside0.mk (KeepBut.trans (zk HK) (KeepBut.of_grown hg g) (Kd.S_base2 HO_119001.out)); have HO140 := Aside0.mk (ho); clear HO_119001 HO_126001 HO_126002; clear ho hb hg hat; obtain ⟨Ao129, co129, eo129⟩ := Kd.S_slice HO140.out; subst eo129; obtain ⟨⟨hcz130_0, hcz130_1⟩, hfz130_0, hfz130_1⟩ := zc2 BK118; obtain ⟨ASz131_0, cSz131_0, HGz131, hgz131, HSz131_0⟩ := HI0.out; have hcz131_0 := cellS78_0 HGz131; have hcz131_1 := cellS78_1 HGz131; have hcz131_2 := cellS78_2 HGz131; have hfz131_1 := blk_frozen HGz131 1; have hfz131_2 := blk_frozen HGz131 2; clear HGz131 hgz131))
         go_roundg k3
         case measure => have := HK1.out; have := HK2.out; have := HK3.out; omega
         case rel => exact ⟨(wrap64 (x11_1 + 1)), (x1001_3), (false), (x115000_3), (y138), (.slice Ao129 y138.length co129), zrs, H', ⟨by have := HK1.out; have := HK2.out; have := HK3.out; omega⟩, ⟨by (with_reducible repeat (first | apply Kd.S_alloc | apply Kd.S_drewN | apply Kd.S_drew)); exact Kd.S_mono (Kd.S_far (p := ⟨gb118, 1, none⟩) (Kd.S_types HO140.out BK118.out (by decide)) (fun _ hk => hk.2) (.slice Ao129 y138.length co129)) (fun _ hk => trivial)⟩, ⟨zp BK114⟩, ⟨zp BK118⟩, ⟨zi78 HI0⟩, ⟨zk HK⟩, ⟨zj78 HB⟩⟩
        subst c103
        rw [if_pos rfl] at H
        simp only [Option.some.injEq, Prod.mk.injEq] at H
        obtain ⟨rfl, rfl, rfl, rfl⟩ := H
        have hnb104 := NB118_114.out
        have hnc104 := NB114_118.out
        have hnb105 := NB118_125.out
        have hnc105 := NB125_118.out
        have hnb106 := NB118_0.out
        have hnc106 := NB0_118.out
        obtain ⟨⟨hcz107_0, hcz107_1⟩, hfz107_0, hfz107_1⟩ := zc2 BK118
        have hnb108 := NB125_114.out
        have hnc108 := NB114_125.out
        have hnb109 := NB125_0.out
        have hnc109 := NB0_125.out
        obtain ⟨⟨hcz110_0, hcz110_1, hcz110_2⟩, hfz110_0, hfz110_1, hfz110_2⟩ := zc3 BK125
        obtain ⟨Ao112, co112, eo112⟩ := Kd.R_slice HO_126001.out
        subst eo112
        obtain ⟨Ao113, co113, eo113⟩ := Kd.R_slice HO_126002.out
        subst eo113
        go_wp2_with (first | ((with_reducible refine gate_builtin (b := .append) (xs := #[.tmp 59, .tmp 61]) rfl ?_); at_builtin; refine Kd.S_append k66 w.heap.size rfl (.tmp 59) (.tmp 61) 29 66 (.agg #[(.string ⟨#[]⟩), (.slice none 0 0), (.slice none 0 0)]) 64 rfl Try.underlying29 info66 rfl (by decide) (by omega) u119001 x119001_1 (⟨t122, x126001_2, x126002_3⟩ : S66) [.string t122, .slice Ao112 x126001_2.length co112, .slice Ao113 x126002_3.length co113] (fun k_ => k_ ≠ gb125) (fun k_ => some k_ = (.slice Ao112 x126001_2.length co112 : Value).ownBlock ∨ some k_ = (.slice Ao113 x126002_3.length co113 : Value).ownBlock) rfl rfl ?aP (fun k_ hk_ => hk_.elim (fun h_ => ((Kd.R_mono (ok' := fun k_ => ((fun k_ => k_ ≠ gb125)) k_ ∧ some k_ ≠ (u119001 : Value).ownBlock) (Kd.R_types (Kd.R_apart' (HO_126001.out) (Kd.S_typed HO_119001.out) (by decide)) BK125.out (by decide)) (fun k_ hk => ⟨hk.2, hk.1.2⟩))).1 k_ h_.symm) (fun h_ => ((Kd.R_mono (ok' := fun k_ => ((fun k_ => k_ ≠ gb125)) k_ ∧ some k_ ≠ (u119001 : Value).ownBlock) (Kd.R_types (Kd.R_apart' (HO_126002.out) (Kd.S_typed HO_119001.out) (by decide)) BK125.out (by decide)) (fun k_ hk => ⟨hk.2, hk.1.2⟩))).1 k_ h_.symm)) ?aF ?aO (Below.refl _ _) ?aS ?aL ?_; (case aP => exact k66_mkM _ _ _ (⟨t122, x126001_2, x126002_3⟩ : S66) (Kd.R_mono (Kd.R_tight rfl (Kd.R_mono (ok' := fun k_ => ((fun k_ => k_ ≠ gb125)) k_ ∧ some k_ ≠ (u119001 : Value).ownBlock) (Kd.R_types (Kd.R_apart' (HO_126001.out) (Kd.S_typed HO_119001.out) (by decide)) BK125.out (by decide)) (fun k_ hk => ⟨hk.2, hk.1.2⟩))) (fun _ h_ => Or.inl h_)) (Kd.R_mono (Kd.R_tight rfl (Kd.R_mono (ok' := fun k_ => ((fun k_ => k_ ≠ gb125)) k_ ∧ some k_ ≠ (u119001 : Value).ownBlock) (Kd.R_types (Kd.R_apart' (HO_126002.out) (Kd.S_typed HO_119001.out) (by decide)) BK125.out (by decide)) (fun k_ hk => ⟨hk.2, hk.1.2⟩))) (fun _ h_ => Or.inr (h_)))); (case aF => exact (fun k_ hk => Kd.freshB (zb BK125) k_ hk)); (case aO => exact (Kd.S_mono (zs HO_119001) (fun k_ hk => ⟨hk.2.2, fun e_ => e_.elim (fun h_ => hk.1 h_) (fun h_ => hk.2.1 h_)⟩))); (case aS => exact (keep_size (w := w) (g := g) (row := none) (zk HK))); (case aL => have := LMc102.out; omega); intro v139 w111 ho hb hg hat; rw [← Ny138.out] at ho; replace BK114 := Aside0.mk (blk_grown (zb BK114) hg (Kd.S_ne HO_119001.out BK114.out (by decide))); replace BK118 := Aside0.mk (blk_grown (zb BK118) hg (Kd.S_ne HO_119001.out BK118.out (by decide))); replace BK125 := Aside0.mk (blk_grown (zb BK125) hg (Kd.S_away HO_119001.out (fun _ hk => hk.2.2))); replace HI0 := Aside0.mk (IsS78.grown (zi78 HI0) hg (IsS78.own_neS HI0.out HO_119001.out (by decide))); replace HB := Aside0.mk (below_weaken (zj78 HB) HL.out hb); replace HK := Aside0.mk (KeepBut.trans (zk HK) (KeepBut.of_grown hg g) (Kd.S_base2 HO_119001.out)); have HO140 := Aside0.mk (ho); clear HO_119001 HO_126001 HO_126002; clear ho hb hg hat; obtain ⟨Ao114, co114, eo114⟩ := Kd.S_slice HO140.out; subst eo114; obtain ⟨⟨hcz115_0, hcz115_1⟩, hfz115_0, hfz115_1⟩ := zc2 BK118; obtain ⟨ASz116_0, cSz116_0, HGz116, hgz116, HSz116_0⟩ := HI0.out; have hcz116_0 := cellS78_0 HGz116; have hcz116_1 := cellS78_1 HGz116; have hcz116_2 := cellS78_2 HGz116; have hfz116_1 := blk_frozen HGz116 1; have hfz116_2 := blk_frozen HGz116 2; clear HGz116 hgz116; have hnb117 := NB114_0.out; have hnc117 := NB0_114.out; obtain ⟨⟨hcz118_0, hcz118_1⟩, hfz118_0, hfz118_1⟩ := zc2 BK114))
        refine bodyPost_ret (results_cell_row rfl _ _ gb114 31 #[.string t115, .slice Ao114 y138.length co114] (0, 0) _ rfl (zp BK114) Try.underlying31 rfl (by kernel_rfl)) rfl ?_
        exact ⟨_, zre, by (with_reducible repeat (first | apply Kd.S_alloc | apply Kd.S_drewN | apply Kd.S_drew)); exact Kd.S_mono (Kd.S_far (p := ⟨gb114, 1, none⟩) (Kd.S_far (p := ⟨gb114, 0, none⟩) (Kd.S_far (p := ⟨gb118, 1, none⟩) (Kd.S_types (Kd.S_types HO140.out BK118.out (by decide)) BK114.out (by decide)) (fun _ hk => hk.1.2) (.slice Ao114 y138.length co114)) (fun _ hk => hk.2) (.string t115)) (fun _ hk => hk.2) (.slice Ao114 y138.length co114)) (fun _ hk => trivial), zi78 HI0, zj78 HB, zk HK⟩
       rw [if_pos c47] at H
       have c47b0 : decide (x35_3 < t135) = true := decide_eq_true c47
       clear c47
       replace H := Option.bind_eq_some_iff.mp H
       obtain ⟨⟨t141, t142, t143⟩, A480, H⟩ := H
       try dsimp only at H
       have A48 := Aside0.mk A480
       clear A480
       by_cases c49 : (Int.tmod t141 2) = 1
       rotate_left
       ·rw [if_neg c49] at H
        have c49b0 : ((Int.tmod t141 2) == 1) = false := beq_eq_false_iff_ne.mpr c49
        have c49b1 : ((Int.tmod t141 2) != 1) = true := bne_iff_ne.mpr c49
        by_cases c76 : x126002_3.length < 17592186044416
        rotate_left
        ·rw [if_neg c76] at H
         exact absurd H (by simp)
        rw [if_pos c76] at H
        have LMc76 := Aside0.mk c76
        clear c76
        obtain ⟨y147, hy147⟩ : ∃ y_ : List Int, y_ = (x126002_3 ++ [wrap64 (Int.tdiv t141 2)]) := ⟨_, rfl⟩
        replace H : (if t143 = true then (some (t115, x119001_1, t142, t143)) else (impl_docReader_doc.l2 k3 t119 x11_1 t135 (wrap64 (x35_3 + 1)) s0_0 t142 t143 t115 x119001_1 t122 x126001_2 y147)) = some (r1, r2, r3, r4) := zby hy147 H
        have Ny147 := Aside0.mk hy147
        clear hy147
        by_cases c77 : t143 = true
        ·subst c77
         rw [if_pos rfl] at H
         simp only [Option.some.injEq, Prod.mk.injEq] at H
         obtain ⟨rfl, rfl, rfl, rfl⟩ := H
         go_wp2_with (first | ((with_reducible refine gate_callee (f := 73) rfl ?_); refine goesL_ (some 38) rfl rfl Try.func73 (by kernel_rfl) rfl #[.pointer (some ⟨g, 0, none⟩), .int .i64 2000000000000] rfl zar ?_; (with_reducible refine (impl_docReader_int.calls k3 g s0_0 x1001_3 x1002_3 2000000000000 t141 t142 true w0 _ ?side1 ?side2 A48.out).mono ?_); (case side1 => exact zi78 HI0); (case side2 => exact zj78 HB); rintro e w78 ⟨rfl, hi, hb, hk⟩; refine ⟨_, rfl, ?_⟩; replace HO_119001 := Aside0.mk (Kd.S_mono (Kd.S_keep (IsS78.apartS (show IsS78 w0 _ g s0_0 x1001_3 x1002_3 from zi78 HI0) (zs HO_119001) (by decide)) hk (fun _ h => h.2)) (fun _ h => h.1)); replace HO_126001 := Aside0.mk (Kd.R_mono (Kd.R_keep (IsS78.apart (show IsS78 w0 _ g s0_0 x1001_3 x1002_3 from zi78 HI0) (zr HO_126001) (by decide)) hk (fun _ h => h.2)) (fun _ h => h.1)); replace HO_126002 := Aside0.mk (Kd.R_mono (Kd.R_keep (IsS78.apart (show IsS78 w0 _ g s0_0 x1001_3 x1002_3 from zi78 HI0) (zr HO_126002) (by decide)) hk (fun _ h => h.2)) (fun _ h => h.1)); replace BK114 := Aside0.mk (KeepBut.blk hk (g' := gb114) (o := .cells #[.string x115000_3, .slice none 0 0] 31 (0, 0)) (zb BK114) NB114_0.out (by simp)); replace BK118 := Aside0.mk (KeepBut.blk hk (g' := gb118) (o := .cells #[.string t115, u119001] 31 (0, 0)) (zb BK118) NB118_0.out (by simp)); replace BK125 := Aside0.mk (KeepBut.blk hk (g' := gb125) (o := .cells #[.string t122, u126001, u126002] 66 (0, 0)) (zb BK125) NB125_0.out (by simp)); replace HK := Aside0.mk (KeepBut.trans (zk HK) hk (.inl rfl)); replace HB := Aside0.mk (hb); replace HI0 := Aside0.mk (hi); (try clear hb); (try clear hb2); (try clear hk); (try clear hi); have hnb79 := NB125_114.out; have hnc79 := NB114_125.out; have hnb80 := NB125_118.out; have hnc80 := NB118_125.out; have hnb81 := NB125_0.out; have hnc81 := NB0_125.out; obtain ⟨⟨hcz82_0, hcz82_1, hcz82_2⟩, hfz82_0, hfz82_1, hfz82_2⟩ := zc3 BK125) | ((with_reducible refine gate_builtin (b := .append) (xs := #[.tmp 46, .tmp 49]) rfl ?_); at_builtin; refine Kd.R_append (Kd.int .i64) w.heap.size rfl (.tmp 46) (.tmp 49) 52 3 (.int .i64 0) 8 rfl Try.underlying52 info3 rfl (by decide) (by omega) u126002 x126002_3 (wrap64 (Int.tdiv t141 2)) [.int .i64 (wrap64 (Int.tdiv t141 2))] (fun _ => True) (fun _ => False) rfl rfl ?aP (fun _ hk => hk.elim) ?aF ?aO (Below.refl _ _) ?aS ?aL ?_; (case aP => exact rfl); (case aF => exact (fun _ _ => trivial)); (case aO => exact (zr HO_126002)); (case aS => exact (keep_size (w := w) (g := g) (row := none) (zk HK))); (case aL => have := LMc76.out; omega); intro v148 w83 ho hb hg hat; rw [← Ny147.out] at ho; replace HO_119001 := Aside0.mk (Kd.S_after (ok := (fun k_ => some k_ ≠ (u126001 : Value).ownBlock ∧ k_ ≠ gb125)) (Kd.S_mono (zs HO_119001) (fun _ hk => ⟨⟨hk.1, hk.2.2⟩, hk.2.1⟩)) hg hat); replace HO_126001 := Aside0.mk (Kd.R_over' (zr HO_126001) (Kd.R_typed (zr HO_126002)) (by decide) hg); replace BK114 := Aside0.mk (blk_grown (zb BK114) hg (Kd.R_ne HO_126002.out BK114.out (by decide))); replace BK118 := Aside0.mk (blk_grown (zb BK118) hg (Kd.R_ne HO_126002.out BK118.out (by decide))); replace BK125 := Aside0.mk (blk_grown (zb BK125) hg (Kd.R_ne HO_126002.out BK125.out (by decide))); replace HI0 := Aside0.mk (IsS78.grown (zi78 HI0) hg (IsS78.own_ne HI0.out HO_126002.out (by decide))); replace HB := Aside0.mk (below_weaken (zj78 HB) HL.out hb); replace HK := Aside0.mk (KeepBut.trans (zk HK) (KeepBut.of_grown hg g) (Kd.R_base2 HO_126002.out)); have HO149 := Aside0.mk (ho); clear HO_126002; clear ho hb hg hat; obtain ⟨Ao84, co84, eo84⟩ := Kd.R_slice HO149.out; subst eo84; obtain ⟨⟨hcz85_0, hcz85_1, hcz85_2⟩, hfz85_0, hfz85_1, hfz85_2⟩ := zc3 BK125; obtain ⟨ASz86_0, cSz86_0, HGz86, hgz86, HSz86_0⟩ := HI0.out; have hcz86_0 := cellS78_0 HGz86; have hcz86_1 := cellS78_1 HGz86; have hcz86_2 := cellS78_2 HGz86; have hfz86_1 := blk_frozen HGz86 1; have hfz86_2 := blk_frozen HGz86 2; clear HGz86 hgz86; have hnb87 := NB118_114.out; have hnc87 := NB114_118.out; have hnb88 := NB118_0.out; have hnc88 := NB0_118.out; obtain ⟨⟨hcz89_0, hcz89_1⟩, hfz89_0, hfz89_1⟩ := zc2 BK118; have hnb90 := NB114_0.out; have hnc90 := NB0_114.out; obtain ⟨⟨hcz91_0, hcz91_1⟩, hfz91_0, hfz91_1⟩ := zc2 BK114; obtain ⟨Ao92, co92, eo92⟩ := Kd.S_slice HO_119001.out; subst eo92))
         refine bodyPost_ret (results_cell_row rfl _ _ gb114 31 #[.string t115, .slice Ao92 x119001_1.length co92] (0, 0) _ rfl (zp BK114) Try.underlying31 rfl (by kernel_rfl)) rfl ?_
         exact ⟨_, zre, by (with_reducible repeat (first | apply Kd.S_alloc | apply Kd.S_drewN | apply Kd.S_drew)); exact Kd.S_mono (Kd.S_far (p := ⟨gb114, 1, none⟩) (Kd.S_far (p := ⟨gb114, 0, none⟩) (Kd.S_far (p := ⟨gb125, 2, none⟩) (Kd.S_types (Kd.S_mono HO_119001.out (fun k_ hk => (⟨hk, hk.1.2⟩ : _ ∧ k_ ≠ gb125))) BK114.out (by decide)) (fun _ hk => hk.1.2) (.slice Ao84 y147.length co84)) (fun _ hk => hk.2) (.string t115)) (fun _ hk => hk.2) (.slice Ao92 x119001_1.length co92)) (fun _ hk => trivial), zi78 HI0, zj78 HB, zk HK⟩
        replace c77 := Bool.eq_false_iff.mpr c77
        subst c77
        rw [if_neg (show ¬ (false = true) by decide)] at H
        have H' := Aside0.mk H
        clear H
        go_wp2_with (first | ((with_reducible refine gate_callee (f := 73) rfl ?_); refine goesL_ (some 38) rfl rfl Try.func73 (by kernel_rfl) rfl #[.pointer (some ⟨g, 0, none⟩), .int .i64 2000000000000] rfl zar ?_; (with_reducible refine (impl_docReader_int.calls k3 g s0_0 x1001_3 x1002_3 2000000000000 t141 t142 false w0 _ ?side1 ?side2 A48.out).mono ?_); (case side1 => exact zi78 HI0); (case side2 => exact zj78 HB); rintro e w93 ⟨rfl, hi, hb, hk⟩; refine ⟨_, rfl, ?_⟩; replace HO_119001 := Aside0.mk (Kd.S_mono (Kd.S_keep (IsS78.apartS (show IsS78 w0 _ g s0_0 x1001_3 x1002_3 from zi78 HI0) (zs HO_119001) (by decide)) hk (fun _ h => h.2)) (fun _ h => h.1)); replace HO_126001 := Aside0.mk (Kd.R_mono (Kd.R_keep (IsS78.apart (show IsS78 w0 _ g s0_0 x1001_3 x1002_3 from zi78 HI0) (zr HO_126001) (by decide)) hk (fun _ h => h.2)) (fun _ h => h.1)); replace HO_126002 := Aside0.mk (Kd.R_mono (Kd.R_keep (IsS78.apart (show IsS78 w0 _ g s0_0 x1001_3 x1002_3 from zi78 HI0) (zr HO_126002) (by decide)) hk (fun _ h => h.2)) (fun _ h => h.1)); replace BK114 := Aside0.mk (KeepBut.blk hk (g' := gb114) (o := .cells #[.string x115000_3, .slice none 0 0] 31 (0, 0)) (zb BK114) NB114_0.out (by simp)); replace BK118 := Aside0.mk (KeepBut.blk hk (g' := gb118) (o := .cells #[.string t115, u119001] 31 (0, 0)) (zb BK118) NB118_0.out (by simp)); replace BK125 := Aside0.mk (KeepBut.blk hk (g' := gb125) (o := .cells #[.string t122, u126001, u126002] 66 (0, 0)) (zb BK125) NB125_0.out (by simp)); replace HK := Aside0.mk (KeepBut.trans (zk HK) hk (.inl rfl)); replace HB := Aside0.mk (hb); replace HI0 := Aside0.mk (hi); (try clear hb); (try clear hb2); (try clear hk); (try clear hi); have hnb94 := NB125_114.out; have hnc94 := NB114_125.out; have hnb95 := NB125_118.out; have hnc95 := NB118_125.out; have hnb96 := NB125_0.out; have hnc96 := NB0_125.out; obtain ⟨⟨hcz97_0, hcz97_1, hcz97_2⟩, hfz97_0, hfz97_1, hfz97_2⟩ := zc3 BK125) | ((with_reducible refine gate_builtin (b := .append) (xs := #[.tmp 46, .tmp 49]) rfl ?_); at_builtin; refine Kd.R_append (Kd.int .i64) w.heap.size rfl (.tmp 46) (.tmp 49) 52 3 (.int .i64 0) 8 rfl Try.underlying52 info3 rfl (by decide) (by omega) u126002 x126002_3 (wrap64 (Int.tdiv t141 2)) [.int .i64 (wrap64 (Int.tdiv t141 2))] (fun _ => True) (fun _ => False) rfl rfl ?aP (fun _ hk => hk.elim) ?aF ?aO (Below.refl _ _) ?aS ?aL ?_; (case aP => exact rfl); (case aF => exact (fun _ _ => trivial)); (case aO => exact (zr HO_126002)); (case aS => exact (keep_size (w := w) (g := g) (row := none) (zk HK))); (case aL => have := LMc76.out; omega); intro v148 w98 ho hb hg hat; rw [← Ny147.out] at ho; replace HO_119001 := Aside0.mk (Kd.S_after (ok := (fun k_ => some k_ ≠ (u126001 : Value).ownBlock ∧ k_ ≠ gb125)) (Kd.S_mono (zs HO_119001) (fun _ hk => ⟨⟨hk.1, hk.2.2⟩, hk.2.1⟩)) hg hat); replace HO_126001 := Aside0.mk (Kd.R_over' (zr HO_126001) (Kd.R_typed (zr HO_126002)) (by decide) hg); replace BK114 := Aside0.mk (blk_grown (zb BK114) hg (Kd.R_ne HO_126002.out BK114.out (by decide))); replace BK118 := Aside0.mk (blk_grown (zb BK118) hg (Kd.R_ne HO_126002.out BK118.out (by decide))); replace BK125 := Aside0.mk (blk_grown (zb BK125) hg (Kd.R_ne HO_126002.out BK125.out (by decide))); replace HI0 := Aside0.mk (IsS78.grown (zi78 HI0) hg (IsS78.own_ne HI0.out HO_126002.out (by decide))); replace HB := Aside0.mk (below_weaken (zj78 HB) HL.out hb); replace HK := Aside0.mk (KeepBut.trans (zk HK) (KeepBut.of_grown hg g) (Kd.R_base2 HO_126002.out)); have HO149 := Aside0.mk (ho); clear HO_126002; clear ho hb hg hat; obtain ⟨Ao99, co99, eo99⟩ := Kd.R_slice HO149.out; subst eo99; obtain ⟨⟨hcz100_0, hcz100_1, hcz100_2⟩, hfz100_0, hfz100_1, hfz100_2⟩ := zc3 BK125; obtain ⟨ASz101_0, cSz101_0, HGz101, hgz101, HSz101_0⟩ := HI0.out; have hcz101_0 := cellS78_0 HGz101; have hcz101_1 := cellS78_1 HGz101; have hcz101_2 := cellS78_2 HGz101; have hfz101_1 := blk_frozen HGz101 1; have hfz101_2 := blk_frozen HGz101 2; clear HGz101 hgz101))
        go_roundg k3
        case measure => have := HK1.out; have := HK2.out; have := HK3.out; omega
        case rel => exact ⟨(wrap64 (x35_3 + 1)), (t142), (false), (x115000_3), (y147), (.slice Ao99 y147.length co99), zrs, H', ⟨by have := HK1.out; have := HK2.out; have := HK3.out; omega⟩, ⟨by (with_reducible repeat (first | apply Kd.S_alloc | apply Kd.S_drewN | apply Kd.S_drew)); exact Kd.S_mono (Kd.S_far (p := ⟨gb125, 2, none⟩) (Kd.S_mono HO_119001.out (fun k_ hk => (⟨hk, hk.1.2⟩ : _ ∧ k_ ≠ gb125))) (fun _ hk => hk.2) (.slice Ao99 y147.length co99)) (fun _ hk => ⟨hk.1.1.1, ⟨hk.1.2, hk.1.1.2⟩⟩)⟩, ⟨by (with_reducible repeat (first | apply Kd.R_alloc | apply Kd.R_drewN | apply Kd.R_drew)); exact Kd.R_mono (Kd.R_far (p := ⟨gb125, 2, none⟩) (Kd.R_types HO_126001.out BK125.out (by decide)) (fun _ hk => hk.2) (.slice Ao99 y147.length co99)) (fun _ hk => trivial)⟩, ⟨by (with_reducible repeat (first | apply Kd.R_alloc | apply Kd.R_drewN | apply Kd.R_drew)); exact Kd.R_mono (Kd.R_far (p := ⟨gb125, 2, none⟩) (Kd.R_types HO149.out BK125.out (by decide)) (fun _ hk => hk.2) (.slice Ao99 y147.length co99)) (fun _ hk => trivial)⟩, ⟨zp BK114⟩, ⟨zp BK118⟩, ⟨zp BK125⟩, ⟨zi78 HI0⟩, ⟨zk HK⟩, ⟨zj78 HB⟩⟩
       rw [if_pos c49] at H
       have c49b0 : ((Int.tmod t141 2) == 1) = true := beq_iff_eq.mpr c49
       have c49b1 : ((Int.tmod t141 2) != 1) = false := bne_eq_false_iff_eq.mpr c49
       clear c49
       by_cases c50 : x126002_3.length < 17592186044416
       rotate_left
       ·rw [if_neg c50] at H
        exact absurd H (by simp)
       rw [if_pos c50] at H
       have LMc50 := Aside0.mk c50
       clear c50
       obtain ⟨y144, hy144⟩ : ∃ y_ : List Int, y_ = (x126002_3 ++ [wrap64 (Int.tdiv (wrap64 (-(wrap64 (t141 + 1)))) 2)]) := ⟨_, rfl⟩
       replace H : (if t143 = true then (some (t115, x119001_1, t142, t143)) else (impl_docReader_doc.l2 k3 t119 x11_1 t135 (wrap64 (x35_3 + 1)) s0_0 t142 t143 t115 x119001_1 t122 x126001_2 y144)) = some (r1, r2, r3, r4) := zby hy144 H
       have Ny144 := Aside0.mk hy144
       clear hy144
       by_cases c51 : t143 = true
       ·subst c51
        rw [if_pos rfl] at H
        simp only [Option.some.injEq, Prod.mk.injEq] at H
        obtain ⟨rfl, rfl, rfl, rfl⟩ := H
        go_wp2_with (first | ((with_reducible refine gate_callee (f := 73) rfl ?_); refine goesL_ (some 38) rfl rfl Try.func73 (by kernel_rfl) rfl #[.pointer (some ⟨g, 0, none⟩), .int .i64 2000000000000] rfl zar ?_; (with_reducible refine (impl_docReader_int.calls k3 g s0_0 x1001_3 x1002_3 2000000000000 t141 t142 true w0 _ ?side1 ?side2 A48.out).mono ?_); (case side1 => exact zi78 HI0); (case side2 => exact zj78 HB); rintro e w52 ⟨rfl, hi, hb, hk⟩; refine ⟨_, rfl, ?_⟩; replace HO_119001 := Aside0.mk (Kd.S_mono (Kd.S_keep (IsS78.apartS (show IsS78 w0 _ g s0_0 x1001_3 x1002_3 from zi78 HI0) (zs HO_119001) (by decide)) hk (fun _ h => h.2)) (fun _ h => h.1)); replace HO_126001 := Aside0.mk (Kd.R_mono (Kd.R_keep (IsS78.apart (show IsS78 w0 _ g s0_0 x1001_3 x1002_3 from zi78 HI0) (zr HO_126001) (by decide)) hk (fun _ h => h.2)) (fun _ h => h.1)); replace HO_126002 := Aside0.mk (Kd.R_mono (Kd.R_keep (IsS78.apart (show IsS78 w0 _ g s0_0 x1001_3 x1002_3 from zi78 HI0) (zr HO_126002) (by decide)) hk (fun _ h => h.2)) (fun _ h => h.1)); replace BK114 := Aside0.mk (KeepBut.blk hk (g' := gb114) (o := .cells #[.string x115000_3, .slice none 0 0] 31 (0, 0)) (zb BK114) NB114_0.out (by simp)); replace BK118 := Aside0.mk (KeepBut.blk hk (g' := gb118) (o := .cells #[.string t115, u119001] 31 (0, 0)) (zb BK118) NB118_0.out (by simp)); replace BK125 := Aside0.mk (KeepBut.blk hk (g' := gb125) (o := .cells #[.string t122, u126001, u126002] 66 (0, 0)) (zb BK125) NB125_0.out (by simp)); replace HK := Aside0.mk (KeepBut.trans (zk HK) hk (.inl rfl)); replace HB := Aside0.mk (hb); replace HI0 := Aside0.mk (hi); (try clear hb); (try clear hb2); (try clear hk); (try clear hi); have hnb53 := NB125_114.out; have hnc53 := NB114_125.out; have hnb54 := NB125_118.out; have hnc54 := NB118_125.out; have hnb55 := NB125_0.out; have hnc55 := NB0_125.out; obtain ⟨⟨hcz56_0, hcz56_1, hcz56_2⟩, hfz56_0, hfz56_1, hfz56_2⟩ := zc3 BK125) | ((with_reducible refine gate_builtin (b := .append) (xs := #[.tmp 46, .tmp 49]) rfl ?_); at_builtin; refine Kd.R_append (Kd.int .i64) w.heap.size rfl (.tmp 46) (.tmp 49) 52 3 (.int .i64 0) 8 rfl Try.underlying52 info3 rfl (by decide) (by omega) u126002 x126002_3 (wrap64 (Int.tdiv (wrap64 (-(wrap64 (t141 + 1)))) 2)) [.int .i64 (wrap64 (Int.tdiv (wrap64 (-(wrap64 (t141 + 1)))) 2))] (fun _ => True) (fun _ => False) rfl rfl ?aP (fun _ hk => hk.elim) ?aF ?aO (Below.refl _ _) ?aS ?aL ?_; (case aP => exact rfl); (case aF => exact (fun _ _ => trivial)); (case aO => exact (zr HO_126002)); (case aS => exact (keep_size (w := w) (g := g) (row := none) (zk HK))); (case aL => have := LMc50.out; omega); intro v145 w57 ho hb hg hat; rw [← Ny144.out] at ho; replace HO_119001 := Aside0.mk (Kd.S_after (ok := (fun k_ => some k_ ≠ (u126001 : Value).ownBlock ∧ k_ ≠ gb125)) (Kd.S_mono (zs HO_119001) (fun _ hk => ⟨⟨hk.1, hk.2.2⟩, hk.2.1⟩)) hg hat); replace HO_126001 := Aside0.mk (Kd.R_over' (zr HO_126001) (Kd.R_typed (zr HO_126002)) (by decide) hg); replace BK114 := Aside0.mk (blk_grown (zb BK114) hg (Kd.R_ne HO_126002.out BK114.out (by decide))); replace BK118 := Aside0.mk (blk_grown (zb BK118) hg (Kd.R_ne HO_126002.out BK118.out (by decide))); replace BK125 := Aside0.mk (blk_grown (zb BK125) hg (Kd.R_ne HO_126002.out BK125.out (by decide))); replace HI0 := Aside0.mk (IsS78.grown (zi78 HI0) hg (IsS78.own_ne HI0.out HO_126002.out (by decide))); replace HB := Aside0.mk (below_weaken (zj78 HB) HL.out hb); replace HK := Aside0.mk (KeepBut.trans (zk HK) (KeepBut.of_grown hg g) (Kd.R_base2 HO_126002.out)); have HO146 := Aside0.mk (ho); clear HO_126002; clear ho hb hg hat; obtain ⟨Ao58, co58, eo58⟩ := Kd.R_slice HO146.out; subst eo58; obtain ⟨⟨hcz59_0, hcz59_1, hcz59_2⟩, hfz59_0, hfz59_1, hfz59_2⟩ := zc3 BK125; obtain ⟨ASz60_0, cSz60_0, HGz60, hgz60, HSz60_0⟩ := HI0.out; have hcz60_0 := cellS78_0 HGz60; have hcz60_1 := cellS78_1 HGz60; have hcz60_2 := cellS78_2 HGz60; have hfz60_1 := blk_frozen HGz60 1; have hfz60_2 := blk_frozen HGz60 2; clear HGz60 hgz60; have hnb61 := NB118_114.out; have hnc61 := NB114_118.out; have hnb62 := NB118_0.out; have hnc62 := NB0_118.out; obtain ⟨⟨hcz63_0, hcz63_1⟩, hfz63_0, hfz63_1⟩ := zc2 BK118; have hnb64 := NB114_0.out; have hnc64 := NB0_114.out; obtain ⟨⟨hcz65_0, hcz65_1⟩, hfz65_0, hfz65_1⟩ := zc2 BK114; obtain ⟨Ao66, co66, eo66⟩ := Kd.S_slice HO_119001.out; subst eo66))
        refine bodyPost_ret (results_cell_row rfl _ _ gb114 31 #[.string t115, .slice Ao66 x119001_1.length co66] (0, 0) _ rfl (zp BK114) Try.underlying31 rfl (by kernel_rfl)) rfl ?_
        exact ⟨_, zre, by (with_reducible repeat (first | apply Kd.S_alloc | apply Kd.S_drewN | apply Kd.S_drew)); exact Kd.S_mono (Kd.S_far (p := ⟨gb114, 1, none⟩) (Kd.S_far (p := ⟨gb114, 0, none⟩) (Kd.S_far (p := ⟨gb125, 2, none⟩) (Kd.S_types (Kd.S_mono HO_119001.out (fun k_ hk => (⟨hk, hk.1.2⟩ : _ ∧ k_ ≠ gb125))) BK114.out (by decide)) (fun _ hk => hk.1.2) (.slice Ao58 y144.length co58)) (fun _ hk => hk.2) (.string t115)) (fun _ hk => hk.2) (.slice Ao66 x119001_1.length co66)) (fun _ hk => trivial), zi78 HI0, zj78 HB, zk HK⟩
       replace c51 := Bool.eq_false_iff.mpr c51
       subst c51
       rw [if_neg (show ¬ (false = true) by decide)] at H
       have H' := Aside0.mk H
       clear H
       go_wp2_with (first | ((with_reducible refine gate_callee (f := 73) rfl ?_); refine goesL_ (some 38) rfl rfl Try.func73 (by kernel_rfl) rfl #[.pointer (some ⟨g, 0, none⟩), .int .i64 2000000000000] rfl zar ?_; (with_reducible refine (impl_docReader_int.calls k3 g s0_0 x1001_3 x1002_3 2000000000000 t141 t142 false w0 _ ?side1 ?side2 A48.out).mono ?_); (case side1 => exact zi78 HI0); (case side2 => exact zj78 HB); rintro e w67 ⟨rfl, hi, hb, hk⟩; refine ⟨_, rfl, ?_⟩; replace HO_119001 := Aside0.mk (Kd.S_mono (Kd.S_keep (IsS78.apartS (show IsS78 w0 _ g s0_0 x1001_3 x1002_3 from zi78 HI0) (zs HO_119001) (by decide)) hk (fun _ h => h.2)) (fun _ h => h.1)); replace HO_126001 := Aside0.mk (Kd.R_mono (Kd.R_keep (IsS78.apart (show IsS78 w0 _ g s0_0 x1001_3 x1002_3 from zi78 HI0) (zr HO_126001) (by decide)) hk (fun _ h => h.2)) (fun _ h => h.1)); replace HO_126002 := Aside0.mk (Kd.R_mono (Kd.R_keep (IsS78.apart (show IsS78 w0 _ g s0_0 x1001_3 x1002_3 from zi78 HI0) (zr HO_126002) (by decide)) hk (fun _ h => h.2)) (fun _ h => h.1)); replace BK114 := Aside0.mk (KeepBut.blk hk (g' := gb114) (o := .cells #[.string x115000_3, .slice none 0 0] 31 (0, 0)) (zb BK114) NB114_0.out (by simp)); replace BK118 := Aside0.mk (KeepBut.blk hk (g' := gb118) (o := .cells #[.string t115, u119001] 31 (0, 0)) (zb BK118) NB118_0.out (by simp)); replace BK125 := Aside0.mk (KeepBut.blk hk (g' := gb125) (o := .cells #[.string t122, u126001, u126002] 66 (0, 0)) (zb BK125) NB125_0.out (by simp)); replace HK := Aside0.mk (KeepBut.trans (zk HK) hk (.inl rfl)); replace HB := Aside0.mk (hb); replace HI0 := Aside0.mk (hi); (try clear hb); (try clear hb2); (try clear hk); (try clear hi); have hnb68 := NB125_114.out; have hnc68 := NB114_125.out; have hnb69 := NB125_118.out; have hnc69 := NB118_125.out; have hnb70 := NB125_0.out; have hnc70 := NB0_125.out; obtain ⟨⟨hcz71_0, hcz71_1, hcz71_2⟩, hfz71_0, hfz71_1, hfz71_2⟩ := zc3 BK125) | ((with_reducible refine gate_builtin (b := .append) (xs := #[.tmp 46, .tmp 49]) rfl ?_); at_builtin; refine Kd.R_append (Kd.int .i64) w.heap.size rfl (.tmp 46) (.tmp 49) 52 3 (.int .i64 0) 8 rfl Try.underlying52 info3 rfl (by decide) (by omega) u126002 x126002_3 (wrap64 (Int.tdiv (wrap64 (-(wrap64 (t141 + 1)))) 2)) [.int .i64 (wrap64 (Int.tdiv (wrap64 (-(wrap64 (t141 + 1)))) 2))] (fun _ => True) (fun _ => False) rfl rfl ?aP (fun _ hk => hk.elim) ?aF ?aO (Below.refl _ _) ?aS ?aL ?_; (case aP => exact rfl); (case aF => exact (fun _ _ => trivial)); (case aO => exact (zr HO_126002)); (case aS => exact (keep_size (w := w) (g := g) (row := none) (zk HK))); (case aL => have := LMc50.out; omega); intro v145 w72 ho hb hg hat; rw [← Ny144.out] at ho; replace HO_119001 := Aside0.mk (Kd.S_after (ok := (fun k_ => some k_ ≠ (u126001 : Value).ownBlock ∧ k_ ≠ gb125)) (Kd.S_mono (zs HO_119001) (fun _ hk => ⟨⟨hk.1, hk.2.2⟩, hk.2.1⟩)) hg hat); replace HO_126001 := Aside0.mk (Kd.R_over' (zr HO_126001) (Kd.R_typed (zr HO_126002)) (by decide) hg); replace BK114 := Aside0.mk (blk_grown (zb BK114) hg (Kd.R_ne HO_126002.out BK114.out (by decide))); replace BK118 := Aside0.mk (blk_grown (zb BK118) hg (Kd.R_ne HO_126002.out BK118.out (by decide))); replace BK125 := Aside0.mk (blk_grown (zb BK125) hg (Kd.R_ne HO_126002.out BK125.out (by decide))); replace HI0 := Aside0.mk (IsS78.grown (zi78 HI0) hg (IsS78.own_ne HI0.out HO_126002.out (by decide))); replace HB := Aside0.mk (below_weaken (zj78 HB) HL.out hb); replace HK := Aside0.mk (KeepBut.trans (zk HK) (KeepBut.of_grown hg g) (Kd.R_base2 HO_126002.out)); have HO146 := Aside0.mk (ho); clear HO_126002; clear ho hb hg hat; obtain ⟨Ao73, co73, eo73⟩ := Kd.R_slice HO146.out; subst eo73; obtain ⟨⟨hcz74_0, hcz74_1, hcz74_2⟩, hfz74_0, hfz74_1, hfz74_2⟩ := zc3 BK125; obtain ⟨ASz75_0, cSz75_0, HGz75, hgz75, HSz75_0⟩ := HI0.out; have hcz75_0 := cellS78_0 HGz75; have hcz75_1 := cellS78_1 HGz75; have hcz75_2 := cellS78_2 HGz75; have hfz75_1 := blk_frozen HGz75 1; have hfz75_2 := blk_frozen HGz75 2; clear HGz75 hgz75))
       go_roundg k3
       case measure => have := HK1.out; have := HK2.out; have := HK3.out; omega
       case rel => exact ⟨(wrap64 (x35_3 + 1)), (t142), (false), (x115000_3), (y144), (.slice Ao73 y144.length co73), zrs, H', ⟨by have := HK1.out; have := HK2.out; have := HK3.out; omega⟩, ⟨by (with_reducible repeat (first | apply Kd.S_alloc | apply Kd.S_drewN | apply Kd.S_drew)); exact Kd.S_mono (Kd.S_far (p := ⟨gb125, 2, none⟩) (Kd.S_mono HO_119001.out (fun k_ hk => (⟨hk, hk.1.2⟩ : _ ∧ k_ ≠ gb125))) (fun _ hk => hk.2) (.slice Ao73 y144.length co73)) (fun _ hk => ⟨hk.1.1.1, ⟨hk.1.2, hk.1.1.2⟩⟩)⟩, ⟨by (with_reducible repeat (first | apply Kd.R_alloc | apply Kd.R_drewN | apply Kd.R_drew)); exact Kd.R_mono (Kd.R_far (p := ⟨gb125, 2, none⟩) (Kd.R_types HO_126001.out BK125.out (by decide)) (fun _ hk => hk.2) (.slice Ao73 y144.length co73)) (fun _ hk => trivial)⟩, ⟨by (with_reducible repeat (first | apply Kd.R_alloc | apply Kd.R_drewN | apply Kd.R_drew)); exact Kd.R_mono (Kd.R_far (p := ⟨gb125, 2, none⟩) (Kd.R_types HO146.out BK125.out (by decide)) (fun _ hk => hk.2) (.slice Ao73 y144.length co73)) (fun _ hk => trivial)⟩, ⟨zp BK114⟩, ⟨zp BK118⟩, ⟨zp BK125⟩, ⟨zi78 HI0⟩, ⟨zk HK⟩, ⟨zj78 HB⟩⟩
end Go.Proofs.Ytnpdmleglcbobaa.XFnExactReadLog
