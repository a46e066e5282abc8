-- A text of this session: written by its own program (wip/x/xprint.py), which runs the kit's printer with contracts of its own.
import Derived.Test.YtnpdmleglcbobaaXFnExactRecordBytesx0
import Derived.Test.YtnpdmleglcbobaaXFnExactRecordBytesx3
namespace Go.Proofs.Ytnpdmleglcbobaa.XFnExactRecordBytes
open Go.RowKit Go.Proofs.YtnpdmleglcbobaaW.PrintWords Go.Proofs.YtnpdmleglcbobaaW.PrintLast Go.Proofs.YtnpdmleglcbobaaW.PrintMore
attribute [local go_sem] max2_int min2_int max_two min_two max_three min_three max_four min_four   -- for this text's walks alone
set_option linter.unusedVariables false
set_option linter.unusedSimpArgs false

/-! ### spec_l06Bytes: function 36 -/
mutual
def spec_l06Bytes.l0 : Nat → List Int → Int → ByteArray → List (S66) → Option (List Int)
 | 0, _, _, _, _ => none
 | k + 1, x3, x4, x161000, x161001 => if x4 < (x161001.length : Int) then (if 0 ≤ x4 then ((spec_l06PutText.f k x3 ((rd_T66 x161001 x4).f0)).bind fun t175 => ((spec_l03Put.f k (((rd_T66 x161001 x4).f1).length : Int)).bind fun t178 => (if t175.length + t178.length < 140737488355328 then (spec_l06Bytes.l1 k (t175 ++ t178) x4 0 x161000 x161001 ((rd_T66 x161001 x4).f0) ((rd_T66 x161001 x4).f1) ((rd_T66 x161001 x4).f2)) else (none)))) else (none)) else (some x3)
def spec_l06Bytes.l1 : Nat → List Int → Int → Int → ByteArray → List (S66) → ByteArray → List ByteArray → List Int → Option (List Int)
 | 0, _, _, _, _, _, _, _, _ => none
 | k + 1, x3, x4, x6, x161000, x161001, x175000, x175001, x175002 => if x6 < (x175001.length : Int) then (if 0 ≤ x6 then ((spec_l06PutText.f k x3 (rdOf ByteArray.empty x175001 x6)).bind fun t185 => (spec_l06Bytes.l1 k t185 x4 (wrap64 (x6 + 1)) x161000 x161001 x175000 x175001 x175002)) else (none)) else ((spec_l03Put.f k (x175002.length : Int)).bind fun t188 => (if x3.length + t188.length < 140737488355328 then (spec_l06Bytes.l2 k (x3 ++ t188) x4 0 x161000 x161001 x175000 x175001 x175002) else (none)))
def spec_l06Bytes.l2 : Nat → List Int → Int → Int → ByteArray → List (S66) → ByteArray → List ByteArray → List Int → Option (List Int)
 | 0, _, _, _, _, _, _, _, _ => none
 | k + 1, x3, x4, x7, x161000, x161001, x175000, x175001, x175002 => if x7 < (x175002.length : Int) then (if 0 ≤ x7 then ((spec_l06PutNumber.f k x3 (rd x175002 x7)).bind fun t195 => (spec_l06Bytes.l2 k t195 x4 (wrap64 (x7 + 1)) x161000 x161001 x175000 x175001 x175002)) else (none)) else (spec_l06Bytes.l0 k x3 (wrap64 (x4 + 1)) x161000 x161001)
end
def spec_l06Bytes.f (k : Nat) (a0_0 : ByteArray) (l0_1 : List (S66)) : Option (List Int) := (spec_l06PutText.f k (([] : List Int)) a0_0).bind fun t164 => ((spec_l03Put.f k (l0_1.length : Int)).bind fun t167 => (if t164.length + t167.length < 140737488355328 then (spec_l06Bytes.l0 k (t164 ++ t167) 0 a0_0 l0_1) else (none)))
theorem spec_l06Bytes.mono_l : ∀ k, (∀ y0 y1 y2 y3, LeO (spec_l06Bytes.l0 k y0 y1 y2 y3) (spec_l06Bytes.l0 (k + 1) y0 y1 y2 y3)) ∧ (∀ y0 y1 y2 y3 y4 y5 y6 y7, LeO (spec_l06Bytes.l1 k y0 y1 y2 y3 y4 y5 y6 y7) (spec_l06Bytes.l1 (k + 1) y0 y1 y2 y3 y4 y5 y6 y7)) ∧ (∀ y0 y1 y2 y3 y4 y5 y6 y7, LeO (spec_l06Bytes.l2 k y0 y1 y2 y3 y4 y5 y6 y7) (spec_l06Bytes.l2 (k + 1) y0 y1 y2 y3 y4 y5 y6 y7))
 | 0 => ⟨fun _ _ _ _ r h => by simp [spec_l06Bytes.l0] at h, fun _ _ _ _ _ _ _ _ r h => by simp [spec_l06Bytes.l1] at h, fun _ _ _ _ _ _ _ _ r h => by simp [spec_l06Bytes.l2] at h⟩
 | k + 1 => by
  obtain ⟨ih0, ih1, ih2⟩ := spec_l06Bytes.mono_l k
  refine ⟨?_, ?_, ?_⟩
  ·intro y0 y1 y2 y3
   unfold spec_l06Bytes.l0
   repeat' first
   | (with_reducible exact ih0 _ _ _ _)
   | (with_reducible exact ih1 _ _ _ _ _ _ _ _)
   | (with_reducible exact ih2 _ _ _ _ _ _ _ _)
   | (with_reducible exact spec_l03Put.mono _ _)
   | (with_reducible exact spec_l06PutNumber.mono _ _ _)
   | (with_reducible exact spec_l06PutText.mono _ _ _)
   | (with_reducible exact LeO.refl _)
   | (with_reducible exact LeO.none _)
   | (with_reducible refine LeO.ite ?_ ?_)
   | (with_reducible refine LeO.bind ?_ (fun _ => ?_))
   | exact ih0 _ _ _ _
   | exact ih1 _ _ _ _ _ _ _ _
   | exact ih2 _ _ _ _ _ _ _ _
   | exact spec_l03Put.mono _ _
   | exact spec_l06PutNumber.mono _ _ _
   | exact spec_l06PutText.mono _ _ _
   | exact LeO.none _
   | refine LeO.ite ?_ ?_
   | refine LeO.bind ?_ (fun _ => ?_)
  ·intro y0 y1 y2 y3 y4 y5 y6 y7
   unfold spec_l06Bytes.l1
   repeat' first
   | (with_reducible exact ih0 _ _ _ _)
   | (with_reducible exact ih1 _ _ _ _ _ _ _ _)
   | (with_reducible exact ih2 _ _ _ _ _ _ _ _)
   | (with_reducible exact spec_l03Put.mono _ _)
   | (with_reducible exact spec_l06PutNumber.mono _ _ _)
   | (with_reducible exact spec_l06PutText.mono _ _ _)
   | (with_reducible exact LeO.refl _)
   | (with_reducible exact LeO.none _)
   | (with_reducible refine LeO.ite ?_ ?_)
   | (with_reducible refine LeO.bind ?_ (fun _ => ?_))
   | exact ih0 _ _ _ _
   | exact ih1 _ _ _ _ _ _ _ _
   | exact ih2 _ _ _ _ _ _ _ _
   | exact spec_l03Put.mono _ _
   | exact spec_l06PutNumber.mono _ _ _
   | exact spec_l06PutText.mono _ _ _
   | exact LeO.none _
   | refine LeO.ite ?_ ?_
   | refine LeO.bind ?_ (fun _ => ?_)
  ·intro y0 y1 y2 y3 y4 y5 y6 y7
   unfold spec_l06Bytes.l2
   repeat' first
   | (with_reducible exact ih0 _ _ _ _)
   | (with_reducible exact ih1 _ _ _ _ _ _ _ _)
   | (with_reducible exact ih2 _ _ _ _ _ _ _ _)
   | (with_reducible exact spec_l03Put.mono _ _)
   | (with_reducible exact spec_l06PutNumber.mono _ _ _)
   | (with_reducible exact spec_l06PutText.mono _ _ _)
   | (with_reducible exact LeO.refl _)
   | (with_reducible exact LeO.none _)
   | (with_reducible refine LeO.ite ?_ ?_)
   | (with_reducible refine LeO.bind ?_ (fun _ => ?_))
   | exact ih0 _ _ _ _
   | exact ih1 _ _ _ _ _ _ _ _
   | exact ih2 _ _ _ _ _ _ _ _
   | exact spec_l03Put.mono _ _
   | exact spec_l06PutNumber.mono _ _ _
   | exact spec_l06PutText.mono _ _ _
   | exact LeO.none _
   | refine LeO.ite ?_ ?_
   | refine LeO.bind ?_ (fun _ => ?_)
theorem spec_l06Bytes.mono : ∀ a0 a1 k, LeO (spec_l06Bytes.f k a0 a1) (spec_l06Bytes.f (k + 1) a0 a1) := by
 intro a0 a1 k
 obtain ⟨ih0, ih1, ih2⟩ := spec_l06Bytes.mono_l k
 unfold spec_l06Bytes.f
 repeat' first
  | (with_reducible exact ih0 _ _ _ _)
  | (with_reducible exact ih1 _ _ _ _ _ _ _ _)
  | (with_reducible exact ih2 _ _ _ _ _ _ _ _)
  | (with_reducible exact spec_l03Put.mono _ _)
  | (with_reducible exact spec_l06PutNumber.mono _ _ _)
  | (with_reducible exact spec_l06PutText.mono _ _ _)
  | (with_reducible exact LeO.refl _)
  | (with_reducible exact LeO.none _)
  | (with_reducible refine LeO.ite ?_ ?_)
  | (with_reducible refine LeO.bind ?_ (fun _ => ?_))
  | exact ih0 _ _ _ _
  | exact ih1 _ _ _ _ _ _ _ _
  | exact ih2 _ _ _ _ _ _ _ _
  | exact spec_l03Put.mono _ _
  | exact spec_l06PutNumber.mono _ _ _
  | exact spec_l06PutText.mono _ _ _
  | exact LeO.none _
  | refine LeO.ite ?_ ?_
  | refine LeO.bind ?_ (fun _ => ?_)
set_option maxHeartbeats 8000000 in
set_option maxRecDepth 100000 in
theorem spec_l06Bytes.calls (k : Nat) (a0_0 : ByteArray) (A0_1 : Option Addr) (c0_1 : Nat) (l0_1 : List (S66)) (r : List Int) (w : World) (hr0_1 : Kd.C k66 w A0_1 l0_1.length l0_1) (hc0_1 : l0_1.length ≤ c0_1) (h : spec_l06Bytes.f k a0_0 l0_1 = some r) :
 Calls Try.prog 36 #[.agg #[.string a0_0, .slice A0_1 l0_1.length c0_1]] w fun e w' => ∃ v0_ : Value, e = .returned (v0_) ∧ Kd.R (Kd.int .u8) 5 w' w.heap.size (fun _ => True) v0_ r ∧ Below w.heap.size w w' := by
 have hu31 := Try.underlying31
 have hu66 := Try.underlying66
 have HR0_1 := Aside0.mk hr0_1
 have HC0_1 := Aside0.mk hc0_1
 clear hr0_1 hc0_1
 have HB := Aside0.mk (Below.refl w.heap.size w)
 have H : ((spec_l06PutText.f k (([] : List Int)) a0_0).bind fun t164 => ((spec_l03Put.f k (l0_1.length : Int)).bind fun t167 => (if t164.length + t167.length < 140737488355328 then (spec_l06Bytes.l0 k (t164 ++ t167) 0 a0_0 l0_1) else (none)))) = some r := h
 clear h
 obtain ⟨y161, hy161⟩ : ∃ y_ : List Int, y_ = (([] : List Int)) := ⟨_, rfl⟩
 replace H : ((spec_l06PutText.f k y161 a0_0).bind fun t164 => ((spec_l03Put.f k (l0_1.length : Int)).bind fun t167 => (if t164.length + t167.length < 140737488355328 then (spec_l06Bytes.l0 k (t164 ++ t167) 0 a0_0 l0_1) else (none)))) = some r := by first | (rw [hy161]; with_reducible exact H) | (have H2_ := (Option.bind_some _ _).symm.trans H; rw [hy161]; with_reducible exact H2_) | (have H2_ := (Option.bind_some _ _).symm.trans H; with_reducible exact H2_) | with_reducible exact H | (rw [hy161]; exact H) | exact H
 have Ny161 := Aside0.mk hy161
 clear hy161
 replace H := Option.bind_eq_some_iff.mp H
 obtain ⟨t164, A20, H⟩ := H
 replace H : ((spec_l03Put.f k (l0_1.length : Int)).bind fun t167 => (if t164.length + t167.length < 140737488355328 then (spec_l06Bytes.l0 k (t164 ++ t167) 0 a0_0 l0_1) else (none))) = some r := H
 have A2 := Aside0.mk A20
 clear A20
 replace H := Option.bind_eq_some_iff.mp H
 obtain ⟨t167, A30, H⟩ := H
 replace H : (if t164.length + t167.length < 140737488355328 then (spec_l06Bytes.l0 k (t164 ++ t167) 0 a0_0 l0_1) else (none)) = some r := H
 have A3 := Aside0.mk A30
 clear A30
 by_cases c4 : t164.length + t167.length < 140737488355328
 ·rw [if_pos c4] at H
  have LMc4 := Aside0.mk c4
  clear c4
  obtain ⟨y170, hy170⟩ : ∃ y_ : List Int, y_ = (t164 ++ t167) := ⟨_, rfl⟩
  replace H : (spec_l06Bytes.l0 k y170 0 a0_0 l0_1) = some r := by first | (rw [hy170]; with_reducible exact H) | (have H2_ := (Option.bind_some _ _).symm.trans H; rw [hy170]; with_reducible exact H2_) | (have H2_ := (Option.bind_some _ _).symm.trans H; with_reducible exact H2_) | with_reducible exact H | (rw [hy170]; exact H) | exact H
  have Ny170 := Aside0.mk hy170
  clear hy170
  have H' := Aside0.mk H
  clear H
  go_enter Try.func36, Try.ntmps36
  go_wp2_with (first | ((with_reducible refine gate_dst (N := 1) rfl ?_); refine box_event ?hg (N := 1) ?hd (cs := #[.string a0_0, .slice A0_1 l0_1.length c0_1]) (t := 31) ?hr ?_; (case hd => rfl); (case hg => rfl); (case hr => first | (go_simp; done) | (go_simp; rfl)); intro gb160 hg w5 hbox hb; have n0_ := Aside0.mk (below_step (zh HB) hb); have n1_ := Aside0.mk (hbox); have n2_ := Aside0.mk ((by rw [hg]; exact (below_size (zh HB)) : w.heap.size ≤ gb160)); have n3_ := Aside0.mk ((by rw [hg]; exact (below_size (zh HB)) : w.heap.size ≤ gb160)); clear HB; have HB := n0_; have BK160 := n1_; have GW160 := n2_; have GE160 := n3_; clear n0_ n1_ n2_ n3_; clear hb hbox hg) | ((with_reducible refine gate_dst (N := 8) rfl ?_); refine Kd.R_lit (Kd.int .u8) _ 5 ?hg (N := 8) ?hd (xs := ([] : List Int)) (inner := []) (ok := fun _ => True) (okp := fun _ => True) ?hr ?hp (fun _ hk => hk) trivial (Below.refl _ _) (Nat.le_refl _) (by simp) ?_; (case hd => rfl); (case hg => rfl); (case hr => first | (go_simp; done) | (go_simp; rfl)); (case hp => exact (Reps.none _ _)); intro v162 w6 ho7 hb hg_ hnew_; clear hg_ hnew_; (first | rw [← Ny161.out] at ho7 | (simp only [Int.reduceToNat] at ho7; rw [← Ny161.out] at ho7)); have n0_ := Aside0.mk (Kd.R_lower ho7 (below_size (zg HB))); have n1_ := Aside0.mk (blk_below (zb BK160) hb); have n2_ := Aside0.mk (below_step (zg HB) hb); clear BK160; clear HB; have HO163 := n0_; have BK160 := n1_; have HB := n2_; clear n0_ n1_ n2_; clear hb ho7; have hcz8_0 : w6.cell? ⟨gb160, 0, none⟩ = some (.string a0_0) := (blk_cell BK160.out 0).trans rfl; have hcz8_1 : w6.cell? ⟨gb160, 1, none⟩ = some (.slice A0_1 l0_1.length c0_1) := (blk_cell BK160.out 1).trans rfl; have hfz8_0 := blk_frozen BK160.out 0; have hfz8_1 := blk_frozen BK160.out 1; obtain ⟨Ao9, co9, eo9⟩ := Kd.R_slice HO163.out; subst eo9) | ((with_reducible refine gate_callee (f := 62) rfl ?_); refine goesL_ (some 11) rfl rfl Try.func62 (by kernel_rfl) rfl #[.slice Ao9 y161.length co9, .string a0_0] rfl zar ?_; (with_reducible refine (spec_l06PutText.calls k (fun k_ => some k_ = (.slice Ao9 y161.length co9 : Value).ownBlock) (.slice Ao9 y161.length co9) y161 a0_0 t164 w _ ?side1 ?side2 A2.out).mono ?_); (case side1 => repeat (first | (with_reducible first | exact HB.out | apply below_alloc | apply pw_below_drewN | apply below_drew1 | refine below_set ?_ GE160.out) | exact HB.out)); (case side2 => exact Kd.R_tight rfl HO163.out); rintro e w10 ⟨v165, rfl, ho0, hb, hkp⟩; refine ⟨_, rfl, ?_⟩; have n0_ := Aside0.mk (blk_kept (zb BK160) hkp (fun hs_ => (fun e_ => (Kd.R_ne HO163.out BK160.out (by decide)) e_) hs_)); have n1_ := Aside0.mk (Kd.R_mono (ok' := fun k_ => True) ho0 (fun k_ hk_ => trivial)); have n2_ := Aside0.mk (hb); clear BK160; clear HB; clear HO163; have BK160 := n0_; have HO166 := n1_; have HB := n2_; clear n0_ n1_ n2_; (try clear hb); (try clear hkp); (try clear ho0); have hcz11_0 : w10.cell? ⟨gb160, 0, none⟩ = some (.string a0_0) := (blk_cell BK160.out 0).trans rfl; have hcz11_1 : w10.cell? ⟨gb160, 1, none⟩ = some (.slice A0_1 l0_1.length c0_1) := (blk_cell BK160.out 1).trans rfl; have hfz11_0 := blk_frozen BK160.out 0; have hfz11_1 := blk_frozen BK160.out 1) | ((with_reducible refine gate_callee (f := 63) rfl ?_); refine goesL_ (some 16) rfl rfl Try.func63 (by kernel_rfl) rfl #[.int .i64 (l0_1.length : Int)] rfl zar ?_; (with_reducible refine (spec_l03Put.calls k (l0_1.length : Int) t167 _ A3.out).mono ?_); rintro e w12 ⟨v168, rfl, ho0, hb⟩; refine ⟨_, rfl, ?_⟩; have n0_ := Aside0.mk (Kd.R_elder' (zr HO166) (Kd.R_base ho0) hb); have n1_ := Aside0.mk (Kd.R_lower (Kd.R_new' ho0 (Kd.R_lt (zr HO166))) (below_size (zg HB))); have n2_ := Aside0.mk (blk_below (zb BK160) hb); have n3_ := Aside0.mk (below_step (zg HB) hb); clear HO166; clear BK160; clear HB; have HO166 := n0_; have HO169 := n1_; have BK160 := n2_; have HB := n3_; clear n0_ n1_ n2_ n3_; (try clear hb); (try clear hb2); (try clear hk); (try clear hi); (try clear ho0); obtain ⟨Ao14, co14, eo14⟩ := Kd.R_slice HO169.out; subst eo14) | ((with_reducible refine gate_builtin (b := .append) (xs := #[.tmp 12, .tmp 16]) rfl ?_); at_builtin; refine Kd.R_append_rows (Kd.int .u8) (w0 := w) w.heap.size rfl (.tmp 12) (.tmp 16) 26 5 (.int .u8 0) 1 rfl Try.underlying26 info5 rfl (by decide) (by omega) v165 t164 t167 _ _ _ (fun k_ => some k_ ≠ (.slice Ao14 t167.length co14 : Value).ownBlock) (fun _ => False) rfl rfl ?aO ?aR (fun _ _ h => h) (fun _ h => h.elim) ?aF ?aB ?aS ?aL ?_; (case aR => repeat (first | exact (Kd.R_reads' HO169.out).2.2 | (with_reducible refine Kd.C_alloc ?_ _) | (with_reducible refine Kd.C_drewN ?_ _) | (with_reducible refine Kd.C_drew ?_))); (case aB => exact (zg HB)); (case aF => exact (fun k_ hk => Kd.fresh' (Kd.R_lt (zr HO169)) k_ hk)); (case aO => exact (Kd.R_mono (zr HO166) (fun _ hk => hk.2))); (case aS => exact (below_size (zg HB))); (case aL => have := LMc4.out; omega); intro v171 w13 ho hb hg hat; rw [← Ny170.out] at ho; have n0_ := Aside0.mk (blk_grown (zb BK160) hg (Kd.R_ne HO166.out BK160.out (by decide))); have n1_ := Aside0.mk (Kd.R_after (ok := (fun _ => True)) (zr HO169) hg hat); have n2_ := Aside0.mk (hb); have n3_ := Aside0.mk (ho); clear BK160; clear HO169; clear HB; clear HO166; have BK160 := n0_; have HO169 := n1_; have HB := n2_; have HO172 := n3_; clear n0_ n1_ n2_ n3_; clear ho hb hg hat))
  go_loopg [3, 4] k (fun kq v3 v4 w' => ∃ (x3_1 : List Int) (x4_1 : Int), v4 = .int .i64 x4_1 ∧ Aside0 (spec_l06Bytes.l0 kq x3_1 x4_1 a0_0 l0_1 = some r) ∧ Aside0 (kq ≤ k) ∧ Aside0 (Kd.R (Kd.int .u8) 5 w' w.heap.size (fun _ => True) v3 x3_1) ∧ Aside0 (w'.heap[gb160]? = some (.cells #[.string a0_0, (.slice A0_1 l0_1.length c0_1)] 31 (0, 0))) ∧ Aside0 (Below w.heap.size w w'))
  case atStart => exact ⟨(y170), (0), (by first | rfl | (simp; done) | (simp [*]; done)), H', ⟨Nat.le_refl _⟩, ⟨Kd.R_mono (zr HO172) (fun _ hk => trivial)⟩, ⟨zb BK160⟩, ⟨zg HB⟩⟩
  case round =>
   clear H'
   try clear p2
   try clear c3
   try clear c4
   try clear c6
   try clear hcz11_0
   try clear hcz11_1
   try clear hcz8_0
   try clear hcz8_1
   try clear hfz11_0
   try clear hfz11_1
   try clear hfz8_0
   try clear hfz8_1
   obtain ⟨x3_1, x4_1, rfl, HA, HK1, HO_3, BK160, HB⟩ := hrel
   cases gk with
   | zero => exact absurd HA.out (by simp [spec_l06Bytes.l0])
   | succ k1 =>
    have H := HA.out
    clear HA
    simp only [spec_l06Bytes.l0] at H
    by_cases c15 : x4_1 < (l0_1.length : Int)
    ·rw [if_pos c15] at H
     have c15b0 : decide (x4_1 < (l0_1.length : Int)) = true := decide_eq_true c15
     clear c15
     by_cases c16 : 0 ≤ x4_1
     ·rw [if_pos c16] at H
      have c16b0 : decide (0 ≤ x4_1) = true := decide_eq_true c16
      clear c16
      replace H := Option.bind_eq_some_iff.mp H
      obtain ⟨t175, A170, H⟩ := H
      replace H : ((spec_l03Put.f k1 (((rd_T66 l0_1 x4_1).f1).length : Int)).bind fun t178 => (if t175.length + t178.length < 140737488355328 then (spec_l06Bytes.l1 k1 (t175 ++ t178) x4_1 0 a0_0 l0_1 ((rd_T66 l0_1 x4_1).f0) ((rd_T66 l0_1 x4_1).f1) ((rd_T66 l0_1 x4_1).f2)) else (none))) = some r := H
      have A17 := Aside0.mk A170
      clear A170
      replace H := Option.bind_eq_some_iff.mp H
      obtain ⟨t178, A180, H⟩ := H
      replace H : (if t175.length + t178.length < 140737488355328 then (spec_l06Bytes.l1 k1 (t175 ++ t178) x4_1 0 a0_0 l0_1 ((rd_T66 l0_1 x4_1).f0) ((rd_T66 l0_1 x4_1).f1) ((rd_T66 l0_1 x4_1).f2)) else (none)) = some r := H
      have A18 := Aside0.mk A180
      clear A180
      by_cases c19 : t175.length + t178.length < 140737488355328
      ·rw [if_pos c19] at H
       have LMc19 := Aside0.mk c19
       clear c19
       obtain ⟨y181, hy181⟩ : ∃ y_ : List Int, y_ = (t175 ++ t178) := ⟨_, rfl⟩
       replace H : (spec_l06Bytes.l1 k1 y181 x4_1 0 a0_0 l0_1 ((rd_T66 l0_1 x4_1).f0) ((rd_T66 l0_1 x4_1).f1) ((rd_T66 l0_1 x4_1).f2)) = some r := by first | (rw [hy181]; with_reducible exact H) | (have H2_ := (Option.bind_some _ _).symm.trans H; rw [hy181]; with_reducible exact H2_) | (have H2_ := (Option.bind_some _ _).symm.trans H; with_reducible exact H2_) | with_reducible exact H | (rw [hy181]; exact H) | exact H
       have Ny181 := Aside0.mk hy181
       clear hy181
       have H' := Aside0.mk H
       clear H
       have hcz20_0 : wr.cell? ⟨gb160, 0, none⟩ = some (.string a0_0) := (blk_cell BK160.out 0).trans rfl
       have hcz20_1 : wr.cell? ⟨gb160, 1, none⟩ = some (.slice A0_1 l0_1.length c0_1) := (blk_cell BK160.out 1).trans rfl
       have hfz20_0 := blk_frozen BK160.out 0
       have hfz20_1 := blk_frozen BK160.out 1
       have p173 : 0 ≤ (x4_1 : Int) := of_decide_eq_true zas
       have q173 : x4_1 < (l0_1.length : Int) := of_decide_eq_true zas
       obtain ⟨ad173, A173_1, c173_1, A173_2, c173_2, e173, hx173_0, hx173_1, hx173_2, hl173_1, hi173_1, hl173_2, hi173_2⟩ := at_T66 HR0_1.out x4_1 p173 q173
       cases e173
       replace hx173_0 := (HB.out.cell (World.block_lt_of_cell? w _ hx173_0)).trans hx173_0
       replace hx173_1 := (HB.out.cell (World.block_lt_of_cell? w _ hx173_1)).trans hx173_1
       replace hx173_2 := (HB.out.cell (World.block_lt_of_cell? w _ hx173_2)).trans hx173_2
       have HR173_1 := Aside0.mk hi173_1
       have HC173_1 := Aside0.mk hl173_1
       clear hi173_1 hl173_1
       have HR173_2 := Aside0.mk hi173_2
       have HC173_2 := Aside0.mk hl173_2
       clear hi173_2 hl173_2
       replace p173 := eq_true p173
       replace q173 := eq_true q173
       go_wp2_with (first | ((with_reducible refine gate_dst (N := 5) rfl ?_); refine box_event ?hg (N := 5) ?hd (cs := #[.string (⟨#[]⟩ : ByteArray), .slice none 0 0, .slice none 0 0]) (t := 66) ?hr ?_; (case hd => rfl); (case hg => rfl); (case hr => first | (go_simp; done) | (go_simp; rfl)); intro gb174 hg w21 hbox hb; have n0_ := Aside0.mk (Kd.R_below (zr HO_3) hb); have n1_ := Aside0.mk (blk_below (zb BK160) hb); have n2_ := Aside0.mk (below_step (zg HB) hb); have n3_ := Aside0.mk (hbox); have n4_ := Aside0.mk ((by rw [hg]; exact (below_size (zg HB)) : w.heap.size ≤ gb174)); have n5_ := Aside0.mk ((by rw [hg]; exact (below_size (zg HB)) : w.heap.size ≤ gb174)); have n6_ := Aside0.mk ((by rw [hg]; exact Nat.ne_of_lt (blk_lt (zb BK160)) : gb160 ≠ gb174)); have n7_ := Aside0.mk ((by rw [hg]; exact Nat.ne_of_gt (blk_lt (zb BK160)) : gb174 ≠ gb160)); clear HO_3; clear BK160; clear HB; have HO_3 := n0_; have BK160 := n1_; have HB := n2_; have BK174 := n3_; have GW174 := n4_; have GE174 := n5_; have NB160_174 := n6_; have NB174_160 := n7_; clear n0_ n1_ n2_ n3_ n4_ n5_ n6_ n7_; clear hb hbox hg; have hnb22 := NB174_160.out; have hnc22 := NB160_174.out; have hcz23_0 : w21.cell? ⟨gb174, 0, none⟩ = some (.string (⟨#[]⟩ : ByteArray)) := (blk_cell BK174.out 0).trans rfl; have hcz23_1 : w21.cell? ⟨gb174, 1, none⟩ = some (.slice none 0 0) := (blk_cell BK174.out 1).trans rfl; have hcz23_2 : w21.cell? ⟨gb174, 2, none⟩ = some (.slice none 0 0) := (blk_cell BK174.out 2).trans rfl; have hfz23_0 := blk_frozen BK174.out 0; have hfz23_1 := blk_frozen BK174.out 1; have hfz23_2 := blk_frozen BK174.out 2) | ((with_reducible refine gate_store (t := 66) (p := 5) rfl ?_); refine store_event (t := 66) (p := 5) (v := ?vo_w24) (w1 := (((w21.setCell ⟨gb174, 0, none⟩ (.string ((rd_T66 l0_1 x4_1).f0))).setCell ⟨gb174, 1, none⟩ (.slice A173_1 ((rd_T66 l0_1 x4_1).f1).length c173_1)).setCell ⟨gb174, 2, none⟩ (.slice A173_2 ((rd_T66 l0_1 x4_1).f2).length c173_2))) ?hg ?ho ?hn ?hr ?_; (case ho => rfl); (case hg => rfl); (case hn => rfl); (case hr => first | (go_simp; done) | (go_simp; rfl)); intro w24 hw; have n0_ : Aside0 (Kd.R (Kd.int .u8) 5 w24 w.heap.size (fun _ => True) u3 x3_1) := ⟨(by rw [hw]; exact (by (with_reducible repeat (first | apply Kd.R_alloc | apply Kd.R_drewN | apply Kd.R_drew)); exact Kd.R_mono (Kd.R_far (p := ⟨gb174, 2, none⟩) (Kd.R_far (p := ⟨gb174, 1, none⟩) (Kd.R_far (p := ⟨gb174, 0, none⟩) (Kd.R_types HO_3.out BK174.out (by decide)) (fun _ hk => hk.2) (.string ((rd_T66 l0_1 x4_1).f0))) (fun _ hk => hk.2) (.slice A173_1 ((rd_T66 l0_1 x4_1).f1).length c173_1)) (fun _ hk => hk.2) (.slice A173_2 ((rd_T66 l0_1 x4_1).f2).length c173_2)) (fun _ hk => trivial)))⟩; have n1_ : Aside0 (w24.heap[gb160]? = some (.cells #[.string a0_0, .slice (some ad173) l0_1.length c0_1] 31 (0, 0))) := ⟨(by rw [hw]; exact (by (with_reducible repeat (first | refine blk_drewN ?_ _ | refine blk_drew ?_ | refine blk_alloc ?_ _)); refine blk_far ?_ NB160_174.out _; (with_reducible repeat (first | refine blk_drewN ?_ _ | refine blk_drew ?_ | refine blk_alloc ?_ _)); refine blk_far ?_ NB160_174.out _; (with_reducible repeat (first | refine blk_drewN ?_ _ | refine blk_drew ?_ | refine blk_alloc ?_ _)); refine blk_far ?_ NB160_174.out _; (with_reducible repeat (first | refine blk_drewN ?_ _ | refine blk_drew ?_ | refine blk_alloc ?_ _)); exact BK160.out))⟩; have n2_ : Aside0 (w24.heap[gb174]? = some (.cells #[.string ((rd_T66 l0_1 x4_1).f0), .slice A173_1 ((rd_T66 l0_1 x4_1).f1).length c173_1, .slice A173_2 ((rd_T66 l0_1 x4_1).f2).length c173_2] 66 (0, 0))) := ⟨(by rw [hw]; exact (by (with_reducible repeat (first | refine blk_drewN ?_ _ | refine blk_drew ?_ | refine blk_alloc ?_ _)); refine blk_put (cs := #[.string ((rd_T66 l0_1 x4_1).f0), .slice A173_1 ((rd_T66 l0_1 x4_1).f1).length c173_1, .slice none 0 0]) ?_ 2 _ rfl; (with_reducible repeat (first | refine blk_drewN ?_ _ | refine blk_drew ?_ | refine blk_alloc ?_ _)); refine blk_put (cs := #[.string ((rd_T66 l0_1 x4_1).f0), .slice none 0 0, .slice none 0 0]) ?_ 1 _ rfl; (with_reducible repeat (first | refine blk_drewN ?_ _ | refine blk_drew ?_ | refine blk_alloc ?_ _)); refine blk_put (cs := #[.string (⟨#[]⟩ : ByteArray), .slice none 0 0, .slice none 0 0]) ?_ 0 _ rfl; (with_reducible repeat (first | refine blk_drewN ?_ _ | refine blk_drew ?_ | refine blk_alloc ?_ _)); exact BK174.out))⟩; have n3_ : Aside0 (Below w.heap.size w w24) := ⟨(by rw [hw]; exact (zg HB))⟩; clear hw; clear HO_3; clear BK160; clear BK174; clear HB; have HO_3 := n0_; have BK160 := n1_; have BK174 := n2_; have HB := n3_; clear n0_ n1_ n2_ n3_; have hcz25_0 : w24.cell? ⟨gb174, 0, none⟩ = some (.string ((rd_T66 l0_1 x4_1).f0)) := (blk_cell BK174.out 0).trans rfl; have hcz25_1 : w24.cell? ⟨gb174, 1, none⟩ = some (.slice A173_1 ((rd_T66 l0_1 x4_1).f1).length c173_1) := (blk_cell BK174.out 1).trans rfl; have hcz25_2 : w24.cell? ⟨gb174, 2, none⟩ = some (.slice A173_2 ((rd_T66 l0_1 x4_1).f2).length c173_2) := (blk_cell BK174.out 2).trans rfl; have hfz25_0 := blk_frozen BK174.out 0; have hfz25_1 := blk_frozen BK174.out 1; have hfz25_2 := blk_frozen BK174.out 2; obtain ⟨Ao26, co26, eo26⟩ := Kd.R_slice HO_3.out; subst eo26) | ((with_reducible refine gate_callee (f := 62) rfl ?_); refine goesL_ (some 33) rfl rfl Try.func62 (by kernel_rfl) rfl #[.slice Ao26 x3_1.length co26, .string ((rd_T66 l0_1 x4_1).f0)] rfl zar ?_; (with_reducible refine (spec_l06PutText.calls k1 (fun k_ => some k_ = (.slice Ao26 x3_1.length co26 : Value).ownBlock) (.slice Ao26 x3_1.length co26) x3_1 ((rd_T66 l0_1 x4_1).f0) t175 w _ ?side1 ?side2 A17.out).mono ?_); (case side1 => repeat (first | (with_reducible first | exact HB.out | apply below_alloc | apply pw_below_drewN | apply below_drew1 | refine below_set ?_ GE160.out | refine below_set ?_ GE174.out) | exact HB.out)); (case side2 => exact Kd.R_tight rfl HO_3.out); rintro e w27 ⟨v176, rfl, ho0, hb, hkp⟩; refine ⟨_, rfl, ?_⟩; have n0_ := Aside0.mk (blk_kept (zb BK160) hkp (fun hs_ => (fun e_ => (Kd.R_ne HO_3.out BK160.out (by decide)) e_) hs_)); have n1_ := Aside0.mk (blk_kept (zb BK174) hkp (fun hs_ => (fun e_ => (Kd.R_ne HO_3.out BK174.out (by decide)) e_) hs_)); have n2_ := Aside0.mk (Kd.R_mono (ok' := fun k_ => True) ho0 (fun k_ hk_ => trivial)); have n3_ := Aside0.mk (hb); clear BK160; clear BK174; clear HB; clear HO_3; have BK160 := n0_; have BK174 := n1_; have HO177 := n2_; have HB := n3_; clear n0_ n1_ n2_ n3_; (try clear hb); (try clear hkp); (try clear ho0); have hcz28_0 : w27.cell? ⟨gb174, 0, none⟩ = some (.string ((rd_T66 l0_1 x4_1).f0)) := (blk_cell BK174.out 0).trans rfl; have hcz28_1 : w27.cell? ⟨gb174, 1, none⟩ = some (.slice A173_1 ((rd_T66 l0_1 x4_1).f1).length c173_1) := (blk_cell BK174.out 1).trans rfl; have hcz28_2 : w27.cell? ⟨gb174, 2, none⟩ = some (.slice A173_2 ((rd_T66 l0_1 x4_1).f2).length c173_2) := (blk_cell BK174.out 2).trans rfl; have hfz28_0 := blk_frozen BK174.out 0; have hfz28_1 := blk_frozen BK174.out 1; have hfz28_2 := blk_frozen BK174.out 2) | ((with_reducible refine gate_callee (f := 63) rfl ?_); refine goesL_ (some 38) rfl rfl Try.func63 (by kernel_rfl) rfl #[.int .i64 (((rd_T66 l0_1 x4_1).f1).length : Int)] rfl zar ?_; (with_reducible refine (spec_l03Put.calls k1 (((rd_T66 l0_1 x4_1).f1).length : Int) t178 _ A18.out).mono ?_); rintro e w29 ⟨v179, rfl, ho0, hb⟩; refine ⟨_, rfl, ?_⟩; have n0_ := Aside0.mk (Kd.R_elder' (zr HO177) (Kd.R_base ho0) hb); have n1_ := Aside0.mk (Kd.R_lower (Kd.R_new' ho0 (Kd.R_lt (zr HO177))) (below_size (zg HB))); have n2_ := Aside0.mk (blk_below (zb BK160) hb); have n3_ := Aside0.mk (blk_below (zb BK174) hb); have n4_ := Aside0.mk (below_step (zg HB) hb); clear HO177; clear BK160; clear BK174; clear HB; have HO177 := n0_; have HO180 := n1_; have BK160 := n2_; have BK174 := n3_; have HB := n4_; clear n0_ n1_ n2_ n3_ n4_; (try clear hb); (try clear hb2); (try clear hk); (try clear hi); (try clear ho0); obtain ⟨Ao31, co31, eo31⟩ := Kd.R_slice HO180.out; subst eo31) | ((with_reducible refine gate_builtin (b := .append) (xs := #[.tmp 34, .tmp 38]) rfl ?_); at_builtin; refine Kd.R_append_rows (Kd.int .u8) (w0 := w) w.heap.size rfl (.tmp 34) (.tmp 38) 26 5 (.int .u8 0) 1 rfl Try.underlying26 info5 rfl (by decide) (by omega) v176 t175 t178 _ _ _ (fun k_ => some k_ ≠ (.slice Ao31 t178.length co31 : Value).ownBlock) (fun _ => False) rfl rfl ?aO ?aR (fun _ _ h => h) (fun _ h => h.elim) ?aF ?aB ?aS ?aL ?_; (case aR => repeat (first | exact (Kd.R_reads' HO180.out).2.2 | (with_reducible refine Kd.C_alloc ?_ _) | (with_reducible refine Kd.C_drewN ?_ _) | (with_reducible refine Kd.C_drew ?_))); (case aB => exact (zg HB)); (case aF => exact (fun k_ hk => Kd.fresh' (Kd.R_lt (zr HO180)) k_ hk)); (case aO => exact (Kd.R_mono (zr HO177) (fun _ hk => hk.2))); (case aS => exact (below_size (zg HB))); (case aL => have := LMc19.out; omega); intro v182 w30 ho hb hg hat; rw [← Ny181.out] at ho; have n0_ := Aside0.mk (blk_grown (zb BK160) hg (Kd.R_ne HO177.out BK160.out (by decide))); have n1_ := Aside0.mk (blk_grown (zb BK174) hg (Kd.R_ne HO177.out BK174.out (by decide))); have n2_ := Aside0.mk (Kd.R_after (ok := (fun _ => True)) (zr HO180) hg hat); have n3_ := Aside0.mk (hb); have n4_ := Aside0.mk (ho); clear BK160; clear BK174; clear HO180; clear HB; clear HO177; have BK160 := n0_; have BK174 := n1_; have HO180 := n2_; have HB := n3_; have HO183 := n4_; clear n0_ n1_ n2_ n3_ n4_; clear ho hb hg hat))
       go_loopg [3, 6] k1 (fun kq v3 v6 w' => ∃ (x3_2 : List Int) (x6_2 : Int), v6 = .int .i64 x6_2 ∧ Aside0 (spec_l06Bytes.l1 kq x3_2 x4_1 x6_2 a0_0 l0_1 ((rd_T66 l0_1 x4_1).f0) ((rd_T66 l0_1 x4_1).f1) ((rd_T66 l0_1 x4_1).f2) = some r) ∧ Aside0 (kq ≤ k1) ∧ Aside0 (Kd.R (Kd.int .u8) 5 w' w.heap.size (fun _ => True) v3 x3_2) ∧ Aside0 (w'.heap[gb160]? = some (.cells #[.string a0_0, (.slice (some ad173) l0_1.length c0_1)] 31 (0, 0))) ∧ Aside0 (w'.heap[gb174]? = some (.cells #[.string ((rd_T66 l0_1 x4_1).f0), (.slice A173_1 ((rd_T66 l0_1 x4_1).f1).length c173_1), (.slice A173_2 ((rd_T66 l0_1 x4_1).f2).length c173_2)] 66 (0, 0))) ∧ Aside0 (Below w.heap.size w w'))
       case atStart => exact ⟨(y181), (0), (by first | rfl | (simp; done) | (simp [*]; done)), H', ⟨Nat.le_refl _⟩, ⟨Kd.R_mono (zr HO183) (fun _ hk => trivial)⟩, ⟨zb BK160⟩, ⟨zb BK174⟩, ⟨zg HB⟩⟩
       case round =>
        clear H'
        try clear c1
        try clear p1
        try clear q1
        try clear hx1
        try clear c2
        try clear p2
        try clear c3
        try clear c4
        try clear c6
        try clear c15
        try clear c15b0
        try clear c16
        try clear c16b0
        try clear c17
        try clear p17
        try clear q17
        try clear hx17
        try clear c19
        try clear c22
        try clear hcz11_0
        try clear hcz11_1
        try clear hcz20_0
        try clear hcz20_1
        try clear hcz23_0
        try clear hcz23_1
        try clear hcz23_2
        try clear hcz25_0
        try clear hcz25_1
        try clear hcz25_2
        try clear hcz28_0
        try clear hcz28_1
        try clear hcz28_2
        try clear hcz8_0
        try clear hcz8_1
        try clear hfz11_0
        try clear hfz11_1
        try clear hfz20_0
        try clear hfz20_1
        try clear hfz23_0
        try clear hfz23_1
        try clear hfz23_2
        try clear hfz25_0
        try clear hfz25_1
        try clear hfz25_2
        try clear hfz28_0
        try clear hfz28_1
        try clear hfz28_2
        try clear hfz8_0
        try clear hfz8_1
        try clear hx173_0
        try clear hx173_1
        try clear hx173_2
        try clear p173
        try clear p2
        try clear q173
        obtain ⟨x3_2, x6_2, rfl, HA, HK2, HO_3, BK160, BK174, HB⟩ := hrel
        cases gk with
        | zero => exact absurd HA.out (by simp [spec_l06Bytes.l1])
        | succ k2 =>
         have H := HA.out
         clear HA
         simp only [spec_l06Bytes.l1] at H
         by_cases c32 : x6_2 < (((rd_T66 l0_1 x4_1).f1).length : Int)
         ·rw [if_pos c32] at H
          have c32b0 : decide (x6_2 < (((rd_T66 l0_1 x4_1).f1).length : Int)) = true := decide_eq_true c32
          clear c32
          by_cases c33 : 0 ≤ x6_2
          ·rw [if_pos c33] at H
           have c33b0 : decide (0 ≤ x6_2) = true := decide_eq_true c33
           clear c33
           replace H := Option.bind_eq_some_iff.mp H
           obtain ⟨t185, A340, H⟩ := H
           replace H : (spec_l06Bytes.l1 k2 t185 x4_1 (wrap64 (x6_2 + 1)) a0_0 l0_1 ((rd_T66 l0_1 x4_1).f0) ((rd_T66 l0_1 x4_1).f1) ((rd_T66 l0_1 x4_1).f2)) = some r := H
           have A34 := Aside0.mk A340
           clear A340
           have H' := Aside0.mk H
           clear H
           have hnb35 := NB174_160.out
           have hnc35 := NB160_174.out
           have hcz36_0 : wr.cell? ⟨gb174, 0, none⟩ = some (.string ((rd_T66 l0_1 x4_1).f0)) := (blk_cell BK174.out 0).trans rfl
           have hcz36_1 : wr.cell? ⟨gb174, 1, none⟩ = some (.slice A173_1 ((rd_T66 l0_1 x4_1).f1).length c173_1) := (blk_cell BK174.out 1).trans rfl
           have hcz36_2 : wr.cell? ⟨gb174, 2, none⟩ = some (.slice A173_2 ((rd_T66 l0_1 x4_1).f2).length c173_2) := (blk_cell BK174.out 2).trans rfl
           have hfz36_0 := blk_frozen BK174.out 0
           have hfz36_1 := blk_frozen BK174.out 1
           have hfz36_2 := blk_frozen BK174.out 2
           have p184 : 0 ≤ (x6_2 : Int) := of_decide_eq_true zas
           have q184 : x6_2 < (((rd_T66 l0_1 x4_1).f1).length : Int) := of_decide_eq_true zas
           obtain ⟨ad184, e184, hx184_0⟩ := Kd.at_string HR173_1.out x6_2 p184 q184
           cases e184
           replace hx184_0 := (HB.out.cell (World.block_lt_of_cell? w _ hx184_0)).trans hx184_0
           replace p184 := eq_true p184
           replace q184 := eq_true q184
           obtain ⟨Ao37, co37, eo37⟩ := Kd.R_slice HO_3.out
           subst eo37
           go_wp2_with (first | ((with_reducible refine gate_callee (f := 62) rfl ?_); refine goesL_ (some 53) rfl rfl Try.func62 (by kernel_rfl) rfl #[.slice Ao37 x3_2.length co37, .string (rdOf ByteArray.empty ((rd_T66 l0_1 x4_1).f1) x6_2)] rfl zar ?_; (with_reducible refine (spec_l06PutText.calls k2 (fun k_ => some k_ = (.slice Ao37 x3_2.length co37 : Value).ownBlock) (.slice Ao37 x3_2.length co37) x3_2 (rdOf ByteArray.empty ((rd_T66 l0_1 x4_1).f1) x6_2) t185 w _ ?side1 ?side2 A34.out).mono ?_); (case side1 => repeat (first | (with_reducible first | exact HB.out | apply below_alloc | apply pw_below_drewN | apply below_drew1 | refine below_set ?_ GE160.out | refine below_set ?_ GE174.out) | exact HB.out)); (case side2 => exact Kd.R_tight rfl HO_3.out); rintro e w38 ⟨v186, rfl, ho0, hb, hkp⟩; refine ⟨_, rfl, ?_⟩; have n0_ := Aside0.mk (blk_kept (zb BK160) hkp (fun hs_ => (fun e_ => (Kd.R_ne HO_3.out BK160.out (by decide)) e_) hs_)); have n1_ := Aside0.mk (blk_kept (zb BK174) hkp (fun hs_ => (fun e_ => (Kd.R_ne HO_3.out BK174.out (by decide)) e_) hs_)); have n2_ := Aside0.mk (Kd.R_mono (ok' := fun k_ => True) ho0 (fun k_ hk_ => trivial)); have n3_ := Aside0.mk (hb); clear BK160; clear BK174; clear HB; clear HO_3; have BK160 := n0_; have BK174 := n1_; have HO187 := n2_; have HB := n3_; clear n0_ n1_ n2_ n3_; (try clear hb); (try clear hkp); (try clear ho0)))
           go_roundg k2
           case measure => have := HK1.out; have := HK2.out; omega
           case rel => exact ⟨(t185), (wrap64 (x6_2 + 1)), (by first | rfl | (simp; done) | (simp [*]; done)), H', ⟨by have := HK1.out; have := HK2.out; omega⟩, ⟨zr HO187⟩, ⟨zb BK160⟩, ⟨zb BK174⟩, ⟨zg HB⟩⟩
          ·rw [if_neg c33] at H
           exact absurd H (by simp)
         ·rw [if_neg c32] at H
          have c32b0 : decide (x6_2 < (((rd_T66 l0_1 x4_1).f1).length : Int)) = false := decide_eq_false c32
          clear c32
          replace H := Option.bind_eq_some_iff.mp H
          obtain ⟨t188, A390, H⟩ := H
          replace H : (if x3_2.length + t188.length < 140737488355328 then (spec_l06Bytes.l2 k2 (x3_2 ++ t188) x4_1 0 a0_0 l0_1 ((rd_T66 l0_1 x4_1).f0) ((rd_T66 l0_1 x4_1).f1) ((rd_T66 l0_1 x4_1).f2)) else (none)) = some r := H
          have A39 := Aside0.mk A390
          clear A390
          by_cases c40 : x3_2.length + t188.length < 140737488355328
          ·rw [if_pos c40] at H
           have LMc40 := Aside0.mk c40
           clear c40
           obtain ⟨y191, hy191⟩ : ∃ y_ : List Int, y_ = (x3_2 ++ t188) := ⟨_, rfl⟩
           replace H : (spec_l06Bytes.l2 k2 y191 x4_1 0 a0_0 l0_1 ((rd_T66 l0_1 x4_1).f0) ((rd_T66 l0_1 x4_1).f1) ((rd_T66 l0_1 x4_1).f2)) = some r := by first | (rw [hy191]; with_reducible exact H) | (have H2_ := (Option.bind_some _ _).symm.trans H; rw [hy191]; with_reducible exact H2_) | (have H2_ := (Option.bind_some _ _).symm.trans H; with_reducible exact H2_) | with_reducible exact H | (rw [hy191]; exact H) | exact H
           have Ny191 := Aside0.mk hy191
           clear hy191
           have H' := Aside0.mk H
           clear H
           have hnb41 := NB174_160.out
           have hnc41 := NB160_174.out
           have hcz42_0 : wr.cell? ⟨gb174, 0, none⟩ = some (.string ((rd_T66 l0_1 x4_1).f0)) := (blk_cell BK174.out 0).trans rfl
           have hcz42_1 : wr.cell? ⟨gb174, 1, none⟩ = some (.slice A173_1 ((rd_T66 l0_1 x4_1).f1).length c173_1) := (blk_cell BK174.out 1).trans rfl
           have hcz42_2 : wr.cell? ⟨gb174, 2, none⟩ = some (.slice A173_2 ((rd_T66 l0_1 x4_1).f2).length c173_2) := (blk_cell BK174.out 2).trans rfl
           have hfz42_0 := blk_frozen BK174.out 0
           have hfz42_1 := blk_frozen BK174.out 1
           have hfz42_2 := blk_frozen BK174.out 2
           go_wp2_with (first | ((with_reducible refine gate_callee (f := 63) rfl ?_); refine goesL_ (some 58) rfl rfl Try.func63 (by kernel_rfl) rfl #[.int .i64 (((rd_T66 l0_1 x4_1).f2).length : Int)] rfl zar ?_; (with_reducible refine (spec_l03Put.calls k2 (((rd_T66 l0_1 x4_1).f2).length : Int) t188 _ A39.out).mono ?_); rintro e w43 ⟨v189, rfl, ho0, hb⟩; refine ⟨_, rfl, ?_⟩; have n0_ := Aside0.mk (Kd.R_elder' (zr HO_3) (Kd.R_base ho0) hb); have n1_ := Aside0.mk (Kd.R_lower (Kd.R_new' ho0 (Kd.R_lt (zr HO_3))) (below_size (zg HB))); have n2_ := Aside0.mk (blk_below (zb BK160) hb); have n3_ := Aside0.mk (blk_below (zb BK174) hb); have n4_ := Aside0.mk (below_step (zg HB) hb); clear HO_3; clear BK160; clear BK174; clear HB; have HO_3 := n0_; have HO190 := n1_; have BK160 := n2_; have BK174 := n3_; have HB := n4_; clear n0_ n1_ n2_ n3_ n4_; (try clear hb); (try clear hb2); (try clear hk); (try clear hi); (try clear ho0); obtain ⟨Ao45, co45, eo45⟩ := Kd.R_slice HO190.out; subst eo45) | ((with_reducible refine gate_builtin (b := .append) (xs := #[.tmp 54, .tmp 58]) rfl ?_); at_builtin; refine Kd.R_append_rows (Kd.int .u8) (w0 := w) w.heap.size rfl (.tmp 54) (.tmp 58) 26 5 (.int .u8 0) 1 rfl Try.underlying26 info5 rfl (by decide) (by omega) u3 x3_2 t188 _ _ _ (fun k_ => some k_ ≠ (.slice Ao45 t188.length co45 : Value).ownBlock) (fun _ => False) rfl rfl ?aO ?aR (fun _ _ h => h) (fun _ h => h.elim) ?aF ?aB ?aS ?aL ?_; (case aR => repeat (first | exact (Kd.R_reads' HO190.out).2.2 | (with_reducible refine Kd.C_alloc ?_ _) | (with_reducible refine Kd.C_drewN ?_ _) | (with_reducible refine Kd.C_drew ?_))); (case aB => exact (zg HB)); (case aF => exact (fun k_ hk => Kd.fresh' (Kd.R_lt (zr HO190)) k_ hk)); (case aO => exact (Kd.R_mono (zr HO_3) (fun _ hk => hk.2))); (case aS => exact (below_size (zg HB))); (case aL => have := LMc40.out; omega); intro v192 w44 ho hb hg hat; rw [← Ny191.out] at ho; have n0_ := Aside0.mk (blk_grown (zb BK160) hg (Kd.R_ne HO_3.out BK160.out (by decide))); have n1_ := Aside0.mk (blk_grown (zb BK174) hg (Kd.R_ne HO_3.out BK174.out (by decide))); have n2_ := Aside0.mk (Kd.R_after (ok := (fun _ => True)) (zr HO190) hg hat); have n3_ := Aside0.mk (hb); have n4_ := Aside0.mk (ho); clear BK160; clear BK174; clear HO190; clear HB; clear HO_3; have BK160 := n0_; have BK174 := n1_; have HO190 := n2_; have HB := n3_; have HO193 := n4_; clear n0_ n1_ n2_ n3_ n4_; clear ho hb hg hat))
           go_loopg [3, 7] k2 (fun kq v3 v7 w' => ∃ (x3_3 : List Int) (x7_3 : Int), v7 = .int .i64 x7_3 ∧ Aside0 (spec_l06Bytes.l2 kq x3_3 x4_1 x7_3 a0_0 l0_1 ((rd_T66 l0_1 x4_1).f0) ((rd_T66 l0_1 x4_1).f1) ((rd_T66 l0_1 x4_1).f2) = some r) ∧ Aside0 (kq ≤ k2) ∧ Aside0 (Kd.R (Kd.int .u8) 5 w' w.heap.size (fun _ => True) v3 x3_3) ∧ Aside0 (w'.heap[gb160]? = some (.cells #[.string a0_0, (.slice (some ad173) l0_1.length c0_1)] 31 (0, 0))) ∧ Aside0 (w'.heap[gb174]? = some (.cells #[.string ((rd_T66 l0_1 x4_1).f0), (.slice A173_1 ((rd_T66 l0_1 x4_1).f1).length c173_1), (.slice A173_2 ((rd_T66 l0_1 x4_1).f2).length c173_2)] 66 (0, 0))) ∧ Aside0 (Below w.heap.size w w'))
           case atStart => exact ⟨(y191), (0), (by first | rfl | (simp; done) | (simp [*]; done)), H', ⟨Nat.le_refl _⟩, ⟨Kd.R_mono (zr HO193) (fun _ hk => trivial)⟩, ⟨zb BK160⟩, ⟨zb BK174⟩, ⟨zg HB⟩⟩
           case round =>
            clear H'
            try clear c1
            try clear p1
            try clear q1
            try clear hx1
            try clear c2
            try clear p2
            try clear c3
            try clear c4
            try clear c6
            try clear p6
            try clear c15
            try clear c15b0
            try clear c16
            try clear c16b0
            try clear c17
            try clear p17
            try clear q17
            try clear hx17
            try clear p18
            try clear q18
            try clear hx18
            try clear c19
            try clear c22
            try clear c32
            try clear c32b0
            try clear c33
            try clear c33b0
            try clear c35
            try clear c36
            try clear c40
            try clear c41
            try clear hcz11_0
            try clear hcz11_1
            try clear hcz20_0
            try clear hcz20_1
            try clear hcz23_0
            try clear hcz23_1
            try clear hcz23_2
            try clear hcz25_0
            try clear hcz25_1
            try clear hcz25_2
            try clear hcz28_0
            try clear hcz28_1
            try clear hcz28_2
            try clear hcz36_0
            try clear hcz36_1
            try clear hcz36_2
            try clear hcz42_0
            try clear hcz42_1
            try clear hcz42_2
            try clear hcz8_0
            try clear hcz8_1
            try clear hfz11_0
            try clear hfz11_1
            try clear hfz20_0
            try clear hfz20_1
            try clear hfz23_0
            try clear hfz23_1
            try clear hfz23_2
            try clear hfz25_0
            try clear hfz25_1
            try clear hfz25_2
            try clear hfz28_0
            try clear hfz28_1
            try clear hfz28_2
            try clear hfz36_0
            try clear hfz36_1
            try clear hfz36_2
            try clear hfz42_0
            try clear hfz42_1
            try clear hfz42_2
            try clear hfz8_0
            try clear hfz8_1
            try clear hx173_0
            try clear hx173_1
            try clear hx173_2
            try clear hx184_0
            try clear p1
            try clear p17
            try clear p173
            try clear p184
            try clear p2
            try clear q1
            try clear q17
            try clear q173
            try clear q184
            obtain ⟨x3_3, x7_3, rfl, HA, HK3, HO_3, BK160, BK174, HB⟩ := hrel
            cases gk with
            | zero => exact absurd HA.out (by simp [spec_l06Bytes.l2])
            | succ k3 =>
             have H := HA.out
             clear HA
             simp only [spec_l06Bytes.l2] at H
             by_cases c46 : x7_3 < (((rd_T66 l0_1 x4_1).f2).length : Int)
             ·rw [if_pos c46] at H
              have c46b0 : decide (x7_3 < (((rd_T66 l0_1 x4_1).f2).length : Int)) = true := decide_eq_true c46
              clear c46
              by_cases c47 : 0 ≤ x7_3
              ·rw [if_pos c47] at H
               have c47b0 : decide (0 ≤ x7_3) = true := decide_eq_true c47
               clear c47
               replace H := Option.bind_eq_some_iff.mp H
               obtain ⟨t195, A480, H⟩ := H
               replace H : (spec_l06Bytes.l2 k3 t195 x4_1 (wrap64 (x7_3 + 1)) a0_0 l0_1 ((rd_T66 l0_1 x4_1).f0) ((rd_T66 l0_1 x4_1).f1) ((rd_T66 l0_1 x4_1).f2)) = some r := H
               have A48 := Aside0.mk A480
               clear A480
               have H' := Aside0.mk H
               clear H
               have hnb49 := NB174_160.out
               have hnc49 := NB160_174.out
               have hcz50_0 : wr.cell? ⟨gb174, 0, none⟩ = some (.string ((rd_T66 l0_1 x4_1).f0)) := (blk_cell BK174.out 0).trans rfl
               have hcz50_1 : wr.cell? ⟨gb174, 1, none⟩ = some (.slice A173_1 ((rd_T66 l0_1 x4_1).f1).length c173_1) := (blk_cell BK174.out 1).trans rfl
               have hcz50_2 : wr.cell? ⟨gb174, 2, none⟩ = some (.slice A173_2 ((rd_T66 l0_1 x4_1).f2).length c173_2) := (blk_cell BK174.out 2).trans rfl
               have hfz50_0 := blk_frozen BK174.out 0
               have hfz50_1 := blk_frozen BK174.out 1
               have hfz50_2 := blk_frozen BK174.out 2
               have p194 : 0 ≤ (x7_3 : Int) := of_decide_eq_true zas
               have q194 : x7_3 < (((rd_T66 l0_1 x4_1).f2).length : Int) := of_decide_eq_true zas
               obtain ⟨ad194, e194, hx194_0⟩ := Kd.at_int HR173_2.out x7_3 p194 q194
               cases e194
               replace hx194_0 := (HB.out.cell (World.block_lt_of_cell? w _ hx194_0)).trans hx194_0
               replace p194 := eq_true p194
               replace q194 := eq_true q194
               obtain ⟨Ao51, co51, eo51⟩ := Kd.R_slice HO_3.out
               subst eo51
               go_wp2_with (first | ((with_reducible refine gate_callee (f := 64) rfl ?_); refine goesL_ (some 73) rfl rfl Try.func64 (by kernel_rfl) rfl #[.slice Ao51 x3_3.length co51, .int .i64 (rd ((rd_T66 l0_1 x4_1).f2) x7_3)] rfl zar ?_; (with_reducible refine (spec_l06PutNumber.calls k3 (fun k_ => some k_ = (.slice Ao51 x3_3.length co51 : Value).ownBlock) (.slice Ao51 x3_3.length co51) x3_3 (rd ((rd_T66 l0_1 x4_1).f2) x7_3) t195 w _ ?side1 ?side2 A48.out).mono ?_); (case side1 => repeat (first | (with_reducible first | exact HB.out | apply below_alloc | apply pw_below_drewN | apply below_drew1 | refine below_set ?_ GE160.out | refine below_set ?_ GE174.out) | exact HB.out)); (case side2 => exact Kd.R_tight rfl HO_3.out); rintro e w52 ⟨v196, rfl, ho0, hb, hkp⟩; refine ⟨_, rfl, ?_⟩; have n0_ := Aside0.mk (blk_kept (zb BK160) hkp (fun hs_ => (fun e_ => (Kd.R_ne HO_3.out BK160.out (by decide)) e_) hs_)); have n1_ := Aside0.mk (blk_kept (zb BK174) hkp (fun hs_ => (fun e_ => (Kd.R_ne HO_3.out BK174.out (by decide)) e_) hs_)); have n2_ := Aside0.mk (Kd.R_mono (ok' := fun k_ => True) ho0 (fun k_ hk_ => trivial)); have n3_ := Aside0.mk (hb); clear BK160; clear BK174; clear HB; clear HO_3; have BK160 := n0_; have BK174 := n1_; have HO197 := n2_; have HB := n3_; clear n0_ n1_ n2_ n3_; (try clear hb); (try clear hkp); (try clear ho0)))
               go_roundg k3
               case measure => have := HK1.out; have := HK2.out; have := HK3.out; omega
               case rel => exact ⟨(t195), (wrap64 (x7_3 + 1)), (by first | rfl | (simp; done) | (simp [*]; done)), H', ⟨by have := HK1.out; have := HK2.out; have := HK3.out; omega⟩, ⟨zr HO197⟩, ⟨zb BK160⟩, ⟨zb BK174⟩, ⟨zg HB⟩⟩
              ·rw [if_neg c47] at H
               exact absurd H (by simp)
             ·rw [if_neg c46] at H
              have c46b0 : decide (x7_3 < (((rd_T66 l0_1 x4_1).f2).length : Int)) = false := decide_eq_false c46
              clear c46
              have H' := Aside0.mk H
              clear H
              have hnb53 := NB174_160.out
              have hnc53 := NB160_174.out
              have hcz54_0 : wr.cell? ⟨gb174, 0, none⟩ = some (.string ((rd_T66 l0_1 x4_1).f0)) := (blk_cell BK174.out 0).trans rfl
              have hcz54_1 : wr.cell? ⟨gb174, 1, none⟩ = some (.slice A173_1 ((rd_T66 l0_1 x4_1).f1).length c173_1) := (blk_cell BK174.out 1).trans rfl
              have hcz54_2 : wr.cell? ⟨gb174, 2, none⟩ = some (.slice A173_2 ((rd_T66 l0_1 x4_1).f2).length c173_2) := (blk_cell BK174.out 2).trans rfl
              have hfz54_0 := blk_frozen BK174.out 0
              have hfz54_1 := blk_frozen BK174.out 1
              have hfz54_2 := blk_frozen BK174.out 2
              go_wp2
              go_roundg k3
              case measure => have := HK1.out; have := HK2.out; have := HK3.out; omega
              case rel => exact ⟨(x3_3), (wrap64 (x4_1 + 1)), (by first | rfl | (simp; done) | (simp [*]; done)), H', ⟨by have := HK1.out; have := HK2.out; have := HK3.out; omega⟩, ⟨zr HO_3⟩, ⟨zb BK160⟩, ⟨zg HB⟩⟩
          ·rw [if_neg c40] at H
           exact absurd H (by simp)
      ·rw [if_neg c19] at H
       exact absurd H (by simp)
     ·rw [if_neg c16] at H
      exact absurd H (by simp)
    ·rw [if_neg c15] at H
     have c15b0 : decide (x4_1 < (l0_1.length : Int)) = false := decide_eq_false c15
     clear c15
     obtain rfl := Option.some.inj H
     have hcz55_0 : wr.cell? ⟨gb160, 0, none⟩ = some (.string a0_0) := (blk_cell BK160.out 0).trans rfl
     have hcz55_1 : wr.cell? ⟨gb160, 1, none⟩ = some (.slice A0_1 l0_1.length c0_1) := (blk_cell BK160.out 1).trans rfl
     have hfz55_0 := blk_frozen BK160.out 0
     have hfz55_1 := blk_frozen BK160.out 1
     go_wp2
     go_ret
     exact ⟨_, zre, by (with_reducible repeat (first | apply Kd.R_alloc | apply Kd.R_drewN | apply Kd.R_drew)); exact HO_3.out, zg HB⟩
 ·rw [if_neg c4] at H
  exact absurd H (by simp)

/-! ### spec_l04Four: function 78 -/
def spec_l04Four.f (a0 : Int) : Option (List Int) := some (([(wrap64 (Int.tdiv a0 16777216)) % 256, (Int.tmod (wrap64 (Int.tdiv a0 65536)) 256) % 256, (Int.tmod (wrap64 (Int.tdiv a0 256)) 256) % 256, (Int.tmod a0 256) % 256] : List Int))
set_option maxHeartbeats 8000000 in
set_option maxRecDepth 100000 in
theorem spec_l04Four.calls (a0 : Int) (r : List Int) (w : World) (h : spec_l04Four.f a0 = some r) :
 Calls Try.prog 78 #[.int .i64 a0] w fun e w' => ∃ v0_ : Value, e = .returned (v0_) ∧ Kd.R (Kd.int .u8) 5 w' w.heap.size (fun _ => True) v0_ r ∧ Below w.heap.size w w' := by
 have HB := Aside0.mk (Below.refl w.heap.size w)
 have H : (some (([(wrap64 (Int.tdiv a0 16777216)) % 256, (Int.tmod (wrap64 (Int.tdiv a0 65536)) 256) % 256, (Int.tmod (wrap64 (Int.tdiv a0 256)) 256) % 256, (Int.tmod a0 256) % 256] : List Int))) = some r := h
 clear h
 obtain ⟨y198, hy198⟩ : ∃ y_ : List Int, y_ = (([(wrap64 (Int.tdiv a0 16777216)) % 256, (Int.tmod (wrap64 (Int.tdiv a0 65536)) 256) % 256, (Int.tmod (wrap64 (Int.tdiv a0 256)) 256) % 256, (Int.tmod a0 256) % 256] : List Int)) := ⟨_, rfl⟩
 replace H : (some y198) = some r := by first | (rw [hy198]; with_reducible exact H) | (have H2_ := (Option.bind_some _ _).symm.trans H; rw [hy198]; with_reducible exact H2_) | (have H2_ := (Option.bind_some _ _).symm.trans H; with_reducible exact H2_) | with_reducible exact H | (rw [hy198]; exact H) | exact H
 have Ny198 := Aside0.mk hy198
 clear hy198
 obtain rfl := Option.some.inj H
 go_enter Try.func78, Try.ntmps78
 go_wp2_with (first | ((with_reducible refine gate_dst (N := 17) rfl ?_); refine Kd.R_lit (Kd.int .u8) _ 5 ?hg (N := 17) ?hd (xs := ([(wrap64 (Int.tdiv a0 16777216)) % 256, (Int.tmod (wrap64 (Int.tdiv a0 65536)) 256) % 256, (Int.tmod (wrap64 (Int.tdiv a0 256)) 256) % 256, (Int.tmod a0 256) % 256] : List Int)) (inner := [.int .u8 ((wrap64 (Int.tdiv a0 16777216)) % 256), .int .u8 ((Int.tmod (wrap64 (Int.tdiv a0 65536)) 256) % 256), .int .u8 ((Int.tmod (wrap64 (Int.tdiv a0 256)) 256) % 256), .int .u8 ((Int.tmod a0 256) % 256)]) (ok := fun _ => True) (okp := fun _ => True) ?hr ?hp (fun _ hk => hk) trivial (Below.refl _ _) (Nat.le_refl _) (by simp) ?_; (case hd => rfl); (case hg => rfl); (case hr => first | (go_simp; done) | (go_simp; rfl)); (case hp => exact (Reps.one (show Kd.M (Kd.int .u8) _ _ _ ((wrap64 (Int.tdiv a0 16777216)) % 256) [.int .u8 ((wrap64 (Int.tdiv a0 16777216)) % 256)] from rfl) (Reps.one (show Kd.M (Kd.int .u8) _ _ _ ((Int.tmod (wrap64 (Int.tdiv a0 65536)) 256) % 256) [.int .u8 ((Int.tmod (wrap64 (Int.tdiv a0 65536)) 256) % 256)] from rfl) (Reps.one (show Kd.M (Kd.int .u8) _ _ _ ((Int.tmod (wrap64 (Int.tdiv a0 256)) 256) % 256) [.int .u8 ((Int.tmod (wrap64 (Int.tdiv a0 256)) 256) % 256)] from rfl) (Reps.one (show Kd.M (Kd.int .u8) _ _ _ ((Int.tmod a0 256) % 256) [.int .u8 ((Int.tmod a0 256) % 256)] from rfl) (Reps.none _ _)))))); intro v199 w2 ho3 hb hg_ hnew_; clear hg_ hnew_; (first | rw [← Ny198.out] at ho3 | (simp only [Int.reduceToNat] at ho3; rw [← Ny198.out] at ho3)); have n0_ := Aside0.mk (Kd.R_lower ho3 (below_size (zh HB))); have n1_ := Aside0.mk (below_step (zh HB) hb); clear HB; have HO200 := n0_; have HB := n1_; clear n0_ n1_; clear hb ho3))
 go_ret
 exact ⟨_, zre, by (with_reducible repeat (first | apply Kd.R_alloc | apply Kd.R_drewN | apply Kd.R_drew)); exact HO200.out, zh HB⟩

/-! ### spec_Sum32: function 79 -/
def spec_Sum32.l0 : Nat → List Int → Int → Int → Option (Int)
 | 0, _, _, _ => none
 | k + 1, x0, x3, x4 => if x4 < (x0.length : Int) then (if 0 ≤ x4 then (spec_Sum32.l0 k x0 (Int.tmod (wrap64 ((Go.bits .xor .i64 x3 (wrap64 (rd x0 x4))) * 16777619)) 4294967296) (wrap64 (x4 + 1))) else (none)) else (some x3)
def spec_Sum32.f (k : Nat) (l0 : List Int) : Option (Int) := if (l0.length : Int) > 1048576 then (some 0) else (spec_Sum32.l0 k l0 2166136261 0)
theorem spec_Sum32.mono_l : ∀ k, (∀ y0 y1 y2, LeO (spec_Sum32.l0 k y0 y1 y2) (spec_Sum32.l0 (k + 1) y0 y1 y2))
 | 0 => fun _ _ _ r h => by simp [spec_Sum32.l0] at h
 | k + 1 => by
  have ih0 := spec_Sum32.mono_l k
  ·intro y0 y1 y2
   unfold spec_Sum32.l0
   repeat' first
   | (with_reducible exact ih0 _ _ _)
   | (with_reducible exact LeO.refl _)
   | (with_reducible exact LeO.none _)
   | (with_reducible refine LeO.ite ?_ ?_)
   | (with_reducible refine LeO.bind ?_ (fun _ => ?_))
   | exact ih0 _ _ _
   | exact LeO.none _
   | refine LeO.ite ?_ ?_
   | refine LeO.bind ?_ (fun _ => ?_)
theorem spec_Sum32.mono : ∀ a0 k, LeO (spec_Sum32.f k a0) (spec_Sum32.f (k + 1) a0) := by
 intro a0 k
 have ih0 := spec_Sum32.mono_l k
 unfold spec_Sum32.f
 repeat' first
  | (with_reducible exact ih0 _ _ _)
  | (with_reducible exact LeO.refl _)
  | (with_reducible exact LeO.none _)
  | (with_reducible refine LeO.ite ?_ ?_)
  | (with_reducible refine LeO.bind ?_ (fun _ => ?_))
  | exact ih0 _ _ _
  | exact LeO.none _
  | refine LeO.ite ?_ ?_
  | refine LeO.bind ?_ (fun _ => ?_)
set_option maxHeartbeats 8000000 in
set_option maxRecDepth 100000 in
theorem spec_Sum32.calls (k : Nat) (A0 : Option Addr) (c0 : Nat) (l0 : List Int) (r : Int) (w : World) (hr0 : Kd.C (Kd.int .u8) w A0 l0.length l0) (hc0 : l0.length ≤ c0) (h : spec_Sum32.f k l0 = some r) :
 Calls Try.prog 79 #[.slice A0 l0.length c0] w fun e w' => e = .returned (.int .i64 r) ∧ Drawn0 w w' := by
 have HR0 := Aside0.mk hr0
 have HC0 := Aside0.mk hc0
 clear hr0 hc0
 have H : (if (l0.length : Int) > 1048576 then (some 0) else (spec_Sum32.l0 k l0 2166136261 0)) = some r := h
 clear h
 by_cases c2 : (l0.length : Int) > 1048576
 ·rw [if_pos c2] at H
  have c2b0 : decide (1048576 < (l0.length : Int)) = true := decide_eq_true c2
  have c2b1 : decide (1048576 < l0.length) = true := decide_eq_true (by omega)
  clear c2
  obtain rfl := Option.some.inj H
  go_enter Try.func79, Try.ntmps79
  go_wp2
  go_ret
  exact ⟨by first | rfl | (simp; done) | (simp [*]; done), by repeat (first | exact Drawn0.refl _ | apply Drawn0.step)⟩
 ·rw [if_neg c2] at H
  have c2b0 : decide (1048576 < (l0.length : Int)) = false := decide_eq_false c2
  have c2b1 : decide (1048576 < l0.length) = false := decide_eq_false (by omega)
  clear c2
  have H' := Aside0.mk H
  clear H
  go_enter Try.func79, Try.ntmps79
  go_wp2
  go_loopg [3, 4] k (fun kq v3 v4 w' => ∃ (x3_1 : Int) (x4_1 : Int), v3 = .int .i64 x3_1 ∧ v4 = .int .i64 x4_1 ∧ Aside0 (spec_Sum32.l0 kq l0 x3_1 x4_1 = some r) ∧ Aside0 (kq ≤ k) ∧ Drawn0 w w')
  case atStart => exact ⟨(2166136261), (0), (by first | rfl | (simp; done) | (simp [*]; done)), (by first | rfl | (simp; done) | (simp [*]; done)), H', ⟨Nat.le_refl _⟩, by repeat (first | exact Drawn0.refl _ | apply Drawn0.step)⟩
  case round =>
   clear H'
   try clear c2
   try clear c2b0
   try clear c2b1
   try clear p2
   obtain ⟨x3_1, x4_1, rfl, rfl, HA, HK1, ⟨m1, rfl⟩⟩ := hrel
   cases gk with
   | zero => exact absurd HA.out (by simp [spec_Sum32.l0])
   | succ k1 =>
    have H := HA.out
    clear HA
    simp only [spec_Sum32.l0] at H
    by_cases c3 : x4_1 < (l0.length : Int)
    ·rw [if_pos c3] at H
     have c3b0 : decide (x4_1 < (l0.length : Int)) = true := decide_eq_true c3
     clear c3
     by_cases c4 : 0 ≤ x4_1
     ·rw [if_pos c4] at H
      have c4b0 : decide (0 ≤ x4_1) = true := decide_eq_true c4
      clear c4
      have H' := Aside0.mk H
      clear H
      have p201 : 0 ≤ (x4_1 : Int) := of_decide_eq_true zas
      have q201 : x4_1 < (l0.length : Int) := of_decide_eq_true zas
      obtain ⟨ad201, e201, hx201_0⟩ := Kd.at_int HR0.out x4_1 p201 q201
      cases e201
      replace p201 := eq_true p201
      replace q201 := eq_true q201
      go_wp2
      go_roundg k1
      case measure => have := HK1.out; omega
      case rel => exact ⟨(Int.tmod (wrap64 ((Go.bits .xor .i64 x3_1 (wrap64 (rd l0 x4_1))) * 16777619)) 4294967296), (wrap64 (x4_1 + 1)), (by first | rfl | (simp; done) | (simp [*]; done)), (by first | rfl | (simp; done) | (simp [*]; done)), H', ⟨by have := HK1.out; omega⟩, by repeat (first | exact Drawn0.refl _ | apply Drawn0.step)⟩
     ·rw [if_neg c4] at H
      exact absurd H (by simp)
    ·rw [if_neg c3] at H
     have c3b0 : decide (x4_1 < (l0.length : Int)) = false := decide_eq_false c3
     clear c3
     obtain rfl := Option.some.inj H
     go_wp2
     go_ret
     exact ⟨by first | rfl | (simp; done) | (simp [*]; done), by repeat (first | exact Drawn0.refl _ | apply Drawn0.step)⟩

end Go.Proofs.Ytnpdmleglcbobaa.XFnExactRecordBytes
