-- A printed text of this session (wip/x/xprint.py).
import Derived.Test.YtnpdmleglcbobaaXFnExactReadLogx0
import Derived.Test.YtnpdmleglcbobaaXFnExactReadLogx13
namespace Go.Proofs.Ytnpdmleglcbobaa.XFnExactReadLog
open Go.RowKit Go.Proofs.YtnpdmleglcbobaaW.PrintWords Go.Proofs.YtnpdmleglcbobaaW.PrintLast Go.Proofs.YtnpdmleglcbobaaW.PrintMore
attribute [local go_sem] max2_int min2_int max_two min_two max_three min_three max_four min_four   -- for this text's walks alone
set_option linter.unusedVariables false
set_option linter.unusedSimpArgs false

/-! ### spec_l06Bytes: function 36 -/
mutual
def spec_l06Bytes.l0 : Nat → List Int → Int → ByteArray → List (S66) → Option (List Int)
 | 0, _, _, _, _ => none
 | k + 1, x3, x4, x390000, x390001 => if x4 < (x390001.length : Int) then (if 0 ≤ x4 then ((spec_l06PutText.f k x3 ((rd_T66 x390001 x4).f0)).bind fun t404 => ((spec_l03Put.f k (((rd_T66 x390001 x4).f1).length : Int)).bind fun t407 => (if t404.length + t407.length < 140737488355328 then (spec_l06Bytes.l1 k (t404 ++ t407) x4 0 x390000 x390001 ((rd_T66 x390001 x4).f0) ((rd_T66 x390001 x4).f1) ((rd_T66 x390001 x4).f2)) else (none)))) else (none)) else (some x3)
def spec_l06Bytes.l1 : Nat → List Int → Int → Int → ByteArray → List (S66) → ByteArray → List ByteArray → List Int → Option (List Int)
 | 0, _, _, _, _, _, _, _, _ => none
 | k + 1, x3, x4, x6, x390000, x390001, x404000, x404001, x404002 => if x6 < (x404001.length : Int) then (if 0 ≤ x6 then ((spec_l06PutText.f k x3 (rdOf ByteArray.empty x404001 x6)).bind fun t414 => (spec_l06Bytes.l1 k t414 x4 (wrap64 (x6 + 1)) x390000 x390001 x404000 x404001 x404002)) else (none)) else ((spec_l03Put.f k (x404002.length : Int)).bind fun t417 => (if x3.length + t417.length < 140737488355328 then (spec_l06Bytes.l2 k (x3 ++ t417) x4 0 x390000 x390001 x404000 x404001 x404002) else (none)))
def spec_l06Bytes.l2 : Nat → List Int → Int → Int → ByteArray → List (S66) → ByteArray → List ByteArray → List Int → Option (List Int)
 | 0, _, _, _, _, _, _, _, _ => none
 | k + 1, x3, x4, x7, x390000, x390001, x404000, x404001, x404002 => if x7 < (x404002.length : Int) then (if 0 ≤ x7 then ((spec_l06PutNumber.f k x3 (rd x404002 x7)).bind fun t424 => (spec_l06Bytes.l2 k t424 x4 (wrap64 (x7 + 1)) x390000 x390001 x404000 x404001 x404002)) else (none)) else (spec_l06Bytes.l0 k x3 (wrap64 (x4 + 1)) x390000 x390001)
end
def spec_l06Bytes.f (k : Nat) (a0_0 : ByteArray) (l0_1 : List (S66)) : Option (List Int) := (spec_l06PutText.f k (([] : List Int)) a0_0).bind fun t393 => ((spec_l03Put.f k (l0_1.length : Int)).bind fun t396 => (if t393.length + t396.length < 140737488355328 then (spec_l06Bytes.l0 k (t393 ++ t396) 0 a0_0 l0_1) else (none)))
theorem spec_l06Bytes.mono_l : ∀ k, (∀ y0 y1 y2 y3, LeO (spec_l06Bytes.l0 k y0 y1 y2 y3) (spec_l06Bytes.l0 (k + 1) y0 y1 y2 y3)) ∧ (∀ y0 y1 y2 y3 y4 y5 y6 y7, LeO (spec_l06Bytes.l1 k y0 y1 y2 y3 y4 y5 y6 y7) (spec_l06Bytes.l1 (k + 1) y0 y1 y2 y3 y4 y5 y6 y7)) ∧ (∀ y0 y1 y2 y3 y4 y5 y6 y7, LeO (spec_l06Bytes.l2 k y0 y1 y2 y3 y4 y5 y6 y7) (spec_l06Bytes.l2 (k + 1) y0 y1 y2 y3 y4 y5 y6 y7))
 | 0 => ⟨fun _ _ _ _ r h => by simp [spec_l06Bytes.l0] at h, fun _ _ _ _ _ _ _ _ r h => by simp [spec_l06Bytes.l1] at h, fun _ _ _ _ _ _ _ _ r h => by simp [spec_l06Bytes.l2] at h⟩
 | k + 1 => by
  obtain ⟨ih0, ih1, ih2⟩ := spec_l06Bytes.mono_l k
  refine ⟨?_, ?_, ?_⟩
  all_goals intros
  all_goals first | unfold spec_l06Bytes.l0 | unfold spec_l06Bytes.l1 | unfold spec_l06Bytes.l2
  all_goals
   repeat' first
   | (with_reducible exact ih0 _ _ _ _)
   | (with_reducible exact ih1 _ _ _ _ _ _ _ _)
   | (with_reducible exact ih2 _ _ _ _ _ _ _ _)
   | (with_reducible exact spec_l03Put.mono _ _)
   | (with_reducible exact spec_l06PutNumber.mono _ _ _)
   | (with_reducible exact spec_l06PutText.mono _ _ _)
   | (with_reducible exact LeO.refl _)
   | (with_reducible exact LeO.none _)
   | (with_reducible refine LeO.ite ?_ ?_)
   | (with_reducible refine LeO.bind ?_ (fun _ => ?_))
theorem spec_l06Bytes.mono : ∀ a0 a1 k, LeO (spec_l06Bytes.f k a0 a1) (spec_l06Bytes.f (k + 1) a0 a1) := by
 intro a0 a1 k
 obtain ⟨ih0, ih1, ih2⟩ := spec_l06Bytes.mono_l k
 unfold spec_l06Bytes.f
 repeat' first
  | (with_reducible exact ih0 _ _ _ _)
  | (with_reducible exact ih1 _ _ _ _ _ _ _ _)
  | (with_reducible exact ih2 _ _ _ _ _ _ _ _)
  | (with_reducible exact spec_l03Put.mono _ _)
  | (with_reducible exact spec_l06PutNumber.mono _ _ _)
  | (with_reducible exact spec_l06PutText.mono _ _ _)
  | (with_reducible exact LeO.refl _)
  | (with_reducible exact LeO.none _)
  | (with_reducible refine LeO.ite ?_ ?_)
  | (with_reducible refine LeO.bind ?_ (fun _ => ?_))
set_option maxHeartbeats 8000000 in
set_option maxRecDepth 100000 in
theorem spec_l06Bytes.calls (k : Nat) (a0_0 : ByteArray) (A0_1 : Option Addr) (c0_1 : Nat) (l0_1 : List (S66)) (r : List Int) (w : World) (hr0_1 : Kd.C k66 w A0_1 l0_1.length l0_1) (hc0_1 : l0_1.length ≤ c0_1) (h : spec_l06Bytes.f k a0_0 l0_1 = some r) :
 Calls Try.prog 36 #[.agg #[.string a0_0, .slice A0_1 l0_1.length c0_1]] w fun e w' => ∃ v0_ : Value, e = .returned (v0_) ∧ Kd.R (Kd.int .u8) 5 w' w.heap.size (fun _ => True) v0_ r ∧ Below w.heap.size w w' := by
 have hu31 := Try.underlying31
 have hu66 := Try.underlying66
 have HR0_1 := Aside0.mk hr0_1
 have HC0_1 := Aside0.mk hc0_1
 clear hr0_1 hc0_1
 have HB := Aside0.mk (Below.refl w.heap.size w)
 have H := h
 unfold spec_l06Bytes.f at H
 clear h
 obtain ⟨y390, hy390⟩ : ∃ y_ : List Int, y_ = (([] : List Int)) := ⟨_, rfl⟩
 replace H : ((spec_l06PutText.f k y390 a0_0).bind fun t393 => ((spec_l03Put.f k (l0_1.length : Int)).bind fun t396 => (if t393.length + t396.length < 140737488355328 then (spec_l06Bytes.l0 k (t393 ++ t396) 0 a0_0 l0_1) else (none)))) = some r := zby hy390 H
 have Ny390 := Aside0.mk hy390
 clear hy390
 replace H := Option.bind_eq_some_iff.mp H
 obtain ⟨t393, A20, H⟩ := H
 try dsimp only at H
 have A2 := Aside0.mk A20
 clear A20
 replace H := Option.bind_eq_some_iff.mp H
 obtain ⟨t396, A30, H⟩ := H
 try dsimp only at H
 have A3 := Aside0.mk A30
 clear A30
 by_cases c4 : t393.length + t396.length < 140737488355328
 rotate_left
 ·rw [if_neg c4] at H
  exact absurd H (by simp)

 rw [if_pos c4] at H
 have LMc4 := Aside0.mk c4
 clear c4
 obtain ⟨y399, hy399⟩ : ∃ y_ : List Int, y_ = (t393 ++ t396) := ⟨_, rfl⟩
 replace H : (spec_l06Bytes.l0 k y399 0 a0_0 l0_1) = some r := zby hy399 H
 have Ny399 := Aside0.mk hy399
 clear hy399
 have H' := Aside0.mk H
 clear H
 go_enter Try.func36, Try.ntmps36
 go_wp2_with (first | ((with_reducible refine gate_dst (N := 1) rfl ?_); refine box_event (by rfl) (N := 1) (by rfl) (cs := #[.string a0_0, .slice A0_1 l0_1.length c0_1]) (t := 31) zgs ?_; intro gb389 hg w5 hbox hb; have BK389 := Aside0.mk (hbox); have GW389 := zge hg (below_size (zh HB)); have GE389 := zge hg (below_size (zh HB)); replace HB := Aside0.mk (below_step (zh HB) hb); clear hb hbox hg) | ((with_reducible refine gate_dst (N := 8) rfl ?_); refine Kd.R_lit (Kd.int .u8) _ 5 ?hg (N := 8) ?hd (xs := ([] : List Int)) (inner := []) (ok := fun _ => True) (okp := fun _ => True) ?hr ?hp (fun _ hk => hk) trivial (Below.refl _ _) (Nat.le_refl _) (by simp) ?_; (case hd => rfl); (case hg => rfl); (case hr => first | (go_simp; done) | (go_simp; rfl)); (case hp => exact (Reps.none _ _)); intro v391 w6 ho7 hb hg_ hnew_; clear hg_ hnew_; (first | rw [← Ny390.out] at ho7 | (simp only [Int.reduceToNat] at ho7; rw [← Ny390.out] at ho7)); have HO392 := Aside0.mk (Kd.R_lower ho7 (below_size (zg HB))); replace BK389 := Aside0.mk (blk_below (zb BK389) hb); replace HB := Aside0.mk (below_step (zg HB) hb); clear hb ho7; obtain ⟨⟨hcz8_0, hcz8_1⟩, hfz8_0, hfz8_1⟩ := zc2 BK389; obtain ⟨Ao9, co9, eo9⟩ := Kd.R_slice HO392.out; subst eo9) | ((with_reducible refine gate_callee (f := 62) rfl ?_); refine goesL_ (some 11) rfl rfl Try.func62 (by kernel_rfl) rfl #[.slice Ao9 y390.length co9, .string a0_0] rfl zar ?_; (with_reducible refine (spec_l06PutText.calls k (fun k_ => some k_ = (.slice Ao9 y390.length co9 : Value).ownBlock) (.slice Ao9 y390.length co9) y390 a0_0 t393 w _ ?side1 ?side2 A2.out).mono ?_); (case side1 => exact zg HB); (case side2 => exact Kd.R_tight rfl HO392.out); rintro e w10 ⟨v394, rfl, ho0, hb, hkp⟩; refine ⟨_, rfl, ?_⟩; replace BK389 := Aside0.mk (blk_kept (zb BK389) hkp (fun hs_ => (fun e_ => (Kd.R_ne HO392.out BK389.out (by decide)) e_) hs_)); have HO395 := Aside0.mk (Kd.R_mono (ok' := fun k_ => True) ho0 (fun k_ hk_ => trivial)); replace HB := Aside0.mk (hb); clear HO392; (try clear hb); (try clear hkp); (try clear ho0); obtain ⟨⟨hcz11_0, hcz11_1⟩, hfz11_0, hfz11_1⟩ := zc2 BK389) | ((with_reducible refine gate_callee (f := 63) rfl ?_); refine goesL_ (some 16) rfl rfl Try.func63 (by kernel_rfl) rfl #[.int .i64 (l0_1.length : Int)] rfl zar ?_; (with_reducible refine (spec_l03Put.calls k (l0_1.length : Int) t396 _ A3.out).mono ?_); rintro e w12 ⟨v397, rfl, ho0, hb⟩; refine ⟨_, rfl, ?_⟩; have HO398 := Aside0.mk (Kd.R_lower (Kd.R_new' ho0 (Kd.R_lt (zr HO395))) (below_size (zg HB))); replace HO395 := Aside0.mk (Kd.R_elder' (zr HO395) (Kd.R_base ho0) hb); replace BK389 := Aside0.mk (blk_below (zb BK389) hb); replace HB := Aside0.mk (below_step (zg HB) hb); (try clear hb ho0); (try clear hb); (try clear hk); (try clear hi); obtain ⟨Ao15, co15, eo15⟩ := Kd.R_slice HO398.out; subst eo15) | ((with_reducible refine gate_builtin (b := .append) (xs := #[.tmp 12, .tmp 16]) rfl ?_); at_builtin; refine Kd.R_append_rows (Kd.int .u8) (w0 := w) w.heap.size rfl (.tmp 12) (.tmp 16) 26 5 (.int .u8 0) 1 rfl Try.underlying26 info5 rfl (by decide) (by omega) v394 t393 t396 _ _ _ (fun k_ => some k_ ≠ (.slice Ao15 t396.length co15 : Value).ownBlock) (fun _ => False) rfl rfl ?aO ?aR (fun _ _ h => h) (fun _ h => h.elim) ?aF ?aB ?aS ?aL ?_; (case aR => repeat (first | exact (Kd.R_reads' HO398.out).2.2 | (with_reducible refine Kd.C_alloc ?_ _) | (with_reducible refine Kd.C_drewN ?_ _) | (with_reducible refine Kd.C_drew ?_))); (case aB => exact (zg HB)); (case aF => exact (fun k_ hk => Kd.fresh' (Kd.R_lt (zr HO398)) k_ hk)); (case aO => exact (Kd.R_mono (zr HO395) (fun _ hk => hk.2))); (case aS => exact (below_size (zg HB))); (case aL => have := LMc4.out; omega); intro v400 w14 ho hb hg hat; rw [← Ny399.out] at ho; replace BK389 := Aside0.mk (blk_grown (zb BK389) hg (Kd.R_ne HO395.out BK389.out (by decide))); replace HO398 := Aside0.mk (Kd.R_after (ok := (fun _ => True)) (zr HO398) hg hat); replace HB := Aside0.mk (hb); have HO401 := Aside0.mk (ho); clear HO395; clear ho hb hg hat))
 go_loopg [3, 4] k (fun kq v3 v4 w' => ∃ (x3_1 : List Int) (x4_1 : Int), v4 = .int .i64 x4_1 ∧ Aside0 (spec_l06Bytes.l0 kq x3_1 x4_1 a0_0 l0_1 = some r) ∧ Aside0 (kq ≤ k) ∧ Aside0 (Kd.R (Kd.int .u8) 5 w' w.heap.size (fun _ => True) v3 x3_1) ∧ Aside0 (w'.heap[gb389]? = some (.cells #[.string a0_0, (.slice A0_1 l0_1.length c0_1)] 31 (0, 0))) ∧ Aside0 (Below w.heap.size w w'))
 case atStart => exact ⟨(y399), (0), zrs, H', ⟨Nat.le_refl _⟩, ⟨Kd.R_mono (zr HO401) (fun _ hk => trivial)⟩, ⟨zb BK389⟩, ⟨zg HB⟩⟩
 case round =>
  clear H'
  try clear c4
  try clear hcz11_0 hcz11_1
  try clear hcz8_0 hcz8_1
  try clear hfz11_0 hfz11_1
  try clear hfz8_0 hfz8_1
  obtain ⟨x3_1, x4_1, rfl, HA, HK1, HO_3, BK389, HB⟩ := hrel
  cases gk with
  | zero => exact absurd HA.out (by simp [spec_l06Bytes.l0])
  | succ k1 =>
   have H := HA.out
   clear HA
   simp only [spec_l06Bytes.l0] at H
   by_cases c16 : x4_1 < (l0_1.length : Int)
   rotate_left
   ·rw [if_neg c16] at H
    have c16b0 : decide (x4_1 < (l0_1.length : Int)) = false := decide_eq_false c16
    clear c16
    obtain rfl := Option.some.inj H
    obtain ⟨⟨hcz58_0, hcz58_1⟩, hfz58_0, hfz58_1⟩ := zc2 BK389
    go_wp2
    go_ret
    exact ⟨_, zre, by (with_reducible repeat (first | apply Kd.R_alloc | apply Kd.R_drewN | apply Kd.R_drew)); exact HO_3.out, zg HB⟩
   rw [if_pos c16] at H
   have c16b0 : decide (x4_1 < (l0_1.length : Int)) = true := decide_eq_true c16
   clear c16
   by_cases c17 : 0 ≤ x4_1
   rotate_left
   ·rw [if_neg c17] at H
    exact absurd H (by simp)
   rw [if_pos c17] at H
   have c17b0 : decide (0 ≤ x4_1) = true := decide_eq_true c17
   clear c17
   replace H := Option.bind_eq_some_iff.mp H
   obtain ⟨t404, A180, H⟩ := H
   try dsimp only at H
   have A18 := Aside0.mk A180
   clear A180
   replace H := Option.bind_eq_some_iff.mp H
   obtain ⟨t407, A190, H⟩ := H
   try dsimp only at H
   have A19 := Aside0.mk A190
   clear A190
   by_cases c20 : t404.length + t407.length < 140737488355328
   rotate_left
   ·rw [if_neg c20] at H
    exact absurd H (by simp)
   rw [if_pos c20] at H
   have LMc20 := Aside0.mk c20
   clear c20
   obtain ⟨y410, hy410⟩ : ∃ y_ : List Int, y_ = (t404 ++ t407) := ⟨_, rfl⟩
   replace H : (spec_l06Bytes.l1 k1 y410 x4_1 0 a0_0 l0_1 ((rd_T66 l0_1 x4_1).f0) ((rd_T66 l0_1 x4_1).f1) ((rd_T66 l0_1 x4_1).f2)) = some r := zby hy410 H
   have Ny410 := Aside0.mk hy410
   clear hy410
   have H' := Aside0.mk H
   clear H
   obtain ⟨⟨hcz21_0, hcz21_1⟩, hfz21_0, hfz21_1⟩ := zc2 BK389
   have p402 : 0 ≤ (x4_1 : Int) := of_decide_eq_true zas
   have q402 : x4_1 < (l0_1.length : Int) := of_decide_eq_true zas
   obtain ⟨ad402, A402_1, c402_1, A402_2, c402_2, e402, hx402_0, hx402_1, hx402_2, hl402_1, hi402_1, hl402_2, hi402_2⟩ := at_T66 HR0_1.out x4_1 p402 q402
   cases e402
   replace hx402_0 := zx HB hx402_0
   replace hx402_1 := zx HB hx402_1
   replace hx402_2 := zx HB hx402_2
   have HR402_1 := Aside0.mk hi402_1
   have HC402_1 := Aside0.mk hl402_1
   clear hi402_1 hl402_1
   have HR402_2 := Aside0.mk hi402_2
   have HC402_2 := Aside0.mk hl402_2
   clear hi402_2 hl402_2
   replace p402 := eq_true p402
   replace q402 := eq_true q402
   go_wp2_with (first | ((with_reducible refine gate_dst (N := 5) rfl ?_); refine box_event (by rfl) (N := 5) (by rfl) (cs := #[.string (⟨#[]⟩ : ByteArray), .slice none 0 0, .slice none 0 0]) (t := 66) zgs ?_; intro gb403 hg w22 hbox hb; replace HO_3 := Aside0.mk (Kd.R_below (zr HO_3) hb); have BK403 := Aside0.mk (hbox); have GW403 := zge hg (below_size (zg HB)); have GE403 := zge hg (below_size (zg HB)); replace HB := Aside0.mk (below_step (zg HB) hb); have NB389_403 := znl hg (blk_lt (zb BK389)); have NB403_389 := zng hg (blk_lt (zb BK389)); replace BK389 := Aside0.mk (blk_below (zb BK389) hb); clear hb hbox hg; have hnb23 := NB403_389.out; have hnc23 := NB389_403.out; obtain ⟨⟨hcz24_0, hcz24_1, hcz24_2⟩, hfz24_0, hfz24_1, hfz24_2⟩ := zc3 BK403) | ((with_reducible refine gate_store (t := 66) (p := 5) rfl ?_); refine store_event (t := 66) (p := 5) (v := ?vo_w25) (w1 := (((w22.setCell ⟨gb403, 0, none⟩ (.string ((rd_T66 l0_1 x4_1).f0))).setCell ⟨gb403, 1, none⟩ (.slice A402_1 ((rd_T66 l0_1 x4_1).f1).length c402_1)).setCell ⟨gb403, 2, none⟩ (.slice A402_2 ((rd_T66 l0_1 x4_1).f2).length c402_2))) ?hg ?ho ?hn ?hr ?_; (case ho => rfl); (case hg => rfl); (case hn => rfl); (case hr => first | (go_simp; done) | (go_simp; rfl)); intro w25 hw; have n0_ : Aside0 (Kd.R (Kd.int .u8) 5 w25 w.heap.size (fun _ => True) u3 x3_1) := ⟨(by rw [hw]; exact (by (with_reducible repeat (first | apply Kd.R_alloc | apply Kd.R_drewN | apply Kd.R_drew)); exact Kd.R_mono (Kd.R_far (p := ⟨gb403, 2, none⟩) (Kd.R_far (p := ⟨gb403, 1, none⟩) (Kd.R_far (p := ⟨gb403, 0, none⟩) (Kd.R_types HO_3.out BK403.out (by decide)) (fun _ hk => hk.2) (.string ((rd_T66 l0_1 x4_1).f0))) (fun _ hk => hk.2) (.slice A402_1 ((rd_T66 l0_1 x4_1).f1).length c402_1)) (fun _ hk => hk.2) (.slice A402_2 ((rd_T66 l0_1 x4_1).f2).length c402_2)) (fun _ hk => trivial)))⟩; have n1_ : Aside0 (w25.heap[gb389]? = some (.cells #[.string a0_0, .slice (some ad402) l0_1.length c0_1] 31 (0, 0))) := ⟨(by rw [hw]; exact (zp BK389))⟩; have n2_ : Aside0 (w25.heap[gb403]? = some (.cells #[.string ((rd_T66 l0_1 x4_1).f0), .slice A402_1 ((rd_T66 l0_1 x4_1).f1).length c402_1, .slice A402_2 ((rd_T66 l0_1 x4_1).f2).length c402_2] 66 (0, 0))) := ⟨(by rw [hw]; exact (zp BK403))⟩; have n3_ : Aside0 (Below w.heap.size w w25) := ⟨(by rw [hw]; exact (zg HB))⟩; clear hw; clear HO_3; clear BK389; clear BK403; clear HB; have HO_3 := n0_; have BK389 := n1_; have BK403 := n2_; have HB := n3_; clear n0_ n1_ n2_ n3_; obtain ⟨⟨hcz26_0, hcz26_1, hcz26_2⟩, hfz26_0, hfz26_1, hfz26_2⟩ := zc3 BK403; obtain ⟨Ao27, co27, eo27⟩ := Kd.R_slice HO_3.out; subst eo27) | ((with_reducible refine gate_callee (f := 62) rfl ?_); refine goesL_ (some 33) rfl rfl Try.func62 (by kernel_rfl) rfl #[.slice Ao27 x3_1.length co27, .string ((rd_T66 l0_1 x4_1).f0)] rfl zar ?_; (with_reducible refine (spec_l06PutText.calls k1 (fun k_ => some k_ = (.slice Ao27 x3_1.length co27 : Value).ownBlock) (.slice Ao27 x3_1.length co27) x3_1 ((rd_T66 l0_1 x4_1).f0) t404 w _ ?side1 ?side2 A18.out).mono ?_); (case side1 => exact zg HB); (case side2 => exact Kd.R_tight rfl HO_3.out); rintro e w28 ⟨v405, rfl, ho0, hb, hkp⟩; refine ⟨_, rfl, ?_⟩; replace BK389 := Aside0.mk (blk_kept (zb BK389) hkp (fun hs_ => (fun e_ => (Kd.R_ne HO_3.out BK389.out (by decide)) e_) hs_)); replace BK403 := Aside0.mk (blk_kept (zb BK403) hkp (fun hs_ => (fun e_ => (Kd.R_ne HO_3.out BK403.out (by decide)) e_) hs_)); have HO406 := Aside0.mk (Kd.R_mono (ok' := fun k_ => True) ho0 (fun k_ hk_ => trivial)); replace HB := Aside0.mk (hb); clear HO_3; (try clear hb); (try clear hkp); (try clear ho0); obtain ⟨⟨hcz29_0, hcz29_1, hcz29_2⟩, hfz29_0, hfz29_1, hfz29_2⟩ := zc3 BK403) | ((with_reducible refine gate_callee (f := 63) rfl ?_); refine goesL_ (some 38) rfl rfl Try.func63 (by kernel_rfl) rfl #[.int .i64 (((rd_T66 l0_1 x4_1).f1).length : Int)] rfl zar ?_; (with_reducible refine (spec_l03Put.calls k1 (((rd_T66 l0_1 x4_1).f1).length : Int) t407 _ A19.out).mono ?_); rintro e w30 ⟨v408, rfl, ho0, hb⟩; refine ⟨_, rfl, ?_⟩; have HO409 := Aside0.mk (Kd.R_lower (Kd.R_new' ho0 (Kd.R_lt (zr HO406))) (below_size (zg HB))); replace HO406 := Aside0.mk (Kd.R_elder' (zr HO406) (Kd.R_base ho0) hb); replace BK389 := Aside0.mk (blk_below (zb BK389) hb); replace BK403 := Aside0.mk (blk_below (zb BK403) hb); replace HB := Aside0.mk (below_step (zg HB) hb); (try clear hb ho0); (try clear hb); (try clear hk); (try clear hi); obtain ⟨Ao33, co33, eo33⟩ := Kd.R_slice HO409.out; subst eo33) | ((with_reducible refine gate_builtin (b := .append) (xs := #[.tmp 34, .tmp 38]) rfl ?_); at_builtin; refine Kd.R_append_rows (Kd.int .u8) (w0 := w) w.heap.size rfl (.tmp 34) (.tmp 38) 26 5 (.int .u8 0) 1 rfl Try.underlying26 info5 rfl (by decide) (by omega) v405 t404 t407 _ _ _ (fun k_ => some k_ ≠ (.slice Ao33 t407.length co33 : Value).ownBlock) (fun _ => False) rfl rfl ?aO ?aR (fun _ _ h => h) (fun _ h => h.elim) ?aF ?aB ?aS ?aL ?_; (case aR => repeat (first | exact (Kd.R_reads' HO409.out).2.2 | (with_reducible refine Kd.C_alloc ?_ _) | (with_reducible refine Kd.C_drewN ?_ _) | (with_reducible refine Kd.C_drew ?_))); (case aB => exact (zg HB)); (case aF => exact (fun k_ hk => Kd.fresh' (Kd.R_lt (zr HO409)) k_ hk)); (case aO => exact (Kd.R_mono (zr HO406) (fun _ hk => hk.2))); (case aS => exact (below_size (zg HB))); (case aL => have := LMc20.out; omega); intro v411 w32 ho hb hg hat; rw [← Ny410.out] at ho; replace BK389 := Aside0.mk (blk_grown (zb BK389) hg (Kd.R_ne HO406.out BK389.out (by decide))); replace BK403 := Aside0.mk (blk_grown (zb BK403) hg (Kd.R_ne HO406.out BK403.out (by decide))); replace HO409 := Aside0.mk (Kd.R_after (ok := (fun _ => True)) (zr HO409) hg hat); replace HB := Aside0.mk (hb); have HO412 := Aside0.mk (ho); clear HO406; clear ho hb hg hat))
   go_loopg [3, 6] k1 (fun kq v3 v6 w' => ∃ (x3_2 : List Int) (x6_2 : Int), v6 = .int .i64 x6_2 ∧ Aside0 (spec_l06Bytes.l1 kq x3_2 x4_1 x6_2 a0_0 l0_1 ((rd_T66 l0_1 x4_1).f0) ((rd_T66 l0_1 x4_1).f1) ((rd_T66 l0_1 x4_1).f2) = some r) ∧ Aside0 (kq ≤ k1) ∧ Aside0 (Kd.R (Kd.int .u8) 5 w' w.heap.size (fun _ => True) v3 x3_2) ∧ Aside0 (w'.heap[gb389]? = some (.cells #[.string a0_0, (.slice (some ad402) l0_1.length c0_1)] 31 (0, 0))) ∧ Aside0 (w'.heap[gb403]? = some (.cells #[.string ((rd_T66 l0_1 x4_1).f0), (.slice A402_1 ((rd_T66 l0_1 x4_1).f1).length c402_1), (.slice A402_2 ((rd_T66 l0_1 x4_1).f2).length c402_2)] 66 (0, 0))) ∧ Aside0 (Below w.heap.size w w'))
   case atStart => exact ⟨(y410), (0), zrs, H', ⟨Nat.le_refl _⟩, ⟨Kd.R_mono (zr HO412) (fun _ hk => trivial)⟩, ⟨zb BK389⟩, ⟨zb BK403⟩, ⟨zg HB⟩⟩
   case round =>
    clear H'
    try clear c4
    try clear c16
    try clear c16b0
    try clear c17
    try clear c17b0
    try clear c20
    try clear hcz11_0 hcz11_1
    try clear hcz21_0 hcz21_1
    try clear hcz24_0 hcz24_1 hcz24_2
    try clear hcz26_0 hcz26_1 hcz26_2
    try clear hcz29_0 hcz29_1 hcz29_2
    try clear hcz8_0 hcz8_1
    try clear hfz11_0 hfz11_1
    try clear hfz21_0 hfz21_1
    try clear hfz24_0 hfz24_1 hfz24_2
    try clear hfz26_0 hfz26_1 hfz26_2
    try clear hfz29_0 hfz29_1 hfz29_2
    try clear hfz8_0 hfz8_1
    try clear hx402_0
    try clear hx402_1
    try clear hx402_2
    try clear p402
    try clear q402
    obtain ⟨x3_2, x6_2, rfl, HA, HK2, HO_3, BK389, BK403, HB⟩ := hrel
    cases gk with
    | zero => exact absurd HA.out (by simp [spec_l06Bytes.l1])
    | succ k2 =>
     have H := HA.out
     clear HA
     simp only [spec_l06Bytes.l1] at H
     by_cases c34 : x6_2 < (((rd_T66 l0_1 x4_1).f1).length : Int)
     ·rw [if_pos c34] at H
      have c34b0 : decide (x6_2 < (((rd_T66 l0_1 x4_1).f1).length : Int)) = true := decide_eq_true c34
      clear c34
      by_cases c35 : 0 ≤ x6_2
      rotate_left
      ·rw [if_neg c35] at H
       exact absurd H (by simp)
      rw [if_pos c35] at H
      have c35b0 : decide (0 ≤ x6_2) = true := decide_eq_true c35
      clear c35
      replace H := Option.bind_eq_some_iff.mp H
      obtain ⟨t414, A360, H⟩ := H
      try dsimp only at H
      have A36 := Aside0.mk A360
      clear A360
      have H' := Aside0.mk H
      clear H
      have hnb37 := NB403_389.out
      have hnc37 := NB389_403.out
      obtain ⟨⟨hcz38_0, hcz38_1, hcz38_2⟩, hfz38_0, hfz38_1, hfz38_2⟩ := zc3 BK403
      have p413 : 0 ≤ (x6_2 : Int) := of_decide_eq_true zas
      have q413 : x6_2 < (((rd_T66 l0_1 x4_1).f1).length : Int) := of_decide_eq_true zas
      obtain ⟨ad413, e413, hx413_0⟩ := Kd.at_string HR402_1.out x6_2 p413 q413
      cases e413
      replace hx413_0 := zx HB hx413_0
      replace p413 := eq_true p413
      replace q413 := eq_true q413
      obtain ⟨Ao39, co39, eo39⟩ := Kd.R_slice HO_3.out
      subst eo39
      go_wp2_with (first | ((with_reducible refine gate_callee (f := 62) rfl ?_); refine goesL_ (some 53) rfl rfl Try.func62 (by kernel_rfl) rfl #[.slice Ao39 x3_2.length co39, .string (rdOf ByteArray.empty ((rd_T66 l0_1 x4_1).f1) x6_2)] rfl zar ?_; (with_reducible refine (spec_l06PutText.calls k2 (fun k_ => some k_ = (.slice Ao39 x3_2.length co39 : Value).ownBlock) (.slice Ao39 x3_2.length co39) x3_2 (rdOf ByteArray.empty ((rd_T66 l0_1 x4_1).f1) x6_2) t414 w _ ?side1 ?side2 A36.out).mono ?_); (case side1 => exact zg HB); (case side2 => exact Kd.R_tight rfl HO_3.out); rintro e w40 ⟨v415, rfl, ho0, hb, hkp⟩; refine ⟨_, rfl, ?_⟩; replace BK389 := Aside0.mk (blk_kept (zb BK389) hkp (fun hs_ => (fun e_ => (Kd.R_ne HO_3.out BK389.out (by decide)) e_) hs_)); replace BK403 := Aside0.mk (blk_kept (zb BK403) hkp (fun hs_ => (fun e_ => (Kd.R_ne HO_3.out BK403.out (by decide)) e_) hs_)); have HO416 := Aside0.mk (Kd.R_mono (ok' := fun k_ => True) ho0 (fun k_ hk_ => trivial)); replace HB := Aside0.mk (hb); clear HO_3; (try clear hb); (try clear hkp); (try clear ho0)))
      go_roundg k2
      case measure => have := HK1.out; have := HK2.out; omega
      case rel => exact ⟨(t414), (wrap64 (x6_2 + 1)), zrs, H', ⟨by have := HK1.out; have := HK2.out; omega⟩, ⟨zr HO416⟩, ⟨zb BK389⟩, ⟨zb BK403⟩, ⟨zg HB⟩⟩
     rw [if_neg c34] at H
     have c34b0 : decide (x6_2 < (((rd_T66 l0_1 x4_1).f1).length : Int)) = false := decide_eq_false c34
     clear c34
     replace H := Option.bind_eq_some_iff.mp H
     obtain ⟨t417, A410, H⟩ := H
     try dsimp only at H
     have A41 := Aside0.mk A410
     clear A410
     by_cases c42 : x3_2.length + t417.length < 140737488355328
     rotate_left
     ·rw [if_neg c42] at H
      exact absurd H (by simp)
     rw [if_pos c42] at H
     have LMc42 := Aside0.mk c42
     clear c42
     obtain ⟨y420, hy420⟩ : ∃ y_ : List Int, y_ = (x3_2 ++ t417) := ⟨_, rfl⟩
     replace H : (spec_l06Bytes.l2 k2 y420 x4_1 0 a0_0 l0_1 ((rd_T66 l0_1 x4_1).f0) ((rd_T66 l0_1 x4_1).f1) ((rd_T66 l0_1 x4_1).f2)) = some r := zby hy420 H
     have Ny420 := Aside0.mk hy420
     clear hy420
     have H' := Aside0.mk H
     clear H
     have hnb43 := NB403_389.out
     have hnc43 := NB389_403.out
     obtain ⟨⟨hcz44_0, hcz44_1, hcz44_2⟩, hfz44_0, hfz44_1, hfz44_2⟩ := zc3 BK403
     go_wp2_with (first | ((with_reducible refine gate_callee (f := 63) rfl ?_); refine goesL_ (some 58) rfl rfl Try.func63 (by kernel_rfl) rfl #[.int .i64 (((rd_T66 l0_1 x4_1).f2).length : Int)] rfl zar ?_; (with_reducible refine (spec_l03Put.calls k2 (((rd_T66 l0_1 x4_1).f2).length : Int) t417 _ A41.out).mono ?_); rintro e w45 ⟨v418, rfl, ho0, hb⟩; refine ⟨_, rfl, ?_⟩; have HO419 := Aside0.mk (Kd.R_lower (Kd.R_new' ho0 (Kd.R_lt (zr HO_3))) (below_size (zg HB))); replace HO_3 := Aside0.mk (Kd.R_elder' (zr HO_3) (Kd.R_base ho0) hb); replace BK389 := Aside0.mk (blk_below (zb BK389) hb); replace BK403 := Aside0.mk (blk_below (zb BK403) hb); replace HB := Aside0.mk (below_step (zg HB) hb); (try clear hb ho0); (try clear hb); (try clear hk); (try clear hi); obtain ⟨Ao48, co48, eo48⟩ := Kd.R_slice HO419.out; subst eo48) | ((with_reducible refine gate_builtin (b := .append) (xs := #[.tmp 54, .tmp 58]) rfl ?_); at_builtin; refine Kd.R_append_rows (Kd.int .u8) (w0 := w) w.heap.size rfl (.tmp 54) (.tmp 58) 26 5 (.int .u8 0) 1 rfl Try.underlying26 info5 rfl (by decide) (by omega) u3 x3_2 t417 _ _ _ (fun k_ => some k_ ≠ (.slice Ao48 t417.length co48 : Value).ownBlock) (fun _ => False) rfl rfl ?aO ?aR (fun _ _ h => h) (fun _ h => h.elim) ?aF ?aB ?aS ?aL ?_; (case aR => repeat (first | exact (Kd.R_reads' HO419.out).2.2 | (with_reducible refine Kd.C_alloc ?_ _) | (with_reducible refine Kd.C_drewN ?_ _) | (with_reducible refine Kd.C_drew ?_))); (case aB => exact (zg HB)); (case aF => exact (fun k_ hk => Kd.fresh' (Kd.R_lt (zr HO419)) k_ hk)); (case aO => exact (Kd.R_mono (zr HO_3) (fun _ hk => hk.2))); (case aS => exact (below_size (zg HB))); (case aL => have := LMc42.out; omega); intro v421 w47 ho hb hg hat; rw [← Ny420.out] at ho; replace BK389 := Aside0.mk (blk_grown (zb BK389) hg (Kd.R_ne HO_3.out BK389.out (by decide))); replace BK403 := Aside0.mk (blk_grown (zb BK403) hg (Kd.R_ne HO_3.out BK403.out (by decide))); replace HO419 := Aside0.mk (Kd.R_after (ok := (fun _ => True)) (zr HO419) hg hat); replace HB := Aside0.mk (hb); have HO422 := Aside0.mk (ho); clear HO_3; clear ho hb hg hat))
     go_loopg [3, 7] k2 (fun kq v3 v7 w' => ∃ (x3_3 : List Int) (x7_3 : Int), v7 = .int .i64 x7_3 ∧ Aside0 (spec_l06Bytes.l2 kq x3_3 x4_1 x7_3 a0_0 l0_1 ((rd_T66 l0_1 x4_1).f0) ((rd_T66 l0_1 x4_1).f1) ((rd_T66 l0_1 x4_1).f2) = some r) ∧ Aside0 (kq ≤ k2) ∧ Aside0 (Kd.R (Kd.int .u8) 5 w' w.heap.size (fun _ => True) v3 x3_3) ∧ Aside0 (w'.heap[gb389]? = some (.cells #[.string a0_0, (.slice (some ad402) l0_1.length c0_1)] 31 (0, 0))) ∧ Aside0 (w'.heap[gb403]? = some (.cells #[.string ((rd_T66 l0_1 x4_1).f0), (.slice A402_1 ((rd_T66 l0_1 x4_1).f1).length c402_1), (.slice A402_2 ((rd_T66 l0_1 x4_1).f2).length c402_2)] 66 (0, 0))) ∧ Aside0 (Below w.heap.size w w'))
     case atStart => exact ⟨(y420), (0), zrs, H', ⟨Nat.le_refl _⟩, ⟨Kd.R_mono (zr HO422) (fun _ hk => trivial)⟩, ⟨zb BK389⟩, ⟨zb BK403⟩, ⟨zg HB⟩⟩
     case round =>
      clear H'
      try clear c4
      try clear c16
      try clear c16b0
      try clear c17
      try clear c17b0
      try clear c20
      try clear c34
      try clear c34b0
      try clear c42
      try clear hcz11_0 hcz11_1
      try clear hcz21_0 hcz21_1
      try clear hcz24_0 hcz24_1 hcz24_2
      try clear hcz26_0 hcz26_1 hcz26_2
      try clear hcz29_0 hcz29_1 hcz29_2
      try clear hcz44_0 hcz44_1 hcz44_2
      try clear hcz8_0 hcz8_1
      try clear hfz11_0 hfz11_1
      try clear hfz21_0 hfz21_1
      try clear hfz24_0 hfz24_1 hfz24_2
      try clear hfz26_0 hfz26_1 hfz26_2
      try clear hfz29_0 hfz29_1 hfz29_2
      try clear hfz44_0 hfz44_1 hfz44_2
      try clear hfz8_0 hfz8_1
      try clear hx402_0
      try clear hx402_1
      try clear hx402_2
      try clear p402
      try clear q402
      obtain ⟨x3_3, x7_3, rfl, HA, HK3, HO_3, BK389, BK403, HB⟩ := hrel
      cases gk with
      | zero => exact absurd HA.out (by simp [spec_l06Bytes.l2])
      | succ k3 =>
       have H := HA.out
       clear HA
       simp only [spec_l06Bytes.l2] at H
       by_cases c49 : x7_3 < (((rd_T66 l0_1 x4_1).f2).length : Int)
       rotate_left
       ·rw [if_neg c49] at H
        have c49b0 : decide (x7_3 < (((rd_T66 l0_1 x4_1).f2).length : Int)) = false := decide_eq_false c49
        clear c49
        have H' := Aside0.mk H
        clear H
        have hnb56 := NB403_389.out
        have hnc56 := NB389_403.out
        obtain ⟨⟨hcz57_0, hcz57_1, hcz57_2⟩, hfz57_0, hfz57_1, hfz57_2⟩ := zc3 BK403
        go_wp2
        go_roundg k3
        case measure => have := HK1.out; have := HK2.out; have := HK3.out; omega
        case rel => exact ⟨(x3_3), (wrap64 (x4_1 + 1)), zrs, H', ⟨by have := HK1.out; have := HK2.out; have := HK3.out; omega⟩, ⟨zr HO_3⟩, ⟨zb BK389⟩, ⟨zg HB⟩⟩
       rw [if_pos c49] at H
       have c49b0 : decide (x7_3 < (((rd_T66 l0_1 x4_1).f2).length : Int)) = true := decide_eq_true c49
       clear c49
       by_cases c50 : 0 ≤ x7_3
       rotate_left
       ·rw [if_neg c50] at H
        exact absurd H (by simp)
       rw [if_pos c50] at H
       have c50b0 : decide (0 ≤ x7_3) = true := decide_eq_true c50
       clear c50
       replace H := Option.bind_eq_some_iff.mp H
       obtain ⟨t424, A510, H⟩ := H
       try dsimp only at H
       have A51 := Aside0.mk A510
       clear A510
       have H' := Aside0.mk H
       clear H
       have hnb52 := NB403_389.out
       have hnc52 := NB389_403.out
       obtain ⟨⟨hcz53_0, hcz53_1, hcz53_2⟩, hfz53_0, hfz53_1, hfz53_2⟩ := zc3 BK403
       have p423 : 0 ≤ (x7_3 : Int) := of_decide_eq_true zas
       have q423 : x7_3 < (((rd_T66 l0_1 x4_1).f2).length : Int) := of_decide_eq_true zas
       obtain ⟨ad423, e423, hx423_0⟩ := Kd.at_int HR402_2.out x7_3 p423 q423
       cases e423
       replace hx423_0 := zx HB hx423_0
       replace p423 := eq_true p423
       replace q423 := eq_true q423
       obtain ⟨Ao54, co54, eo54⟩ := Kd.R_slice HO_3.out
       subst eo54
       go_wp2_with (first | ((with_reducible refine gate_callee (f := 64) rfl ?_); refine goesL_ (some 73) rfl rfl Try.func64 (by kernel_rfl) rfl #[.slice Ao54 x3_3.length co54, .int .i64 (rd ((rd_T66 l0_1 x4_1).f2) x7_3)] rfl zar ?_; (with_reducible refine (spec_l06PutNumber.calls k3 (fun k_ => some k_ = (.slice Ao54 x3_3.length co54 : Value).ownBlock) (.slice Ao54 x3_3.length co54) x3_3 (rd ((rd_T66 l0_1 x4_1).f2) x7_3) t424 w _ ?side1 ?side2 A51.out).mono ?_); (case side1 => exact zg HB); (case side2 => exact Kd.R_tight rfl HO_3.out); rintro e w55 ⟨v425, rfl, ho0, hb, hkp⟩; refine ⟨_, rfl, ?_⟩; replace BK389 := Aside0.mk (blk_kept (zb BK389) hkp (fun hs_ => (fun e_ => (Kd.R_ne HO_3.out BK389.out (by decide)) e_) hs_)); replace BK403 := Aside0.mk (blk_kept (zb BK403) hkp (fun hs_ => (fun e_ => (Kd.R_ne HO_3.out BK403.out (by decide)) e_) hs_)); have HO426 := Aside0.mk (Kd.R_mono (ok' := fun k_ => True) ho0 (fun k_ hk_ => trivial)); replace HB := Aside0.mk (hb); clear HO_3; (try clear hb); (try clear hkp); (try clear ho0)))
       go_roundg k3
       case measure => have := HK1.out; have := HK2.out; have := HK3.out; omega
       case rel => exact ⟨(t424), (wrap64 (x7_3 + 1)), zrs, H', ⟨by have := HK1.out; have := HK2.out; have := HK3.out; omega⟩, ⟨zr HO426⟩, ⟨zb BK389⟩, ⟨zb BK403⟩, ⟨zg HB⟩⟩
/-! ### spec_l04Four: function 78 -/
def spec_l04Four.f (a0 : Int) : Option (List Int) := some (([(wrap64 (Int.tdiv a0 16777216)) % 256, (Int.tmod (wrap64 (Int.tdiv a0 65536)) 256) % 256, (Int.tmod (wrap64 (Int.tdiv a0 256)) 256) % 256, (Int.tmod a0 256) % 256] : List Int))
set_option maxHeartbeats 8000000 in
set_option maxRecDepth 100000 in
theorem spec_l04Four.calls (a0 : Int) (r : List Int) (w : World) (h : spec_l04Four.f a0 = some r) :
 Calls Try.prog 78 #[.int .i64 a0] w fun e w' => ∃ v0_ : Value, e = .returned (v0_) ∧ Kd.R (Kd.int .u8) 5 w' w.heap.size (fun _ => True) v0_ r ∧ Below w.heap.size w w' := by
 have HB := Aside0.mk (Below.refl w.heap.size w)
 have H := h
 unfold spec_l04Four.f at H
 clear h
 obtain ⟨y427, hy427⟩ : ∃ y_ : List Int, y_ = (([(wrap64 (Int.tdiv a0 16777216)) % 256, (Int.tmod (wrap64 (Int.tdiv a0 65536)) 256) % 256, (Int.tmod (wrap64 (Int.tdiv a0 256)) 256) % 256, (Int.tmod a0 256) % 256] : List Int)) := ⟨_, rfl⟩
 replace H : (some y427) = some r := zby hy427 H
 have Ny427 := Aside0.mk hy427
 clear hy427
 obtain rfl := Option.some.inj H
 go_enter Try.func78, Try.ntmps78
 go_wp2_with (first | ((with_reducible refine gate_dst (N := 17) rfl ?_); refine Kd.R_lit (Kd.int .u8) _ 5 ?hg (N := 17) ?hd (xs := ([(wrap64 (Int.tdiv a0 16777216)) % 256, (Int.tmod (wrap64 (Int.tdiv a0 65536)) 256) % 256, (Int.tmod (wrap64 (Int.tdiv a0 256)) 256) % 256, (Int.tmod a0 256) % 256] : List Int)) (inner := [.int .u8 ((wrap64 (Int.tdiv a0 16777216)) % 256), .int .u8 ((Int.tmod (wrap64 (Int.tdiv a0 65536)) 256) % 256), .int .u8 ((Int.tmod (wrap64 (Int.tdiv a0 256)) 256) % 256), .int .u8 ((Int.tmod a0 256) % 256)]) (ok := fun _ => True) (okp := fun _ => True) ?hr ?hp (fun _ hk => hk) trivial (Below.refl _ _) (Nat.le_refl _) (by simp) ?_; (case hd => rfl); (case hg => rfl); (case hr => first | (go_simp; done) | (go_simp; rfl)); (case hp => exact (Reps.one (show Kd.M (Kd.int .u8) _ _ _ ((wrap64 (Int.tdiv a0 16777216)) % 256) [.int .u8 ((wrap64 (Int.tdiv a0 16777216)) % 256)] from rfl) (Reps.one (show Kd.M (Kd.int .u8) _ _ _ ((Int.tmod (wrap64 (Int.tdiv a0 65536)) 256) % 256) [.int .u8 ((Int.tmod (wrap64 (Int.tdiv a0 65536)) 256) % 256)] from rfl) (Reps.one (show Kd.M (Kd.int .u8) _ _ _ ((Int.tmod (wrap64 (Int.tdiv a0 256)) 256) % 256) [.int .u8 ((Int.tmod (wrap64 (Int.tdiv a0 256)) 256) % 256)] from rfl) (Reps.one (show Kd.M (Kd.int .u8) _ _ _ ((Int.tmod a0 256) % 256) [.int .u8 ((Int.tmod a0 256) % 256)] from rfl) (Reps.none _ _)))))); intro v428 w2 ho3 hb hg_ hnew_; clear hg_ hnew_; (first | rw [← Ny427.out] at ho3 | (simp only [Int.reduceToNat] at ho3; rw [← Ny427.out] at ho3)); have HO429 := Aside0.mk (Kd.R_lower ho3 (below_size (zh HB))); replace HB := Aside0.mk (below_step (zh HB) hb); clear hb ho3))
 go_ret
 exact ⟨_, zre, by (with_reducible repeat (first | apply Kd.R_alloc | apply Kd.R_drewN | apply Kd.R_drew)); exact HO429.out, zh HB⟩

/-! ### spec_Sum32: function 79 -/
def spec_Sum32.l0 : Nat → List Int → Int → Int → Option (Int)
 | 0, _, _, _ => none
 | k + 1, x0, x3, x4 => if x4 < (x0.length : Int) then (if 0 ≤ x4 then (spec_Sum32.l0 k x0 (Int.tmod (wrap64 ((Go.bits .xor .i64 x3 (wrap64 (rd x0 x4))) * 16777619)) 4294967296) (wrap64 (x4 + 1))) else (none)) else (some x3)
def spec_Sum32.f (k : Nat) (l0 : List Int) : Option (Int) := if (l0.length : Int) > 1048576 then (some 0) else (spec_Sum32.l0 k l0 2166136261 0)
theorem spec_Sum32.mono_l : ∀ k, (∀ y0 y1 y2, LeO (spec_Sum32.l0 k y0 y1 y2) (spec_Sum32.l0 (k + 1) y0 y1 y2))
 | 0 => fun _ _ _ r h => by simp [spec_Sum32.l0] at h
 | k + 1 => by
  have ih0 := spec_Sum32.mono_l k
  ·intro y0 y1 y2
   unfold spec_Sum32.l0
   repeat' first
   | (with_reducible exact ih0 _ _ _)
   | (with_reducible exact LeO.refl _)
   | (with_reducible exact LeO.none _)
   | (with_reducible refine LeO.ite ?_ ?_)
   | (with_reducible refine LeO.bind ?_ (fun _ => ?_))
theorem spec_Sum32.mono : ∀ a0 k, LeO (spec_Sum32.f k a0) (spec_Sum32.f (k + 1) a0) := by
 intro a0 k
 have ih0 := spec_Sum32.mono_l k
 unfold spec_Sum32.f
 repeat' first
  | (with_reducible exact ih0 _ _ _)
  | (with_reducible exact LeO.refl _)
  | (with_reducible exact LeO.none _)
  | (with_reducible refine LeO.ite ?_ ?_)
  | (with_reducible refine LeO.bind ?_ (fun _ => ?_))
set_option maxHeartbeats 8000000 in
set_option maxRecDepth 100000 in
theorem spec_Sum32.calls (k : Nat) (A0 : Option Addr) (c0 : Nat) (l0 : List Int) (r : Int) (w : World) (hr0 : Kd.C (Kd.int .u8) w A0 l0.length l0) (hc0 : l0.length ≤ c0) (h : spec_Sum32.f k l0 = some r) :
 Calls Try.prog 79 #[.slice A0 l0.length c0] w fun e w' => e = .returned (.int .i64 r) ∧ Drawn0 w w' := by
 have HR0 := Aside0.mk hr0
 have HC0 := Aside0.mk hc0
 clear hr0 hc0
 have H := h
 unfold spec_Sum32.f at H
 clear h
 by_cases c2 : (l0.length : Int) > 1048576
 ·rw [if_pos c2] at H
  have c2b0 : decide (1048576 < (l0.length : Int)) = true := decide_eq_true c2
  have c2b1 : decide (1048576 < l0.length) = true := decide_eq_true (by omega)
  clear c2
  obtain rfl := Option.some.inj H
  go_enter Try.func79, Try.ntmps79
  go_wp2
  go_ret
  exact ⟨zrs, by repeat (first | exact Drawn0.refl _ | apply Drawn0.step)⟩
 rw [if_neg c2] at H
 have c2b0 : decide (1048576 < (l0.length : Int)) = false := decide_eq_false c2
 have c2b1 : decide (1048576 < l0.length) = false := decide_eq_false (by omega)
 clear c2
 have H' := Aside0.mk H
 clear H
 go_enter Try.func79, Try.ntmps79
 go_wp2
 go_loopg [3, 4] k (fun kq v3 v4 w' => ∃ (x3_1 : Int) (x4_1 : Int), v3 = .int .i64 x3_1 ∧ v4 = .int .i64 x4_1 ∧ Aside0 (spec_Sum32.l0 kq l0 x3_1 x4_1 = some r) ∧ Aside0 (kq ≤ k) ∧ Drawn0 w w')
 case atStart => exact ⟨(2166136261), (0), zrs, zrs, H', ⟨Nat.le_refl _⟩, by repeat (first | exact Drawn0.refl _ | apply Drawn0.step)⟩
 case round =>
  clear H'
  try clear c2
  try clear c2b0
  try clear c2b1
  obtain ⟨x3_1, x4_1, rfl, rfl, HA, HK1, ⟨m1, rfl⟩⟩ := hrel
  cases gk with
  | zero => exact absurd HA.out (by simp [spec_Sum32.l0])
  | succ k1 =>
   have H := HA.out
   clear HA
   simp only [spec_Sum32.l0] at H
   by_cases c3 : x4_1 < (l0.length : Int)
   rotate_left
   ·rw [if_neg c3] at H
    have c3b0 : decide (x4_1 < (l0.length : Int)) = false := decide_eq_false c3
    clear c3
    obtain rfl := Option.some.inj H
    go_wp2
    go_ret
    exact ⟨zrs, by repeat (first | exact Drawn0.refl _ | apply Drawn0.step)⟩

   rw [if_pos c3] at H
   have c3b0 : decide (x4_1 < (l0.length : Int)) = true := decide_eq_true c3
   clear c3
   by_cases c4 : 0 ≤ x4_1
   rotate_left
   ·rw [if_neg c4] at H
    exact absurd H (by simp)
   rw [if_pos c4] at H
   have c4b0 : decide (0 ≤ x4_1) = true := decide_eq_true c4
   clear c4
   have H' := Aside0.mk H
   clear H
   have p430 : 0 ≤ (x4_1 : Int) := of_decide_eq_true zas
   have q430 : x4_1 < (l0.length : Int) := of_decide_eq_true zas
   obtain ⟨ad430, e430, hx430_0⟩ := Kd.at_int HR0.out x4_1 p430 q430
   cases e430
   replace p430 := eq_true p430
   replace q430 := eq_true q430
   go_wp2
   go_roundg k1
   case measure => have := HK1.out; omega
   case rel => exact ⟨(Int.tmod (wrap64 ((Go.bits .xor .i64 x3_1 (wrap64 (rd l0 x4_1))) * 16777619)) 4294967296), (wrap64 (x4_1 + 1)), zrs, zrs, H', ⟨by have := HK1.out; omega⟩, by repeat (first | exact Drawn0.refl _ | apply Drawn0.step)⟩
end Go.Proofs.Ytnpdmleglcbobaa.XFnExactReadLog
