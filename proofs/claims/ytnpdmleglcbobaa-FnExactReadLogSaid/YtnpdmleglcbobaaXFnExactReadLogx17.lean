-- A printed text of this session (wip/x/xprint.py).
import Derived.Test.YtnpdmleglcbobaaXFnExactReadLogx0
import Derived.Test.YtnpdmleglcbobaaXFnExactReadLogx16
namespace Go.Proofs.Ytnpdmleglcbobaa.XFnExactReadLog
open Go.RowKit Go.Proofs.YtnpdmleglcbobaaW.PrintWords Go.Proofs.YtnpdmleglcbobaaW.PrintLast Go.Proofs.YtnpdmleglcbobaaW.PrintMore
attribute [local go_sem] max2_int min2_int max_two min_two max_three min_three max_four min_four   -- for this text's walks alone
set_option linter.unusedVariables false
set_option linter.unusedSimpArgs false

/-! ### spec_ReadLog: function 30 -/
def spec_ReadLog.l0 : Nat → List Int → List (S47) → Int → Option ((List (S47)) × Int × Int)
 | 0, _, _, _ => none
 | k + 1, x0, x5, x6 => (spec_l14Next.f k x0 x6 (wrap64 ((x5.length : Int) + 1))).bind fun bt504 => (if bt504.2.2.2.2.2.2 = true then (if x5.length < 1954687338268 then (spec_ReadLog.l0 k x0 (x5 ++ [(⟨bt504.1, bt504.2.1, bt504.2.2.1, (⟨bt504.2.2.2.1, bt504.2.2.2.2.1⟩ : S31)⟩ : S47)]) bt504.2.2.2.2.2.1) else (none)) else (some (x5, x6, 0)))
def spec_ReadLog.f (k : Nat) (l0 : List Int) : Option ((List (S47)) × Int × Int) := if (l0.length : Int) > 1048576 then (some ((([] : List (S47))), 0, 2)) else (spec_ReadLog.l0 k l0 (([] : List (S47))) 0)
theorem spec_ReadLog.mono_l : ∀ k, (∀ y0 y1 y2, LeO (spec_ReadLog.l0 k y0 y1 y2) (spec_ReadLog.l0 (k + 1) y0 y1 y2))
 | 0 => fun _ _ _ r h => by simp [spec_ReadLog.l0] at h
 | k + 1 => by
  have ih0 := spec_ReadLog.mono_l k
  ·intro y0 y1 y2
   unfold spec_ReadLog.l0
   repeat' first
   | (with_reducible exact ih0 _ _ _)
   | (with_reducible exact spec_l14Next.mono _ _ _ _)
   | (with_reducible exact LeO.refl _)
   | (with_reducible exact LeO.none _)
   | (with_reducible refine LeO.ite ?_ ?_)
   | (with_reducible refine LeO.bind ?_ (fun _ => ?_))
theorem spec_ReadLog.mono : ∀ a0 k, LeO (spec_ReadLog.f k a0) (spec_ReadLog.f (k + 1) a0) := by
 intro a0 k
 have ih0 := spec_ReadLog.mono_l k
 unfold spec_ReadLog.f
 repeat' first
  | (with_reducible exact ih0 _ _ _)
  | (with_reducible exact spec_l14Next.mono _ _ _ _)
  | (with_reducible exact LeO.refl _)
  | (with_reducible exact LeO.none _)
  | (with_reducible refine LeO.ite ?_ ?_)
  | (with_reducible refine LeO.bind ?_ (fun _ => ?_))
set_option maxHeartbeats 8000000 in
set_option maxRecDepth 100000 in
theorem spec_ReadLog.calls (k : Nat) (A0 : Option Addr) (c0 : Nat) (l0 : List Int) (r1 : List (S47)) (r2 : Int) (r3 : Int) (w : World) (hr0 : Kd.C (Kd.int .u8) w A0 l0.length l0) (hc0 : l0.length ≤ c0) (h : spec_ReadLog.f k l0 = some (r1, r2, r3)) :
 Calls Try.prog 30 #[.slice A0 l0.length c0] w fun e w' => ∃ v0_ : Value, e = .returned (.tuple #[v0_, .int .i64 r2, .int .i64 r3]) ∧ Kd.S k47 47 w' w.heap.size (fun _ => True) v0_ r1 ∧ Below w.heap.size w w' := by
 have hu47 := Try.underlying47
 have HR0 := Aside0.mk hr0
 have HC0 := Aside0.mk hc0
 clear hr0 hc0
 have HB := Aside0.mk (Below.refl w.heap.size w)
 have H := h
 unfold spec_ReadLog.f at H
 clear h
 by_cases c2 : (l0.length : Int) > 1048576
 ·rw [if_pos c2] at H
  have c2b0 : decide (1048576 < (l0.length : Int)) = true := decide_eq_true c2
  have c2b1 : decide (1048576 < l0.length) = true := decide_eq_true (by omega)
  clear c2
  obtain ⟨y498, hy498⟩ : ∃ y_ : List (S47), y_ = (([] : List (S47))) := ⟨_, rfl⟩
  replace H : (some (y498, 0, 2)) = some (r1, r2, r3) := zby hy498 H
  have Ny498 := Aside0.mk hy498
  clear hy498
  simp only [Option.some.injEq, Prod.mk.injEq] at H
  obtain ⟨rfl, rfl, rfl⟩ := H
  go_enter Try.func30, Try.ntmps30
  go_wp2_with (first | ((with_reducible refine gate_dst (N := 13) rfl ?_); refine Kd.S_lit k47 _ 47 ?hg (N := 13) ?hd (xs := ([] : List (S47))) (inner := []) (ok := fun _ => True) (okp := fun _ => True) ?hr ?hp (fun _ hk => hk) trivial (Below.refl _ _) (Nat.le_refl _) (by simp) ?_; (case hd => rfl); (case hg => rfl); (case hr => first | (go_simp; done) | (go_simp; rfl)); (case hp => exact (Reps.none _ _)); intro v499 w3 ho4 hb hg_ hnew_; clear hg_ hnew_; (first | rw [← Ny498.out] at ho4 | (simp only [Int.reduceToNat] at ho4; rw [← Ny498.out] at ho4)); have HO500 := Aside0.mk (Kd.S_lower ho4 (below_size (zh HB))); replace HB := Aside0.mk (below_step (zh HB) hb); clear hb ho4))
  go_ret3
  exact ⟨_, zre, by (with_reducible repeat (first | apply Kd.S_alloc | apply Kd.S_drewN | apply Kd.S_drew)); exact HO500.out, zh HB⟩
 rw [if_neg c2] at H
 have c2b0 : decide (1048576 < (l0.length : Int)) = false := decide_eq_false c2
 have c2b1 : decide (1048576 < l0.length) = false := decide_eq_false (by omega)
 clear c2
 obtain ⟨y501, hy501⟩ : ∃ y_ : List (S47), y_ = (([] : List (S47))) := ⟨_, rfl⟩
 replace H : (spec_ReadLog.l0 k l0 y501 0) = some (r1, r2, r3) := zby hy501 H
 have Ny501 := Aside0.mk hy501
 clear hy501
 have H' := Aside0.mk H
 clear H
 go_enter Try.func30, Try.ntmps30
 go_wp2_with (first | ((with_reducible refine gate_dst (N := 14) rfl ?_); refine Kd.S_lit k47 _ 47 ?hg (N := 14) ?hd (xs := ([] : List (S47))) (inner := []) (ok := fun _ => True) (okp := fun _ => True) ?hr ?hp (fun _ hk => hk) trivial (Below.refl _ _) (Nat.le_refl _) (by simp) ?_; (case hd => rfl); (case hg => rfl); (case hr => first | (go_simp; done) | (go_simp; rfl)); (case hp => exact (Reps.none _ _)); intro v502 w5 ho6 hb hg_ hnew_; clear hg_ hnew_; (first | rw [← Ny501.out] at ho6 | (simp only [Int.reduceToNat] at ho6; rw [← Ny501.out] at ho6)); have HO503 := Aside0.mk (Kd.S_lower ho6 (below_size (zh HB))); replace HB := Aside0.mk (below_step (zh HB) hb); clear hb ho6))
 go_loopg [5, 6] k (fun kq v5 v6 w' => ∃ (x5_1 : List (S47)) (x6_1 : Int), v6 = .int .i64 x6_1 ∧ Aside0 (spec_ReadLog.l0 kq l0 x5_1 x6_1 = some (r1, r2, r3)) ∧ Aside0 (kq ≤ k) ∧ Aside0 (Kd.S k47 47 w' w.heap.size (fun _ => True) v5 x5_1) ∧ Aside0 (Below w.heap.size w w'))
 case atStart => exact ⟨(y501), (0), zrs, H', ⟨Nat.le_refl _⟩, ⟨zs HO503⟩, ⟨zh HB⟩⟩
 case round =>
  clear H'
  try clear c2
  try clear c2b0
  try clear c2b1
  obtain ⟨x5_1, x6_1, rfl, HA, HK1, HO_5, HB⟩ := hrel
  cases gk with
  | zero => exact absurd HA.out (by simp [spec_ReadLog.l0])
  | succ k1 =>
   have H := HA.out
   clear HA
   simp only [spec_ReadLog.l0] at H
   replace H := Option.bind_eq_some_iff.mp H
   obtain ⟨⟨t504, t505, t506, t507, t508, t511, t512⟩, A70, H⟩ := H
   try dsimp only at H
   have A7 := Aside0.mk A70
   clear A70
   by_cases c8 : t512 = true
   rotate_left
   ·replace c8 := Bool.eq_false_iff.mpr c8
    subst c8
    rw [if_neg (show ¬ (false = true) by decide)] at H
    simp only [Option.some.injEq, Prod.mk.injEq] at H
    obtain ⟨rfl, rfl, rfl⟩ := H
    obtain ⟨Ao19, co19, eo19⟩ := Kd.S_slice HO_5.out
    subst eo19
    go_wp2_with (first | ((with_reducible refine gate_callee (f := 59) rfl ?_); refine goesL_ (some 21) rfl rfl Try.func59 (by kernel_rfl) rfl #[.slice A0 l0.length c0, .int .i64 x6_1, .int .i64 (wrap64 ((x5_1.length : Int) + 1))] rfl zar ?_; (with_reducible refine (spec_l14Next.calls k1 _ _ l0 x6_1 (wrap64 ((x5_1.length : Int) + 1)) t504 t505 t506 t507 t508 t511 false _ ?side1 ?side2 A7.out).mono ?_); (case side1 => exact zC (Kd.C_below HR0.out HB.out)); (case side2 => exact HC0.out); rintro e w20 ⟨v509, rfl, ho0, hb⟩; refine ⟨_, rfl, ?_⟩; obtain ⟨nb21, hnb_⟩ := Kd.pivot_ hb; have HNB21 := Aside0.mk hnb_; clear hnb_; replace HO_5 := Aside0.mk (Kd.S_elderN (zs HO_5) (Kd.S_base ho0) hb HNB21.out); have HO510 := Aside0.mk (Kd.S_lower (Kd.S_geN ho0 HNB21.out) (below_size (zh HB))); replace HB := Aside0.mk (below_step (zh HB) hb); (try clear hb ho0); (try clear hb); (try clear hk); (try clear hi)) | ((with_reducible refine gate_dst (N := 7) rfl ?_); refine box_event (by rfl) (N := 7) (by rfl) (cs := #[.int .i64 0, .int .i64 0, .string (⟨#[]⟩ : ByteArray), .string (⟨#[]⟩ : ByteArray), .slice none 0 0]) (t := 47) zgs ?_; intro gb513 hg w22 hbox hb; replace HO_5 := Aside0.mk (Kd.S_below (Kd.S_elderB (zs HO_5) gb513 (Nat.le_of_eq hg.symm)) hb); replace HO510 := Aside0.mk (Kd.S_below (zs HO510) hb); have BK513 := Aside0.mk (hbox); have GW513 := zge hg (below_size (zh HB)); have GE513 := zge hg (below_size (zh HB)); replace HB := Aside0.mk (below_step (zh HB) hb); clear hb hbox hg; obtain ⟨⟨hcz23_0, hcz23_1, hcz23_2, hcz23_3, hcz23_4⟩, hfz23_0, hfz23_1, hfz23_2, hfz23_3, hfz23_4⟩ := zc5 BK513; obtain ⟨Ao24, co24, eo24⟩ := Kd.S_slice HO510.out; subst eo24))
    go_ret3
    exact ⟨_, zre, by (with_reducible repeat (first | apply Kd.S_alloc | apply Kd.S_drewN | apply Kd.S_drew)); exact Kd.S_mono (Kd.S_far (p := ⟨gb513, 4, none⟩) (Kd.S_far (p := ⟨gb513, 3, none⟩) (Kd.S_far (p := ⟨gb513, 2, none⟩) (Kd.S_far (p := ⟨gb513, 1, none⟩) (Kd.S_far (p := ⟨gb513, 0, none⟩) (Kd.S_mono HO_5.out (fun k_ hk => (⟨hk, hk.2⟩ : _ ∧ k_ ≠ gb513))) (fun _ hk => hk.2) (.int .i64 t504)) (fun _ hk => hk.2) (.int .i64 t505)) (fun _ hk => hk.2) (.string t506)) (fun _ hk => hk.2) (.string t507)) (fun _ hk => hk.2) (.slice Ao24 t508.length co24)) (fun _ hk => trivial), zg HB⟩

   subst c8
   rw [if_pos rfl] at H
   by_cases c9 : x5_1.length < 1954687338268
   rotate_left
   ·rw [if_neg c9] at H
    exact absurd H (by simp)
   rw [if_pos c9] at H
   have LMc9 := Aside0.mk c9
   clear c9
   obtain ⟨y514, hy514⟩ : ∃ y_ : List (S47), y_ = (x5_1 ++ [(⟨t504, t505, t506, (⟨t507, t508⟩ : S31)⟩ : S47)]) := ⟨_, rfl⟩
   replace H : (spec_ReadLog.l0 k1 l0 y514 t511) = some (r1, r2, r3) := zby hy514 H
   have Ny514 := Aside0.mk hy514
   clear hy514
   have H' := Aside0.mk H
   clear H
   obtain ⟨Ao10, co10, eo10⟩ := Kd.S_slice HO_5.out
   subst eo10
   go_wp2_with (first | ((with_reducible refine gate_callee (f := 59) rfl ?_); refine goesL_ (some 21) rfl rfl Try.func59 (by kernel_rfl) rfl #[.slice A0 l0.length c0, .int .i64 x6_1, .int .i64 (wrap64 ((x5_1.length : Int) + 1))] rfl zar ?_; (with_reducible refine (spec_l14Next.calls k1 _ _ l0 x6_1 (wrap64 ((x5_1.length : Int) + 1)) t504 t505 t506 t507 t508 t511 true _ ?side1 ?side2 A7.out).mono ?_); (case side1 => exact zC (Kd.C_below HR0.out HB.out)); (case side2 => exact HC0.out); rintro e w11 ⟨v509, rfl, ho0, hb⟩; refine ⟨_, rfl, ?_⟩; obtain ⟨nb12, hnb_⟩ := Kd.pivot_ hb; have HNB12 := Aside0.mk hnb_; clear hnb_; replace HO_5 := Aside0.mk (Kd.S_elderN (zs HO_5) (Kd.S_base ho0) hb HNB12.out); have HO510 := Aside0.mk (Kd.S_lower (Kd.S_geN ho0 HNB12.out) (below_size (zh HB))); replace HB := Aside0.mk (below_step (zh HB) hb); (try clear hb ho0); (try clear hb); (try clear hk); (try clear hi)) | ((with_reducible refine gate_dst (N := 7) rfl ?_); refine box_event (by rfl) (N := 7) (by rfl) (cs := #[.int .i64 0, .int .i64 0, .string (⟨#[]⟩ : ByteArray), .string (⟨#[]⟩ : ByteArray), .slice none 0 0]) (t := 47) zgs ?_; intro gb513 hg w13 hbox hb; replace HO_5 := Aside0.mk (Kd.S_below (Kd.S_elderB (zs HO_5) gb513 (Nat.le_of_eq hg.symm)) hb); replace HO510 := Aside0.mk (Kd.S_below (zs HO510) hb); have BK513 := Aside0.mk (hbox); have GW513 := zge hg (below_size (zh HB)); have GE513 := zge hg (below_size (zh HB)); replace HB := Aside0.mk (below_step (zh HB) hb); clear hb hbox hg; obtain ⟨⟨hcz14_0, hcz14_1, hcz14_2, hcz14_3, hcz14_4⟩, hfz14_0, hfz14_1, hfz14_2, hfz14_3, hfz14_4⟩ := zc5 BK513; obtain ⟨Ao15, co15, eo15⟩ := Kd.S_slice HO510.out; subst eo15) | ((with_reducible refine gate_store (t := 47) (p := 7) rfl ?_); refine store_event (t := 47) (p := 7) (v := ?vo_w16) (w1 := (((((w13.setCell ⟨gb513, 0, none⟩ (.int .i64 t504)).setCell ⟨gb513, 1, none⟩ (.int .i64 t505)).setCell ⟨gb513, 2, none⟩ (.string t506)).setCell ⟨gb513, 3, none⟩ (.string t507)).setCell ⟨gb513, 4, none⟩ (.slice Ao15 t508.length co15))) ?hg ?ho ?hn ?hr ?_; (case ho => rfl); (case hg => rfl); (case hn => rfl); (case hr => first | (go_simp; done) | (go_simp; rfl)); intro w16 hw; have n0_ : Aside0 (Kd.S k47 47 w16 w.heap.size (fun k_ => some k_ ≠ (.slice Ao15 t508.length co15 : Value).ownBlock ∧ k_ < nb12 ∧ k_ ≠ gb513) (.slice Ao10 x5_1.length co10) x5_1) := ⟨(by rw [hw]; exact (by (with_reducible repeat (first | apply Kd.S_alloc | apply Kd.S_drewN | apply Kd.S_drew)); exact Kd.S_mono (Kd.S_far (p := ⟨gb513, 4, none⟩) (Kd.S_far (p := ⟨gb513, 3, none⟩) (Kd.S_far (p := ⟨gb513, 2, none⟩) (Kd.S_far (p := ⟨gb513, 1, none⟩) (Kd.S_far (p := ⟨gb513, 0, none⟩) (Kd.S_mono HO_5.out (fun k_ hk => (⟨hk, hk.2⟩ : _ ∧ k_ ≠ gb513))) (fun _ hk => hk.2) (.int .i64 t504)) (fun _ hk => hk.2) (.int .i64 t505)) (fun _ hk => hk.2) (.string t506)) (fun _ hk => hk.2) (.string t507)) (fun _ hk => hk.2) (.slice Ao15 t508.length co15)) (fun _ hk => ⟨hk.1.1.1.2, ⟨hk.1.1.2, hk.1.2⟩⟩)))⟩; have n1_ : Aside0 (Kd.S k66 66 w16 w.heap.size (fun k_ => nb12 ≤ k_) (.slice Ao15 t508.length co15) t508) := ⟨(by rw [hw]; exact (by (with_reducible repeat (first | apply Kd.S_alloc | apply Kd.S_drewN | apply Kd.S_drew)); exact Kd.S_mono (Kd.S_far (p := ⟨gb513, 4, none⟩) (Kd.S_far (p := ⟨gb513, 3, none⟩) (Kd.S_far (p := ⟨gb513, 2, none⟩) (Kd.S_far (p := ⟨gb513, 1, none⟩) (Kd.S_far (p := ⟨gb513, 0, none⟩) (Kd.S_types HO510.out BK513.out (by decide)) (fun _ hk => hk.2) (.int .i64 t504)) (fun _ hk => hk.2) (.int .i64 t505)) (fun _ hk => hk.2) (.string t506)) (fun _ hk => hk.2) (.string t507)) (fun _ hk => hk.2) (.slice Ao15 t508.length co15)) (fun _ hk => hk.1.2)))⟩; have n2_ : Aside0 (w16.heap[gb513]? = some (.cells #[.int .i64 t504, .int .i64 t505, .string t506, .string t507, .slice Ao15 t508.length co15] 47 (0, 0))) := ⟨(by rw [hw]; exact (zp BK513))⟩; have n3_ : Aside0 (Below w.heap.size w w16) := ⟨(by rw [hw]; exact (zg HB))⟩; clear hw; clear HO_5; clear HO510; clear BK513; clear HB; have HO_5 := n0_; have HO510 := n1_; have BK513 := n2_; have HB := n3_; clear n0_ n1_ n2_ n3_; obtain ⟨⟨hcz17_0, hcz17_1, hcz17_2, hcz17_3, hcz17_4⟩, hfz17_0, hfz17_1, hfz17_2, hfz17_3, hfz17_4⟩ := zc5 BK513) | ((with_reducible refine gate_builtin (b := .append) (xs := #[.tmp 29, .tmp 31]) rfl ?_); at_builtin; refine Kd.S_append k47 (w0 := w) w.heap.size rfl (.tmp 29) (.tmp 31) 54 47 (.agg #[(.int .i64 0), (.int .i64 0), (.string ⟨#[]⟩), (.string ⟨#[]⟩), (.slice none 0 0)]) 72 rfl Try.underlying54 info47 rfl (by decide) (by omega) (.slice Ao10 x5_1.length co10) x5_1 (⟨t504, t505, t506, (⟨t507, t508⟩ : S31)⟩ : S47) [.int .i64 t504, .int .i64 t505, .string t506, .string t507, .slice Ao15 t508.length co15] (fun k_ => k_ ≠ gb513) (fun k_ => (nb12 ≤ k_ ∧ ((fun k_ => k_ ≠ gb513)) k_) ∧ some k_ ≠ (.slice Ao10 x5_1.length co10 : Value).ownBlock) rfl rfl ?aP (fun k_ hk_ => ⟨hk_.1.2, hk_.2⟩) ?aF ?aO ?aB ?aS ?aL ?_; (case aP => exact k47_mkM _ _ _ (⟨t504, t505, t506, (⟨t507, t508⟩ : S31)⟩ : S47) (Kd.S_mono (ok' := (fun k_ => (nb12 ≤ k_ ∧ ((fun k_ => k_ ≠ gb513)) k_) ∧ some k_ ≠ (.slice Ao10 x5_1.length co10 : Value).ownBlock)) (Kd.S_types (Kd.S_apart' (HO510.out) (Kd.S_typed HO_5.out) (by decide)) BK513.out (by decide)) (fun k_ hk => ⟨⟨hk.1.1, hk.2⟩, hk.1.2⟩))); (case aB => exact (zg HB)); (case aF => exact (fun k_ hk => Kd.freshB (zb BK513) k_ hk)); (case aO => exact (Kd.S_mono (zs HO_5) (fun k_ hk => ⟨hk.2.2, fun e_ => Nat.not_le.2 hk.2.1 e_.1.1⟩))); (case aS => exact (below_size (zg HB))); (case aL => have := LMc9.out; omega); intro v515 w18 ho hb hg hat; rw [← Ny514.out] at ho; replace BK513 := Aside0.mk (blk_grown (zb BK513) hg (Kd.S_away HO_5.out (fun _ hk => hk.2.2))); replace HB := Aside0.mk (hb); have HO516 := Aside0.mk (ho); clear HO_5 HO510; clear ho hb hg hat))
   go_roundg k1
   case measure => have := HK1.out; omega
   case rel => exact ⟨(y514), (t511), zrs, H', ⟨by have := HK1.out; omega⟩, ⟨Kd.S_mono (zs HO516) (fun _ hk => trivial)⟩, ⟨zg HB⟩⟩
/-! ### laws_eqStringS: function 94 -/
def laws_eqStringS.l0 : Nat → List ByteArray → List ByteArray → Int → Option (Bool)
 | 0, _, _, _ => none
 | k + 1, x0, x1, x5 => if x5 < (x0.length : Int) then (if 0 ≤ x5 then (if x5 < (x1.length : Int) then (if (rdOf ByteArray.empty x0 x5).toList = (rdOf ByteArray.empty x1 x5).toList then (laws_eqStringS.l0 k x0 x1 (wrap64 (x5 + 1))) else (some false)) else (none)) else (none)) else (some true)
def laws_eqStringS.f (k : Nat) (l0 : List ByteArray) (l1 : List ByteArray) : Option (Bool) := if (l0.length : Int) = (l1.length : Int) then (laws_eqStringS.l0 k l0 l1 0) else (some false)
theorem laws_eqStringS.mono_l : ∀ k, (∀ y0 y1 y2, LeO (laws_eqStringS.l0 k y0 y1 y2) (laws_eqStringS.l0 (k + 1) y0 y1 y2))
 | 0 => fun _ _ _ r h => by simp [laws_eqStringS.l0] at h
 | k + 1 => by
  have ih0 := laws_eqStringS.mono_l k
  ·intro y0 y1 y2
   unfold laws_eqStringS.l0
   repeat' first
   | (with_reducible exact ih0 _ _ _)
   | (with_reducible exact LeO.refl _)
   | (with_reducible exact LeO.none _)
   | (with_reducible refine LeO.ite ?_ ?_)
   | (with_reducible refine LeO.bind ?_ (fun _ => ?_))
theorem laws_eqStringS.mono : ∀ a0 a1 k, LeO (laws_eqStringS.f k a0 a1) (laws_eqStringS.f (k + 1) a0 a1) := by
 intro a0 a1 k
 have ih0 := laws_eqStringS.mono_l k
 unfold laws_eqStringS.f
 repeat' first
  | (with_reducible exact ih0 _ _ _)
  | (with_reducible exact LeO.refl _)
  | (with_reducible exact LeO.none _)
  | (with_reducible refine LeO.ite ?_ ?_)
  | (with_reducible refine LeO.bind ?_ (fun _ => ?_))
set_option maxHeartbeats 8000000 in
set_option maxRecDepth 100000 in
theorem laws_eqStringS.calls (k : Nat) (A0 : Option Addr) (c0 : Nat) (l0 : List ByteArray) (A1 : Option Addr) (c1 : Nat) (l1 : List ByteArray) (r : Bool) (w : World) (hr0 : Kd.C Kd.string w A0 l0.length l0) (hc0 : l0.length ≤ c0) (hr1 : Kd.C Kd.string w A1 l1.length l1) (hc1 : l1.length ≤ c1) (h : laws_eqStringS.f k l0 l1 = some r) :
 Calls Try.prog 94 #[.slice A0 l0.length c0, .slice A1 l1.length c1] w fun e w' => e = .returned (.bool r) ∧ Drawn0 w w' := by
 have HR0 := Aside0.mk hr0
 have HC0 := Aside0.mk hc0
 clear hr0 hc0
 have HR1 := Aside0.mk hr1
 have HC1 := Aside0.mk hc1
 clear hr1 hc1
 have H := h
 unfold laws_eqStringS.f at H
 clear h
 by_cases c3 : (l0.length : Int) = (l1.length : Int)
 rotate_left
 ·rw [if_neg c3] at H
  have c3b0 : ((l0.length : Int) == (l1.length : Int)) = false := beq_eq_false_iff_ne.mpr c3
  have c3b1 : ((l0.length : Int) != (l1.length : Int)) = true := bne_iff_ne.mpr c3
  have c3b2 : (l0.length == l1.length) = false := by first | simpa using c3 | (simp at c3 ⊢; omega)
  obtain rfl := Option.some.inj H
  go_enter Try.func94, Try.ntmps94
  go_wp2
  repeat (go_quiet (fail); try go_wp2)
  go_ret
  exact ⟨zrs, by repeat (first | exact Drawn0.refl _ | apply Drawn0.step)⟩

 rw [if_pos c3] at H
 have c3b0 : ((l0.length : Int) == (l1.length : Int)) = true := beq_iff_eq.mpr c3
 have c3b1 : ((l0.length : Int) != (l1.length : Int)) = false := bne_eq_false_iff_eq.mpr c3
 have c3b2 : (l0.length == l1.length) = true := by first | simpa using c3 | (simp at c3 ⊢; omega)
 clear c3
 have H' := Aside0.mk H
 clear H
 go_enter Try.func94, Try.ntmps94
 go_wp2
 repeat (go_quiet (fail); try go_wp2)
 go_loopg [5] k (fun kq v5 w' => ∃ (x5_1 : Int), v5 = .int .i64 x5_1 ∧ Aside0 (laws_eqStringS.l0 kq l0 l1 x5_1 = some r) ∧ Aside0 (kq ≤ k) ∧ Drawn0 w w')
 case atStart => exact ⟨(0), zrs, H', ⟨Nat.le_refl _⟩, by repeat (first | exact Drawn0.refl _ | apply Drawn0.step)⟩
 case round =>
  clear H'
  try clear c1
  try clear c3
  try clear c3b0
  try clear c3b1
  try clear c3b2
  obtain ⟨x5_1, rfl, HA, HK1, ⟨m1, rfl⟩⟩ := hrel
  cases gk with
  | zero => exact absurd HA.out (by simp [laws_eqStringS.l0])
  | succ k1 =>
   have H := HA.out
   clear HA
   simp only [laws_eqStringS.l0] at H
   by_cases c4 : x5_1 < (l0.length : Int)
   rotate_left
   ·rw [if_neg c4] at H
    have c4b0 : decide (x5_1 < (l0.length : Int)) = false := decide_eq_false c4
    clear c4
    obtain rfl := Option.some.inj H
    go_wp2
    repeat (go_quiet (fail); try go_wp2)
    go_ret
    exact ⟨zrs, by repeat (first | exact Drawn0.refl _ | apply Drawn0.step)⟩
   rw [if_pos c4] at H
   have c4b0 : decide (x5_1 < (l0.length : Int)) = true := decide_eq_true c4
   clear c4
   by_cases c5 : 0 ≤ x5_1
   rotate_left
   ·rw [if_neg c5] at H
    exact absurd H (by simp)
   rw [if_pos c5] at H
   have c5b0 : decide (0 ≤ x5_1) = true := decide_eq_true c5
   clear c5
   by_cases c6 : x5_1 < (l1.length : Int)
   rotate_left
   ·rw [if_neg c6] at H
    exact absurd H (by simp)
   rw [if_pos c6] at H
   have c6b0 : decide (x5_1 < (l1.length : Int)) = true := decide_eq_true c6
   clear c6
   by_cases c7 : (rdOf ByteArray.empty l0 x5_1).toList = (rdOf ByteArray.empty l1 x5_1).toList
   rotate_left
   ·rw [if_neg c7] at H
    have c7b0 : ((rdOf ByteArray.empty l0 x5_1).toList == (rdOf ByteArray.empty l1 x5_1).toList) = false := beq_eq_false_iff_ne.mpr c7
    have c7b1 : ((rdOf ByteArray.empty l0 x5_1).toList != (rdOf ByteArray.empty l1 x5_1).toList) = true := bne_iff_ne.mpr c7
    obtain rfl := Option.some.inj H
    have p517 : 0 ≤ (x5_1 : Int) := of_decide_eq_true zas
    have q517 : x5_1 < (l0.length : Int) := of_decide_eq_true zas
    obtain ⟨ad517, e517, hx517_0⟩ := Kd.at_string HR0.out x5_1 p517 q517
    cases e517
    replace p517 := eq_true p517
    replace q517 := eq_true q517
    have p518 : 0 ≤ (x5_1 : Int) := of_decide_eq_true zas
    have q518 : x5_1 < (l1.length : Int) := of_decide_eq_true zas
    obtain ⟨ad518, e518, hx518_0⟩ := Kd.at_string HR1.out x5_1 p518 q518
    cases e518
    replace p518 := eq_true p518
    replace q518 := eq_true q518
    go_wp2
    repeat (go_quiet (fail); try go_wp2)
    go_ret
    exact ⟨zrs, by repeat (first | exact Drawn0.refl _ | apply Drawn0.step)⟩
   rw [if_pos c7] at H
   have c7b0 : ((rdOf ByteArray.empty l0 x5_1).toList == (rdOf ByteArray.empty l1 x5_1).toList) = true := beq_iff_eq.mpr c7
   have c7b1 : ((rdOf ByteArray.empty l0 x5_1).toList != (rdOf ByteArray.empty l1 x5_1).toList) = false := bne_eq_false_iff_eq.mpr c7
   clear c7
   have H' := Aside0.mk H
   clear H
   have p517 : 0 ≤ (x5_1 : Int) := of_decide_eq_true zas
   have q517 : x5_1 < (l0.length : Int) := of_decide_eq_true zas
   obtain ⟨ad517, e517, hx517_0⟩ := Kd.at_string HR0.out x5_1 p517 q517
   cases e517
   replace p517 := eq_true p517
   replace q517 := eq_true q517
   have p518 : 0 ≤ (x5_1 : Int) := of_decide_eq_true zas
   have q518 : x5_1 < (l1.length : Int) := of_decide_eq_true zas
   obtain ⟨ad518, e518, hx518_0⟩ := Kd.at_string HR1.out x5_1 p518 q518
   cases e518
   replace p518 := eq_true p518
   replace q518 := eq_true q518
   go_wp2
   repeat (go_quiet (fail); try go_wp2)
   go_roundg k1
   case measure => have := HK1.out; omega
   case rel => exact ⟨(wrap64 (x5_1 + 1)), zrs, H', ⟨by have := HK1.out; omega⟩, by repeat (first | exact Drawn0.refl _ | apply Drawn0.step)⟩
/-! ### laws_eqIntS: function 95 -/
def laws_eqIntS.l0 : Nat → List Int → List Int → Int → Option (Bool)
 | 0, _, _, _ => none
 | k + 1, x0, x1, x5 => if x5 < (x0.length : Int) then (if 0 ≤ x5 then (if x5 < (x1.length : Int) then (if (rd x0 x5) = (rd x1 x5) then (laws_eqIntS.l0 k x0 x1 (wrap64 (x5 + 1))) else (some false)) else (none)) else (none)) else (some true)
def laws_eqIntS.f (k : Nat) (l0 : List Int) (l1 : List Int) : Option (Bool) := if (l0.length : Int) = (l1.length : Int) then (laws_eqIntS.l0 k l0 l1 0) else (some false)
theorem laws_eqIntS.mono_l : ∀ k, (∀ y0 y1 y2, LeO (laws_eqIntS.l0 k y0 y1 y2) (laws_eqIntS.l0 (k + 1) y0 y1 y2))
 | 0 => fun _ _ _ r h => by simp [laws_eqIntS.l0] at h
 | k + 1 => by
  have ih0 := laws_eqIntS.mono_l k
  ·intro y0 y1 y2
   unfold laws_eqIntS.l0
   repeat' first
   | (with_reducible exact ih0 _ _ _)
   | (with_reducible exact LeO.refl _)
   | (with_reducible exact LeO.none _)
   | (with_reducible refine LeO.ite ?_ ?_)
   | (with_reducible refine LeO.bind ?_ (fun _ => ?_))
theorem laws_eqIntS.mono : ∀ a0 a1 k, LeO (laws_eqIntS.f k a0 a1) (laws_eqIntS.f (k + 1) a0 a1) := by
 intro a0 a1 k
 have ih0 := laws_eqIntS.mono_l k
 unfold laws_eqIntS.f
 repeat' first
  | (with_reducible exact ih0 _ _ _)
  | (with_reducible exact LeO.refl _)
  | (with_reducible exact LeO.none _)
  | (with_reducible refine LeO.ite ?_ ?_)
  | (with_reducible refine LeO.bind ?_ (fun _ => ?_))
set_option maxHeartbeats 8000000 in
set_option maxRecDepth 100000 in
theorem laws_eqIntS.calls (k : Nat) (A0 : Option Addr) (c0 : Nat) (l0 : List Int) (A1 : Option Addr) (c1 : Nat) (l1 : List Int) (r : Bool) (w : World) (hr0 : Kd.C (Kd.int .i64) w A0 l0.length l0) (hc0 : l0.length ≤ c0) (hr1 : Kd.C (Kd.int .i64) w A1 l1.length l1) (hc1 : l1.length ≤ c1) (h : laws_eqIntS.f k l0 l1 = some r) :
 Calls Try.prog 95 #[.slice A0 l0.length c0, .slice A1 l1.length c1] w fun e w' => e = .returned (.bool r) ∧ Drawn0 w w' := by
 have HR0 := Aside0.mk hr0
 have HC0 := Aside0.mk hc0
 clear hr0 hc0
 have HR1 := Aside0.mk hr1
 have HC1 := Aside0.mk hc1
 clear hr1 hc1
 have H := h
 unfold laws_eqIntS.f at H
 clear h
 by_cases c3 : (l0.length : Int) = (l1.length : Int)
 rotate_left
 ·rw [if_neg c3] at H
  have c3b0 : ((l0.length : Int) == (l1.length : Int)) = false := beq_eq_false_iff_ne.mpr c3
  have c3b1 : ((l0.length : Int) != (l1.length : Int)) = true := bne_iff_ne.mpr c3
  have c3b2 : (l0.length == l1.length) = false := by first | simpa using c3 | (simp at c3 ⊢; omega)
  obtain rfl := Option.some.inj H
  go_enter Try.func95, Try.ntmps95
  go_wp2
  repeat (go_quiet (fail); try go_wp2)
  go_ret
  exact ⟨zrs, by repeat (first | exact Drawn0.refl _ | apply Drawn0.step)⟩

 rw [if_pos c3] at H
 have c3b0 : ((l0.length : Int) == (l1.length : Int)) = true := beq_iff_eq.mpr c3
 have c3b1 : ((l0.length : Int) != (l1.length : Int)) = false := bne_eq_false_iff_eq.mpr c3
 have c3b2 : (l0.length == l1.length) = true := by first | simpa using c3 | (simp at c3 ⊢; omega)
 clear c3
 have H' := Aside0.mk H
 clear H
 go_enter Try.func95, Try.ntmps95
 go_wp2
 repeat (go_quiet (fail); try go_wp2)
 go_loopg [5] k (fun kq v5 w' => ∃ (x5_1 : Int), v5 = .int .i64 x5_1 ∧ Aside0 (laws_eqIntS.l0 kq l0 l1 x5_1 = some r) ∧ Aside0 (kq ≤ k) ∧ Drawn0 w w')
 case atStart => exact ⟨(0), zrs, H', ⟨Nat.le_refl _⟩, by repeat (first | exact Drawn0.refl _ | apply Drawn0.step)⟩
 case round =>
  clear H'
  try clear c1
  try clear c3
  try clear c3b0
  try clear c3b1
  try clear c3b2
  obtain ⟨x5_1, rfl, HA, HK1, ⟨m1, rfl⟩⟩ := hrel
  cases gk with
  | zero => exact absurd HA.out (by simp [laws_eqIntS.l0])
  | succ k1 =>
   have H := HA.out
   clear HA
   simp only [laws_eqIntS.l0] at H
   by_cases c4 : x5_1 < (l0.length : Int)
   rotate_left
   ·rw [if_neg c4] at H
    have c4b0 : decide (x5_1 < (l0.length : Int)) = false := decide_eq_false c4
    clear c4
    obtain rfl := Option.some.inj H
    go_wp2
    repeat (go_quiet (fail); try go_wp2)
    go_ret
    exact ⟨zrs, by repeat (first | exact Drawn0.refl _ | apply Drawn0.step)⟩
   rw [if_pos c4] at H
   have c4b0 : decide (x5_1 < (l0.length : Int)) = true := decide_eq_true c4
   clear c4
   by_cases c5 : 0 ≤ x5_1
   rotate_left
   ·rw [if_neg c5] at H
    exact absurd H (by simp)
   rw [if_pos c5] at H
   have c5b0 : decide (0 ≤ x5_1) = true := decide_eq_true c5
   clear c5
   by_cases c6 : x5_1 < (l1.length : Int)
   rotate_left
   ·rw [if_neg c6] at H
    exact absurd H (by simp)
   rw [if_pos c6] at H
   have c6b0 : decide (x5_1 < (l1.length : Int)) = true := decide_eq_true c6
   clear c6
   by_cases c7 : (rd l0 x5_1) = (rd l1 x5_1)
   rotate_left
   ·rw [if_neg c7] at H
    have c7b0 : ((rd l0 x5_1) == (rd l1 x5_1)) = false := beq_eq_false_iff_ne.mpr c7
    have c7b1 : ((rd l0 x5_1) != (rd l1 x5_1)) = true := bne_iff_ne.mpr c7
    obtain rfl := Option.some.inj H
    have p519 : 0 ≤ (x5_1 : Int) := of_decide_eq_true zas
    have q519 : x5_1 < (l0.length : Int) := of_decide_eq_true zas
    obtain ⟨ad519, e519, hx519_0⟩ := Kd.at_int HR0.out x5_1 p519 q519
    cases e519
    replace p519 := eq_true p519
    replace q519 := eq_true q519
    have p520 : 0 ≤ (x5_1 : Int) := of_decide_eq_true zas
    have q520 : x5_1 < (l1.length : Int) := of_decide_eq_true zas
    obtain ⟨ad520, e520, hx520_0⟩ := Kd.at_int HR1.out x5_1 p520 q520
    cases e520
    replace p520 := eq_true p520
    replace q520 := eq_true q520
    go_wp2
    repeat (go_quiet (fail); try go_wp2)
    go_ret
    exact ⟨zrs, by repeat (first | exact Drawn0.refl _ | apply Drawn0.step)⟩
   rw [if_pos c7] at H
   have c7b0 : ((rd l0 x5_1) == (rd l1 x5_1)) = true := beq_iff_eq.mpr c7
   have c7b1 : ((rd l0 x5_1) != (rd l1 x5_1)) = false := bne_eq_false_iff_eq.mpr c7
   clear c7
   have H' := Aside0.mk H
   clear H
   have p519 : 0 ≤ (x5_1 : Int) := of_decide_eq_true zas
   have q519 : x5_1 < (l0.length : Int) := of_decide_eq_true zas
   obtain ⟨ad519, e519, hx519_0⟩ := Kd.at_int HR0.out x5_1 p519 q519
   cases e519
   replace p519 := eq_true p519
   replace q519 := eq_true q519
   have p520 : 0 ≤ (x5_1 : Int) := of_decide_eq_true zas
   have q520 : x5_1 < (l1.length : Int) := of_decide_eq_true zas
   obtain ⟨ad520, e520, hx520_0⟩ := Kd.at_int HR1.out x5_1 p520 q520
   cases e520
   replace p520 := eq_true p520
   replace q520 := eq_true q520
   go_wp2
   repeat (go_quiet (fail); try go_wp2)
   go_roundg k1
   case measure => have := HK1.out; omega
   case rel => exact ⟨(wrap64 (x5_1 + 1)), zrs, H', ⟨by have := HK1.out; omega⟩, by repeat (first | exact Drawn0.refl _ | apply Drawn0.step)⟩
/-! ### laws_eqValue: function 66 -/
def laws_eqValue.f (k : Nat) (a0_0 : ByteArray) (l0_1 : List ByteArray) (l0_2 : List Int) (a1_0 : ByteArray) (l1_1 : List ByteArray) (l1_2 : List Int) : Option (Bool) := if a0_0.toList = a1_0.toList then ((laws_eqStringS.f k l0_1 l1_1).bind fun t523 => (if t523 = true then ((laws_eqIntS.f k l0_2 l1_2).bind fun t524 => (if t524 = true then (some true) else (some false))) else (some false))) else (some false)
theorem laws_eqValue.mono : ∀ a0 a1 a2 a3 a4 a5 k, LeO (laws_eqValue.f k a0 a1 a2 a3 a4 a5) (laws_eqValue.f (k + 1) a0 a1 a2 a3 a4 a5) := by
 intro a0 a1 a2 a3 a4 a5 k
 unfold laws_eqValue.f
 repeat' first
  | (with_reducible exact laws_eqIntS.mono _ _ _)
  | (with_reducible exact laws_eqStringS.mono _ _ _)
  | (with_reducible exact LeO.refl _)
  | (with_reducible exact LeO.none _)
  | (with_reducible refine LeO.ite ?_ ?_)
  | (with_reducible refine LeO.bind ?_ (fun _ => ?_))
set_option maxHeartbeats 8000000 in
set_option maxRecDepth 100000 in
theorem laws_eqValue.calls (k : Nat) (a0_0 : ByteArray) (A0_1 : Option Addr) (c0_1 : Nat) (l0_1 : List ByteArray) (A0_2 : Option Addr) (c0_2 : Nat) (l0_2 : List Int) (a1_0 : ByteArray) (A1_1 : Option Addr) (c1_1 : Nat) (l1_1 : List ByteArray) (A1_2 : Option Addr) (c1_2 : Nat) (l1_2 : List Int) (r : Bool) (w : World) (hr0_1 : Kd.C Kd.string w A0_1 l0_1.length l0_1) (hc0_1 : l0_1.length ≤ c0_1) (hr0_2 : Kd.C (Kd.int .i64) w A0_2 l0_2.length l0_2) (hc0_2 : l0_2.length ≤ c0_2) (hr1_1 : Kd.C Kd.string w A1_1 l1_1.length l1_1) (hc1_1 : l1_1.length ≤ c1_1) (hr1_2 : Kd.C (Kd.int .i64) w A1_2 l1_2.length l1_2) (hc1_2 : l1_2.length ≤ c1_2) (h : laws_eqValue.f k a0_0 l0_1 l0_2 a1_0 l1_1 l1_2 = some r) :
 Calls Try.prog 66 #[.agg #[.string a0_0, .slice A0_1 l0_1.length c0_1, .slice A0_2 l0_2.length c0_2], .agg #[.string a1_0, .slice A1_1 l1_1.length c1_1, .slice A1_2 l1_2.length c1_2]] w fun e w' => e = .returned (.bool r) ∧ Below w.heap.size w w' := by
 have hu66 := Try.underlying66
 have HR0_1 := Aside0.mk hr0_1
 have HC0_1 := Aside0.mk hc0_1
 clear hr0_1 hc0_1
 have HR0_2 := Aside0.mk hr0_2
 have HC0_2 := Aside0.mk hc0_2
 clear hr0_2 hc0_2
 have HR1_1 := Aside0.mk hr1_1
 have HC1_1 := Aside0.mk hc1_1
 clear hr1_1 hc1_1
 have HR1_2 := Aside0.mk hr1_2
 have HC1_2 := Aside0.mk hc1_2
 clear hr1_2 hc1_2
 have HB := Aside0.mk (Below.refl w.heap.size w)
 have H := h
 unfold laws_eqValue.f at H
 clear h
 by_cases c3 : a0_0.toList = a1_0.toList
 rotate_left
 ·rw [if_neg c3] at H
  have c3b0 : (a0_0.toList == a1_0.toList) = false := beq_eq_false_iff_ne.mpr c3
  have c3b1 : (a0_0.toList != a1_0.toList) = true := bne_iff_ne.mpr c3
  obtain rfl := Option.some.inj H
  go_enter Try.func66, Try.ntmps66
  go_wp2_with (first | ((with_reducible refine gate_dst (N := 2) rfl ?_); refine box_event (by rfl) (N := 2) (by rfl) (cs := #[.string a0_0, .slice A0_1 l0_1.length c0_1, .slice A0_2 l0_2.length c0_2]) (t := 66) zgs ?_; intro gb521 hg w23 hbox hb; have BK521 := Aside0.mk (hbox); have GW521 := zge hg (below_size (zh HB)); have GE521 := zge hg (below_size (zh HB)); replace HB := Aside0.mk (below_step (zh HB) hb); clear hb hbox hg) | ((with_reducible refine gate_dst (N := 3) rfl ?_); refine box_event (by rfl) (N := 3) (by rfl) (cs := #[.string a1_0, .slice A1_1 l1_1.length c1_1, .slice A1_2 l1_2.length c1_2]) (t := 66) zgs ?_; intro gb522 hg w24 hbox hb; have BK522 := Aside0.mk (hbox); have GW522 := zge hg (below_size (zg HB)); have GE522 := zge hg (below_size (zg HB)); replace HB := Aside0.mk (below_step (zg HB) hb); have NB521_522 := znl hg (blk_lt (zb BK521)); have NB522_521 := zng hg (blk_lt (zb BK521)); replace BK521 := Aside0.mk (blk_below (zb BK521) hb); clear hb hbox hg; have hnb25 := NB521_522.out; have hnc25 := NB522_521.out; obtain ⟨⟨hcz26_0, hcz26_1, hcz26_2⟩, hfz26_0, hfz26_1, hfz26_2⟩ := zc3 BK521; obtain ⟨⟨hcz27_0, hcz27_1, hcz27_2⟩, hfz27_0, hfz27_1, hfz27_2⟩ := zc3 BK522))
  go_ret
  exact ⟨zre, zg HB⟩

 rw [if_pos c3] at H
 have c3b0 : (a0_0.toList == a1_0.toList) = true := beq_iff_eq.mpr c3
 have c3b1 : (a0_0.toList != a1_0.toList) = false := bne_eq_false_iff_eq.mpr c3
 clear c3
 replace H := Option.bind_eq_some_iff.mp H
 obtain ⟨t523, A40, H⟩ := H
 try dsimp only at H
 have A4 := Aside0.mk A40
 clear A40
 by_cases c5 : t523 = true
 rotate_left
 ·replace c5 := Bool.eq_false_iff.mpr c5
  subst c5
  rw [if_neg (show ¬ (false = true) by decide)] at H
  obtain rfl := Option.some.inj H
  go_enter Try.func66, Try.ntmps66
  go_wp2_with (first | ((with_reducible refine gate_dst (N := 2) rfl ?_); refine box_event (by rfl) (N := 2) (by rfl) (cs := #[.string a0_0, .slice A0_1 l0_1.length c0_1, .slice A0_2 l0_2.length c0_2]) (t := 66) zgs ?_; intro gb521 hg w18 hbox hb; have BK521 := Aside0.mk (hbox); have GW521 := zge hg (below_size (zh HB)); have GE521 := zge hg (below_size (zh HB)); replace HB := Aside0.mk (below_step (zh HB) hb); clear hb hbox hg) | ((with_reducible refine gate_dst (N := 3) rfl ?_); refine box_event (by rfl) (N := 3) (by rfl) (cs := #[.string a1_0, .slice A1_1 l1_1.length c1_1, .slice A1_2 l1_2.length c1_2]) (t := 66) zgs ?_; intro gb522 hg w19 hbox hb; have BK522 := Aside0.mk (hbox); have GW522 := zge hg (below_size (zg HB)); have GE522 := zge hg (below_size (zg HB)); replace HB := Aside0.mk (below_step (zg HB) hb); have NB521_522 := znl hg (blk_lt (zb BK521)); have NB522_521 := zng hg (blk_lt (zb BK521)); replace BK521 := Aside0.mk (blk_below (zb BK521) hb); clear hb hbox hg; have hnb20 := NB521_522.out; have hnc20 := NB522_521.out; obtain ⟨⟨hcz21_0, hcz21_1, hcz21_2⟩, hfz21_0, hfz21_1, hfz21_2⟩ := zc3 BK521; obtain ⟨⟨hcz22_0, hcz22_1, hcz22_2⟩, hfz22_0, hfz22_1, hfz22_2⟩ := zc3 BK522) | ((with_reducible refine gate_callee (f := 94) rfl ?_); refine goesL_ (some 14) rfl rfl Try.func94 (by kernel_rfl) rfl #[.slice A0_1 l0_1.length c0_1, .slice A1_1 l1_1.length c1_1] rfl zar ?_; (with_reducible refine (laws_eqStringS.calls k _ _ l0_1 _ _ l1_1 false _ ?side1 ?side2 ?side3 ?side4 A4.out).mono ?_); (case side1 => exact zC (Kd.C_below HR0_1.out HB.out)); (case side2 => exact HC0_1.out); (case side3 => exact zC (Kd.C_below HR1_1.out HB.out)); (case side4 => exact HC1_1.out); rintro e w' ⟨rfl, ⟨nd, rfl⟩⟩; refine ⟨_, rfl, ?_⟩))
  go_ret
  exact ⟨zre, zg HB⟩
 subst c5
 rw [if_pos rfl] at H
 replace H := Option.bind_eq_some_iff.mp H
 obtain ⟨t524, A60, H⟩ := H
 try dsimp only at H
 have A6 := Aside0.mk A60
 clear A60
 by_cases c7 : t524 = true
 ·subst c7
  rw [if_pos rfl] at H
  obtain rfl := Option.some.inj H
  go_enter Try.func66, Try.ntmps66
  go_wp2_with (first | ((with_reducible refine gate_dst (N := 2) rfl ?_); refine box_event (by rfl) (N := 2) (by rfl) (cs := #[.string a0_0, .slice A0_1 l0_1.length c0_1, .slice A0_2 l0_2.length c0_2]) (t := 66) zgs ?_; intro gb521 hg w8 hbox hb; have BK521 := Aside0.mk (hbox); have GW521 := zge hg (below_size (zh HB)); have GE521 := zge hg (below_size (zh HB)); replace HB := Aside0.mk (below_step (zh HB) hb); clear hb hbox hg) | ((with_reducible refine gate_dst (N := 3) rfl ?_); refine box_event (by rfl) (N := 3) (by rfl) (cs := #[.string a1_0, .slice A1_1 l1_1.length c1_1, .slice A1_2 l1_2.length c1_2]) (t := 66) zgs ?_; intro gb522 hg w9 hbox hb; have BK522 := Aside0.mk (hbox); have GW522 := zge hg (below_size (zg HB)); have GE522 := zge hg (below_size (zg HB)); replace HB := Aside0.mk (below_step (zg HB) hb); have NB521_522 := znl hg (blk_lt (zb BK521)); have NB522_521 := zng hg (blk_lt (zb BK521)); replace BK521 := Aside0.mk (blk_below (zb BK521) hb); clear hb hbox hg; have hnb10 := NB521_522.out; have hnc10 := NB522_521.out; obtain ⟨⟨hcz11_0, hcz11_1, hcz11_2⟩, hfz11_0, hfz11_1, hfz11_2⟩ := zc3 BK521; obtain ⟨⟨hcz12_0, hcz12_1, hcz12_2⟩, hfz12_0, hfz12_1, hfz12_2⟩ := zc3 BK522) | ((with_reducible refine gate_callee (f := 94) rfl ?_); refine goesL_ (some 14) rfl rfl Try.func94 (by kernel_rfl) rfl #[.slice A0_1 l0_1.length c0_1, .slice A1_1 l1_1.length c1_1] rfl zar ?_; (with_reducible refine (laws_eqStringS.calls k _ _ l0_1 _ _ l1_1 true _ ?side1 ?side2 ?side3 ?side4 A4.out).mono ?_); (case side1 => exact zC (Kd.C_below HR0_1.out HB.out)); (case side2 => exact HC0_1.out); (case side3 => exact zC (Kd.C_below HR1_1.out HB.out)); (case side4 => exact HC1_1.out); rintro e w' ⟨rfl, ⟨nd, rfl⟩⟩; refine ⟨_, rfl, ?_⟩) | ((with_reducible refine gate_callee (f := 95) rfl ?_); refine goesL_ (some 20) rfl rfl Try.func95 (by kernel_rfl) rfl #[.slice A0_2 l0_2.length c0_2, .slice A1_2 l1_2.length c1_2] rfl zar ?_; (with_reducible refine (laws_eqIntS.calls k _ _ l0_2 _ _ l1_2 true _ ?side1 ?side2 ?side3 ?side4 A6.out).mono ?_); (case side1 => exact zC (Kd.C_below HR0_2.out (zg HB))); (case side2 => exact HC0_2.out); (case side3 => exact zC (Kd.C_below HR1_2.out (zg HB))); (case side4 => exact HC1_2.out); rintro e w' ⟨rfl, ⟨nd, rfl⟩⟩; refine ⟨_, rfl, ?_⟩))
  go_ret
  exact ⟨zre, zg HB⟩
 replace c7 := Bool.eq_false_iff.mpr c7
 subst c7
 rw [if_neg (show ¬ (false = true) by decide)] at H
 obtain rfl := Option.some.inj H
 go_enter Try.func66, Try.ntmps66
 go_wp2_with (first | ((with_reducible refine gate_dst (N := 2) rfl ?_); refine box_event (by rfl) (N := 2) (by rfl) (cs := #[.string a0_0, .slice A0_1 l0_1.length c0_1, .slice A0_2 l0_2.length c0_2]) (t := 66) zgs ?_; intro gb521 hg w13 hbox hb; have BK521 := Aside0.mk (hbox); have GW521 := zge hg (below_size (zh HB)); have GE521 := zge hg (below_size (zh HB)); replace HB := Aside0.mk (below_step (zh HB) hb); clear hb hbox hg) | ((with_reducible refine gate_dst (N := 3) rfl ?_); refine box_event (by rfl) (N := 3) (by rfl) (cs := #[.string a1_0, .slice A1_1 l1_1.length c1_1, .slice A1_2 l1_2.length c1_2]) (t := 66) zgs ?_; intro gb522 hg w14 hbox hb; have BK522 := Aside0.mk (hbox); have GW522 := zge hg (below_size (zg HB)); have GE522 := zge hg (below_size (zg HB)); replace HB := Aside0.mk (below_step (zg HB) hb); have NB521_522 := znl hg (blk_lt (zb BK521)); have NB522_521 := zng hg (blk_lt (zb BK521)); replace BK521 := Aside0.mk (blk_below (zb BK521) hb); clear hb hbox hg; have hnb15 := NB521_522.out; have hnc15 := NB522_521.out; obtain ⟨⟨hcz16_0, hcz16_1, hcz16_2⟩, hfz16_0, hfz16_1, hfz16_2⟩ := zc3 BK521; obtain ⟨⟨hcz17_0, hcz17_1, hcz17_2⟩, hfz17_0, hfz17_1, hfz17_2⟩ := zc3 BK522) | ((with_reducible refine gate_callee (f := 94) rfl ?_); refine goesL_ (some 14) rfl rfl Try.func94 (by kernel_rfl) rfl #[.slice A0_1 l0_1.length c0_1, .slice A1_1 l1_1.length c1_1] rfl zar ?_; (with_reducible refine (laws_eqStringS.calls k _ _ l0_1 _ _ l1_1 true _ ?side1 ?side2 ?side3 ?side4 A4.out).mono ?_); (case side1 => exact zC (Kd.C_below HR0_1.out HB.out)); (case side2 => exact HC0_1.out); (case side3 => exact zC (Kd.C_below HR1_1.out HB.out)); (case side4 => exact HC1_1.out); rintro e w' ⟨rfl, ⟨nd, rfl⟩⟩; refine ⟨_, rfl, ?_⟩) | ((with_reducible refine gate_callee (f := 95) rfl ?_); refine goesL_ (some 20) rfl rfl Try.func95 (by kernel_rfl) rfl #[.slice A0_2 l0_2.length c0_2, .slice A1_2 l1_2.length c1_2] rfl zar ?_; (with_reducible refine (laws_eqIntS.calls k _ _ l0_2 _ _ l1_2 false _ ?side1 ?side2 ?side3 ?side4 A6.out).mono ?_); (case side1 => exact zC (Kd.C_below HR0_2.out (zg HB))); (case side2 => exact HC0_2.out); (case side3 => exact zC (Kd.C_below HR1_2.out (zg HB))); (case side4 => exact HC1_2.out); rintro e w' ⟨rfl, ⟨nd, rfl⟩⟩; refine ⟨_, rfl, ?_⟩))
 go_ret
 exact ⟨zre, zg HB⟩
end Go.Proofs.Ytnpdmleglcbobaa.XFnExactReadLog
