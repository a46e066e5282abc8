-- A printed text of this session (wip/x/xprint.py).
import Derived.Test.YtnpdmleglcbobaaXFnExactReadLogx0
import Derived.Test.YtnpdmleglcbobaaXFnExactReadLogx1
import Derived.Test.YtnpdmleglcbobaaXFnExactReadLogx4
import Derived.Test.YtnpdmleglcbobaaXFnExactReadLogx7
namespace Go.Proofs.Ytnpdmleglcbobaa.XFnExactReadLog
open Go.RowKit Go.Proofs.YtnpdmleglcbobaaW.PrintWords Go.Proofs.YtnpdmleglcbobaaW.PrintLast Go.Proofs.YtnpdmleglcbobaaW.PrintMore
attribute [local go_sem] max2_int min2_int max_two min_two max_three min_three max_four min_four   -- for this text's walks alone
set_option linter.unusedVariables false
set_option linter.unusedSimpArgs false

/-! ### impl_oRecord: function 58 -/
mutual
def impl_oRecord.j0 : Nat → List Int → Int → Int → Bool → Option (Int × Int × ByteArray × ByteArray × (List (S66)) × Int)
 | 0, _, _, _, _ => none
 | k + 1, x0, x4, x5, x34 => if x34 = true then (some (0, 0, (⟨#[]⟩ : ByteArray), (⟨#[]⟩ : ByteArray), ([] : List (S66)), 0)) else (if 0 ≤ x5 then (if x5 ≤ (wrap64 (x5 + x4)) then (if (wrap64 (x5 + x4)) ≤ (x0.length : Int) then (if 0 < (((x0.take ((wrap64 (x5 + x4)) : Int).toNat).drop (x5 : Int).toNat).length : Int) then ((impl_GetInt.f k ((x0.take ((wrap64 (x5 + x4)) : Int).toNat).drop (x5 : Int).toNat) 1).bind fun bt259 => (if bt259.2.2 = 0 then (if (wrap64 (rd ((x0.take ((wrap64 (x5 + x4)) : Int).toNat).drop (x5 : Int).toNat) 0)) = 1 then (if 0 ≤ bt259.2.1 then (if bt259.2.1 ≤ (((x0.take ((wrap64 (x5 + x4)) : Int).toNat).drop (x5 : Int).toNat).length : Int) then ((impl_ReadDoc.f k (((x0.take ((wrap64 (x5 + x4)) : Int).toNat).drop (x5 : Int).toNat).drop (bt259.2.1 : Int).toNat)).bind fun bt263 => (if bt263.2.2 = 0 then (impl_oRecord.j1 k x0 (wrap64 (rd ((x0.take ((wrap64 (x5 + x4)) : Int).toNat).drop (x5 : Int).toNat) 0)) bt259.1 (⟨#[]⟩ : ByteArray) bt263.1 bt263.2.1) else (some (0, 0, (⟨#[]⟩ : ByteArray), (⟨#[]⟩ : ByteArray), ([] : List (S66)), 0)))) else (none)) else (none)) else (if (wrap64 (rd ((x0.take ((wrap64 (x5 + x4)) : Int).toNat).drop (x5 : Int).toNat) 0)) = 2 then (if 0 ≤ bt259.2.1 then (if bt259.2.1 ≤ (((x0.take ((wrap64 (x5 + x4)) : Int).toNat).drop (x5 : Int).toNat).length : Int) then (impl_oRecord.j1 k x0 (wrap64 (rd ((x0.take ((wrap64 (x5 + x4)) : Int).toNat).drop (x5 : Int).toNat) 0)) bt259.1 (strOfNums (((x0.take ((wrap64 (x5 + x4)) : Int).toNat).drop (x5 : Int).toNat).drop (bt259.2.1 : Int).toNat)) (⟨#[]⟩ : ByteArray) ([] : List (S66))) else (none)) else (none)) else (impl_oRecord.j1 k x0 (wrap64 (rd ((x0.take ((wrap64 (x5 + x4)) : Int).toNat).drop (x5 : Int).toNat) 0)) bt259.1 (⟨#[]⟩ : ByteArray) (⟨#[]⟩ : ByteArray) ([] : List (S66))))) else (some (0, 0, (⟨#[]⟩ : ByteArray), (⟨#[]⟩ : ByteArray), ([] : List (S66)), 0)))) else (none)) else (none)) else (none)) else (none))
def impl_oRecord.j1 : Nat → List Int → Int → Int → ByteArray → ByteArray → List (S66) → Option (Int × Int × ByteArray × ByteArray × (List (S66)) × Int)
 | 0, _, _, _, _, _, _ => none
 | k + 1, x0, x258000, x258001, x258002, x258003, x258004 => (impl_RecordBytes.f k x258000 x258001 x258002 x258003 x258004).bind fun bt270 => (if bt270.2 = 0 then (if (bt270.1.length : Int) > (x0.length : Int) then (some (0, 0, (⟨#[]⟩ : ByteArray), (⟨#[]⟩ : ByteArray), ([] : List (S66)), 0)) else (if 0 ≤ (bt270.1.length : Int) then (if (bt270.1.length : Int) ≤ (x0.length : Int) then ((bytes_Equal.f bt270.1 (x0.take ((bt270.1.length : Int) : Int).toNat)).bind fun t275 => (if t275 = true then (some (x258000, x258001, x258002, x258003, x258004, (bt270.1.length : Int))) else (some (0, 0, (⟨#[]⟩ : ByteArray), (⟨#[]⟩ : ByteArray), ([] : List (S66)), 0)))) else (none)) else (none))) else (some (0, 0, (⟨#[]⟩ : ByteArray), (⟨#[]⟩ : ByteArray), ([] : List (S66)), 0)))
end
def impl_oRecord.f (k : Nat) (l0 : List Int) : Option (Int × Int × ByteArray × ByteArray × (List (S66)) × Int) := (impl_GetInt.f k l0 0).bind fun bt253 => (if bt253.2.2 = 0 then (if bt253.1 < 2 then (impl_oRecord.j0 k l0 bt253.1 bt253.2.1 true) else (impl_oRecord.j0 k l0 bt253.1 bt253.2.1 (decide (bt253.1 > (wrap64 ((wrap64 ((l0.length : Int) - bt253.2.1)) - 4)))))) else (impl_oRecord.j0 k l0 bt253.1 bt253.2.1 true))
theorem impl_oRecord.mono_l : ∀ k, (∀ y0 y1 y2 y3, LeO (impl_oRecord.j0 k y0 y1 y2 y3) (impl_oRecord.j0 (k + 1) y0 y1 y2 y3)) ∧ (∀ y0 y1 y2 y3 y4 y5, LeO (impl_oRecord.j1 k y0 y1 y2 y3 y4 y5) (impl_oRecord.j1 (k + 1) y0 y1 y2 y3 y4 y5))
 | 0 => ⟨fun _ _ _ _ r h => by simp [impl_oRecord.j0] at h, fun _ _ _ _ _ _ r h => by simp [impl_oRecord.j1] at h⟩
 | k + 1 => by
  obtain ⟨ih0, ih1⟩ := impl_oRecord.mono_l k
  refine ⟨?_, ?_⟩
  all_goals intros
  all_goals first | unfold impl_oRecord.j0 | unfold impl_oRecord.j1
  all_goals
   repeat' first
   | (with_reducible exact ih0 _ _ _ _)
   | (with_reducible exact ih1 _ _ _ _ _ _)
   | (with_reducible exact impl_GetInt.mono _ _ _)
   | (with_reducible exact impl_ReadDoc.mono _ _)
   | (with_reducible exact impl_RecordBytes.mono _ _ _ _ _ _)
   | (with_reducible exact LeO.refl _)
   | (with_reducible exact LeO.none _)
   | (with_reducible refine LeO.ite ?_ ?_)
   | (with_reducible refine LeO.bind ?_ (fun _ => ?_))
theorem impl_oRecord.mono : ∀ a0 k, LeO (impl_oRecord.f k a0) (impl_oRecord.f (k + 1) a0) := by
 intro a0 k
 obtain ⟨ih0, ih1⟩ := impl_oRecord.mono_l k
 unfold impl_oRecord.f
 repeat' first
  | (with_reducible exact ih0 _ _ _ _)
  | (with_reducible exact ih1 _ _ _ _ _ _)
  | (with_reducible exact impl_GetInt.mono _ _ _)
  | (with_reducible exact impl_ReadDoc.mono _ _)
  | (with_reducible exact impl_RecordBytes.mono _ _ _ _ _ _)
  | (with_reducible exact LeO.refl _)
  | (with_reducible exact LeO.none _)
  | (with_reducible refine LeO.ite ?_ ?_)
  | (with_reducible refine LeO.bind ?_ (fun _ => ?_))
set_option maxHeartbeats 8000000 in
set_option maxRecDepth 100000 in
theorem impl_oRecord.calls (k : Nat) (A0 : Option Addr) (c0 : Nat) (l0 : List Int) (r1 : Int) (r2 : Int) (r3 : ByteArray) (r4 : ByteArray) (r5 : List (S66)) (r6 : Int) (w : World) (hr0 : Kd.C (Kd.int .u8) w A0 l0.length l0) (hc0 : l0.length ≤ c0) (h : impl_oRecord.f k l0 = some (r1, r2, r3, r4, r5, r6)) :
 Calls Try.prog 58 #[.slice A0 l0.length c0] w fun e w' => ∃ v4_ : Value, e = .returned (.tuple #[.agg #[.int .i64 r1, .int .i64 r2, .string r3, .string r4, v4_], .int .i64 r6]) ∧ Kd.S k66 66 w' w.heap.size (fun _ => True) v4_ r5 ∧ Below w.heap.size w w' := by
 have hu47 := Try.underlying47
 have hu31 := Try.underlying31
 have HR0 := Aside0.mk hr0
 have HC0 := Aside0.mk hc0
 clear hr0 hc0
 have HB := Aside0.mk (Below.refl w.heap.size w)
 have H := h
 unfold impl_oRecord.f at H
 clear h
 replace H := Option.bind_eq_some_iff.mp H
 obtain ⟨⟨t253, t254, t255⟩, A20, H⟩ := H
 try dsimp only at H
 have A2 := Aside0.mk A20
 clear A20
 have HC3 := Aside0.mk H
 clear H
 go_enter Try.func58, Try.ntmps58
 go_upto_region 2 with (first | ((with_reducible refine gate_dst (N := 2) rfl ?_); (try (refine gate_guard (by rfl) ?_; dsimp only)); refine box_event (by rfl) (N := 2) (by rfl) (cs := #[.int .i64 0, .int .i64 0, .string (⟨#[]⟩ : ByteArray), .string (⟨#[]⟩ : ByteArray), .slice none 0 0]) (t := 47) zgs ?_; intro gb252 hg w4 hbox hb; have BK252 := Aside0.mk (hbox); have GW252 := zge hg (below_size (zh HB)); have GE252 := zge hg (below_size (zh HB)); replace HB := Aside0.mk (below_step (zh HB) hb); clear hb hbox hg) | ((with_reducible refine gate_callee (f := 87) rfl ?_); refine goesL_ (some 16) rfl rfl Try.func87 (by kernel_rfl) rfl #[.slice A0 l0.length c0, .int .i64 0] rfl zar ?_; (with_reducible refine (impl_GetInt.calls k _ _ l0 0 t253 t254 t255 _ ?side1 ?side2 A2.out).mono ?_); (case side1 => exact zC (Kd.C_below HR0.out HB.out)); (case side2 => exact HC0.out); rintro e w' ⟨rfl, ⟨nd, rfl⟩⟩; refine ⟨_, rfl, ?_⟩))
 (try simp only [Act.put, List.setIfInBounds_toArray, List.set_cons_zero, List.set_cons_succ])
 go_cut [34] (fun v34 wc => ∃ (kq : Nat) (x34_2 : Bool), v34 = .bool x34_2 ∧ Aside0 (impl_oRecord.j0 kq l0 t253 t254 x34_2 = some (r1, r2, r3, r4, r5, r6)) ∧ Aside0 (kq ≤ k) ∧ Aside0 (wc.heap[gb252]? = some (.cells #[.int .i64 0, .int .i64 0, .string (⟨#[]⟩ : ByteArray), .string (⟨#[]⟩ : ByteArray), (.slice none 0 0)] 47 (0, 0))) ∧ Aside0 (Below w.heap.size w wc))
 case first =>
  have H := HC3.out
  clear HC3
  by_cases c5 : t255 = 0
  rotate_left
  ·rw [if_neg c5] at H
   have c5b0 : (t255 == 0) = false := beq_eq_false_iff_ne.mpr c5
   have c5b1 : (t255 != 0) = true := bne_iff_ne.mpr c5
   (first | rw [c5b0] | (simp only [i64_w, i32_w]; rw [c5b0]) | skip)
   have H' := Aside0.mk H
   clear H
   go_wp2
   go_meet
   case rel => exact ⟨_, (true), zrs, H', ⟨by first | omega | exact Nat.le_refl _⟩, ⟨zb BK252⟩, ⟨zg HB⟩⟩
  rw [if_pos c5] at H
  have c5b0 : (t255 == 0) = true := beq_iff_eq.mpr c5
  have c5b1 : (t255 != 0) = false := bne_eq_false_iff_eq.mpr c5
  clear c5
  (first | rw [c5b0] | (simp only [i64_w, i32_w]; rw [c5b0]) | skip)
  by_cases c6 : t253 < 2
  ·rw [if_pos c6] at H
   have c6b0 : decide (t253 < 2) = true := decide_eq_true c6
   clear c6
   have H' := Aside0.mk H
   clear H
   go_wp2
   go_meet
   case rel => exact ⟨_, (true), zrs, H', ⟨by first | omega | exact Nat.le_refl _⟩, ⟨zb BK252⟩, ⟨zg HB⟩⟩
  rw [if_neg c6] at H
  have c6b0 : decide (t253 < 2) = false := decide_eq_false c6
  clear c6
  have H' := Aside0.mk H
  clear H
  go_wp2
  go_meet
  case rel => exact ⟨_, (decide (t253 > (wrap64 ((wrap64 ((l0.length : Int) - t254)) - 4)))), zrs, H', ⟨by first | omega | exact Nat.le_refl _⟩, ⟨zb BK252⟩, ⟨zg HB⟩⟩
 case rest =>
  clear HC3
  obtain ⟨kq, x34_2, rfl, HA, HJ2, BK252, HB⟩ := hcut
  cases kq with
  | zero => exact absurd HA.out (by simp [impl_oRecord.j0])
  | succ kj2 =>
   have H := HA.out
   clear HA
   simp only [impl_oRecord.j0] at H
   by_cases c7 : x34_2 = true
   ·subst c7
    rw [if_pos rfl] at H
    simp only [Option.some.injEq, Prod.mk.injEq] at H
    obtain ⟨rfl, rfl, rfl, rfl, rfl, rfl⟩ := H
    obtain ⟨⟨hcz8_0, hcz8_1, hcz8_2, hcz8_3, hcz8_4⟩, hfz8_0, hfz8_1, hfz8_2, hfz8_3, hfz8_4⟩ := zc5 BK252
    go_wp2
    refine bodyPost_ret (results_ct rfl _ _ gb252 47 #[.int .i64 0, .int .i64 0, .string (⟨#[]⟩ : ByteArray), .string (⟨#[]⟩ : ByteArray), .slice none 0 0] (0, 0) _ rfl (zp BK252) Try.underlying47 rfl (by kernel_rfl)) rfl ?_
    exact ⟨_, zre, by first | exact Kd.S_nil _ _ _ _ _ | exact Kd.N_nil _ _ _ _ _ | exact Kd.V_nil _ _ _ _ _ | exact Kd.Q_nil _ _ _ _ _ | exact Kd.R_nil _ _ _ _ _, zg HB⟩
   replace c7 := Bool.eq_false_iff.mpr c7
   subst c7
   rw [if_neg (show ¬ (false = true) by decide)] at H
   by_cases c9 : 0 ≤ t254
   rotate_left
   ·rw [if_neg c9] at H
    exact absurd H (by simp)

   rw [if_pos c9] at H
   have c9b0 := eq_true c9
   have c9b1 : decide (0 ≤ t254) = true := decide_eq_true c9
   clear c9
   by_cases c10 : t254 ≤ (wrap64 (t254 + t253))
   rotate_left
   ·rw [if_neg c10] at H
    exact absurd H (by simp)
   rw [if_pos c10] at H
   have c10b0 := eq_true c10
   have c10b1 : decide (t254 ≤ (wrap64 (t254 + t253))) = true := decide_eq_true c10
   by_cases c11 : (wrap64 (t254 + t253)) ≤ (l0.length : Int)
   rotate_left
   ·rw [if_neg c11] at H
    exact absurd H (by simp)
   rw [if_pos c11] at H
   have c11b0 := eq_true c11
   have c11b1 : decide ((wrap64 (t254 + t253)) ≤ (l0.length : Int)) = true := decide_eq_true c11
   obtain ⟨lcu1_, hlcu1_⟩ : ∃ lc_ : List Int, lc_ = ((l0.take ((wrap64 (t254 + t253)) : Int).toNat).drop (t254 : Int).toNat) := ⟨_, rfl⟩
   rw [← hlcu1_] at H; replace hlcu1_ := Aside0.mk hlcu1_
   by_cases c12 : 0 < (lcu1_.length : Int)
   rotate_left
   ·rw [if_neg c12] at H
    exact absurd H (by simp)
   rw [if_pos c12] at H
   have c12b0 : decide (0 < (lcu1_.length : Int)) = true := decide_eq_true c12
   have c12b1 : decide (0 < lcu1_.length) = true := decide_eq_true (by omega)
   clear c12
   replace H := Option.bind_eq_some_iff.mp H
   obtain ⟨⟨t259, t260, t261⟩, A130, H⟩ := H
   try dsimp only at H
   have A13 := Aside0.mk A130
   clear A130
   by_cases c14 : t261 = 0
   rotate_left
   ·rw [if_neg c14] at H
    have c14b0 : (t261 == 0) = false := beq_eq_false_iff_ne.mpr c14
    have c14b1 : (t261 != 0) = true := bne_iff_ne.mpr c14
    simp only [Option.some.injEq, Prod.mk.injEq] at H
    obtain ⟨rfl, rfl, rfl, rfl, rfl, rfl⟩ := H
    obtain ⟨i089, hi089, _, hsz89, _⟩ := info_parts info5
    obtain ⟨A89, hcut89, hA89, hC89⟩ := print_mid_of (P := Try.prog) (Value.int .u8) 0 26 5 .i64 .i64 Try.underlying26 hi089 hsz89 A0 c0 l0 t254 (wrap64 (t254 + t253)) (of_decide_eq_true zas) (by first | omega | exact of_decide_eq_true zas) (of_decide_eq_true zas) HC0.out
    (try simp only [← hlcu1_.out] at hcut89 hA89 hC89)
    have HR256 := Aside0.mk (Kd.C_of_reads (h1 := fun _ => rfl) (hA89 _ (Kd.reads_of_C HR0.out)))
    have HC256 := Aside0.mk hC89
    clear hA89 hC89 hi089 hsz89
    go_wp2_with (first | ((with_reducible refine gate_dst (N := 8) rfl ?_); (try (refine gate_guard (by rfl) ?_; dsimp only)); refine box_event (by rfl) (N := 8) (by rfl) (cs := #[.int .i64 0, .int .i64 0, .string (⟨#[]⟩ : ByteArray), .string (⟨#[]⟩ : ByteArray), .slice none 0 0]) (t := 47) zgs ?_; intro gb257 hg w90 hbox hb; have BK257 := Aside0.mk (hbox); have GW257 := zge hg (below_size (zg HB)); have GE257 := zge hg (below_size (zg HB)); replace HB := Aside0.mk (below_step (zg HB) hb); have NB252_257 := znl hg (blk_lt (zb BK252)); have NB257_252 := zng hg (blk_lt (zb BK252)); replace BK252 := Aside0.mk (blk_below (zb BK252) hb); clear hb hbox hg; have p258 : 0 ≤ (0 : Int) := (by omega); have q258 : 0 < (lcu1_.length : Int) := of_decide_eq_true zas; obtain ⟨ad258, e258, hx258_0⟩ := Kd.at_int HR256.out 0 p258 q258; cases e258; have qi258 : (0 < lcu1_.length) = True := eq_true (by omega); (try rw [show ((0 : Int)).toNat = 0 from rfl] at hx258_0); (try rw [Addr.add_zero'] at hx258_0); replace hx258_0 := zx HB hx258_0; replace p258 := eq_true p258; replace q258 := eq_true q258; have hnb91 := NB257_252.out; have hnc91 := NB252_257.out; obtain ⟨⟨hcz92_0, hcz92_1, hcz92_2, hcz92_3, hcz92_4⟩, hfz92_0, hfz92_1, hfz92_2, hfz92_3, hfz92_4⟩ := zc5 BK257) | ((with_reducible refine gate_callee (f := 87) rfl ?_); refine goesL_ (some 49) rfl rfl Try.func87 (by kernel_rfl) rfl #[.slice (some ad258) lcu1_.length (c0 - t254.toNat), .int .i64 1] rfl (by (try simp only [List.map_toArray, List.map_cons, List.map_nil]); first | done | (rw [show lcu1_.length = ((wrap64 (t254 + t253)).toNat - t254.toNat) from (by rw [List.length_drop, List.length_take]; have h_ : ((wrap64 (t254 + t253)) : Int) ≤ (l0.length : Int) := of_decide_eq_true zas; omega)] <;> rfl) | rfl | (simp only [List.length_drop, List.length_take]; rfl)) ?_; (with_reducible refine (impl_GetInt.calls kj2 _ _ lcu1_ 1 t259 t260 t261 _ ?side1 ?side2 A13.out).mono ?_); (case side1 => exact Kd.C_below HR256.out (zg HB)); (case side2 => exact HC256.out); rintro e w' ⟨rfl, ⟨nd, rfl⟩⟩; refine ⟨_, rfl, ?_⟩; obtain ⟨⟨hcz93_0, hcz93_1, hcz93_2, hcz93_3, hcz93_4⟩, hfz93_0, hfz93_1, hfz93_2, hfz93_3, hfz93_4⟩ := zc5 BK252))
    refine bodyPost_ret (results_ct rfl _ _ gb252 47 #[.int .i64 0, .int .i64 0, .string (⟨#[]⟩ : ByteArray), .string (⟨#[]⟩ : ByteArray), .slice none 0 0] (0, 0) _ rfl (zp BK252) Try.underlying47 rfl (by kernel_rfl)) rfl ?_
    exact ⟨_, zre, by first | exact Kd.S_nil _ _ _ _ _ | exact Kd.N_nil _ _ _ _ _ | exact Kd.V_nil _ _ _ _ _ | exact Kd.Q_nil _ _ _ _ _ | exact Kd.R_nil _ _ _ _ _, zg HB⟩
   rw [if_pos c14] at H
   have c14b0 : (t261 == 0) = true := beq_iff_eq.mpr c14
   have c14b1 : (t261 != 0) = false := bne_eq_false_iff_eq.mpr c14
   clear c14
   have HC15 := Aside0.mk H
   clear H
   obtain ⟨i016, hi016, _, hsz16, _⟩ := info_parts info5
   obtain ⟨A16, hcut16, hA16, hC16⟩ := print_mid_of (P := Try.prog) (Value.int .u8) 0 26 5 .i64 .i64 Try.underlying26 hi016 hsz16 A0 c0 l0 t254 (wrap64 (t254 + t253)) (of_decide_eq_true zas) (by first | omega | exact of_decide_eq_true zas) (of_decide_eq_true zas) HC0.out
   (try simp only [← hlcu1_.out] at hcut16 hA16 hC16)
   have HR256 := Aside0.mk (Kd.C_of_reads (h1 := fun _ => rfl) (hA16 _ (Kd.reads_of_C HR0.out)))
   have HC256 := Aside0.mk hC16
   clear hA16 hC16 hi016 hsz16
   go_upto_block 0 with (first | ((with_reducible refine gate_dst (N := 8) rfl ?_); (try (refine gate_guard (by rfl) ?_; dsimp only)); refine box_event (by rfl) (N := 8) (by rfl) (cs := #[.int .i64 0, .int .i64 0, .string (⟨#[]⟩ : ByteArray), .string (⟨#[]⟩ : ByteArray), .slice none 0 0]) (t := 47) zgs ?_; intro gb257 hg w17 hbox hb; have BK257 := Aside0.mk (hbox); have GW257 := zge hg (below_size (zg HB)); have GE257 := zge hg (below_size (zg HB)); replace HB := Aside0.mk (below_step (zg HB) hb); have NB252_257 := znl hg (blk_lt (zb BK252)); have NB257_252 := zng hg (blk_lt (zb BK252)); replace BK252 := Aside0.mk (blk_below (zb BK252) hb); clear hb hbox hg; have p258 : 0 ≤ (0 : Int) := (by omega); have q258 : 0 < (lcu1_.length : Int) := of_decide_eq_true zas; obtain ⟨ad258, e258, hx258_0⟩ := Kd.at_int HR256.out 0 p258 q258; cases e258; have qi258 : (0 < lcu1_.length) = True := eq_true (by omega); (try rw [show ((0 : Int)).toNat = 0 from rfl] at hx258_0); (try rw [Addr.add_zero'] at hx258_0); replace hx258_0 := zx HB hx258_0; replace p258 := eq_true p258; replace q258 := eq_true q258; have hnb18 := NB257_252.out; have hnc18 := NB252_257.out; obtain ⟨⟨hcz19_0, hcz19_1, hcz19_2, hcz19_3, hcz19_4⟩, hfz19_0, hfz19_1, hfz19_2, hfz19_3, hfz19_4⟩ := zc5 BK257) | ((with_reducible refine gate_callee (f := 87) rfl ?_); refine goesL_ (some 49) rfl rfl Try.func87 (by kernel_rfl) rfl #[.slice (some ad258) lcu1_.length (c0 - t254.toNat), .int .i64 1] rfl (by (try simp only [List.map_toArray, List.map_cons, List.map_nil]); first | done | (rw [show lcu1_.length = ((wrap64 (t254 + t253)).toNat - t254.toNat) from (by rw [List.length_drop, List.length_take]; have h_ : ((wrap64 (t254 + t253)) : Int) ≤ (l0.length : Int) := of_decide_eq_true zas; omega)] <;> rfl) | rfl | (simp only [List.length_drop, List.length_take]; rfl)) ?_; (with_reducible refine (impl_GetInt.calls kj2 _ _ lcu1_ 1 t259 t260 t261 _ ?side1 ?side2 A13.out).mono ?_); (case side1 => exact Kd.C_below HR256.out (zg HB)); (case side2 => exact HC256.out); rintro e w' ⟨rfl, ⟨nd, rfl⟩⟩; refine ⟨_, rfl, ?_⟩))
   (try simp only [Act.put, List.setIfInBounds_toArray, List.set_cons_zero, List.set_cons_succ])
   go_cut [] (fun wc => ∃ (kq : Nat) (x253000_14 : Int) (x253001_14 : Int) (x253002_14 : ByteArray) (x253003_14 : ByteArray) (x258002_14 : ByteArray) (x258003_14 : ByteArray) (x258004_14 : List (S66)) (u258004 : Value), Aside0 (impl_oRecord.j1 kq l0 (wrap64 (rd lcu1_ 0)) t259 x258002_14 x258003_14 x258004_14 = some (r1, r2, r3, r4, r5, r6)) ∧ Aside0 (kq ≤ kj2) ∧ Aside0 (Kd.S k66 66 wc w.heap.size (fun _ => True) u258004 x258004_14) ∧ Aside0 (wc.heap[gb252]? = some (.cells #[.int .i64 x253000_14, .int .i64 x253001_14, .string x253002_14, .string x253003_14, (.slice none 0 0)] 47 (0, 0))) ∧ Aside0 (wc.heap[gb257]? = some (.cells #[.int .i64 (wrap64 (rd lcu1_ 0)), .int .i64 t259, .string x258002_14, .string x258003_14, u258004] 47 (0, 0))) ∧ Aside0 (Below w.heap.size w wc))
   case first =>
    have H := HC15.out
    clear HC15
    by_cases c20 : (wrap64 (rd lcu1_ 0)) = 1
    rotate_left
    ·rw [if_neg c20] at H
     have c20b0 : ((wrap64 (rd lcu1_ 0)) == 1) = false := beq_eq_false_iff_ne.mpr c20
     have c20b1 : ((wrap64 (rd lcu1_ 0)) != 1) = true := bne_iff_ne.mpr c20
     (first | rw [c20b0] | (simp only [i64_w, i32_w]; rw [c20b0]) | skip)
     by_cases c45 : (wrap64 (rd lcu1_ 0)) = 2
     rotate_left
     ·rw [if_neg c45] at H
      have c45b0 : ((wrap64 (rd lcu1_ 0)) == 2) = false := beq_eq_false_iff_ne.mpr c45
      have c45b1 : ((wrap64 (rd lcu1_ 0)) != 2) = true := bne_iff_ne.mpr c45
      have H' := Aside0.mk H
      clear H
      go_wp2
      go_meet
      case rel => exact ⟨_, (0), (0), ((⟨#[]⟩ : ByteArray)), ((⟨#[]⟩ : ByteArray)), ((⟨#[]⟩ : ByteArray)), ((⟨#[]⟩ : ByteArray)), (([] : List (S66))), (.slice none 0 0), H', ⟨by have := HJ2.out; first | omega | exact Nat.le_refl _⟩, ⟨by first | exact Kd.S_nil _ _ _ _ _ | exact Kd.N_nil _ _ _ _ _ | exact Kd.V_nil _ _ _ _ _ | exact Kd.Q_nil _ _ _ _ _ | exact Kd.R_nil _ _ _ _ _⟩, ⟨zp BK252⟩, ⟨zp BK257⟩, ⟨zg HB⟩⟩
     rw [if_pos c45] at H
     have c45b0 : ((wrap64 (rd lcu1_ 0)) == 2) = true := beq_iff_eq.mpr c45
     have c45b1 : ((wrap64 (rd lcu1_ 0)) != 2) = false := bne_eq_false_iff_eq.mpr c45
     clear c45
     by_cases c46 : 0 ≤ t260
     rotate_left
     ·rw [if_neg c46] at H
      exact absurd H (by simp)
     rw [if_pos c46] at H
     have c46b0 := eq_true c46
     have c46b1 : decide (0 ≤ t260) = true := decide_eq_true c46
     clear c46
     by_cases c47 : t260 ≤ (lcu1_.length : Int)
     rotate_left
     ·rw [if_neg c47] at H
      exact absurd H (by simp)
     rw [if_pos c47] at H
     have c47b0 := eq_true c47
     have c47b1 : decide (t260 ≤ (lcu1_.length : Int)) = true := decide_eq_true c47
     have H' := Aside0.mk H
     clear H
     obtain ⟨i048, hi048, _, hsz48, _⟩ := info_parts info5
     obtain ⟨A48, hcut48, hA48, hC48⟩ := print_drop_of (P := Try.prog) (Value.int .u8) 0 26 5 .i64 Try.underlying26 hi048 hsz48 (some ad258) (c0 - t254.toNat) lcu1_ t260 (of_decide_eq_true zas) (of_decide_eq_true zas) HC256.out
     have HR269 := Aside0.mk (Kd.C_of_reads (h1 := fun _ => rfl) (hA48 _ (Kd.reads_of_C HR256.out)))
     have HC269 := Aside0.mk hC48
     clear hA48 hC48 hi048 hsz48
     have hcv49 := Kd.C_string (P := Try.prog) (A := A48) (c := ((c0 - t254.toNat) - t260.toNat)) Try.underlying26 Try.underlying5 Try.underlying9 (Kd.C_below HR269.out HB.out)
     have hcv49l := hcv49; (try simp only [List.length_drop] at hcv49l)
     have hcv49s := fun (o1_ : Nat) (v1_ : Value) => Kd.C_string (P := Try.prog) (A := A48) (c := ((c0 - t254.toNat) - t260.toNat)) Try.underlying26 Try.underlying5 Try.underlying9 (Kd.C_below HR269.out (below_set (g := gb257) (j := o1_) (v := v1_) HB.out GE257.out)); (try simp only [List.length_drop] at hcv49s)
     have hcv49t := fun (o1_ : Nat) (v1_ : Value) (n_ : Nat) (o2_ : Nat) (v2_ : Value) => Kd.C_string (P := Try.prog) (A := A48) (c := ((c0 - t254.toNat) - t260.toNat)) Try.underlying26 Try.underlying5 Try.underlying9 (Kd.C_below HR269.out (below_set (g := gb257) (j := o2_) (v := v2_) (pw_below_drewN (below_set (g := gb257) (j := o1_) (v := v1_) HB.out GE257.out) n_) GE257.out)); (try simp only [List.length_drop] at hcv49t)
     have hnb50 := NB257_252.out
     have hnc50 := NB252_257.out
     obtain ⟨⟨hcz51_0, hcz51_1, hcz51_2, hcz51_3, hcz51_4⟩, hfz51_0, hfz51_1, hfz51_2, hfz51_3, hfz51_4⟩ := zc5 BK257
     go_wp2
     go_meet
     case rel => exact ⟨_, (0), (0), ((⟨#[]⟩ : ByteArray)), ((⟨#[]⟩ : ByteArray)), (strOfNums (lcu1_.drop (t260 : Int).toNat)), ((⟨#[]⟩ : ByteArray)), (([] : List (S66))), (.slice none 0 0), H', ⟨by have := HJ2.out; first | omega | exact Nat.le_refl _⟩, ⟨by first | exact Kd.S_nil _ _ _ _ _ | exact Kd.N_nil _ _ _ _ _ | exact Kd.V_nil _ _ _ _ _ | exact Kd.Q_nil _ _ _ _ _ | exact Kd.R_nil _ _ _ _ _⟩, ⟨zp BK252⟩, ⟨zp BK257⟩, ⟨zg HB⟩⟩
    rw [if_pos c20] at H
    have c20b0 : ((wrap64 (rd lcu1_ 0)) == 1) = true := beq_iff_eq.mpr c20
    have c20b1 : ((wrap64 (rd lcu1_ 0)) != 1) = false := bne_eq_false_iff_eq.mpr c20
    clear c20
    (first | rw [c20b0] | (simp only [i64_w, i32_w]; rw [c20b0]) | skip)
    by_cases c21 : 0 ≤ t260
    rotate_left
    ·rw [if_neg c21] at H
     exact absurd H (by simp)
    rw [if_pos c21] at H
    have c21b0 := eq_true c21
    have c21b1 : decide (0 ≤ t260) = true := decide_eq_true c21
    clear c21
    by_cases c22 : t260 ≤ (lcu1_.length : Int)
    rotate_left
    ·rw [if_neg c22] at H
     exact absurd H (by simp)
    rw [if_pos c22] at H
    have c22b0 := eq_true c22
    have c22b1 : decide (t260 ≤ (lcu1_.length : Int)) = true := decide_eq_true c22
    replace H := Option.bind_eq_some_iff.mp H
    obtain ⟨⟨t263, t264, t267⟩, A230, H⟩ := H
    try dsimp only at H
    have A23 := Aside0.mk A230
    clear A230
    by_cases c24 : t267 = 0
    rotate_left
    ·rw [if_neg c24] at H
     have c24b0 : (t267 == 0) = false := beq_eq_false_iff_ne.mpr c24
     have c24b1 : (t267 != 0) = true := bne_iff_ne.mpr c24
     simp only [Option.some.injEq, Prod.mk.injEq] at H
     obtain ⟨rfl, rfl, rfl, rfl, rfl, rfl⟩ := H
     obtain ⟨i035, hi035, _, hsz35, _⟩ := info_parts info5
     obtain ⟨A35, hcut35, hA35, hC35⟩ := print_drop_of (P := Try.prog) (Value.int .u8) 0 26 5 .i64 Try.underlying26 hi035 hsz35 (some ad258) (c0 - t254.toNat) lcu1_ t260 (of_decide_eq_true zas) (of_decide_eq_true zas) HC256.out
     have HR262 := Aside0.mk (Kd.C_of_reads (h1 := fun _ => rfl) (hA35 _ (Kd.reads_of_C HR256.out)))
     have HC262 := Aside0.mk hC35
     clear hA35 hC35 hi035 hsz35
     go_wp2_with (first | ((with_reducible refine gate_callee (f := 19) rfl ?_); refine goesL_ (some 66) rfl rfl Try.func19 (by kernel_rfl) rfl #[.slice A35 (lcu1_.drop (t260 : Int).toNat).length ((c0 - t254.toNat) - t260.toNat)] rfl (by (try simp only [List.map_toArray, List.map_cons, List.map_nil]); first | done | (rw [show (lcu1_.drop (t260 : Int).toNat).length = (lcu1_.length - t260.toNat) from List.length_drop] <;> rfl) | rfl | (simp only [List.length_drop, List.length_take]; rfl)) ?_; (with_reducible refine (impl_ReadDoc.calls kj2 _ _ (lcu1_.drop (t260 : Int).toNat) t263 t264 t267 _ ?side1 ?side2 A23.out).mono ?_); (case side1 => exact Kd.C_below HR262.out (zg HB)); (case side2 => exact HC262.out); rintro e w36 ⟨v265, rfl, ho0, hb⟩; refine ⟨_, rfl, ?_⟩; have HO266 := Aside0.mk (Kd.S_lower ho0 (below_size (zg HB))); replace BK252 := Aside0.mk (blk_below (g := gb252) (o := .cells #[.int .i64 0, .int .i64 0, .string (⟨#[]⟩ : ByteArray), .string (⟨#[]⟩ : ByteArray), .slice none 0 0] 47 (0, 0)) (zp BK252) hb); replace BK257 := Aside0.mk (blk_below (g := gb257) (o := .cells #[.int .i64 (wrap64 (rd lcu1_ 0)), .int .i64 t259, .string (⟨#[]⟩ : ByteArray), .string (⟨#[]⟩ : ByteArray), .slice none 0 0] 47 (0, 0)) (zp BK257) hb); replace HB := Aside0.mk (below_step (zg HB) hb); (try clear hb ho0); (try clear hb); (try clear hk); (try clear hi)) | ((with_reducible refine gate_dst (N := 11) rfl ?_); (try (refine gate_guard (by rfl) ?_; dsimp only)); refine box_event (by rfl) (N := 11) (by rfl) (cs := #[.string (⟨#[]⟩ : ByteArray), .slice none 0 0]) (t := 31) zgs ?_; intro gb268 hg w38 hbox hb; replace HO266 := Aside0.mk (Kd.S_below (zs HO266) hb); have BK268 := Aside0.mk (hbox); have GW268 := zge hg (below_size (zg HB)); have GE268 := zge hg (below_size (zg HB)); replace HB := Aside0.mk (below_step (zg HB) hb); have NB252_268 := znl hg (blk_lt (zb BK252)); have NB268_252 := zng hg (blk_lt (zb BK252)); replace BK252 := Aside0.mk (blk_below (zb BK252) hb); have NB257_268 := znl hg (blk_lt (zb BK257)); have NB268_257 := zng hg (blk_lt (zb BK257)); replace BK257 := Aside0.mk (blk_below (zb BK257) hb); clear hb hbox hg; have hnb39 := NB268_252.out; have hnc39 := NB252_268.out; have hnb40 := NB268_257.out; have hnc40 := NB257_268.out; obtain ⟨⟨hcz41_0, hcz41_1⟩, hfz41_0, hfz41_1⟩ := zc2 BK268; obtain ⟨Ao42, co42, eo42⟩ := Kd.S_slice HO266.out; subst eo42; have hnb43 := NB252_257.out; have hnc43 := NB257_252.out; obtain ⟨⟨hcz44_0, hcz44_1, hcz44_2, hcz44_3, hcz44_4⟩, hfz44_0, hfz44_1, hfz44_2, hfz44_3, hfz44_4⟩ := zc5 BK252))
     refine bodyPost_ret (results_ct rfl _ _ gb252 47 #[.int .i64 0, .int .i64 0, .string (⟨#[]⟩ : ByteArray), .string (⟨#[]⟩ : ByteArray), .slice none 0 0] (0, 0) _ rfl (zp BK252) Try.underlying47 rfl (by kernel_rfl)) rfl ?_
     exact ⟨_, zre, by first | exact Kd.S_nil _ _ _ _ _ | exact Kd.N_nil _ _ _ _ _ | exact Kd.V_nil _ _ _ _ _ | exact Kd.Q_nil _ _ _ _ _ | exact Kd.R_nil _ _ _ _ _, zg HB⟩
    rw [if_pos c24] at H
    have c24b0 : (t267 == 0) = true := beq_iff_eq.mpr c24
    have c24b1 : (t267 != 0) = false := bne_eq_false_iff_eq.mpr c24
    clear c24
    have H' := Aside0.mk H
    clear H
    obtain ⟨i025, hi025, _, hsz25, _⟩ := info_parts info5
    obtain ⟨A25, hcut25, hA25, hC25⟩ := print_drop_of (P := Try.prog) (Value.int .u8) 0 26 5 .i64 Try.underlying26 hi025 hsz25 (some ad258) (c0 - t254.toNat) lcu1_ t260 (of_decide_eq_true zas) (of_decide_eq_true zas) HC256.out
    have HR262 := Aside0.mk (Kd.C_of_reads (h1 := fun _ => rfl) (hA25 _ (Kd.reads_of_C HR256.out)))
    have HC262 := Aside0.mk hC25
    clear hA25 hC25 hi025 hsz25
    go_wp2_with (first | ((with_reducible refine gate_callee (f := 19) rfl ?_); refine goesL_ (some 66) rfl rfl Try.func19 (by kernel_rfl) rfl #[.slice A25 (lcu1_.drop (t260 : Int).toNat).length ((c0 - t254.toNat) - t260.toNat)] rfl (by (try simp only [List.map_toArray, List.map_cons, List.map_nil]); first | done | (rw [show (lcu1_.drop (t260 : Int).toNat).length = (lcu1_.length - t260.toNat) from List.length_drop] <;> rfl) | rfl | (simp only [List.length_drop, List.length_take]; rfl)) ?_; (with_reducible refine (impl_ReadDoc.calls kj2 _ _ (lcu1_.drop (t260 : Int).toNat) t263 t264 t267 _ ?side1 ?side2 A23.out).mono ?_); (case side1 => exact Kd.C_below HR262.out (zg HB)); (case side2 => exact HC262.out); rintro e w26 ⟨v265, rfl, ho0, hb⟩; refine ⟨_, rfl, ?_⟩; have HO266 := Aside0.mk (Kd.S_lower ho0 (below_size (zg HB))); replace BK252 := Aside0.mk (blk_below (g := gb252) (o := .cells #[.int .i64 0, .int .i64 0, .string (⟨#[]⟩ : ByteArray), .string (⟨#[]⟩ : ByteArray), .slice none 0 0] 47 (0, 0)) (zp BK252) hb); replace BK257 := Aside0.mk (blk_below (g := gb257) (o := .cells #[.int .i64 (wrap64 (rd lcu1_ 0)), .int .i64 t259, .string (⟨#[]⟩ : ByteArray), .string (⟨#[]⟩ : ByteArray), .slice none 0 0] 47 (0, 0)) (zp BK257) hb); replace HB := Aside0.mk (below_step (zg HB) hb); (try clear hb ho0); (try clear hb); (try clear hk); (try clear hi)) | ((with_reducible refine gate_dst (N := 11) rfl ?_); (try (refine gate_guard (by rfl) ?_; dsimp only)); refine box_event (by rfl) (N := 11) (by rfl) (cs := #[.string (⟨#[]⟩ : ByteArray), .slice none 0 0]) (t := 31) zgs ?_; intro gb268 hg w28 hbox hb; replace HO266 := Aside0.mk (Kd.S_below (zs HO266) hb); have BK268 := Aside0.mk (hbox); have GW268 := zge hg (below_size (zg HB)); have GE268 := zge hg (below_size (zg HB)); replace HB := Aside0.mk (below_step (zg HB) hb); have NB252_268 := znl hg (blk_lt (zb BK252)); have NB268_252 := zng hg (blk_lt (zb BK252)); replace BK252 := Aside0.mk (blk_below (zb BK252) hb); have NB257_268 := znl hg (blk_lt (zb BK257)); have NB268_257 := zng hg (blk_lt (zb BK257)); replace BK257 := Aside0.mk (blk_below (zb BK257) hb); clear hb hbox hg; have hnb29 := NB268_252.out; have hnc29 := NB252_268.out; have hnb30 := NB268_257.out; have hnc30 := NB257_268.out; obtain ⟨⟨hcz31_0, hcz31_1⟩, hfz31_0, hfz31_1⟩ := zc2 BK268; obtain ⟨Ao32, co32, eo32⟩ := Kd.S_slice HO266.out; subst eo32; have hnb33 := NB257_252.out; have hnc33 := NB252_257.out; obtain ⟨⟨hcz34_0, hcz34_1, hcz34_2, hcz34_3, hcz34_4⟩, hfz34_0, hfz34_1, hfz34_2, hfz34_3, hfz34_4⟩ := zc5 BK257))
    go_meet
    case rel => exact ⟨_, (0), (0), ((⟨#[]⟩ : ByteArray)), ((⟨#[]⟩ : ByteArray)), ((⟨#[]⟩ : ByteArray)), (t263), (t264), (.slice Ao32 t264.length co32), H', ⟨by have := HJ2.out; first | omega | exact Nat.le_refl _⟩, ⟨by (with_reducible repeat (first | apply Kd.S_alloc | apply Kd.S_drewN | apply Kd.S_drew)); exact Kd.S_mono (Kd.S_far (p := ⟨gb257, 4, none⟩) (Kd.S_far (p := ⟨gb257, 3, none⟩) (Kd.S_far (p := ⟨gb268, 1, none⟩) (Kd.S_far (p := ⟨gb268, 0, none⟩) (Kd.S_types (Kd.S_types HO266.out BK268.out (by decide)) BK257.out (by decide)) (fun _ hk => hk.1.2) (.string t263)) (fun _ hk => hk.1.2) (.slice Ao32 t264.length co32)) (fun _ hk => hk.2) (.string t263)) (fun _ hk => hk.2) (.slice Ao32 t264.length co32)) (fun _ hk => trivial)⟩, ⟨zp BK252⟩, ⟨zp BK257⟩, ⟨zg HB⟩⟩
   case rest =>
    clear HC15
    try clear c7
    try clear c9
    try clear c9b0
    try clear c9b1
    try clear c10
    try clear c10b0
    try clear c10b1
    try clear c11
    try clear c11b0
    try clear c11b1
    try clear c12
    try clear c12b0
    try clear c12b1
    try clear c14
    try clear c14b0
    try clear c14b1
    try clear hcz19_0 hcz19_1 hcz19_2 hcz19_3 hcz19_4
    try clear hfz19_0 hfz19_1 hfz19_2 hfz19_3 hfz19_4
    try clear hx258_0
    try clear p258
    try clear q258
    obtain ⟨kq, x253000_14, x253001_14, x253002_14, x253003_14, x258002_14, x258003_14, x258004_14, u258004, HA, HJ14, HO_258004, BK252, BK257, HB⟩ := hcut
    cases kq with
    | zero => exact absurd HA.out (by simp [impl_oRecord.j1])
    | succ kj14 =>
     have H := HA.out
     clear HA
     simp only [impl_oRecord.j1] at H
     replace H := Option.bind_eq_some_iff.mp H
     obtain ⟨⟨t270, t273⟩, A520, H⟩ := H
     try dsimp only at H
     have A52 := Aside0.mk A520
     clear A520
     by_cases c53 : t273 = 0
     rotate_left
     ·rw [if_neg c53] at H
      have c53b0 : (t273 == 0) = false := beq_eq_false_iff_ne.mpr c53
      have c53b1 : (t273 != 0) = true := bne_iff_ne.mpr c53
      simp only [Option.some.injEq, Prod.mk.injEq] at H
      obtain ⟨rfl, rfl, rfl, rfl, rfl, rfl⟩ := H
      have hnb83 := NB257_252.out
      have hnc83 := NB252_257.out
      obtain ⟨⟨hcz84_0, hcz84_1, hcz84_2, hcz84_3, hcz84_4⟩, hfz84_0, hfz84_1, hfz84_2, hfz84_3, hfz84_4⟩ := zc5 BK257
      obtain ⟨Ao85, co85, eo85⟩ := Kd.S_slice HO_258004.out
      subst eo85
      go_wp2_with (first | ((with_reducible refine gate_callee (f := 24) rfl ?_); refine goesL_ (some 83) rfl rfl Try.func24 (by kernel_rfl) rfl #[.agg #[.int .i64 (wrap64 (rd lcu1_ 0)), .int .i64 t259, .string x258002_14, .string x258003_14, .slice Ao85 x258004_14.length co85]] rfl zar ?_; (with_reducible refine (impl_RecordBytes.calls kj14 (wrap64 (rd lcu1_ 0)) t259 x258002_14 x258003_14 _ _ x258004_14 t270 t273 _ ?side1 ?side2 A52.out).mono ?_); (case side1 => exact zC (Kd.S_reads' HO_258004.out).2.2); (case side2 => exact (Kd.S_reads' HO_258004.out).2.1); rintro e w86 ⟨v271, rfl, ho0, hb⟩; refine ⟨_, rfl, ?_⟩; replace HO_258004 := Aside0.mk (Kd.S_below (zs HO_258004) hb); have HO272 := Aside0.mk (Kd.R_lower ho0 (below_size (zg HB))); replace BK252 := Aside0.mk (blk_below (zb BK252) hb); replace BK257 := Aside0.mk (blk_below (zb BK257) hb); replace HB := Aside0.mk (below_step (zg HB) hb); (try clear hb ho0); (try clear hb); (try clear hk); (try clear hi); obtain ⟨⟨hcz88_0, hcz88_1, hcz88_2, hcz88_3, hcz88_4⟩, hfz88_0, hfz88_1, hfz88_2, hfz88_3, hfz88_4⟩ := zc5 BK252))
      refine bodyPost_ret (results_ct rfl _ _ gb252 47 #[.int .i64 0, .int .i64 0, .string (⟨#[]⟩ : ByteArray), .string (⟨#[]⟩ : ByteArray), .slice none 0 0] (0, 0) _ rfl (zp BK252) Try.underlying47 rfl (by kernel_rfl)) rfl ?_
      exact ⟨_, zre, by first | exact Kd.S_nil _ _ _ _ _ | exact Kd.N_nil _ _ _ _ _ | exact Kd.V_nil _ _ _ _ _ | exact Kd.Q_nil _ _ _ _ _ | exact Kd.R_nil _ _ _ _ _, zg HB⟩
     rw [if_pos c53] at H
     have c53b0 : (t273 == 0) = true := beq_iff_eq.mpr c53
     have c53b1 : (t273 != 0) = false := bne_eq_false_iff_eq.mpr c53
     clear c53
     by_cases c54 : (t270.length : Int) > (l0.length : Int)
     ·rw [if_pos c54] at H
      have c54b0 : decide ((l0.length : Int) < (t270.length : Int)) = true := decide_eq_true c54
      have c54b1 : decide (l0.length < t270.length) = true := decide_eq_true (Int.ofNat_lt.mp c54)
      clear c54
      simp only [Option.some.injEq, Prod.mk.injEq] at H
      obtain ⟨rfl, rfl, rfl, rfl, rfl, rfl⟩ := H
      have hnb55 := NB257_252.out
      have hnc55 := NB252_257.out
      obtain ⟨⟨hcz56_0, hcz56_1, hcz56_2, hcz56_3, hcz56_4⟩, hfz56_0, hfz56_1, hfz56_2, hfz56_3, hfz56_4⟩ := zc5 BK257
      obtain ⟨Ao57, co57, eo57⟩ := Kd.S_slice HO_258004.out
      subst eo57
      go_wp2_with (first | ((with_reducible refine gate_callee (f := 24) rfl ?_); refine goesL_ (some 83) rfl rfl Try.func24 (by kernel_rfl) rfl #[.agg #[.int .i64 (wrap64 (rd lcu1_ 0)), .int .i64 t259, .string x258002_14, .string x258003_14, .slice Ao57 x258004_14.length co57]] rfl zar ?_; (with_reducible refine (impl_RecordBytes.calls kj14 (wrap64 (rd lcu1_ 0)) t259 x258002_14 x258003_14 _ _ x258004_14 t270 t273 _ ?side1 ?side2 A52.out).mono ?_); (case side1 => exact zC (Kd.S_reads' HO_258004.out).2.2); (case side2 => exact (Kd.S_reads' HO_258004.out).2.1); rintro e w58 ⟨v271, rfl, ho0, hb⟩; refine ⟨_, rfl, ?_⟩; replace HO_258004 := Aside0.mk (Kd.S_below (zs HO_258004) hb); have HO272 := Aside0.mk (Kd.R_lower ho0 (below_size (zg HB))); replace BK252 := Aside0.mk (blk_below (zb BK252) hb); replace BK257 := Aside0.mk (blk_below (zb BK257) hb); replace HB := Aside0.mk (below_step (zg HB) hb); (try clear hb ho0); (try clear hb); (try clear hk); (try clear hi); obtain ⟨Ao60, co60, eo60⟩ := Kd.R_slice HO272.out; subst eo60; obtain ⟨⟨hcz61_0, hcz61_1, hcz61_2, hcz61_3, hcz61_4⟩, hfz61_0, hfz61_1, hfz61_2, hfz61_3, hfz61_4⟩ := zc5 BK252))
      refine bodyPost_ret (results_ct rfl _ _ gb252 47 #[.int .i64 0, .int .i64 0, .string (⟨#[]⟩ : ByteArray), .string (⟨#[]⟩ : ByteArray), .slice none 0 0] (0, 0) _ rfl (zp BK252) Try.underlying47 rfl (by kernel_rfl)) rfl ?_
      exact ⟨_, zre, by first | exact Kd.S_nil _ _ _ _ _ | exact Kd.N_nil _ _ _ _ _ | exact Kd.V_nil _ _ _ _ _ | exact Kd.Q_nil _ _ _ _ _ | exact Kd.R_nil _ _ _ _ _, zg HB⟩
     rw [if_neg c54] at H
     have c54b0 : decide ((l0.length : Int) < (t270.length : Int)) = false := decide_eq_false c54
     have c54b1 : decide (l0.length < t270.length) = false := decide_eq_false (fun h => c54 (Int.ofNat_lt.mpr h))
     clear c54
     by_cases c62 : 0 ≤ (t270.length : Int)
     rotate_left
     ·rw [if_neg c62] at H
      exact absurd H (by simp)
     rw [if_pos c62] at H
     have c62b0 := eq_true c62
     have c62b1 : decide (0 ≤ (t270.length : Int)) = true := decide_eq_true c62
     clear c62
     by_cases c63 : (t270.length : Int) ≤ (l0.length : Int)
     rotate_left
     ·rw [if_neg c63] at H
      exact absurd H (by simp)
     rw [if_pos c63] at H
     have c63b0 := eq_true c63
     have c63b1 : decide ((t270.length : Int) ≤ (l0.length : Int)) = true := decide_eq_true c63
     clear c63
     replace H := Option.bind_eq_some_iff.mp H
     obtain ⟨t275, A640, H⟩ := H
     try dsimp only at H
     have A64 := Aside0.mk A640
     clear A640
     by_cases c65 : t275 = true
     rotate_left
     ·replace c65 := Bool.eq_false_iff.mpr c65
      subst c65
      rw [if_neg (show ¬ (false = true) by decide)] at H
      simp only [Option.some.injEq, Prod.mk.injEq] at H
      obtain ⟨rfl, rfl, rfl, rfl, rfl, rfl⟩ := H
      have hnb75 := NB257_252.out
      have hnc75 := NB252_257.out
      obtain ⟨⟨hcz76_0, hcz76_1, hcz76_2, hcz76_3, hcz76_4⟩, hfz76_0, hfz76_1, hfz76_2, hfz76_3, hfz76_4⟩ := zc5 BK257
      obtain ⟨Ao77, co77, eo77⟩ := Kd.S_slice HO_258004.out
      subst eo77
      go_wp2_with (first | ((with_reducible refine gate_callee (f := 24) rfl ?_); refine goesL_ (some 83) rfl rfl Try.func24 (by kernel_rfl) rfl #[.agg #[.int .i64 (wrap64 (rd lcu1_ 0)), .int .i64 t259, .string x258002_14, .string x258003_14, .slice Ao77 x258004_14.length co77]] rfl zar ?_; (with_reducible refine (impl_RecordBytes.calls kj14 (wrap64 (rd lcu1_ 0)) t259 x258002_14 x258003_14 _ _ x258004_14 t270 t273 _ ?side1 ?side2 A52.out).mono ?_); (case side1 => exact zC (Kd.S_reads' HO_258004.out).2.2); (case side2 => exact (Kd.S_reads' HO_258004.out).2.1); rintro e w78 ⟨v271, rfl, ho0, hb⟩; refine ⟨_, rfl, ?_⟩; replace HO_258004 := Aside0.mk (Kd.S_below (zs HO_258004) hb); have HO272 := Aside0.mk (Kd.R_lower ho0 (below_size (zg HB))); replace BK252 := Aside0.mk (blk_below (zb BK252) hb); replace BK257 := Aside0.mk (blk_below (zb BK257) hb); replace HB := Aside0.mk (below_step (zg HB) hb); (try clear hb ho0); (try clear hb); (try clear hk); (try clear hi); obtain ⟨Ao80, co80, eo80⟩ := Kd.R_slice HO272.out; subst eo80; obtain ⟨i081, hi081, _, hsz81, _⟩ := info_parts info5; obtain ⟨hcut81, hA81, hC81⟩ := print_take_of (P := Try.prog) (Value.int .u8) 0 26 5 .i64 Try.underlying26 hi081 hsz81 A0 c0 l0 (t270.length : Int) (of_decide_eq_true zas) (of_decide_eq_true zas) HC0.out; have HR274 := Aside0.mk (Kd.C_of_reads (h1 := fun _ => rfl) (hA81 _ (Kd.reads_of_C HR0.out))); have HC274 := Aside0.mk hC81; clear hA81 hC81 hi081 hsz81) | (go_at_call 88; refine calls_of_args (args' := #[.slice Ao80 t270.length co80, .slice A0 (l0.take ((t270.length : Int) : Int).toNat).length c0]) (by first | (rw [show (l0.take ((t270.length : Int) : Int).toNat).length = (t270.length : Int).toNat from (by rw [List.length_take]; have h_ : ((t270.length : Int) : Int) ≤ (l0.length : Int) := of_decide_eq_true zas; omega)] <;> rfl) | rfl | (simp only [List.length_take, Int.toNat_natCast]; done)) ?_; (with_reducible refine (bytes_Equal.calls _ _ t270 _ _ (l0.take ((t270.length : Int) : Int).toNat) false _ ?side1 ?side2 ?side3 ?side4 A64.out).mono ?_); (case side1 => exact zC (Kd.R_reads' HO272.out).2.2); (case side2 => exact (Kd.R_reads' HO272.out).2.1); (case side3 => exact zC (Kd.C_below HR274.out HB.out)); (case side4 => exact HC274.out); rintro e w' ⟨rfl, ⟨nd, rfl⟩⟩; (try (rw [drewN_self w78]; generalize hq_ : World.drewN w78 _ = w78; have n0_ : Aside0 (Kd.R (Kd.int .u8) 5 w78 w.heap.size (fun _ => True) (.slice Ao80 t270.length co80) t270) := ⟨by rw [← hq_]; exact (zr HO272)⟩; have n1_ : Aside0 (Kd.S k66 66 w78 w.heap.size (fun _ => True) (.slice Ao77 x258004_14.length co77) x258004_14) := ⟨by rw [← hq_]; exact (zs HO_258004)⟩; have n2_ : Aside0 (w78.heap[gb252]? = some (.cells #[.int .i64 x253000_14, .int .i64 x253001_14, .string x253002_14, .string x253003_14, .slice none 0 0] 47 (0, 0))) := ⟨by rw [← hq_]; exact (zb BK252)⟩; have n3_ : Aside0 (w78.heap[gb257]? = some (.cells #[.int .i64 (wrap64 (rd lcu1_ 0)), .int .i64 t259, .string x258002_14, .string x258003_14, .slice Ao77 x258004_14.length co77] 47 (0, 0))) := ⟨by rw [← hq_]; exact (zb BK257)⟩; have n4_ : Aside0 (Below w.heap.size w w78) := ⟨by rw [← hq_]; exact (zg HB)⟩; clear HO272 HO_258004 BK252 BK257 HB hq_; have HO272 := n0_; have HO_258004 := n1_; have BK252 := n2_; have BK257 := n3_; have HB := n4_; clear n0_ n1_ n2_ n3_ n4_)); obtain ⟨⟨hcz82_0, hcz82_1, hcz82_2, hcz82_3, hcz82_4⟩, hfz82_0, hfz82_1, hfz82_2, hfz82_3, hfz82_4⟩ := zc5 BK252))
      refine bodyPost_ret (results_ct rfl _ _ gb252 47 #[.int .i64 0, .int .i64 0, .string (⟨#[]⟩ : ByteArray), .string (⟨#[]⟩ : ByteArray), .slice none 0 0] (0, 0) _ rfl (zp BK252) Try.underlying47 rfl (by kernel_rfl)) rfl ?_
      exact ⟨_, zre, by first | exact Kd.S_nil _ _ _ _ _ | exact Kd.N_nil _ _ _ _ _ | exact Kd.V_nil _ _ _ _ _ | exact Kd.Q_nil _ _ _ _ _ | exact Kd.R_nil _ _ _ _ _, zg HB⟩
     subst c65
     rw [if_pos rfl] at H
     simp only [Option.some.injEq, Prod.mk.injEq] at H
     obtain ⟨rfl, rfl, rfl, rfl, rfl, rfl⟩ := H
     have hnb66 := NB257_252.out
     have hnc66 := NB252_257.out
     obtain ⟨⟨hcz67_0, hcz67_1, hcz67_2, hcz67_3, hcz67_4⟩, hfz67_0, hfz67_1, hfz67_2, hfz67_3, hfz67_4⟩ := zc5 BK257
     obtain ⟨Ao68, co68, eo68⟩ := Kd.S_slice HO_258004.out
     subst eo68
     go_wp2_with (first | ((with_reducible refine gate_callee (f := 24) rfl ?_); refine goesL_ (some 83) rfl rfl Try.func24 (by kernel_rfl) rfl #[.agg #[.int .i64 (wrap64 (rd lcu1_ 0)), .int .i64 t259, .string x258002_14, .string x258003_14, .slice Ao68 x258004_14.length co68]] rfl zar ?_; (with_reducible refine (impl_RecordBytes.calls kj14 (wrap64 (rd lcu1_ 0)) t259 x258002_14 x258003_14 _ _ x258004_14 t270 t273 _ ?side1 ?side2 A52.out).mono ?_); (case side1 => exact zC (Kd.S_reads' HO_258004.out).2.2); (case side2 => exact (Kd.S_reads' HO_258004.out).2.1); rintro e w69 ⟨v271, rfl, ho0, hb⟩; refine ⟨_, rfl, ?_⟩; replace HO_258004 := Aside0.mk (Kd.S_below (zs HO_258004) hb); have HO272 := Aside0.mk (Kd.R_lower ho0 (below_size (zg HB))); replace BK252 := Aside0.mk (blk_below (zb BK252) hb); replace BK257 := Aside0.mk (blk_below (zb BK257) hb); replace HB := Aside0.mk (below_step (zg HB) hb); (try clear hb ho0); (try clear hb); (try clear hk); (try clear hi); obtain ⟨Ao71, co71, eo71⟩ := Kd.R_slice HO272.out; subst eo71; obtain ⟨i072, hi072, _, hsz72, _⟩ := info_parts info5; obtain ⟨hcut72, hA72, hC72⟩ := print_take_of (P := Try.prog) (Value.int .u8) 0 26 5 .i64 Try.underlying26 hi072 hsz72 A0 c0 l0 (t270.length : Int) (of_decide_eq_true zas) (of_decide_eq_true zas) HC0.out; have HR274 := Aside0.mk (Kd.C_of_reads (h1 := fun _ => rfl) (hA72 _ (Kd.reads_of_C HR0.out))); have HC274 := Aside0.mk hC72; clear hA72 hC72 hi072 hsz72) | (go_at_call 88; refine calls_of_args (args' := #[.slice Ao71 t270.length co71, .slice A0 (l0.take ((t270.length : Int) : Int).toNat).length c0]) (by first | (rw [show (l0.take ((t270.length : Int) : Int).toNat).length = (t270.length : Int).toNat from (by rw [List.length_take]; have h_ : ((t270.length : Int) : Int) ≤ (l0.length : Int) := of_decide_eq_true zas; omega)] <;> rfl) | rfl | (simp only [List.length_take, Int.toNat_natCast]; done)) ?_; (with_reducible refine (bytes_Equal.calls _ _ t270 _ _ (l0.take ((t270.length : Int) : Int).toNat) true _ ?side1 ?side2 ?side3 ?side4 A64.out).mono ?_); (case side1 => exact zC (Kd.R_reads' HO272.out).2.2); (case side2 => exact (Kd.R_reads' HO272.out).2.1); (case side3 => exact zC (Kd.C_below HR274.out HB.out)); (case side4 => exact HC274.out); rintro e w' ⟨rfl, ⟨nd, rfl⟩⟩; (try (rw [drewN_self w69]; generalize hq_ : World.drewN w69 _ = w69; have n0_ : Aside0 (Kd.R (Kd.int .u8) 5 w69 w.heap.size (fun _ => True) (.slice Ao71 t270.length co71) t270) := ⟨by rw [← hq_]; exact (zr HO272)⟩; have n1_ : Aside0 (Kd.S k66 66 w69 w.heap.size (fun _ => True) (.slice Ao68 x258004_14.length co68) x258004_14) := ⟨by rw [← hq_]; exact (zs HO_258004)⟩; have n2_ : Aside0 (w69.heap[gb252]? = some (.cells #[.int .i64 x253000_14, .int .i64 x253001_14, .string x253002_14, .string x253003_14, .slice none 0 0] 47 (0, 0))) := ⟨by rw [← hq_]; exact (zb BK252)⟩; have n3_ : Aside0 (w69.heap[gb257]? = some (.cells #[.int .i64 (wrap64 (rd lcu1_ 0)), .int .i64 t259, .string x258002_14, .string x258003_14, .slice Ao68 x258004_14.length co68] 47 (0, 0))) := ⟨by rw [← hq_]; exact (zb BK257)⟩; have n4_ : Aside0 (Below w.heap.size w w69) := ⟨by rw [← hq_]; exact (zg HB)⟩; clear HO272 HO_258004 BK252 BK257 HB hq_; have HO272 := n0_; have HO_258004 := n1_; have BK252 := n2_; have BK257 := n3_; have HB := n4_; clear n0_ n1_ n2_ n3_ n4_)); obtain ⟨⟨hcz73_0, hcz73_1, hcz73_2, hcz73_3, hcz73_4⟩, hfz73_0, hfz73_1, hfz73_2, hfz73_3, hfz73_4⟩ := zc5 BK257; obtain ⟨⟨hcz74_0, hcz74_1, hcz74_2, hcz74_3, hcz74_4⟩, hfz74_0, hfz74_1, hfz74_2, hfz74_3, hfz74_4⟩ := zc5 BK252))
     refine bodyPost_ret (results_ct rfl _ _ gb252 47 #[.int .i64 (wrap64 (rd lcu1_ 0)), .int .i64 t259, .string x258002_14, .string x258003_14, .slice Ao68 x258004_14.length co68] (0, 0) _ rfl (zp BK252) Try.underlying47 rfl (by kernel_rfl)) rfl ?_
     exact ⟨_, zre, by (with_reducible repeat (first | apply Kd.S_alloc | apply Kd.S_drewN | apply Kd.S_drew)); exact Kd.S_mono (Kd.S_far (p := ⟨gb252, 4, none⟩) (Kd.S_far (p := ⟨gb252, 3, none⟩) (Kd.S_far (p := ⟨gb252, 2, none⟩) (Kd.S_far (p := ⟨gb252, 1, none⟩) (Kd.S_far (p := ⟨gb252, 0, none⟩) (Kd.S_types HO_258004.out BK252.out (by decide)) (fun _ hk => hk.2) (.int .i64 (wrap64 (rd lcu1_ 0)))) (fun _ hk => hk.2) (.int .i64 t259)) (fun _ hk => hk.2) (.string x258002_14)) (fun _ hk => hk.2) (.string x258003_14)) (fun _ hk => hk.2) (.slice Ao68 x258004_14.length co68)) (fun _ hk => trivial), zg HB⟩
/-! ### impl_ReadLog: function 28 -/
def impl_ReadLog.l0 : Nat → List Int → List (S47) → Int → Option ((List (S47)) × Int × Int)
 | 0, _, _, _ => none
 | k + 1, x0, x5, x6 => if 0 ≤ x6 then (if x6 ≤ (x0.length : Int) then ((impl_oRecord.f k (x0.drop (x6 : Int).toNat)).bind fun bt277 => (if bt277.2.2.2.2.2 = 0 then (some (x5, x6, 0)) else (if bt277.2.1 = (wrap64 ((x5.length : Int) + 1)) then (if x5.length < 1954687338268 then (impl_ReadLog.l0 k x0 (x5 ++ [(⟨bt277.1, bt277.2.1, bt277.2.2.1, (⟨bt277.2.2.2.1, bt277.2.2.2.2.1⟩ : S31)⟩ : S47)]) (wrap64 (x6 + bt277.2.2.2.2.2))) else (none)) else (some (x5, x6, 0))))) else (none)) else (none)
def impl_ReadLog.f (k : Nat) (l0 : List Int) : Option ((List (S47)) × Int × Int) := if (l0.length : Int) > 1048576 then (some (([] : List (S47)), 0, 2)) else (impl_ReadLog.l0 k l0 ([] : List (S47)) 0)
theorem impl_ReadLog.mono_l : ∀ k, (∀ y0 y1 y2, LeO (impl_ReadLog.l0 k y0 y1 y2) (impl_ReadLog.l0 (k + 1) y0 y1 y2))
 | 0 => fun _ _ _ r h => by simp [impl_ReadLog.l0] at h
 | k + 1 => by
  have ih0 := impl_ReadLog.mono_l k
  ·intro y0 y1 y2
   unfold impl_ReadLog.l0
   repeat' first
   | (with_reducible exact ih0 _ _ _)
   | (with_reducible exact impl_oRecord.mono _ _)
   | (with_reducible exact LeO.refl _)
   | (with_reducible exact LeO.none _)
   | (with_reducible refine LeO.ite ?_ ?_)
   | (with_reducible refine LeO.bind ?_ (fun _ => ?_))
theorem impl_ReadLog.mono : ∀ a0 k, LeO (impl_ReadLog.f k a0) (impl_ReadLog.f (k + 1) a0) := by
 intro a0 k
 have ih0 := impl_ReadLog.mono_l k
 unfold impl_ReadLog.f
 repeat' first
  | (with_reducible exact ih0 _ _ _)
  | (with_reducible exact impl_oRecord.mono _ _)
  | (with_reducible exact LeO.refl _)
  | (with_reducible exact LeO.none _)
  | (with_reducible refine LeO.ite ?_ ?_)
  | (with_reducible refine LeO.bind ?_ (fun _ => ?_))
set_option maxHeartbeats 8000000 in
set_option maxRecDepth 100000 in
theorem impl_ReadLog.calls (k : Nat) (A0 : Option Addr) (c0 : Nat) (l0 : List Int) (r1 : List (S47)) (r2 : Int) (r3 : Int) (w : World) (hr0 : Kd.C (Kd.int .u8) w A0 l0.length l0) (hc0 : l0.length ≤ c0) (h : impl_ReadLog.f k l0 = some (r1, r2, r3)) :
 Calls Try.prog 28 #[.slice A0 l0.length c0] w fun e w' => ∃ v0_ : Value, e = .returned (.tuple #[v0_, .int .i64 r2, .int .i64 r3]) ∧ Kd.S k47 47 w' w.heap.size (fun _ => True) v0_ r1 ∧ Below w.heap.size w w' := by
 have hu47 := Try.underlying47
 have HR0 := Aside0.mk hr0
 have HC0 := Aside0.mk hc0
 clear hr0 hc0
 have HB := Aside0.mk (Below.refl w.heap.size w)
 have H := h
 unfold impl_ReadLog.f at H
 clear h
 by_cases c2 : (l0.length : Int) > 1048576
 ·rw [if_pos c2] at H
  have c2b0 : decide (1048576 < (l0.length : Int)) = true := decide_eq_true c2
  have c2b1 : decide (1048576 < l0.length) = true := decide_eq_true (by omega)
  clear c2
  simp only [Option.some.injEq, Prod.mk.injEq] at H
  obtain ⟨rfl, rfl, rfl⟩ := H
  go_enter Try.func28, Try.ntmps28
  go_wp2
  go_ret3
  exact ⟨_, zre, by first | exact Kd.S_nil _ _ _ _ _ | exact Kd.N_nil _ _ _ _ _ | exact Kd.V_nil _ _ _ _ _ | exact Kd.Q_nil _ _ _ _ _ | exact Kd.R_nil _ _ _ _ _, zh HB⟩
 rw [if_neg c2] at H
 have c2b0 : decide (1048576 < (l0.length : Int)) = false := decide_eq_false c2
 have c2b1 : decide (1048576 < l0.length) = false := decide_eq_false (by omega)
 clear c2
 have H' := Aside0.mk H
 clear H
 go_enter Try.func28, Try.ntmps28
 go_wp2
 go_loopg [5, 6] k (fun kq v5 v6 w' => ∃ (x5_1 : List (S47)) (x6_1 : Int), v6 = .int .i64 x6_1 ∧ Aside0 (impl_ReadLog.l0 kq l0 x5_1 x6_1 = some (r1, r2, r3)) ∧ Aside0 (kq ≤ k) ∧ Aside0 (Kd.S k47 47 w' w.heap.size (fun _ => True) v5 x5_1) ∧ Aside0 (Below w.heap.size w w'))
 case atStart => exact ⟨(([] : List (S47))), (0), zrs, H', ⟨Nat.le_refl _⟩, ⟨by first | exact Kd.S_nil _ _ _ _ _ | exact Kd.N_nil _ _ _ _ _ | exact Kd.V_nil _ _ _ _ _ | exact Kd.Q_nil _ _ _ _ _ | exact Kd.R_nil _ _ _ _ _⟩, ⟨zh HB⟩⟩
 case round =>
  clear H'
  try clear c2
  try clear c2b0
  try clear c2b1
  obtain ⟨x5_1, x6_1, rfl, HA, HK1, HO_5, HB⟩ := hrel
  cases gk with
  | zero => exact absurd HA.out (by simp [impl_ReadLog.l0])
  | succ k1 =>
   have H := HA.out
   clear HA
   simp only [impl_ReadLog.l0] at H
   by_cases c3 : 0 ≤ x6_1
   rotate_left
   ·rw [if_neg c3] at H
    exact absurd H (by simp)

   rw [if_pos c3] at H
   have c3b0 := eq_true c3
   have c3b1 : decide (0 ≤ x6_1) = true := decide_eq_true c3
   clear c3
   by_cases c4 : x6_1 ≤ (l0.length : Int)
   rotate_left
   ·rw [if_neg c4] at H
    exact absurd H (by simp)
   rw [if_pos c4] at H
   have c4b0 := eq_true c4
   have c4b1 : decide (x6_1 ≤ (l0.length : Int)) = true := decide_eq_true c4
   clear c4
   replace H := Option.bind_eq_some_iff.mp H
   obtain ⟨⟨t277, t278, t279, t280, t281, t284⟩, A50, H⟩ := H
   try dsimp only at H
   have A5 := Aside0.mk A50
   clear A50
   by_cases c6 : t284 = 0
   ·rw [if_pos c6] at H
    have c6b0 : (t284 == 0) = true := beq_iff_eq.mpr c6
    have c6b1 : (t284 != 0) = false := bne_eq_false_iff_eq.mpr c6
    clear c6
    simp only [Option.some.injEq, Prod.mk.injEq] at H
    obtain ⟨rfl, rfl, rfl⟩ := H
    obtain ⟨i07, hi07, _, hsz7, _⟩ := info_parts info5
    obtain ⟨A7, hcut7, hA7, hC7⟩ := print_drop_of (P := Try.prog) (Value.int .u8) 0 26 5 .i64 Try.underlying26 hi07 hsz7 A0 c0 l0 x6_1 (of_decide_eq_true zas) (of_decide_eq_true zas) HC0.out
    have HR276 := Aside0.mk (Kd.C_of_reads (h1 := fun _ => rfl) (hA7 _ (Kd.reads_of_C HR0.out)))
    have HC276 := Aside0.mk hC7
    clear hA7 hC7 hi07 hsz7
    go_wp2_with (first | ((with_reducible refine gate_callee (f := 58) rfl ?_); refine goesL_ (some 16) rfl rfl Try.func58 (by kernel_rfl) rfl #[.slice A7 (l0.drop (x6_1 : Int).toNat).length (c0 - x6_1.toNat)] rfl (by (try simp only [List.map_toArray, List.map_cons, List.map_nil]); first | done | (rw [show (l0.drop (x6_1 : Int).toNat).length = (l0.length - x6_1.toNat) from List.length_drop] <;> rfl) | rfl | (simp only [List.length_drop, List.length_take]; rfl)) ?_; (with_reducible refine (impl_oRecord.calls k1 _ _ (l0.drop (x6_1 : Int).toNat) t277 t278 t279 t280 t281 t284 _ ?side1 ?side2 A5.out).mono ?_); (case side1 => exact zC (Kd.C_below HR276.out HB.out)); (case side2 => exact HC276.out); rintro e w8 ⟨v282, rfl, ho0, hb⟩; refine ⟨_, rfl, ?_⟩; obtain ⟨nb9, hnb_⟩ := Kd.pivot_ hb; have HNB9 := Aside0.mk hnb_; clear hnb_; replace HO_5 := Aside0.mk (Kd.S_elderN (zs HO_5) (Kd.S_base ho0) hb HNB9.out); have HO283 := Aside0.mk (Kd.S_lower (Kd.S_geN ho0 HNB9.out) (below_size (zh HB))); replace HB := Aside0.mk (below_step (zh HB) hb); (try clear hb ho0); (try clear hb); (try clear hk); (try clear hi)) | ((with_reducible refine gate_dst (N := 7) rfl ?_); (try (refine gate_guard (by rfl) ?_; dsimp only)); refine box_event (by rfl) (N := 7) (by rfl) (cs := #[.int .i64 0, .int .i64 0, .string (⟨#[]⟩ : ByteArray), .string (⟨#[]⟩ : ByteArray), .slice none 0 0]) (t := 47) zgs ?_; intro gb285 hg w10 hbox hb; replace HO_5 := Aside0.mk (Kd.S_below (Kd.S_elderB (zs HO_5) gb285 (Nat.le_of_eq hg.symm)) hb); replace HO283 := Aside0.mk (Kd.S_below (zs HO283) hb); have BK285 := Aside0.mk (hbox); have GW285 := zge hg (below_size (zh HB)); have GE285 := zge hg (below_size (zh HB)); replace HB := Aside0.mk (below_step (zh HB) hb); clear hb hbox hg; obtain ⟨⟨hcz11_0, hcz11_1, hcz11_2, hcz11_3, hcz11_4⟩, hfz11_0, hfz11_1, hfz11_2, hfz11_3, hfz11_4⟩ := zc5 BK285; obtain ⟨Ao12, co12, eo12⟩ := Kd.S_slice HO283.out; subst eo12))
    go_ret3
    exact ⟨_, zre, by (with_reducible repeat (first | apply Kd.S_alloc | apply Kd.S_drewN | apply Kd.S_drew)); exact Kd.S_mono (Kd.S_far (p := ⟨gb285, 4, none⟩) (Kd.S_far (p := ⟨gb285, 3, none⟩) (Kd.S_far (p := ⟨gb285, 2, none⟩) (Kd.S_far (p := ⟨gb285, 1, none⟩) (Kd.S_far (p := ⟨gb285, 0, none⟩) (Kd.S_mono HO_5.out (fun k_ hk => (⟨hk, hk.2⟩ : _ ∧ k_ ≠ gb285))) (fun _ hk => hk.2) (.int .i64 t277)) (fun _ hk => hk.2) (.int .i64 t278)) (fun _ hk => hk.2) (.string t279)) (fun _ hk => hk.2) (.string t280)) (fun _ hk => hk.2) (.slice Ao12 t281.length co12)) (fun _ hk => trivial), zg HB⟩
   rw [if_neg c6] at H
   have c6b0 : (t284 == 0) = false := beq_eq_false_iff_ne.mpr c6
   have c6b1 : (t284 != 0) = true := bne_iff_ne.mpr c6
   by_cases c13 : t278 = (wrap64 ((x5_1.length : Int) + 1))
   rotate_left
   ·rw [if_neg c13] at H
    have c13b0 : (t278 == (wrap64 ((x5_1.length : Int) + 1))) = false := beq_eq_false_iff_ne.mpr c13
    have c13b1 : (t278 != (wrap64 ((x5_1.length : Int) + 1))) = true := bne_iff_ne.mpr c13
    simp only [Option.some.injEq, Prod.mk.injEq] at H
    obtain ⟨rfl, rfl, rfl⟩ := H
    obtain ⟨i025, hi025, _, hsz25, _⟩ := info_parts info5
    obtain ⟨A25, hcut25, hA25, hC25⟩ := print_drop_of (P := Try.prog) (Value.int .u8) 0 26 5 .i64 Try.underlying26 hi025 hsz25 A0 c0 l0 x6_1 (of_decide_eq_true zas) (of_decide_eq_true zas) HC0.out
    have HR276 := Aside0.mk (Kd.C_of_reads (h1 := fun _ => rfl) (hA25 _ (Kd.reads_of_C HR0.out)))
    have HC276 := Aside0.mk hC25
    clear hA25 hC25 hi025 hsz25
    go_wp2_with (first | ((with_reducible refine gate_callee (f := 58) rfl ?_); refine goesL_ (some 16) rfl rfl Try.func58 (by kernel_rfl) rfl #[.slice A25 (l0.drop (x6_1 : Int).toNat).length (c0 - x6_1.toNat)] rfl (by (try simp only [List.map_toArray, List.map_cons, List.map_nil]); first | done | (rw [show (l0.drop (x6_1 : Int).toNat).length = (l0.length - x6_1.toNat) from List.length_drop] <;> rfl) | rfl | (simp only [List.length_drop, List.length_take]; rfl)) ?_; (with_reducible refine (impl_oRecord.calls k1 _ _ (l0.drop (x6_1 : Int).toNat) t277 t278 t279 t280 t281 t284 _ ?side1 ?side2 A5.out).mono ?_); (case side1 => exact zC (Kd.C_below HR276.out HB.out)); (case side2 => exact HC276.out); rintro e w26 ⟨v282, rfl, ho0, hb⟩; refine ⟨_, rfl, ?_⟩; obtain ⟨nb27, hnb_⟩ := Kd.pivot_ hb; have HNB27 := Aside0.mk hnb_; clear hnb_; replace HO_5 := Aside0.mk (Kd.S_elderN (zs HO_5) (Kd.S_base ho0) hb HNB27.out); have HO283 := Aside0.mk (Kd.S_lower (Kd.S_geN ho0 HNB27.out) (below_size (zh HB))); replace HB := Aside0.mk (below_step (zh HB) hb); (try clear hb ho0); (try clear hb); (try clear hk); (try clear hi)) | ((with_reducible refine gate_dst (N := 7) rfl ?_); (try (refine gate_guard (by rfl) ?_; dsimp only)); refine box_event (by rfl) (N := 7) (by rfl) (cs := #[.int .i64 0, .int .i64 0, .string (⟨#[]⟩ : ByteArray), .string (⟨#[]⟩ : ByteArray), .slice none 0 0]) (t := 47) zgs ?_; intro gb285 hg w28 hbox hb; replace HO_5 := Aside0.mk (Kd.S_below (Kd.S_elderB (zs HO_5) gb285 (Nat.le_of_eq hg.symm)) hb); replace HO283 := Aside0.mk (Kd.S_below (zs HO283) hb); have BK285 := Aside0.mk (hbox); have GW285 := zge hg (below_size (zh HB)); have GE285 := zge hg (below_size (zh HB)); replace HB := Aside0.mk (below_step (zh HB) hb); clear hb hbox hg; obtain ⟨⟨hcz29_0, hcz29_1, hcz29_2, hcz29_3, hcz29_4⟩, hfz29_0, hfz29_1, hfz29_2, hfz29_3, hfz29_4⟩ := zc5 BK285; obtain ⟨Ao30, co30, eo30⟩ := Kd.S_slice HO283.out; subst eo30; obtain ⟨Ao31, co31, eo31⟩ := Kd.S_slice HO_5.out; subst eo31))
    go_ret3
    exact ⟨_, zre, by (with_reducible repeat (first | apply Kd.S_alloc | apply Kd.S_drewN | apply Kd.S_drew)); exact Kd.S_mono (Kd.S_far (p := ⟨gb285, 4, none⟩) (Kd.S_far (p := ⟨gb285, 3, none⟩) (Kd.S_far (p := ⟨gb285, 2, none⟩) (Kd.S_far (p := ⟨gb285, 1, none⟩) (Kd.S_far (p := ⟨gb285, 0, none⟩) (Kd.S_mono HO_5.out (fun k_ hk => (⟨hk, hk.2⟩ : _ ∧ k_ ≠ gb285))) (fun _ hk => hk.2) (.int .i64 t277)) (fun _ hk => hk.2) (.int .i64 t278)) (fun _ hk => hk.2) (.string t279)) (fun _ hk => hk.2) (.string t280)) (fun _ hk => hk.2) (.slice Ao30 t281.length co30)) (fun _ hk => trivial), zg HB⟩
   rw [if_pos c13] at H
   have c13b0 : (t278 == (wrap64 ((x5_1.length : Int) + 1))) = true := beq_iff_eq.mpr c13
   have c13b1 : (t278 != (wrap64 ((x5_1.length : Int) + 1))) = false := bne_eq_false_iff_eq.mpr c13
   clear c13
   by_cases c14 : x5_1.length < 1954687338268
   rotate_left
   ·rw [if_neg c14] at H
    exact absurd H (by simp)
   rw [if_pos c14] at H
   have LMc14 := Aside0.mk c14
   clear c14
   obtain ⟨y286, hy286⟩ : ∃ y_ : List (S47), y_ = (x5_1 ++ [(⟨t277, t278, t279, (⟨t280, t281⟩ : S31)⟩ : S47)]) := ⟨_, rfl⟩
   replace H : (impl_ReadLog.l0 k1 l0 y286 (wrap64 (x6_1 + t284))) = some (r1, r2, r3) := zby hy286 H
   have Ny286 := Aside0.mk hy286
   clear hy286
   have H' := Aside0.mk H
   clear H
   obtain ⟨i015, hi015, _, hsz15, _⟩ := info_parts info5
   obtain ⟨A15, hcut15, hA15, hC15⟩ := print_drop_of (P := Try.prog) (Value.int .u8) 0 26 5 .i64 Try.underlying26 hi015 hsz15 A0 c0 l0 x6_1 (of_decide_eq_true zas) (of_decide_eq_true zas) HC0.out
   have HR276 := Aside0.mk (Kd.C_of_reads (h1 := fun _ => rfl) (hA15 _ (Kd.reads_of_C HR0.out)))
   have HC276 := Aside0.mk hC15
   clear hA15 hC15 hi015 hsz15
   go_wp2_with (first | ((with_reducible refine gate_callee (f := 58) rfl ?_); refine goesL_ (some 16) rfl rfl Try.func58 (by kernel_rfl) rfl #[.slice A15 (l0.drop (x6_1 : Int).toNat).length (c0 - x6_1.toNat)] rfl (by (try simp only [List.map_toArray, List.map_cons, List.map_nil]); first | done | (rw [show (l0.drop (x6_1 : Int).toNat).length = (l0.length - x6_1.toNat) from List.length_drop] <;> rfl) | rfl | (simp only [List.length_drop, List.length_take]; rfl)) ?_; (with_reducible refine (impl_oRecord.calls k1 _ _ (l0.drop (x6_1 : Int).toNat) t277 t278 t279 t280 t281 t284 _ ?side1 ?side2 A5.out).mono ?_); (case side1 => exact zC (Kd.C_below HR276.out HB.out)); (case side2 => exact HC276.out); rintro e w16 ⟨v282, rfl, ho0, hb⟩; refine ⟨_, rfl, ?_⟩; obtain ⟨nb17, hnb_⟩ := Kd.pivot_ hb; have HNB17 := Aside0.mk hnb_; clear hnb_; replace HO_5 := Aside0.mk (Kd.S_elderN (zs HO_5) (Kd.S_base ho0) hb HNB17.out); have HO283 := Aside0.mk (Kd.S_lower (Kd.S_geN ho0 HNB17.out) (below_size (zh HB))); replace HB := Aside0.mk (below_step (zh HB) hb); (try clear hb ho0); (try clear hb); (try clear hk); (try clear hi)) | ((with_reducible refine gate_dst (N := 7) rfl ?_); (try (refine gate_guard (by rfl) ?_; dsimp only)); refine box_event (by rfl) (N := 7) (by rfl) (cs := #[.int .i64 0, .int .i64 0, .string (⟨#[]⟩ : ByteArray), .string (⟨#[]⟩ : ByteArray), .slice none 0 0]) (t := 47) zgs ?_; intro gb285 hg w18 hbox hb; replace HO_5 := Aside0.mk (Kd.S_below (Kd.S_elderB (zs HO_5) gb285 (Nat.le_of_eq hg.symm)) hb); replace HO283 := Aside0.mk (Kd.S_below (zs HO283) hb); have BK285 := Aside0.mk (hbox); have GW285 := zge hg (below_size (zh HB)); have GE285 := zge hg (below_size (zh HB)); replace HB := Aside0.mk (below_step (zh HB) hb); clear hb hbox hg; obtain ⟨⟨hcz19_0, hcz19_1, hcz19_2, hcz19_3, hcz19_4⟩, hfz19_0, hfz19_1, hfz19_2, hfz19_3, hfz19_4⟩ := zc5 BK285; obtain ⟨Ao20, co20, eo20⟩ := Kd.S_slice HO283.out; subst eo20) | ((with_reducible refine gate_store (t := 47) (p := 7) rfl ?_); refine store_event (t := 47) (p := 7) (v := ?vo_w21) (w1 := (((((w18.setCell ⟨gb285, 0, none⟩ (.int .i64 t277)).setCell ⟨gb285, 1, none⟩ (.int .i64 t278)).setCell ⟨gb285, 2, none⟩ (.string t279)).setCell ⟨gb285, 3, none⟩ (.string t280)).setCell ⟨gb285, 4, none⟩ (.slice Ao20 t281.length co20))) ?hg ?ho ?hn ?hr ?_; (case ho => rfl); (case hg => rfl); (case hn => rfl); (case hr => first | (go_simp; done) | (go_simp; rfl)); intro w21 hw; have n0_ : Aside0 (Kd.S k47 47 w21 w.heap.size (fun k_ => some k_ ≠ (.slice Ao20 t281.length co20 : Value).ownBlock ∧ k_ < nb17 ∧ k_ ≠ gb285) u5 x5_1) := ⟨(by rw [hw]; exact (by (with_reducible repeat (first | apply Kd.S_alloc | apply Kd.S_drewN | apply Kd.S_drew)); exact Kd.S_mono (Kd.S_far (p := ⟨gb285, 4, none⟩) (Kd.S_far (p := ⟨gb285, 3, none⟩) (Kd.S_far (p := ⟨gb285, 2, none⟩) (Kd.S_far (p := ⟨gb285, 1, none⟩) (Kd.S_far (p := ⟨gb285, 0, none⟩) (Kd.S_mono HO_5.out (fun k_ hk => (⟨hk, hk.2⟩ : _ ∧ k_ ≠ gb285))) (fun _ hk => hk.2) (.int .i64 t277)) (fun _ hk => hk.2) (.int .i64 t278)) (fun _ hk => hk.2) (.string t279)) (fun _ hk => hk.2) (.string t280)) (fun _ hk => hk.2) (.slice Ao20 t281.length co20)) (fun _ hk => ⟨hk.1.1.1.2, ⟨hk.1.1.2, hk.1.2⟩⟩)))⟩; have n1_ : Aside0 (Kd.S k66 66 w21 w.heap.size (fun k_ => nb17 ≤ k_) (.slice Ao20 t281.length co20) t281) := ⟨(by rw [hw]; exact (by (with_reducible repeat (first | apply Kd.S_alloc | apply Kd.S_drewN | apply Kd.S_drew)); exact Kd.S_mono (Kd.S_far (p := ⟨gb285, 4, none⟩) (Kd.S_far (p := ⟨gb285, 3, none⟩) (Kd.S_far (p := ⟨gb285, 2, none⟩) (Kd.S_far (p := ⟨gb285, 1, none⟩) (Kd.S_far (p := ⟨gb285, 0, none⟩) (Kd.S_types HO283.out BK285.out (by decide)) (fun _ hk => hk.2) (.int .i64 t277)) (fun _ hk => hk.2) (.int .i64 t278)) (fun _ hk => hk.2) (.string t279)) (fun _ hk => hk.2) (.string t280)) (fun _ hk => hk.2) (.slice Ao20 t281.length co20)) (fun _ hk => hk.1.2)))⟩; have n2_ : Aside0 (w21.heap[gb285]? = some (.cells #[.int .i64 t277, .int .i64 t278, .string t279, .string t280, .slice Ao20 t281.length co20] 47 (0, 0))) := ⟨(by rw [hw]; exact (zp BK285))⟩; have n3_ : Aside0 (Below w.heap.size w w21) := ⟨(by rw [hw]; exact (zg HB))⟩; clear hw; clear HO_5; clear HO283; clear BK285; clear HB; have HO_5 := n0_; have HO283 := n1_; have BK285 := n2_; have HB := n3_; clear n0_ n1_ n2_ n3_; obtain ⟨⟨hcz22_0, hcz22_1, hcz22_2, hcz22_3, hcz22_4⟩, hfz22_0, hfz22_1, hfz22_2, hfz22_3, hfz22_4⟩ := zc5 BK285; obtain ⟨Ao23, co23, eo23⟩ := Kd.S_slice HO_5.out; subst eo23) | ((with_reducible refine gate_builtin (b := .append) (xs := #[.tmp 31, .tmp 33]) rfl ?_); (try (refine gate_guard (by rfl) ?_; dsimp only)); at_builtin; refine Kd.S_append k47 (w0 := w) w.heap.size rfl (.tmp 31) (.tmp 33) 54 47 (.agg #[(.int .i64 0), (.int .i64 0), (.string ⟨#[]⟩), (.string ⟨#[]⟩), (.slice none 0 0)]) 72 rfl Try.underlying54 info47 rfl (by decide) (by omega) (.slice Ao23 x5_1.length co23) x5_1 (⟨t277, t278, t279, (⟨t280, t281⟩ : S31)⟩ : S47) [.int .i64 t277, .int .i64 t278, .string t279, .string t280, .slice Ao20 t281.length co20] (fun k_ => k_ ≠ gb285) (fun k_ => (nb17 ≤ k_ ∧ ((fun k_ => k_ ≠ gb285)) k_) ∧ some k_ ≠ (.slice Ao23 x5_1.length co23 : Value).ownBlock) rfl rfl ?aP (fun k_ hk_ => ⟨hk_.1.2, hk_.2⟩) ?aF ?aO ?aB ?aS ?aL ?_; (case aP => exact k47_mkM _ _ _ (⟨t277, t278, t279, (⟨t280, t281⟩ : S31)⟩ : S47) (Kd.S_mono (ok' := (fun k_ => (nb17 ≤ k_ ∧ ((fun k_ => k_ ≠ gb285)) k_) ∧ some k_ ≠ (.slice Ao23 x5_1.length co23 : Value).ownBlock)) (Kd.S_types (Kd.S_apart' (HO283.out) (Kd.S_typed HO_5.out) (by decide)) BK285.out (by decide)) (fun k_ hk => ⟨⟨hk.1.1, hk.2⟩, hk.1.2⟩))); (case aB => exact (zg HB)); (case aF => exact (fun k_ hk => Kd.freshB (zb BK285) k_ hk)); (case aO => exact (Kd.S_mono (zs HO_5) (fun k_ hk => ⟨hk.2.2, fun e_ => Nat.not_le.2 hk.2.1 e_.1.1⟩))); (case aS => exact (below_size (zg HB))); (case aL => have := LMc14.out; omega); intro v287 w24 ho hb hg hat; rw [← Ny286.out] at ho; replace BK285 := Aside0.mk (blk_grown (zb BK285) hg (Kd.S_away HO_5.out (fun _ hk => hk.2.2))); replace HB := Aside0.mk (hb); have HO288 := Aside0.mk (ho); clear HO_5 HO283; clear ho hb hg hat))
   go_roundg k1
   case measure => have := HK1.out; omega
   case rel => exact ⟨(y286), (wrap64 (x6_1 + t284)), zrs, H', ⟨by have := HK1.out; omega⟩, ⟨Kd.S_mono (zs HO288) (fun _ hk => trivial)⟩, ⟨zg HB⟩⟩
end Go.Proofs.Ytnpdmleglcbobaa.XFnExactReadLog
