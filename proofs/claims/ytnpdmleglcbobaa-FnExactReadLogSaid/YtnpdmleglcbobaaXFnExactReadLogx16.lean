-- A printed text of this session (wip/x/xprint.py).
import Derived.Test.YtnpdmleglcbobaaXFnExactReadLogx0
import Derived.Test.YtnpdmleglcbobaaXFnExactReadLogx9
import Derived.Test.YtnpdmleglcbobaaXFnExactReadLogx11
import Derived.Test.YtnpdmleglcbobaaXFnExactReadLogx13
import Derived.Test.YtnpdmleglcbobaaXFnExactReadLogx15
namespace Go.Proofs.Ytnpdmleglcbobaa.XFnExactReadLog
open Go.RowKit Go.Proofs.YtnpdmleglcbobaaW.PrintWords Go.Proofs.YtnpdmleglcbobaaW.PrintLast Go.Proofs.YtnpdmleglcbobaaW.PrintMore
attribute [local go_sem] max2_int min2_int max_two min_two max_three min_three max_four min_four   -- for this text's walks alone
set_option linter.unusedVariables false
set_option linter.unusedSimpArgs false
def fl16_ (n m : Nat) : Array Bool := ((List.range n).map fun i => m.testBit i).toArray

/-! ### spec_l14Next: function 59 -/
mutual
def spec_l14Next.j0 : Nat → List Int → Int → Int → Int → Int → Bool → Int → Int → ByteArray → ByteArray → Option (Int × Int × ByteArray × ByteArray × (List (S66)) × Int × Bool)
 | 0, _, _, _, _, _, _, _, _, _, _ => none
 | k + 1, x0, x1, x2, x10, x11, x42, x478000, x478001, x478002, x478003 => if x42 = true then (some (x478000, x478001, x478002, x478003, ([] : List (S66)), 0, false)) else (if 0 ≤ x11 then (if x11 ≤ (wrap64 (x11 + x10)) then (if (wrap64 (x11 + x10)) ≤ (x0.length : Int) then (if 0 < (((x0.take ((wrap64 (x11 + x10)) : Int).toNat).drop (x11 : Int).toNat).length : Int) then ((spec_l03Get.f k ((x0.take ((wrap64 (x11 + x10)) : Int).toNat).drop (x11 : Int).toNat) 1).bind fun bt483 => (if bt483.2.2 = true then (spec_l14Next.j1 k x0 x1 x10 x11 ((x0.take ((wrap64 (x11 + x10)) : Int).toNat).drop (x11 : Int).toNat) bt483.1 bt483.2.1 (bt483.1 != x2) (wrap64 (rd ((x0.take ((wrap64 (x11 + x10)) : Int).toNat).drop (x11 : Int).toNat) 0)) x478001 x478002 x478003) else (spec_l14Next.j1 k x0 x1 x10 x11 ((x0.take ((wrap64 (x11 + x10)) : Int).toNat).drop (x11 : Int).toNat) bt483.1 bt483.2.1 true (wrap64 (rd ((x0.take ((wrap64 (x11 + x10)) : Int).toNat).drop (x11 : Int).toNat) 0)) x478001 x478002 x478003))) else (none)) else (none)) else (none)) else (none))
def spec_l14Next.j1 : Nat → List Int → Int → Int → Int → List Int → Int → Int → Bool → Int → Int → ByteArray → ByteArray → Option (Int × Int × ByteArray × ByteArray × (List (S66)) × Int × Bool)
 | 0, _, _, _, _, _, _, _, _, _, _, _, _ => none
 | k + 1, x0, x1, x10, x11, x13, x14, x15, x67, x478000, x478001, x478002, x478003 => if x67 = true then (some (x478000, x478001, x478002, x478003, ([] : List (S66)), 0, false)) else (if 0 ≤ x15 then (if x15 ≤ (x13.length : Int) then (if x478000 = 1 then ((spec_ReadDoc.f k (x13.drop (x15 : Int).toNat)).bind fun bt487 => (if bt487.2.2 = 0 then (spec_l14Next.j2 k x0 x1 x10 x11 x478000 x14 x478002 bt487.1 bt487.2.1) else (some (x478000, x14, x478002, x478003, ([] : List (S66)), 0, false)))) else (spec_l14Next.j2 k x0 x1 x10 x11 x478000 x14 (strOfNums (x13.drop (x15 : Int).toNat)) x478003 ([] : List (S66)))) else (none)) else (none))
def spec_l14Next.j2 : Nat → List Int → Int → Int → Int → Int → Int → ByteArray → ByteArray → List (S66) → Option (Int × Int × ByteArray × ByteArray × (List (S66)) × Int × Bool)
 | 0, _, _, _, _, _, _, _, _, _ => none
 | k + 1, x0, x1, x10, x11, x478000, x478001, x478002, x478003, x478004 => (spec_l14RecordOK.f k x478000 x478001 x478002 x478003 x478004).bind fun t493 => (if t493 = true then ((spec_l14Bytes.f k x478000 x478001 x478002 x478003 x478004).bind fun t494 => (if 0 ≤ x1 then (if x1 ≤ (wrap64 ((wrap64 (x11 + x10)) + 4)) then (if (wrap64 ((wrap64 (x11 + x10)) + 4)) ≤ (x0.length : Int) then (if (strOfNums t494).toList = (strOfNums ((x0.take ((wrap64 ((wrap64 (x11 + x10)) + 4)) : Int).toNat).drop (x1 : Int).toNat)).toList then (some (x478000, x478001, x478002, x478003, x478004, wrap64 ((wrap64 (x11 + x10)) + 4), true)) else (some (x478000, x478001, x478002, x478003, x478004, 0, false))) else (none)) else (none)) else (none))) else (some (x478000, x478001, x478002, x478003, x478004, 0, false)))
end
def spec_l14Next.f (k : Nat) (l0 : List Int) (a1 : Int) (a2 : Int) : Option (Int × Int × ByteArray × ByteArray × (List (S66)) × Int × Bool) := (spec_l03Get.f k l0 a1).bind fun bt478 => (if bt478.2.2 = true then (if bt478.1 < 2 then (spec_l14Next.j0 k l0 a1 a2 bt478.1 bt478.2.1 true 0 0 (⟨#[]⟩ : ByteArray) (⟨#[]⟩ : ByteArray)) else (spec_l14Next.j0 k l0 a1 a2 bt478.1 bt478.2.1 (decide (bt478.1 > (wrap64 ((wrap64 ((l0.length : Int) - bt478.2.1)) - 4)))) 0 0 (⟨#[]⟩ : ByteArray) (⟨#[]⟩ : ByteArray))) else (spec_l14Next.j0 k l0 a1 a2 bt478.1 bt478.2.1 true 0 0 (⟨#[]⟩ : ByteArray) (⟨#[]⟩ : ByteArray)))
theorem spec_l14Next.mono_l : ∀ k, (∀ y0 y1 y2 y3 y4 y5 y6 y7 y8 y9, LeO (spec_l14Next.j0 k y0 y1 y2 y3 y4 y5 y6 y7 y8 y9) (spec_l14Next.j0 (k + 1) y0 y1 y2 y3 y4 y5 y6 y7 y8 y9)) ∧ (∀ y0 y1 y2 y3 y4 y5 y6 y7 y8 y9 y10 y11, LeO (spec_l14Next.j1 k y0 y1 y2 y3 y4 y5 y6 y7 y8 y9 y10 y11) (spec_l14Next.j1 (k + 1) y0 y1 y2 y3 y4 y5 y6 y7 y8 y9 y10 y11)) ∧ (∀ y0 y1 y2 y3 y4 y5 y6 y7 y8, LeO (spec_l14Next.j2 k y0 y1 y2 y3 y4 y5 y6 y7 y8) (spec_l14Next.j2 (k + 1) y0 y1 y2 y3 y4 y5 y6 y7 y8))
 | 0 => ⟨fun _ _ _ _ _ _ _ _ _ _ r h => by simp [spec_l14Next.j0] at h, fun _ _ _ _ _ _ _ _ _ _ _ _ r h => by simp [spec_l14Next.j1] at h, fun _ _ _ _ _ _ _ _ _ r h => by simp [spec_l14Next.j2] at h⟩
 | k + 1 => by
  obtain ⟨ih0, ih1, ih2⟩ := spec_l14Next.mono_l k
  refine ⟨?_, ?_, ?_⟩
  all_goals intros
  all_goals first | unfold spec_l14Next.j0 | unfold spec_l14Next.j1 | unfold spec_l14Next.j2
  all_goals
   repeat' first
   | (with_reducible exact ih0 _ _ _ _ _ _ _ _ _ _)
   | (with_reducible exact ih1 _ _ _ _ _ _ _ _ _ _ _ _)
   | (with_reducible exact ih2 _ _ _ _ _ _ _ _ _)
   | (with_reducible exact spec_ReadDoc.mono _ _)
   | (with_reducible exact spec_l03Get.mono _ _ _)
   | (with_reducible exact spec_l14Bytes.mono _ _ _ _ _ _)
   | (with_reducible exact spec_l14RecordOK.mono _ _ _ _ _ _)
   | (with_reducible exact LeO.refl _)
   | (with_reducible exact LeO.none _)
   | (with_reducible refine LeO.ite ?_ ?_)
   | (with_reducible refine LeO.bind ?_ (fun _ => ?_))
theorem spec_l14Next.mono : ∀ a0 a1 a2 k, LeO (spec_l14Next.f k a0 a1 a2) (spec_l14Next.f (k + 1) a0 a1 a2) := by
 intro a0 a1 a2 k
 obtain ⟨ih0, ih1, ih2⟩ := spec_l14Next.mono_l k
 unfold spec_l14Next.f
 repeat' first
  | (with_reducible exact ih0 _ _ _ _ _ _ _ _ _ _)
  | (with_reducible exact ih1 _ _ _ _ _ _ _ _ _ _ _ _)
  | (with_reducible exact ih2 _ _ _ _ _ _ _ _ _)
  | (with_reducible exact spec_ReadDoc.mono _ _)
  | (with_reducible exact spec_l03Get.mono _ _ _)
  | (with_reducible exact spec_l14Bytes.mono _ _ _ _ _ _)
  | (with_reducible exact spec_l14RecordOK.mono _ _ _ _ _ _)
  | (with_reducible exact LeO.refl _)
  | (with_reducible exact LeO.none _)
  | (with_reducible refine LeO.ite ?_ ?_)
  | (with_reducible refine LeO.bind ?_ (fun _ => ?_))
def spec_l14Next.T19 : Bool × List (List Nat × List Nat) := (true, [([], []), ([0], [0]), ([1], [1]), ([2, 1], [2]), ([3], [3]), ([4, 3, 3], [3, 4]), ([5, 3], [3, 5]), ([3], [3]), ([3], [3]), ([3], [3]), ([7, 8, 9, 3], [3, 7, 8, 9]), ([10, 3], [3, 10]), ([6, 11, 3], [3, 6, 11]), ([3, 12], [3, 12])])
def spec_l14Next.B19 : List Nat := [0, 1, 3, 7, 15, 31, 63, 15, 15, 15, 911, 1935, 4095, 8191]
theorem spec_l14Next.tab19 : rtab .any (opsOf Try.f59 19) = spec_l14Next.T19 := by kernel_rfl
theorem spec_l14Next.bits19 : waitsOk spec_l14Next.T19.2 spec_l14Next.B19 = true := by kernel_rfl
set_option maxHeartbeats 8000000 in
set_option maxRecDepth 100000 in
theorem spec_l14Next.calls (k : Nat) (A0 : Option Addr) (c0 : Nat) (l0 : List Int) (a1 : Int) (a2 : Int) (r1 : Int) (r2 : Int) (r3 : ByteArray) (r4 : ByteArray) (r5 : List (S66)) (r6 : Int) (r7 : Bool) (w : World) (hr0 : Kd.C (Kd.int .u8) w A0 l0.length l0) (hc0 : l0.length ≤ c0) (h : spec_l14Next.f k l0 a1 a2 = some (r1, r2, r3, r4, r5, r6, r7)) :
 Calls Try.prog 59 #[.slice A0 l0.length c0, .int .i64 a1, .int .i64 a2] w fun e w' => ∃ v4_ : Value, e = .returned (.tuple #[.agg #[.int .i64 r1, .int .i64 r2, .string r3, .string r4, v4_], .int .i64 r6, .bool r7]) ∧ Kd.S k66 66 w' w.heap.size (fun _ => True) v4_ r5 ∧ Below w.heap.size w w' := by
 have hu47 := Try.underlying47
 have hu31 := Try.underlying31
 have HR0 := Aside0.mk hr0
 have HC0 := Aside0.mk hc0
 clear hr0 hc0
 have HB := Aside0.mk (Below.refl w.heap.size w)
 have H := h
 unfold spec_l14Next.f at H
 clear h
 replace H := Option.bind_eq_some_iff.mp H
 obtain ⟨⟨t478, t479, t480⟩, A40, H⟩ := H
 try dsimp only at H
 have A4 := Aside0.mk A40
 clear A40
 have HC5 := Aside0.mk H
 clear H
 go_enter Try.func59, Try.ntmps59
 go_upto_region 3 with (first | ((with_reducible refine gate_dst (N := 6) rfl ?_); (try (refine gate_guard (by rfl) ?_; dsimp only)); refine box_event (by rfl) (N := 6) (by rfl) (cs := #[.int .i64 0, .int .i64 0, .string (⟨#[]⟩ : ByteArray), .string (⟨#[]⟩ : ByteArray), .slice none 0 0]) (t := 47) zgs ?_; intro gb476 hg w6 hbox hb; have BK476 := Aside0.mk (hbox); have GW476 := zge hg (below_size (zh HB)); have GE476 := zge hg (below_size (zh HB)); replace HB := Aside0.mk (below_step (zh HB) hb); clear hb hbox hg) | ((with_reducible refine gate_dst (N := 9) rfl ?_); (try (refine gate_guard (by rfl) ?_; dsimp only)); refine box_event (by rfl) (N := 9) (by rfl) (cs := #[.int .i64 0, .int .i64 0, .string (⟨#[]⟩ : ByteArray), .string (⟨#[]⟩ : ByteArray), .slice none 0 0]) (t := 47) zgs ?_; intro gb477 hg w7 hbox hb; have BK477 := Aside0.mk (hbox); have GW477 := zge hg (below_size (zg HB)); have GE477 := zge hg (below_size (zg HB)); replace HB := Aside0.mk (below_step (zg HB) hb); have NB476_477 := znl hg (blk_lt (zb BK476)); have NB477_476 := zng hg (blk_lt (zb BK476)); replace BK476 := Aside0.mk (blk_below (zb BK476) hb); clear hb hbox hg; have hnb8 := NB477_476.out; have hnc8 := NB476_477.out; obtain ⟨⟨hcz9_0, hcz9_1, hcz9_2, hcz9_3, hcz9_4⟩, hfz9_0, hfz9_1, hfz9_2, hfz9_3, hfz9_4⟩ := zc5 BK477) | ((with_reducible refine gate_callee (f := 89) rfl ?_); refine goesL_ (some 24) rfl rfl Try.func89 (by kernel_rfl) rfl #[.slice A0 l0.length c0, .int .i64 a1] rfl zar ?_; (with_reducible refine (spec_l03Get.calls k _ _ l0 a1 t478 t479 t480 _ ?side1 ?side2 A4.out).mono ?_); (case side1 => exact Kd.C_below HR0.out (zg HB)); (case side2 => exact HC0.out); rintro e w' ⟨rfl, ⟨nd, rfl⟩⟩; refine ⟨_, rfl, ?_⟩))
 (try simp only [Act.put, List.setIfInBounds_toArray, List.set_cons_zero, List.set_cons_succ])
 go_cut [42] (fun v42 wc => ∃ (kq : Nat) (x42_4 : Bool), v42 = .bool x42_4 ∧ Aside0 (spec_l14Next.j0 kq l0 a1 a2 t478 t479 x42_4 0 0 (⟨#[]⟩ : ByteArray) (⟨#[]⟩ : ByteArray) = some (r1, r2, r3, r4, r5, r6, r7)) ∧ Aside0 (kq ≤ k) ∧ Aside0 (wc.heap[gb476]? = some (.cells #[.int .i64 0, .int .i64 0, .string (⟨#[]⟩ : ByteArray), .string (⟨#[]⟩ : ByteArray), (.slice none 0 0)] 47 (0, 0))) ∧ Aside0 (wc.heap[gb477]? = some (.cells #[.int .i64 0, .int .i64 0, .string (⟨#[]⟩ : ByteArray), .string (⟨#[]⟩ : ByteArray), (.slice none 0 0)] 47 (0, 0))) ∧ Aside0 (Below w.heap.size w wc))
 case first =>
  have H := HC5.out
  clear HC5
  by_cases c10 : t480 = true
  rotate_left
  ·replace c10 := Bool.eq_false_iff.mpr c10
   subst c10
   rw [if_neg (show ¬ (false = true) by decide)] at H
   have H' := Aside0.mk H
   clear H
   go_wp2
   go_meet
   case rel => exact ⟨_, (true), zrs, H', ⟨by first | omega | exact Nat.le_refl _⟩, ⟨zp BK476⟩, ⟨zp BK477⟩, ⟨zg HB⟩⟩
  subst c10
  rw [if_pos rfl] at H
  by_cases c11 : t478 < 2
  ·rw [if_pos c11] at H
   have c11b0 : decide (t478 < 2) = true := decide_eq_true c11
   clear c11
   (first | rw [c11b0] | (simp only [i64_w, i32_w]; rw [c11b0]) | skip)
   have H' := Aside0.mk H
   clear H
   go_wp2
   go_meet
   case rel => exact ⟨_, (true), zrs, H', ⟨by first | omega | exact Nat.le_refl _⟩, ⟨zp BK476⟩, ⟨zp BK477⟩, ⟨zg HB⟩⟩
  rw [if_neg c11] at H
  have c11b0 : decide (t478 < 2) = false := decide_eq_false c11
  clear c11
  (first | rw [c11b0] | (simp only [i64_w, i32_w]; rw [c11b0]) | skip)
  have H' := Aside0.mk H
  clear H
  go_wp2
  go_meet
  case rel => exact ⟨_, (decide (t478 > (wrap64 ((wrap64 ((l0.length : Int) - t479)) - 4)))), zrs, H', ⟨by first | omega | exact Nat.le_refl _⟩, ⟨zp BK476⟩, ⟨zp BK477⟩, ⟨zg HB⟩⟩
 case rest =>
  clear HC5
  try clear hcz9_0 hcz9_1 hcz9_2 hcz9_3 hcz9_4 hfz9_0 hfz9_1 hfz9_2 hfz9_3 hfz9_4
  obtain ⟨kq, x42_4, rfl, HA, HJ4, BK476, BK477, HB⟩ := hcut
  cases kq with
  | zero => exact absurd HA.out (by simp [spec_l14Next.j0])
  | succ kj4 =>
   have H := HA.out
   clear HA
   simp only [spec_l14Next.j0] at H
   by_cases c12 : x42_4 = true
   ·subst c12
    rw [if_pos rfl] at H
    simp only [Option.some.injEq, Prod.mk.injEq] at H
    obtain ⟨rfl, rfl, rfl, rfl, rfl, rfl, rfl⟩ := H
    have hnb13 := NB477_476.out
    have hnc13 := NB476_477.out
    obtain ⟨⟨hcz14_0, hcz14_1, hcz14_2, hcz14_3, hcz14_4⟩, hfz14_0, hfz14_1, hfz14_2, hfz14_3, hfz14_4⟩ := zc5 BK477
    obtain ⟨⟨hcz15_0, hcz15_1, hcz15_2, hcz15_3, hcz15_4⟩, hfz15_0, hfz15_1, hfz15_2, hfz15_3, hfz15_4⟩ := zc5 BK476
    go_wp2
    refine bodyPost_ret (results_ctt rfl _ _ gb476 47 #[.int .i64 0, .int .i64 0, .string (⟨#[]⟩ : ByteArray), .string (⟨#[]⟩ : ByteArray), .slice none 0 0] (0, 0) _ rfl (zp BK476) Try.underlying47 rfl (by kernel_rfl)) rfl ?_
    exact ⟨_, zre, by first | exact Kd.S_nil _ _ _ _ _ | exact Kd.N_nil _ _ _ _ _ | exact Kd.V_nil _ _ _ _ _ | exact Kd.Q_nil _ _ _ _ _ | exact Kd.R_nil _ _ _ _ _, zg HB⟩
   replace c12 := Bool.eq_false_iff.mpr c12
   subst c12
   rw [if_neg (show ¬ (false = true) by decide)] at H
   by_cases c16 : 0 ≤ t479
   rotate_left
   ·rw [if_neg c16] at H
    exact absurd H (by simp)

   rw [if_pos c16] at H
   have c16b0 := eq_true c16
   have c16b1 : decide (0 ≤ t479) = true := decide_eq_true c16
   clear c16
   by_cases c17 : t479 ≤ (wrap64 (t479 + t478))
   rotate_left
   ·rw [if_neg c17] at H
    exact absurd H (by simp)
   rw [if_pos c17] at H
   have c17b0 := eq_true c17
   have c17b1 : decide (t479 ≤ (wrap64 (t479 + t478))) = true := decide_eq_true c17
   by_cases c18 : (wrap64 (t479 + t478)) ≤ (l0.length : Int)
   rotate_left
   ·rw [if_neg c18] at H
    exact absurd H (by simp)
   rw [if_pos c18] at H
   have c18b0 := eq_true c18
   have c18b1 : decide ((wrap64 (t479 + t478)) ≤ (l0.length : Int)) = true := decide_eq_true c18
   obtain ⟨lcu1_, hlcu1_⟩ : ∃ lc_ : List Int, lc_ = ((l0.take ((wrap64 (t479 + t478)) : Int).toNat).drop (t479 : Int).toNat) := ⟨_, rfl⟩
   rw [← hlcu1_] at H; replace hlcu1_ := Aside0.mk hlcu1_
   by_cases c19 : 0 < (lcu1_.length : Int)
   rotate_left
   ·rw [if_neg c19] at H
    exact absurd H (by simp)
   rw [if_pos c19] at H
   have c19b0 : decide (0 < (lcu1_.length : Int)) = true := decide_eq_true c19
   have c19b1 : decide (0 < lcu1_.length) = true := decide_eq_true (by omega)
   clear c19
   replace H := Option.bind_eq_some_iff.mp H
   obtain ⟨⟨t483, t484, t485⟩, A200, H⟩ := H
   try dsimp only at H
   have A20 := Aside0.mk A200
   clear A200
   have HC21 := Aside0.mk H
   clear H
   obtain ⟨i022, hi022, _, hsz22, _⟩ := info_parts info5
   obtain ⟨A22, hcut22, hA22, hC22⟩ := print_mid_of (P := Try.prog) (Value.int .u8) 0 26 5 .i64 .i64 Try.underlying26 hi022 hsz22 A0 c0 l0 t479 (wrap64 (t479 + t478)) (of_decide_eq_true zas) (by first | omega | exact of_decide_eq_true zas) (of_decide_eq_true zas) HC0.out
   (try simp only [← hlcu1_.out] at hcut22 hA22 hC22)
   have HR481 := Aside0.mk (Kd.C_of_reads (h1 := fun _ => rfl) (hA22 _ (Kd.reads_of_C HR0.out)))
   have HC481 := Aside0.mk hC22
   clear hA22 hC22 hi022 hsz22
   have p482 : 0 ≤ (0 : Int) := (by omega)
   have q482 : 0 < (lcu1_.length : Int) := of_decide_eq_true zas
   obtain ⟨ad482, e482, hx482_0⟩ := Kd.at_int HR481.out 0 p482 q482
   cases e482
   have qi482 : (0 < lcu1_.length) = True := eq_true (by omega)
   (try rw [show ((0 : Int)).toNat = 0 from rfl] at hx482_0)
   (try rw [Addr.add_zero'] at hx482_0)
   replace hx482_0 := zx HB hx482_0
   replace p482 := eq_true p482
   replace q482 := eq_true q482
   have hnb23 := NB477_476.out
   have hnc23 := NB476_477.out
   obtain ⟨⟨hcz24_0, hcz24_1, hcz24_2, hcz24_3, hcz24_4⟩, hfz24_0, hfz24_1, hfz24_2, hfz24_3, hfz24_4⟩ := zc5 BK477
   go_upto_region 8 with (first | ((with_reducible refine gate_callee (f := 89) rfl ?_); refine goesL_ (some 57) rfl rfl Try.func89 (by kernel_rfl) rfl #[.slice (some ad482) lcu1_.length (c0 - t479.toNat), .int .i64 1] rfl (by (try simp only [List.map_toArray, List.map_cons, List.map_nil]); first | done | (rw [show lcu1_.length = ((wrap64 (t479 + t478)).toNat - t479.toNat) from (by rw [List.length_drop, List.length_take]; have h_ : ((wrap64 (t479 + t478)) : Int) ≤ (l0.length : Int) := of_decide_eq_true zas; omega)] <;> rfl) | rfl | (simp only [List.length_drop, List.length_take]; rfl)) ?_; (with_reducible refine (spec_l03Get.calls kj4 _ _ lcu1_ 1 t483 t484 t485 _ ?side1 ?side2 A20.out).mono ?_); (case side1 => exact Kd.C_below HR481.out (zg HB)); (case side2 => exact HC481.out); rintro e w' ⟨rfl, ⟨nd, rfl⟩⟩; refine ⟨_, rfl, ?_⟩))
   (try simp only [Act.put, List.setIfInBounds_toArray, List.set_cons_zero, List.set_cons_succ])
   go_cut [67] (fun v67 wc => ∃ (kq : Nat) (x67_20 : Bool), v67 = .bool x67_20 ∧ Aside0 (spec_l14Next.j1 kq l0 a1 t478 t479 lcu1_ t483 t484 x67_20 (wrap64 (rd lcu1_ 0)) 0 (⟨#[]⟩ : ByteArray) (⟨#[]⟩ : ByteArray) = some (r1, r2, r3, r4, r5, r6, r7)) ∧ Aside0 (kq ≤ kj4) ∧ Aside0 (wc.heap[gb476]? = some (.cells #[.int .i64 0, .int .i64 0, .string (⟨#[]⟩ : ByteArray), .string (⟨#[]⟩ : ByteArray), (.slice none 0 0)] 47 (0, 0))) ∧ Aside0 (wc.heap[gb477]? = some (.cells #[.int .i64 (wrap64 (rd lcu1_ 0)), .int .i64 0, .string (⟨#[]⟩ : ByteArray), .string (⟨#[]⟩ : ByteArray), (.slice none 0 0)] 47 (0, 0))) ∧ Aside0 (Below w.heap.size w wc))
   case first =>
    have H := HC21.out
    clear HC21
    by_cases c25 : t485 = true
    ·subst c25
     rw [if_pos rfl] at H
     have H' := Aside0.mk H
     clear H
     go_wp2
     go_meet
     case rel => exact ⟨_, ((t483 != a2)), zrs, H', ⟨by have := HJ4.out; first | omega | exact Nat.le_refl _⟩, ⟨zp BK476⟩, ⟨zp BK477⟩, ⟨zg HB⟩⟩
    replace c25 := Bool.eq_false_iff.mpr c25
    subst c25
    rw [if_neg (show ¬ (false = true) by decide)] at H
    have H' := Aside0.mk H
    clear H
    go_wp2
    go_meet
    case rel => exact ⟨_, (true), zrs, H', ⟨by have := HJ4.out; first | omega | exact Nat.le_refl _⟩, ⟨zp BK476⟩, ⟨zp BK477⟩, ⟨zg HB⟩⟩
   case rest =>
    clear HC21
    try clear c12
    try clear c16
    try clear c16b0
    try clear c16b1
    try clear c17
    try clear c17b0
    try clear c17b1
    try clear c18
    try clear c18b0
    try clear c18b1
    try clear c19
    try clear c19b0
    try clear c19b1
    try clear hcz24_0 hcz24_1 hcz24_2 hcz24_3 hcz24_4
    try clear hcz9_0 hcz9_1 hcz9_2 hcz9_3 hcz9_4
    try clear hfz24_0 hfz24_1 hfz24_2 hfz24_3 hfz24_4
    try clear hfz9_0 hfz9_1 hfz9_2 hfz9_3 hfz9_4
    try clear hx482_0
    try clear p482
    try clear q482
    obtain ⟨kq, x67_20, rfl, HA, HJ20, BK476, BK477, HB⟩ := hcut
    cases kq with
    | zero => exact absurd HA.out (by simp [spec_l14Next.j1])
    | succ kj20 =>
     have H := HA.out
     clear HA
     simp only [spec_l14Next.j1] at H
     by_cases c26 : x67_20 = true
     ·subst c26
      rw [if_pos rfl] at H
      simp only [Option.some.injEq, Prod.mk.injEq] at H
      obtain ⟨rfl, rfl, rfl, rfl, rfl, rfl, rfl⟩ := H
      have hnb27 := NB477_476.out
      have hnc27 := NB476_477.out
      obtain ⟨⟨hcz28_0, hcz28_1, hcz28_2, hcz28_3, hcz28_4⟩, hfz28_0, hfz28_1, hfz28_2, hfz28_3, hfz28_4⟩ := zc5 BK477
      obtain ⟨⟨hcz29_0, hcz29_1, hcz29_2, hcz29_3, hcz29_4⟩, hfz29_0, hfz29_1, hfz29_2, hfz29_3, hfz29_4⟩ := zc5 BK476
      go_wp2
      refine bodyPost_ret (results_ctt rfl _ _ gb476 47 #[.int .i64 (wrap64 (rd lcu1_ 0)), .int .i64 0, .string (⟨#[]⟩ : ByteArray), .string (⟨#[]⟩ : ByteArray), .slice none 0 0] (0, 0) _ rfl (zp BK476) Try.underlying47 rfl (by kernel_rfl)) rfl ?_
      exact ⟨_, zre, by first | exact Kd.S_nil _ _ _ _ _ | exact Kd.N_nil _ _ _ _ _ | exact Kd.V_nil _ _ _ _ _ | exact Kd.Q_nil _ _ _ _ _ | exact Kd.R_nil _ _ _ _ _, zg HB⟩
     replace c26 := Bool.eq_false_iff.mpr c26
     subst c26
     rw [if_neg (show ¬ (false = true) by decide)] at H
     by_cases c30 : 0 ≤ t484
     rotate_left
     ·rw [if_neg c30] at H
      exact absurd H (by simp)
     rw [if_pos c30] at H
     have c30b0 := eq_true c30
     have c30b1 : decide (0 ≤ t484) = true := decide_eq_true c30
     clear c30
     by_cases c31 : t484 ≤ (lcu1_.length : Int)
     rotate_left
     ·rw [if_neg c31] at H
      exact absurd H (by simp)
     rw [if_pos c31] at H
     have c31b0 := eq_true c31
     have c31b1 : decide (t484 ≤ (lcu1_.length : Int)) = true := decide_eq_true c31
     have HC32 := Aside0.mk H
     clear H
     have hnb33 := NB477_476.out
     have hnc33 := NB476_477.out
     obtain ⟨⟨hcz34_0, hcz34_1, hcz34_2, hcz34_3, hcz34_4⟩, hfz34_0, hfz34_1, hfz34_2, hfz34_3, hfz34_4⟩ := zc5 BK477
     obtain ⟨i035, hi035, _, hsz35, _⟩ := info_parts info5
     obtain ⟨A35, hcut35, hA35, hC35⟩ := print_drop_of (P := Try.prog) (Value.int .u8) 0 26 5 .i64 Try.underlying26 hi035 hsz35 (some ad482) (c0 - t479.toNat) lcu1_ t484 (of_decide_eq_true zas) (of_decide_eq_true zas) HC481.out
     have HR486 := Aside0.mk (Kd.C_of_reads (h1 := fun _ => rfl) (hA35 _ (Kd.reads_of_C HR481.out)))
     have HC486 := Aside0.mk hC35
     clear hA35 hC35 hi035 hsz35
     go_upto_if 76 with (fail)
     go_cut [] (fun wc => ∃ (kq : Nat) (x477000_31 : Int) (x477001_31 : Int) (x477002_31 : ByteArray) (x477003_31 : ByteArray) (x478002_31 : ByteArray) (x478003_31 : ByteArray) (x478004_31 : List (S66)) (u478004 : Value), Aside0 (spec_l14Next.j2 kq l0 a1 t478 t479 (wrap64 (rd lcu1_ 0)) t483 x478002_31 x478003_31 x478004_31 = some (r1, r2, r3, r4, r5, r6, r7)) ∧ Aside0 (kq ≤ kj20) ∧ Aside0 (Kd.S k66 66 wc w.heap.size (fun _ => True) u478004 x478004_31) ∧ Aside0 (wc.heap[gb476]? = some (.cells #[.int .i64 x477000_31, .int .i64 x477001_31, .string x477002_31, .string x477003_31, (.slice none 0 0)] 47 (0, 0))) ∧ Aside0 (wc.heap[gb477]? = some (.cells #[.int .i64 (wrap64 (rd lcu1_ 0)), .int .i64 t483, .string x478002_31, .string x478003_31, u478004] 47 (0, 0))) ∧ Aside0 (Below w.heap.size w wc))
     case first =>
      have H := HC32.out
      clear HC32
      by_cases c36 : (wrap64 (rd lcu1_ 0)) = 1
      rotate_left
      ·rw [if_neg c36] at H
       have c36b0 : ((wrap64 (rd lcu1_ 0)) == 1) = false := beq_eq_false_iff_ne.mpr c36
       have c36b1 : ((wrap64 (rd lcu1_ 0)) != 1) = true := bne_iff_ne.mpr c36
       (first | rw [c36b0] | (simp only [i64_w, i32_w]; rw [c36b0]) | skip)
       have H' := Aside0.mk H
       clear H
       have hcv58 := Kd.C_string (P := Try.prog) (A := A35) (c := ((c0 - t479.toNat) - t484.toNat)) Try.underlying26 Try.underlying5 Try.underlying9 (Kd.C_below HR486.out HB.out)
       have hcv58l := hcv58; (try simp only [List.length_drop] at hcv58l)
       have hcv58s := fun (o1_ : Nat) (v1_ : Value) => Kd.C_string (P := Try.prog) (A := A35) (c := ((c0 - t479.toNat) - t484.toNat)) Try.underlying26 Try.underlying5 Try.underlying9 (Kd.C_below HR486.out (below_set (g := gb477) (j := o1_) (v := v1_) HB.out GE477.out)); (try simp only [List.length_drop] at hcv58s)
       have hcv58t := fun (o1_ : Nat) (v1_ : Value) (n_ : Nat) (o2_ : Nat) (v2_ : Value) => Kd.C_string (P := Try.prog) (A := A35) (c := ((c0 - t479.toNat) - t484.toNat)) Try.underlying26 Try.underlying5 Try.underlying9 (Kd.C_below HR486.out (below_set (g := gb477) (j := o2_) (v := v2_) (pw_below_drewN (below_set (g := gb477) (j := o1_) (v := v1_) HB.out GE477.out) n_) GE477.out)); (try simp only [List.length_drop] at hcv58t)
       have hnb59 := NB477_476.out
       have hnc59 := NB476_477.out
       obtain ⟨⟨hcz60_0, hcz60_1, hcz60_2, hcz60_3, hcz60_4⟩, hfz60_0, hfz60_1, hfz60_2, hfz60_3, hfz60_4⟩ := zc5 BK477
       go_wp2
       go_meet
       case rel => exact ⟨_, (0), (0), ((⟨#[]⟩ : ByteArray)), ((⟨#[]⟩ : ByteArray)), (strOfNums (lcu1_.drop (t484 : Int).toNat)), ((⟨#[]⟩ : ByteArray)), (([] : List (S66))), (.slice none 0 0), H', ⟨by have := HJ4.out; have := HJ20.out; first | omega | exact Nat.le_refl _⟩, ⟨by first | exact Kd.S_nil _ _ _ _ _ | exact Kd.N_nil _ _ _ _ _ | exact Kd.V_nil _ _ _ _ _ | exact Kd.Q_nil _ _ _ _ _ | exact Kd.R_nil _ _ _ _ _⟩, ⟨zp BK476⟩, ⟨zp BK477⟩, ⟨zg HB⟩⟩
      rw [if_pos c36] at H
      have c36b0 : ((wrap64 (rd lcu1_ 0)) == 1) = true := beq_iff_eq.mpr c36
      have c36b1 : ((wrap64 (rd lcu1_ 0)) != 1) = false := bne_eq_false_iff_eq.mpr c36
      clear c36
      (first | rw [c36b0] | (simp only [i64_w, i32_w]; rw [c36b0]) | skip)
      replace H := Option.bind_eq_some_iff.mp H
      obtain ⟨⟨t487, t488, t491⟩, A370, H⟩ := H
      try dsimp only at H
      have A37 := Aside0.mk A370
      clear A370
      by_cases c38 : t491 = 0
      rotate_left
      ·rw [if_neg c38] at H
       have c38b0 : (t491 == 0) = false := beq_eq_false_iff_ne.mpr c38
       have c38b1 : (t491 != 0) = true := bne_iff_ne.mpr c38
       simp only [Option.some.injEq, Prod.mk.injEq] at H
       obtain ⟨rfl, rfl, rfl, rfl, rfl, rfl, rfl⟩ := H
       go_wp2_with (first | ((with_reducible refine gate_callee (f := 17) rfl ?_); refine goesL_ (some 79) rfl rfl Try.func17 (by kernel_rfl) rfl #[.slice A35 (lcu1_.drop (t484 : Int).toNat).length ((c0 - t479.toNat) - t484.toNat)] rfl (by (try simp only [List.map_toArray, List.map_cons, List.map_nil]); first | done | (rw [show (lcu1_.drop (t484 : Int).toNat).length = (lcu1_.length - t484.toNat) from List.length_drop] <;> rfl) | rfl | (simp only [List.length_drop, List.length_take]; rfl)) ?_; (with_reducible refine (spec_ReadDoc.calls kj20 _ _ (lcu1_.drop (t484 : Int).toNat) t487 t488 t491 _ ?side1 ?side2 A37.out).mono ?_); (case side1 => exact Kd.C_below HR486.out (zg HB)); (case side2 => exact HC486.out); rintro e w48 ⟨v489, rfl, ho0, hb⟩; refine ⟨_, rfl, ?_⟩; have HO490 := Aside0.mk (Kd.S_lower ho0 (below_size (zg HB))); replace BK476 := Aside0.mk (blk_below (g := gb476) (o := .cells #[.int .i64 0, .int .i64 0, .string (⟨#[]⟩ : ByteArray), .string (⟨#[]⟩ : ByteArray), .slice none 0 0] 47 (0, 0)) (zp BK476) hb); replace BK477 := Aside0.mk (blk_below (g := gb477) (o := .cells #[.int .i64 (wrap64 (rd lcu1_ 0)), .int .i64 t483, .string (⟨#[]⟩ : ByteArray), .string (⟨#[]⟩ : ByteArray), .slice none 0 0] 47 (0, 0)) (zp BK477) hb); replace HB := Aside0.mk (below_step (zg HB) hb); (try clear hb ho0); (try clear hb); (try clear hk); (try clear hi)) | ((with_reducible refine gate_dst (N := 17) rfl ?_); (try (refine gate_guard (by rfl) ?_; dsimp only)); refine box_event (by rfl) (N := 17) (by rfl) (cs := #[.string (⟨#[]⟩ : ByteArray), .slice none 0 0]) (t := 31) zgs ?_; intro gb492 hg w50 hbox hb; replace HO490 := Aside0.mk (Kd.S_below (zs HO490) hb); have BK492 := Aside0.mk (hbox); have GW492 := zge hg (below_size (zg HB)); have GE492 := zge hg (below_size (zg HB)); replace HB := Aside0.mk (below_step (zg HB) hb); have NB476_492 := znl hg (blk_lt (zb BK476)); have NB492_476 := zng hg (blk_lt (zb BK476)); replace BK476 := Aside0.mk (blk_below (zb BK476) hb); have NB477_492 := znl hg (blk_lt (zb BK477)); have NB492_477 := zng hg (blk_lt (zb BK477)); replace BK477 := Aside0.mk (blk_below (zb BK477) hb); clear hb hbox hg; have hnb51 := NB492_476.out; have hnc51 := NB476_492.out; have hnb52 := NB492_477.out; have hnc52 := NB477_492.out; obtain ⟨⟨hcz53_0, hcz53_1⟩, hfz53_0, hfz53_1⟩ := zc2 BK492; obtain ⟨Ao54, co54, eo54⟩ := Kd.S_slice HO490.out; subst eo54; have hnb55 := NB477_476.out; have hnc55 := NB476_477.out; obtain ⟨⟨hcz56_0, hcz56_1, hcz56_2, hcz56_3, hcz56_4⟩, hfz56_0, hfz56_1, hfz56_2, hfz56_3, hfz56_4⟩ := zc5 BK477; obtain ⟨⟨hcz57_0, hcz57_1, hcz57_2, hcz57_3, hcz57_4⟩, hfz57_0, hfz57_1, hfz57_2, hfz57_3, hfz57_4⟩ := zc5 BK476))
       refine bodyPost_ret (results_ctt rfl _ _ gb476 47 #[.int .i64 (wrap64 (rd lcu1_ 0)), .int .i64 t483, .string (⟨#[]⟩ : ByteArray), .string (⟨#[]⟩ : ByteArray), .slice none 0 0] (0, 0) _ rfl (zp BK476) Try.underlying47 rfl (by kernel_rfl)) rfl ?_
       exact ⟨_, zre, by first | exact Kd.S_nil _ _ _ _ _ | exact Kd.N_nil _ _ _ _ _ | exact Kd.V_nil _ _ _ _ _ | exact Kd.Q_nil _ _ _ _ _ | exact Kd.R_nil _ _ _ _ _, zg HB⟩
      rw [if_pos c38] at H
      have c38b0 : (t491 == 0) = true := beq_iff_eq.mpr c38
      have c38b1 : (t491 != 0) = false := bne_eq_false_iff_eq.mpr c38
      clear c38
      have H' := Aside0.mk H
      clear H
      go_wp2_with (first | ((with_reducible refine gate_callee (f := 17) rfl ?_); refine goesL_ (some 79) rfl rfl Try.func17 (by kernel_rfl) rfl #[.slice A35 (lcu1_.drop (t484 : Int).toNat).length ((c0 - t479.toNat) - t484.toNat)] rfl (by (try simp only [List.map_toArray, List.map_cons, List.map_nil]); first | done | (rw [show (lcu1_.drop (t484 : Int).toNat).length = (lcu1_.length - t484.toNat) from List.length_drop] <;> rfl) | rfl | (simp only [List.length_drop, List.length_take]; rfl)) ?_; (with_reducible refine (spec_ReadDoc.calls kj20 _ _ (lcu1_.drop (t484 : Int).toNat) t487 t488 t491 _ ?side1 ?side2 A37.out).mono ?_); (case side1 => exact Kd.C_below HR486.out (zg HB)); (case side2 => exact HC486.out); rintro e w39 ⟨v489, rfl, ho0, hb⟩; refine ⟨_, rfl, ?_⟩; have HO490 := Aside0.mk (Kd.S_lower ho0 (below_size (zg HB))); replace BK476 := Aside0.mk (blk_below (g := gb476) (o := .cells #[.int .i64 0, .int .i64 0, .string (⟨#[]⟩ : ByteArray), .string (⟨#[]⟩ : ByteArray), .slice none 0 0] 47 (0, 0)) (zp BK476) hb); replace BK477 := Aside0.mk (blk_below (g := gb477) (o := .cells #[.int .i64 (wrap64 (rd lcu1_ 0)), .int .i64 t483, .string (⟨#[]⟩ : ByteArray), .string (⟨#[]⟩ : ByteArray), .slice none 0 0] 47 (0, 0)) (zp BK477) hb); replace HB := Aside0.mk (below_step (zg HB) hb); (try clear hb ho0); (try clear hb); (try clear hk); (try clear hi)) | ((with_reducible refine gate_dst (N := 17) rfl ?_); (try (refine gate_guard (by rfl) ?_; dsimp only)); refine box_event (by rfl) (N := 17) (by rfl) (cs := #[.string (⟨#[]⟩ : ByteArray), .slice none 0 0]) (t := 31) zgs ?_; intro gb492 hg w41 hbox hb; replace HO490 := Aside0.mk (Kd.S_below (zs HO490) hb); have BK492 := Aside0.mk (hbox); have GW492 := zge hg (below_size (zg HB)); have GE492 := zge hg (below_size (zg HB)); replace HB := Aside0.mk (below_step (zg HB) hb); have NB476_492 := znl hg (blk_lt (zb BK476)); have NB492_476 := zng hg (blk_lt (zb BK476)); replace BK476 := Aside0.mk (blk_below (zb BK476) hb); have NB477_492 := znl hg (blk_lt (zb BK477)); have NB492_477 := zng hg (blk_lt (zb BK477)); replace BK477 := Aside0.mk (blk_below (zb BK477) hb); clear hb hbox hg; have hnb42 := NB492_476.out; have hnc42 := NB476_492.out; have hnb43 := NB492_477.out; have hnc43 := NB477_492.out; obtain ⟨⟨hcz44_0, hcz44_1⟩, hfz44_0, hfz44_1⟩ := zc2 BK492; obtain ⟨Ao45, co45, eo45⟩ := Kd.S_slice HO490.out; subst eo45; have hnb46 := NB477_476.out; have hnc46 := NB476_477.out; obtain ⟨⟨hcz47_0, hcz47_1, hcz47_2, hcz47_3, hcz47_4⟩, hfz47_0, hfz47_1, hfz47_2, hfz47_3, hfz47_4⟩ := zc5 BK477))
      go_meet
      case rel => exact ⟨_, (0), (0), ((⟨#[]⟩ : ByteArray)), ((⟨#[]⟩ : ByteArray)), ((⟨#[]⟩ : ByteArray)), (t487), (t488), (.slice Ao45 t488.length co45), H', ⟨by have := HJ4.out; have := HJ20.out; first | omega | exact Nat.le_refl _⟩, ⟨by (with_reducible repeat (first | apply Kd.S_alloc | apply Kd.S_drewN | apply Kd.S_drew)); exact Kd.S_mono (Kd.S_far (p := ⟨gb477, 4, none⟩) (Kd.S_far (p := ⟨gb477, 3, none⟩) (Kd.S_far (p := ⟨gb492, 1, none⟩) (Kd.S_far (p := ⟨gb492, 0, none⟩) (Kd.S_types (Kd.S_types HO490.out BK492.out (by decide)) BK477.out (by decide)) (fun _ hk => hk.1.2) (.string t487)) (fun _ hk => hk.1.2) (.slice Ao45 t488.length co45)) (fun _ hk => hk.2) (.string t487)) (fun _ hk => hk.2) (.slice Ao45 t488.length co45)) (fun _ hk => trivial)⟩, ⟨zp BK476⟩, ⟨zp BK477⟩, ⟨zg HB⟩⟩
     case rest =>
      clear HC32
      try clear c12
      try clear c16
      try clear c16b0
      try clear c16b1
      try clear c17
      try clear c17b0
      try clear c17b1
      try clear c18
      try clear c18b0
      try clear c18b1
      try clear c19
      try clear c19b0
      try clear c19b1
      try clear c26
      try clear c30
      try clear c30b0
      try clear c30b1
      try clear c31
      try clear c31b0
      try clear c31b1
      try clear hcz24_0 hcz24_1 hcz24_2 hcz24_3 hcz24_4
      try clear hcz34_0 hcz34_1 hcz34_2 hcz34_3 hcz34_4
      try clear hcz9_0 hcz9_1 hcz9_2 hcz9_3 hcz9_4
      try clear hfz24_0 hfz24_1 hfz24_2 hfz24_3 hfz24_4
      try clear hfz34_0 hfz34_1 hfz34_2 hfz34_3 hfz34_4
      try clear hfz9_0 hfz9_1 hfz9_2 hfz9_3 hfz9_4
      try clear hx482_0
      try clear p482
      try clear q482
      obtain ⟨kq, x477000_31, x477001_31, x477002_31, x477003_31, x478002_31, x478003_31, x478004_31, u478004, HA, HJ31, HO_478004, BK476, BK477, HB⟩ := hcut
      cases kq with
      | zero => exact absurd HA.out (by simp [spec_l14Next.j2])
      | succ kj31 =>
       have H := HA.out
       clear HA
       simp only [spec_l14Next.j2] at H
       replace H := Option.bind_eq_some_iff.mp H
       obtain ⟨t493, A610, H⟩ := H
       try dsimp only at H
       have A61 := Aside0.mk A610
       clear A610
       by_cases c62 : t493 = true
       rotate_left
       ·replace c62 := Bool.eq_false_iff.mpr c62
        subst c62
        rw [if_neg (show ¬ (false = true) by decide)] at H
        simp only [Option.some.injEq, Prod.mk.injEq] at H
        obtain ⟨rfl, rfl, rfl, rfl, rfl, rfl, rfl⟩ := H
        try go_wp2
        replace HO_478004 := Aside0.mk (Kd.S_drew HO_478004.out)
        replace BK476 := Aside0.mk (blk_drew BK476.out)
        replace BK477 := Aside0.mk (blk_drew BK477.out)
        replace HB := Aside0.mk (below_drew1 HB.out)
        obtain ⟨Ao95, co95, eo95⟩ := Kd.S_slice HO_478004.out
        (first | subst eo95 | (injection eo95 with f1_ f2_ f3_; have f4_ := f1_.symm; have f5_ := f3_.symm; clear f1_ f2_ f3_; subst f4_; subst f5_))
        refine start_ (n := 14) (S := fun w' => w'.cell? ⟨gb477, 0, none⟩ = some (.int .i64 (wrap64 (rd lcu1_ 0))) ∧ w'.cell? ⟨gb477, 1, none⟩ = some (.int .i64 t483) ∧ w'.cell? ⟨gb477, 2, none⟩ = some (.string x478002_31) ∧ w'.cell? ⟨gb477, 3, none⟩ = some (.string x478003_31) ∧ w'.cell? ⟨gb477, 4, none⟩ = some (.slice Ao95 x478004_31.length co95)) (ds := []) (fl16_ 14 0) (by kernel_rfl) rfl rfl ⟨(blk_cell BK477.out 0).trans rfl, (blk_cell BK477.out 1).trans rfl, (blk_cell BK477.out 2).trans rfl, (blk_cell BK477.out 3).trans rfl, (blk_cell BK477.out 4).trans rfl⟩ (fun hHeld => ?_); refine with_tabW spec_l14Next.tab19 spec_l14Next.bits19 (fun HT_ HW_ => ?_)
        generalize wc.drew = w94 at HO_478004 BK476 BK477 HB hHeld ⊢
        refine take_ (i := 0) (N := some 94) (v := ?_) (a' := ?_) (fl16_ 14 1) rfl rfl (take_ofW HT_.out HW_.out (by kernel_rfl)) (fun _ _ _ h => h) (Or.inl ⟨by rfl, ?_⟩) hHeld ?_ ?_
        rotate_left
        ·rintro w' ⟨s0, s1, s2, s3, s4⟩
         go_simp
         with_reducible rfl
        rotate_left
        ·simp only [Act.put, List.setIfInBounds_toArray, List.set_cons_zero, List.set_cons_succ, i64_w, i32_w]
         rfl
        refine one_ (i := 1) (N := some 95) (fl16_ 14 3) rfl rfl (one_of HT_.out (by kernel_rfl)) (by decide) (fun K hK => ?_)
        refine goes_ Try.func46 (by kernel_rfl) rfl #[.agg #[.int .i64 (wrap64 (rd lcu1_ 0)), .int .i64 t483, .string x478002_31, .string x478003_31, .slice Ao95 x478004_31.length co95]] (by rfl) rfl rfl zar ?_
        with_reducible refine (spec_l14RecordOK.calls kj31 (wrap64 (rd lcu1_ 0)) t483 x478002_31 x478003_31 _ _ x478004_31 false _ ?side1 ?side2 A61.out).mono ?_
        (case side1 => exact zC (Kd.S_reads' HO_478004.out).2.2)
        (case side2 => exact (Kd.S_reads' HO_478004.out).2.1)
        rintro e w96 ⟨rfl, hb⟩
        refine ⟨_, rfl, ?_⟩
        replace HO_478004 := Aside0.mk (Kd.S_below (zs HO_478004) hb)
        replace BK476 := Aside0.mk (blk_below (zb BK476) hb)
        replace BK477 := Aside0.mk (blk_below (zb BK477) hb)
        replace HB := Aside0.mk (below_step (zg HB) hb)
        (try clear hb)
        (try clear hb2)
        (try clear hk)
        (try clear hi)
        refine hK.out _ _ ⟨(blk_cell BK477.out 0).trans rfl, (blk_cell BK477.out 1).trans rfl, (blk_cell BK477.out 2).trans rfl, (blk_cell BK477.out 3).trans rfl, (blk_cell BK477.out 4).trans rfl⟩ (fun hHeld => ?_)
        clear hK K
        refine norm_ (a' := ?_) ?_ ?_
        rotate_left
        ·show Act.put _ (some 95) _ = _
         simp only [Act.put, List.setIfInBounds_toArray, List.set_cons_zero, List.set_cons_succ, i64_w, i32_w]
         rfl
        refine zpu HT_ 2 96 (fl16_ 14 7) ?_
        refine zpu HT_ 3 97 (fl16_ 14 15) ?_
        refine pure_ (i := 4) (N := some 98) (v := undef) (a' := ?_) (fl16_ 14 31) rfl rfl (any_of HT_.out (by kernel_rfl)) (fun _ _ _ h => h) (Or.inr ⟨by rfl, rfl⟩) ?_ ?_
        rotate_left
        ·simp only [Act.put, List.setIfInBounds_toArray, List.set_cons_zero, List.set_cons_succ, i64_w, i32_w]
         rfl
        refine pure_ (i := 5) (N := some 99) (v := undef) (a' := ?_) (fl16_ 14 63) rfl rfl (any_of HT_.out (by kernel_rfl)) (fun _ _ _ h => h) (Or.inr ⟨by rfl, rfl⟩) ?_ ?_
        rotate_left
        ·simp only [Act.put, List.setIfInBounds_toArray, List.set_cons_zero, List.set_cons_succ, i64_w, i32_w]
         rfl
        refine pure_ (i := 6) (N := some 100) (v := undef) (a' := ?_) (fl16_ 14 127) rfl rfl (any_of HT_.out (by kernel_rfl)) (fun _ _ _ h => h) (Or.inr ⟨by rfl, rfl⟩) ?_ ?_
        rotate_left
        ·simp only [Act.put, List.setIfInBounds_toArray, List.set_cons_zero, List.set_cons_succ, i64_w, i32_w]
         rfl
        refine pure_ (i := 7) (N := some 101) (v := undef) (a' := ?_) (fl16_ 14 255) rfl rfl (any_of HT_.out (by kernel_rfl)) (fun _ _ _ h => h) (Or.inr ⟨by rfl, rfl⟩) ?_ ?_
        rotate_left
        ·simp only [Act.put, List.setIfInBounds_toArray, List.set_cons_zero, List.set_cons_succ, i64_w, i32_w]
         rfl
        refine pure_ (i := 8) (N := some 102) (v := undef) (a' := ?_) (fl16_ 14 511) rfl rfl (any_of HT_.out (by kernel_rfl)) (fun _ _ _ h => h) (Or.inr ⟨by rfl, rfl⟩) ?_ ?_
        rotate_left
        ·simp only [Act.put, List.setIfInBounds_toArray, List.set_cons_zero, List.set_cons_succ, i64_w, i32_w]
         rfl
        refine pure_ (i := 9) (N := some 103) (v := undef) (a' := ?_) (fl16_ 14 1023) rfl rfl (any_of HT_.out (by kernel_rfl)) (fun _ _ _ h => h) (Or.inr ⟨by rfl, rfl⟩) ?_ ?_
        rotate_left
        ·simp only [Act.put, List.setIfInBounds_toArray, List.set_cons_zero, List.set_cons_succ, i64_w, i32_w]
         rfl
        refine pure_ (i := 10) (N := some 104) (v := undef) (a' := ?_) (fl16_ 14 2047) rfl rfl (any_of HT_.out (by kernel_rfl)) (fun _ _ _ h => h) (Or.inr ⟨by rfl, rfl⟩) ?_ ?_
        rotate_left
        ·simp only [Act.put, List.setIfInBounds_toArray, List.set_cons_zero, List.set_cons_succ, i64_w, i32_w]
         rfl
        refine pure_ (i := 11) (N := some 105) (v := undef) (a' := ?_) (fl16_ 14 4095) rfl rfl (any_of HT_.out (by kernel_rfl)) (fun _ _ _ h => h) (Or.inr ⟨by rfl, rfl⟩) ?_ ?_
        rotate_left
        ·simp only [Act.put, List.setIfInBounds_toArray, List.set_cons_zero, List.set_cons_succ, i64_w, i32_w]
         rfl
        refine pure_ (i := 12) (N := some 106) (v := undef) (a' := ?_) (fl16_ 14 8191) rfl rfl (any_of HT_.out (by kernel_rfl)) (fun _ _ _ h => h) (Or.inr ⟨by rfl, rfl⟩) ?_ ?_
        rotate_left
        ·simp only [Act.put, List.setIfInBounds_toArray, List.set_cons_zero, List.set_cons_succ, i64_w, i32_w]
         rfl
        refine zpu HT_ 13 107 (fl16_ 14 16383) ?_
        refine done_ (done_of HT_.out (by kernel_rfl)) ?_
        have hnb98 := NB477_476.out
        have hnc98 := NB476_477.out
        obtain ⟨⟨hcz99_0, hcz99_1, hcz99_2, hcz99_3, hcz99_4⟩, hfz99_0, hfz99_1, hfz99_2, hfz99_3, hfz99_4⟩ := zc5 BK477
        obtain ⟨⟨hcz100_0, hcz100_1, hcz100_2, hcz100_3, hcz100_4⟩, hfz100_0, hfz100_1, hfz100_2, hfz100_3, hfz100_4⟩ := zc5 BK476
        try go_wp2
        refine bodyPost_ret (results_ctt rfl _ _ gb476 47 #[.int .i64 (wrap64 (rd lcu1_ 0)), .int .i64 t483, .string x478002_31, .string x478003_31, .slice Ao95 x478004_31.length co95] (0, 0) _ rfl (zp BK476) Try.underlying47 rfl (by kernel_rfl)) rfl ?_
        exact ⟨_, zre, by (with_reducible repeat (first | apply Kd.S_alloc | apply Kd.S_drewN | apply Kd.S_drew)); exact Kd.S_mono (Kd.S_far (p := ⟨gb476, 4, none⟩) (Kd.S_far (p := ⟨gb476, 3, none⟩) (Kd.S_far (p := ⟨gb476, 2, none⟩) (Kd.S_far (p := ⟨gb476, 1, none⟩) (Kd.S_far (p := ⟨gb476, 0, none⟩) (Kd.S_types HO_478004.out BK476.out (by decide)) (fun _ hk => hk.2) (.int .i64 (wrap64 (rd lcu1_ 0)))) (fun _ hk => hk.2) (.int .i64 t483)) (fun _ hk => hk.2) (.string x478002_31)) (fun _ hk => hk.2) (.string x478003_31)) (fun _ hk => hk.2) (.slice Ao95 x478004_31.length co95)) (fun _ hk => trivial), zg HB⟩
       subst c62
       rw [if_pos rfl] at H
       replace H := Option.bind_eq_some_iff.mp H
       obtain ⟨t494, A630, H⟩ := H
       try dsimp only at H
       have A63 := Aside0.mk A630
       clear A630
       by_cases c64 : 0 ≤ a1
       rotate_left
       ·rw [if_neg c64] at H
        exact absurd H (by simp)
       rw [if_pos c64] at H
       have c64b0 := eq_true c64
       have c64b1 : decide (0 ≤ a1) = true := decide_eq_true c64
       clear c64
       by_cases c65 : a1 ≤ (wrap64 ((wrap64 (t479 + t478)) + 4))
       rotate_left
       ·rw [if_neg c65] at H
        exact absurd H (by simp)
       rw [if_pos c65] at H
       have c65b0 := eq_true c65
       have c65b1 : decide (a1 ≤ (wrap64 ((wrap64 (t479 + t478)) + 4))) = true := decide_eq_true c65
       by_cases c66 : (wrap64 ((wrap64 (t479 + t478)) + 4)) ≤ (l0.length : Int)
       rotate_left
       ·rw [if_neg c66] at H
        exact absurd H (by simp)
       rw [if_pos c66] at H
       have c66b0 := eq_true c66
       have c66b1 : decide ((wrap64 ((wrap64 (t479 + t478)) + 4)) ≤ (l0.length : Int)) = true := decide_eq_true c66
       obtain ⟨lcu2_, hlcu2_⟩ : ∃ lc_ : List Int, lc_ = ((l0.take ((wrap64 ((wrap64 (t479 + t478)) + 4)) : Int).toNat).drop (a1 : Int).toNat) := ⟨_, rfl⟩
       rw [← hlcu2_] at H; replace hlcu2_ := Aside0.mk hlcu2_
       by_cases c67 : (strOfNums t494).toList = (strOfNums lcu2_).toList
       rotate_left
       ·rw [if_neg c67] at H
        have c67b0 : ((strOfNums t494).toList == (strOfNums lcu2_).toList) = false := beq_eq_false_iff_ne.mpr c67
        have c67b1 : ((strOfNums t494).toList != (strOfNums lcu2_).toList) = true := bne_iff_ne.mpr c67
        simp only [Option.some.injEq, Prod.mk.injEq] at H
        obtain ⟨rfl, rfl, rfl, rfl, rfl, rfl, rfl⟩ := H
        obtain ⟨Ao81, co81, eo81⟩ := Kd.S_slice HO_478004.out
        subst eo81
        try go_wp2
        replace HO_478004 := Aside0.mk (Kd.S_drew HO_478004.out)
        replace BK476 := Aside0.mk (blk_drew BK476.out)
        replace BK477 := Aside0.mk (blk_drew BK477.out)
        replace HB := Aside0.mk (below_drew1 HB.out)
        obtain ⟨i085, hi085, _, hsz85, _⟩ := info_parts info5
        obtain ⟨A85, hcut85, hA85, hC85⟩ := print_mid_of (P := Try.prog) (Value.int .u8) 0 26 5 .i64 .i64 Try.underlying26 hi085 hsz85 A0 c0 l0 a1 (wrap64 ((wrap64 (t479 + t478)) + 4)) (of_decide_eq_true zas) (by first | omega | exact of_decide_eq_true zas) (of_decide_eq_true zas) HC0.out
        (try simp only [← hlcu1_.out] at hcut85 hA85 hC85)
        (try simp only [← hlcu2_.out] at hcut85 hA85 hC85)
        have HR497 := Aside0.mk (Kd.C_of_reads (h1 := fun _ => rfl) (hA85 _ (Kd.reads_of_C HR0.out)))
        have HC497 := Aside0.mk hC85
        clear hA85 hC85 hi085 hsz85
        refine start_ (n := 14) (S := fun w' => w'.cell? ⟨gb477, 0, none⟩ = some (.int .i64 (wrap64 (rd lcu1_ 0))) ∧ w'.cell? ⟨gb477, 1, none⟩ = some (.int .i64 t483) ∧ w'.cell? ⟨gb477, 2, none⟩ = some (.string x478002_31) ∧ w'.cell? ⟨gb477, 3, none⟩ = some (.string x478003_31) ∧ w'.cell? ⟨gb477, 4, none⟩ = some (.slice Ao81 x478004_31.length co81) ∧ (Kd.int .u8).C w' A85 lcu2_.length lcu2_) (ds := []) (fl16_ 14 0) (by kernel_rfl) rfl rfl ⟨(blk_cell BK477.out 0).trans rfl, (blk_cell BK477.out 1).trans rfl, (blk_cell BK477.out 2).trans rfl, (blk_cell BK477.out 3).trans rfl, (blk_cell BK477.out 4).trans rfl, Kd.C_below HR497.out HB.out⟩ (fun hHeld => ?_); refine with_tabW spec_l14Next.tab19 spec_l14Next.bits19 (fun HT_ HW_ => ?_)
        generalize wc.drew = w82 at HO_478004 BK476 BK477 HB hHeld ⊢
        refine take_ (i := 0) (N := some 94) (v := ?_) (a' := ?_) (fl16_ 14 1) rfl rfl (take_ofW HT_.out HW_.out (by kernel_rfl)) (fun _ _ _ h => h) (Or.inl ⟨by rfl, ?_⟩) hHeld ?_ ?_
        rotate_left
        ·rintro w' ⟨s0, s1, s2, s3, s4, s5⟩
         go_simp
         with_reducible rfl
        rotate_left
        ·simp only [Act.put, List.setIfInBounds_toArray, List.set_cons_zero, List.set_cons_succ, i64_w, i32_w]
         rfl
        refine one_ (i := 1) (N := some 95) (fl16_ 14 3) rfl rfl (one_of HT_.out (by kernel_rfl)) (by decide) (fun K hK => ?_)
        refine goes_ Try.func46 (by kernel_rfl) rfl #[.agg #[.int .i64 (wrap64 (rd lcu1_ 0)), .int .i64 t483, .string x478002_31, .string x478003_31, .slice Ao81 x478004_31.length co81]] (by rfl) rfl rfl zar ?_
        with_reducible refine (spec_l14RecordOK.calls kj31 (wrap64 (rd lcu1_ 0)) t483 x478002_31 x478003_31 _ _ x478004_31 true _ ?side1 ?side2 A61.out).mono ?_
        (case side1 => exact zC (Kd.S_reads' HO_478004.out).2.2)
        (case side2 => exact (Kd.S_reads' HO_478004.out).2.1)
        rintro e w83 ⟨rfl, hb⟩
        refine ⟨_, rfl, ?_⟩
        replace HO_478004 := Aside0.mk (Kd.S_below (zs HO_478004) hb)
        replace BK476 := Aside0.mk (blk_below (zb BK476) hb)
        replace BK477 := Aside0.mk (blk_below (zb BK477) hb)
        replace HB := Aside0.mk (below_step (zg HB) hb)
        (try clear hb)
        (try clear hb2)
        (try clear hk)
        (try clear hi)
        refine hK.out _ _ ⟨(blk_cell BK477.out 0).trans rfl, (blk_cell BK477.out 1).trans rfl, (blk_cell BK477.out 2).trans rfl, (blk_cell BK477.out 3).trans rfl, (blk_cell BK477.out 4).trans rfl, Kd.C_below HR497.out HB.out⟩ (fun hHeld => ?_)
        clear hK K
        refine norm_ (a' := ?_) ?_ ?_
        rotate_left
        ·show Act.put _ (some 95) _ = _
         simp only [Act.put, List.setIfInBounds_toArray, List.set_cons_zero, List.set_cons_succ, i64_w, i32_w]
         rfl
        refine zpu HT_ 2 96 (fl16_ 14 7) ?_
        refine zpu HT_ 3 97 (fl16_ 14 15) ?_
        refine zpu HT_ 7 101 (fl16_ 14 143) ?_
        refine zpu HT_ 8 102 (fl16_ 14 399) ?_
        refine zpu HT_ 9 103 (fl16_ 14 911) ?_
        refine zpu HT_ 10 104 (fl16_ 14 1935) ?_
        refine take_ (i := 11) (N := some 105) (v := ?_) (a' := ?_) (fl16_ 14 3983) rfl rfl (take_ofW HT_.out HW_.out (by kernel_rfl)) (fun _ _ _ h => h) (Or.inl ⟨by rfl, ?_⟩) hHeld ?_ ?_
        rotate_left
        ·rintro w' ⟨s0, s1, s2, s3, s4, s5⟩
         have hcvq := Kd.C_string (P := Try.prog) (A := A85) (c := (c0 - a1.toNat)) Try.underlying26 Try.underlying5 Try.underlying9 s5; (try simp only [List.length_drop] at hcvq)
         go_simp
         with_reducible rfl
        rotate_left
        ·simp only [Act.put, List.setIfInBounds_toArray, List.set_cons_zero, List.set_cons_succ, i64_w, i32_w]
         rfl
        refine take_ (i := 4) (N := some 98) (v := ?_) (a' := ?_) (fl16_ 14 3999) rfl rfl (take_ofW HT_.out HW_.out (by kernel_rfl)) (fun _ _ _ h => h) (Or.inl ⟨by rfl, ?_⟩) hHeld ?_ ?_
        rotate_left
        ·rintro w' ⟨s0, s1, s2, s3, s4, s5⟩
         go_simp
         with_reducible rfl
        rotate_left
        ·simp only [Act.put, List.setIfInBounds_toArray, List.set_cons_zero, List.set_cons_succ, i64_w, i32_w]
         rfl
        refine one_ (i := 5) (N := some 99) (fl16_ 14 4031) rfl rfl (one_of HT_.out (by kernel_rfl)) (by decide) (fun K hK => ?_)
        refine goes_ Try.func47 (by kernel_rfl) rfl #[.agg #[.int .i64 (wrap64 (rd lcu1_ 0)), .int .i64 t483, .string x478002_31, .string x478003_31, .slice Ao81 x478004_31.length co81]] (by rfl) rfl rfl zar ?_
        with_reducible refine (spec_l14Bytes.calls kj31 (wrap64 (rd lcu1_ 0)) t483 x478002_31 x478003_31 _ _ x478004_31 t494 _ ?side1 ?side2 A63.out).mono ?_
        (case side1 => exact zC (Kd.S_reads' HO_478004.out).2.2)
        (case side2 => exact (Kd.S_reads' HO_478004.out).2.1)
        rintro e w86 ⟨v495, rfl, ho0, hb⟩
        refine ⟨_, rfl, ?_⟩
        replace HO_478004 := Aside0.mk (Kd.S_below (zs HO_478004) hb)
        have HO496 := Aside0.mk (Kd.R_lower ho0 (below_size (zg HB)))
        replace BK476 := Aside0.mk (blk_below (zb BK476) hb)
        replace BK477 := Aside0.mk (blk_below (zb BK477) hb)
        replace HB := Aside0.mk (below_step (zg HB) hb)
        (try clear hb)
        (try clear hb2)
        (try clear hk)
        (try clear hi)
        (try clear ho0)
        have hcv89 := Kd.C_string (P := Try.prog) (A := A85) (c := (c0 - a1.toNat)) Try.underlying26 Try.underlying5 Try.underlying9 (Kd.C_below HR497.out HB.out)
        have hcv89l := hcv89; (try simp only [List.length_drop] at hcv89l)
        refine hK.out _ _ ⟨(blk_cell BK477.out 0).trans rfl, (blk_cell BK477.out 1).trans rfl, (blk_cell BK477.out 2).trans rfl, (blk_cell BK477.out 3).trans rfl, (blk_cell BK477.out 4).trans rfl, Kd.C_below HR497.out HB.out⟩ (fun hHeld => ?_)
        clear hK K
        refine norm_ (a' := ?_) ?_ ?_
        rotate_left
        ·show Act.put _ (some 99) _ = _
         simp only [Act.put, List.setIfInBounds_toArray, List.set_cons_zero, List.set_cons_succ, i64_w, i32_w]
         rfl
        refine one_ (i := 6) (N := some 100) (fl16_ 14 4095) rfl rfl (one_of HT_.out (by kernel_rfl)) (by decide) (fun K hK => ?_)
        have hcv88 := own_string (P := Try.prog) Try.underlying26 Try.underlying5 Try.underlying9 (Kd.own_of_R HO496.out)
        refine value_ (w1 := ?_) (v := ?_) (by rfl) rfl ?_ ?_
        rotate_left 2
        ·go_simp
         constructor
         ·rfl
         ·rfl
        clear hcv88
        refine hK.out _ _ ⟨(blk_cell BK477.out 0).trans rfl, (blk_cell BK477.out 1).trans rfl, (blk_cell BK477.out 2).trans rfl, (blk_cell BK477.out 3).trans rfl, (blk_cell BK477.out 4).trans rfl, Kd.C_below HR497.out HB.out⟩ (fun hHeld => ?_)
        clear hK K
        refine norm_ (a' := ?_) ?_ ?_
        rotate_left
        ·show Act.put _ (some 100) _ = _
         simp only [Act.put, List.setIfInBounds_toArray, List.set_cons_zero, List.set_cons_succ, i64_w, i32_w]
         rfl
        refine zpu HT_ 12 106 (fl16_ 14 8191) ?_
        refine zpu HT_ 13 107 (fl16_ 14 16383) ?_
        refine done_ (done_of HT_.out (by kernel_rfl)) ?_
        have hnb91 := NB477_476.out
        have hnc91 := NB476_477.out
        obtain ⟨⟨hcz92_0, hcz92_1, hcz92_2, hcz92_3, hcz92_4⟩, hfz92_0, hfz92_1, hfz92_2, hfz92_3, hfz92_4⟩ := zc5 BK477
        obtain ⟨⟨hcz93_0, hcz93_1, hcz93_2, hcz93_3, hcz93_4⟩, hfz93_0, hfz93_1, hfz93_2, hfz93_3, hfz93_4⟩ := zc5 BK476
        try go_wp2
        refine bodyPost_ret (results_ctt rfl _ _ gb476 47 #[.int .i64 (wrap64 (rd lcu1_ 0)), .int .i64 t483, .string x478002_31, .string x478003_31, .slice Ao81 x478004_31.length co81] (0, 0) _ rfl (zp BK476) Try.underlying47 rfl (by kernel_rfl)) rfl ?_
        exact ⟨_, zre, by (with_reducible repeat (first | apply Kd.S_alloc | apply Kd.S_drewN | apply Kd.S_drew)); exact Kd.S_mono (Kd.S_far (p := ⟨gb476, 4, none⟩) (Kd.S_far (p := ⟨gb476, 3, none⟩) (Kd.S_far (p := ⟨gb476, 2, none⟩) (Kd.S_far (p := ⟨gb476, 1, none⟩) (Kd.S_far (p := ⟨gb476, 0, none⟩) (Kd.S_types HO_478004.out BK476.out (by decide)) (fun _ hk => hk.2) (.int .i64 (wrap64 (rd lcu1_ 0)))) (fun _ hk => hk.2) (.int .i64 t483)) (fun _ hk => hk.2) (.string x478002_31)) (fun _ hk => hk.2) (.string x478003_31)) (fun _ hk => hk.2) (.slice Ao81 x478004_31.length co81)) (fun _ hk => trivial), zg HB⟩
       rw [if_pos c67] at H
       have c67b0 : ((strOfNums t494).toList == (strOfNums lcu2_).toList) = true := beq_iff_eq.mpr c67
       have c67b1 : ((strOfNums t494).toList != (strOfNums lcu2_).toList) = false := bne_eq_false_iff_eq.mpr c67
       clear c67
       simp only [Option.some.injEq, Prod.mk.injEq] at H
       obtain ⟨rfl, rfl, rfl, rfl, rfl, rfl, rfl⟩ := H
       obtain ⟨Ao68, co68, eo68⟩ := Kd.S_slice HO_478004.out
       subst eo68
       try go_wp2
       replace HO_478004 := Aside0.mk (Kd.S_drew HO_478004.out)
       replace BK476 := Aside0.mk (blk_drew BK476.out)
       replace BK477 := Aside0.mk (blk_drew BK477.out)
       replace HB := Aside0.mk (below_drew1 HB.out)
       obtain ⟨i072, hi072, _, hsz72, _⟩ := info_parts info5
       obtain ⟨A72, hcut72, hA72, hC72⟩ := print_mid_of (P := Try.prog) (Value.int .u8) 0 26 5 .i64 .i64 Try.underlying26 hi072 hsz72 A0 c0 l0 a1 (wrap64 ((wrap64 (t479 + t478)) + 4)) (of_decide_eq_true zas) (by first | omega | exact of_decide_eq_true zas) (of_decide_eq_true zas) HC0.out
       (try simp only [← hlcu1_.out] at hcut72 hA72 hC72)
       (try simp only [← hlcu2_.out] at hcut72 hA72 hC72)
       have HR497 := Aside0.mk (Kd.C_of_reads (h1 := fun _ => rfl) (hA72 _ (Kd.reads_of_C HR0.out)))
       have HC497 := Aside0.mk hC72
       clear hA72 hC72 hi072 hsz72
       refine start_ (n := 14) (S := fun w' => w'.cell? ⟨gb477, 0, none⟩ = some (.int .i64 (wrap64 (rd lcu1_ 0))) ∧ w'.cell? ⟨gb477, 1, none⟩ = some (.int .i64 t483) ∧ w'.cell? ⟨gb477, 2, none⟩ = some (.string x478002_31) ∧ w'.cell? ⟨gb477, 3, none⟩ = some (.string x478003_31) ∧ w'.cell? ⟨gb477, 4, none⟩ = some (.slice Ao68 x478004_31.length co68) ∧ (Kd.int .u8).C w' A72 lcu2_.length lcu2_) (ds := []) (fl16_ 14 0) (by kernel_rfl) rfl rfl ⟨(blk_cell BK477.out 0).trans rfl, (blk_cell BK477.out 1).trans rfl, (blk_cell BK477.out 2).trans rfl, (blk_cell BK477.out 3).trans rfl, (blk_cell BK477.out 4).trans rfl, Kd.C_below HR497.out HB.out⟩ (fun hHeld => ?_); refine with_tabW spec_l14Next.tab19 spec_l14Next.bits19 (fun HT_ HW_ => ?_)
       generalize wc.drew = w69 at HO_478004 BK476 BK477 HB hHeld ⊢
       refine take_ (i := 0) (N := some 94) (v := ?_) (a' := ?_) (fl16_ 14 1) rfl rfl (take_ofW HT_.out HW_.out (by kernel_rfl)) (fun _ _ _ h => h) (Or.inl ⟨by rfl, ?_⟩) hHeld ?_ ?_
       rotate_left
       ·rintro w' ⟨s0, s1, s2, s3, s4, s5⟩
        go_simp
        with_reducible rfl
       rotate_left
       ·simp only [Act.put, List.setIfInBounds_toArray, List.set_cons_zero, List.set_cons_succ, i64_w, i32_w]
        rfl
       refine one_ (i := 1) (N := some 95) (fl16_ 14 3) rfl rfl (one_of HT_.out (by kernel_rfl)) (by decide) (fun K hK => ?_)
       refine goes_ Try.func46 (by kernel_rfl) rfl #[.agg #[.int .i64 (wrap64 (rd lcu1_ 0)), .int .i64 t483, .string x478002_31, .string x478003_31, .slice Ao68 x478004_31.length co68]] (by rfl) rfl rfl zar ?_
       with_reducible refine (spec_l14RecordOK.calls kj31 (wrap64 (rd lcu1_ 0)) t483 x478002_31 x478003_31 _ _ x478004_31 true _ ?side1 ?side2 A61.out).mono ?_
       (case side1 => exact zC (Kd.S_reads' HO_478004.out).2.2)
       (case side2 => exact (Kd.S_reads' HO_478004.out).2.1)
       rintro e w70 ⟨rfl, hb⟩
       refine ⟨_, rfl, ?_⟩
       replace HO_478004 := Aside0.mk (Kd.S_below (zs HO_478004) hb)
       replace BK476 := Aside0.mk (blk_below (zb BK476) hb)
       replace BK477 := Aside0.mk (blk_below (zb BK477) hb)
       replace HB := Aside0.mk (below_step (zg HB) hb)
       (try clear hb)
       (try clear hb2)
       (try clear hk)
       (try clear hi)
       refine hK.out _ _ ⟨(blk_cell BK477.out 0).trans rfl, (blk_cell BK477.out 1).trans rfl, (blk_cell BK477.out 2).trans rfl, (blk_cell BK477.out 3).trans rfl, (blk_cell BK477.out 4).trans rfl, Kd.C_below HR497.out HB.out⟩ (fun hHeld => ?_)
       clear hK K
       refine norm_ (a' := ?_) ?_ ?_
       rotate_left
       ·show Act.put _ (some 95) _ = _
        simp only [Act.put, List.setIfInBounds_toArray, List.set_cons_zero, List.set_cons_succ, i64_w, i32_w]
        rfl
       refine zpu HT_ 2 96 (fl16_ 14 7) ?_
       refine zpu HT_ 3 97 (fl16_ 14 15) ?_
       refine zpu HT_ 7 101 (fl16_ 14 143) ?_
       refine zpu HT_ 8 102 (fl16_ 14 399) ?_
       refine zpu HT_ 9 103 (fl16_ 14 911) ?_
       refine zpu HT_ 10 104 (fl16_ 14 1935) ?_
       refine take_ (i := 11) (N := some 105) (v := ?_) (a' := ?_) (fl16_ 14 3983) rfl rfl (take_ofW HT_.out HW_.out (by kernel_rfl)) (fun _ _ _ h => h) (Or.inl ⟨by rfl, ?_⟩) hHeld ?_ ?_
       rotate_left
       ·rintro w' ⟨s0, s1, s2, s3, s4, s5⟩
        have hcvq := Kd.C_string (P := Try.prog) (A := A72) (c := (c0 - a1.toNat)) Try.underlying26 Try.underlying5 Try.underlying9 s5; (try simp only [List.length_drop] at hcvq)
        go_simp
        with_reducible rfl
       rotate_left
       ·simp only [Act.put, List.setIfInBounds_toArray, List.set_cons_zero, List.set_cons_succ, i64_w, i32_w]
        rfl
       refine take_ (i := 4) (N := some 98) (v := ?_) (a' := ?_) (fl16_ 14 3999) rfl rfl (take_ofW HT_.out HW_.out (by kernel_rfl)) (fun _ _ _ h => h) (Or.inl ⟨by rfl, ?_⟩) hHeld ?_ ?_
       rotate_left
       ·rintro w' ⟨s0, s1, s2, s3, s4, s5⟩
        go_simp
        with_reducible rfl
       rotate_left
       ·simp only [Act.put, List.setIfInBounds_toArray, List.set_cons_zero, List.set_cons_succ, i64_w, i32_w]
        rfl
       refine one_ (i := 5) (N := some 99) (fl16_ 14 4031) rfl rfl (one_of HT_.out (by kernel_rfl)) (by decide) (fun K hK => ?_)
       refine goes_ Try.func47 (by kernel_rfl) rfl #[.agg #[.int .i64 (wrap64 (rd lcu1_ 0)), .int .i64 t483, .string x478002_31, .string x478003_31, .slice Ao68 x478004_31.length co68]] (by rfl) rfl rfl zar ?_
       with_reducible refine (spec_l14Bytes.calls kj31 (wrap64 (rd lcu1_ 0)) t483 x478002_31 x478003_31 _ _ x478004_31 t494 _ ?side1 ?side2 A63.out).mono ?_
       (case side1 => exact zC (Kd.S_reads' HO_478004.out).2.2)
       (case side2 => exact (Kd.S_reads' HO_478004.out).2.1)
       rintro e w73 ⟨v495, rfl, ho0, hb⟩
       refine ⟨_, rfl, ?_⟩
       replace HO_478004 := Aside0.mk (Kd.S_below (zs HO_478004) hb)
       have HO496 := Aside0.mk (Kd.R_lower ho0 (below_size (zg HB)))
       replace BK476 := Aside0.mk (blk_below (zb BK476) hb)
       replace BK477 := Aside0.mk (blk_below (zb BK477) hb)
       replace HB := Aside0.mk (below_step (zg HB) hb)
       (try clear hb)
       (try clear hb2)
       (try clear hk)
       (try clear hi)
       (try clear ho0)
       have hcv76 := Kd.C_string (P := Try.prog) (A := A72) (c := (c0 - a1.toNat)) Try.underlying26 Try.underlying5 Try.underlying9 (Kd.C_below HR497.out HB.out)
       have hcv76l := hcv76; (try simp only [List.length_drop] at hcv76l)
       refine hK.out _ _ ⟨(blk_cell BK477.out 0).trans rfl, (blk_cell BK477.out 1).trans rfl, (blk_cell BK477.out 2).trans rfl, (blk_cell BK477.out 3).trans rfl, (blk_cell BK477.out 4).trans rfl, Kd.C_below HR497.out HB.out⟩ (fun hHeld => ?_)
       clear hK K
       refine norm_ (a' := ?_) ?_ ?_
       rotate_left
       ·show Act.put _ (some 99) _ = _
        simp only [Act.put, List.setIfInBounds_toArray, List.set_cons_zero, List.set_cons_succ, i64_w, i32_w]
        rfl
       refine one_ (i := 6) (N := some 100) (fl16_ 14 4095) rfl rfl (one_of HT_.out (by kernel_rfl)) (by decide) (fun K hK => ?_)
       have hcv75 := own_string (P := Try.prog) Try.underlying26 Try.underlying5 Try.underlying9 (Kd.own_of_R HO496.out)
       refine value_ (w1 := ?_) (v := ?_) (by rfl) rfl ?_ ?_
       rotate_left 2
       ·go_simp
        constructor
        ·rfl
        ·rfl
       clear hcv75
       refine hK.out _ _ ⟨(blk_cell BK477.out 0).trans rfl, (blk_cell BK477.out 1).trans rfl, (blk_cell BK477.out 2).trans rfl, (blk_cell BK477.out 3).trans rfl, (blk_cell BK477.out 4).trans rfl, Kd.C_below HR497.out HB.out⟩ (fun hHeld => ?_)
       clear hK K
       refine norm_ (a' := ?_) ?_ ?_
       rotate_left
       ·show Act.put _ (some 100) _ = _
        simp only [Act.put, List.setIfInBounds_toArray, List.set_cons_zero, List.set_cons_succ, i64_w, i32_w]
        rfl
       refine zpu HT_ 12 106 (fl16_ 14 8191) ?_
       refine zpu HT_ 13 107 (fl16_ 14 16383) ?_
       refine done_ (done_of HT_.out (by kernel_rfl)) ?_
       have hnb78 := NB477_476.out
       have hnc78 := NB476_477.out
       obtain ⟨⟨hcz79_0, hcz79_1, hcz79_2, hcz79_3, hcz79_4⟩, hfz79_0, hfz79_1, hfz79_2, hfz79_3, hfz79_4⟩ := zc5 BK477
       obtain ⟨⟨hcz80_0, hcz80_1, hcz80_2, hcz80_3, hcz80_4⟩, hfz80_0, hfz80_1, hfz80_2, hfz80_3, hfz80_4⟩ := zc5 BK476
       try go_wp2
       refine bodyPost_ret (results_ctt rfl _ _ gb476 47 #[.int .i64 (wrap64 (rd lcu1_ 0)), .int .i64 t483, .string x478002_31, .string x478003_31, .slice Ao68 x478004_31.length co68] (0, 0) _ rfl (zp BK476) Try.underlying47 rfl (by kernel_rfl)) rfl ?_
       exact ⟨_, zre, by (with_reducible repeat (first | apply Kd.S_alloc | apply Kd.S_drewN | apply Kd.S_drew)); exact Kd.S_mono (Kd.S_far (p := ⟨gb476, 4, none⟩) (Kd.S_far (p := ⟨gb476, 3, none⟩) (Kd.S_far (p := ⟨gb476, 2, none⟩) (Kd.S_far (p := ⟨gb476, 1, none⟩) (Kd.S_far (p := ⟨gb476, 0, none⟩) (Kd.S_types HO_478004.out BK476.out (by decide)) (fun _ hk => hk.2) (.int .i64 (wrap64 (rd lcu1_ 0)))) (fun _ hk => hk.2) (.int .i64 t483)) (fun _ hk => hk.2) (.string x478002_31)) (fun _ hk => hk.2) (.string x478003_31)) (fun _ hk => hk.2) (.slice Ao68 x478004_31.length co68)) (fun _ hk => trivial), zg HB⟩
end Go.Proofs.Ytnpdmleglcbobaa.XFnExactReadLog
