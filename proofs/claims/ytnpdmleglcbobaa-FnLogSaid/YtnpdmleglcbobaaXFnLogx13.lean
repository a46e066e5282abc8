-- A printed text of this session (wip/x/xprint.py).
import Derived.Test.YtnpdmleglcbobaaXFnLogx0
import Derived.Test.YtnpdmleglcbobaaXFnLogx10
import Derived.Test.YtnpdmleglcbobaaXFnLogx12
namespace Go.Proofs.Ytnpdmleglcbobaa.XFnLog
open Go.RowKit Go.Proofs.YtnpdmleglcbobaaW.PrintWords Go.Proofs.YtnpdmleglcbobaaW.PrintLast Go.Proofs.YtnpdmleglcbobaaW.PrintMore
attribute [local go_sem] max2_int min2_int max_two min_two max_three min_three max_four min_four   -- for this text's walks alone
set_option linter.unusedVariables false
set_option linter.unusedSimpArgs false
def fl13_ (n m : Nat) : Array Bool := ((List.range n).map fun i => m.testBit i).toArray

/-! ### F6: function 57 -/
def F6.l0 : Nat → Int → Int → List Int → Int → Int → ByteArray → List (S66) → Option (ByteArray × (List (S66)) × Int × Int)
 | 0, _, _, _, _, _, _, _ => none
 | k + 1, x5, x6, x1000, x1001, x1002, x567000, x567001 => if x6 > 0 then (if 0 ≤ x5 then (if x5 < (x567001.length : Int) then (if ((rd_T66 x567001 x5).f2).length < 17592186044416 then (F6.l0 k x5 (wrap64 (x6 - 1)) x1000 x1001 x1002 x567000 (x567001.set (x5 : Int).toNat (⟨(rd_T66 x567001 x5).f0, (rd_T66 x567001 x5).f1, (((rd_T66 x567001 x5).f2) ++ [1])⟩ : S66))) else (none)) else (none)) else (none)) else (some (x567000, x567001, x1001, x1002))
def F6.f (k : Nat) (s0_0 : List Int) (s0_1 : Int) (s0_2 : Int) (a1_0 : ByteArray) (l1_1 : List (S66)) : Option (ByteArray × (List (S66)) × Int × Int) := if (l1_1.length : Int) = 0 then (some (a1_0, l1_1, s0_1, s0_2)) else ((F1.f s0_0 s0_1 s0_2 (l1_1.length : Int)).bind fun bt568 => ((F1.f s0_0 bt568.2.1 bt568.2.2 14).bind fun bt571 => (if bt571.1 = 0 then ((F1.f s0_0 bt571.2.1 bt571.2.2 2).bind fun bt574 => ((F18.f k (⟨#[105]⟩ : ByteArray) (wrap64 (30 + bt574.1))).bind fun t577 => ((some (([(⟨#[]⟩ : ByteArray), (⟨#[97, 32, 98]⟩ : ByteArray), (⟨#[127]⟩ : ByteArray), t577] : List ByteArray) : List ByteArray)).bind fun y578 => ((F1.f s0_0 bt574.2.1 bt574.2.2 4).bind fun bt581 => (if 0 ≤ bt581.1 then (if bt581.1 < (y578.length : Int) then (some (rdOf ByteArray.empty y578 bt581.1, l1_1, bt581.2.1, bt581.2.2)) else (none)) else (none)))))) else (if bt571.1 = 1 then ((some (([(⟨#[]⟩ : ByteArray), (⟨#[110, 111, 112, 101]⟩ : ByteArray), (⟨#[122, 122, 122]⟩ : ByteArray)] : List ByteArray) : List ByteArray)).bind fun y585 => ((F1.f s0_0 bt571.2.1 bt571.2.2 3).bind fun bt588 => (if 0 ≤ bt588.1 then (if bt588.1 < (y585.length : Int) then (if 0 ≤ bt568.1 then (if bt568.1 < (l1_1.length : Int) then (some (a1_0, (l1_1.set (bt568.1 : Int).toNat (⟨rdOf ByteArray.empty y585 bt588.1, (rd_T66 l1_1 bt568.1).f1, (rd_T66 l1_1 bt568.1).f2⟩ : S66)), bt588.2.1, bt588.2.2)) else (none)) else (none)) else (none)) else (none)))) else (if bt571.1 = 2 then (if 0 ≤ bt568.1 then (if bt568.1 < (l1_1.length : Int) then ((F1.f s0_0 bt571.2.1 bt571.2.2 2).bind fun bt594 => ((F18.f k (⟨#[116]⟩ : ByteArray) (wrap64 (64 + bt594.1))).bind fun t597 => ((F1.f s0_0 bt594.2.1 bt594.2.2 2).bind fun bt598 => ((F18.f k (⟨#[117]⟩ : ByteArray) (wrap64 ((wrap64 (4000 + bt598.1)) - 20))).bind fun t601 => ((some (([(⟨#[]⟩ : ByteArray), (⟨#[255]⟩ : ByteArray), t597, t601] : List ByteArray) : List ByteArray)).bind fun y602 => ((F1.f s0_0 bt598.2.1 bt598.2.2 4).bind fun bt605 => (if 0 ≤ bt605.1 then (if bt605.1 < (y602.length : Int) then (if ((rd_T66 l1_1 bt568.1).f1).length < 8796093022208 then (some (a1_0, (l1_1.set (bt568.1 : Int).toNat (⟨(rd_T66 l1_1 bt568.1).f0, (((rd_T66 l1_1 bt568.1).f1) ++ [rdOf ByteArray.empty y602 bt605.1]), (rd_T66 l1_1 bt568.1).f2⟩ : S66)), bt605.2.1, bt605.2.2)) else (none)) else (none)) else (none)))))))) else (none)) else (none)) else (if bt571.1 = 3 then (if 0 ≤ bt568.1 then (if bt568.1 < (l1_1.length : Int) then ((some (([0, 1000000000000, 1000000000001, (-1000000000000), (-1000000000001)] : List Int) : List Int)).bind fun y614 => ((F1.f s0_0 bt571.2.1 bt571.2.2 5).bind fun bt617 => (if 0 ≤ bt617.1 then (if bt617.1 < (y614.length : Int) then (if ((rd_T66 l1_1 bt568.1).f2).length < 17592186044416 then (some (a1_0, (l1_1.set (bt568.1 : Int).toNat (⟨(rd_T66 l1_1 bt568.1).f0, (rd_T66 l1_1 bt568.1).f1, (((rd_T66 l1_1 bt568.1).f2) ++ [rd y614 bt617.1])⟩ : S66)), bt617.2.1, bt617.2.2)) else (none)) else (none)) else (none)))) else (none)) else (none)) else (if bt571.1 = 4 then (if 0 ≤ bt568.1 then (if bt568.1 < (l1_1.length : Int) then (some (a1_0, (l1_1.set (bt568.1 : Int).toNat (⟨(rd_T66 l1_1 bt568.1).f0, (([] : List ByteArray)), (rd_T66 l1_1 bt568.1).f2⟩ : S66)), bt571.2.1, bt571.2.2)) else (none)) else (none)) else (if bt571.1 = 5 then ((F1.f s0_0 bt571.2.1 bt571.2.2 2).bind fun bt629 => (F6.l0 k bt568.1 (wrap64 (bt629.1 + 16)) s0_0 bt629.2.1 bt629.2.2 a1_0 l1_1)) else (if bt571.1 = 6 then (none) else (some (a1_0, l1_1, bt571.2.1, bt571.2.2)))))))))))
theorem F6.mono_l : ∀ k, (∀ y0 y1 y2 y3 y4 y5 y6, LeO (F6.l0 k y0 y1 y2 y3 y4 y5 y6) (F6.l0 (k + 1) y0 y1 y2 y3 y4 y5 y6))
 | 0 => fun _ _ _ _ _ _ _ r h => by simp [F6.l0] at h
 | k + 1 => by
  have ih0 := F6.mono_l k
  ·intro y0 y1 y2 y3 y4 y5 y6
   unfold F6.l0
   repeat' with_reducible first | exact ih0 _ _ _ _ _ _ _ | exact F18.mono _ _ _ | exact LeO.refl _ | exact LeO.none _ | refine LeO.ite ?_ ?_ | refine LeO.bind ?_ (fun _ => ?_)
theorem F6.mono : ∀ a0 a1 a2 a3 a4 k, LeO (F6.f k a0 a1 a2 a3 a4) (F6.f (k + 1) a0 a1 a2 a3 a4) := by
 intro a0 a1 a2 a3 a4 k
 have ih0 := F6.mono_l k
 unfold F6.f
 repeat' with_reducible first | exact ih0 _ _ _ _ _ _ _ | exact F18.mono _ _ _ | exact LeO.refl _ | exact LeO.none _ | refine LeO.ite ?_ ?_ | refine LeO.bind ?_ (fun _ => ?_)
def F6.T8 : Bool × List (List Nat × List Nat) := (true, [([], []), ([0], [0]), ([], []), ([], []), ([], []), ([4], [4]), ([3, 5], [3, 5]), ([6], [6]), ([1, 2, 0, 1, 2, 3, 4, 5, 6, 7], [1, 2]), ([8, 0, 1, 2, 3, 4, 5, 6, 7], [8]), ([9, 7, 5, 0, 1, 2, 3, 4, 5, 6, 7], [7, 9])])
def F6.B8 : List Nat := [0, 1, 0, 0, 0, 16, 56, 120, 255, 511, 1023]
theorem F6.tab8 : rtab .any (opsOf Try.f57 8) = F6.T8 := by kernel_rfl
theorem F6.bits8 : waitsOk F6.T8.2 F6.B8 = true := by kernel_rfl
def F6.T10 : Bool × List (List Nat × List Nat) := (true, [([], []), ([0], [0]), ([], []), ([], []), ([3], [3]), ([], []), ([4, 5], [4, 5]), ([6], [6]), ([7], [7]), ([], []), ([9], [9]), ([10], [10]), ([11, 10], [11]), ([], []), ([13, 12], [13]), ([14], [14]), ([15], [15]), ([16, 14], [16]), ([12, 17], [12, 17]), ([], []), ([19, 17], [19]), ([18, 20], [18, 20]), ([21], [21]), ([22], [22]), ([8, 23, 20], [8, 23]), ([1, 2, 0, 1, 2, 3, 4, 5, 6, 7, 8, 9, 10, 11, 12, 13, 14, 15, 16, 17, 18, 19, 20, 21, 22, 23, 24], [1, 2]), ([25, 0, 1, 2, 3, 4, 5, 6, 7, 8, 9, 10, 11, 12, 13, 14, 15, 16, 17, 18, 19, 20, 21, 22, 23, 24], [25]), ([26, 24, 24, 0, 1, 2, 3, 4, 5, 6, 7, 8, 9, 10, 11, 12, 13, 14, 15, 16, 17, 18, 19, 20, 21, 22, 23, 24], [24, 26])])
def F6.B10 : List Nat := [0, 1, 0, 0, 8, 0, 56, 120, 248, 0, 512, 1536, 3584, 0, 15872, 32256, 65024, 130560, 261632, 0, 785920, 2096640, 4193792, 8388096, 16777208, 33554431, 67108863, 134217727]
theorem F6.tab10 : rtab .any (opsOf Try.f57 10) = F6.T10 := by kernel_rfl
theorem F6.bits10 : waitsOk F6.T10.2 F6.B10 = true := by kernel_rfl
def F6.T12 : Bool × List (List Nat × List Nat) := (true, [([], []), ([0], [0]), ([], []), ([], []), ([3], [3]), ([], []), ([4, 5], [4, 5]), ([6], [6]), ([7], [7]), ([], []), ([], []), ([10], [10]), ([9, 11], [9, 11]), ([12], [12]), ([13], [13]), ([8, 14, 11], [8, 14]), ([1, 2, 0, 1, 2, 3, 4, 5, 6, 7, 8, 9, 10, 11, 12, 13, 14, 15], [1, 2]), ([16, 0, 1, 2, 3, 4, 5, 6, 7, 8, 9, 10, 11, 12, 13, 14, 15], [16]), ([17, 15, 15, 0, 1, 2, 3, 4, 5, 6, 7, 8, 9, 10, 11, 12, 13, 14, 15], [15, 17])])
def F6.B12 : List Nat := [0, 1, 0, 0, 8, 0, 56, 120, 248, 0, 0, 1024, 3584, 7680, 15872, 32760, 65535, 131071, 262143]
theorem F6.tab12 : rtab .any (opsOf Try.f57 12) = F6.T12 := by kernel_rfl
theorem F6.bits12 : waitsOk F6.T12.2 F6.B12 = true := by kernel_rfl
def F6.T19 : Bool × List (List Nat × List Nat) := (true, [([], []), ([0], [0]), ([], []), ([], []), ([3], [3]), ([], []), ([4, 5], [4, 5]), ([6], [6]), ([7], [7]), ([], []), ([8, 9], [8, 9]), ([1, 2, 0, 1, 2, 3, 4, 5, 6, 7, 8, 9, 10], [1, 2]), ([11, 0, 1, 2, 3, 4, 5, 6, 7, 8, 9, 10], [11]), ([12, 10, 10, 0, 1, 2, 3, 4, 5, 6, 7, 8, 9, 10], [10, 12])])
def F6.B19 : List Nat := [0, 1, 0, 0, 8, 0, 56, 120, 248, 0, 1016, 2047, 4095, 8191]
theorem F6.tab19 : rtab .any (opsOf Try.f57 19) = F6.T19 := by kernel_rfl
theorem F6.bits19 : waitsOk F6.T19.2 F6.B19 = true := by kernel_rfl
set_option maxHeartbeats 8000000 in
set_option maxRecDepth 100000 in
theorem F6.calls (k : Nat) (g : Nat) (s0_0 : List Int) (s0_1 : Int) (s0_2 : Int) (a1_0 : ByteArray) (u9000_ : Value) (l1_1 : List (S66)) (r1 : ByteArray) (r2 : List (S66)) (r3 : Int) (r4 : Int) (w0 wb w : World) (hL : w0.heap.size ≤ wb.heap.size) (hK0 : KeepBut wb w g none) (gx : Nat) (csx : Array Value) (hbx : w.heap[gx]? = some (.cells csx 47 (0, 0))) (gy : Nat) (csy : Array Value) (hby : w.heap[gy]? = some (.cells csy 47 (0, 0))) (hI : IsS106 w0 w g s0_0 s0_1 s0_2) (hB : Below w0.heap.size w0 w) (ho1_1 : Kd.S k66 66 w wb.heap.size (fun k_ => k_ ≠ gx ∧ k_ ≠ gy) u9000_ l1_1) (h : F6.f k s0_0 s0_1 s0_2 a1_0 l1_1 = some (r1, r2, r3, r4)) :
 Calls Try.prog 57 #[.pointer (some ⟨g, 0, none⟩), .agg #[.string a1_0, u9000_]] w fun e w' => ∃ v1_ : Value, e = .returned (.agg #[.string r1, v1_]) ∧ Kd.S k66 66 w' wb.heap.size (fun k_ => k_ ≠ gx ∧ k_ ≠ gy) v1_ r2 ∧ IsS106 w0 w' g s0_0 r3 r4 ∧ Below w0.heap.size w0 w' ∧ KeepBut wb w' g none ∧ w'.heap[gx]? = some (.cells csx 47 (0, 0)) ∧ w'.heap[gy]? = some (.cells csy 47 (0, 0)) := by
 have hu31 := Try.underlying31
 have hu66 := Try.underlying66
 have HO1_1 := zm ho1_1
 clear ho1_1
 have HI0 := zm hI
 have HK := zm hK0
 have HL := zm hL
 clear hI
 have HW0 := zm hL
 have HB := zm hB
 clear hB
 have H := h
 unfold F6.f at H
 clear h
 have NB990_0 := zm (Ne.symm (IsS106.ne_blk HI0.out hbx (by decide)))
 have NB0_990 := zm (IsS106.ne_blk HI0.out hbx (by decide))
 have BK990 := zm hbx
 clear hbx
 have NB991_0 := zm (Ne.symm (IsS106.ne_blk HI0.out hby (by decide)))
 have NB0_991 := zm (IsS106.ne_blk HI0.out hby (by decide))
 have BK991 := zm hby
 clear hby
 by_cases c3 : (l1_1.length : Int) = 0
 ·rw [if_pos c3] at H
  have c3b0 := z1 c3
  have c3b1 := z3 c3
  clear c3
  simp only [Option.some.injEq, Prod.mk.injEq] at H
  obtain ⟨rfl, rfl, rfl, rfl⟩ := H
  obtain ⟨Ao4, co4, eo4⟩ := Kd.S_slice HO1_1.out
  subst eo4
  go_enter Try.func57, Try.ntmps57
  go_wp2_with (first | ((with_reducible refine gate_dst (N := 3) rfl ?_); refine box_event (by rfl) (N := 3) (by rfl) (cs := #[.string a1_0, .slice Ao4 l1_1.length co4]) (t := 31) zgs ?_; intro gb566 hg w5 hbox hb; replace HO1_1 := zm (Kd.S_below (zs HO1_1) hb); replace HB := zm (below_step (zj106 HB) hb); have BK566 := zm (hbox); have GW566 := zge hg (keep_size (w := wb) (g := g) (row := none) (zk HK)); have GE566 := zm ((Nat.le_trans HW0.out (by rw [hg]; exact (keep_size (w := wb) (g := g) (row := none) (zk HK)) : wb.heap.size ≤ gb566) : w0.heap.size ≤ gb566)); replace HK := zkB HK hb; obtain ⟨NB990_566, NB566_990⟩ := znn hg (blk_lt (zb BK990)); replace BK990 := zbb BK990 hb; obtain ⟨NB991_566, NB566_991⟩ := znn hg (blk_lt (zb BK991)); replace BK991 := zbb BK991 hb; obtain ⟨NB0_566, NB566_0⟩ := znn hg (IsS106.lt (show IsS106 w0 _ g s0_0 s0_1 s0_2 from zi106 HI0)); replace HI0 := zm (IsS106.below (zi106 HI0) hb); clear hb hbox hg) | ((with_reducible refine gate_dst (N := 4) rfl ?_); refine box_event (by rfl) (N := 4) (by rfl) (cs := #[.string (⟨#[]⟩ : ByteArray), .slice none 0 0]) (t := 31) zgs ?_; intro gb567 hg w6 hbox hb; replace HO1_1 := zm (Kd.S_below (zs HO1_1) hb); replace HB := zm (below_step (zj106 HB) hb); have BK567 := zm (hbox); have GW567 := zge hg (keep_size (w := wb) (g := g) (row := none) (zk HK)); have GE567 := zm ((Nat.le_trans HW0.out (by rw [hg]; exact (keep_size (w := wb) (g := g) (row := none) (zk HK)) : wb.heap.size ≤ gb567) : w0.heap.size ≤ gb567)); replace HK := zkB HK hb; obtain ⟨NB990_567, NB567_990⟩ := znn hg (blk_lt (zb BK990)); replace BK990 := zbb BK990 hb; obtain ⟨NB991_567, NB567_991⟩ := znn hg (blk_lt (zb BK991)); replace BK991 := zbb BK991 hb; obtain ⟨NB566_567, NB567_566⟩ := znn hg (blk_lt (zb BK566)); replace BK566 := zbb BK566 hb; obtain ⟨NB0_567, NB567_0⟩ := znn hg (IsS106.lt (show IsS106 w0 _ g s0_0 s0_1 s0_2 from zi106 HI0)); replace HI0 := zm (IsS106.below (zi106 HI0) hb); clear hb hbox hg; obtain ⟨_, _⟩ := zne NB566_990; obtain ⟨_, _⟩ := zne NB566_991; obtain ⟨_, _⟩ := zne NB566_567; obtain ⟨_, _⟩ := zne NB566_0; obtain ⟨⟨_, _⟩, _, _⟩ := zc2 BK566; obtain ⟨_, _⟩ := zne NB567_990; obtain ⟨_, _⟩ := zne NB567_991; obtain ⟨_, _⟩ := zne NB567_0; obtain ⟨⟨_, _⟩, _, _⟩ := zc2 BK567))
  refine bodyPost_ret (results_cell_row rfl _ _ gb567 31 #[.string a1_0, .slice Ao4 l1_1.length co4] (0, 0) _ rfl (zp BK567) Try.underlying31 rfl (by kernel_rfl)) rfl ?_
  exact ⟨_, zre, zxS (Kd.S_mono (zfS gb567 1 (zfS gb567 0 (Kd.S_types HO1_1.out BK567.out (by decide)) (.string a1_0)) (.slice Ao4 l1_1.length co4)) (fun _ hk => ⟨hk.1.1, hk.1.2⟩)), zi106 HI0, zj106 HB, zk HK, zp BK990, zp BK991⟩
 rw [if_neg c3] at H
 have c3b0 := z2 c3
 have c3b1 := z4 c3
 have c3b2 : ¬ (l1_1 = []) := fun h_ => c3 (by rw [h_]; rfl)
 replace H := zbi H
 obtain ⟨⟨t568, t569, t570⟩, A16, H⟩ := H
 try dsimp only at H
 replace H := zbi H
 obtain ⟨⟨t571, t572, t573⟩, A17, H⟩ := H
 try dsimp only at H
 obtain ⟨Ao24, co24, eo24⟩ := Kd.S_slice HO1_1.out
 subst eo24
 go_enter Try.func57, Try.ntmps57
 go_upto_if 19 with (first | ((with_reducible refine gate_dst (N := 3) rfl ?_); refine box_event (by rfl) (N := 3) (by rfl) (cs := #[.string a1_0, .slice Ao24 l1_1.length co24]) (t := 31) zgs ?_; intro gb566 hg w25 hbox hb; replace HO1_1 := zm (Kd.S_below (zs HO1_1) hb); replace HB := zm (below_step (zj106 HB) hb); have BK566 := zm (hbox); have GW566 := zge hg (keep_size (w := wb) (g := g) (row := none) (zk HK)); have GE566 := zm ((Nat.le_trans HW0.out (by rw [hg]; exact (keep_size (w := wb) (g := g) (row := none) (zk HK)) : wb.heap.size ≤ gb566) : w0.heap.size ≤ gb566)); replace HK := zkB HK hb; obtain ⟨NB990_566, NB566_990⟩ := znn hg (blk_lt (zb BK990)); replace BK990 := zbb BK990 hb; obtain ⟨NB991_566, NB566_991⟩ := znn hg (blk_lt (zb BK991)); replace BK991 := zbb BK991 hb; obtain ⟨NB0_566, NB566_0⟩ := znn hg (IsS106.lt (show IsS106 w0 _ g s0_0 s0_1 s0_2 from zi106 HI0)); replace HI0 := zm (IsS106.below (zi106 HI0) hb); clear hb hbox hg) | ((with_reducible refine gate_dst (N := 4) rfl ?_); refine box_event (by rfl) (N := 4) (by rfl) (cs := #[.string (⟨#[]⟩ : ByteArray), .slice none 0 0]) (t := 31) zgs ?_; intro gb567 hg w26 hbox hb; replace HO1_1 := zm (Kd.S_below (zs HO1_1) hb); replace HB := zm (below_step (zj106 HB) hb); have BK567 := zm (hbox); have GW567 := zge hg (keep_size (w := wb) (g := g) (row := none) (zk HK)); have GE567 := zm ((Nat.le_trans HW0.out (by rw [hg]; exact (keep_size (w := wb) (g := g) (row := none) (zk HK)) : wb.heap.size ≤ gb567) : w0.heap.size ≤ gb567)); replace HK := zkB HK hb; obtain ⟨NB990_567, NB567_990⟩ := znn hg (blk_lt (zb BK990)); replace BK990 := zbb BK990 hb; obtain ⟨NB991_567, NB567_991⟩ := znn hg (blk_lt (zb BK991)); replace BK991 := zbb BK991 hb; obtain ⟨NB566_567, NB567_566⟩ := znn hg (blk_lt (zb BK566)); replace BK566 := zbb BK566 hb; obtain ⟨NB0_567, NB567_0⟩ := znn hg (IsS106.lt (show IsS106 w0 _ g s0_0 s0_1 s0_2 from zi106 HI0)); replace HI0 := zm (IsS106.below (zi106 HI0) hb); clear hb hbox hg; obtain ⟨_, _⟩ := zne NB566_990; obtain ⟨_, _⟩ := zne NB566_991; obtain ⟨_, _⟩ := zne NB566_567; obtain ⟨_, _⟩ := zne NB566_0; obtain ⟨⟨_, _⟩, _, _⟩ := zc2 BK566) | ((with_reducible refine gate_callee (f := 55) rfl ?_); refine zgl 16 Try.func55 #[.pointer (some ⟨g, 0, none⟩), .int .i64 (l1_1.length : Int)] ?_; refine (F1.calls g s0_0 s0_1 s0_2 (l1_1.length : Int) t568 t569 t570 w0 _ (zi106 HI0) (zj106 HB) A16.out).mono ?_; rintro e w32 ⟨rfl, hi, hb, hk⟩; refine ⟨_, rfl, ?_⟩; replace HO1_1 := zKS106 HI0 HO1_1 hk; replace BK990 := zkb BK990 NB990_0 hk; replace BK991 := zkb BK991 NB991_0 hk; replace BK566 := zkb BK566 NB566_0 hk; replace BK567 := zkb BK567 NB567_0 hk; replace HK := zkt HK hk; replace HB := zm (hb); replace HI0 := zm (hi); (try clear hb hk hi)) | ((with_reducible refine gate_callee (f := 55) rfl ?_); refine zgl 18 Try.func55 #[.pointer (some ⟨g, 0, none⟩), .int .i64 14] ?_; refine (F1.calls g s0_0 t569 t570 14 t571 t572 t573 w0 _ (zi106 HI0) (zj106 HB) A17.out).mono ?_; rintro e w33 ⟨rfl, hi, hb, hk⟩; refine ⟨_, rfl, ?_⟩; replace HO1_1 := zKS106 HI0 HO1_1 hk; replace BK990 := zkb BK990 NB990_0 hk; replace BK991 := zkb BK991 NB991_0 hk; replace BK566 := zkb BK566 NB566_0 hk; replace BK567 := zkb BK567 NB567_0 hk; replace HK := zkt HK hk; replace HB := zm (hb); replace HI0 := zm (hi); (try clear hb hk hi)))
 (try simp only [Act.put, List.setIfInBounds_toArray, List.set_cons_zero, List.set_cons_succ])
 by_cases c18 : t571 = 0
 ·rw [if_pos c18] at H
  have c18b0 := z1 c18
  have c18b1 := z3 c18
  clear c18
  replace H := zbi H
  obtain ⟨⟨t574, t575, t576⟩, A19, H⟩ := H
  try dsimp only at H
  replace H := zbi H
  obtain ⟨t577, A20, H⟩ := H
  try dsimp only at H
  obtain ⟨y578, hy578⟩ : ∃ y_ : List ByteArray, y_ = (([(⟨#[]⟩ : ByteArray), (⟨#[97, 32, 98]⟩ : ByteArray), (⟨#[127]⟩ : ByteArray), t577] : List ByteArray)) := ⟨_, rfl⟩
  replace H : ((F1.f s0_0 t575 t576 4).bind fun bt581 => (if 0 ≤ bt581.1 then (if bt581.1 < (y578.length : Int) then (some (rdOf ByteArray.empty y578 bt581.1, l1_1, bt581.2.1, bt581.2.2)) else (none)) else (none))) = some (r1, r2, r3, r4) := zby hy578 H
  have Ny578 := zm hy578
  clear hy578
  replace H := zbi H
  obtain ⟨⟨t581, t582, t583⟩, A21, H⟩ := H
  try dsimp only at H
  replace H := zif H
  obtain ⟨c22, H⟩ := H
  have c22b0 := decide_eq_true c22
  clear c22
  replace H := zif H
  obtain ⟨c23, H⟩ := H
  have c23b0 := decide_eq_true c23
  clear c23
  simp only [Option.some.injEq, Prod.mk.injEq] at H
  obtain ⟨rfl, rfl, rfl, rfl⟩ := H
  (first | rw [c18b0] | (simp only [i64_w, i32_w]; rw [c18b0]) | skip)
  go_wp2_with (first | ((with_reducible refine gate_callee (f := 55) rfl ?_); refine zgl 22 Try.func55 #[.pointer (some ⟨g, 0, none⟩), .int .i64 2] ?_; refine (F1.calls g s0_0 t572 t573 2 t574 t575 t576 w0 _ (zi106 HI0) (zj106 HB) A19.out).mono ?_; rintro e w34 ⟨rfl, hi, hb, hk⟩; refine ⟨_, rfl, ?_⟩; replace HO1_1 := zKS106 HI0 HO1_1 hk; replace BK990 := zkb BK990 NB990_0 hk; replace BK991 := zkb BK991 NB991_0 hk; replace BK566 := zkb BK566 NB566_0 hk; replace BK567 := zkb BK567 NB567_0 hk; replace HK := zkt HK hk; replace HB := zm (hb); replace HI0 := zm (hi); (try clear hb hk hi)) | ((with_reducible refine gate_callee (f := 86) rfl ?_); refine zgl 24 Try.func86 #[.string (⟨#[105]⟩ : ByteArray), .int .i64 (wrap64 (30 + t574))] ?_; (with_reducible refine (F18.calls k (⟨#[105]⟩ : ByteArray) (wrap64 (30 + t574)) t577 _ A20.out).mono ?_); rintro e w35 ⟨rfl, hb⟩; refine ⟨_, rfl, ?_⟩; replace HO1_1 := zm (Kd.S_below (zs HO1_1) hb); replace HI0 := zm (IsS106.below (zi106 HI0) hb); replace BK990 := zbb BK990 hb; replace BK991 := zbb BK991 hb; replace BK566 := zbb BK566 hb; replace BK567 := zbb BK567 hb; replace HK := zkB HK hb; replace HB := zm (below_step (zj106 HB) hb); (try clear hb)) | ((with_reducible refine gate_dst (N := 25) rfl ?_); refine Kd.R_lit Kd.string _ 9 ?hg (N := 25) ?hd (xs := ([(⟨#[]⟩ : ByteArray), (⟨#[97, 32, 98]⟩ : ByteArray), (⟨#[127]⟩ : ByteArray), t577] : List ByteArray)) (inner := [.string (⟨#[]⟩ : ByteArray), .string (⟨#[97, 32, 98]⟩ : ByteArray), .string (⟨#[127]⟩ : ByteArray), .string t577]) (ok := fun _ => True) (okp := fun _ => True) ?hr ?hp (fun _ hk => hk) trivial (Below.refl _ _) (Nat.le_refl _) (by simp) ?_; (case hd => rfl); (case hg => rfl); (case hr => first | (go_simp; done) | (go_simp; rfl)); (case hp => exact (Reps.one (show Kd.M Kd.string _ _ _ (⟨#[]⟩ : ByteArray) [.string (⟨#[]⟩ : ByteArray)] from rfl) (Reps.one (show Kd.M Kd.string _ _ _ (⟨#[97, 32, 98]⟩ : ByteArray) [.string (⟨#[97, 32, 98]⟩ : ByteArray)] from rfl) (Reps.one (show Kd.M Kd.string _ _ _ (⟨#[127]⟩ : ByteArray) [.string (⟨#[127]⟩ : ByteArray)] from rfl) (Reps.one (show Kd.M Kd.string _ _ _ t577 [.string t577] from rfl) (Reps.none _ _)))))); intro v579 w37 ho38 hb hg_ hnew_; clear hg_ hnew_; (first | rw [← Ny578.out] at ho38 | (simp only [Int.reduceToNat] at ho38; rw [← Ny578.out] at ho38)); replace HO1_1 := zm (Kd.S_elder' (zs HO1_1) (Kd.R_base ho38) hb); have HO580 := zm (Kd.R_lower ho38 (keep_size (w := wb) (g := g) (row := none) (zk HK))); replace HI0 := zm (IsS106.below (zi106 HI0) hb); replace BK990 := zbb BK990 hb; replace BK991 := zbb BK991 hb; replace BK566 := zbb BK566 hb; replace BK567 := zbb BK567 hb; replace HK := zkB HK hb; replace HB := zm (below_step (zj106 HB) hb); clear hb ho38) | ((with_reducible refine gate_callee (f := 55) rfl ?_); refine zgl 27 Try.func55 #[.pointer (some ⟨g, 0, none⟩), .int .i64 4] ?_; refine (F1.calls g s0_0 t575 t576 4 t581 t582 t583 w0 _ (zi106 HI0) (zj106 HB) A21.out).mono ?_; rintro e w39 ⟨rfl, hi, hb, hk⟩; refine ⟨_, rfl, ?_⟩; replace HO1_1 := zKS106 HI0 HO1_1 hk; replace BK990 := zkb BK990 NB990_0 hk; replace BK991 := zkb BK991 NB991_0 hk; replace BK566 := zkb BK566 NB566_0 hk; replace BK567 := zkb BK567 NB567_0 hk; replace HO580 := zKR106 HI0 HO580 hk; replace HK := zkt HK hk; replace HB := zm (hb); replace HI0 := zm (hi); (try clear hb hk hi); obtain ⟨Ao40, co40, eo40⟩ := Kd.R_slice HO580.out; subst eo40; have p584 : 0 ≤ (t581 : Int) := of_decide_eq_true zas; have q584 : t581 < (y578.length : Int) := of_decide_eq_true zas; obtain ⟨ad584, e584, hx584_0⟩ := Kd.at_string (Kd.R_reads' HO580.out).2.2 t581 p584 q584; cases e584; replace p584 := eq_true p584; replace q584 := eq_true q584; obtain ⟨⟨_, _⟩, _, _⟩ := zc2 BK566; obtain ⟨_, _⟩ := zne NB567_990; obtain ⟨_, _⟩ := zne NB567_991; obtain ⟨_, _⟩ := zne NB567_0; obtain ⟨⟨_, _⟩, _, _⟩ := zc2 BK567))
  refine bodyPost_ret (results_cell_row rfl _ _ gb567 31 #[.string (rdOf ByteArray.empty y578 t581), .slice Ao24 l1_1.length co24] (0, 0) _ rfl (zp BK567) Try.underlying31 rfl (by kernel_rfl)) rfl ?_
  exact ⟨_, zre, zxS (Kd.S_mono (zfS gb567 1 (zfS gb567 0 (Kd.S_far (p := ⟨gb566, 0, none⟩) (Kd.S_types (Kd.S_types HO1_1.out BK566.out (by decide)) BK567.out (by decide)) (fun _ hk => hk.1.2) (.string (rdOf ByteArray.empty y578 t581))) (.string (rdOf ByteArray.empty y578 t581))) (.slice Ao24 l1_1.length co24)) (fun _ hk => ⟨hk.1.1.1.1, hk.1.1.1.2⟩)), zi106 HI0, zj106 HB, zk HK, zp BK990, zp BK991⟩
 rw [if_neg c18] at H
 have c18b0 := z2 c18
 have c18b1 := z4 c18
 by_cases c46 : t571 = 1
 ·rw [if_pos c46] at H
  have c46b0 := z1 c46
  have c46b1 := z3 c46
  clear c46
  obtain ⟨y585, hy585⟩ : ∃ y_ : List ByteArray, y_ = (([(⟨#[]⟩ : ByteArray), (⟨#[110, 111, 112, 101]⟩ : ByteArray), (⟨#[122, 122, 122]⟩ : ByteArray)] : List ByteArray)) := ⟨_, rfl⟩
  replace H : ((F1.f s0_0 t572 t573 3).bind fun bt588 => (if 0 ≤ bt588.1 then (if bt588.1 < (y585.length : Int) then (if 0 ≤ t568 then (if t568 < (l1_1.length : Int) then (some (a1_0, (l1_1.set (t568 : Int).toNat (⟨rdOf ByteArray.empty y585 bt588.1, (rd_T66 l1_1 t568).f1, (rd_T66 l1_1 t568).f2⟩ : S66)), bt588.2.1, bt588.2.2)) else (none)) else (none)) else (none)) else (none))) = some (r1, r2, r3, r4) := zby hy585 H
  have Ny585 := zm hy585
  clear hy585
  replace H := zbi H
  obtain ⟨⟨t588, t589, t590⟩, A47, H⟩ := H
  try dsimp only at H
  replace H := zif H
  obtain ⟨c48, H⟩ := H
  have c48b0 := decide_eq_true c48
  clear c48
  replace H := zif H
  obtain ⟨c49, H⟩ := H
  have c49b0 := decide_eq_true c49
  clear c49
  replace H := zif H
  obtain ⟨c50, H⟩ := H
  have c50b0 := decide_eq_true c50
  clear c50
  replace H := zif H
  obtain ⟨c51, H⟩ := H
  have c51b0 := decide_eq_true c51
  clear c51
  obtain ⟨y592, hy592⟩ : ∃ y_ : List (S66), y_ = (l1_1.set (t568 : Int).toNat (⟨rdOf ByteArray.empty y585 t588, (rd_T66 l1_1 t568).f1, (rd_T66 l1_1 t568).f2⟩ : S66)) := ⟨_, rfl⟩
  replace H : (some (a1_0, y592, t589, t590)) = some (r1, r2, r3, r4) := zby hy592 H
  have Ny592 := zm hy592
  clear hy592
  simp only [Option.some.injEq, Prod.mk.injEq] at H
  obtain ⟨rfl, rfl, rfl, rfl⟩ := H
  (first | rw [c18b0] | (simp only [i64_w, i32_w]; rw [c18b0]) | skip)
  try go_wp2
  have pi591 : (0 ≤ (t588 : Int)) = True := eq_true (of_decide_eq_true zas)
  have qi591 : (t588 < (y585.length : Int)) = True := eq_true (of_decide_eq_true zas)
  replace HO1_1 := zm (Kd.S_drew HO1_1.out)
  replace BK990 := zm (blk_drew BK990.out)
  replace BK991 := zm (blk_drew BK991.out)
  replace BK566 := zm (blk_drew BK566.out)
  replace BK567 := zm (blk_drew BK567.out)
  replace HI0 := zm (IsS106.drew HI0.out)
  replace HK := zm (keep_drew HK.out)
  replace HB := zm (below_drew1 HB.out)
  refine start_ (n := 11) (S := fun w' => w'.cell? ⟨gb566, 0, none⟩ = some (.string a1_0) ∧ w'.cell? ⟨gb566, 1, none⟩ = some (.slice Ao24 l1_1.length co24)) (ds := [10]) (fl13_ 11 0) (by kernel_rfl) rfl rfl ⟨zd BK566 0, zd BK566 1⟩ (fun hHeld => ?_); refine with_tabW F6.tab8 F6.bits8 (fun HT_ HW_ => ?_)
  generalize w33.drew = w63 at HO1_1 BK990 BK991 BK566 BK567 HI0 HK HB hHeld ⊢
  refine zpu HT_ 0 33 (fl13_ 11 1) ?_
  refine zpu HT_ 2 35 (fl13_ 11 5) ?_
  refine zpu HT_ 4 37 (fl13_ 11 21) ?_
  refine ztk HT_ HW_ 1 34 (fl13_ 11 23) hHeld ?_
  refine join_ (σ := Value × Addr) 5 (fl13_ 11 63) (fun s_ => [(36, s_.1), (38, .int .i64 t588)]) (fun s_ w' => (w'.cell? ⟨gb566, 0, none⟩ = some (.string a1_0) ∧ w'.cell? ⟨gb566, 1, none⟩ = some (.slice Ao24 l1_1.length co24)) ∧ (Kd.S k66 66 w' wb.heap.size (fun k_ => some k_ ≠ (s_.1 : Value).ownBlock ∧ k_ ≠ gx ∧ k_ ≠ gy) (.slice Ao24 l1_1.length co24) l1_1) ∧ (Kd.R Kd.string 9 w' wb.heap.size (fun _ => True) s_.1 y585) ∧ (∃ c_, (s_.1 : Value) = .slice (some s_.2) y585.length c_) ∧ (w'.heap[gb566]? = some (.cells #[.string a1_0, .slice Ao24 l1_1.length co24] 31 (0, 0))) ∧ (w'.heap[gb567]? = some (.cells #[.string (⟨#[]⟩ : ByteArray), .slice none 0 0] 31 (0, 0))) ∧ (w'.heap[gx]? = some (.cells csx 47 (0, 0))) ∧ (w'.heap[gy]? = some (.cells csy 47 (0, 0))) ∧ (IsS106 w0 w' g s0_0 t589 t590) ∧ (KeepBut wb w' g none) ∧ (Below w0.heap.size w0 w')) ?_ ?_
  rotate_left
  ·intro hCont
   refine two_ (i := 3) (j := 5) (Ni := some 36) (Nj := some 38) (fl13_ 11 31) (fl13_ 11 55) rfl rfl rfl rfl (two_of HT_.out (by kernel_rfl)) (by decide) (by decide) (fun K hK => ?_) (fun K hK => ?_)
   ·skip
    refine Kd.R_lit_step Kd.string _ 9 ?hg (N := 36) ?hd (xs := ([(⟨#[]⟩ : ByteArray), (⟨#[110, 111, 112, 101]⟩ : ByteArray), (⟨#[122, 122, 122]⟩ : ByteArray)] : List ByteArray)) (inner := [.string (⟨#[]⟩ : ByteArray), .string (⟨#[110, 111, 112, 101]⟩ : ByteArray), .string (⟨#[122, 122, 122]⟩ : ByteArray)]) (ok := fun _ => True) (okp := fun _ => True) ?hr ?hp (fun _ hk => hk) trivial (Below.refl _ _) (Nat.le_refl _) (by simp) ?_; (case hd => rfl); (case hg => rfl); (case hr => first | (go_simp; done) | (go_simp; rfl)); (case hp => exact (Reps.one (show Kd.M Kd.string _ _ _ (⟨#[]⟩ : ByteArray) [.string (⟨#[]⟩ : ByteArray)] from rfl) (Reps.one (show Kd.M Kd.string _ _ _ (⟨#[110, 111, 112, 101]⟩ : ByteArray) [.string (⟨#[110, 111, 112, 101]⟩ : ByteArray)] from rfl) (Reps.one (show Kd.M Kd.string _ _ _ (⟨#[122, 122, 122]⟩ : ByteArray) [.string (⟨#[122, 122, 122]⟩ : ByteArray)] from rfl) (Reps.none _ _)))))
    intro v586 w64 ho65 hb hg_ hnew_
    clear hg_ hnew_
    (first | rw [← Ny585.out] at ho65 | (simp only [Int.reduceToNat] at ho65; rw [← Ny585.out] at ho65))
    replace HO1_1 := zm (Kd.S_elder' (zs HO1_1) (Kd.R_base ho65) hb)
    have HO587 := zm (Kd.R_lower ho65 (keep_size (w := wb) (g := g) (row := none) (zk HK)))
    replace HI0 := zm (IsS106.below (zi106 HI0) hb)
    replace BK990 := zbb BK990 hb
    replace BK991 := zbb BK991 hb
    replace BK566 := zbb BK566 hb
    replace BK567 := zbb BK567 hb
    replace HK := zkB HK hb
    replace HB := zm (below_step (zj106 HB) hb)
    clear hb ho65
    obtain ⟨Ao66, co66, eo66⟩ := Kd.R_slice HO587.out
    subst eo66
    obtain ⟨ado66, fo66, _⟩ := Kd.at_string (Kd.R_reads' HO587.out).2.2 0 (by decide) (by rw [Ny585.out]; simp)
    cases fo66
    refine hK.out _ _ ⟨zd BK566 0, zd BK566 1⟩ (fun hHeld => ?_)
    clear hK K
    refine norm_ zac ?_
    refine zon HT_ 5 38 (fl13_ 11 63) (fun K hK => ?_)
    refine goes_ Try.func55 (by kernel_rfl) rfl #[.pointer (some ⟨g, 0, none⟩), .int .i64 3] (by rfl) rfl rfl zar ?_
    refine (F1.calls g s0_0 t572 t573 3 t588 t589 t590 w0 _ (zi106 HI0) (zj106 HB) A47.out).mono ?_
    rintro e w67 ⟨rfl, hi, hb, hk⟩
    refine ⟨_, rfl, ?_⟩
    replace HO1_1 := zKS106 HI0 HO1_1 hk
    replace BK990 := zkb BK990 NB990_0 hk
    replace BK991 := zkb BK991 NB991_0 hk
    replace BK566 := zkb BK566 NB566_0 hk
    replace BK567 := zkb BK567 NB567_0 hk
    replace HO587 := zKR106 HI0 HO587 hk
    replace HK := zkt HK hk
    replace HB := zm (hb)
    replace HI0 := zm (hi)
    (try clear hb hk hi)
    refine hK.out _ _ ⟨zd BK566 0, zd BK566 1⟩ (fun hHeld => ?_)
    clear hK K
    refine norm_ zac ?_
    exact norm_ zpa (hCont (.slice (some ado66) y585.length co66, ado66) _ ⟨hHeld, (Kd.S_mono (zs HO1_1) (fun _ hk => ⟨hk.2, ⟨hk.1.1, hk.1.2⟩⟩)), (zr HO587), ⟨_, rfl⟩, (zb BK566), (zb BK567), (zb BK990), (zb BK991), (zi106 HI0), (zk HK), (zj106 HB)⟩)
   ·skip
    refine goes_ Try.func55 (by kernel_rfl) rfl #[.pointer (some ⟨g, 0, none⟩), .int .i64 3] (by rfl) rfl rfl zar ?_
    refine (F1.calls g s0_0 t572 t573 3 t588 t589 t590 w0 _ (zi106 HI0) (zj106 HB) A47.out).mono ?_
    rintro e w64 ⟨rfl, hi, hb, hk⟩
    refine ⟨_, rfl, ?_⟩
    replace HO1_1 := zKS106 HI0 HO1_1 hk
    replace BK990 := zkb BK990 NB990_0 hk
    replace BK991 := zkb BK991 NB991_0 hk
    replace BK566 := zkb BK566 NB566_0 hk
    replace BK567 := zkb BK567 NB567_0 hk
    replace HK := zkt HK hk
    replace HB := zm (hb)
    replace HI0 := zm (hi)
    (try clear hb hk hi)
    refine hK.out _ _ ⟨zd BK566 0, zd BK566 1⟩ (fun hHeld => ?_)
    clear hK K
    refine norm_ zac ?_
    refine zon HT_ 3 36 (fl13_ 11 63) (fun K hK => ?_)
    refine Kd.R_lit_step Kd.string _ 9 ?hg (N := 36) ?hd (xs := ([(⟨#[]⟩ : ByteArray), (⟨#[110, 111, 112, 101]⟩ : ByteArray), (⟨#[122, 122, 122]⟩ : ByteArray)] : List ByteArray)) (inner := [.string (⟨#[]⟩ : ByteArray), .string (⟨#[110, 111, 112, 101]⟩ : ByteArray), .string (⟨#[122, 122, 122]⟩ : ByteArray)]) (ok := fun _ => True) (okp := fun _ => True) ?hr ?hp (fun _ hk => hk) trivial (Below.refl _ _) (Nat.le_refl _) (by simp) ?_; (case hd => rfl); (case hg => rfl); (case hr => first | (go_simp; done) | (go_simp; rfl)); (case hp => exact (Reps.one (show Kd.M Kd.string _ _ _ (⟨#[]⟩ : ByteArray) [.string (⟨#[]⟩ : ByteArray)] from rfl) (Reps.one (show Kd.M Kd.string _ _ _ (⟨#[110, 111, 112, 101]⟩ : ByteArray) [.string (⟨#[110, 111, 112, 101]⟩ : ByteArray)] from rfl) (Reps.one (show Kd.M Kd.string _ _ _ (⟨#[122, 122, 122]⟩ : ByteArray) [.string (⟨#[122, 122, 122]⟩ : ByteArray)] from rfl) (Reps.none _ _)))))
    intro v586 w65 ho66 hb hg_ hnew_
    clear hg_ hnew_
    (first | rw [← Ny585.out] at ho66 | (simp only [Int.reduceToNat] at ho66; rw [← Ny585.out] at ho66))
    replace HO1_1 := zm (Kd.S_elder' (zs HO1_1) (Kd.R_base ho66) hb)
    have HO587 := zm (Kd.R_lower ho66 (keep_size (w := wb) (g := g) (row := none) (zk HK)))
    replace HI0 := zm (IsS106.below (zi106 HI0) hb)
    replace BK990 := zbb BK990 hb
    replace BK991 := zbb BK991 hb
    replace BK566 := zbb BK566 hb
    replace BK567 := zbb BK567 hb
    replace HK := zkB HK hb
    replace HB := zm (below_step (zj106 HB) hb)
    clear hb ho66
    obtain ⟨Ao67, co67, eo67⟩ := Kd.R_slice HO587.out
    subst eo67
    obtain ⟨ado67, fo67, _⟩ := Kd.at_string (Kd.R_reads' HO587.out).2.2 0 (by decide) (by rw [Ny585.out]; simp)
    cases fo67
    refine hK.out _ _ ⟨zd BK566 0, zd BK566 1⟩ (fun hHeld => ?_)
    clear hK K
    refine norm_ zac ?_
    exact norm_ zpa (hCont (.slice (some ado67) y585.length co67, ado67) _ ⟨hHeld, (Kd.S_mono (zs HO1_1) (fun _ hk => ⟨hk.2, ⟨hk.1.1, hk.1.2⟩⟩)), (zr HO587), ⟨_, rfl⟩, (zb BK566), (zb BK567), (zb BK990), (zb BK991), (zi106 HI0), (zk HK), (zj106 HB)⟩)
  rintro ⟨v586, adz_v586⟩ w68 ⟨hS_, h0_, h1_, h2_, h3_, h4_, h5_, h6_, h7_, h8_, h9_⟩
  have n0_ : Aside0 (Kd.S k66 66 w68 wb.heap.size (fun k_ => some k_ ≠ (v586 : Value).ownBlock ∧ k_ ≠ gx ∧ k_ ≠ gy) (.slice Ao24 l1_1.length co24) l1_1) := ⟨h0_⟩
  have n1_ : Aside0 (Kd.R Kd.string 9 w68 wb.heap.size (fun _ => True) v586 y585) := ⟨h1_⟩
  have n2_ : Aside0 (∃ c_, (v586 : Value) = .slice (some adz_v586) y585.length c_) := ⟨h2_⟩
  have n3_ : Aside0 (w68.heap[gb566]? = some (.cells #[.string a1_0, .slice Ao24 l1_1.length co24] 31 (0, 0))) := ⟨h3_⟩
  have n4_ : Aside0 (w68.heap[gb567]? = some (.cells #[.string (⟨#[]⟩ : ByteArray), .slice none 0 0] 31 (0, 0))) := ⟨h4_⟩
  have n5_ : Aside0 (w68.heap[gx]? = some (.cells csx 47 (0, 0))) := ⟨h5_⟩
  have n6_ : Aside0 (w68.heap[gy]? = some (.cells csy 47 (0, 0))) := ⟨h6_⟩
  have n7_ : Aside0 (IsS106 w0 w68 g s0_0 t589 t590) := ⟨h7_⟩
  have n8_ : Aside0 (KeepBut wb w68 g none) := ⟨h8_⟩
  have n9_ : Aside0 (Below w0.heap.size w0 w68) := ⟨h9_⟩
  clear HO1_1
  clear BK990
  clear BK991
  clear BK566
  clear BK567
  clear HI0
  clear HK
  clear HB
  clear h0_ h1_ h2_ h3_ h4_ h5_ h6_ h7_ h8_ h9_
  have HO1_1 := n0_
  have HO587 := n1_
  have HA_HO587 := n2_
  have BK566 := n3_
  have BK567 := n4_
  have BK990 := n5_
  have BK991 := n6_
  have HI0 := n7_
  have HK := n8_
  have HB := n9_
  clear n0_ n1_ n2_ n3_ n4_ n5_ n6_ n7_ n8_ n9_
  have hHeld : w68.cell? ⟨gb566, 0, none⟩ = some (.string a1_0) ∧ w68.cell? ⟨gb566, 1, none⟩ = some (.slice Ao24 l1_1.length co24) := hS_
  obtain ⟨co69, eo69⟩ := HA_HO587.out
  clear HA_HO587
  subst eo69
  have p52 : 0 ≤ (t568 : Int) := of_decide_eq_true zas
  have q52 : (t568 : Int) < ((l1_1.length : Int) : Int) := of_decide_eq_true zas
  obtain ⟨go52, co52, eo52, gb52, gl52, cl52, HG52⟩ := Kd.S_form HO1_1.out (Int.natCast_pos.1 (Int.lt_of_le_of_lt p52 q52))
  (first | cases eo52 | (injection eo52 with ea_ en_ ec_; (first | subst ea_ | (injection ea_ with ea_; subst ea_)); subst ec_; clear en_))
  have GB52 := zm gb52
  have GG52 := zm HG52
  clear gb52 gl52 HG52
  obtain ⟨_, ce52, hcl52, hM52, hcc52, hfr52, _, _⟩ := Kd.S_elem HO1_1.out z66 (t568 : Int) p52 q52
  obtain ⟨ve52_1, ve52_2, rfl, ge52_1, ge52_2⟩ := k66_openM hM52
  have hx52_0 : World.cell? _ ⟨go52, (t568 : Int).toNat * 3, none⟩ = some (.string ((rd_T66 l1_1 t568).f0)) := hcc52 0 _ rfl
  have hx52_1 : World.cell? _ ⟨go52, (t568 : Int).toNat * 3 + 1, none⟩ = some (ve52_1) := hcc52 1 _ rfl
  have hx52_2 : World.cell? _ ⟨go52, (t568 : Int).toNat * 3 + 2, none⟩ = some (ve52_2) := hcc52 2 _ rfl
  have hf52_0 : World.frozen? _ ⟨go52, (t568 : Int).toNat * 3, none⟩ = false := hfr52 0
  have hf52_1 : World.frozen? _ ⟨go52, (t568 : Int).toNat * 3 + 1, none⟩ = false := hfr52 1
  have hf52_2 : World.frozen? _ ⟨go52, (t568 : Int).toNat * 3 + 2, none⟩ = false := hfr52 2
  clear hcl52 hcc52 hfr52 hM52
  replace p52 := eq_true p52
  replace q52 := eq_true q52
  have HN0_go52 := zm (show g ≠ go52 from by have h_ := IsS106.own_neS HI0.out HO1_1.out (by decide); intro e_; exact h_ (by rw [e_]; rfl))
  have HX70 := zm (show Kd.S k66 66 _ wb.heap.size (fun k_ => ((fun k_ => some k_ ≠ (.slice (some adz_v586) y585.length co69 : Value).ownBlock ∧ k_ ≠ gx ∧ k_ ≠ gy)) k_ ∧ ¬ (fun _ => False) k_) (.slice (some ⟨go52, 0, none⟩) l1_1.length co24) l1_1 from (Kd.S_mono HO1_1.out (fun k_ hk => ⟨⟨hk.1, ⟨hk.2.1, hk.2.2⟩⟩, fun e_ => e_⟩)))
  obtain ⟨oki70, ce70, hcl70, hM70, hcc70, hfr70, hoki70, hH70⟩ := Kd.S_elem HX70.out z66 (t568 : Int) (of_decide_eq_true zas) (by have h_ : (t568 : Int) < ((l1_1.length : Int) : Int) := of_decide_eq_true zas; first | exact h_ | (have e_ := (Kd.S_reads' HO1_1.out).1; omega) | simpa using h_)
  obtain ⟨ve70_1, ve70_2, rfl, ge70_1, ge70_2⟩ := k66_openM hM70
  have HP70 := (Kd.S_seg hH70 (of_decide_eq_true zas) (by have h_ : (t568 : Int) < ((l1_1.length : Int) : Int) := of_decide_eq_true zas; first | exact h_ | (have e_ := (Kd.S_reads' HO1_1.out).1; omega) | simpa using h_) (seg := [.string (rdOf ByteArray.empty y585 t588)]) (j := 0) (show 1 ≤ 3 from by decide) (x' := (⟨rdOf ByteArray.empty y585 t588, (rd_T66 l1_1 t568).f1, (rd_T66 l1_1 t568).f2⟩ : S66)) (k66_mkM _ _ _ (⟨rdOf ByteArray.empty y585 t588, (rd_T66 l1_1 t568).f1, (rd_T66 l1_1 t568).f2⟩ : S66) ge70_1 ge70_2) (fun _ hk => Or.inl hk) (fun _ hk => hk.elim)).1
  rw [← Ny592.out] at HP70
  have HQ70 := zm HP70
  clear hcl70 hcc70 hfr70 hM70 HP70
  refine norm_ (a' := ?_) ?_ ?_
  rotate_left
  ·simp only [putAll, Act.put, List.setIfInBounds_toArray, List.set_cons_zero, List.set_cons_succ]
   rfl
  refine zpu HT_ 6 39 (fl13_ 11 127) ?_
  refine zon HT_ 7 40 (fl13_ 11 255) (fun K hK => ?_)
  (have p591 : 0 ≤ (t588 : Int) := of_decide_eq_true zas; have q591 : t588 < (y585.length : Int) := of_decide_eq_true zas; obtain ⟨ad591, e591, hx591_0⟩ := Kd.at_string (Kd.R_reads' HO587.out).2.2 t588 p591 q591; obtain rfl : adz_v586 = ad591 := (by injection e591))
  refine value_ (w1 := ?_) (v := ?_) (by rfl) rfl ?_ ?_
  rotate_left 2
  ·go_simp
   constructor
   ·rfl
   ·rfl
  clear hx591_0
  refine hK.out _ _ ⟨zd BK566 0, zd BK566 1⟩ (fun hHeld => ?_)
  clear hK K
  refine norm_ zac ?_
  refine zpu HT_ 8 41 (fl13_ 11 511) ?_
  refine zpu HT_ 9 42 (fl13_ 11 1023) ?_
  refine last_ (i := 10) (N := none) (fl13_ 11 2047) rfl rfl (one_of HT_.out (by kernel_rfl)) (by decide) (fun K hK => ?_)
  refine skip_ (w1 := ?_) (by rfl) rfl ?_ ?_
  rotate_left
  ·go_simp
   rfl
  refine hK.out _ _ ?_
  clear hK K
  refine done_ (done_of HT_.out (by kernel_rfl)) ?_
  have n0_ : Aside0 (Kd.S k66 66 (w68.setCell ⟨go52, (t568 : Int).toNat * 3, none⟩ (.string (rdOf ByteArray.empty y585 t588))) wb.heap.size (fun k_ => some k_ ≠ (.slice (some adz_v586) y585.length co69 : Value).ownBlock ∧ k_ ≠ gx ∧ k_ ≠ gy) (.slice (some ⟨go52, 0, none⟩) l1_1.length co24) y592) := ⟨zs HQ70⟩
  have n1_ : Aside0 (Kd.R Kd.string 9 (w68.setCell ⟨go52, (t568 : Int).toNat * 3, none⟩ (.string (rdOf ByteArray.empty y585 t588))) wb.heap.size (fun _ => True) (.slice (some adz_v586) y585.length co69) y585) := ⟨by (with_reducible repeat (first | apply Kd.R_alloc | apply Kd.R_drewN | apply Kd.R_drew)); exact Kd.R_mono (Kd.R_far (p := ⟨go52, (t568 : Int).toNat * 3, none⟩) (Kd.R_types HO587.out GG52.out (by decide)) (fun _ hk => hk.2) (.string (rdOf ByteArray.empty y585 t588))) (fun _ hk => trivial)⟩
  have n2_ : Aside0 ((w68.setCell ⟨go52, (t568 : Int).toNat * 3, none⟩ (.string (rdOf ByteArray.empty y585 t588))).heap[gx]? = some (.cells csx 47 (0, 0))) := ⟨by (with_reducible repeat (first | refine blk_drewN ?_ _ | refine blk_drew ?_ | refine blk_alloc ?_ _)); refine blk_far ?_ (by have h_ := Kd.S_ne HO1_1.out BK990.out (by decide); intro e_; exact h_ (by rw [e_]; rfl)) _; (with_reducible repeat (first | refine blk_drewN ?_ _ | refine blk_drew ?_ | refine blk_alloc ?_ _)); exact BK990.out⟩
  have n3_ : Aside0 ((w68.setCell ⟨go52, (t568 : Int).toNat * 3, none⟩ (.string (rdOf ByteArray.empty y585 t588))).heap[gy]? = some (.cells csy 47 (0, 0))) := ⟨by (with_reducible repeat (first | refine blk_drewN ?_ _ | refine blk_drew ?_ | refine blk_alloc ?_ _)); refine blk_far ?_ (by have h_ := Kd.S_ne HO1_1.out BK991.out (by decide); intro e_; exact h_ (by rw [e_]; rfl)) _; (with_reducible repeat (first | refine blk_drewN ?_ _ | refine blk_drew ?_ | refine blk_alloc ?_ _)); exact BK991.out⟩
  have n4_ : Aside0 ((w68.setCell ⟨go52, (t568 : Int).toNat * 3, none⟩ (.string (rdOf ByteArray.empty y585 t588))).heap[gb566]? = some (.cells #[.string a1_0, .slice (some ⟨go52, 0, none⟩) l1_1.length co24] 31 (0, 0))) := ⟨by (with_reducible repeat (first | refine blk_drewN ?_ _ | refine blk_drew ?_ | refine blk_alloc ?_ _)); refine blk_far ?_ (by have h_ := Kd.S_ne HO1_1.out BK566.out (by decide); intro e_; exact h_ (by rw [e_]; rfl)) _; (with_reducible repeat (first | refine blk_drewN ?_ _ | refine blk_drew ?_ | refine blk_alloc ?_ _)); exact BK566.out⟩
  have n5_ : Aside0 ((w68.setCell ⟨go52, (t568 : Int).toNat * 3, none⟩ (.string (rdOf ByteArray.empty y585 t588))).heap[gb567]? = some (.cells #[.string (⟨#[]⟩ : ByteArray), .slice none 0 0] 31 (0, 0))) := ⟨by (with_reducible repeat (first | refine blk_drewN ?_ _ | refine blk_drew ?_ | refine blk_alloc ?_ _)); refine blk_far ?_ (by have h_ := Kd.S_ne HO1_1.out BK567.out (by decide); intro e_; exact h_ (by rw [e_]; rfl)) _; (with_reducible repeat (first | refine blk_drewN ?_ _ | refine blk_drew ?_ | refine blk_alloc ?_ _)); exact BK567.out⟩
  have n6_ : Aside0 (IsS106 w0 (w68.setCell ⟨go52, (t568 : Int).toNat * 3, none⟩ (.string (rdOf ByteArray.empty y585 t588))) g s0_0 t589 t590) := ⟨zi106 HI0⟩
  have n7_ : Aside0 (KeepBut wb (w68.setCell ⟨go52, (t568 : Int).toNat * 3, none⟩ (.string (rdOf ByteArray.empty y585 t588))) g none) := ⟨zk HK⟩
  have n8_ : Aside0 (Below w0.heap.size w0 (w68.setCell ⟨go52, (t568 : Int).toNat * 3, none⟩ (.string (rdOf ByteArray.empty y585 t588)))) := ⟨by repeat (first | (with_reducible first | exact HB.out | apply below_alloc | apply pw_below_drewN | apply below_drew1 | refine below_set ?_ (Nat.le_trans HL.out GB52.out) | refine below_set ?_ (IsS106.ge HI0.out) | refine below_set ?_ GE990.out | refine below_set ?_ GE991.out | refine below_set ?_ GE566.out | refine below_set ?_ GE567.out) | exact HB.out)⟩
  (try clear HO1_1)
  (try clear HO587)
  (try clear BK990)
  (try clear BK991)
  (try clear BK566)
  (try clear BK567)
  (try clear HI0)
  (try clear HK)
  (try clear HB)
  generalize (w68.setCell ⟨go52, (t568 : Int).toNat * 3, none⟩ (.string (rdOf ByteArray.empty y585 t588))) = w71 at n0_ n1_ n2_ n3_ n4_ n5_ n6_ n7_ n8_ ⊢
  have HO1_1 := n0_
  have HO587 := n1_
  have BK990 := n2_
  have BK991 := n3_
  have BK566 := n4_
  have BK567 := n5_
  have HI0 := n6_
  have HK := n7_
  have HB := n8_
  clear n0_ n1_ n2_ n3_ n4_ n5_ n6_ n7_ n8_
  obtain ⟨⟨_, _⟩, _, _⟩ := zc2 BK566
  obtain ⟨_, _⟩ := zne NB567_990
  obtain ⟨_, _⟩ := zne NB567_991
  obtain ⟨_, _⟩ := zne NB567_0
  obtain ⟨⟨_, _⟩, _, _⟩ := zc2 BK567
  try go_wp2
  refine bodyPost_ret (results_cell_row rfl _ _ gb567 31 #[.string a1_0, .slice (some ⟨go52, 0, none⟩) l1_1.length co24] (0, 0) _ rfl (zp BK567) Try.underlying31 rfl (by kernel_rfl)) rfl ?_
  exact ⟨_, zre, zxS (Kd.S_mono (zfS gb567 1 (zfS gb567 0 (Kd.S_types HO1_1.out BK567.out (by decide)) (.string a1_0)) (.slice (some ⟨go52, 0, none⟩) l1_1.length co24)) (fun _ hk => ⟨hk.1.2.1, hk.1.2.2⟩)), zi106 HI0, zj106 HB, zk HK, zp BK990, zp BK991⟩
 rw [if_neg c46] at H
 have c46b0 := z2 c46
 have c46b1 := z4 c46
 by_cases c77 : t571 = 2
 ·rw [if_pos c77] at H
  have c77b0 := z1 c77
  have c77b1 := z3 c77
  clear c77
  replace H := zif H
  obtain ⟨c78, H⟩ := H
  have c78b0 := decide_eq_true c78
  clear c78
  replace H := zif H
  obtain ⟨c79, H⟩ := H
  have c79b0 := decide_eq_true c79
  clear c79
  replace H := zbi H
  obtain ⟨⟨t594, t595, t596⟩, A80, H⟩ := H
  try dsimp only at H
  replace H := zbi H
  obtain ⟨t597, A81, H⟩ := H
  try dsimp only at H
  replace H := zbi H
  obtain ⟨⟨t598, t599, t600⟩, A82, H⟩ := H
  try dsimp only at H
  replace H := zbi H
  obtain ⟨t601, A83, H⟩ := H
  try dsimp only at H
  obtain ⟨y602, hy602⟩ : ∃ y_ : List ByteArray, y_ = (([(⟨#[]⟩ : ByteArray), (⟨#[255]⟩ : ByteArray), t597, t601] : List ByteArray)) := ⟨_, rfl⟩
  replace H : ((F1.f s0_0 t599 t600 4).bind fun bt605 => (if 0 ≤ bt605.1 then (if bt605.1 < (y602.length : Int) then (if ((rd_T66 l1_1 t568).f1).length < 8796093022208 then (some (a1_0, (l1_1.set (t568 : Int).toNat (⟨(rd_T66 l1_1 t568).f0, (((rd_T66 l1_1 t568).f1) ++ [rdOf ByteArray.empty y602 bt605.1]), (rd_T66 l1_1 t568).f2⟩ : S66)), bt605.2.1, bt605.2.2)) else (none)) else (none)) else (none))) = some (r1, r2, r3, r4) := zby hy602 H
  have Ny602 := zm hy602
  clear hy602
  replace H := zbi H
  obtain ⟨⟨t605, t606, t607⟩, A84, H⟩ := H
  try dsimp only at H
  replace H := zif H
  obtain ⟨c85, H⟩ := H
  have c85b0 := decide_eq_true c85
  clear c85
  replace H := zif H
  obtain ⟨c86, H⟩ := H
  have c86b0 := decide_eq_true c86
  clear c86
  replace H := zif H
  obtain ⟨c87, H⟩ := H
  have LMc87 := zm c87
  clear c87
  obtain ⟨y609, hy609⟩ : ∃ y_ : List ByteArray, y_ = (((rd_T66 l1_1 t568).f1) ++ [rdOf ByteArray.empty y602 t605]) := ⟨_, rfl⟩
  replace H : (some (a1_0, (l1_1.set (t568 : Int).toNat (⟨(rd_T66 l1_1 t568).f0, y609, (rd_T66 l1_1 t568).f2⟩ : S66)), t606, t607)) = some (r1, r2, r3, r4) := zby hy609 H
  have Ny609 := zm hy609
  clear hy609
  obtain ⟨y612, hy612⟩ : ∃ y_ : List (S66), y_ = (l1_1.set (t568 : Int).toNat (⟨(rd_T66 l1_1 t568).f0, y609, (rd_T66 l1_1 t568).f2⟩ : S66)) := ⟨_, rfl⟩
  replace H : (some (a1_0, y612, t606, t607)) = some (r1, r2, r3, r4) := zby hy612 H
  have Ny612 := zm hy612
  clear hy612
  simp only [Option.some.injEq, Prod.mk.injEq] at H
  obtain ⟨rfl, rfl, rfl, rfl⟩ := H
  (first | rw [c18b0] | (simp only [i64_w, i32_w]; rw [c18b0]) | skip)
  try go_wp2
  have pi608 : (0 ≤ (t605 : Int)) = True := eq_true (of_decide_eq_true zas)
  have qi608 : (t605 < (y602.length : Int)) = True := eq_true (of_decide_eq_true zas)
  replace HO1_1 := zm (Kd.S_drew HO1_1.out)
  replace BK990 := zm (blk_drew BK990.out)
  replace BK991 := zm (blk_drew BK991.out)
  replace BK566 := zm (blk_drew BK566.out)
  replace BK567 := zm (blk_drew BK567.out)
  replace HI0 := zm (IsS106.drew HI0.out)
  replace HK := zm (keep_drew HK.out)
  replace HB := zm (below_drew1 HB.out)
  have p593 : 0 ≤ (t568 : Int) := of_decide_eq_true zas
  have q593 : t568 < (l1_1.length : Int) := of_decide_eq_true zas
  obtain ⟨ad593, A593_1, c593_1, A593_2, c593_2, e593, hx593_0, hx593_1, hx593_2, hl593_1, hi593_1, hl593_2, hi593_2⟩ := at_T66 (Kd.S_reads' HO1_1.out).2.2 t568 p593 q593
  cases e593
  obtain ⟨ce593, hce593, hMe593, hcc593⟩ := Kd.S_get HO1_1.out z66 t568 p593 (by first | exact q593 | exact of_decide_eq_true zas | (have e_ := (Kd.S_reads' HO1_1.out).1; omega))
  obtain ⟨ve593_1, ve593_2, rfl, ge593_1, ge593_2⟩ := k66_openM hMe593
  have hv593_1 := hcc593 1 _ rfl
  rw [add_field _ _ 1 (by omega)] at hv593_1
  replace hv593_1 := Option.some.inj (hv593_1.symm.trans hx593_1)
  rw [hv593_1] at ge593_1
  have HL593_1 := zm (show Kd.R Kd.string 9 _ _ _ _ ((rd_T66 l1_1 t568).f1) from ge593_1)
  clear hv593_1 ge593_1
  have HX593_1 := zm hx593_1
  have hv593_2 := hcc593 2 _ rfl
  rw [add_field _ _ 2 (by omega)] at hv593_2
  replace hv593_2 := Option.some.inj (hv593_2.symm.trans hx593_2)
  rw [hv593_2] at ge593_2
  have HL593_2 := zm (show Kd.R (Kd.int .i64) 3 _ _ _ _ ((rd_T66 l1_1 t568).f2) from ge593_2)
  clear hv593_2 ge593_2
  have HX593_2 := zm hx593_2
  clear hcc593 hce593
  have HR593_1 := zm hi593_1
  have HC593_1 := zm hl593_1
  clear hi593_1 hl593_1
  have HR593_2 := zm hi593_2
  have HC593_2 := zm hl593_2
  clear hi593_2 hl593_2
  replace p593 := eq_true p593
  replace q593 := eq_true q593
  refine start_ (n := 28) (S := fun w' => w'.cell? ⟨gb566, 0, none⟩ = some (.string a1_0) ∧ w'.cell? ⟨gb566, 1, none⟩ = some (.slice (some ad593) l1_1.length co24) ∧ w'.cell? (ad593.add ((t568).toNat * 3)) = some (.string ((rd_T66 l1_1 t568).f0)) ∧ w'.cell? ⟨(ad593.add ((t568).toNat * 3)).block, (ad593.add ((t568).toNat * 3)).off + 1, none⟩ = some (.slice A593_1 ((rd_T66 l1_1 t568).f1).length c593_1) ∧ w'.cell? ⟨(ad593.add ((t568).toNat * 3)).block, (ad593.add ((t568).toNat * 3)).off + 2, none⟩ = some (.slice A593_2 ((rd_T66 l1_1 t568).f2).length c593_2)) (ds := [27]) (fl13_ 28 0) (by kernel_rfl) rfl rfl ⟨zd BK566 0, zd BK566 1, hx593_0, hx593_1, hx593_2⟩ (fun hHeld => ?_); refine with_tabW F6.tab10 F6.bits10 (fun HT_ HW_ => ?_)
  generalize w33.drew = w99 at HO1_1 BK990 BK991 BK566 BK567 HI0 HK HB HL593_1 HL593_2 HR593_1 HR593_2 HX593_1 HX593_2 hx593_0 hx593_1 hx593_2 hHeld ⊢
  refine zpu HT_ 0 45 (fl13_ 28 1) ?_
  refine zpu HT_ 2 47 (fl13_ 28 5) ?_
  refine zpu HT_ 3 48 (fl13_ 28 13) ?_
  refine zpu HT_ 5 50 (fl13_ 28 45) ?_
  refine zpu HT_ 9 54 (fl13_ 28 557) ?_
  refine zpu HT_ 13 58 (fl13_ 28 8749) ?_
  refine zpu HT_ 19 64 (fl13_ 28 533037) ?_
  refine ztk HT_ HW_ 1 46 (fl13_ 28 533039) hHeld ?_
  refine ztk HT_ HW_ 4 49 (fl13_ 28 533055) hHeld ?_
  refine zpu HT_ 6 51 (fl13_ 28 533119) ?_
  refine zpu HT_ 7 52 (fl13_ 28 533247) ?_
  refine ztk HT_ HW_ 8 53 (fl13_ 28 533503) hHeld ?_
  refine zon HT_ 10 55 (fl13_ 28 534527) (fun K hK => ?_)
  refine goes_ Try.func55 (by kernel_rfl) rfl #[.pointer (some ⟨g, 0, none⟩), .int .i64 2] (by rfl) rfl rfl zar ?_
  refine (F1.calls g s0_0 t572 t573 2 t594 t595 t596 w0 _ (zi106 HI0) (zj106 HB) A80.out).mono ?_
  rintro e w100 ⟨rfl, hi, hb, hk⟩
  have HS2_ := keep_cell hk (hHeld.2.2.1) (by first | (rw [add_block]; exact Kd.own_blk (IsS106.own_neS HI0.out HO1_1.out (by decide))) | (show (Addr.add _ _).block ≠ _; rw [add_block]; exact Kd.own_blk (IsS106.own_neS HI0.out HO1_1.out (by decide))) | exact Kd.own_blk (IsS106.own_neS HI0.out HO1_1.out (by decide)))
  have HS3_ := keep_cell hk (hHeld.2.2.2.1) (by first | (rw [add_block]; exact Kd.own_blk (IsS106.own_neS HI0.out HO1_1.out (by decide))) | (show (Addr.add _ _).block ≠ _; rw [add_block]; exact Kd.own_blk (IsS106.own_neS HI0.out HO1_1.out (by decide))) | exact Kd.own_blk (IsS106.own_neS HI0.out HO1_1.out (by decide)))
  have HS4_ := keep_cell hk (hHeld.2.2.2.2) (by first | (rw [add_block]; exact Kd.own_blk (IsS106.own_neS HI0.out HO1_1.out (by decide))) | (show (Addr.add _ _).block ≠ _; rw [add_block]; exact Kd.own_blk (IsS106.own_neS HI0.out HO1_1.out (by decide))) | exact Kd.own_blk (IsS106.own_neS HI0.out HO1_1.out (by decide)))
  refine ⟨_, rfl, ?_⟩
  replace BK990 := zkb BK990 NB990_0 hk
  replace BK991 := zkb BK991 NB991_0 hk
  replace BK566 := zkb BK566 NB566_0 hk
  replace BK567 := zkb BK567 NB567_0 hk
  replace HL593_1 := zKR106 HI0 HL593_1 hk
  replace HX593_1 := zm (keep_cell hk HX593_1.out (by first | (rw [add_block]; exact Kd.own_blk (IsS106.own_neS HI0.out HO1_1.out (by decide))) | (show (Addr.add _ _).block ≠ _; rw [add_block]; exact Kd.own_blk (IsS106.own_neS HI0.out HO1_1.out (by decide))) | exact Kd.own_blk (IsS106.own_neS HI0.out HO1_1.out (by decide)) | (dsimp only; exact Kd.own_blk (IsS106.own_neS HI0.out HO1_1.out (by decide)))))
  replace HL593_2 := zKR106 HI0 HL593_2 hk
  replace HX593_2 := zm (keep_cell hk HX593_2.out (by first | (rw [add_block]; exact Kd.own_blk (IsS106.own_neS HI0.out HO1_1.out (by decide))) | (show (Addr.add _ _).block ≠ _; rw [add_block]; exact Kd.own_blk (IsS106.own_neS HI0.out HO1_1.out (by decide))) | exact Kd.own_blk (IsS106.own_neS HI0.out HO1_1.out (by decide)) | (dsimp only; exact Kd.own_blk (IsS106.own_neS HI0.out HO1_1.out (by decide)))))
  replace HO1_1 := zKS106 HI0 HO1_1 hk
  replace HK := zkt HK hk
  replace HB := zm (hb)
  replace HI0 := zm (hi)
  (try clear hb hk hi)
  refine hK.out _ _ ⟨zd BK566 0, zd BK566 1, HS2_, HS3_, HS4_⟩ (fun hHeld => ?_)
  clear hK K
  refine norm_ zac ?_
  refine zpu HT_ 11 56 (fl13_ 28 536575) ?_
  refine zon HT_ 12 57 (fl13_ 28 540671) (fun K hK => ?_)
  refine goes_ Try.func86 (by kernel_rfl) rfl #[.string (⟨#[116]⟩ : ByteArray), .int .i64 (wrap64 (64 + t594))] (by rfl) rfl rfl zar ?_
  with_reducible refine (F18.calls k (⟨#[116]⟩ : ByteArray) (wrap64 (64 + t594)) t597 _ A81.out).mono ?_
  rintro e w101 ⟨rfl, hb⟩
  have HS2_ := (hb.cell (World.block_lt_of_cell? _ _ (hHeld.2.2.1))).trans (hHeld.2.2.1)
  have HS3_ := (hb.cell (World.block_lt_of_cell? _ _ (hHeld.2.2.2.1))).trans (hHeld.2.2.2.1)
  have HS4_ := (hb.cell (World.block_lt_of_cell? _ _ (hHeld.2.2.2.2))).trans (hHeld.2.2.2.2)
  refine ⟨_, rfl, ?_⟩
  replace HO1_1 := zm (Kd.S_below (zs HO1_1) hb)
  replace HL593_1 := zm (Kd.R_below (zr HL593_1) hb)
  replace HL593_2 := zm (Kd.R_below (zr HL593_2) hb)
  replace HI0 := zm (IsS106.below (zi106 HI0) hb)
  replace BK990 := zbb BK990 hb
  replace BK991 := zbb BK991 hb
  replace BK566 := zbb BK566 hb
  replace BK567 := zbb BK567 hb
  replace HX593_1 := zm (pw_cell_below hb HX593_1.out)
  replace HX593_2 := zm (pw_cell_below hb HX593_2.out)
  replace HK := zkB HK hb
  replace HB := zm (below_step (zj106 HB) hb)
  (try clear hb)
  refine hK.out _ _ ⟨zd BK566 0, zd BK566 1, HS2_, HS3_, HS4_⟩ (fun hHeld => ?_)
  clear hK K
  refine norm_ zac ?_
  refine zon HT_ 14 59 (fl13_ 28 557055) (fun K hK => ?_)
  refine goes_ Try.func55 (by kernel_rfl) rfl #[.pointer (some ⟨g, 0, none⟩), .int .i64 2] (by rfl) rfl rfl zar ?_
  refine (F1.calls g s0_0 t595 t596 2 t598 t599 t600 w0 _ (zi106 HI0) (zj106 HB) A82.out).mono ?_
  rintro e w103 ⟨rfl, hi, hb, hk⟩
  have HS2_ := keep_cell hk (hHeld.2.2.1) (by first | (rw [add_block]; exact Kd.own_blk (IsS106.own_neS HI0.out HO1_1.out (by decide))) | (show (Addr.add _ _).block ≠ _; rw [add_block]; exact Kd.own_blk (IsS106.own_neS HI0.out HO1_1.out (by decide))) | exact Kd.own_blk (IsS106.own_neS HI0.out HO1_1.out (by decide)))
  have HS3_ := keep_cell hk (hHeld.2.2.2.1) (by first | (rw [add_block]; exact Kd.own_blk (IsS106.own_neS HI0.out HO1_1.out (by decide))) | (show (Addr.add _ _).block ≠ _; rw [add_block]; exact Kd.own_blk (IsS106.own_neS HI0.out HO1_1.out (by decide))) | exact Kd.own_blk (IsS106.own_neS HI0.out HO1_1.out (by decide)))
  have HS4_ := keep_cell hk (hHeld.2.2.2.2) (by first | (rw [add_block]; exact Kd.own_blk (IsS106.own_neS HI0.out HO1_1.out (by decide))) | (show (Addr.add _ _).block ≠ _; rw [add_block]; exact Kd.own_blk (IsS106.own_neS HI0.out HO1_1.out (by decide))) | exact Kd.own_blk (IsS106.own_neS HI0.out HO1_1.out (by decide)))
  refine ⟨_, rfl, ?_⟩
  replace BK990 := zkb BK990 NB990_0 hk
  replace BK991 := zkb BK991 NB991_0 hk
  replace BK566 := zkb BK566 NB566_0 hk
  replace BK567 := zkb BK567 NB567_0 hk
  replace HL593_1 := zKR106 HI0 HL593_1 hk
  replace HX593_1 := zm (keep_cell hk HX593_1.out (by first | (rw [add_block]; exact Kd.own_blk (IsS106.own_neS HI0.out HO1_1.out (by decide))) | (show (Addr.add _ _).block ≠ _; rw [add_block]; exact Kd.own_blk (IsS106.own_neS HI0.out HO1_1.out (by decide))) | exact Kd.own_blk (IsS106.own_neS HI0.out HO1_1.out (by decide)) | (dsimp only; exact Kd.own_blk (IsS106.own_neS HI0.out HO1_1.out (by decide)))))
  replace HL593_2 := zKR106 HI0 HL593_2 hk
  replace HX593_2 := zm (keep_cell hk HX593_2.out (by first | (rw [add_block]; exact Kd.own_blk (IsS106.own_neS HI0.out HO1_1.out (by decide))) | (show (Addr.add _ _).block ≠ _; rw [add_block]; exact Kd.own_blk (IsS106.own_neS HI0.out HO1_1.out (by decide))) | exact Kd.own_blk (IsS106.own_neS HI0.out HO1_1.out (by decide)) | (dsimp only; exact Kd.own_blk (IsS106.own_neS HI0.out HO1_1.out (by decide)))))
  replace HO1_1 := zKS106 HI0 HO1_1 hk
  replace HK := zkt HK hk
  replace HB := zm (hb)
  replace HI0 := zm (hi)
  (try clear hb hk hi)
  refine hK.out _ _ ⟨zd BK566 0, zd BK566 1, HS2_, HS3_, HS4_⟩ (fun hHeld => ?_)
  clear hK K
  refine norm_ zac ?_
  refine zpu HT_ 15 60 (fl13_ 28 589823) ?_
  refine zpu HT_ 16 61 (fl13_ 28 655359) ?_
  refine zon HT_ 17 62 (fl13_ 28 786431) (fun K hK => ?_)
  refine goes_ Try.func86 (by kernel_rfl) rfl #[.string (⟨#[117]⟩ : ByteArray), .int .i64 (wrap64 ((wrap64 (4000 + t598)) - 20))] (by rfl) rfl rfl zar ?_
  with_reducible refine (F18.calls k (⟨#[117]⟩ : ByteArray) (wrap64 ((wrap64 (4000 + t598)) - 20)) t601 _ A83.out).mono ?_
  rintro e w104 ⟨rfl, hb⟩
  have HS2_ := (hb.cell (World.block_lt_of_cell? _ _ (hHeld.2.2.1))).trans (hHeld.2.2.1)
  have HS3_ := (hb.cell (World.block_lt_of_cell? _ _ (hHeld.2.2.2.1))).trans (hHeld.2.2.2.1)
  have HS4_ := (hb.cell (World.block_lt_of_cell? _ _ (hHeld.2.2.2.2))).trans (hHeld.2.2.2.2)
  refine ⟨_, rfl, ?_⟩
  replace HO1_1 := zm (Kd.S_below (zs HO1_1) hb)
  replace HL593_1 := zm (Kd.R_below (zr HL593_1) hb)
  replace HL593_2 := zm (Kd.R_below (zr HL593_2) hb)
  replace HI0 := zm (IsS106.below (zi106 HI0) hb)
  replace BK990 := zbb BK990 hb
  replace BK991 := zbb BK991 hb
  replace BK566 := zbb BK566 hb
  replace BK567 := zbb BK567 hb
  replace HX593_1 := zm (pw_cell_below hb HX593_1.out)
  replace HX593_2 := zm (pw_cell_below hb HX593_2.out)
  replace HK := zkB HK hb
  replace HB := zm (below_step (zj106 HB) hb)
  (try clear hb)
  refine hK.out _ _ ⟨zd BK566 0, zd BK566 1, HS2_, HS3_, HS4_⟩ (fun hHeld => ?_)
  clear hK K
  refine norm_ zac ?_
  refine join_ (σ := Value × Addr) 7 (fl13_ 28 2097151) (fun s_ => [(63, s_.1), (65, .int .i64 t605)]) (fun s_ w' => (w'.cell? ⟨gb566, 0, none⟩ = some (.string a1_0) ∧ w'.cell? ⟨gb566, 1, none⟩ = some (.slice (some ad593) l1_1.length co24) ∧ w'.cell? (ad593.add ((t568).toNat * 3)) = some (.string ((rd_T66 l1_1 t568).f0)) ∧ w'.cell? ⟨(ad593.add ((t568).toNat * 3)).block, (ad593.add ((t568).toNat * 3)).off + 1, none⟩ = some (.slice A593_1 ((rd_T66 l1_1 t568).f1).length c593_1) ∧ w'.cell? ⟨(ad593.add ((t568).toNat * 3)).block, (ad593.add ((t568).toNat * 3)).off + 2, none⟩ = some (.slice A593_2 ((rd_T66 l1_1 t568).f2).length c593_2)) ∧ (Kd.R Kd.string 9 w' wb.heap.size (fun k_ => some k_ ≠ (.slice (some ad593) l1_1.length co24 : Value).ownBlock ∧ some k_ ≠ (s_.1 : Value).ownBlock ∧ k_ ≠ gx ∧ k_ ≠ gy) (.slice A593_1 ((rd_T66 l1_1 t568).f1).length c593_1) ((rd_T66 l1_1 t568).f1)) ∧ (Kd.R (Kd.int .i64) 3 w' wb.heap.size (fun k_ => some k_ ≠ (.slice (some ad593) l1_1.length co24 : Value).ownBlock ∧ k_ ≠ gx ∧ k_ ≠ gy) (.slice A593_2 ((rd_T66 l1_1 t568).f2).length c593_2) ((rd_T66 l1_1 t568).f2)) ∧ (Kd.S k66 66 w' wb.heap.size (fun k_ => some k_ ≠ (s_.1 : Value).ownBlock ∧ k_ ≠ gx ∧ k_ ≠ gy) (.slice (some ad593) l1_1.length co24) l1_1) ∧ (Kd.R Kd.string 9 w' wb.heap.size (fun k_ => some k_ ≠ (.slice A593_1 ((rd_T66 l1_1 t568).f1).length c593_1 : Value).ownBlock) s_.1 y602) ∧ (∃ c_, (s_.1 : Value) = .slice (some s_.2) y602.length c_) ∧ (w'.cell? ⟨(ad593.add ((t568).toNat * 3)).block, (ad593.add ((t568).toNat * 3)).off + 1, none⟩ = some (.slice A593_1 ((rd_T66 l1_1 t568).f1).length c593_1)) ∧ (w'.cell? ⟨(ad593.add ((t568).toNat * 3)).block, (ad593.add ((t568).toNat * 3)).off + 2, none⟩ = some (.slice A593_2 ((rd_T66 l1_1 t568).f2).length c593_2)) ∧ (w'.heap[gb566]? = some (.cells #[.string a1_0, .slice (some ad593) l1_1.length co24] 31 (0, 0))) ∧ (w'.heap[gb567]? = some (.cells #[.string (⟨#[]⟩ : ByteArray), .slice none 0 0] 31 (0, 0))) ∧ (w'.heap[gx]? = some (.cells csx 47 (0, 0))) ∧ (w'.heap[gy]? = some (.cells csy 47 (0, 0))) ∧ (IsS106 w0 w' g s0_0 t606 t607) ∧ (KeepBut wb w' g none) ∧ (Below w0.heap.size w0 w')) ?_ ?_
  rotate_left
  ·intro hCont
   refine two_ (i := 18) (j := 20) (Ni := some 63) (Nj := some 65) (fl13_ 28 1048575) (fl13_ 28 1835007) rfl rfl rfl rfl (two_of HT_.out (by kernel_rfl)) (by decide) (by decide) (fun K hK => ?_) (fun K hK => ?_)
   ·skip
    refine Kd.R_lit_step Kd.string _ 9 ?hg (N := 63) ?hd (xs := ([(⟨#[]⟩ : ByteArray), (⟨#[255]⟩ : ByteArray), t597, t601] : List ByteArray)) (inner := [.string (⟨#[]⟩ : ByteArray), .string (⟨#[255]⟩ : ByteArray), .string t597, .string t601]) (ok := fun _ => True) (okp := fun _ => True) ?hr ?hp (fun _ hk => hk) trivial (Below.refl _ _) (Nat.le_refl _) (by simp) ?_; (case hd => rfl); (case hg => rfl); (case hr => first | (go_simp; done) | (go_simp; rfl)); (case hp => exact (Reps.one (show Kd.M Kd.string _ _ _ (⟨#[]⟩ : ByteArray) [.string (⟨#[]⟩ : ByteArray)] from rfl) (Reps.one (show Kd.M Kd.string _ _ _ (⟨#[255]⟩ : ByteArray) [.string (⟨#[255]⟩ : ByteArray)] from rfl) (Reps.one (show Kd.M Kd.string _ _ _ t597 [.string t597] from rfl) (Reps.one (show Kd.M Kd.string _ _ _ t601 [.string t601] from rfl) (Reps.none _ _))))))
    intro v603 w106 ho107 hb hg_ hnew_
    have HS2_ := (hb.cell (World.block_lt_of_cell? _ _ (hHeld.2.2.1))).trans (hHeld.2.2.1)
    have HS3_ := (hb.cell (World.block_lt_of_cell? _ _ (hHeld.2.2.2.1))).trans (hHeld.2.2.2.1)
    have HS4_ := (hb.cell (World.block_lt_of_cell? _ _ (hHeld.2.2.2.2))).trans (hHeld.2.2.2.2)
    clear hg_ hnew_
    (first | rw [← Ny602.out] at ho107 | (simp only [Int.reduceToNat] at ho107; rw [← Ny602.out] at ho107))
    replace HO1_1 := zm (Kd.S_elder' (zs HO1_1) (Kd.R_base ho107) hb)
    replace HL593_2 := zm (Kd.R_below (zr HL593_2) hb)
    have HO604 := zm (Kd.R_lower (Kd.R_new' ho107 (Kd.R_lt (zr HL593_1))) (keep_size (w := wb) (g := g) (row := none) (zk HK)))
    replace HL593_1 := zm (Kd.R_elder' (zr HL593_1) (Kd.R_base ho107) hb)
    replace HI0 := zm (IsS106.below (zi106 HI0) hb)
    replace BK990 := zbb BK990 hb
    replace BK991 := zbb BK991 hb
    replace BK566 := zbb BK566 hb
    replace BK567 := zbb BK567 hb
    replace HX593_1 := zm (pw_cell_below hb HX593_1.out)
    replace HX593_2 := zm (pw_cell_below hb HX593_2.out)
    replace HK := zkB HK hb
    replace HB := zm (below_step (zj106 HB) hb)
    clear hb ho107
    obtain ⟨Ao108, co108, eo108⟩ := Kd.R_slice HO604.out
    subst eo108
    obtain ⟨ado108, fo108, _⟩ := Kd.at_string (Kd.R_reads' HO604.out).2.2 0 (by decide) (by rw [Ny602.out]; simp)
    cases fo108
    refine hK.out _ _ ⟨zd BK566 0, zd BK566 1, HS2_, HS3_, HS4_⟩ (fun hHeld => ?_)
    clear hK K
    refine norm_ zac ?_
    refine zon HT_ 20 65 (fl13_ 28 2097151) (fun K hK => ?_)
    refine goes_ Try.func55 (by kernel_rfl) rfl #[.pointer (some ⟨g, 0, none⟩), .int .i64 4] (by rfl) rfl rfl zar ?_
    refine (F1.calls g s0_0 t599 t600 4 t605 t606 t607 w0 _ (zi106 HI0) (zj106 HB) A84.out).mono ?_
    rintro e w109 ⟨rfl, hi, hb, hk⟩
    have HS2_ := keep_cell hk (hHeld.2.2.1) (by first | (rw [add_block]; exact Kd.own_blk (IsS106.own_neS HI0.out HO1_1.out (by decide))) | (show (Addr.add _ _).block ≠ _; rw [add_block]; exact Kd.own_blk (IsS106.own_neS HI0.out HO1_1.out (by decide))) | exact Kd.own_blk (IsS106.own_neS HI0.out HO1_1.out (by decide)))
    have HS3_ := keep_cell hk (hHeld.2.2.2.1) (by first | (rw [add_block]; exact Kd.own_blk (IsS106.own_neS HI0.out HO1_1.out (by decide))) | (show (Addr.add _ _).block ≠ _; rw [add_block]; exact Kd.own_blk (IsS106.own_neS HI0.out HO1_1.out (by decide))) | exact Kd.own_blk (IsS106.own_neS HI0.out HO1_1.out (by decide)))
    have HS4_ := keep_cell hk (hHeld.2.2.2.2) (by first | (rw [add_block]; exact Kd.own_blk (IsS106.own_neS HI0.out HO1_1.out (by decide))) | (show (Addr.add _ _).block ≠ _; rw [add_block]; exact Kd.own_blk (IsS106.own_neS HI0.out HO1_1.out (by decide))) | exact Kd.own_blk (IsS106.own_neS HI0.out HO1_1.out (by decide)))
    refine ⟨_, rfl, ?_⟩
    replace BK990 := zkb BK990 NB990_0 hk
    replace BK991 := zkb BK991 NB991_0 hk
    replace BK566 := zkb BK566 NB566_0 hk
    replace BK567 := zkb BK567 NB567_0 hk
    replace HL593_1 := zKR106 HI0 HL593_1 hk
    replace HX593_1 := zm (keep_cell hk HX593_1.out (by first | (rw [add_block]; exact Kd.own_blk (IsS106.own_neS HI0.out HO1_1.out (by decide))) | (show (Addr.add _ _).block ≠ _; rw [add_block]; exact Kd.own_blk (IsS106.own_neS HI0.out HO1_1.out (by decide))) | exact Kd.own_blk (IsS106.own_neS HI0.out HO1_1.out (by decide)) | (dsimp only; exact Kd.own_blk (IsS106.own_neS HI0.out HO1_1.out (by decide)))))
    replace HL593_2 := zKR106 HI0 HL593_2 hk
    replace HX593_2 := zm (keep_cell hk HX593_2.out (by first | (rw [add_block]; exact Kd.own_blk (IsS106.own_neS HI0.out HO1_1.out (by decide))) | (show (Addr.add _ _).block ≠ _; rw [add_block]; exact Kd.own_blk (IsS106.own_neS HI0.out HO1_1.out (by decide))) | exact Kd.own_blk (IsS106.own_neS HI0.out HO1_1.out (by decide)) | (dsimp only; exact Kd.own_blk (IsS106.own_neS HI0.out HO1_1.out (by decide)))))
    replace HO1_1 := zKS106 HI0 HO1_1 hk
    replace HO604 := zKR106 HI0 HO604 hk
    replace HK := zkt HK hk
    replace HB := zm (hb)
    replace HI0 := zm (hi)
    (try clear hb hk hi)
    refine hK.out _ _ ⟨zd BK566 0, zd BK566 1, HS2_, HS3_, HS4_⟩ (fun hHeld => ?_)
    clear hK K
    refine norm_ zac ?_
    exact norm_ zpa (hCont (.slice (some ado108) y602.length co108, ado108) _ ⟨hHeld, (Kd.R_mono (zr HL593_1) (fun _ hk => ⟨hk.1.2, ⟨hk.2, ⟨hk.1.1.1, hk.1.1.2⟩⟩⟩)), (Kd.R_mono (zr HL593_2) (fun _ hk => ⟨hk.2, ⟨hk.1.1, hk.1.2⟩⟩)), (Kd.S_mono (zs HO1_1) (fun _ hk => ⟨hk.2, ⟨hk.1.1, hk.1.2⟩⟩)), (Kd.R_mono (zr HO604) (fun _ hk => hk.2)), ⟨_, rfl⟩, HX593_1.out, HX593_2.out, (zb BK566), (zb BK567), (zb BK990), (zb BK991), (zi106 HI0), (zk HK), (zj106 HB)⟩)
   ·skip
    refine goes_ Try.func55 (by kernel_rfl) rfl #[.pointer (some ⟨g, 0, none⟩), .int .i64 4] (by rfl) rfl rfl zar ?_
    refine (F1.calls g s0_0 t599 t600 4 t605 t606 t607 w0 _ (zi106 HI0) (zj106 HB) A84.out).mono ?_
    rintro e w106 ⟨rfl, hi, hb, hk⟩
    have HS2_ := keep_cell hk (hHeld.2.2.1) (by first | (rw [add_block]; exact Kd.own_blk (IsS106.own_neS HI0.out HO1_1.out (by decide))) | (show (Addr.add _ _).block ≠ _; rw [add_block]; exact Kd.own_blk (IsS106.own_neS HI0.out HO1_1.out (by decide))) | exact Kd.own_blk (IsS106.own_neS HI0.out HO1_1.out (by decide)))
    have HS3_ := keep_cell hk (hHeld.2.2.2.1) (by first | (rw [add_block]; exact Kd.own_blk (IsS106.own_neS HI0.out HO1_1.out (by decide))) | (show (Addr.add _ _).block ≠ _; rw [add_block]; exact Kd.own_blk (IsS106.own_neS HI0.out HO1_1.out (by decide))) | exact Kd.own_blk (IsS106.own_neS HI0.out HO1_1.out (by decide)))
    have HS4_ := keep_cell hk (hHeld.2.2.2.2) (by first | (rw [add_block]; exact Kd.own_blk (IsS106.own_neS HI0.out HO1_1.out (by decide))) | (show (Addr.add _ _).block ≠ _; rw [add_block]; exact Kd.own_blk (IsS106.own_neS HI0.out HO1_1.out (by decide))) | exact Kd.own_blk (IsS106.own_neS HI0.out HO1_1.out (by decide)))
    refine ⟨_, rfl, ?_⟩
    replace BK990 := zkb BK990 NB990_0 hk
    replace BK991 := zkb BK991 NB991_0 hk
    replace BK566 := zkb BK566 NB566_0 hk
    replace BK567 := zkb BK567 NB567_0 hk
    replace HL593_1 := zKR106 HI0 HL593_1 hk
    replace HX593_1 := zm (keep_cell hk HX593_1.out (by first | (rw [add_block]; exact Kd.own_blk (IsS106.own_neS HI0.out HO1_1.out (by decide))) | (show (Addr.add _ _).block ≠ _; rw [add_block]; exact Kd.own_blk (IsS106.own_neS HI0.out HO1_1.out (by decide))) | exact Kd.own_blk (IsS106.own_neS HI0.out HO1_1.out (by decide)) | (dsimp only; exact Kd.own_blk (IsS106.own_neS HI0.out HO1_1.out (by decide)))))
    replace HL593_2 := zKR106 HI0 HL593_2 hk
    replace HX593_2 := zm (keep_cell hk HX593_2.out (by first | (rw [add_block]; exact Kd.own_blk (IsS106.own_neS HI0.out HO1_1.out (by decide))) | (show (Addr.add _ _).block ≠ _; rw [add_block]; exact Kd.own_blk (IsS106.own_neS HI0.out HO1_1.out (by decide))) | exact Kd.own_blk (IsS106.own_neS HI0.out HO1_1.out (by decide)) | (dsimp only; exact Kd.own_blk (IsS106.own_neS HI0.out HO1_1.out (by decide)))))
    replace HO1_1 := zKS106 HI0 HO1_1 hk
    replace HK := zkt HK hk
    replace HB := zm (hb)
    replace HI0 := zm (hi)
    (try clear hb hk hi)
    refine hK.out _ _ ⟨zd BK566 0, zd BK566 1, HS2_, HS3_, HS4_⟩ (fun hHeld => ?_)
    clear hK K
    refine norm_ zac ?_
    refine zon HT_ 18 63 (fl13_ 28 2097151) (fun K hK => ?_)
    refine Kd.R_lit_step Kd.string _ 9 ?hg (N := 63) ?hd (xs := ([(⟨#[]⟩ : ByteArray), (⟨#[255]⟩ : ByteArray), t597, t601] : List ByteArray)) (inner := [.string (⟨#[]⟩ : ByteArray), .string (⟨#[255]⟩ : ByteArray), .string t597, .string t601]) (ok := fun _ => True) (okp := fun _ => True) ?hr ?hp (fun _ hk => hk) trivial (Below.refl _ _) (Nat.le_refl _) (by simp) ?_; (case hd => rfl); (case hg => rfl); (case hr => first | (go_simp; done) | (go_simp; rfl)); (case hp => exact (Reps.one (show Kd.M Kd.string _ _ _ (⟨#[]⟩ : ByteArray) [.string (⟨#[]⟩ : ByteArray)] from rfl) (Reps.one (show Kd.M Kd.string _ _ _ (⟨#[255]⟩ : ByteArray) [.string (⟨#[255]⟩ : ByteArray)] from rfl) (Reps.one (show Kd.M Kd.string _ _ _ t597 [.string t597] from rfl) (Reps.one (show Kd.M Kd.string _ _ _ t601 [.string t601] from rfl) (Reps.none _ _))))))
    intro v603 w107 ho108 hb hg_ hnew_
    have HS2_ := (hb.cell (World.block_lt_of_cell? _ _ (hHeld.2.2.1))).trans (hHeld.2.2.1)
    have HS3_ := (hb.cell (World.block_lt_of_cell? _ _ (hHeld.2.2.2.1))).trans (hHeld.2.2.2.1)
    have HS4_ := (hb.cell (World.block_lt_of_cell? _ _ (hHeld.2.2.2.2))).trans (hHeld.2.2.2.2)
    clear hg_ hnew_
    (first | rw [← Ny602.out] at ho108 | (simp only [Int.reduceToNat] at ho108; rw [← Ny602.out] at ho108))
    replace HO1_1 := zm (Kd.S_elder' (zs HO1_1) (Kd.R_base ho108) hb)
    replace HL593_2 := zm (Kd.R_below (zr HL593_2) hb)
    have HO604 := zm (Kd.R_lower (Kd.R_new' ho108 (Kd.R_lt (zr HL593_1))) (keep_size (w := wb) (g := g) (row := none) (zk HK)))
    replace HL593_1 := zm (Kd.R_elder' (zr HL593_1) (Kd.R_base ho108) hb)
    replace HI0 := zm (IsS106.below (zi106 HI0) hb)
    replace BK990 := zbb BK990 hb
    replace BK991 := zbb BK991 hb
    replace BK566 := zbb BK566 hb
    replace BK567 := zbb BK567 hb
    replace HX593_1 := zm (pw_cell_below hb HX593_1.out)
    replace HX593_2 := zm (pw_cell_below hb HX593_2.out)
    replace HK := zkB HK hb
    replace HB := zm (below_step (zj106 HB) hb)
    clear hb ho108
    obtain ⟨Ao109, co109, eo109⟩ := Kd.R_slice HO604.out
    subst eo109
    obtain ⟨ado109, fo109, _⟩ := Kd.at_string (Kd.R_reads' HO604.out).2.2 0 (by decide) (by rw [Ny602.out]; simp)
    cases fo109
    refine hK.out _ _ ⟨zd BK566 0, zd BK566 1, HS2_, HS3_, HS4_⟩ (fun hHeld => ?_)
    clear hK K
    refine norm_ zac ?_
    exact norm_ zpa (hCont (.slice (some ado109) y602.length co109, ado109) _ ⟨hHeld, (Kd.R_mono (zr HL593_1) (fun _ hk => ⟨hk.1.2, ⟨hk.2, ⟨hk.1.1.1, hk.1.1.2⟩⟩⟩)), (Kd.R_mono (zr HL593_2) (fun _ hk => ⟨hk.2, ⟨hk.1.1, hk.1.2⟩⟩)), (Kd.S_mono (zs HO1_1) (fun _ hk => ⟨hk.2, ⟨hk.1.1, hk.1.2⟩⟩)), (Kd.R_mono (zr HO604) (fun _ hk => hk.2)), ⟨_, rfl⟩, HX593_1.out, HX593_2.out, (zb BK566), (zb BK567), (zb BK990), (zb BK991), (zi106 HI0), (zk HK), (zj106 HB)⟩)
  rintro ⟨v603, adz_v603⟩ w110 ⟨hS_, h0_, h1_, h2_, h3_, h4_, h5_, h6_, h7_, h8_, h9_, h10_, h11_, h12_, h13_⟩
  have n0_ : Aside0 (Kd.R Kd.string 9 w110 wb.heap.size (fun k_ => some k_ ≠ (.slice (some ad593) l1_1.length co24 : Value).ownBlock ∧ some k_ ≠ (v603 : Value).ownBlock ∧ k_ ≠ gx ∧ k_ ≠ gy) (.slice A593_1 ((rd_T66 l1_1 t568).f1).length c593_1) ((rd_T66 l1_1 t568).f1)) := ⟨h0_⟩
  have n1_ : Aside0 (Kd.R (Kd.int .i64) 3 w110 wb.heap.size (fun k_ => some k_ ≠ (.slice (some ad593) l1_1.length co24 : Value).ownBlock ∧ k_ ≠ gx ∧ k_ ≠ gy) (.slice A593_2 ((rd_T66 l1_1 t568).f2).length c593_2) ((rd_T66 l1_1 t568).f2)) := ⟨h1_⟩
  have n2_ : Aside0 (Kd.S k66 66 w110 wb.heap.size (fun k_ => some k_ ≠ (v603 : Value).ownBlock ∧ k_ ≠ gx ∧ k_ ≠ gy) (.slice (some ad593) l1_1.length co24) l1_1) := ⟨h2_⟩
  have n3_ : Aside0 (Kd.R Kd.string 9 w110 wb.heap.size (fun k_ => some k_ ≠ (.slice A593_1 ((rd_T66 l1_1 t568).f1).length c593_1 : Value).ownBlock) v603 y602) := ⟨h3_⟩
  have n4_ : Aside0 (∃ c_, (v603 : Value) = .slice (some adz_v603) y602.length c_) := ⟨h4_⟩
  have n5_ : Aside0 (w110.cell? ⟨(ad593.add ((t568).toNat * 3)).block, (ad593.add ((t568).toNat * 3)).off + 1, none⟩ = some (.slice A593_1 ((rd_T66 l1_1 t568).f1).length c593_1)) := ⟨h5_⟩
  have n6_ : Aside0 (w110.cell? ⟨(ad593.add ((t568).toNat * 3)).block, (ad593.add ((t568).toNat * 3)).off + 2, none⟩ = some (.slice A593_2 ((rd_T66 l1_1 t568).f2).length c593_2)) := ⟨h6_⟩
  have n7_ : Aside0 (w110.heap[gb566]? = some (.cells #[.string a1_0, .slice (some ad593) l1_1.length co24] 31 (0, 0))) := ⟨h7_⟩
  have n8_ : Aside0 (w110.heap[gb567]? = some (.cells #[.string (⟨#[]⟩ : ByteArray), .slice none 0 0] 31 (0, 0))) := ⟨h8_⟩
  have n9_ : Aside0 (w110.heap[gx]? = some (.cells csx 47 (0, 0))) := ⟨h9_⟩
  have n10_ : Aside0 (w110.heap[gy]? = some (.cells csy 47 (0, 0))) := ⟨h10_⟩
  have n11_ : Aside0 (IsS106 w0 w110 g s0_0 t606 t607) := ⟨h11_⟩
  have n12_ : Aside0 (KeepBut wb w110 g none) := ⟨h12_⟩
  have n13_ : Aside0 (Below w0.heap.size w0 w110) := ⟨h13_⟩
  clear HO1_1
  clear BK990
  clear BK991
  clear BK566
  clear BK567
  clear HI0
  clear HK
  clear HB
  clear h0_ h1_ h2_ h3_ h4_ h5_ h6_ h7_ h8_ h9_ h10_ h11_ h12_ h13_
  have HL593_1 := n0_
  have HL593_2 := n1_
  have HO1_1 := n2_
  have HO604 := n3_
  have HA_HO604 := n4_
  have HX593_1 := n5_
  have HX593_2 := n6_
  have BK566 := n7_
  have BK567 := n8_
  have BK990 := n9_
  have BK991 := n10_
  have HI0 := n11_
  have HK := n12_
  have HB := n13_
  clear n0_ n1_ n2_ n3_ n4_ n5_ n6_ n7_ n8_ n9_ n10_ n11_ n12_ n13_
  have hHeld : w110.cell? ⟨gb566, 0, none⟩ = some (.string a1_0) ∧ w110.cell? ⟨gb566, 1, none⟩ = some (.slice (some ad593) l1_1.length co24) ∧ w110.cell? (ad593.add ((t568).toNat * 3)) = some (.string ((rd_T66 l1_1 t568).f0)) ∧ w110.cell? ⟨(ad593.add ((t568).toNat * 3)).block, (ad593.add ((t568).toNat * 3)).off + 1, none⟩ = some (.slice A593_1 ((rd_T66 l1_1 t568).f1).length c593_1) ∧ w110.cell? ⟨(ad593.add ((t568).toNat * 3)).block, (ad593.add ((t568).toNat * 3)).off + 2, none⟩ = some (.slice A593_2 ((rd_T66 l1_1 t568).f2).length c593_2) := hS_
  obtain ⟨co111, eo111⟩ := HA_HO604.out
  clear HA_HO604
  subst eo111
  obtain ⟨go112, co112, eo112, gb112, gl112, cl112, HG112⟩ := Kd.S_form HO1_1.out (by have h_ : (t568 : Int) < ((l1_1.length : Int) : Int) := of_decide_eq_true zas; have h2_ : 0 ≤ (t568 : Int) := (of_decide_eq_true zas); omega)
  (first | cases eo112 | (injection eo112 with ea_ en_ ec_; (first | subst ea_ | (injection ea_ with ea_; subst ea_)); subst ec_; clear en_))
  have GB112 := zm gb112
  have GG112 := zm HG112
  clear gb112 gl112 HG112
  (first | simp only [add_plain] at hx593_0 | skip)
  (first | simp only [add_plain] at hx593_1 | skip)
  (first | simp only [add_plain] at hx593_2 | skip)
  obtain ⟨oki112, ce112, hcl112, hM112, hcc112, _, _, hH112⟩ := Kd.S_elem HO1_1.out z66 (t568 : Int) (of_decide_eq_true zas) (by have h_ : (t568 : Int) < ((l1_1.length : Int) : Int) := of_decide_eq_true zas; first | exact h_ | (have e_ := (Kd.S_reads' HO1_1.out).1; omega) | simpa using h_)
  obtain ⟨ve112_1, ve112_2, rfl, ge112_1, ge112_2⟩ := k66_openM hM112
  have hv112 := hcc112 1 _ rfl
  have hX112 := HX593_1.out
  (try simp only [add_plain] at hX112)
  (try simp only [Nat.add_zero] at hv112)
  replace hv112 := Option.some.inj (hv112.symm.trans hX112)
  subst hv112
  clear hX112 hcc112 hcl112
  have UU112 := zm (show Kd.R Kd.string 9 _ wb.heap.size oki112 (.slice A593_1 ((rd_T66 l1_1 t568).f1).length c593_1) ((rd_T66 l1_1 t568).f1) from ge112_1)
  have HH112 := zm hH112
  have HN112 := zm (Kd.S_reads' HO1_1.out).1
  have HE112_2 := zm ge112_2
  clear hH112 ge112_1 ge112_2
  refine norm_ (a' := ?_) ?_ ?_
  rotate_left
  ·simp only [putAll, Act.put, List.setIfInBounds_toArray, List.set_cons_zero, List.set_cons_succ]
   rfl
  refine zpu HT_ 21 66 (fl13_ 28 4194303) ?_
  refine zon HT_ 22 67 (fl13_ 28 8388607) (fun K hK => ?_)
  (have p608 : 0 ≤ (t605 : Int) := of_decide_eq_true zas; have q608 : t605 < (y602.length : Int) := of_decide_eq_true zas; obtain ⟨ad608, e608, hx608_0⟩ := Kd.at_string (Kd.R_reads' HO604.out).2.2 t605 p608 q608; obtain rfl : adz_v603 = ad608 := (by injection e608))
  refine value_ (w1 := ?_) (v := ?_) (by rfl) rfl ?_ ?_
  rotate_left 2
  ·go_simp
   constructor
   ·rfl
   ·rfl
  clear hx608_0
  refine hK.out _ _ ⟨zd BK566 0, zd BK566 1, hHeld.2.2.1, hHeld.2.2.2.1, hHeld.2.2.2.2⟩ (fun hHeld => ?_)
  clear hK K
  refine norm_ zac ?_
  refine zon HT_ 23 68 (fl13_ 28 16777215) (fun K hK => ?_)
  refine value_ (w1 := ?_) (v := ?_) (by rfl) rfl ?_ ?_
  rotate_left 2
  ·go_simp
   constructor
   ·rfl
   ·rfl
  refine hK.out _ _ ⟨(blk_cell (blk_alloc BK566.out _) 0).trans rfl, (blk_cell (blk_alloc BK566.out _) 1).trans rfl, (World.cell?_alloc_lt _ _ _ (World.block_lt_of_cell? _ _ (hHeld.2.2.1))).trans (hHeld.2.2.1), (World.cell?_alloc_lt _ _ _ (World.block_lt_of_cell? _ _ (hHeld.2.2.2.1))).trans (hHeld.2.2.2.1), (World.cell?_alloc_lt _ _ _ (World.block_lt_of_cell? _ _ (hHeld.2.2.2.2))).trans (hHeld.2.2.2.2)⟩ (fun hHeld => ?_)
  clear hK K
  refine norm_ zac ?_
  refine zon HT_ 24 69 (fl13_ 28 33554431) (fun K hK => ?_)
  refine Kd.R_append_step Kd.string wb.heap.size (by rfl) (.tmp 53) (.tmp 68) 64 9 (.string ⟨#[]⟩) 16 rfl Try.underlying64 info9 rfl (by decide) (by omega) (.slice A593_1 ((rd_T66 l1_1 t568).f1).length c593_1) ((rd_T66 l1_1 t568).f1) (rdOf ByteArray.empty y602 t605) [.string (rdOf ByteArray.empty y602 t605)] (fun k_ => oki112 k_ ∨ ((fun k_ => some k_ ≠ (.slice (some adz_v603) y602.length co111 : Value).ownBlock ∧ k_ ≠ gx ∧ k_ ≠ gy)) k_ ∧ w110.heap.size ≤ k_) (fun _ => False) rfl rfl ?aP (fun _ hk => hk.elim) ?aF ?aO (Below.refl _ _) ?aS ?aL ?_
  (case aP => exact rfl)
  (case aF => exact (fun k_ hk => .inr ⟨⟨Kd.fresh' (Kd.R_lt (zr HO604)) k_ hk, Kd.freshB (zb BK990) k_ hk, Kd.freshB (zb BK991) k_ hk⟩, hk⟩))
  (case aO => exact (Kd.R_mono (zr UU112) (fun _ hk => .inl hk)))
  (case aS => exact (keep_size (w := wb) (g := g) (row := none) (zk HK)))
  (case aL => have := LMc87.out; omega)
  intro v610 w113 ho hb hg hat
  (first | have HS2_ := cell_grown hg (hHeld.2.2.1) (by first | (rw [add_block]; exact (fun e_ => ((HL593_1.out.1 _ e_.symm).1) rfl)) | (show some (Addr.add _ _).block ≠ _; rw [add_block]; exact (fun e_ => ((HL593_1.out.1 _ e_.symm).1) rfl)) | exact (fun e_ => ((HL593_1.out.1 _ e_.symm).1) rfl)) | have HS2_ := cell_grown hg (cell_unalloc (hHeld.2.2.1) (by first | (rw [add_block]; exact Kd.S_lt HO1_1.out _ rfl) | (show (Addr.add _ _).block < _; rw [add_block]; exact Kd.S_lt HO1_1.out _ rfl) | exact Kd.S_lt HO1_1.out _ rfl)) (by first | (rw [add_block]; exact (fun e_ => ((HL593_1.out.1 _ e_.symm).1) rfl)) | (show some (Addr.add _ _).block ≠ _; rw [add_block]; exact (fun e_ => ((HL593_1.out.1 _ e_.symm).1) rfl)) | exact (fun e_ => ((HL593_1.out.1 _ e_.symm).1) rfl)))
  (first | have HS3_ := cell_grown hg (hHeld.2.2.2.1) (by first | (rw [add_block]; exact (fun e_ => ((HL593_1.out.1 _ e_.symm).1) rfl)) | (show some (Addr.add _ _).block ≠ _; rw [add_block]; exact (fun e_ => ((HL593_1.out.1 _ e_.symm).1) rfl)) | exact (fun e_ => ((HL593_1.out.1 _ e_.symm).1) rfl)) | have HS3_ := cell_grown hg (cell_unalloc (hHeld.2.2.2.1) (by first | (rw [add_block]; exact Kd.S_lt HO1_1.out _ rfl) | (show (Addr.add _ _).block < _; rw [add_block]; exact Kd.S_lt HO1_1.out _ rfl) | exact Kd.S_lt HO1_1.out _ rfl)) (by first | (rw [add_block]; exact (fun e_ => ((HL593_1.out.1 _ e_.symm).1) rfl)) | (show some (Addr.add _ _).block ≠ _; rw [add_block]; exact (fun e_ => ((HL593_1.out.1 _ e_.symm).1) rfl)) | exact (fun e_ => ((HL593_1.out.1 _ e_.symm).1) rfl)))
  (first | have HS4_ := cell_grown hg (hHeld.2.2.2.2) (by first | (rw [add_block]; exact (fun e_ => ((HL593_1.out.1 _ e_.symm).1) rfl)) | (show some (Addr.add _ _).block ≠ _; rw [add_block]; exact (fun e_ => ((HL593_1.out.1 _ e_.symm).1) rfl)) | exact (fun e_ => ((HL593_1.out.1 _ e_.symm).1) rfl)) | have HS4_ := cell_grown hg (cell_unalloc (hHeld.2.2.2.2) (by first | (rw [add_block]; exact Kd.S_lt HO1_1.out _ rfl) | (show (Addr.add _ _).block < _; rw [add_block]; exact Kd.S_lt HO1_1.out _ rfl) | exact Kd.S_lt HO1_1.out _ rfl)) (by first | (rw [add_block]; exact (fun e_ => ((HL593_1.out.1 _ e_.symm).1) rfl)) | (show some (Addr.add _ _).block ≠ _; rw [add_block]; exact (fun e_ => ((HL593_1.out.1 _ e_.symm).1) rfl)) | exact (fun e_ => ((HL593_1.out.1 _ e_.symm).1) rfl)))
  rw [← Ny609.out] at ho
  replace HI0 := zm (IsS106.grown (zi106 HI0) hg (IsS106.own_ne HI0.out HL593_1.out (by decide)))
  replace BK990 := zm (blk_grown (zb BK990) hg (Kd.R_ne HL593_1.out BK990.out (by decide)))
  replace BK991 := zm (blk_grown (zb BK991) hg (Kd.R_ne HL593_1.out BK991.out (by decide)))
  replace BK566 := zm (blk_grown (zb BK566) hg (Kd.R_ne HL593_1.out BK566.out (by decide)))
  replace BK567 := zm (blk_grown (zb BK567) hg (Kd.R_ne HL593_1.out BK567.out (by decide)))
  replace HO604 := zm (Kd.R_grown2 (zr HO604) rfl hg (fun k_ e_ => (HL593_1.out.1 k_ e_).2.1))
  replace HB := zm (below_weaken (zj106 HB) HL.out hb)
  replace HK := zm (KeepBut.trans (zk HK) (KeepBut.of_grown hg g) (Kd.R_base2 HL593_1.out))
  replace HH112 := zm (Kd.H_grown (Kd.H_widen (by repeat (first | exact HH112.out | refine Kd.H_alloc ?_ _ | refine Kd.H_drewN ?_ _ | refine Kd.H_drew ?_))) hg (fun k_ e_ => .inl (UU112.out.1 k_ e_)))
  replace HE112_2 := zm (Kd.R_over' (v := (.slice A593_1 ((rd_T66 l1_1 t568).f1).length c593_1)) (zr HE112_2) (Kd.R_typed UU112.out) (by decide) hg)
  have HO611 := zm (ho)
  clear HO1_1 UU112 HL593_1 HL593_2
  clear ho hb hg hat
  have p88 : 0 ≤ (t568 : Int) := of_decide_eq_true zas
  have q88 : (t568 : Int) < ((l1_1.length : Int) : Int) := of_decide_eq_true zas
  replace p88 := eq_true p88
  replace q88 := eq_true q88
  obtain ⟨Ao116, co116, eo116⟩ := Kd.R_slice HO611.out
  (first | subst eo116 | (injection eo116 with f1_ f2_ f3_; have f4_ := f1_.symm; have f5_ := f3_.symm; clear f1_ f2_ f3_; subst f4_; subst f5_))
  obtain ⟨_, _, hraw114, _, _, hcc114, _⟩ := Kd.H_raw HH112.out (of_decide_eq_true zas) (by have h_ : (t568 : Int) < ((l1_1.length : Int) : Int) := of_decide_eq_true zas; first | exact h_ | (have e_ := (HN112.out); omega) | simpa using h_)
  obtain ⟨_, hfr114⟩ := Kd.H_at HH112.out (of_decide_eq_true zas) (by have h_ : (t568 : Int) < ((l1_1.length : Int) : Int) := of_decide_eq_true zas; first | exact h_ | (have e_ := (HN112.out); omega) | simpa using h_)
  have hx114_0 := hcc114 1 _ rfl
  have hf114_0 := hfr114 1
  (try rw [show (k66).sz = 3 from rfl] at hx114_0)
  (try rw [show (k66).sz = 3 from rfl] at hf114_0)
  have HP114 := Kd.S_seg0 HH112.out (of_decide_eq_true zas) (by have h_ : (t568 : Int) < ((l1_1.length : Int) : Int) := of_decide_eq_true zas; first | exact h_ | (have e_ := (HN112.out); omega) | simpa using h_) (seg := [.slice Ao116 y609.length co116]) (j := 1) (show 2 ≤ 3 from by decide) (x' := (⟨(rd_T66 l1_1 t568).f0, y609, (rd_T66 l1_1 t568).f2⟩ : S66)) (k66_mkM _ _ _ (⟨(rd_T66 l1_1 t568).f0, y609, (rd_T66 l1_1 t568).f2⟩ : S66) HO611.out (Kd.R_mono HE112_2.out (fun _ h_ => .inl h_))) (fun _ hk => hk)
  clear hcc114 hfr114
  have HN0_go112 := zm (show g ≠ go112 from by have h_ := IsS106.own_ne HI0.out hraw114 (by decide); intro e_; exact h_ (by rw [e_]; rfl))
  have HNB990_go112 := zm (show gx ≠ go112 from by have h_ := Kd.R_ne hraw114 BK990.out (by decide); intro e_; exact h_ (by rw [e_]; rfl))
  have HNB991_go112 := zm (show gy ≠ go112 from by have h_ := Kd.R_ne hraw114 BK991.out (by decide); intro e_; exact h_ (by rw [e_]; rfl))
  have HNB566_go112 := zm (show gb566 ≠ go112 from by have h_ := Kd.R_ne hraw114 BK566.out (by decide); intro e_; exact h_ (by rw [e_]; rfl))
  have HNB567_go112 := zm (show gb567 ≠ go112 from by have h_ := Kd.R_ne hraw114 BK567.out (by decide); intro e_; exact h_ (by rw [e_]; rfl))
  have HS114 := HP114.1
  rw [← Ny612.out] at HS114
  have HQ114 := zm HS114
  obtain ⟨_, hgg114⟩ := Kd.R_typed hraw114 go112 rfl
  have GG114_ := zm hgg114
  clear HP114 HS114 hgg114
  refine hK.out _ _ ⟨zd BK566 0, zd BK566 1, HS2_, HS3_, HS4_⟩ (fun hHeld => ?_)
  clear hK K
  refine norm_ zac ?_
  refine zpu HT_ 25 70 (fl13_ 28 67108863) ?_
  refine zpu HT_ 26 71 (fl13_ 28 134217727) ?_
  refine last_ (i := 27) (N := none) (fl13_ 28 268435455) rfl rfl (one_of HT_.out (by kernel_rfl)) (by decide) (fun K hK => ?_)
  refine skip_ (w1 := ?_) (by rfl) rfl ?_ ?_
  rotate_left
  ·go_simp
   rfl
  refine hK.out _ _ ?_
  clear hK K
  refine done_ (done_of HT_.out (by kernel_rfl)) ?_
  have n0_ : Aside0 (Kd.R Kd.string 9 (w113.setCell ⟨go112, (t568 : Int).toNat * 3 + 1, none⟩ (.slice Ao116 y609.length co116)) wb.heap.size (fun _ => True) (.slice (some adz_v603) y602.length co111) y602) := ⟨by (with_reducible repeat (first | apply Kd.R_alloc | apply Kd.R_drewN | apply Kd.R_drew)); exact Kd.R_mono (Kd.R_far (p := ⟨go112, (t568 : Int).toNat * 3 + 1, none⟩) (Kd.R_types HO604.out GG114_.out (by decide)) (fun _ hk => hk.2) (.slice Ao116 y609.length co116)) (fun _ hk => trivial)⟩
  have n1_ : Aside0 (Kd.S k66 66 (w113.setCell ⟨go112, (t568 : Int).toNat * 3 + 1, none⟩ (.slice Ao116 y609.length co116)) wb.heap.size (fun k_ => some k_ ≠ (.slice (some adz_v603) y602.length co111 : Value).ownBlock ∧ k_ ≠ gx ∧ k_ ≠ gy) (.slice (some ⟨go112, 0, none⟩) l1_1.length co24) y612) := ⟨zs HQ114⟩
  have n2_ : Aside0 ((w113.setCell ⟨go112, (t568 : Int).toNat * 3 + 1, none⟩ (.slice Ao116 y609.length co116)).heap[gx]? = some (.cells csx 47 (0, 0))) := ⟨zp BK990⟩
  have n3_ : Aside0 ((w113.setCell ⟨go112, (t568 : Int).toNat * 3 + 1, none⟩ (.slice Ao116 y609.length co116)).heap[gy]? = some (.cells csy 47 (0, 0))) := ⟨zp BK991⟩
  have n4_ : Aside0 ((w113.setCell ⟨go112, (t568 : Int).toNat * 3 + 1, none⟩ (.slice Ao116 y609.length co116)).heap[gb566]? = some (.cells #[.string a1_0, .slice (some ⟨go112, 0, none⟩) l1_1.length co24] 31 (0, 0))) := ⟨zp BK566⟩
  have n5_ : Aside0 ((w113.setCell ⟨go112, (t568 : Int).toNat * 3 + 1, none⟩ (.slice Ao116 y609.length co116)).heap[gb567]? = some (.cells #[.string (⟨#[]⟩ : ByteArray), .slice none 0 0] 31 (0, 0))) := ⟨zp BK567⟩
  have n6_ : Aside0 (IsS106 w0 (w113.setCell ⟨go112, (t568 : Int).toNat * 3 + 1, none⟩ (.slice Ao116 y609.length co116)) g s0_0 t606 t607) := ⟨zi106 HI0⟩
  have n7_ : Aside0 (KeepBut wb (w113.setCell ⟨go112, (t568 : Int).toNat * 3 + 1, none⟩ (.slice Ao116 y609.length co116)) g none) := ⟨zk HK⟩
  have n8_ : Aside0 (Below w0.heap.size w0 (w113.setCell ⟨go112, (t568 : Int).toNat * 3 + 1, none⟩ (.slice Ao116 y609.length co116))) := ⟨by repeat (first | (with_reducible first | exact HB.out | apply below_alloc | apply pw_below_drewN | apply below_drew1 | refine below_set ?_ (Nat.le_trans HL.out GB112.out) | refine below_set ?_ (IsS106.ge HI0.out) | refine below_set ?_ GE990.out | refine below_set ?_ GE991.out | refine below_set ?_ GE566.out | refine below_set ?_ GE567.out) | exact HB.out)⟩
  (try clear HO604)
  (try clear HO1_1)
  (try clear BK990)
  (try clear BK991)
  (try clear BK566)
  (try clear BK567)
  (try clear HI0)
  (try clear HK)
  (try clear HB)
  generalize (w113.setCell ⟨go112, (t568 : Int).toNat * 3 + 1, none⟩ (.slice Ao116 y609.length co116)) = w117 at n0_ n1_ n2_ n3_ n4_ n5_ n6_ n7_ n8_ ⊢
  have HO604 := n0_
  have HO1_1 := n1_
  have BK990 := n2_
  have BK991 := n3_
  have BK566 := n4_
  have BK567 := n5_
  have HI0 := n6_
  have HK := n7_
  have HB := n8_
  clear n0_ n1_ n2_ n3_ n4_ n5_ n6_ n7_ n8_
  obtain ⟨⟨_, _⟩, _, _⟩ := zc2 BK566
  obtain ⟨_, _⟩ := zne NB567_990
  obtain ⟨_, _⟩ := zne NB567_991
  obtain ⟨_, _⟩ := zne NB567_0
  obtain ⟨⟨_, _⟩, _, _⟩ := zc2 BK567
  try go_wp2
  refine bodyPost_ret (results_cell_row rfl _ _ gb567 31 #[.string a1_0, .slice (some ⟨go112, 0, none⟩) l1_1.length co24] (0, 0) _ rfl (zp BK567) Try.underlying31 rfl (by kernel_rfl)) rfl ?_
  exact ⟨_, zre, zxS (Kd.S_mono (zfS gb567 1 (zfS gb567 0 (Kd.S_types HO1_1.out BK567.out (by decide)) (.string a1_0)) (.slice (some ⟨go112, 0, none⟩) l1_1.length co24)) (fun _ hk => ⟨hk.1.2.1, hk.1.2.2⟩)), zi106 HI0, zj106 HB, zk HK, zp BK990, zp BK991⟩
 rw [if_neg c77] at H
 have c77b0 := z2 c77
 have c77b1 := z4 c77
 by_cases c123 : t571 = 3
 ·rw [if_pos c123] at H
  have c123b0 := z1 c123
  have c123b1 := z3 c123
  clear c123
  replace H := zif H
  obtain ⟨c124, H⟩ := H
  have c124b0 := decide_eq_true c124
  clear c124
  replace H := zif H
  obtain ⟨c125, H⟩ := H
  have c125b0 := decide_eq_true c125
  clear c125
  obtain ⟨y614, hy614⟩ : ∃ y_ : List Int, y_ = (([0, 1000000000000, 1000000000001, (-1000000000000), (-1000000000001)] : List Int)) := ⟨_, rfl⟩
  replace H : ((F1.f s0_0 t572 t573 5).bind fun bt617 => (if 0 ≤ bt617.1 then (if bt617.1 < (y614.length : Int) then (if ((rd_T66 l1_1 t568).f2).length < 17592186044416 then (some (a1_0, (l1_1.set (t568 : Int).toNat (⟨(rd_T66 l1_1 t568).f0, (rd_T66 l1_1 t568).f1, (((rd_T66 l1_1 t568).f2) ++ [rd y614 bt617.1])⟩ : S66)), bt617.2.1, bt617.2.2)) else (none)) else (none)) else (none))) = some (r1, r2, r3, r4) := zby hy614 H
  have Ny614 := zm hy614
  clear hy614
  replace H := zbi H
  obtain ⟨⟨t617, t618, t619⟩, A126, H⟩ := H
  try dsimp only at H
  replace H := zif H
  obtain ⟨c127, H⟩ := H
  have c127b0 := decide_eq_true c127
  clear c127
  replace H := zif H
  obtain ⟨c128, H⟩ := H
  have c128b0 := decide_eq_true c128
  clear c128
  replace H := zif H
  obtain ⟨c129, H⟩ := H
  have LMc129 := zm c129
  clear c129
  obtain ⟨y621, hy621⟩ : ∃ y_ : List Int, y_ = (((rd_T66 l1_1 t568).f2) ++ [rd y614 t617]) := ⟨_, rfl⟩
  replace H : (some (a1_0, (l1_1.set (t568 : Int).toNat (⟨(rd_T66 l1_1 t568).f0, (rd_T66 l1_1 t568).f1, y621⟩ : S66)), t618, t619)) = some (r1, r2, r3, r4) := zby hy621 H
  have Ny621 := zm hy621
  clear hy621
  obtain ⟨y624, hy624⟩ : ∃ y_ : List (S66), y_ = (l1_1.set (t568 : Int).toNat (⟨(rd_T66 l1_1 t568).f0, (rd_T66 l1_1 t568).f1, y621⟩ : S66)) := ⟨_, rfl⟩
  replace H : (some (a1_0, y624, t618, t619)) = some (r1, r2, r3, r4) := zby hy624 H
  have Ny624 := zm hy624
  clear hy624
  simp only [Option.some.injEq, Prod.mk.injEq] at H
  obtain ⟨rfl, rfl, rfl, rfl⟩ := H
  (first | rw [c18b0] | (simp only [i64_w, i32_w]; rw [c18b0]) | skip)
  try go_wp2
  have pi620 : (0 ≤ (t617 : Int)) = True := eq_true (of_decide_eq_true zas)
  have qi620 : (t617 < (y614.length : Int)) = True := eq_true (of_decide_eq_true zas)
  replace HO1_1 := zm (Kd.S_drew HO1_1.out)
  replace BK990 := zm (blk_drew BK990.out)
  replace BK991 := zm (blk_drew BK991.out)
  replace BK566 := zm (blk_drew BK566.out)
  replace BK567 := zm (blk_drew BK567.out)
  replace HI0 := zm (IsS106.drew HI0.out)
  replace HK := zm (keep_drew HK.out)
  replace HB := zm (below_drew1 HB.out)
  have p613 : 0 ≤ (t568 : Int) := of_decide_eq_true zas
  have q613 : t568 < (l1_1.length : Int) := of_decide_eq_true zas
  obtain ⟨ad613, A613_1, c613_1, A613_2, c613_2, e613, hx613_0, hx613_1, hx613_2, hl613_1, hi613_1, hl613_2, hi613_2⟩ := at_T66 (Kd.S_reads' HO1_1.out).2.2 t568 p613 q613
  cases e613
  obtain ⟨ce613, hce613, hMe613, hcc613⟩ := Kd.S_get HO1_1.out z66 t568 p613 (by first | exact q613 | exact of_decide_eq_true zas | (have e_ := (Kd.S_reads' HO1_1.out).1; omega))
  obtain ⟨ve613_1, ve613_2, rfl, ge613_1, ge613_2⟩ := k66_openM hMe613
  have hv613_1 := hcc613 1 _ rfl
  rw [add_field _ _ 1 (by omega)] at hv613_1
  replace hv613_1 := Option.some.inj (hv613_1.symm.trans hx613_1)
  rw [hv613_1] at ge613_1
  have HL613_1 := zm (show Kd.R Kd.string 9 _ _ _ _ ((rd_T66 l1_1 t568).f1) from ge613_1)
  clear hv613_1 ge613_1
  have HX613_1 := zm hx613_1
  have hv613_2 := hcc613 2 _ rfl
  rw [add_field _ _ 2 (by omega)] at hv613_2
  replace hv613_2 := Option.some.inj (hv613_2.symm.trans hx613_2)
  rw [hv613_2] at ge613_2
  have HL613_2 := zm (show Kd.R (Kd.int .i64) 3 _ _ _ _ ((rd_T66 l1_1 t568).f2) from ge613_2)
  clear hv613_2 ge613_2
  have HX613_2 := zm hx613_2
  clear hcc613 hce613
  have HR613_1 := zm hi613_1
  have HC613_1 := zm hl613_1
  clear hi613_1 hl613_1
  have HR613_2 := zm hi613_2
  have HC613_2 := zm hl613_2
  clear hi613_2 hl613_2
  replace p613 := eq_true p613
  replace q613 := eq_true q613
  refine start_ (n := 19) (S := fun w' => w'.cell? ⟨gb566, 0, none⟩ = some (.string a1_0) ∧ w'.cell? ⟨gb566, 1, none⟩ = some (.slice (some ad613) l1_1.length co24) ∧ w'.cell? (ad613.add ((t568).toNat * 3)) = some (.string ((rd_T66 l1_1 t568).f0)) ∧ w'.cell? ⟨(ad613.add ((t568).toNat * 3)).block, (ad613.add ((t568).toNat * 3)).off + 1, none⟩ = some (.slice A613_1 ((rd_T66 l1_1 t568).f1).length c613_1) ∧ w'.cell? ⟨(ad613.add ((t568).toNat * 3)).block, (ad613.add ((t568).toNat * 3)).off + 2, none⟩ = some (.slice A613_2 ((rd_T66 l1_1 t568).f2).length c613_2)) (ds := [18]) (fl13_ 19 0) (by kernel_rfl) rfl rfl ⟨zd BK566 0, zd BK566 1, hx613_0, hx613_1, hx613_2⟩ (fun hHeld => ?_); refine with_tabW F6.tab12 F6.bits12 (fun HT_ HW_ => ?_)
  generalize w33.drew = w141 at HO1_1 BK990 BK991 BK566 BK567 HI0 HK HB HL613_1 HL613_2 HR613_1 HR613_2 HX613_1 HX613_2 hx613_0 hx613_1 hx613_2 hHeld ⊢
  refine zpu HT_ 0 74 (fl13_ 19 1) ?_
  refine zpu HT_ 2 76 (fl13_ 19 5) ?_
  refine zpu HT_ 3 77 (fl13_ 19 13) ?_
  refine zpu HT_ 5 79 (fl13_ 19 45) ?_
  refine zpu HT_ 10 84 (fl13_ 19 1069) ?_
  refine ztk HT_ HW_ 1 75 (fl13_ 19 1071) hHeld ?_
  refine ztk HT_ HW_ 4 78 (fl13_ 19 1087) hHeld ?_
  refine zpu HT_ 6 80 (fl13_ 19 1151) ?_
  refine zpu HT_ 7 81 (fl13_ 19 1279) ?_
  refine ztk HT_ HW_ 8 82 (fl13_ 19 1535) hHeld ?_
  refine join_ (σ := Value × Addr) 7 (fl13_ 19 4095) (fun s_ => [(83, s_.1), (85, .int .i64 t617)]) (fun s_ w' => (w'.cell? ⟨gb566, 0, none⟩ = some (.string a1_0) ∧ w'.cell? ⟨gb566, 1, none⟩ = some (.slice (some ad613) l1_1.length co24) ∧ w'.cell? (ad613.add ((t568).toNat * 3)) = some (.string ((rd_T66 l1_1 t568).f0)) ∧ w'.cell? ⟨(ad613.add ((t568).toNat * 3)).block, (ad613.add ((t568).toNat * 3)).off + 1, none⟩ = some (.slice A613_1 ((rd_T66 l1_1 t568).f1).length c613_1) ∧ w'.cell? ⟨(ad613.add ((t568).toNat * 3)).block, (ad613.add ((t568).toNat * 3)).off + 2, none⟩ = some (.slice A613_2 ((rd_T66 l1_1 t568).f2).length c613_2)) ∧ (Kd.R Kd.string 9 w' wb.heap.size (fun k_ => some k_ ≠ (.slice (some ad613) l1_1.length co24 : Value).ownBlock ∧ k_ ≠ gx ∧ k_ ≠ gy) (.slice A613_1 ((rd_T66 l1_1 t568).f1).length c613_1) ((rd_T66 l1_1 t568).f1)) ∧ (Kd.R (Kd.int .i64) 3 w' wb.heap.size (fun k_ => some k_ ≠ (.slice (some ad613) l1_1.length co24 : Value).ownBlock ∧ some k_ ≠ (s_.1 : Value).ownBlock ∧ k_ ≠ gx ∧ k_ ≠ gy) (.slice A613_2 ((rd_T66 l1_1 t568).f2).length c613_2) ((rd_T66 l1_1 t568).f2)) ∧ (Kd.S k66 66 w' wb.heap.size (fun k_ => some k_ ≠ (s_.1 : Value).ownBlock ∧ k_ ≠ gx ∧ k_ ≠ gy) (.slice (some ad613) l1_1.length co24) l1_1) ∧ (Kd.R (Kd.int .i64) 3 w' wb.heap.size (fun k_ => some k_ ≠ (.slice A613_2 ((rd_T66 l1_1 t568).f2).length c613_2 : Value).ownBlock) s_.1 y614) ∧ (∃ c_, (s_.1 : Value) = .slice (some s_.2) y614.length c_) ∧ (w'.cell? ⟨(ad613.add ((t568).toNat * 3)).block, (ad613.add ((t568).toNat * 3)).off + 1, none⟩ = some (.slice A613_1 ((rd_T66 l1_1 t568).f1).length c613_1)) ∧ (w'.cell? ⟨(ad613.add ((t568).toNat * 3)).block, (ad613.add ((t568).toNat * 3)).off + 2, none⟩ = some (.slice A613_2 ((rd_T66 l1_1 t568).f2).length c613_2)) ∧ (w'.heap[gb566]? = some (.cells #[.string a1_0, .slice (some ad613) l1_1.length co24] 31 (0, 0))) ∧ (w'.heap[gb567]? = some (.cells #[.string (⟨#[]⟩ : ByteArray), .slice none 0 0] 31 (0, 0))) ∧ (w'.heap[gx]? = some (.cells csx 47 (0, 0))) ∧ (w'.heap[gy]? = some (.cells csy 47 (0, 0))) ∧ (IsS106 w0 w' g s0_0 t618 t619) ∧ (KeepBut wb w' g none) ∧ (Below w0.heap.size w0 w')) ?_ ?_
  rotate_left
  ·intro hCont
   refine two_ (i := 9) (j := 11) (Ni := some 83) (Nj := some 85) (fl13_ 19 2047) (fl13_ 19 3583) rfl rfl rfl rfl (two_of HT_.out (by kernel_rfl)) (by decide) (by decide) (fun K hK => ?_) (fun K hK => ?_)
   ·skip
    refine Kd.R_lit_step (Kd.int .i64) _ 3 ?hg (N := 83) ?hd (xs := ([0, 1000000000000, 1000000000001, (-1000000000000), (-1000000000001)] : List Int)) (inner := [.int .i64 0, .int .i64 1000000000000, .int .i64 1000000000001, .int .i64 (-1000000000000), .int .i64 (-1000000000001)]) (ok := fun _ => True) (okp := fun _ => True) ?hr ?hp (fun _ hk => hk) trivial (Below.refl _ _) (Nat.le_refl _) (by simp) ?_; (case hd => rfl); (case hg => rfl); (case hr => first | (go_simp; done) | (go_simp; rfl)); (case hp => exact (Reps.one (show Kd.M (Kd.int .i64) _ _ _ 0 [.int .i64 0] from rfl) (Reps.one (show Kd.M (Kd.int .i64) _ _ _ 1000000000000 [.int .i64 1000000000000] from rfl) (Reps.one (show Kd.M (Kd.int .i64) _ _ _ 1000000000001 [.int .i64 1000000000001] from rfl) (Reps.one (show Kd.M (Kd.int .i64) _ _ _ (-1000000000000) [.int .i64 (-1000000000000)] from rfl) (Reps.one (show Kd.M (Kd.int .i64) _ _ _ (-1000000000001) [.int .i64 (-1000000000001)] from rfl) (Reps.none _ _)))))))
    intro v615 w142 ho143 hb hg_ hnew_
    have HS2_ := (hb.cell (World.block_lt_of_cell? _ _ (hHeld.2.2.1))).trans (hHeld.2.2.1)
    have HS3_ := (hb.cell (World.block_lt_of_cell? _ _ (hHeld.2.2.2.1))).trans (hHeld.2.2.2.1)
    have HS4_ := (hb.cell (World.block_lt_of_cell? _ _ (hHeld.2.2.2.2))).trans (hHeld.2.2.2.2)
    clear hg_ hnew_
    (first | rw [← Ny614.out] at ho143 | (simp only [Int.reduceToNat] at ho143; rw [← Ny614.out] at ho143))
    replace HO1_1 := zm (Kd.S_elder' (zs HO1_1) (Kd.R_base ho143) hb)
    replace HL613_1 := zm (Kd.R_below (zr HL613_1) hb)
    have HO616 := zm (Kd.R_lower (Kd.R_new' ho143 (Kd.R_lt (zr HL613_2))) (keep_size (w := wb) (g := g) (row := none) (zk HK)))
    replace HL613_2 := zm (Kd.R_elder' (zr HL613_2) (Kd.R_base ho143) hb)
    replace HI0 := zm (IsS106.below (zi106 HI0) hb)
    replace BK990 := zbb BK990 hb
    replace BK991 := zbb BK991 hb
    replace BK566 := zbb BK566 hb
    replace BK567 := zbb BK567 hb
    replace HR613_1 := zm (Kd.C_below (by repeat (first | (with_reducible exact HR613_1.out) | (with_reducible refine Kd.C_alloc ?_ _) | (with_reducible refine Kd.C_drewN ?_ _) | (with_reducible refine Kd.C_drew ?_) | exact HR613_1.out)) hb)
    replace HX613_1 := zm (pw_cell_below hb HX613_1.out)
    replace HR613_2 := zm (Kd.C_below (by repeat (first | (with_reducible exact HR613_2.out) | (with_reducible refine Kd.C_alloc ?_ _) | (with_reducible refine Kd.C_drewN ?_ _) | (with_reducible refine Kd.C_drew ?_) | exact HR613_2.out)) hb)
    replace HX613_2 := zm (pw_cell_below hb HX613_2.out)
    replace HK := zkB HK hb
    replace HB := zm (below_step (zj106 HB) hb)
    clear hb ho143
    obtain ⟨Ao144, co144, eo144⟩ := Kd.R_slice HO616.out
    subst eo144
    obtain ⟨ado144, fo144, _⟩ := Kd.at_int (Kd.R_reads' HO616.out).2.2 0 (by decide) (by rw [Ny614.out]; simp)
    cases fo144
    refine hK.out _ _ ⟨zd BK566 0, zd BK566 1, HS2_, HS3_, HS4_⟩ (fun hHeld => ?_)
    clear hK K
    refine norm_ zac ?_
    refine zon HT_ 11 85 (fl13_ 19 4095) (fun K hK => ?_)
    refine goes_ Try.func55 (by kernel_rfl) rfl #[.pointer (some ⟨g, 0, none⟩), .int .i64 5] (by rfl) rfl rfl zar ?_
    refine (F1.calls g s0_0 t572 t573 5 t617 t618 t619 w0 _ (zi106 HI0) (zj106 HB) A126.out).mono ?_
    rintro e w145 ⟨rfl, hi, hb, hk⟩
    have HS2_ := keep_cell hk (hHeld.2.2.1) (by first | (rw [add_block]; exact Kd.own_blk (IsS106.own_neS HI0.out HO1_1.out (by decide))) | (show (Addr.add _ _).block ≠ _; rw [add_block]; exact Kd.own_blk (IsS106.own_neS HI0.out HO1_1.out (by decide))) | exact Kd.own_blk (IsS106.own_neS HI0.out HO1_1.out (by decide)))
    have HS3_ := keep_cell hk (hHeld.2.2.2.1) (by first | (rw [add_block]; exact Kd.own_blk (IsS106.own_neS HI0.out HO1_1.out (by decide))) | (show (Addr.add _ _).block ≠ _; rw [add_block]; exact Kd.own_blk (IsS106.own_neS HI0.out HO1_1.out (by decide))) | exact Kd.own_blk (IsS106.own_neS HI0.out HO1_1.out (by decide)))
    have HS4_ := keep_cell hk (hHeld.2.2.2.2) (by first | (rw [add_block]; exact Kd.own_blk (IsS106.own_neS HI0.out HO1_1.out (by decide))) | (show (Addr.add _ _).block ≠ _; rw [add_block]; exact Kd.own_blk (IsS106.own_neS HI0.out HO1_1.out (by decide))) | exact Kd.own_blk (IsS106.own_neS HI0.out HO1_1.out (by decide)))
    refine ⟨_, rfl, ?_⟩
    replace BK990 := zkb BK990 NB990_0 hk
    replace BK991 := zkb BK991 NB991_0 hk
    replace BK566 := zkb BK566 NB566_0 hk
    replace BK567 := zkb BK567 NB567_0 hk
    replace HL613_1 := zKR106 HI0 HL613_1 hk
    replace HX613_1 := zm (keep_cell hk HX613_1.out (by first | (rw [add_block]; exact Kd.own_blk (IsS106.own_neS HI0.out HO1_1.out (by decide))) | (show (Addr.add _ _).block ≠ _; rw [add_block]; exact Kd.own_blk (IsS106.own_neS HI0.out HO1_1.out (by decide))) | exact Kd.own_blk (IsS106.own_neS HI0.out HO1_1.out (by decide)) | (dsimp only; exact Kd.own_blk (IsS106.own_neS HI0.out HO1_1.out (by decide)))))
    replace HL613_2 := zKR106 HI0 HL613_2 hk
    replace HX613_2 := zm (keep_cell hk HX613_2.out (by first | (rw [add_block]; exact Kd.own_blk (IsS106.own_neS HI0.out HO1_1.out (by decide))) | (show (Addr.add _ _).block ≠ _; rw [add_block]; exact Kd.own_blk (IsS106.own_neS HI0.out HO1_1.out (by decide))) | exact Kd.own_blk (IsS106.own_neS HI0.out HO1_1.out (by decide)) | (dsimp only; exact Kd.own_blk (IsS106.own_neS HI0.out HO1_1.out (by decide)))))
    replace HO1_1 := zKS106 HI0 HO1_1 hk
    replace HO616 := zKR106 HI0 HO616 hk
    replace HK := zkt HK hk
    replace HB := zm (hb)
    replace HI0 := zm (hi)
    (try clear hb hk hi)
    refine hK.out _ _ ⟨zd BK566 0, zd BK566 1, HS2_, HS3_, HS4_⟩ (fun hHeld => ?_)
    clear hK K
    refine norm_ zac ?_
    exact norm_ zpa (hCont (.slice (some ado144) y614.length co144, ado144) _ ⟨hHeld, (Kd.R_mono (zr HL613_1) (fun _ hk => ⟨hk.2, ⟨hk.1.1, hk.1.2⟩⟩)), (Kd.R_mono (zr HL613_2) (fun _ hk => ⟨hk.1.2, ⟨hk.2, ⟨hk.1.1.1, hk.1.1.2⟩⟩⟩)), (Kd.S_mono (zs HO1_1) (fun _ hk => ⟨hk.2, ⟨hk.1.1, hk.1.2⟩⟩)), (Kd.R_mono (zr HO616) (fun _ hk => hk.2)), ⟨_, rfl⟩, HX613_1.out, HX613_2.out, (zb BK566), (zb BK567), (zb BK990), (zb BK991), (zi106 HI0), (zk HK), (zj106 HB)⟩)
   ·skip
    refine goes_ Try.func55 (by kernel_rfl) rfl #[.pointer (some ⟨g, 0, none⟩), .int .i64 5] (by rfl) rfl rfl zar ?_
    refine (F1.calls g s0_0 t572 t573 5 t617 t618 t619 w0 _ (zi106 HI0) (zj106 HB) A126.out).mono ?_
    rintro e w142 ⟨rfl, hi, hb, hk⟩
    have HS2_ := keep_cell hk (hHeld.2.2.1) (by first | (rw [add_block]; exact Kd.own_blk (IsS106.own_neS HI0.out HO1_1.out (by decide))) | (show (Addr.add _ _).block ≠ _; rw [add_block]; exact Kd.own_blk (IsS106.own_neS HI0.out HO1_1.out (by decide))) | exact Kd.own_blk (IsS106.own_neS HI0.out HO1_1.out (by decide)))
    have HS3_ := keep_cell hk (hHeld.2.2.2.1) (by first | (rw [add_block]; exact Kd.own_blk (IsS106.own_neS HI0.out HO1_1.out (by decide))) | (show (Addr.add _ _).block ≠ _; rw [add_block]; exact Kd.own_blk (IsS106.own_neS HI0.out HO1_1.out (by decide))) | exact Kd.own_blk (IsS106.own_neS HI0.out HO1_1.out (by decide)))
    have HS4_ := keep_cell hk (hHeld.2.2.2.2) (by first | (rw [add_block]; exact Kd.own_blk (IsS106.own_neS HI0.out HO1_1.out (by decide))) | (show (Addr.add _ _).block ≠ _; rw [add_block]; exact Kd.own_blk (IsS106.own_neS HI0.out HO1_1.out (by decide))) | exact Kd.own_blk (IsS106.own_neS HI0.out HO1_1.out (by decide)))
    refine ⟨_, rfl, ?_⟩
    replace BK990 := zkb BK990 NB990_0 hk
    replace BK991 := zkb BK991 NB991_0 hk
    replace BK566 := zkb BK566 NB566_0 hk
    replace BK567 := zkb BK567 NB567_0 hk
    replace HL613_1 := zKR106 HI0 HL613_1 hk
    replace HX613_1 := zm (keep_cell hk HX613_1.out (by first | (rw [add_block]; exact Kd.own_blk (IsS106.own_neS HI0.out HO1_1.out (by decide))) | (show (Addr.add _ _).block ≠ _; rw [add_block]; exact Kd.own_blk (IsS106.own_neS HI0.out HO1_1.out (by decide))) | exact Kd.own_blk (IsS106.own_neS HI0.out HO1_1.out (by decide)) | (dsimp only; exact Kd.own_blk (IsS106.own_neS HI0.out HO1_1.out (by decide)))))
    replace HL613_2 := zKR106 HI0 HL613_2 hk
    replace HX613_2 := zm (keep_cell hk HX613_2.out (by first | (rw [add_block]; exact Kd.own_blk (IsS106.own_neS HI0.out HO1_1.out (by decide))) | (show (Addr.add _ _).block ≠ _; rw [add_block]; exact Kd.own_blk (IsS106.own_neS HI0.out HO1_1.out (by decide))) | exact Kd.own_blk (IsS106.own_neS HI0.out HO1_1.out (by decide)) | (dsimp only; exact Kd.own_blk (IsS106.own_neS HI0.out HO1_1.out (by decide)))))
    replace HO1_1 := zKS106 HI0 HO1_1 hk
    replace HK := zkt HK hk
    replace HB := zm (hb)
    replace HI0 := zm (hi)
    (try clear hb hk hi)
    refine hK.out _ _ ⟨zd BK566 0, zd BK566 1, HS2_, HS3_, HS4_⟩ (fun hHeld => ?_)
    clear hK K
    refine norm_ zac ?_
    refine zon HT_ 9 83 (fl13_ 19 4095) (fun K hK => ?_)
    refine Kd.R_lit_step (Kd.int .i64) _ 3 ?hg (N := 83) ?hd (xs := ([0, 1000000000000, 1000000000001, (-1000000000000), (-1000000000001)] : List Int)) (inner := [.int .i64 0, .int .i64 1000000000000, .int .i64 1000000000001, .int .i64 (-1000000000000), .int .i64 (-1000000000001)]) (ok := fun _ => True) (okp := fun _ => True) ?hr ?hp (fun _ hk => hk) trivial (Below.refl _ _) (Nat.le_refl _) (by simp) ?_; (case hd => rfl); (case hg => rfl); (case hr => first | (go_simp; done) | (go_simp; rfl)); (case hp => exact (Reps.one (show Kd.M (Kd.int .i64) _ _ _ 0 [.int .i64 0] from rfl) (Reps.one (show Kd.M (Kd.int .i64) _ _ _ 1000000000000 [.int .i64 1000000000000] from rfl) (Reps.one (show Kd.M (Kd.int .i64) _ _ _ 1000000000001 [.int .i64 1000000000001] from rfl) (Reps.one (show Kd.M (Kd.int .i64) _ _ _ (-1000000000000) [.int .i64 (-1000000000000)] from rfl) (Reps.one (show Kd.M (Kd.int .i64) _ _ _ (-1000000000001) [.int .i64 (-1000000000001)] from rfl) (Reps.none _ _)))))))
    intro v615 w143 ho144 hb hg_ hnew_
    have HS2_ := (hb.cell (World.block_lt_of_cell? _ _ (hHeld.2.2.1))).trans (hHeld.2.2.1)
    have HS3_ := (hb.cell (World.block_lt_of_cell? _ _ (hHeld.2.2.2.1))).trans (hHeld.2.2.2.1)
    have HS4_ := (hb.cell (World.block_lt_of_cell? _ _ (hHeld.2.2.2.2))).trans (hHeld.2.2.2.2)
    clear hg_ hnew_
    (first | rw [← Ny614.out] at ho144 | (simp only [Int.reduceToNat] at ho144; rw [← Ny614.out] at ho144))
    replace HO1_1 := zm (Kd.S_elder' (zs HO1_1) (Kd.R_base ho144) hb)
    replace HL613_1 := zm (Kd.R_below (zr HL613_1) hb)
    have HO616 := zm (Kd.R_lower (Kd.R_new' ho144 (Kd.R_lt (zr HL613_2))) (keep_size (w := wb) (g := g) (row := none) (zk HK)))
    replace HL613_2 := zm (Kd.R_elder' (zr HL613_2) (Kd.R_base ho144) hb)
    replace HI0 := zm (IsS106.below (zi106 HI0) hb)
    replace BK990 := zbb BK990 hb
    replace BK991 := zbb BK991 hb
    replace BK566 := zbb BK566 hb
    replace BK567 := zbb BK567 hb
    replace HX613_1 := zm (pw_cell_below hb HX613_1.out)
    replace HX613_2 := zm (pw_cell_below hb HX613_2.out)
    replace HK := zkB HK hb
    replace HB := zm (below_step (zj106 HB) hb)
    clear hb ho144
    obtain ⟨Ao145, co145, eo145⟩ := Kd.R_slice HO616.out
    subst eo145
    obtain ⟨ado145, fo145, _⟩ := Kd.at_int (Kd.R_reads' HO616.out).2.2 0 (by decide) (by rw [Ny614.out]; simp)
    cases fo145
    refine hK.out _ _ ⟨zd BK566 0, zd BK566 1, HS2_, HS3_, HS4_⟩ (fun hHeld => ?_)
    clear hK K
    refine norm_ zac ?_
    exact norm_ zpa (hCont (.slice (some ado145) y614.length co145, ado145) _ ⟨hHeld, (Kd.R_mono (zr HL613_1) (fun _ hk => ⟨hk.2, ⟨hk.1.1, hk.1.2⟩⟩)), (Kd.R_mono (zr HL613_2) (fun _ hk => ⟨hk.1.2, ⟨hk.2, ⟨hk.1.1.1, hk.1.1.2⟩⟩⟩)), (Kd.S_mono (zs HO1_1) (fun _ hk => ⟨hk.2, ⟨hk.1.1, hk.1.2⟩⟩)), (Kd.R_mono (zr HO616) (fun _ hk => hk.2)), ⟨_, rfl⟩, HX613_1.out, HX613_2.out, (zb BK566), (zb BK567), (zb BK990), (zb BK991), (zi106 HI0), (zk HK), (zj106 HB)⟩)
  rintro ⟨v615, adz_v615⟩ w146 ⟨hS_, h0_, h1_, h2_, h3_, h4_, h5_, h6_, h7_, h8_, h9_, h10_, h11_, h12_, h13_⟩
  have n0_ : Aside0 (Kd.R Kd.string 9 w146 wb.heap.size (fun k_ => some k_ ≠ (.slice (some ad613) l1_1.length co24 : Value).ownBlock ∧ k_ ≠ gx ∧ k_ ≠ gy) (.slice A613_1 ((rd_T66 l1_1 t568).f1).length c613_1) ((rd_T66 l1_1 t568).f1)) := ⟨h0_⟩
  have n1_ : Aside0 (Kd.R (Kd.int .i64) 3 w146 wb.heap.size (fun k_ => some k_ ≠ (.slice (some ad613) l1_1.length co24 : Value).ownBlock ∧ some k_ ≠ (v615 : Value).ownBlock ∧ k_ ≠ gx ∧ k_ ≠ gy) (.slice A613_2 ((rd_T66 l1_1 t568).f2).length c613_2) ((rd_T66 l1_1 t568).f2)) := ⟨h1_⟩
  have n2_ : Aside0 (Kd.S k66 66 w146 wb.heap.size (fun k_ => some k_ ≠ (v615 : Value).ownBlock ∧ k_ ≠ gx ∧ k_ ≠ gy) (.slice (some ad613) l1_1.length co24) l1_1) := ⟨h2_⟩
  have n3_ : Aside0 (Kd.R (Kd.int .i64) 3 w146 wb.heap.size (fun k_ => some k_ ≠ (.slice A613_2 ((rd_T66 l1_1 t568).f2).length c613_2 : Value).ownBlock) v615 y614) := ⟨h3_⟩
  have n4_ : Aside0 (∃ c_, (v615 : Value) = .slice (some adz_v615) y614.length c_) := ⟨h4_⟩
  have n5_ : Aside0 (w146.cell? ⟨(ad613.add ((t568).toNat * 3)).block, (ad613.add ((t568).toNat * 3)).off + 1, none⟩ = some (.slice A613_1 ((rd_T66 l1_1 t568).f1).length c613_1)) := ⟨h5_⟩
  have n6_ : Aside0 (w146.cell? ⟨(ad613.add ((t568).toNat * 3)).block, (ad613.add ((t568).toNat * 3)).off + 2, none⟩ = some (.slice A613_2 ((rd_T66 l1_1 t568).f2).length c613_2)) := ⟨h6_⟩
  have n7_ : Aside0 (w146.heap[gb566]? = some (.cells #[.string a1_0, .slice (some ad613) l1_1.length co24] 31 (0, 0))) := ⟨h7_⟩
  have n8_ : Aside0 (w146.heap[gb567]? = some (.cells #[.string (⟨#[]⟩ : ByteArray), .slice none 0 0] 31 (0, 0))) := ⟨h8_⟩
  have n9_ : Aside0 (w146.heap[gx]? = some (.cells csx 47 (0, 0))) := ⟨h9_⟩
  have n10_ : Aside0 (w146.heap[gy]? = some (.cells csy 47 (0, 0))) := ⟨h10_⟩
  have n11_ : Aside0 (IsS106 w0 w146 g s0_0 t618 t619) := ⟨h11_⟩
  have n12_ : Aside0 (KeepBut wb w146 g none) := ⟨h12_⟩
  have n13_ : Aside0 (Below w0.heap.size w0 w146) := ⟨h13_⟩
  clear HO1_1
  clear BK990
  clear BK991
  clear BK566
  clear BK567
  clear HI0
  clear HK
  clear HB
  clear h0_ h1_ h2_ h3_ h4_ h5_ h6_ h7_ h8_ h9_ h10_ h11_ h12_ h13_
  have HL613_1 := n0_
  have HL613_2 := n1_
  have HO1_1 := n2_
  have HO616 := n3_
  have HA_HO616 := n4_
  have HX613_1 := n5_
  have HX613_2 := n6_
  have BK566 := n7_
  have BK567 := n8_
  have BK990 := n9_
  have BK991 := n10_
  have HI0 := n11_
  have HK := n12_
  have HB := n13_
  clear n0_ n1_ n2_ n3_ n4_ n5_ n6_ n7_ n8_ n9_ n10_ n11_ n12_ n13_
  have hHeld : w146.cell? ⟨gb566, 0, none⟩ = some (.string a1_0) ∧ w146.cell? ⟨gb566, 1, none⟩ = some (.slice (some ad613) l1_1.length co24) ∧ w146.cell? (ad613.add ((t568).toNat * 3)) = some (.string ((rd_T66 l1_1 t568).f0)) ∧ w146.cell? ⟨(ad613.add ((t568).toNat * 3)).block, (ad613.add ((t568).toNat * 3)).off + 1, none⟩ = some (.slice A613_1 ((rd_T66 l1_1 t568).f1).length c613_1) ∧ w146.cell? ⟨(ad613.add ((t568).toNat * 3)).block, (ad613.add ((t568).toNat * 3)).off + 2, none⟩ = some (.slice A613_2 ((rd_T66 l1_1 t568).f2).length c613_2) := hS_
  obtain ⟨co147, eo147⟩ := HA_HO616.out
  clear HA_HO616
  subst eo147
  obtain ⟨go148, co148, eo148, gb148, gl148, cl148, HG148⟩ := Kd.S_form HO1_1.out (by have h_ : (t568 : Int) < ((l1_1.length : Int) : Int) := of_decide_eq_true zas; have h2_ : 0 ≤ (t568 : Int) := (of_decide_eq_true zas); omega)
  (first | cases eo148 | (injection eo148 with ea_ en_ ec_; (first | subst ea_ | (injection ea_ with ea_; subst ea_)); subst ec_; clear en_))
  have GB148 := zm gb148
  have GG148 := zm HG148
  clear gb148 gl148 HG148
  (first | simp only [add_plain] at hx613_0 | skip)
  (first | simp only [add_plain] at hx613_1 | skip)
  (first | simp only [add_plain] at hx613_2 | skip)
  obtain ⟨oki148, ce148, hcl148, hM148, hcc148, _, _, hH148⟩ := Kd.S_elem HO1_1.out z66 (t568 : Int) (of_decide_eq_true zas) (by have h_ : (t568 : Int) < ((l1_1.length : Int) : Int) := of_decide_eq_true zas; first | exact h_ | (have e_ := (Kd.S_reads' HO1_1.out).1; omega) | simpa using h_)
  obtain ⟨ve148_1, ve148_2, rfl, ge148_1, ge148_2⟩ := k66_openM hM148
  have hv148 := hcc148 2 _ rfl
  have hX148 := HX613_2.out
  (try simp only [add_plain] at hX148)
  (try simp only [Nat.add_zero] at hv148)
  replace hv148 := Option.some.inj (hv148.symm.trans hX148)
  subst hv148
  clear hX148 hcc148 hcl148
  have UU148 := zm (show Kd.R (Kd.int .i64) 3 _ wb.heap.size oki148 (.slice A613_2 ((rd_T66 l1_1 t568).f2).length c613_2) ((rd_T66 l1_1 t568).f2) from ge148_2)
  have HH148 := zm hH148
  have HN148 := zm (Kd.S_reads' HO1_1.out).1
  have HE148_1 := zm ge148_1
  clear hH148 ge148_1 ge148_2
  refine norm_ (a' := ?_) ?_ ?_
  rotate_left
  ·simp only [putAll, Act.put, List.setIfInBounds_toArray, List.set_cons_zero, List.set_cons_succ]
   rfl
  refine zpu HT_ 12 86 (fl13_ 19 8191) ?_
  refine zon HT_ 13 87 (fl13_ 19 16383) (fun K hK => ?_)
  (have p620 : 0 ≤ (t617 : Int) := of_decide_eq_true zas; have q620 : t617 < (y614.length : Int) := of_decide_eq_true zas; obtain ⟨ad620, e620, hx620_0⟩ := Kd.at_int (Kd.R_reads' HO616.out).2.2 t617 p620 q620; obtain rfl : adz_v615 = ad620 := (by injection e620))
  refine value_ (w1 := ?_) (v := ?_) (by rfl) rfl ?_ ?_
  rotate_left 2
  ·go_simp
   constructor
   ·rfl
   ·rfl
  clear hx620_0
  refine hK.out _ _ ⟨zd BK566 0, zd BK566 1, hHeld.2.2.1, hHeld.2.2.2.1, hHeld.2.2.2.2⟩ (fun hHeld => ?_)
  clear hK K
  refine norm_ zac ?_
  refine zon HT_ 14 88 (fl13_ 19 32767) (fun K hK => ?_)
  refine value_ (w1 := ?_) (v := ?_) (by rfl) rfl ?_ ?_
  rotate_left 2
  ·go_simp
   constructor
   ·rfl
   ·rfl
  refine hK.out _ _ ⟨(blk_cell (blk_alloc BK566.out _) 0).trans rfl, (blk_cell (blk_alloc BK566.out _) 1).trans rfl, (World.cell?_alloc_lt _ _ _ (World.block_lt_of_cell? _ _ (hHeld.2.2.1))).trans (hHeld.2.2.1), (World.cell?_alloc_lt _ _ _ (World.block_lt_of_cell? _ _ (hHeld.2.2.2.1))).trans (hHeld.2.2.2.1), (World.cell?_alloc_lt _ _ _ (World.block_lt_of_cell? _ _ (hHeld.2.2.2.2))).trans (hHeld.2.2.2.2)⟩ (fun hHeld => ?_)
  clear hK K
  refine norm_ zac ?_
  refine zon HT_ 15 89 (fl13_ 19 65535) (fun K hK => ?_)
  refine Kd.R_append_step (Kd.int .i64) wb.heap.size (by rfl) (.tmp 82) (.tmp 88) 52 3 (.int .i64 0) 8 rfl Try.underlying52 info3 rfl (by decide) (by omega) (.slice A613_2 ((rd_T66 l1_1 t568).f2).length c613_2) ((rd_T66 l1_1 t568).f2) (rd y614 t617) [.int .i64 (rd y614 t617)] (fun k_ => oki148 k_ ∨ ((fun k_ => some k_ ≠ (.slice (some adz_v615) y614.length co147 : Value).ownBlock ∧ k_ ≠ gx ∧ k_ ≠ gy)) k_ ∧ w146.heap.size ≤ k_) (fun _ => False) rfl rfl ?aP (fun _ hk => hk.elim) ?aF ?aO (Below.refl _ _) ?aS ?aL ?_
  (case aP => exact rfl)
  (case aF => exact (fun k_ hk => .inr ⟨⟨Kd.fresh' (Kd.R_lt (zr HO616)) k_ hk, Kd.freshB (zb BK990) k_ hk, Kd.freshB (zb BK991) k_ hk⟩, hk⟩))
  (case aO => exact (Kd.R_mono (zr UU148) (fun _ hk => .inl hk)))
  (case aS => exact (keep_size (w := wb) (g := g) (row := none) (zk HK)))
  (case aL => have := LMc129.out; omega)
  intro v622 w149 ho hb hg hat
  (first | have HS2_ := cell_grown hg (hHeld.2.2.1) (by first | (rw [add_block]; exact (fun e_ => ((HL613_2.out.1 _ e_.symm).1) rfl)) | (show some (Addr.add _ _).block ≠ _; rw [add_block]; exact (fun e_ => ((HL613_2.out.1 _ e_.symm).1) rfl)) | exact (fun e_ => ((HL613_2.out.1 _ e_.symm).1) rfl)) | have HS2_ := cell_grown hg (cell_unalloc (hHeld.2.2.1) (by first | (rw [add_block]; exact Kd.S_lt HO1_1.out _ rfl) | (show (Addr.add _ _).block < _; rw [add_block]; exact Kd.S_lt HO1_1.out _ rfl) | exact Kd.S_lt HO1_1.out _ rfl)) (by first | (rw [add_block]; exact (fun e_ => ((HL613_2.out.1 _ e_.symm).1) rfl)) | (show some (Addr.add _ _).block ≠ _; rw [add_block]; exact (fun e_ => ((HL613_2.out.1 _ e_.symm).1) rfl)) | exact (fun e_ => ((HL613_2.out.1 _ e_.symm).1) rfl)))
  (first | have HS3_ := cell_grown hg (hHeld.2.2.2.1) (by first | (rw [add_block]; exact (fun e_ => ((HL613_2.out.1 _ e_.symm).1) rfl)) | (show some (Addr.add _ _).block ≠ _; rw [add_block]; exact (fun e_ => ((HL613_2.out.1 _ e_.symm).1) rfl)) | exact (fun e_ => ((HL613_2.out.1 _ e_.symm).1) rfl)) | have HS3_ := cell_grown hg (cell_unalloc (hHeld.2.2.2.1) (by first | (rw [add_block]; exact Kd.S_lt HO1_1.out _ rfl) | (show (Addr.add _ _).block < _; rw [add_block]; exact Kd.S_lt HO1_1.out _ rfl) | exact Kd.S_lt HO1_1.out _ rfl)) (by first | (rw [add_block]; exact (fun e_ => ((HL613_2.out.1 _ e_.symm).1) rfl)) | (show some (Addr.add _ _).block ≠ _; rw [add_block]; exact (fun e_ => ((HL613_2.out.1 _ e_.symm).1) rfl)) | exact (fun e_ => ((HL613_2.out.1 _ e_.symm).1) rfl)))
  (first | have HS4_ := cell_grown hg (hHeld.2.2.2.2) (by first | (rw [add_block]; exact (fun e_ => ((HL613_2.out.1 _ e_.symm).1) rfl)) | (show some (Addr.add _ _).block ≠ _; rw [add_block]; exact (fun e_ => ((HL613_2.out.1 _ e_.symm).1) rfl)) | exact (fun e_ => ((HL613_2.out.1 _ e_.symm).1) rfl)) | have HS4_ := cell_grown hg (cell_unalloc (hHeld.2.2.2.2) (by first | (rw [add_block]; exact Kd.S_lt HO1_1.out _ rfl) | (show (Addr.add _ _).block < _; rw [add_block]; exact Kd.S_lt HO1_1.out _ rfl) | exact Kd.S_lt HO1_1.out _ rfl)) (by first | (rw [add_block]; exact (fun e_ => ((HL613_2.out.1 _ e_.symm).1) rfl)) | (show some (Addr.add _ _).block ≠ _; rw [add_block]; exact (fun e_ => ((HL613_2.out.1 _ e_.symm).1) rfl)) | exact (fun e_ => ((HL613_2.out.1 _ e_.symm).1) rfl)))
  rw [← Ny621.out] at ho
  replace HI0 := zm (IsS106.grown (zi106 HI0) hg (IsS106.own_ne HI0.out HL613_2.out (by decide)))
  replace BK990 := zm (blk_grown (zb BK990) hg (Kd.R_ne HL613_2.out BK990.out (by decide)))
  replace BK991 := zm (blk_grown (zb BK991) hg (Kd.R_ne HL613_2.out BK991.out (by decide)))
  replace BK566 := zm (blk_grown (zb BK566) hg (Kd.R_ne HL613_2.out BK566.out (by decide)))
  replace BK567 := zm (blk_grown (zb BK567) hg (Kd.R_ne HL613_2.out BK567.out (by decide)))
  replace HO616 := zm (Kd.R_grown2 (zr HO616) rfl hg (fun k_ e_ => (HL613_2.out.1 k_ e_).2.1))
  replace HB := zm (below_weaken (zj106 HB) HL.out hb)
  replace HK := zm (KeepBut.trans (zk HK) (KeepBut.of_grown hg g) (Kd.R_base2 HL613_2.out))
  replace HH148 := zm (Kd.H_grown (Kd.H_widen (by repeat (first | exact HH148.out | refine Kd.H_alloc ?_ _ | refine Kd.H_drewN ?_ _ | refine Kd.H_drew ?_))) hg (fun k_ e_ => .inl (UU148.out.1 k_ e_)))
  replace HE148_1 := zm (Kd.R_over' (v := (.slice A613_2 ((rd_T66 l1_1 t568).f2).length c613_2)) (zr HE148_1) (Kd.R_typed UU148.out) (by decide) hg)
  have HO623 := zm (ho)
  clear HO1_1 UU148 HL613_1 HL613_2
  clear ho hb hg hat
  have p130 : 0 ≤ (t568 : Int) := of_decide_eq_true zas
  have q130 : (t568 : Int) < ((l1_1.length : Int) : Int) := of_decide_eq_true zas
  replace p130 := eq_true p130
  replace q130 := eq_true q130
  obtain ⟨Ao152, co152, eo152⟩ := Kd.R_slice HO623.out
  (first | subst eo152 | (injection eo152 with f1_ f2_ f3_; have f4_ := f1_.symm; have f5_ := f3_.symm; clear f1_ f2_ f3_; subst f4_; subst f5_))
  obtain ⟨_, _, hraw150, _, _, hcc150, _⟩ := Kd.H_raw HH148.out (of_decide_eq_true zas) (by have h_ : (t568 : Int) < ((l1_1.length : Int) : Int) := of_decide_eq_true zas; first | exact h_ | (have e_ := (HN148.out); omega) | simpa using h_)
  obtain ⟨_, hfr150⟩ := Kd.H_at HH148.out (of_decide_eq_true zas) (by have h_ : (t568 : Int) < ((l1_1.length : Int) : Int) := of_decide_eq_true zas; first | exact h_ | (have e_ := (HN148.out); omega) | simpa using h_)
  have hx150_0 := hcc150 2 _ rfl
  have hf150_0 := hfr150 2
  (try rw [show (k66).sz = 3 from rfl] at hx150_0)
  (try rw [show (k66).sz = 3 from rfl] at hf150_0)
  have HP150 := Kd.S_seg0 HH148.out (of_decide_eq_true zas) (by have h_ : (t568 : Int) < ((l1_1.length : Int) : Int) := of_decide_eq_true zas; first | exact h_ | (have e_ := (HN148.out); omega) | simpa using h_) (seg := [.slice Ao152 y621.length co152]) (j := 2) (show 3 ≤ 3 from by decide) (x' := (⟨(rd_T66 l1_1 t568).f0, (rd_T66 l1_1 t568).f1, y621⟩ : S66)) (k66_mkM _ _ _ (⟨(rd_T66 l1_1 t568).f0, (rd_T66 l1_1 t568).f1, y621⟩ : S66) (Kd.R_mono HE148_1.out (fun _ h_ => .inl h_)) HO623.out) (fun _ hk => hk)
  clear hcc150 hfr150
  have HN0_go148 := zm (show g ≠ go148 from by have h_ := IsS106.own_ne HI0.out hraw150 (by decide); intro e_; exact h_ (by rw [e_]; rfl))
  have HNB990_go148 := zm (show gx ≠ go148 from by have h_ := Kd.R_ne hraw150 BK990.out (by decide); intro e_; exact h_ (by rw [e_]; rfl))
  have HNB991_go148 := zm (show gy ≠ go148 from by have h_ := Kd.R_ne hraw150 BK991.out (by decide); intro e_; exact h_ (by rw [e_]; rfl))
  have HNB566_go148 := zm (show gb566 ≠ go148 from by have h_ := Kd.R_ne hraw150 BK566.out (by decide); intro e_; exact h_ (by rw [e_]; rfl))
  have HNB567_go148 := zm (show gb567 ≠ go148 from by have h_ := Kd.R_ne hraw150 BK567.out (by decide); intro e_; exact h_ (by rw [e_]; rfl))
  have HS150 := HP150.1
  rw [← Ny624.out] at HS150
  have HQ150 := zm HS150
  obtain ⟨_, hgg150⟩ := Kd.R_typed hraw150 go148 rfl
  have GG150_ := zm hgg150
  clear HP150 HS150 hgg150
  refine hK.out _ _ ⟨zd BK566 0, zd BK566 1, HS2_, HS3_, HS4_⟩ (fun hHeld => ?_)
  clear hK K
  refine norm_ zac ?_
  refine zpu HT_ 16 90 (fl13_ 19 131071) ?_
  refine zpu HT_ 17 91 (fl13_ 19 262143) ?_
  refine last_ (i := 18) (N := none) (fl13_ 19 524287) rfl rfl (one_of HT_.out (by kernel_rfl)) (by decide) (fun K hK => ?_)
  refine skip_ (w1 := ?_) (by rfl) rfl ?_ ?_
  rotate_left
  ·go_simp
   rfl
  refine hK.out _ _ ?_
  clear hK K
  refine done_ (done_of HT_.out (by kernel_rfl)) ?_
  have n0_ : Aside0 (Kd.R (Kd.int .i64) 3 (w149.setCell ⟨go148, (t568 : Int).toNat * 3 + 2, none⟩ (.slice Ao152 y621.length co152)) wb.heap.size (fun _ => True) (.slice (some adz_v615) y614.length co147) y614) := ⟨by (with_reducible repeat (first | apply Kd.R_alloc | apply Kd.R_drewN | apply Kd.R_drew)); exact Kd.R_mono (Kd.R_far (p := ⟨go148, (t568 : Int).toNat * 3 + 2, none⟩) (Kd.R_types HO616.out GG150_.out (by decide)) (fun _ hk => hk.2) (.slice Ao152 y621.length co152)) (fun _ hk => trivial)⟩
  have n1_ : Aside0 (Kd.S k66 66 (w149.setCell ⟨go148, (t568 : Int).toNat * 3 + 2, none⟩ (.slice Ao152 y621.length co152)) wb.heap.size (fun k_ => some k_ ≠ (.slice (some adz_v615) y614.length co147 : Value).ownBlock ∧ k_ ≠ gx ∧ k_ ≠ gy) (.slice (some ⟨go148, 0, none⟩) l1_1.length co24) y624) := ⟨zs HQ150⟩
  have n2_ : Aside0 ((w149.setCell ⟨go148, (t568 : Int).toNat * 3 + 2, none⟩ (.slice Ao152 y621.length co152)).heap[gx]? = some (.cells csx 47 (0, 0))) := ⟨zp BK990⟩
  have n3_ : Aside0 ((w149.setCell ⟨go148, (t568 : Int).toNat * 3 + 2, none⟩ (.slice Ao152 y621.length co152)).heap[gy]? = some (.cells csy 47 (0, 0))) := ⟨zp BK991⟩
  have n4_ : Aside0 ((w149.setCell ⟨go148, (t568 : Int).toNat * 3 + 2, none⟩ (.slice Ao152 y621.length co152)).heap[gb566]? = some (.cells #[.string a1_0, .slice (some ⟨go148, 0, none⟩) l1_1.length co24] 31 (0, 0))) := ⟨zp BK566⟩
  have n5_ : Aside0 ((w149.setCell ⟨go148, (t568 : Int).toNat * 3 + 2, none⟩ (.slice Ao152 y621.length co152)).heap[gb567]? = some (.cells #[.string (⟨#[]⟩ : ByteArray), .slice none 0 0] 31 (0, 0))) := ⟨zp BK567⟩
  have n6_ : Aside0 (IsS106 w0 (w149.setCell ⟨go148, (t568 : Int).toNat * 3 + 2, none⟩ (.slice Ao152 y621.length co152)) g s0_0 t618 t619) := ⟨zi106 HI0⟩
  have n7_ : Aside0 (KeepBut wb (w149.setCell ⟨go148, (t568 : Int).toNat * 3 + 2, none⟩ (.slice Ao152 y621.length co152)) g none) := ⟨zk HK⟩
  have n8_ : Aside0 (Below w0.heap.size w0 (w149.setCell ⟨go148, (t568 : Int).toNat * 3 + 2, none⟩ (.slice Ao152 y621.length co152))) := ⟨by repeat (first | (with_reducible first | exact HB.out | apply below_alloc | apply pw_below_drewN | apply below_drew1 | refine below_set ?_ (Nat.le_trans HL.out GB148.out) | refine below_set ?_ (IsS106.ge HI0.out) | refine below_set ?_ GE990.out | refine below_set ?_ GE991.out | refine below_set ?_ GE566.out | refine below_set ?_ GE567.out) | exact HB.out)⟩
  (try clear HO616)
  (try clear HO1_1)
  (try clear BK990)
  (try clear BK991)
  (try clear BK566)
  (try clear BK567)
  (try clear HI0)
  (try clear HK)
  (try clear HB)
  generalize (w149.setCell ⟨go148, (t568 : Int).toNat * 3 + 2, none⟩ (.slice Ao152 y621.length co152)) = w153 at n0_ n1_ n2_ n3_ n4_ n5_ n6_ n7_ n8_ ⊢
  have HO616 := n0_
  have HO1_1 := n1_
  have BK990 := n2_
  have BK991 := n3_
  have BK566 := n4_
  have BK567 := n5_
  have HI0 := n6_
  have HK := n7_
  have HB := n8_
  clear n0_ n1_ n2_ n3_ n4_ n5_ n6_ n7_ n8_
  obtain ⟨⟨_, _⟩, _, _⟩ := zc2 BK566
  obtain ⟨_, _⟩ := zne NB567_990
  obtain ⟨_, _⟩ := zne NB567_991
  obtain ⟨_, _⟩ := zne NB567_0
  obtain ⟨⟨_, _⟩, _, _⟩ := zc2 BK567
  try go_wp2
  refine bodyPost_ret (results_cell_row rfl _ _ gb567 31 #[.string a1_0, .slice (some ⟨go148, 0, none⟩) l1_1.length co24] (0, 0) _ rfl (zp BK567) Try.underlying31 rfl (by kernel_rfl)) rfl ?_
  exact ⟨_, zre, zxS (Kd.S_mono (zfS gb567 1 (zfS gb567 0 (Kd.S_types HO1_1.out BK567.out (by decide)) (.string a1_0)) (.slice (some ⟨go148, 0, none⟩) l1_1.length co24)) (fun _ hk => ⟨hk.1.2.1, hk.1.2.2⟩)), zi106 HI0, zj106 HB, zk HK, zp BK990, zp BK991⟩
 rw [if_neg c123] at H
 have c123b0 := z2 c123
 have c123b1 := z4 c123
 by_cases c159 : t571 = 4
 ·rw [if_pos c159] at H
  have c159b0 := z1 c159
  have c159b1 := z3 c159
  clear c159
  obtain ⟨y625, hy625⟩ : ∃ y_ : List ByteArray, y_ = (([] : List ByteArray)) := ⟨_, rfl⟩
  replace H : (if 0 ≤ t568 then (if t568 < (l1_1.length : Int) then (some (a1_0, (l1_1.set (t568 : Int).toNat (⟨(rd_T66 l1_1 t568).f0, y625, (rd_T66 l1_1 t568).f2⟩ : S66)), t572, t573)) else (none)) else (none)) = some (r1, r2, r3, r4) := zby hy625 H
  have Ny625 := zm hy625
  clear hy625
  replace H := zif H
  obtain ⟨c160, H⟩ := H
  have c160b0 := decide_eq_true c160
  clear c160
  replace H := zif H
  obtain ⟨c161, H⟩ := H
  have c161b0 := decide_eq_true c161
  clear c161
  obtain ⟨y628, hy628⟩ : ∃ y_ : List (S66), y_ = (l1_1.set (t568 : Int).toNat (⟨(rd_T66 l1_1 t568).f0, y625, (rd_T66 l1_1 t568).f2⟩ : S66)) := ⟨_, rfl⟩
  replace H : (some (a1_0, y628, t572, t573)) = some (r1, r2, r3, r4) := zby hy628 H
  have Ny628 := zm hy628
  clear hy628
  simp only [Option.some.injEq, Prod.mk.injEq] at H
  obtain ⟨rfl, rfl, rfl, rfl⟩ := H
  (first | rw [c18b0] | (simp only [i64_w, i32_w]; rw [c18b0]) | skip)
  obtain ⟨⟨_, _⟩, _, _⟩ := zc2 BK566
  go_wp2_with (first | ((with_reducible refine gate_dst (N := 97) rfl ?_); refine Kd.R_lit Kd.string _ 9 ?hg (N := 97) ?hd (xs := ([] : List ByteArray)) (inner := []) (ok := fun _ => True) (okp := fun _ => True) ?hr ?hp (fun _ hk => hk) trivial (Below.refl _ _) (Nat.le_refl _) (by simp) ?_; (case hd => rfl); (case hg => rfl); (case hr => first | (go_simp; done) | (go_simp; rfl)); (case hp => exact (Reps.none _ _)); intro v626 w174 ho175 hb hg_ hnew_; clear hg_ hnew_; (first | rw [← Ny625.out] at ho175 | (simp only [Int.reduceToNat] at ho175; rw [← Ny625.out] at ho175)); replace HO1_1 := zm (Kd.S_elder' (zs HO1_1) (Kd.R_base ho175) hb); have HO627 := zm (Kd.R_lower ho175 (keep_size (w := wb) (g := g) (row := none) (zk HK))); replace HI0 := zm (IsS106.below (zi106 HI0) hb); replace BK990 := zbb BK990 hb; replace BK991 := zbb BK991 hb; replace BK566 := zbb BK566 hb; replace BK567 := zbb BK567 hb; replace HK := zkB HK hb; replace HB := zm (below_step (zj106 HB) hb); clear hb ho175; have p162 : 0 ≤ (t568 : Int) := of_decide_eq_true zas; have q162 : (t568 : Int) < ((l1_1.length : Int) : Int) := of_decide_eq_true zas; obtain ⟨go162, co162, eo162, gb162, gl162, cl162, HG162⟩ := Kd.S_form HO1_1.out (Int.natCast_pos.1 (Int.lt_of_le_of_lt p162 q162)); (first | cases eo162 | (injection eo162 with ea_ en_ ec_; (first | subst ea_ | (injection ea_ with ea_; subst ea_)); subst ec_; clear en_)); have GB162 := zm gb162; have GG162 := zm HG162; clear gb162 gl162 HG162; obtain ⟨_, ce162, hcl162, hM162, hcc162, hfr162, _, _⟩ := Kd.S_elem HO1_1.out z66 (t568 : Int) p162 q162; obtain ⟨ve162_1, ve162_2, rfl, ge162_1, ge162_2⟩ := k66_openM hM162; have hx162_0 : w174.cell? ⟨go162, (t568 : Int).toNat * 3, none⟩ = some (.string ((rd_T66 l1_1 t568).f0)) := hcc162 0 _ rfl; have hx162_1 : w174.cell? ⟨go162, (t568 : Int).toNat * 3 + 1, none⟩ = some (ve162_1) := hcc162 1 _ rfl; have hx162_2 : w174.cell? ⟨go162, (t568 : Int).toNat * 3 + 2, none⟩ = some (ve162_2) := hcc162 2 _ rfl; have hf162_0 : w174.frozen? ⟨go162, (t568 : Int).toNat * 3, none⟩ = false := hfr162 0; have hf162_1 : w174.frozen? ⟨go162, (t568 : Int).toNat * 3 + 1, none⟩ = false := hfr162 1; have hf162_2 : w174.frozen? ⟨go162, (t568 : Int).toNat * 3 + 2, none⟩ = false := hfr162 2; clear hcl162 hcc162 hfr162 hM162; replace p162 := eq_true p162; replace q162 := eq_true q162; have n_ := zm (Kd.S_mono (ok' := (fun k_ => some k_ ≠ (v626 : Value).ownBlock ∧ k_ ≠ gx ∧ k_ ≠ gy)) HO1_1.out (fun k_ hk => ⟨hk.2, ⟨hk.1.1, hk.1.2⟩⟩)); clear HO1_1; have HO1_1 := n_; clear n_; have HX176 := zm (show Kd.S k66 66 w174 wb.heap.size (fun k_ => ((fun k_ => k_ ≠ gx ∧ k_ ≠ gy)) k_ ∧ ¬ ((fun k_ => some k_ = (v626 : Value).ownBlock)) k_) (.slice (some ⟨go162, 0, none⟩) l1_1.length co24) l1_1 from (Kd.S_mono (zs HO1_1) (fun k_ hk => ⟨⟨hk.2.1, hk.2.2⟩, fun e_ => hk.1 e_⟩))); obtain ⟨oki176, ce176, hcl176, hM176, hcc176, hfr176, hoki176, hH176⟩ := Kd.S_elem HX176.out z66 (t568 : Int) (of_decide_eq_true zas) (by have h_ : (t568 : Int) < ((l1_1.length : Int) : Int) := of_decide_eq_true zas; first | exact h_ | (have e_ := (Kd.S_reads' HO1_1.out).1; omega) | simpa using h_); obtain ⟨ve176_1, ve176_2, rfl, ge176_1, ge176_2⟩ := k66_openM hM176; have HP176 := Kd.S_seg hH176 (of_decide_eq_true zas) (by have h_ : (t568 : Int) < ((l1_1.length : Int) : Int) := of_decide_eq_true zas; first | exact h_ | (have e_ := (Kd.S_reads' HO1_1.out).1; omega) | simpa using h_) (seg := [v626]) (j := 1) (show 2 ≤ 3 from by decide) (x' := (⟨(rd_T66 l1_1 t568).f0, y625, (rd_T66 l1_1 t568).f2⟩ : S66)) (k66_mkM _ _ _ (⟨(rd_T66 l1_1 t568).f0, y625, (rd_T66 l1_1 t568).f2⟩ : S66) (Kd.R_mono (Kd.R_tight rfl (Kd.R_mono (ok' := fun k_ => ((fun k_ => k_ ≠ gx ∧ k_ ≠ gy)) k_ ∧ k_ ≠ go162) (Kd.R_types (Kd.R_types (Kd.R_apart' (HO627.out) (Kd.S_typed HO1_1.out) (by decide)) BK990.out (by decide)) BK991.out (by decide)) (fun k_ hk => ⟨⟨hk.1.2, hk.2⟩, fun e_ => (hk.1.1.2) (by rw [e_]; rfl)⟩))) (fun _ h_ => Or.inr (h_))) (Kd.R_mono ge176_2 (fun _ h_ => Or.inl h_))) (fun _ hk => hk) (fun k_ hk_ => ((Kd.R_mono (ok' := fun k_ => ((fun k_ => k_ ≠ gx ∧ k_ ≠ gy)) k_ ∧ k_ ≠ go162) (Kd.R_types (Kd.R_types (Kd.R_apart' (HO627.out) (Kd.S_typed HO1_1.out) (by decide)) BK990.out (by decide)) BK991.out (by decide)) (fun k_ hk => ⟨⟨hk.1.2, hk.2⟩, fun e_ => (hk.1.1.2) (by rw [e_]; rfl)⟩))).1 k_ hk_.symm); have hx176_1 := hcc176 1 _ rfl; (try simp only [show (k66).sz = 3 from rfl, Nat.mul_one, Nat.add_zero] at hx176_1); have hf176_1 := hfr176 1; (try simp only [show (k66).sz = 3 from rfl, Nat.mul_one, Nat.add_zero] at hf176_1); clear hcl176 hcc176 hfr176 hM176 hoki176 hH176) | ((with_reducible refine gate_store (t := 64) (p := 99) rfl ?_); refine store_event (t := 64) (p := 99) (v := ?vo_w177) (w1 := (w174.setCell ⟨go162, (t568 : Int).toNat * 3 + 1, none⟩ (v626))) ?hg ?ho ?hn ?hr ?_; (case ho => rfl); (case hg => rfl); (case hn => rfl); (case hr => first | (go_simp; done) | (go_simp; rfl) | ((first | (obtain ⟨_, _, e_⟩ : ∃ A_ c_, v626 = .slice A_ _ c_ := Kd.R_slice HO627.out; subst e_) | (obtain ⟨_, _, e_⟩ : ∃ A_ c_, v626 = .slice A_ _ c_ := Kd.S_slice HO627.out; subst e_) | (obtain ⟨_, _, e_⟩ : ∃ A_ c_, v626 = .slice A_ _ c_ := Kd.N_slice HO627.out; subst e_) | (obtain ⟨_, _, e_⟩ : ∃ A_ c_, v626 = .slice A_ _ c_ := Kd.V_slice HO627.out; subst e_)); first | (go_simp; done) | (go_simp; rfl))); intro w177 hw; have hg : w174.grownBy w177 (some go162) := (by rw [hw]; exact HP176.2); have hp_ : Kd.S k66 66 w177 wb.heap.size (fun k_ => k_ ≠ gx ∧ k_ ≠ gy) (.slice (some ⟨go162, 0, none⟩) l1_1.length co24) y628 := (by rw [hw, Ny628.out]; exact HP176.1); clear HP176; replace HI0 := zm (IsS106.grown (zi106 HI0) hg (IsS106.own_neS HI0.out HO1_1.out (by decide))); replace BK990 := zm (blk_grown (zb BK990) hg (Kd.S_ne HO1_1.out BK990.out (by decide))); replace BK991 := zm (blk_grown (zb BK991) hg (Kd.S_ne HO1_1.out BK991.out (by decide))); replace BK566 := zm (blk_grown (zb BK566) hg (Kd.S_ne HO1_1.out BK566.out (by decide))); replace BK567 := zm (blk_grown (zb BK567) hg (Kd.S_ne HO1_1.out BK567.out (by decide))); replace HB := zm ((by rw [hw]; exact below_set (HB.out) (Nat.le_trans HL.out GB162.out) : Below w0.heap.size w0 w177)); replace HK := zm (KeepBut.trans (zk HK) (KeepBut.of_grown hg g) (Kd.S_base2 HO1_1.out)); replace HO1_1 := zm (hp_); clear HO627; clear hg hw hp_; obtain ⟨⟨_, _⟩, _, _⟩ := zc2 BK566; obtain ⟨_, _⟩ := zne NB567_990; obtain ⟨_, _⟩ := zne NB567_991; obtain ⟨_, _⟩ := zne NB567_0; obtain ⟨⟨_, _⟩, _, _⟩ := zc2 BK567))
  refine bodyPost_ret (results_cell_row rfl _ _ gb567 31 #[.string a1_0, .slice (some ⟨go162, 0, none⟩) l1_1.length co24] (0, 0) _ rfl (zp BK567) Try.underlying31 rfl (by kernel_rfl)) rfl ?_
  exact ⟨_, zre, zxS (Kd.S_mono (zfS gb567 1 (zfS gb567 0 (Kd.S_types HO1_1.out BK567.out (by decide)) (.string a1_0)) (.slice (some ⟨go162, 0, none⟩) l1_1.length co24)) (fun _ hk => ⟨hk.1.1, hk.1.2⟩)), zi106 HI0, zj106 HB, zk HK, zp BK990, zp BK991⟩
 rw [if_neg c159] at H
 have c159b0 := z2 c159
 have c159b1 := z4 c159
 by_cases c183 : t571 = 5
 rotate_left
 ·rw [if_neg c183] at H
  have c183b0 := z2 c183
  have c183b1 := z4 c183
  by_cases c218 : t571 = 6
  ·rw [if_pos c218] at H
   exact absurd H (by simp)
  rw [if_neg c218] at H
  have c218b0 := z2 c218
  have c218b1 := z4 c218
  simp only [Option.some.injEq, Prod.mk.injEq] at H
  obtain ⟨rfl, rfl, rfl, rfl⟩ := H
  (first | rw [c18b0] | (simp only [i64_w, i32_w]; rw [c18b0]) | skip)
  obtain ⟨⟨_, _⟩, _, _⟩ := zc2 BK566
  obtain ⟨_, _⟩ := zne NB567_990
  obtain ⟨_, _⟩ := zne NB567_991
  obtain ⟨_, _⟩ := zne NB567_0
  obtain ⟨⟨_, _⟩, _, _⟩ := zc2 BK567
  go_wp2
  refine bodyPost_ret (results_cell_row rfl _ _ gb567 31 #[.string a1_0, .slice Ao24 l1_1.length co24] (0, 0) _ rfl (zp BK567) Try.underlying31 rfl (by kernel_rfl)) rfl ?_
  exact ⟨_, zre, zxS (Kd.S_mono (zfS gb567 1 (zfS gb567 0 (Kd.S_types HO1_1.out BK567.out (by decide)) (.string a1_0)) (.slice Ao24 l1_1.length co24)) (fun _ hk => ⟨hk.1.1, hk.1.2⟩)), zi106 HI0, zj106 HB, zk HK, zp BK990, zp BK991⟩
 rw [if_pos c183] at H
 have c183b0 := z1 c183
 have c183b1 := z3 c183
 clear c183
 replace H := zbi H
 obtain ⟨⟨t629, t630, t631⟩, A184, H⟩ := H
 try dsimp only at H
 have H' := zm H
 clear H
 (first | rw [c18b0] | (simp only [i64_w, i32_w]; rw [c18b0]) | skip)
 go_wp2_with (first | ((with_reducible refine gate_callee (f := 55) rfl ?_); refine zgl 103 Try.func55 #[.pointer (some ⟨g, 0, none⟩), .int .i64 2] ?_; refine (F1.calls g s0_0 t572 t573 2 t629 t630 t631 w0 _ (zi106 HI0) (zj106 HB) A184.out).mono ?_; rintro e w195 ⟨rfl, hi, hb, hk⟩; refine ⟨_, rfl, ?_⟩; replace HO1_1 := zKS106 HI0 HO1_1 hk; replace BK990 := zkb BK990 NB990_0 hk; replace BK991 := zkb BK991 NB991_0 hk; replace BK566 := zkb BK566 NB566_0 hk; replace BK567 := zkb BK567 NB567_0 hk; replace HK := zkt HK hk; replace HB := zm (hb); replace HI0 := zm (hi); (try clear hb hk hi)))
 go_loopg [6] k (fun kq v6 w' => ∃ (x6_1 : Int) (x567001_1 : List (S66)) (u567001 : Value), v6 = .int .i64 x6_1 ∧ Aside0 (F6.l0 kq t568 x6_1 s0_0 t630 t631 a1_0 x567001_1 = some (r1, r2, r3, r4)) ∧ Aside0 (kq ≤ k) ∧ Aside0 (Kd.S k66 66 w' wb.heap.size (fun _ => True) u567001 x567001_1) ∧ Aside0 (w'.heap[gx]? = some (.cells csx 47 (0, 0))) ∧ Aside0 (w'.heap[gy]? = some (.cells csy 47 (0, 0))) ∧ Aside0 (w'.heap[gb566]? = some (.cells #[.string a1_0, u567001] 31 (0, 0))) ∧ Aside0 (w'.heap[gb567]? = some (.cells #[.string (⟨#[]⟩ : ByteArray), (.slice none 0 0)] 31 (0, 0))) ∧ Aside0 (IsS106 w0 w' g s0_0 t630 t631) ∧ Aside0 (KeepBut wb w' g none) ∧ Aside0 (Below w0.heap.size w0 w'))
 case atStart => exact ⟨(wrap64 (t629 + 16)), (l1_1), (.slice Ao24 l1_1.length co24), zrs, H', ⟨Nat.le_refl _⟩, ⟨Kd.S_mono (zs HO1_1) (fun _ hk => trivial)⟩, ⟨zb BK990⟩, ⟨zb BK991⟩, ⟨zb BK566⟩, ⟨zb BK567⟩, ⟨zi106 HI0⟩, ⟨zk HK⟩, ⟨zj106 HB⟩⟩
 case round =>
  clear H'
  try clear c18
  try clear c123
  try clear c123b0
  try clear c123b1
  try clear c159
  try clear c159b0
  try clear c159b1
  try clear c183
  try clear c183b0
  try clear c183b1
  try clear _ _
  try clear _ _
  obtain ⟨x6_1, x567001_1, u567001, rfl, HA, HK1, HO_567001, BK990, BK991, BK566, BK567, HI0, HK, HB⟩ := hrel
  cases gk with
  | zero => exact absurd HA.out (by simp [F6.l0])
  | succ k1 =>
   have H := HA.out
   clear HA
   simp only [F6.l0] at H
   by_cases c196 : x6_1 > 0
   rotate_left
   ·rw [if_neg c196] at H
    have c196b0 := decide_eq_false c196
    clear c196
    simp only [Option.some.injEq, Prod.mk.injEq] at H
    obtain ⟨rfl, rfl, rfl, rfl⟩ := H
    obtain ⟨_, _⟩ := zne NB566_990
    obtain ⟨_, _⟩ := zne NB566_991
    obtain ⟨_, _⟩ := zne NB566_567
    obtain ⟨_, _⟩ := zne NB566_0
    obtain ⟨⟨_, _⟩, _, _⟩ := zc2 BK566
    obtain ⟨_, _⟩ := zne NB567_990
    obtain ⟨_, _⟩ := zne NB567_991
    obtain ⟨_, _⟩ := zne NB567_0
    obtain ⟨⟨_, _⟩, _, _⟩ := zc2 BK567
    obtain ⟨Ao217, co217, eo217⟩ := Kd.S_slice HO_567001.out
    subst eo217
    go_wp2
    refine bodyPost_ret (results_cell_row rfl _ _ gb567 31 #[.string a1_0, .slice Ao217 x567001_1.length co217] (0, 0) _ rfl (zp BK567) Try.underlying31 rfl (by kernel_rfl)) rfl ?_
    exact ⟨_, zre, zxS (Kd.S_mono (zfS gb567 1 (zfS gb567 0 (Kd.S_types (Kd.S_types (Kd.S_types HO_567001.out BK990.out (by decide)) BK991.out (by decide)) BK567.out (by decide)) (.string a1_0)) (.slice Ao217 x567001_1.length co217)) (fun _ hk => ⟨hk.1.1.2, hk.1.2⟩)), zi106 HI0, zj106 HB, zk HK, zp BK990, zp BK991⟩
   rw [if_pos c196] at H
   have c196b0 := decide_eq_true c196
   clear c196
   replace H := zif H
   obtain ⟨c197, H⟩ := H
   have c197b0 := decide_eq_true c197
   clear c197
   replace H := zif H
   obtain ⟨c198, H⟩ := H
   have c198b0 := decide_eq_true c198
   clear c198
   replace H := zif H
   obtain ⟨c199, H⟩ := H
   have LMc199 := zm c199
   clear c199
   obtain ⟨y633, hy633⟩ : ∃ y_ : List Int, y_ = (((rd_T66 x567001_1 t568).f2) ++ [1]) := ⟨_, rfl⟩
   replace H : (F6.l0 k1 t568 (wrap64 (x6_1 - 1)) s0_0 t630 t631 a1_0 (x567001_1.set (t568 : Int).toNat (⟨(rd_T66 x567001_1 t568).f0, (rd_T66 x567001_1 t568).f1, y633⟩ : S66))) = some (r1, r2, r3, r4) := zby hy633 H
   have Ny633 := zm hy633
   clear hy633
   obtain ⟨y636, hy636⟩ : ∃ y_ : List (S66), y_ = (x567001_1.set (t568 : Int).toNat (⟨(rd_T66 x567001_1 t568).f0, (rd_T66 x567001_1 t568).f1, y633⟩ : S66)) := ⟨_, rfl⟩
   replace H : (F6.l0 k1 t568 (wrap64 (x6_1 - 1)) s0_0 t630 t631 a1_0 y636) = some (r1, r2, r3, r4) := zby hy636 H
   have Ny636 := zm hy636
   clear hy636
   have H' := zm H
   clear H
   try go_wp2
   replace HO_567001 := zm (Kd.S_drew HO_567001.out)
   replace BK990 := zm (blk_drew BK990.out)
   replace BK991 := zm (blk_drew BK991.out)
   replace BK566 := zm (blk_drew BK566.out)
   replace BK567 := zm (blk_drew BK567.out)
   replace HI0 := zm (IsS106.drew HI0.out)
   replace HK := zm (keep_drew HK.out)
   replace HB := zm (below_drew1 HB.out)
   obtain ⟨Ao202, co202, eo202⟩ := Kd.S_slice HO_567001.out
   (first | subst eo202 | (injection eo202 with f1_ f2_ f3_; have f4_ := f1_.symm; have f5_ := f3_.symm; clear f1_ f2_ f3_; subst f4_; subst f5_))
   have p632 : 0 ≤ (t568 : Int) := of_decide_eq_true zas
   have q632 : t568 < (x567001_1.length : Int) := of_decide_eq_true zas
   obtain ⟨ad632, A632_1, c632_1, A632_2, c632_2, e632, hx632_0, hx632_1, hx632_2, hl632_1, hi632_1, hl632_2, hi632_2⟩ := at_T66 (Kd.S_reads' HO_567001.out).2.2 t568 p632 q632
   cases e632
   obtain ⟨ce632, hce632, hMe632, hcc632⟩ := Kd.S_get HO_567001.out z66 t568 p632 (by first | exact q632 | exact of_decide_eq_true zas | (have e_ := (Kd.S_reads' HO_567001.out).1; omega))
   obtain ⟨ve632_1, ve632_2, rfl, ge632_1, ge632_2⟩ := k66_openM hMe632
   have hv632_1 := hcc632 1 _ rfl
   rw [add_field _ _ 1 (by omega)] at hv632_1
   replace hv632_1 := Option.some.inj (hv632_1.symm.trans hx632_1)
   rw [hv632_1] at ge632_1
   have HL632_1 := zm (show Kd.R Kd.string 9 _ _ _ _ ((rd_T66 x567001_1 t568).f1) from ge632_1)
   clear hv632_1 ge632_1
   have HX632_1 := zm hx632_1
   have hv632_2 := hcc632 2 _ rfl
   rw [add_field _ _ 2 (by omega)] at hv632_2
   replace hv632_2 := Option.some.inj (hv632_2.symm.trans hx632_2)
   rw [hv632_2] at ge632_2
   have HL632_2 := zm (show Kd.R (Kd.int .i64) 3 _ _ _ _ ((rd_T66 x567001_1 t568).f2) from ge632_2)
   clear hv632_2 ge632_2
   have HX632_2 := zm hx632_2
   clear hcc632 hce632
   have HR632_1 := zm hi632_1
   have HC632_1 := zm hl632_1
   clear hi632_1 hl632_1
   have HR632_2 := zm hi632_2
   have HC632_2 := zm hl632_2
   clear hi632_2 hl632_2
   replace p632 := eq_true p632
   replace q632 := eq_true q632
   obtain ⟨go203, co203, eo203, gb203, gl203, cl203, HG203⟩ := Kd.S_form HO_567001.out (by have h_ : (t568 : Int) < ((x567001_1.length : Int) : Int) := of_decide_eq_true zas; have h2_ : 0 ≤ (t568 : Int) := (of_decide_eq_true zas); omega)
   (first | cases eo203 | (injection eo203 with ea_ en_ ec_; (first | subst ea_ | (injection ea_ with ea_; subst ea_)); subst ec_; clear en_))
   have GB203 := zm gb203
   have GG203 := zm HG203
   clear gb203 gl203 HG203
   (first | simp only [add_plain] at hx632_0 | skip)
   (first | simp only [add_plain] at hx632_1 | skip)
   (first | simp only [add_plain] at hx632_2 | skip)
   obtain ⟨oki203, ce203, hcl203, hM203, hcc203, _, _, hH203⟩ := Kd.S_elem HO_567001.out z66 (t568 : Int) (of_decide_eq_true zas) (by have h_ : (t568 : Int) < ((x567001_1.length : Int) : Int) := of_decide_eq_true zas; first | exact h_ | (have e_ := (Kd.S_reads' HO_567001.out).1; omega) | simpa using h_)
   obtain ⟨ve203_1, ve203_2, rfl, ge203_1, ge203_2⟩ := k66_openM hM203
   have hv203 := hcc203 2 _ rfl
   have hX203 := HX632_2.out
   (try simp only [add_plain] at hX203)
   (try simp only [Nat.add_zero] at hv203)
   replace hv203 := Option.some.inj (hv203.symm.trans hX203)
   subst hv203
   clear hX203 hcc203 hcl203
   have UU203 := zm (show Kd.R (Kd.int .i64) 3 _ wb.heap.size oki203 (.slice A632_2 ((rd_T66 x567001_1 t568).f2).length c632_2) ((rd_T66 x567001_1 t568).f2) from ge203_2)
   have HH203 := zm hH203
   have HN203 := zm (Kd.S_reads' HO_567001.out).1
   have HE203_1 := zm ge203_1
   clear hH203 ge203_1 ge203_2
   refine start_ (n := 14) (S := fun w' => w'.cell? ⟨gb566, 0, none⟩ = some (.string a1_0) ∧ w'.cell? ⟨gb566, 1, none⟩ = some (.slice (some ⟨go203, 0, none⟩) x567001_1.length co202) ∧ w'.cell? ⟨go203, ((t568).toNat * 3), none⟩ = some (.string ((rd_T66 x567001_1 t568).f0)) ∧ w'.cell? ⟨go203, ((t568).toNat * 3) + 1, none⟩ = some (.slice A632_1 ((rd_T66 x567001_1 t568).f1).length c632_1) ∧ w'.cell? ⟨go203, ((t568).toNat * 3) + 2, none⟩ = some (.slice A632_2 ((rd_T66 x567001_1 t568).f2).length c632_2)) (ds := [13]) (fl13_ 14 0) (by kernel_rfl) rfl rfl ⟨zd BK566 0, zd BK566 1, hx632_0, hx632_1, hx632_2⟩ (fun hHeld => ?_); refine with_tabW F6.tab19 F6.bits19 (fun HT_ HW_ => ?_)
   generalize wr.drew = w201 at HO_567001 BK990 BK991 BK566 BK567 HI0 HK HB GG203 HE203_1 HH203 HL632_1 HL632_2 HR632_1 HR632_2 HX632_1 HX632_2 UU203 hx632_0 hx632_1 hx632_2 hHeld ⊢
   refine zpu HT_ 0 109 (fl13_ 14 1) ?_
   refine zpu HT_ 2 111 (fl13_ 14 5) ?_
   refine zpu HT_ 3 112 (fl13_ 14 13) ?_
   refine zpu HT_ 5 114 (fl13_ 14 45) ?_
   refine ztk HT_ HW_ 1 110 (fl13_ 14 47) hHeld ?_
   refine ztk HT_ HW_ 4 113 (fl13_ 14 63) hHeld ?_
   refine zpu HT_ 6 115 (fl13_ 14 127) ?_
   refine zpu HT_ 7 116 (fl13_ 14 255) ?_
   refine ztk HT_ HW_ 8 117 (fl13_ 14 511) hHeld ?_
   refine zon HT_ 9 118 (fl13_ 14 1023) (fun K hK => ?_)
   refine value_ (w1 := ?_) (v := ?_) (by rfl) rfl ?_ ?_
   rotate_left 2
   ·go_simp
    constructor
    ·rfl
    ·rfl
   refine hK.out _ _ ⟨(blk_cell (blk_alloc BK566.out _) 0).trans rfl, (blk_cell (blk_alloc BK566.out _) 1).trans rfl, (World.cell?_alloc_lt _ _ _ (World.block_lt_of_cell? _ _ (hHeld.2.2.1))).trans (hHeld.2.2.1), (World.cell?_alloc_lt _ _ _ (World.block_lt_of_cell? _ _ (hHeld.2.2.2.1))).trans (hHeld.2.2.2.1), (World.cell?_alloc_lt _ _ _ (World.block_lt_of_cell? _ _ (hHeld.2.2.2.2))).trans (hHeld.2.2.2.2)⟩ (fun hHeld => ?_)
   clear hK K
   refine norm_ zac ?_
   refine zon HT_ 10 119 (fl13_ 14 2047) (fun K hK => ?_)
   refine Kd.R_append_step (Kd.int .i64) wb.heap.size (by rfl) (.tmp 117) (.tmp 118) 52 3 (.int .i64 0) 8 rfl Try.underlying52 info3 rfl (by decide) (by omega) (.slice A632_2 ((rd_T66 x567001_1 t568).f2).length c632_2) ((rd_T66 x567001_1 t568).f2) 1 [.int .i64 1] (fun k_ => oki203 k_ ∨ ((fun _ => True)) k_ ∧ w201.heap.size ≤ k_) (fun _ => False) rfl rfl ?aP (fun _ hk => hk.elim) ?aF ?aO (Below.refl _ _) ?aS ?aL ?_
   (case aP => exact rfl)
   (case aF => exact (fun k_ hk => .inr ⟨trivial, hk⟩))
   (case aO => exact (Kd.R_mono (zr UU203) (fun _ hk => .inl hk)))
   (case aS => exact (keep_size (w := wb) (g := g) (row := none) (zk HK)))
   (case aL => have := LMc199.out; omega)
   intro v634 w204 ho hb hg hat
   (first | have HS2_ := cell_grown hg (hHeld.2.2.1) (by first | (rw [add_block]; exact (fun e_ => ((HL632_2.out.1 _ e_.symm).2) rfl)) | (show some (Addr.add _ _).block ≠ _; rw [add_block]; exact (fun e_ => ((HL632_2.out.1 _ e_.symm).2) rfl)) | exact (fun e_ => ((HL632_2.out.1 _ e_.symm).2) rfl)) | have HS2_ := cell_grown hg (cell_unalloc (hHeld.2.2.1) (by first | (rw [add_block]; exact Kd.S_lt HO_567001.out _ rfl) | (show (Addr.add _ _).block < _; rw [add_block]; exact Kd.S_lt HO_567001.out _ rfl) | exact Kd.S_lt HO_567001.out _ rfl)) (by first | (rw [add_block]; exact (fun e_ => ((HL632_2.out.1 _ e_.symm).2) rfl)) | (show some (Addr.add _ _).block ≠ _; rw [add_block]; exact (fun e_ => ((HL632_2.out.1 _ e_.symm).2) rfl)) | exact (fun e_ => ((HL632_2.out.1 _ e_.symm).2) rfl)))
   (first | have HS3_ := cell_grown hg (hHeld.2.2.2.1) (by first | (rw [add_block]; exact (fun e_ => ((HL632_2.out.1 _ e_.symm).2) rfl)) | (show some (Addr.add _ _).block ≠ _; rw [add_block]; exact (fun e_ => ((HL632_2.out.1 _ e_.symm).2) rfl)) | exact (fun e_ => ((HL632_2.out.1 _ e_.symm).2) rfl)) | have HS3_ := cell_grown hg (cell_unalloc (hHeld.2.2.2.1) (by first | (rw [add_block]; exact Kd.S_lt HO_567001.out _ rfl) | (show (Addr.add _ _).block < _; rw [add_block]; exact Kd.S_lt HO_567001.out _ rfl) | exact Kd.S_lt HO_567001.out _ rfl)) (by first | (rw [add_block]; exact (fun e_ => ((HL632_2.out.1 _ e_.symm).2) rfl)) | (show some (Addr.add _ _).block ≠ _; rw [add_block]; exact (fun e_ => ((HL632_2.out.1 _ e_.symm).2) rfl)) | exact (fun e_ => ((HL632_2.out.1 _ e_.symm).2) rfl)))
   (first | have HS4_ := cell_grown hg (hHeld.2.2.2.2) (by first | (rw [add_block]; exact (fun e_ => ((HL632_2.out.1 _ e_.symm).2) rfl)) | (show some (Addr.add _ _).block ≠ _; rw [add_block]; exact (fun e_ => ((HL632_2.out.1 _ e_.symm).2) rfl)) | exact (fun e_ => ((HL632_2.out.1 _ e_.symm).2) rfl)) | have HS4_ := cell_grown hg (cell_unalloc (hHeld.2.2.2.2) (by first | (rw [add_block]; exact Kd.S_lt HO_567001.out _ rfl) | (show (Addr.add _ _).block < _; rw [add_block]; exact Kd.S_lt HO_567001.out _ rfl) | exact Kd.S_lt HO_567001.out _ rfl)) (by first | (rw [add_block]; exact (fun e_ => ((HL632_2.out.1 _ e_.symm).2) rfl)) | (show some (Addr.add _ _).block ≠ _; rw [add_block]; exact (fun e_ => ((HL632_2.out.1 _ e_.symm).2) rfl)) | exact (fun e_ => ((HL632_2.out.1 _ e_.symm).2) rfl)))
   rw [← Ny633.out] at ho
   replace BK990 := zm (blk_grown (zb BK990) hg (Kd.R_ne HL632_2.out BK990.out (by decide)))
   replace BK991 := zm (blk_grown (zb BK991) hg (Kd.R_ne HL632_2.out BK991.out (by decide)))
   replace BK566 := zm (blk_grown (zb BK566) hg (Kd.R_ne HL632_2.out BK566.out (by decide)))
   replace BK567 := zm (blk_grown (zb BK567) hg (Kd.R_ne HL632_2.out BK567.out (by decide)))
   replace HI0 := zm (IsS106.grown (zi106 HI0) hg (IsS106.own_ne HI0.out HL632_2.out (by decide)))
   replace HB := zm (below_weaken (zj106 HB) HL.out hb)
   replace HK := zm (KeepBut.trans (zk HK) (KeepBut.of_grown hg g) (Kd.R_base2 HL632_2.out))
   replace HH203 := zm (Kd.H_grown (Kd.H_widen (by repeat (first | exact HH203.out | refine Kd.H_alloc ?_ _ | refine Kd.H_drewN ?_ _ | refine Kd.H_drew ?_))) hg (fun k_ e_ => .inl (UU203.out.1 k_ e_)))
   replace HE203_1 := zm (Kd.R_over' (v := (.slice A632_2 ((rd_T66 x567001_1 t568).f2).length c632_2)) (zr HE203_1) (Kd.R_typed UU203.out) (by decide) hg)
   have HO635 := zm (ho)
   clear HO_567001 UU203 HL632_1 HL632_2
   clear ho hb hg hat
   have p200 : 0 ≤ (t568 : Int) := of_decide_eq_true zas
   have q200 : (t568 : Int) < ((x567001_1.length : Int) : Int) := of_decide_eq_true zas
   replace p200 := eq_true p200
   replace q200 := eq_true q200
   obtain ⟨Ao207, co207, eo207⟩ := Kd.R_slice HO635.out
   (first | subst eo207 | (injection eo207 with f1_ f2_ f3_; have f4_ := f1_.symm; have f5_ := f3_.symm; clear f1_ f2_ f3_; subst f4_; subst f5_))
   obtain ⟨_, _, hraw205, _, _, hcc205, _⟩ := Kd.H_raw HH203.out (of_decide_eq_true zas) (by have h_ : (t568 : Int) < ((x567001_1.length : Int) : Int) := of_decide_eq_true zas; first | exact h_ | (have e_ := (HN203.out); omega) | simpa using h_)
   obtain ⟨_, hfr205⟩ := Kd.H_at HH203.out (of_decide_eq_true zas) (by have h_ : (t568 : Int) < ((x567001_1.length : Int) : Int) := of_decide_eq_true zas; first | exact h_ | (have e_ := (HN203.out); omega) | simpa using h_)
   have hx205_0 := hcc205 2 _ rfl
   have hf205_0 := hfr205 2
   (try rw [show (k66).sz = 3 from rfl] at hx205_0)
   (try rw [show (k66).sz = 3 from rfl] at hf205_0)
   have HP205 := Kd.S_seg0 HH203.out (of_decide_eq_true zas) (by have h_ : (t568 : Int) < ((x567001_1.length : Int) : Int) := of_decide_eq_true zas; first | exact h_ | (have e_ := (HN203.out); omega) | simpa using h_) (seg := [.slice Ao207 y633.length co207]) (j := 2) (show 3 ≤ 3 from by decide) (x' := (⟨(rd_T66 x567001_1 t568).f0, (rd_T66 x567001_1 t568).f1, y633⟩ : S66)) (k66_mkM _ _ _ (⟨(rd_T66 x567001_1 t568).f0, (rd_T66 x567001_1 t568).f1, y633⟩ : S66) (Kd.R_mono HE203_1.out (fun _ h_ => .inl h_)) HO635.out) (fun _ hk => hk)
   clear hcc205 hfr205
   have HN0_go203 := zm (show g ≠ go203 from by have h_ := IsS106.own_ne HI0.out hraw205 (by decide); intro e_; exact h_ (by rw [e_]; rfl))
   have HNB990_go203 := zm (show gx ≠ go203 from by have h_ := Kd.R_ne hraw205 BK990.out (by decide); intro e_; exact h_ (by rw [e_]; rfl))
   have HNB991_go203 := zm (show gy ≠ go203 from by have h_ := Kd.R_ne hraw205 BK991.out (by decide); intro e_; exact h_ (by rw [e_]; rfl))
   have HNB566_go203 := zm (show gb566 ≠ go203 from by have h_ := Kd.R_ne hraw205 BK566.out (by decide); intro e_; exact h_ (by rw [e_]; rfl))
   have HNB567_go203 := zm (show gb567 ≠ go203 from by have h_ := Kd.R_ne hraw205 BK567.out (by decide); intro e_; exact h_ (by rw [e_]; rfl))
   have HS205 := HP205.1
   rw [← Ny636.out] at HS205
   have HQ205 := zm HS205
   obtain ⟨_, hgg205⟩ := Kd.R_typed hraw205 go203 rfl
   have GG205_ := zm hgg205
   clear HP205 HS205 hgg205
   refine hK.out _ _ ⟨zd BK566 0, zd BK566 1, HS2_, HS3_, HS4_⟩ (fun hHeld => ?_)
   clear hK K
   refine norm_ zac ?_
   refine zpu HT_ 11 120 (fl13_ 14 4095) ?_
   refine zpu HT_ 12 121 (fl13_ 14 8191) ?_
   refine last_ (i := 13) (N := none) (fl13_ 14 16383) rfl rfl (one_of HT_.out (by kernel_rfl)) (by decide) (fun K hK => ?_)
   refine skip_ (w1 := ?_) (by rfl) rfl ?_ ?_
   rotate_left
   ·go_simp
    rfl
   refine hK.out _ _ ?_
   clear hK K
   refine done_ (done_of HT_.out (by kernel_rfl)) ?_
   try go_wp2
   go_roundg k1
   case measure => have := HK1.out; omega
   case rel => exact ⟨(wrap64 (x6_1 - 1)), (y636), (.slice (some ⟨go203, 0, none⟩) x567001_1.length co202), zrs, H', ⟨by have := HK1.out; omega⟩, ⟨zs HQ205⟩, ⟨zp BK990⟩, ⟨zp BK991⟩, ⟨zp BK566⟩, ⟨zp BK567⟩, ⟨zi106 HI0⟩, ⟨zk HK⟩, ⟨by repeat (first | (with_reducible first | exact HB.out | apply below_alloc | apply pw_below_drewN | apply below_drew1 | refine below_set ?_ (Nat.le_trans HL.out GB203.out) | refine below_set ?_ (IsS106.ge HI0.out) | refine below_set ?_ GE990.out | refine below_set ?_ GE991.out | refine below_set ?_ GE566.out | refine below_set ?_ GE567.out) | exact HB.out)⟩⟩
/-! ### F26: function 57 -/
def F26.f (s0_0 : List Int) (s0_1 : Int) (s0_2 : Int) (a1_0 : ByteArray) (l1_1 : List (S66)) : Option (ByteArray × (List (S66)) × Int × Int) := if (l1_1.length : Int) = 0 then (none) else ((F1.f s0_0 s0_1 s0_2 (l1_1.length : Int)).bind fun bt639 => ((F1.f s0_0 bt639.2.1 bt639.2.2 14).bind fun bt642 => (if bt642.1 = 0 then (none) else (if bt642.1 = 1 then (none) else (if bt642.1 = 2 then (none) else (if bt642.1 = 3 then (none) else (if bt642.1 = 4 then (none) else (if bt642.1 = 5 then (none) else (if bt642.1 = 6 then (if 0 ≤ bt639.1 then (if bt639.1 < (l1_1.length : Int) then (if l1_1.length < 2199023255552 then (some (a1_0, (l1_1 ++ [(⟨(rd_T66 l1_1 bt639.1).f0, (rd_T66 l1_1 bt639.1).f1, (rd_T66 l1_1 bt639.1).f2⟩ : S66)]), bt642.2.1, bt642.2.2)) else (none)) else (none)) else (none)) else (some (a1_0, l1_1, bt642.2.1, bt642.2.2)))))))))))
def F26.T21 : Bool × List (List Nat × List Nat) := (true, [([], []), ([0], [0]), ([], []), ([2], [2]), ([], []), ([3, 4], [3, 4]), ([5], [5]), ([6], [6]), ([1, 7], [1, 7]), ([0, 1, 2, 3, 4, 5, 6, 7, 8], []), ([9, 8, 8, 0, 1, 2, 3, 4, 5, 6, 7, 8], [8, 9])])
def F26.B21 : List Nat := [0, 1, 0, 4, 0, 28, 60, 124, 255, 511, 1023]
theorem F26.tab21 : rtab .any (opsOf Try.f57 21) = F26.T21 := by kernel_rfl
theorem F26.bits21 : waitsOk F26.T21.2 F26.B21 = true := by kernel_rfl
set_option maxHeartbeats 8000000 in
set_option maxRecDepth 100000 in
theorem F26.calls (g : Nat) (s0_0 : List Int) (s0_1 : Int) (s0_2 : Int) (a1_0 : ByteArray) (u9000_ : Value) (l1_1 : List (S66)) (r1 : ByteArray) (r2 : List (S66)) (r3 : Int) (r4 : Int) (w0 wb w : World) (hL : w0.heap.size ≤ wb.heap.size) (hK0 : KeepBut wb w g none) (gx : Nat) (csx : Array Value) (hbx : w.heap[gx]? = some (.cells csx 47 (0, 0))) (gy : Nat) (csy : Array Value) (hby : w.heap[gy]? = some (.cells csy 47 (0, 0))) (hI : IsS106 w0 w g s0_0 s0_1 s0_2) (hB : Below w0.heap.size w0 w) (ho1_1 : Kd.N k66 66 w wb.heap.size (fun k_ => (wb.heap.size ≤ k_) ∧ k_ ≠ g ∧ k_ ≠ gx ∧ k_ ≠ gy) u9000_ l1_1) (h : F26.f s0_0 s0_1 s0_2 a1_0 l1_1 = some (r1, r2, r3, r4)) :
 Calls Try.prog 57 #[.pointer (some ⟨g, 0, none⟩), .agg #[.string a1_0, u9000_]] w fun e w' => ∃ v1_ : Value, e = .returned (.agg #[.string r1, v1_]) ∧ Kd.N k66 66 w' wb.heap.size (fun k_ => (wb.heap.size ≤ k_) ∧ k_ ≠ gx ∧ k_ ≠ gy) v1_ r2 ∧ IsS106 w0 w' g s0_0 r3 r4 ∧ Below w0.heap.size w0 w' ∧ KeepBut wb w' g none ∧ w'.heap[gx]? = some (.cells csx 47 (0, 0)) ∧ w'.heap[gy]? = some (.cells csy 47 (0, 0)) := by
 have hu31 := Try.underlying31
 have hu66 := Try.underlying66
 have HO1_1 := zm ho1_1
 clear ho1_1
 have HI0 := zm hI
 have HK := zm hK0
 have HL := zm hL
 clear hI
 have HW0 := zm hL
 have HB := zm hB
 clear hB
 have H := h
 unfold F26.f at H
 clear h
 have NB990_0 := zm (Ne.symm (IsS106.ne_blk HI0.out hbx (by decide)))
 have NB0_990 := zm (IsS106.ne_blk HI0.out hbx (by decide))
 have BK990 := zm hbx
 clear hbx
 have NB991_0 := zm (Ne.symm (IsS106.ne_blk HI0.out hby (by decide)))
 have NB0_991 := zm (IsS106.ne_blk HI0.out hby (by decide))
 have BK991 := zm hby
 clear hby
 by_cases c3 : (l1_1.length : Int) = 0
 ·rw [if_pos c3] at H
  exact absurd H (by simp)
 rw [if_neg c3] at H
 have c3b0 := z2 c3
 have c3b1 := z4 c3
 have c3b2 : ¬ (l1_1 = []) := fun h_ => c3 (by rw [h_]; rfl)
 replace H := zbi H
 obtain ⟨⟨t639, t640, t641⟩, A4, H⟩ := H
 try dsimp only at H
 replace H := zbi H
 obtain ⟨⟨t642, t643, t644⟩, A5, H⟩ := H
 try dsimp only at H
 obtain ⟨Ao35, co35, eo35⟩ := Kd.N_slice HO1_1.out
 subst eo35
 go_enter Try.func57, Try.ntmps57
 go_upto_if 19 with (first | ((with_reducible refine gate_dst (N := 3) rfl ?_); refine box_event (by rfl) (N := 3) (by rfl) (cs := #[.string a1_0, .slice Ao35 l1_1.length co35]) (t := 31) zgs ?_; intro gb637 hg w36 hbox hb; replace HO1_1 := zm (Kd.N_below (Kd.N_elderB (zn HO1_1) gb637 (Nat.le_of_eq hg.symm)) hb); replace HB := zm (below_step (zj106 HB) hb); have BK637 := zm (hbox); have GW637 := zge hg (keep_size (w := wb) (g := g) (row := none) (zk HK)); have GE637 := zm ((Nat.le_trans HW0.out (by rw [hg]; exact (keep_size (w := wb) (g := g) (row := none) (zk HK)) : wb.heap.size ≤ gb637) : w0.heap.size ≤ gb637)); replace HK := zkB HK hb; obtain ⟨NB990_637, NB637_990⟩ := znn hg (blk_lt (zb BK990)); replace BK990 := zbb BK990 hb; obtain ⟨NB991_637, NB637_991⟩ := znn hg (blk_lt (zb BK991)); replace BK991 := zbb BK991 hb; obtain ⟨NB0_637, NB637_0⟩ := znn hg (IsS106.lt (show IsS106 w0 _ g s0_0 s0_1 s0_2 from zi106 HI0)); replace HI0 := zm (IsS106.below (zi106 HI0) hb); clear hb hbox hg) | ((with_reducible refine gate_dst (N := 4) rfl ?_); refine box_event (by rfl) (N := 4) (by rfl) (cs := #[.string (⟨#[]⟩ : ByteArray), .slice none 0 0]) (t := 31) zgs ?_; intro gb638 hg w37 hbox hb; replace HO1_1 := zm (Kd.N_below (Kd.N_elderB (zn HO1_1) gb638 (Nat.le_of_eq hg.symm)) hb); replace HB := zm (below_step (zj106 HB) hb); have BK638 := zm (hbox); have GW638 := zge hg (keep_size (w := wb) (g := g) (row := none) (zk HK)); have GE638 := zm ((Nat.le_trans HW0.out (by rw [hg]; exact (keep_size (w := wb) (g := g) (row := none) (zk HK)) : wb.heap.size ≤ gb638) : w0.heap.size ≤ gb638)); replace HK := zkB HK hb; obtain ⟨NB990_638, NB638_990⟩ := znn hg (blk_lt (zb BK990)); replace BK990 := zbb BK990 hb; obtain ⟨NB991_638, NB638_991⟩ := znn hg (blk_lt (zb BK991)); replace BK991 := zbb BK991 hb; obtain ⟨NB637_638, NB638_637⟩ := znn hg (blk_lt (zb BK637)); replace BK637 := zbb BK637 hb; obtain ⟨NB0_638, NB638_0⟩ := znn hg (IsS106.lt (show IsS106 w0 _ g s0_0 s0_1 s0_2 from zi106 HI0)); replace HI0 := zm (IsS106.below (zi106 HI0) hb); clear hb hbox hg; obtain ⟨_, _⟩ := zne NB637_990; obtain ⟨_, _⟩ := zne NB637_991; obtain ⟨_, _⟩ := zne NB637_638; obtain ⟨_, _⟩ := zne NB637_0; obtain ⟨⟨_, _⟩, _, _⟩ := zc2 BK637) | ((with_reducible refine gate_callee (f := 55) rfl ?_); refine zgl 16 Try.func55 #[.pointer (some ⟨g, 0, none⟩), .int .i64 (l1_1.length : Int)] ?_; refine (F1.calls g s0_0 s0_1 s0_2 (l1_1.length : Int) t639 t640 t641 w0 _ (zi106 HI0) (zj106 HB) A4.out).mono ?_; rintro e w43 ⟨rfl, hi, hb, hk⟩; refine ⟨_, rfl, ?_⟩; replace HO1_1 := zm (Kd.N_mono (Kd.N_keep (Kd.N_mono (ok := fun k_ => (((((wb.heap.size ≤ k_)) ∧ (k_ ≠ g ∧ (k_ ≠ gx ∧ k_ ≠ gy))) ∧ k_ ≠ gb637) ∧ k_ ≠ gb638)) (zn HO1_1) (fun k_ hk_ => (⟨hk_, hk_.1.1.2.1⟩ : _ ∧ k_ ≠ g))) hk (fun _ h => h.2)) (fun _ h => h.1)); replace BK990 := zkb BK990 NB990_0 hk; replace BK991 := zkb BK991 NB991_0 hk; replace BK637 := zkb BK637 NB637_0 hk; replace BK638 := zkb BK638 NB638_0 hk; replace HK := zkt HK hk; replace HB := zm (hb); replace HI0 := zm (hi); (try clear hb hk hi)) | ((with_reducible refine gate_callee (f := 55) rfl ?_); refine zgl 18 Try.func55 #[.pointer (some ⟨g, 0, none⟩), .int .i64 14] ?_; refine (F1.calls g s0_0 t640 t641 14 t642 t643 t644 w0 _ (zi106 HI0) (zj106 HB) A5.out).mono ?_; rintro e w44 ⟨rfl, hi, hb, hk⟩; refine ⟨_, rfl, ?_⟩; replace HO1_1 := zm (Kd.N_mono (Kd.N_keep (Kd.N_mono (ok := fun k_ => (((((wb.heap.size ≤ k_)) ∧ (k_ ≠ g ∧ (k_ ≠ gx ∧ k_ ≠ gy))) ∧ k_ ≠ gb637) ∧ k_ ≠ gb638)) (zn HO1_1) (fun k_ hk_ => (⟨hk_, hk_.1.1.2.1⟩ : _ ∧ k_ ≠ g))) hk (fun _ h => h.2)) (fun _ h => h.1)); replace BK990 := zkb BK990 NB990_0 hk; replace BK991 := zkb BK991 NB991_0 hk; replace BK637 := zkb BK637 NB637_0 hk; replace BK638 := zkb BK638 NB638_0 hk; replace HK := zkt HK hk; replace HB := zm (hb); replace HI0 := zm (hi); (try clear hb hk hi)))
 (try simp only [Act.put, List.setIfInBounds_toArray, List.set_cons_zero, List.set_cons_succ])
 by_cases c6 : t642 = 0
 ·rw [if_pos c6] at H
  exact absurd H (by simp)
 rw [if_neg c6] at H
 have c6b0 := z2 c6
 have c6b1 := z4 c6
 by_cases c7 : t642 = 1
 ·rw [if_pos c7] at H
  exact absurd H (by simp)
 rw [if_neg c7] at H
 have c7b0 := z2 c7
 have c7b1 := z4 c7
 by_cases c8 : t642 = 2
 ·rw [if_pos c8] at H
  exact absurd H (by simp)
 rw [if_neg c8] at H
 have c8b0 := z2 c8
 have c8b1 := z4 c8
 by_cases c9 : t642 = 3
 ·rw [if_pos c9] at H
  exact absurd H (by simp)
 rw [if_neg c9] at H
 have c9b0 := z2 c9
 have c9b1 := z4 c9
 by_cases c10 : t642 = 4
 ·rw [if_pos c10] at H
  exact absurd H (by simp)
 rw [if_neg c10] at H
 have c10b0 := z2 c10
 have c10b1 := z4 c10
 by_cases c11 : t642 = 5
 ·rw [if_pos c11] at H
  exact absurd H (by simp)
 rw [if_neg c11] at H
 have c11b0 := z2 c11
 have c11b1 := z4 c11
 by_cases c12 : t642 = 6
 rotate_left
 ·rw [if_neg c12] at H
  have c12b0 := z2 c12
  have c12b1 := z4 c12
  simp only [Option.some.injEq, Prod.mk.injEq] at H
  obtain ⟨rfl, rfl, rfl, rfl⟩ := H
  (first | rw [c6b0] | (simp only [i64_w, i32_w]; rw [c6b0]) | skip)
  obtain ⟨⟨_, _⟩, _, _⟩ := zc2 BK637
  obtain ⟨_, _⟩ := zne NB638_990
  obtain ⟨_, _⟩ := zne NB638_991
  obtain ⟨_, _⟩ := zne NB638_0
  obtain ⟨⟨_, _⟩, _, _⟩ := zc2 BK638
  go_wp2
  refine bodyPost_ret (results_cell_row rfl _ _ gb638 31 #[.string a1_0, .slice Ao35 l1_1.length co35] (0, 0) _ rfl (zp BK638) Try.underlying31 rfl (by kernel_rfl)) rfl ?_
  exact ⟨_, zre, zxN (Kd.N_mono (zfN gb638 1 (zfN gb638 0 (Kd.N_mono HO1_1.out (fun k_ hk => (⟨hk, hk.2⟩ : _ ∧ k_ ≠ gb638))) (.string a1_0)) (.slice Ao35 l1_1.length co35)) (fun _ hk => ⟨hk.1.1.1.1, ⟨hk.1.1.1.2.2.1, hk.1.1.1.2.2.2⟩⟩)), zi106 HI0, zj106 HB, zk HK, zp BK990, zp BK991⟩

 rw [if_pos c12] at H
 have c12b0 := z1 c12
 have c12b1 := z3 c12
 clear c12
 replace H := zif H
 obtain ⟨c13, H⟩ := H
 have c13b0 := decide_eq_true c13
 clear c13
 replace H := zif H
 obtain ⟨c14, H⟩ := H
 have c14b0 := decide_eq_true c14
 clear c14
 replace H := zif H
 obtain ⟨c15, H⟩ := H
 have LMc15 := zm c15
 clear c15
 obtain ⟨y646, hy646⟩ : ∃ y_ : List (S66), y_ = (l1_1 ++ [(⟨(rd_T66 l1_1 t639).f0, (rd_T66 l1_1 t639).f1, (rd_T66 l1_1 t639).f2⟩ : S66)]) := ⟨_, rfl⟩
 replace H : (some (a1_0, y646, t643, t644)) = some (r1, r2, r3, r4) := zby hy646 H
 have Ny646 := zm hy646
 clear hy646
 simp only [Option.some.injEq, Prod.mk.injEq] at H
 obtain ⟨rfl, rfl, rfl, rfl⟩ := H
 (first | rw [c6b0] | (simp only [i64_w, i32_w]; rw [c6b0]) | skip)
 try go_wp2
 replace HO1_1 := zm (Kd.N_drew HO1_1.out)
 replace BK990 := zm (blk_drew BK990.out)
 replace BK991 := zm (blk_drew BK991.out)
 replace BK637 := zm (blk_drew BK637.out)
 replace BK638 := zm (blk_drew BK638.out)
 replace HI0 := zm (IsS106.drew HI0.out)
 replace HK := zm (keep_drew HK.out)
 replace HB := zm (below_drew1 HB.out)
 have p645 : 0 ≤ (t639 : Int) := of_decide_eq_true zas
 have q645 : t639 < (l1_1.length : Int) := of_decide_eq_true zas
 obtain ⟨ad645, A645_1, c645_1, A645_2, c645_2, e645, hx645_0, hx645_1, hx645_2, hl645_1, hi645_1, hl645_2, hi645_2⟩ := at_T66 (Kd.N_reads' HO1_1.out).2.2 t639 p645 q645
 cases e645
 obtain ⟨ce645, hce645, hMe645, hcc645⟩ := Kd.N_get HO1_1.out z66 t639 p645 (by first | exact q645 | exact of_decide_eq_true zas | (have e_ := (Kd.N_reads' HO1_1.out).1; omega))
 obtain ⟨ua645_1, uc645_1, ua645_2, uc645_2, rfl, ul645_1, ge645_1, ul645_2, ge645_2⟩ := k66_openF hMe645
 have hv645_1 := hcc645 1 _ rfl
 rw [add_field _ _ 1 (by omega)] at hv645_1
 replace hv645_1 := Option.some.inj (hv645_1.symm.trans hx645_1)
 injection hv645_1 with hva_ hvn_ hvc_
 rw [hva_] at ge645_1
 rw [hvc_] at ul645_1
 have HL645_1 := zm (show Kd.V Kd.string 9 _ wb.heap.size _ _ ((rd_T66 l1_1 t639).f1) from Kd.V_mk ul645_1 ge645_1)
 clear hva_ hvn_ hvc_ ge645_1 ul645_1
 have hv645_2 := hcc645 2 _ rfl
 rw [add_field _ _ 2 (by omega)] at hv645_2
 replace hv645_2 := Option.some.inj (hv645_2.symm.trans hx645_2)
 injection hv645_2 with hva_ hvn_ hvc_
 rw [hva_] at ge645_2
 rw [hvc_] at ul645_2
 have HL645_2 := zm (show Kd.V (Kd.int .i64) 3 _ wb.heap.size _ _ ((rd_T66 l1_1 t639).f2) from Kd.V_mk ul645_2 ge645_2)
 clear hva_ hvn_ hvc_ ge645_2 ul645_2
 clear hcc645 hce645
 have HR645_1 := zm hi645_1
 have HC645_1 := zm hl645_1
 clear hi645_1 hl645_1
 have HR645_2 := zm hi645_2
 have HC645_2 := zm hl645_2
 clear hi645_2 hl645_2
 replace p645 := eq_true p645
 replace q645 := eq_true q645
 refine start_ (n := 11) (S := fun w' => w'.cell? ⟨gb637, 0, none⟩ = some (.string a1_0) ∧ w'.cell? ⟨gb637, 1, none⟩ = some (.slice (some ad645) l1_1.length co35) ∧ w'.cell? (ad645.add ((t639).toNat * 3)) = some (.string ((rd_T66 l1_1 t639).f0)) ∧ w'.cell? ⟨(ad645.add ((t639).toNat * 3)).block, (ad645.add ((t639).toNat * 3)).off + 1, none⟩ = some (.slice A645_1 ((rd_T66 l1_1 t639).f1).length c645_1) ∧ w'.cell? ⟨(ad645.add ((t639).toNat * 3)).block, (ad645.add ((t639).toNat * 3)).off + 2, none⟩ = some (.slice A645_2 ((rd_T66 l1_1 t639).f2).length c645_2)) (ds := [8, 10]) (fl13_ 11 0) (by kernel_rfl) rfl rfl ⟨zd BK637 0, zd BK637 1, hx645_0, hx645_1, hx645_2⟩ (fun hHeld => ?_); refine with_tabW F26.tab21 F26.bits21 (fun HT_ HW_ => ?_)
 generalize w44.drew = w26 at HO1_1 BK990 BK991 BK637 BK638 HI0 HK HB HL645_1 HL645_2 HR645_1 HR645_2 hx645_0 hx645_1 hx645_2 hHeld ⊢
 refine zpu HT_ 0 124 (fl13_ 11 1) ?_
 refine zpu HT_ 2 126 (fl13_ 11 5) ?_
 refine zpu HT_ 4 128 (fl13_ 11 21) ?_
 refine ztk HT_ HW_ 1 125 (fl13_ 11 23) hHeld ?_
 refine ztk HT_ HW_ 3 127 (fl13_ 11 31) hHeld ?_
 refine zpu HT_ 5 129 (fl13_ 11 63) ?_
 refine ztk HT_ HW_ 6 130 (fl13_ 11 127) hHeld ?_
 refine zon HT_ 7 131 (fl13_ 11 255) (fun K hK => ?_)
 refine value_ (w1 := ?_) (v := ?_) (by rfl) rfl ?_ ?_
 rotate_left 2
 ·go_simp
  constructor
  ·rfl
  ·rfl
 refine hK.out _ _ ⟨(blk_cell (blk_alloc BK637.out _) 0).trans rfl, (blk_cell (blk_alloc BK637.out _) 1).trans rfl, (World.cell?_alloc_lt _ _ _ (World.block_lt_of_cell? _ _ (hHeld.2.2.1))).trans (hHeld.2.2.1), (World.cell?_alloc_lt _ _ _ (World.block_lt_of_cell? _ _ (hHeld.2.2.2.1))).trans (hHeld.2.2.2.1), (World.cell?_alloc_lt _ _ _ (World.block_lt_of_cell? _ _ (hHeld.2.2.2.2))).trans (hHeld.2.2.2.2)⟩ (fun hHeld => ?_)
 clear hK K
 refine norm_ zac ?_
 refine last_ (i := 8) (N := some 132) (fl13_ 11 511) rfl rfl (one_of HT_.out (by kernel_rfl)) (by decide) (fun K hK => ?_)
 refine Kd.N_append_step k66 wb.heap.size (by rfl) (.tmp 125) (.tmp 131) 29 66 (.agg #[(.string ⟨#[]⟩), (.slice none 0 0), (.slice none 0 0)]) 64 rfl Try.underlying29 info66 rfl (by decide) (by omega) (.slice (some ad645) l1_1.length co35) l1_1 (⟨(rd_T66 l1_1 t639).f0, (rd_T66 l1_1 t639).f1, (rd_T66 l1_1 t639).f2⟩ : S66) [.string ((rd_T66 l1_1 t639).f0), .slice A645_1 ((rd_T66 l1_1 t639).f1).length c645_1, .slice A645_2 ((rd_T66 l1_1 t639).f2).length c645_2] (fun k_ => (wb.heap.size ≤ k_) ∧ k_ ≠ gx ∧ k_ ≠ gy ∧ k_ ≠ gb637 ∧ k_ ≠ gb638 ∧ k_ ≠ g) (fun k_ => ((fun k_ => (wb.heap.size ≤ k_) ∧ k_ ≠ gx ∧ k_ ≠ gy ∧ k_ ≠ gb637 ∧ k_ ≠ gb638 ∧ k_ ≠ g)) k_ ∧ some k_ ≠ (.slice (some ad645) l1_1.length co35 : Value).ownBlock) rfl rfl ?aP (fun _ hk => hk) ?aF ?aO (Below.refl _ _) ?aS ?aL ?_
 (case aP => exact (k66_mkF _ _ (⟨(rd_T66 l1_1 t639).f0, (rd_T66 l1_1 t639).f1, (rd_T66 l1_1 t639).f2⟩ : S66) (Kd.V_reads' (Kd.V_mono (ok' := (fun k_ => ((fun k_ => (wb.heap.size ≤ k_) ∧ k_ ≠ gx ∧ k_ ≠ gy ∧ k_ ≠ gb637 ∧ k_ ≠ gb638 ∧ k_ ≠ g)) k_ ∧ some k_ ≠ (.slice (some ad645) l1_1.length co35 : Value).ownBlock)) (HL645_1.out) (fun k_ hk => ⟨⟨hk.1.1.1.1, ⟨hk.1.1.1.2.2.1, ⟨hk.1.1.1.2.2.2, ⟨hk.1.1.2, ⟨hk.1.2, hk.1.1.1.2.1⟩⟩⟩⟩⟩, hk.2⟩))).2.1 (Kd.V_F (Kd.V_mono (ok' := (fun k_ => ((fun k_ => (wb.heap.size ≤ k_) ∧ k_ ≠ gx ∧ k_ ≠ gy ∧ k_ ≠ gb637 ∧ k_ ≠ gb638 ∧ k_ ≠ g)) k_ ∧ some k_ ≠ (.slice (some ad645) l1_1.length co35 : Value).ownBlock)) (HL645_1.out) (fun k_ hk => ⟨⟨hk.1.1.1.1, ⟨hk.1.1.1.2.2.1, ⟨hk.1.1.1.2.2.2, ⟨hk.1.1.2, ⟨hk.1.2, hk.1.1.1.2.1⟩⟩⟩⟩⟩, hk.2⟩))) (Kd.V_reads' (Kd.V_mono (ok' := (fun k_ => ((fun k_ => (wb.heap.size ≤ k_) ∧ k_ ≠ gx ∧ k_ ≠ gy ∧ k_ ≠ gb637 ∧ k_ ≠ gb638 ∧ k_ ≠ g)) k_ ∧ some k_ ≠ (.slice (some ad645) l1_1.length co35 : Value).ownBlock)) (HL645_2.out) (fun k_ hk => ⟨⟨hk.1.1.1.1, ⟨hk.1.1.1.2.2.1, ⟨hk.1.1.1.2.2.2, ⟨hk.1.1.2, ⟨hk.1.2, hk.1.1.1.2.1⟩⟩⟩⟩⟩, hk.2⟩))).2.1 (Kd.V_F (Kd.V_mono (ok' := (fun k_ => ((fun k_ => (wb.heap.size ≤ k_) ∧ k_ ≠ gx ∧ k_ ≠ gy ∧ k_ ≠ gb637 ∧ k_ ≠ gb638 ∧ k_ ≠ g)) k_ ∧ some k_ ≠ (.slice (some ad645) l1_1.length co35 : Value).ownBlock)) (HL645_2.out) (fun k_ hk => ⟨⟨hk.1.1.1.1, ⟨hk.1.1.1.2.2.1, ⟨hk.1.1.1.2.2.2, ⟨hk.1.1.2, ⟨hk.1.2, hk.1.1.1.2.1⟩⟩⟩⟩⟩, hk.2⟩)))))
 (case aF => exact (fun k_ hk => ⟨(Nat.le_trans (keep_size (w := wb) (g := g) (row := none) (zk HK)) hk), Kd.freshB (zb BK990) k_ hk, Kd.freshB (zb BK991) k_ hk, Kd.freshB (zb BK637) k_ hk, Kd.freshB (zb BK638) k_ hk, IsS106.fresh (zi106 HI0) k_ hk⟩))
 (case aO => exact (Kd.N_mono (zn HO1_1) (fun _ hk => ⟨hk.1.1.1, ⟨hk.1.1.2.2.1, ⟨hk.1.1.2.2.2, ⟨hk.1.2, ⟨hk.2, hk.1.1.2.1⟩⟩⟩⟩⟩)))
 (case aS => exact (keep_size (w := wb) (g := g) (row := none) (zk HK)))
 (case aL => have := LMc15.out; omega)
 intro v647 w27 ho hb hg hat
 rw [← Ny646.out] at ho
 replace HI0 := zm (IsS106.grown (zi106 HI0) hg (IsS106.own_neN HI0.out HO1_1.out (by decide)))
 replace BK990 := zm (blk_grown (zb BK990) hg (Kd.N_ne HO1_1.out BK990.out (by decide)))
 replace BK991 := zm (blk_grown (zb BK991) hg (Kd.N_ne HO1_1.out BK991.out (by decide)))
 replace BK637 := zm (blk_grown (zb BK637) hg (Kd.N_ne HO1_1.out BK637.out (by decide)))
 replace BK638 := zm (blk_grown (zb BK638) hg (Kd.N_ne HO1_1.out BK638.out (by decide)))
 replace HL645_1 := zm (Kd.V_afterv (ok := (fun k_ => (wb.heap.size ≤ k_) ∧ k_ ≠ g ∧ k_ ≠ gx ∧ k_ ≠ gy ∧ k_ ≠ gb637 ∧ k_ ≠ gb638)) (Kd.V_mono (zv HL645_1) (fun _ hk => ⟨⟨hk.1.1.1.1, ⟨hk.1.1.1.2.1, ⟨hk.1.1.1.2.2.1, ⟨hk.1.1.1.2.2.2, ⟨hk.1.1.2, hk.1.2⟩⟩⟩⟩⟩, hk.2⟩)) hg hat)
 replace HL645_2 := zm (Kd.V_afterv (ok := (fun k_ => (wb.heap.size ≤ k_) ∧ k_ ≠ g ∧ k_ ≠ gx ∧ k_ ≠ gy ∧ k_ ≠ gb637 ∧ k_ ≠ gb638)) (Kd.V_mono (zv HL645_2) (fun _ hk => ⟨⟨hk.1.1.1.1, ⟨hk.1.1.1.2.1, ⟨hk.1.1.1.2.2.1, ⟨hk.1.1.1.2.2.2, ⟨hk.1.1.2, hk.1.2⟩⟩⟩⟩⟩, hk.2⟩)) hg hat)
 replace HB := zm (below_weaken (zj106 HB) HL.out hb)
 replace HK := zm (KeepBut.trans (zk HK) (KeepBut.of_grown hg g) (Kd.N_base2 HO1_1.out))
 have HO648 := zm (ho)
 clear HO1_1
 clear ho hb hg hat
 obtain ⟨Ao28, co28, eo28⟩ := Kd.N_slice HO648.out
 (first | subst eo28 | (injection eo28 with f1_ f2_ f3_; have f4_ := f1_.symm; have f5_ := f3_.symm; clear f1_ f2_ f3_; subst f4_; subst f5_))
 refine hK.out _ _ ?_
 clear hK K
 refine norm_ zac ?_
 refine zpu HT_ 9 133 (fl13_ 11 1023) ?_
 refine last_ (i := 10) (N := none) (fl13_ 11 2047) rfl rfl (one_of HT_.out (by kernel_rfl)) (by decide) (fun K hK => ?_)
 have hs29 : w27.cell? ⟨gb637, 1, none⟩ = some (.slice (some ad645) l1_1.length co35) := zd BK637 1
 have hfs29 := blk_frozen BK637.out 1
 have hns29_0 := NB990_637.out
 have hns29_1 := NB991_637.out
 have hns29_3 := NB638_637.out
 have hms29_0 := NB637_990.out
 have hms29_1 := NB637_991.out
 have hms29_3 := NB637_638.out
 refine skip_ (w1 := ?_) (by rfl) rfl ?_ ?_
 rotate_left
 ·go_simp
  rfl
 refine hK.out _ _ ?_
 clear hK K
 refine done_ (done_of HT_.out (by kernel_rfl)) ?_
 obtain ⟨⟨_, _⟩, _, _⟩ := zc2 BK637
 obtain ⟨_, _⟩ := zne NB638_990
 obtain ⟨_, _⟩ := zne NB638_991
 obtain ⟨_, _⟩ := zne NB638_0
 obtain ⟨⟨_, _⟩, _, _⟩ := zc2 BK638
 try go_wp2
 refine bodyPost_ret (results_cell_row rfl _ _ gb638 31 #[.string a1_0, .slice Ao28 y646.length co28] (0, 0) _ rfl (zp BK638) Try.underlying31 rfl (by kernel_rfl)) rfl ?_
 exact ⟨_, zre, zxN (Kd.N_mono (zfN gb638 1 (zfN gb638 0 (Kd.N_far (p := ⟨gb637, 1, none⟩) (Kd.N_mono (Kd.N_mono HO648.out (fun k_ hk => (⟨hk, hk.2.2.2.1⟩ : _ ∧ k_ ≠ gb637))) (fun k_ hk => (⟨hk, hk.1.2.2.2.2.1⟩ : _ ∧ k_ ≠ gb638))) (fun _ hk => hk.1.2) (.slice Ao28 y646.length co28)) (.string a1_0)) (.slice Ao28 y646.length co28)) (fun _ hk => ⟨hk.1.1.1, ⟨hk.1.1.2.1, hk.1.1.2.2.1⟩⟩)), zi106 HI0, zj106 HB, zk HK, zp BK990, zp BK991⟩
/-! both ways together -/
def F33.f (k : Nat) (s0_0 : List Int) (s0_1 : Int) (s0_2 : Int) (a1_0 : ByteArray) (l1_1 : List (S66)) : Option (ByteArray × (List (S66)) × Int × Int) := match F26.f s0_0 s0_1 s0_2 a1_0 l1_1 with | some r => some r | none => F6.f k s0_0 s0_1 s0_2 a1_0 l1_1
theorem F33.mono : ∀ a0 a1 a2 a3 a4 k, LeO (F33.f k a0 a1 a2 a3 a4) (F33.f (k + 1) a0 a1 a2 a3 a4) := by
 intro a0 a1 a2 a3 a4 k
 unfold F33.f
 cases F26.f a0 a1 a2 a3 a4 with
 | some r => exact LeO.refl _
 | none => exact F6.mono _ _ _ _ _ _
theorem F33.calls (k : Nat) (g : Nat) (s0_0 : List Int) (s0_1 : Int) (s0_2 : Int) (a1_0 : ByteArray) (u9000_ : Value) (l1_1 : List (S66)) (r1 : ByteArray) (r2 : List (S66)) (r3 : Int) (r4 : Int) (w0 w : World) (gx : Nat) (csx : Array Value) (hbx : w.heap[gx]? = some (.cells csx 47 (0, 0))) (gy : Nat) (csy : Array Value) (hby : w.heap[gy]? = some (.cells csy 47 (0, 0))) (hI : IsS106 w0 w g s0_0 s0_1 s0_2) (hB : Below w0.heap.size w0 w) (ho : Kd.S k66 66 w w0.heap.size (fun k_ => k_ ≠ g ∧ k_ ≠ gx ∧ k_ ≠ gy) u9000_ l1_1) (h : F33.f k s0_0 s0_1 s0_2 a1_0 l1_1 = some (r1, r2, r3, r4)) :
 Calls Try.prog 57 #[.pointer (some ⟨g, 0, none⟩), .agg #[.string a1_0, u9000_]] w fun e w' => ∃ v1_ : Value, e = .returned (.agg #[.string r1, v1_]) ∧ Kd.N k66 66 w' w0.heap.size (fun k_ => (w0.heap.size ≤ k_) ∧ k_ ≠ gx ∧ k_ ≠ gy) v1_ r2 ∧ IsS106 w0 w' g s0_0 r3 r4 ∧ Below w0.heap.size w0 w' ∧ KeepBut w0 w' g none ∧ w'.heap[gx]? = some (.cells csx 47 (0, 0)) ∧ w'.heap[gy]? = some (.cells csy 47 (0, 0)) := by
 have hK0 : KeepBut w0 w g none := ⟨hB.size, fun i hi _ _ => hB.block i hi⟩
 unfold F33.f at h
 cases c : F26.f s0_0 s0_1 s0_2 a1_0 l1_1 with
 | some r =>
  rw [c] at h
  exact F26.calls g s0_0 s0_1 s0_2 a1_0 u9000_ l1_1 r1 r2 r3 r4 w0 w0 w (Nat.le_refl _) hK0 gx csx hbx gy csy hby hI hB (Kd.N_mono (Kd.S_N (Kd.S_bound ho)) (fun _ hk => ⟨hk.2.1, hk.1⟩)) (c.trans h)
 | none =>
  rw [c] at h
  refine (F6.calls k g s0_0 s0_1 s0_2 a1_0 u9000_ l1_1 r1 r2 r3 r4 w0 w0 w (Nat.le_refl _) hK0 gx csx hbx gy csy hby hI hB (Kd.S_mono ho (fun _ hk => hk.2)) h).mono ?_
  rintro e w' ⟨v, he, hs, hr⟩
  exact ⟨v, he, Kd.N_mono (Kd.S_N (Kd.S_bound hs)) (fun _ hk => ⟨hk.2.1, hk.1⟩), hr⟩

end Go.Proofs.Ytnpdmleglcbobaa.XFnLog
