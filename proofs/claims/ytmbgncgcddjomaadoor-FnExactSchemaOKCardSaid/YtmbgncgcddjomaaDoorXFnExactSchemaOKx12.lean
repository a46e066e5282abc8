-- A printed text of this session (wip/x/xprint.py).
import Derived.Test.YtmbgncgcddjomaaDoorXFnExactSchemaOKx0
import Derived.Test.YtmbgncgcddjomaaDoorXFnExactSchemaOKx11
namespace Go.Proofs.YtmbgncgcddjomaaDoor.XFnExactSchemaOK
open Go.RowKit Go.Proofs.YtmbgncgcddjomaaDoorW.PrintWords Go.Proofs.YtmbgncgcddjomaaDoorW.PrintLast Go.Proofs.YtmbgncgcddjomaaDoorW.PrintMore
attribute [local go_sem] max2_int min2_int max_two min_two max_three min_three max_four min_four   -- for this text's walks alone
set_option linter.unusedVariables false
set_option linter.unusedSimpArgs false
def fl12_ (n m : Nat) : Array Bool := ((List.range n).map fun i => m.testBit i).toArray

/-! ### laws_eqFieldDefS: function 18 -/
def laws_eqFieldDefS.l0 : Nat → List (S39) → List (S39) → Int → Option (Bool)
 | 0, _, _, _ => none
 | k + 1, x0, x1, x5 => if x5 < (x0.length : Int) then (if 0 ≤ x5 then (if x5 < (x1.length : Int) then ((laws_eqFieldDef.f k ((rd_T39 x0 x5).f0) ((rd_T39 x0 x5).f1) ((rd_T39 x0 x5).f2.f0) ((rd_T39 x0 x5).f2.f1) ((rd_T39 x0 x5).f2.f2) ((rd_T39 x0 x5).f2.f3) ((rd_T39 x0 x5).f2.f4) ((rd_T39 x0 x5).f2.f5) ((rd_T39 x0 x5).f2.f6) ((rd_T39 x1 x5).f0) ((rd_T39 x1 x5).f1) ((rd_T39 x1 x5).f2.f0) ((rd_T39 x1 x5).f2.f1) ((rd_T39 x1 x5).f2.f2) ((rd_T39 x1 x5).f2.f3) ((rd_T39 x1 x5).f2.f4) ((rd_T39 x1 x5).f2.f5) ((rd_T39 x1 x5).f2.f6)).bind fun t265 => (if t265 = true then (laws_eqFieldDefS.l0 k x0 x1 (wrap64 (x5 + 1))) else (some false))) else (none)) else (none)) else (some true)
def laws_eqFieldDefS.f (k : Nat) (l0 : List (S39)) (l1 : List (S39)) : Option (Bool) := if (l0.length : Int) = (l1.length : Int) then (laws_eqFieldDefS.l0 k l0 l1 0) else (some false)
theorem laws_eqFieldDefS.mono_l : ∀ k, (∀ y0 y1 y2, LeO (laws_eqFieldDefS.l0 k y0 y1 y2) (laws_eqFieldDefS.l0 (k + 1) y0 y1 y2))
 | 0 => fun _ _ _ r h => by simp [laws_eqFieldDefS.l0] at h
 | k + 1 => by
  have ih0 := laws_eqFieldDefS.mono_l k
  ·intro y0 y1 y2
   unfold laws_eqFieldDefS.l0
   repeat' first
   | (with_reducible exact ih0 _ _ _)
   | (with_reducible exact laws_eqFieldDef.mono _ _ _ _ _ _ _ _ _ _ _ _ _ _ _ _ _ _ _)
   | (with_reducible exact LeO.refl _)
   | (with_reducible exact LeO.none _)
   | (with_reducible refine LeO.ite ?_ ?_)
   | (with_reducible refine LeO.bind ?_ (fun _ => ?_))
theorem laws_eqFieldDefS.mono : ∀ a0 a1 k, LeO (laws_eqFieldDefS.f k a0 a1) (laws_eqFieldDefS.f (k + 1) a0 a1) := by
 intro a0 a1 k
 have ih0 := laws_eqFieldDefS.mono_l k
 unfold laws_eqFieldDefS.f
 repeat' first
  | (with_reducible exact ih0 _ _ _)
  | (with_reducible exact laws_eqFieldDef.mono _ _ _ _ _ _ _ _ _ _ _ _ _ _ _ _ _ _ _)
  | (with_reducible exact LeO.refl _)
  | (with_reducible exact LeO.none _)
  | (with_reducible refine LeO.ite ?_ ?_)
  | (with_reducible refine LeO.bind ?_ (fun _ => ?_))
def laws_eqFieldDefS.T6 : Bool × List (List Nat × List Nat) := (true, [([], []), ([], []), ([0, 1], [0, 1]), ([2], [2]), ([], []), ([], []), ([4, 5], [4, 5]), ([6], [6]), ([3, 7], [3, 7]), ([8], [8])])
def laws_eqFieldDefS.B6 : List Nat := [0, 0, 3, 7, 0, 0, 48, 112, 255, 511]
theorem laws_eqFieldDefS.tab6 : rtab .any (opsOf Tryd.f18 6) = laws_eqFieldDefS.T6 := by kernel_rfl
theorem laws_eqFieldDefS.bits6 : waitsOk laws_eqFieldDefS.T6.2 laws_eqFieldDefS.B6 = true := by kernel_rfl
set_option maxHeartbeats 8000000 in
set_option maxRecDepth 100000 in
theorem laws_eqFieldDefS.calls (k : Nat) (A0 : Option Addr) (c0 : Nat) (l0 : List (S39)) (A1 : Option Addr) (c1 : Nat) (l1 : List (S39)) (r : Bool) (w : World) (hr0 : Kd.C k39 w A0 l0.length l0) (hc0 : l0.length ≤ c0) (hr1 : Kd.C k39 w A1 l1.length l1) (hc1 : l1.length ≤ c1) (h : laws_eqFieldDefS.f k l0 l1 = some r) :
 Calls Tryd.prog 18 #[.slice A0 l0.length c0, .slice A1 l1.length c1] w fun e w' => e = .returned (.bool r) ∧ Below w.heap.size w w' := by
 have hu39 := Tryd.underlying39
 have HR0 := Aside0.mk hr0
 have HC0 := Aside0.mk hc0
 clear hr0 hc0
 have HR1 := Aside0.mk hr1
 have HC1 := Aside0.mk hc1
 clear hr1 hc1
 have HB := Aside0.mk (Below.refl w.heap.size w)
 have H := h
 unfold laws_eqFieldDefS.f at H
 clear h
 by_cases c3 : (l0.length : Int) = (l1.length : Int)
 rotate_left
 ·rw [if_neg c3] at H
  have c3b0 : ((l0.length : Int) == (l1.length : Int)) = false := beq_eq_false_iff_ne.mpr c3
  have c3b1 : ((l0.length : Int) != (l1.length : Int)) = true := bne_iff_ne.mpr c3
  have c3b2 : (l0.length == l1.length) = false := by first | simpa using c3 | (simp at c3 ⊢; omega)
  obtain rfl := Option.some.inj H
  go_enter Tryd.func18, Tryd.ntmps18
  go_wp2
  go_ret
  exact ⟨zre, zh HB⟩

 rw [if_pos c3] at H
 have c3b0 : ((l0.length : Int) == (l1.length : Int)) = true := beq_iff_eq.mpr c3
 have c3b1 : ((l0.length : Int) != (l1.length : Int)) = false := bne_eq_false_iff_eq.mpr c3
 have c3b2 : (l0.length == l1.length) = true := by first | simpa using c3 | (simp at c3 ⊢; omega)
 clear c3
 have H' := Aside0.mk H
 clear H
 go_enter Tryd.func18, Tryd.ntmps18
 go_wp2
 go_loopg [5] k (fun kq v5 w' => ∃ (x5_1 : Int), v5 = .int .i64 x5_1 ∧ Aside0 (laws_eqFieldDefS.l0 kq l0 l1 x5_1 = some r) ∧ Aside0 (kq ≤ k) ∧ Aside0 (Below w.heap.size w w'))
 case atStart => exact ⟨(0), zrs, H', ⟨Nat.le_refl _⟩, ⟨zh HB⟩⟩
 case round =>
  clear H'
  try clear c1
  try clear c3
  try clear c3b0
  try clear c3b1
  try clear c3b2
  obtain ⟨x5_1, rfl, HA, HK1, HB⟩ := hrel
  cases gk with
  | zero => exact absurd HA.out (by simp [laws_eqFieldDefS.l0])
  | succ k1 =>
   have H := HA.out
   clear HA
   simp only [laws_eqFieldDefS.l0] at H
   by_cases c4 : x5_1 < (l0.length : Int)
   rotate_left
   ·rw [if_neg c4] at H
    have c4b0 : decide (x5_1 < (l0.length : Int)) = false := decide_eq_false c4
    clear c4
    obtain rfl := Option.some.inj H
    go_wp2
    go_ret
    exact ⟨zre, zh HB⟩
   rw [if_pos c4] at H
   have c4b0 : decide (x5_1 < (l0.length : Int)) = true := decide_eq_true c4
   clear c4
   by_cases c5 : 0 ≤ x5_1
   rotate_left
   ·rw [if_neg c5] at H
    exact absurd H (by simp)
   rw [if_pos c5] at H
   have c5b0 : decide (0 ≤ x5_1) = true := decide_eq_true c5
   clear c5
   by_cases c6 : x5_1 < (l1.length : Int)
   rotate_left
   ·rw [if_neg c6] at H
    exact absurd H (by simp)
   rw [if_pos c6] at H
   have c6b0 : decide (x5_1 < (l1.length : Int)) = true := decide_eq_true c6
   clear c6
   replace H := Option.bind_eq_some_iff.mp H
   obtain ⟨t265, A70, H⟩ := H
   try dsimp only at H
   have A7 := Aside0.mk A70
   clear A70
   by_cases c8 : t265 = true
   rotate_left
   ·replace c8 := Bool.eq_false_iff.mpr c8
    subst c8
    rw [if_neg (show ¬ (false = true) by decide)] at H
    obtain rfl := Option.some.inj H
    try go_wp2
    replace HB := Aside0.mk (below_drew1 HB.out)
    have p263 : 0 ≤ (x5_1 : Int) := of_decide_eq_true zas
    have q263 : x5_1 < (l0.length : Int) := of_decide_eq_true zas
    obtain ⟨ad263, A263_5, c263_5, A263_6, c263_6, e263, hx263_0, hx263_1, hx263_2, hx263_3, hx263_4, hx263_5, hx263_6, hx263_7, hx263_8, hl263_5, hi263_5, hl263_6, hi263_6⟩ := at_T39 HR0.out x5_1 p263 q263
    have hw263_8 := hx263_8
    have hw263_7 := hx263_7
    have hw263_6 := hx263_6
    have hw263_5 := hx263_5
    have hw263_4 := hx263_4
    have hw263_3 := hx263_3
    have hw263_2 := hx263_2
    have hw263_1 := hx263_1
    have hw263_0 := hx263_0
    cases e263
    replace hx263_0 := zx HB hx263_0
    replace hx263_1 := zx HB hx263_1
    replace hx263_2 := zx HB hx263_2
    replace hx263_3 := zx HB hx263_3
    replace hx263_4 := zx HB hx263_4
    replace hx263_5 := zx HB hx263_5
    replace hx263_6 := zx HB hx263_6
    replace hx263_7 := zx HB hx263_7
    replace hx263_8 := zx HB hx263_8
    have HR263_5 := Aside0.mk hi263_5
    have HC263_5 := Aside0.mk hl263_5
    clear hi263_5 hl263_5
    have HR263_6 := Aside0.mk hi263_6
    have HC263_6 := Aside0.mk hl263_6
    clear hi263_6 hl263_6
    replace p263 := eq_true p263
    replace q263 := eq_true q263
    have p264 : 0 ≤ (x5_1 : Int) := of_decide_eq_true zas
    have q264 : x5_1 < (l1.length : Int) := of_decide_eq_true zas
    obtain ⟨ad264, A264_5, c264_5, A264_6, c264_6, e264, hx264_0, hx264_1, hx264_2, hx264_3, hx264_4, hx264_5, hx264_6, hx264_7, hx264_8, hl264_5, hi264_5, hl264_6, hi264_6⟩ := at_T39 HR1.out x5_1 p264 q264
    have hw264_8 := hx264_8
    have hw264_7 := hx264_7
    have hw264_6 := hx264_6
    have hw264_5 := hx264_5
    have hw264_4 := hx264_4
    have hw264_3 := hx264_3
    have hw264_2 := hx264_2
    have hw264_1 := hx264_1
    have hw264_0 := hx264_0
    cases e264
    replace hx264_0 := zx HB hx264_0
    replace hx264_1 := zx HB hx264_1
    replace hx264_2 := zx HB hx264_2
    replace hx264_3 := zx HB hx264_3
    replace hx264_4 := zx HB hx264_4
    replace hx264_5 := zx HB hx264_5
    replace hx264_6 := zx HB hx264_6
    replace hx264_7 := zx HB hx264_7
    replace hx264_8 := zx HB hx264_8
    have HR264_5 := Aside0.mk hi264_5
    have HC264_5 := Aside0.mk hl264_5
    clear hi264_5 hl264_5
    have HR264_6 := Aside0.mk hi264_6
    have HC264_6 := Aside0.mk hl264_6
    clear hi264_6 hl264_6
    replace p264 := eq_true p264
    replace q264 := eq_true q264
    refine start_ (n := 10) (S := fun w' => w'.cell? (ad263.add ((x5_1).toNat * 9)) = some (.string ((rd_T39 l0 x5_1).f0)) ∧ w'.cell? ⟨(ad263.add ((x5_1).toNat * 9)).block, (ad263.add ((x5_1).toNat * 9)).off + 1, none⟩ = some (.int .i64 ((rd_T39 l0 x5_1).f1)) ∧ w'.cell? ⟨(ad263.add ((x5_1).toNat * 9)).block, (ad263.add ((x5_1).toNat * 9)).off + 2, none⟩ = some (.bool ((rd_T39 l0 x5_1).f2.f0)) ∧ w'.cell? ⟨(ad263.add ((x5_1).toNat * 9)).block, (ad263.add ((x5_1).toNat * 9)).off + 3, none⟩ = some (.bool ((rd_T39 l0 x5_1).f2.f1)) ∧ w'.cell? ⟨(ad263.add ((x5_1).toNat * 9)).block, (ad263.add ((x5_1).toNat * 9)).off + 4, none⟩ = some (.bool ((rd_T39 l0 x5_1).f2.f2)) ∧ w'.cell? ⟨(ad263.add ((x5_1).toNat * 9)).block, (ad263.add ((x5_1).toNat * 9)).off + 5, none⟩ = some (.slice A263_5 ((rd_T39 l0 x5_1).f2.f3).length c263_5) ∧ w'.cell? ⟨(ad263.add ((x5_1).toNat * 9)).block, (ad263.add ((x5_1).toNat * 9)).off + 6, none⟩ = some (.slice A263_6 ((rd_T39 l0 x5_1).f2.f4).length c263_6) ∧ w'.cell? ⟨(ad263.add ((x5_1).toNat * 9)).block, (ad263.add ((x5_1).toNat * 9)).off + 7, none⟩ = some (.int .i64 ((rd_T39 l0 x5_1).f2.f5)) ∧ w'.cell? ⟨(ad263.add ((x5_1).toNat * 9)).block, (ad263.add ((x5_1).toNat * 9)).off + 8, none⟩ = some (.int .i64 ((rd_T39 l0 x5_1).f2.f6)) ∧ w'.cell? (ad264.add ((x5_1).toNat * 9)) = some (.string ((rd_T39 l1 x5_1).f0)) ∧ w'.cell? ⟨(ad264.add ((x5_1).toNat * 9)).block, (ad264.add ((x5_1).toNat * 9)).off + 1, none⟩ = some (.int .i64 ((rd_T39 l1 x5_1).f1)) ∧ w'.cell? ⟨(ad264.add ((x5_1).toNat * 9)).block, (ad264.add ((x5_1).toNat * 9)).off + 2, none⟩ = some (.bool ((rd_T39 l1 x5_1).f2.f0)) ∧ w'.cell? ⟨(ad264.add ((x5_1).toNat * 9)).block, (ad264.add ((x5_1).toNat * 9)).off + 3, none⟩ = some (.bool ((rd_T39 l1 x5_1).f2.f1)) ∧ w'.cell? ⟨(ad264.add ((x5_1).toNat * 9)).block, (ad264.add ((x5_1).toNat * 9)).off + 4, none⟩ = some (.bool ((rd_T39 l1 x5_1).f2.f2)) ∧ w'.cell? ⟨(ad264.add ((x5_1).toNat * 9)).block, (ad264.add ((x5_1).toNat * 9)).off + 5, none⟩ = some (.slice A264_5 ((rd_T39 l1 x5_1).f2.f3).length c264_5) ∧ w'.cell? ⟨(ad264.add ((x5_1).toNat * 9)).block, (ad264.add ((x5_1).toNat * 9)).off + 6, none⟩ = some (.slice A264_6 ((rd_T39 l1 x5_1).f2.f4).length c264_6) ∧ w'.cell? ⟨(ad264.add ((x5_1).toNat * 9)).block, (ad264.add ((x5_1).toNat * 9)).off + 7, none⟩ = some (.int .i64 ((rd_T39 l1 x5_1).f2.f5)) ∧ w'.cell? ⟨(ad264.add ((x5_1).toNat * 9)).block, (ad264.add ((x5_1).toNat * 9)).off + 8, none⟩ = some (.int .i64 ((rd_T39 l1 x5_1).f2.f6))) (ds := []) (fl12_ 10 0) (by kernel_rfl) rfl rfl ⟨(zxx HB hw263_0), (zxx HB hw263_1), (zxx HB hw263_2), (zxx HB hw263_3), (zxx HB hw263_4), (zxx HB hw263_5), (zxx HB hw263_6), (zxx HB hw263_7), (zxx HB hw263_8), (zxx HB hw264_0), (zxx HB hw264_1), (zxx HB hw264_2), (zxx HB hw264_3), (zxx HB hw264_4), (zxx HB hw264_5), (zxx HB hw264_6), (zxx HB hw264_7), (zxx HB hw264_8)⟩ (fun hHeld => ?_); refine with_tabW laws_eqFieldDefS.tab6 laws_eqFieldDefS.bits6 (fun HT_ HW_ => ?_)
    generalize wr.drew = w12 at HB HR263_5 HR263_6 HR264_5 HR264_6 hx263_0 hx263_1 hx263_2 hx263_3 hx263_4 hx263_5 hx263_6 hx263_7 hx263_8 hx264_0 hx264_1 hx264_2 hx264_3 hx264_4 hx264_5 hx264_6 hx264_7 hx264_8 hHeld ⊢
    refine zpu HT_ 0 17 (fl12_ 10 1) ?_
    refine zpu HT_ 1 18 (fl12_ 10 3) ?_
    refine zpu HT_ 2 19 (fl12_ 10 7) ?_
    refine zpu HT_ 4 21 (fl12_ 10 23) ?_
    refine zpu HT_ 5 22 (fl12_ 10 55) ?_
    refine zpu HT_ 6 23 (fl12_ 10 119) ?_
    refine take_ (i := 3) (N := some 20) (v := ?_) (a' := ?_) (fl12_ 10 127) rfl rfl (take_ofW HT_.out HW_.out (by kernel_rfl)) (fun _ _ _ h => h) (Or.inl ⟨by rfl, ?_⟩) hHeld ?_ ?_
    rotate_left
    ·rintro w' ⟨s0, s1, s2, s3, s4, s5, s6, s7, s8, s9, s10, s11, s12, s13, s14, s15, s16, s17⟩
     go_simp
     with_reducible rfl
    rotate_left
    ·simp only [Act.put, List.setIfInBounds_toArray, List.set_cons_zero, List.set_cons_succ, i64_w, i32_w]
     rfl
    refine take_ (i := 7) (N := some 24) (v := ?_) (a' := ?_) (fl12_ 10 255) rfl rfl (take_ofW HT_.out HW_.out (by kernel_rfl)) (fun _ _ _ h => h) (Or.inl ⟨by rfl, ?_⟩) hHeld ?_ ?_
    rotate_left
    ·rintro w' ⟨s0, s1, s2, s3, s4, s5, s6, s7, s8, s9, s10, s11, s12, s13, s14, s15, s16, s17⟩
     go_simp
     with_reducible rfl
    rotate_left
    ·simp only [Act.put, List.setIfInBounds_toArray, List.set_cons_zero, List.set_cons_succ, i64_w, i32_w]
     rfl
    refine one_ (i := 8) (N := some 25) (fl12_ 10 511) rfl rfl (one_of HT_.out (by kernel_rfl)) (by decide) (fun K hK => ?_)
    refine goes_ Tryd.func25 (by kernel_rfl) rfl #[.agg #[.string ((rd_T39 l0 x5_1).f0), .int .i64 ((rd_T39 l0 x5_1).f1), .bool ((rd_T39 l0 x5_1).f2.f0), .bool ((rd_T39 l0 x5_1).f2.f1), .bool ((rd_T39 l0 x5_1).f2.f2), .slice A263_5 ((rd_T39 l0 x5_1).f2.f3).length c263_5, .slice A263_6 ((rd_T39 l0 x5_1).f2.f4).length c263_6, .int .i64 ((rd_T39 l0 x5_1).f2.f5), .int .i64 ((rd_T39 l0 x5_1).f2.f6)], .agg #[.string ((rd_T39 l1 x5_1).f0), .int .i64 ((rd_T39 l1 x5_1).f1), .bool ((rd_T39 l1 x5_1).f2.f0), .bool ((rd_T39 l1 x5_1).f2.f1), .bool ((rd_T39 l1 x5_1).f2.f2), .slice A264_5 ((rd_T39 l1 x5_1).f2.f3).length c264_5, .slice A264_6 ((rd_T39 l1 x5_1).f2.f4).length c264_6, .int .i64 ((rd_T39 l1 x5_1).f2.f5), .int .i64 ((rd_T39 l1 x5_1).f2.f6)]] (by rfl) rfl rfl zar ?_
    with_reducible refine (laws_eqFieldDef.calls k1 ((rd_T39 l0 x5_1).f0) ((rd_T39 l0 x5_1).f1) ((rd_T39 l0 x5_1).f2.f0) ((rd_T39 l0 x5_1).f2.f1) ((rd_T39 l0 x5_1).f2.f2) _ _ ((rd_T39 l0 x5_1).f2.f3) _ _ ((rd_T39 l0 x5_1).f2.f4) ((rd_T39 l0 x5_1).f2.f5) ((rd_T39 l0 x5_1).f2.f6) ((rd_T39 l1 x5_1).f0) ((rd_T39 l1 x5_1).f1) ((rd_T39 l1 x5_1).f2.f0) ((rd_T39 l1 x5_1).f2.f1) ((rd_T39 l1 x5_1).f2.f2) _ _ ((rd_T39 l1 x5_1).f2.f3) _ _ ((rd_T39 l1 x5_1).f2.f4) ((rd_T39 l1 x5_1).f2.f5) ((rd_T39 l1 x5_1).f2.f6) false _ ?side1 ?side2 ?side3 ?side4 ?side5 ?side6 ?side7 ?side8 A7.out).mono ?_
    (case side1 => exact zC (Kd.C_below HR263_5.out HB.out))
    (case side2 => exact HC263_5.out)
    (case side3 => exact zC (Kd.C_below HR263_6.out HB.out))
    (case side4 => exact HC263_6.out)
    (case side5 => exact zC (Kd.C_below HR264_5.out HB.out))
    (case side6 => exact HC264_5.out)
    (case side7 => exact zC (Kd.C_below HR264_6.out HB.out))
    (case side8 => exact HC264_6.out)
    rintro e w13 ⟨rfl, hb⟩
    refine ⟨_, rfl, ?_⟩
    replace HB := Aside0.mk (below_step (zh HB) hb)
    (try clear hb)
    (try clear hb2)
    (try clear hk)
    (try clear hi)
    refine hK.out _ _ ⟨(zxx HB hw263_0), (zxx HB hw263_1), (zxx HB hw263_2), (zxx HB hw263_3), (zxx HB hw263_4), (zxx HB hw263_5), (zxx HB hw263_6), (zxx HB hw263_7), (zxx HB hw263_8), (zxx HB hw264_0), (zxx HB hw264_1), (zxx HB hw264_2), (zxx HB hw264_3), (zxx HB hw264_4), (zxx HB hw264_5), (zxx HB hw264_6), (zxx HB hw264_7), (zxx HB hw264_8)⟩ (fun hHeld => ?_)
    clear hK K
    refine norm_ (a' := ?_) ?_ ?_
    rotate_left
    ·show Act.put _ (some 25) _ = _
     simp only [Act.put, List.setIfInBounds_toArray, List.set_cons_zero, List.set_cons_succ, i64_w, i32_w]
     rfl
    refine zpu HT_ 9 26 (fl12_ 10 1023) ?_
    refine done_ (done_of HT_.out (by kernel_rfl)) ?_
    try go_wp2
    go_ret
    exact ⟨zre, zh HB⟩
   subst c8
   rw [if_pos rfl] at H
   have H' := Aside0.mk H
   clear H
   try go_wp2
   replace HB := Aside0.mk (below_drew1 HB.out)
   have p263 : 0 ≤ (x5_1 : Int) := of_decide_eq_true zas
   have q263 : x5_1 < (l0.length : Int) := of_decide_eq_true zas
   obtain ⟨ad263, A263_5, c263_5, A263_6, c263_6, e263, hx263_0, hx263_1, hx263_2, hx263_3, hx263_4, hx263_5, hx263_6, hx263_7, hx263_8, hl263_5, hi263_5, hl263_6, hi263_6⟩ := at_T39 HR0.out x5_1 p263 q263
   have hw263_8 := hx263_8
   have hw263_7 := hx263_7
   have hw263_6 := hx263_6
   have hw263_5 := hx263_5
   have hw263_4 := hx263_4
   have hw263_3 := hx263_3
   have hw263_2 := hx263_2
   have hw263_1 := hx263_1
   have hw263_0 := hx263_0
   cases e263
   replace hx263_0 := zx HB hx263_0
   replace hx263_1 := zx HB hx263_1
   replace hx263_2 := zx HB hx263_2
   replace hx263_3 := zx HB hx263_3
   replace hx263_4 := zx HB hx263_4
   replace hx263_5 := zx HB hx263_5
   replace hx263_6 := zx HB hx263_6
   replace hx263_7 := zx HB hx263_7
   replace hx263_8 := zx HB hx263_8
   have HR263_5 := Aside0.mk hi263_5
   have HC263_5 := Aside0.mk hl263_5
   clear hi263_5 hl263_5
   have HR263_6 := Aside0.mk hi263_6
   have HC263_6 := Aside0.mk hl263_6
   clear hi263_6 hl263_6
   replace p263 := eq_true p263
   replace q263 := eq_true q263
   have p264 : 0 ≤ (x5_1 : Int) := of_decide_eq_true zas
   have q264 : x5_1 < (l1.length : Int) := of_decide_eq_true zas
   obtain ⟨ad264, A264_5, c264_5, A264_6, c264_6, e264, hx264_0, hx264_1, hx264_2, hx264_3, hx264_4, hx264_5, hx264_6, hx264_7, hx264_8, hl264_5, hi264_5, hl264_6, hi264_6⟩ := at_T39 HR1.out x5_1 p264 q264
   have hw264_8 := hx264_8
   have hw264_7 := hx264_7
   have hw264_6 := hx264_6
   have hw264_5 := hx264_5
   have hw264_4 := hx264_4
   have hw264_3 := hx264_3
   have hw264_2 := hx264_2
   have hw264_1 := hx264_1
   have hw264_0 := hx264_0
   cases e264
   replace hx264_0 := zx HB hx264_0
   replace hx264_1 := zx HB hx264_1
   replace hx264_2 := zx HB hx264_2
   replace hx264_3 := zx HB hx264_3
   replace hx264_4 := zx HB hx264_4
   replace hx264_5 := zx HB hx264_5
   replace hx264_6 := zx HB hx264_6
   replace hx264_7 := zx HB hx264_7
   replace hx264_8 := zx HB hx264_8
   have HR264_5 := Aside0.mk hi264_5
   have HC264_5 := Aside0.mk hl264_5
   clear hi264_5 hl264_5
   have HR264_6 := Aside0.mk hi264_6
   have HC264_6 := Aside0.mk hl264_6
   clear hi264_6 hl264_6
   replace p264 := eq_true p264
   replace q264 := eq_true q264
   refine start_ (n := 10) (S := fun w' => w'.cell? (ad263.add ((x5_1).toNat * 9)) = some (.string ((rd_T39 l0 x5_1).f0)) ∧ w'.cell? ⟨(ad263.add ((x5_1).toNat * 9)).block, (ad263.add ((x5_1).toNat * 9)).off + 1, none⟩ = some (.int .i64 ((rd_T39 l0 x5_1).f1)) ∧ w'.cell? ⟨(ad263.add ((x5_1).toNat * 9)).block, (ad263.add ((x5_1).toNat * 9)).off + 2, none⟩ = some (.bool ((rd_T39 l0 x5_1).f2.f0)) ∧ w'.cell? ⟨(ad263.add ((x5_1).toNat * 9)).block, (ad263.add ((x5_1).toNat * 9)).off + 3, none⟩ = some (.bool ((rd_T39 l0 x5_1).f2.f1)) ∧ w'.cell? ⟨(ad263.add ((x5_1).toNat * 9)).block, (ad263.add ((x5_1).toNat * 9)).off + 4, none⟩ = some (.bool ((rd_T39 l0 x5_1).f2.f2)) ∧ w'.cell? ⟨(ad263.add ((x5_1).toNat * 9)).block, (ad263.add ((x5_1).toNat * 9)).off + 5, none⟩ = some (.slice A263_5 ((rd_T39 l0 x5_1).f2.f3).length c263_5) ∧ w'.cell? ⟨(ad263.add ((x5_1).toNat * 9)).block, (ad263.add ((x5_1).toNat * 9)).off + 6, none⟩ = some (.slice A263_6 ((rd_T39 l0 x5_1).f2.f4).length c263_6) ∧ w'.cell? ⟨(ad263.add ((x5_1).toNat * 9)).block, (ad263.add ((x5_1).toNat * 9)).off + 7, none⟩ = some (.int .i64 ((rd_T39 l0 x5_1).f2.f5)) ∧ w'.cell? ⟨(ad263.add ((x5_1).toNat * 9)).block, (ad263.add ((x5_1).toNat * 9)).off + 8, none⟩ = some (.int .i64 ((rd_T39 l0 x5_1).f2.f6)) ∧ w'.cell? (ad264.add ((x5_1).toNat * 9)) = some (.string ((rd_T39 l1 x5_1).f0)) ∧ w'.cell? ⟨(ad264.add ((x5_1).toNat * 9)).block, (ad264.add ((x5_1).toNat * 9)).off + 1, none⟩ = some (.int .i64 ((rd_T39 l1 x5_1).f1)) ∧ w'.cell? ⟨(ad264.add ((x5_1).toNat * 9)).block, (ad264.add ((x5_1).toNat * 9)).off + 2, none⟩ = some (.bool ((rd_T39 l1 x5_1).f2.f0)) ∧ w'.cell? ⟨(ad264.add ((x5_1).toNat * 9)).block, (ad264.add ((x5_1).toNat * 9)).off + 3, none⟩ = some (.bool ((rd_T39 l1 x5_1).f2.f1)) ∧ w'.cell? ⟨(ad264.add ((x5_1).toNat * 9)).block, (ad264.add ((x5_1).toNat * 9)).off + 4, none⟩ = some (.bool ((rd_T39 l1 x5_1).f2.f2)) ∧ w'.cell? ⟨(ad264.add ((x5_1).toNat * 9)).block, (ad264.add ((x5_1).toNat * 9)).off + 5, none⟩ = some (.slice A264_5 ((rd_T39 l1 x5_1).f2.f3).length c264_5) ∧ w'.cell? ⟨(ad264.add ((x5_1).toNat * 9)).block, (ad264.add ((x5_1).toNat * 9)).off + 6, none⟩ = some (.slice A264_6 ((rd_T39 l1 x5_1).f2.f4).length c264_6) ∧ w'.cell? ⟨(ad264.add ((x5_1).toNat * 9)).block, (ad264.add ((x5_1).toNat * 9)).off + 7, none⟩ = some (.int .i64 ((rd_T39 l1 x5_1).f2.f5)) ∧ w'.cell? ⟨(ad264.add ((x5_1).toNat * 9)).block, (ad264.add ((x5_1).toNat * 9)).off + 8, none⟩ = some (.int .i64 ((rd_T39 l1 x5_1).f2.f6))) (ds := []) (fl12_ 10 0) (by kernel_rfl) rfl rfl ⟨(zxx HB hw263_0), (zxx HB hw263_1), (zxx HB hw263_2), (zxx HB hw263_3), (zxx HB hw263_4), (zxx HB hw263_5), (zxx HB hw263_6), (zxx HB hw263_7), (zxx HB hw263_8), (zxx HB hw264_0), (zxx HB hw264_1), (zxx HB hw264_2), (zxx HB hw264_3), (zxx HB hw264_4), (zxx HB hw264_5), (zxx HB hw264_6), (zxx HB hw264_7), (zxx HB hw264_8)⟩ (fun hHeld => ?_); refine with_tabW laws_eqFieldDefS.tab6 laws_eqFieldDefS.bits6 (fun HT_ HW_ => ?_)
   generalize wr.drew = w9 at HB HR263_5 HR263_6 HR264_5 HR264_6 hx263_0 hx263_1 hx263_2 hx263_3 hx263_4 hx263_5 hx263_6 hx263_7 hx263_8 hx264_0 hx264_1 hx264_2 hx264_3 hx264_4 hx264_5 hx264_6 hx264_7 hx264_8 hHeld ⊢
   refine zpu HT_ 0 17 (fl12_ 10 1) ?_
   refine zpu HT_ 1 18 (fl12_ 10 3) ?_
   refine zpu HT_ 2 19 (fl12_ 10 7) ?_
   refine zpu HT_ 4 21 (fl12_ 10 23) ?_
   refine zpu HT_ 5 22 (fl12_ 10 55) ?_
   refine zpu HT_ 6 23 (fl12_ 10 119) ?_
   refine take_ (i := 3) (N := some 20) (v := ?_) (a' := ?_) (fl12_ 10 127) rfl rfl (take_ofW HT_.out HW_.out (by kernel_rfl)) (fun _ _ _ h => h) (Or.inl ⟨by rfl, ?_⟩) hHeld ?_ ?_
   rotate_left
   ·rintro w' ⟨s0, s1, s2, s3, s4, s5, s6, s7, s8, s9, s10, s11, s12, s13, s14, s15, s16, s17⟩
    go_simp
    with_reducible rfl
   rotate_left
   ·simp only [Act.put, List.setIfInBounds_toArray, List.set_cons_zero, List.set_cons_succ, i64_w, i32_w]
    rfl
   refine take_ (i := 7) (N := some 24) (v := ?_) (a' := ?_) (fl12_ 10 255) rfl rfl (take_ofW HT_.out HW_.out (by kernel_rfl)) (fun _ _ _ h => h) (Or.inl ⟨by rfl, ?_⟩) hHeld ?_ ?_
   rotate_left
   ·rintro w' ⟨s0, s1, s2, s3, s4, s5, s6, s7, s8, s9, s10, s11, s12, s13, s14, s15, s16, s17⟩
    go_simp
    with_reducible rfl
   rotate_left
   ·simp only [Act.put, List.setIfInBounds_toArray, List.set_cons_zero, List.set_cons_succ, i64_w, i32_w]
    rfl
   refine one_ (i := 8) (N := some 25) (fl12_ 10 511) rfl rfl (one_of HT_.out (by kernel_rfl)) (by decide) (fun K hK => ?_)
   refine goes_ Tryd.func25 (by kernel_rfl) rfl #[.agg #[.string ((rd_T39 l0 x5_1).f0), .int .i64 ((rd_T39 l0 x5_1).f1), .bool ((rd_T39 l0 x5_1).f2.f0), .bool ((rd_T39 l0 x5_1).f2.f1), .bool ((rd_T39 l0 x5_1).f2.f2), .slice A263_5 ((rd_T39 l0 x5_1).f2.f3).length c263_5, .slice A263_6 ((rd_T39 l0 x5_1).f2.f4).length c263_6, .int .i64 ((rd_T39 l0 x5_1).f2.f5), .int .i64 ((rd_T39 l0 x5_1).f2.f6)], .agg #[.string ((rd_T39 l1 x5_1).f0), .int .i64 ((rd_T39 l1 x5_1).f1), .bool ((rd_T39 l1 x5_1).f2.f0), .bool ((rd_T39 l1 x5_1).f2.f1), .bool ((rd_T39 l1 x5_1).f2.f2), .slice A264_5 ((rd_T39 l1 x5_1).f2.f3).length c264_5, .slice A264_6 ((rd_T39 l1 x5_1).f2.f4).length c264_6, .int .i64 ((rd_T39 l1 x5_1).f2.f5), .int .i64 ((rd_T39 l1 x5_1).f2.f6)]] (by rfl) rfl rfl zar ?_
   with_reducible refine (laws_eqFieldDef.calls k1 ((rd_T39 l0 x5_1).f0) ((rd_T39 l0 x5_1).f1) ((rd_T39 l0 x5_1).f2.f0) ((rd_T39 l0 x5_1).f2.f1) ((rd_T39 l0 x5_1).f2.f2) _ _ ((rd_T39 l0 x5_1).f2.f3) _ _ ((rd_T39 l0 x5_1).f2.f4) ((rd_T39 l0 x5_1).f2.f5) ((rd_T39 l0 x5_1).f2.f6) ((rd_T39 l1 x5_1).f0) ((rd_T39 l1 x5_1).f1) ((rd_T39 l1 x5_1).f2.f0) ((rd_T39 l1 x5_1).f2.f1) ((rd_T39 l1 x5_1).f2.f2) _ _ ((rd_T39 l1 x5_1).f2.f3) _ _ ((rd_T39 l1 x5_1).f2.f4) ((rd_T39 l1 x5_1).f2.f5) ((rd_T39 l1 x5_1).f2.f6) true _ ?side1 ?side2 ?side3 ?side4 ?side5 ?side6 ?side7 ?side8 A7.out).mono ?_
   (case side1 => exact zC (Kd.C_below HR263_5.out HB.out))
   (case side2 => exact HC263_5.out)
   (case side3 => exact zC (Kd.C_below HR263_6.out HB.out))
   (case side4 => exact HC263_6.out)
   (case side5 => exact zC (Kd.C_below HR264_5.out HB.out))
   (case side6 => exact HC264_5.out)
   (case side7 => exact zC (Kd.C_below HR264_6.out HB.out))
   (case side8 => exact HC264_6.out)
   rintro e w10 ⟨rfl, hb⟩
   refine ⟨_, rfl, ?_⟩
   replace HB := Aside0.mk (below_step (zh HB) hb)
   (try clear hb)
   (try clear hb2)
   (try clear hk)
   (try clear hi)
   refine hK.out _ _ ⟨(zxx HB hw263_0), (zxx HB hw263_1), (zxx HB hw263_2), (zxx HB hw263_3), (zxx HB hw263_4), (zxx HB hw263_5), (zxx HB hw263_6), (zxx HB hw263_7), (zxx HB hw263_8), (zxx HB hw264_0), (zxx HB hw264_1), (zxx HB hw264_2), (zxx HB hw264_3), (zxx HB hw264_4), (zxx HB hw264_5), (zxx HB hw264_6), (zxx HB hw264_7), (zxx HB hw264_8)⟩ (fun hHeld => ?_)
   clear hK K
   refine norm_ (a' := ?_) ?_ ?_
   rotate_left
   ·show Act.put _ (some 25) _ = _
    simp only [Act.put, List.setIfInBounds_toArray, List.set_cons_zero, List.set_cons_succ, i64_w, i32_w]
    rfl
   refine zpu HT_ 9 26 (fl12_ 10 1023) ?_
   refine done_ (done_of HT_.out (by kernel_rfl)) ?_
   try go_wp2
   go_roundg k1
   case measure => have := HK1.out; omega
   case rel => exact ⟨(wrap64 (x5_1 + 1)), zrs, H', ⟨by have := HK1.out; omega⟩, ⟨zh HB⟩⟩
/-! ### laws_eqSchema: function 8 -/
def laws_eqSchema.f (k : Nat) (l0_0 : List (S39)) (l1_0 : List (S39)) : Option (Bool) := (laws_eqFieldDefS.f k l0_0 l1_0).bind fun t268 => (if t268 = true then (some true) else (some false))
theorem laws_eqSchema.mono : ∀ a0 a1 k, LeO (laws_eqSchema.f k a0 a1) (laws_eqSchema.f (k + 1) a0 a1) := by
 intro a0 a1 k
 unfold laws_eqSchema.f
 repeat' first
  | (with_reducible exact laws_eqFieldDefS.mono _ _ _)
  | (with_reducible exact LeO.refl _)
  | (with_reducible exact LeO.none _)
  | (with_reducible refine LeO.ite ?_ ?_)
  | (with_reducible refine LeO.bind ?_ (fun _ => ?_))
set_option maxHeartbeats 8000000 in
set_option maxRecDepth 100000 in
theorem laws_eqSchema.calls (k : Nat) (A0_0 : Option Addr) (c0_0 : Nat) (l0_0 : List (S39)) (A1_0 : Option Addr) (c1_0 : Nat) (l1_0 : List (S39)) (r : Bool) (w : World) (hr0_0 : Kd.C k39 w A0_0 l0_0.length l0_0) (hc0_0 : l0_0.length ≤ c0_0) (hr1_0 : Kd.C k39 w A1_0 l1_0.length l1_0) (hc1_0 : l1_0.length ≤ c1_0) (h : laws_eqSchema.f k l0_0 l1_0 = some r) :
 Calls Tryd.prog 8 #[.agg #[.slice A0_0 l0_0.length c0_0], .agg #[.slice A1_0 l1_0.length c1_0]] w fun e w' => e = .returned (.bool r) ∧ Below w.heap.size w w' := by
 have hu29 := Tryd.underlying29
 have HR0_0 := Aside0.mk hr0_0
 have HC0_0 := Aside0.mk hc0_0
 clear hr0_0 hc0_0
 have HR1_0 := Aside0.mk hr1_0
 have HC1_0 := Aside0.mk hc1_0
 clear hr1_0 hc1_0
 have HB := Aside0.mk (Below.refl w.heap.size w)
 have H := h
 unfold laws_eqSchema.f at H
 clear h
 replace H := Option.bind_eq_some_iff.mp H
 obtain ⟨t268, A30, H⟩ := H
 try dsimp only at H
 have A3 := Aside0.mk A30
 clear A30
 by_cases c4 : t268 = true
 ·subst c4
  rw [if_pos rfl] at H
  obtain rfl := Option.some.inj H
  go_enter Tryd.func8, Tryd.ntmps8
  go_wp2_with (first | ((with_reducible refine gate_dst (N := 2) rfl ?_); refine box_event (by rfl) (N := 2) (by rfl) (cs := #[.slice A0_0 l0_0.length c0_0]) (t := 29) zgs ?_; intro gb266 hg w5 hbox hb; have BK266 := Aside0.mk (hbox); have GW266 := zge hg (below_size (zh HB)); have GE266 := zge hg (below_size (zh HB)); replace HB := Aside0.mk (below_step (zh HB) hb); clear hb hbox hg) | ((with_reducible refine gate_dst (N := 3) rfl ?_); refine box_event (by rfl) (N := 3) (by rfl) (cs := #[.slice A1_0 l1_0.length c1_0]) (t := 29) zgs ?_; intro gb267 hg w6 hbox hb; have BK267 := Aside0.mk (hbox); have GW267 := zge hg (below_size (zg HB)); have GE267 := zge hg (below_size (zg HB)); replace HB := Aside0.mk (below_step (zg HB) hb); have NB266_267 := znl hg (blk_lt (zb BK266)); have NB267_266 := zng hg (blk_lt (zb BK266)); replace BK266 := Aside0.mk (blk_below (zb BK266) hb); clear hb hbox hg; have hnb7 := NB266_267.out; have hnc7 := NB267_266.out; obtain ⟨hcz8_0, hfz8_0⟩ := zc1 BK266; obtain ⟨hcz9_0, hfz9_0⟩ := zc1 BK267) | ((with_reducible refine gate_callee (f := 18) rfl ?_); refine goesL_ (some 9) rfl rfl Tryd.func18 (by kernel_rfl) rfl #[.slice A0_0 l0_0.length c0_0, .slice A1_0 l1_0.length c1_0] rfl zar ?_; (with_reducible refine (laws_eqFieldDefS.calls k _ _ l0_0 _ _ l1_0 true _ ?side1 ?side2 ?side3 ?side4 A3.out).mono ?_); (case side1 => exact zC (Kd.C_below HR0_0.out HB.out)); (case side2 => exact HC0_0.out); (case side3 => exact zC (Kd.C_below HR1_0.out HB.out)); (case side4 => exact HC1_0.out); rintro e w10 ⟨rfl, hb⟩; refine ⟨_, rfl, ?_⟩; replace BK266 := Aside0.mk (blk_below (zb BK266) hb); replace BK267 := Aside0.mk (blk_below (zb BK267) hb); replace HB := Aside0.mk (below_step (zg HB) hb); (try clear hb); (try clear hb2); (try clear hk); (try clear hi)))
  go_ret
  exact ⟨zre, zg HB⟩
 replace c4 := Bool.eq_false_iff.mpr c4
 subst c4
 rw [if_neg (show ¬ (false = true) by decide)] at H
 obtain rfl := Option.some.inj H
 go_enter Tryd.func8, Tryd.ntmps8
 go_wp2_with (first | ((with_reducible refine gate_dst (N := 2) rfl ?_); refine box_event (by rfl) (N := 2) (by rfl) (cs := #[.slice A0_0 l0_0.length c0_0]) (t := 29) zgs ?_; intro gb266 hg w12 hbox hb; have BK266 := Aside0.mk (hbox); have GW266 := zge hg (below_size (zh HB)); have GE266 := zge hg (below_size (zh HB)); replace HB := Aside0.mk (below_step (zh HB) hb); clear hb hbox hg) | ((with_reducible refine gate_dst (N := 3) rfl ?_); refine box_event (by rfl) (N := 3) (by rfl) (cs := #[.slice A1_0 l1_0.length c1_0]) (t := 29) zgs ?_; intro gb267 hg w13 hbox hb; have BK267 := Aside0.mk (hbox); have GW267 := zge hg (below_size (zg HB)); have GE267 := zge hg (below_size (zg HB)); replace HB := Aside0.mk (below_step (zg HB) hb); have NB266_267 := znl hg (blk_lt (zb BK266)); have NB267_266 := zng hg (blk_lt (zb BK266)); replace BK266 := Aside0.mk (blk_below (zb BK266) hb); clear hb hbox hg; have hnb14 := NB266_267.out; have hnc14 := NB267_266.out; obtain ⟨hcz15_0, hfz15_0⟩ := zc1 BK266; obtain ⟨hcz16_0, hfz16_0⟩ := zc1 BK267) | ((with_reducible refine gate_callee (f := 18) rfl ?_); refine goesL_ (some 9) rfl rfl Tryd.func18 (by kernel_rfl) rfl #[.slice A0_0 l0_0.length c0_0, .slice A1_0 l1_0.length c1_0] rfl zar ?_; (with_reducible refine (laws_eqFieldDefS.calls k _ _ l0_0 _ _ l1_0 false _ ?side1 ?side2 ?side3 ?side4 A3.out).mono ?_); (case side1 => exact zC (Kd.C_below HR0_0.out HB.out)); (case side2 => exact HC0_0.out); (case side3 => exact zC (Kd.C_below HR1_0.out HB.out)); (case side4 => exact HC1_0.out); rintro e w17 ⟨rfl, hb⟩; refine ⟨_, rfl, ?_⟩; replace BK266 := Aside0.mk (blk_below (zb BK266) hb); replace BK267 := Aside0.mk (blk_below (zb BK267) hb); replace HB := Aside0.mk (below_step (zg HB) hb); (try clear hb); (try clear hb2); (try clear hk); (try clear hi)))
 go_ret
 exact ⟨zre, zg HB⟩

end Go.Proofs.YtmbgncgcddjomaaDoor.XFnExactSchemaOK
