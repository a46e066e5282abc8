-- A printed text of this session (wip/x/xprint.py).
import Derived.Test.YtnpdmleglcbobaaXFnExactReadLogx0
import Derived.Test.YtnpdmleglcbobaaXFnExactReadLogx19
import Derived.Test.YtnpdmleglcbobaaXFnExactReadLogx21
namespace Go.Proofs.Ytnpdmleglcbobaa.XFnExactReadLog
open Go.RowKit Go.Proofs.YtnpdmleglcbobaaW.PrintWords Go.Proofs.YtnpdmleglcbobaaW.PrintLast Go.Proofs.YtnpdmleglcbobaaW.PrintMore
attribute [local go_sem] max2_int min2_int max_two min_two max_three min_three max_four min_four   -- for this text's walks alone
set_option linter.unusedVariables false
set_option linter.unusedSimpArgs false
def fl22_ (n m : Nat) : Array Bool := ((List.range n).map fun i => m.testBit i).toArray

/-! ### laws_heldRecordS: function 33 -/
def laws_heldRecordS.l0 : Nat → List (S47) → Int → Int → Option (Int)
 | 0, _, _, _ => none
 | k + 1, x0, x1, x5 => if x5 < (x0.length : Int) then (if 0 ≤ x5 then (if ((rd_T47 x0 x5).f0) = x1 then (if ((rd_T47 x0 x5).f1) = (wrap64 (x1 + 1)) then ((laws_markText.f k (wrap64 ((wrap64 (x1 + 1)) + 1))).bind fun t555 => (if ((rd_T47 x0 x5).f2).toList = t555.toList then ((laws_markText.f k (wrap64 ((wrap64 ((wrap64 (x1 + 1)) + 1)) + 1))).bind fun t557 => (if ((rd_T47 x0 x5).f3.f0).toList = t557.toList then ((laws_heldValueS.f k ((rd_T47 x0 x5).f3.f1) (wrap64 ((wrap64 ((wrap64 ((wrap64 (x1 + 1)) + 1)) + 1)) + 1))).bind fun t559 => (if t559 < 0 then (some (-1)) else (laws_heldRecordS.l0 k x0 t559 (wrap64 (x5 + 1))))) else (some (-1)))) else (some (-1)))) else (some (-1))) else (some (-1))) else (none)) else (some x1)
def laws_heldRecordS.f (k : Nat) (l0 : List (S47)) (a1 : Int) : Option (Int) := laws_heldRecordS.l0 k l0 a1 0
theorem laws_heldRecordS.mono_l : ∀ k, (∀ y0 y1 y2, LeO (laws_heldRecordS.l0 k y0 y1 y2) (laws_heldRecordS.l0 (k + 1) y0 y1 y2))
 | 0 => fun _ _ _ r h => by simp [laws_heldRecordS.l0] at h
 | k + 1 => by
  have ih0 := laws_heldRecordS.mono_l k
  ·intro y0 y1 y2
   unfold laws_heldRecordS.l0
   repeat' first
   | (with_reducible exact ih0 _ _ _)
   | (with_reducible exact laws_heldValueS.mono _ _ _)
   | (with_reducible exact laws_markText.mono _ _)
   | (with_reducible exact LeO.refl _)
   | (with_reducible exact LeO.none _)
   | (with_reducible refine LeO.ite ?_ ?_)
   | (with_reducible refine LeO.bind ?_ (fun _ => ?_))
theorem laws_heldRecordS.mono : ∀ a0 a1 k, LeO (laws_heldRecordS.f k a0 a1) (laws_heldRecordS.f (k + 1) a0 a1) := by
 intro a0 a1 k
 have ih0 := laws_heldRecordS.mono_l k
 unfold laws_heldRecordS.f
 repeat' first
  | (with_reducible exact ih0 _ _ _)
  | (with_reducible exact laws_heldValueS.mono _ _ _)
  | (with_reducible exact laws_markText.mono _ _)
  | (with_reducible exact LeO.refl _)
  | (with_reducible exact LeO.none _)
  | (with_reducible refine LeO.ite ?_ ?_)
  | (with_reducible refine LeO.bind ?_ (fun _ => ?_))
def laws_heldRecordS.T10 : Bool × List (List Nat × List Nat) := (true, [([], []), ([], []), ([0, 1], [0, 1]), ([2], [2]), ([3], [3]), ([], []), ([5], [5]), ([4, 6], [4, 6])])
def laws_heldRecordS.B10 : List Nat := [0, 0, 3, 7, 15, 0, 32, 127]
theorem laws_heldRecordS.tab10 : rtab .any (opsOf Try.f33 10) = laws_heldRecordS.T10 := by kernel_rfl
theorem laws_heldRecordS.bits10 : waitsOk laws_heldRecordS.T10.2 laws_heldRecordS.B10 = true := by kernel_rfl
def laws_heldRecordS.T13 : Bool × List (List Nat × List Nat) := (true, [([], []), ([], []), ([0, 1], [0, 1]), ([2], [2]), ([3], [3]), ([4], [4]), ([], []), ([6], [6]), ([5, 7], [5, 7])])
def laws_heldRecordS.B13 : List Nat := [0, 0, 3, 7, 15, 31, 0, 64, 255]
theorem laws_heldRecordS.tab13 : rtab .any (opsOf Try.f33 13) = laws_heldRecordS.T13 := by kernel_rfl
theorem laws_heldRecordS.bits13 : waitsOk laws_heldRecordS.T13.2 laws_heldRecordS.B13 = true := by kernel_rfl
set_option maxHeartbeats 8000000 in
set_option maxRecDepth 100000 in
theorem laws_heldRecordS.calls (k : Nat) (A0 : Option Addr) (c0 : Nat) (l0 : List (S47)) (a1 : Int) (r : Int) (w : World) (hr0 : Kd.C k47 w A0 l0.length l0) (hc0 : l0.length ≤ c0) (h : laws_heldRecordS.f k l0 a1 = some r) :
 Calls Try.prog 33 #[.slice A0 l0.length c0, .int .i64 a1] w fun e w' => e = .returned (.int .i64 r) ∧ Below w.heap.size w w' := by
 have HR0 := Aside0.mk hr0
 have HC0 := Aside0.mk hc0
 clear hr0 hc0
 have HB := Aside0.mk (Below.refl w.heap.size w)
 have H : (laws_heldRecordS.l0 k l0 a1 0) = some r := h
 clear h
 have H' := Aside0.mk H
 clear H
 go_enter Try.func33, Try.ntmps33
 go_wp2
 go_loopg [1, 5] k (fun kq v1 v5 w' => ∃ (x1_1 : Int) (x5_1 : Int), v1 = .int .i64 x1_1 ∧ v5 = .int .i64 x5_1 ∧ Aside0 (laws_heldRecordS.l0 kq l0 x1_1 x5_1 = some r) ∧ Aside0 (kq ≤ k) ∧ Aside0 (Below w.heap.size w w'))
 case atStart => exact ⟨(a1), (0), zrs, zrs, H', ⟨Nat.le_refl _⟩, ⟨zh HB⟩⟩
 case round =>
  clear H'
  obtain ⟨x1_1, x5_1, rfl, rfl, HA, HK1, HB⟩ := hrel
  cases gk with
  | zero => exact absurd HA.out (by simp [laws_heldRecordS.l0])
  | succ k1 =>
   have H := HA.out
   clear HA
   simp only [laws_heldRecordS.l0] at H
   by_cases c3 : x5_1 < (l0.length : Int)
   rotate_left
   ·rw [if_neg c3] at H
    have c3b0 : decide (x5_1 < (l0.length : Int)) = false := decide_eq_false c3
    clear c3
    obtain rfl := Option.some.inj H
    go_wp2
    go_ret
    exact ⟨zre, zh HB⟩

   rw [if_pos c3] at H
   have c3b0 : decide (x5_1 < (l0.length : Int)) = true := decide_eq_true c3
   clear c3
   by_cases c4 : 0 ≤ x5_1
   rotate_left
   ·rw [if_neg c4] at H
    exact absurd H (by simp)
   rw [if_pos c4] at H
   have c4b0 : decide (0 ≤ x5_1) = true := decide_eq_true c4
   clear c4
   by_cases c5 : ((rd_T47 l0 x5_1).f0) = x1_1
   rotate_left
   ·rw [if_neg c5] at H
    have c5b0 : (((rd_T47 l0 x5_1).f0) == x1_1) = false := beq_eq_false_iff_ne.mpr c5
    have c5b1 : (((rd_T47 l0 x5_1).f0) != x1_1) = true := bne_iff_ne.mpr c5
    obtain rfl := Option.some.inj H
    have p552 : 0 ≤ (x5_1 : Int) := of_decide_eq_true zas
    have q552 : x5_1 < (l0.length : Int) := of_decide_eq_true zas
    obtain ⟨ad552, A552_4, c552_4, e552, hx552_0, hx552_1, hx552_2, hx552_3, hx552_4, hl552_4, hi552_4⟩ := at_T47 HR0.out x5_1 p552 q552
    cases e552
    replace hx552_0 := zx HB hx552_0
    replace hx552_1 := zx HB hx552_1
    replace hx552_2 := zx HB hx552_2
    replace hx552_3 := zx HB hx552_3
    replace hx552_4 := zx HB hx552_4
    have HR552_4 := Aside0.mk hi552_4
    have HC552_4 := Aside0.mk hl552_4
    clear hi552_4 hl552_4
    replace p552 := eq_true p552
    replace q552 := eq_true q552
    go_wp2
    go_ret
    exact ⟨zre, zh HB⟩
   rw [if_pos c5] at H
   have c5b0 : (((rd_T47 l0 x5_1).f0) == x1_1) = true := beq_iff_eq.mpr c5
   have c5b1 : (((rd_T47 l0 x5_1).f0) != x1_1) = false := bne_eq_false_iff_eq.mpr c5
   clear c5
   by_cases c6 : ((rd_T47 l0 x5_1).f1) = (wrap64 (x1_1 + 1))
   rotate_left
   ·rw [if_neg c6] at H
    have c6b0 : (((rd_T47 l0 x5_1).f1) == (wrap64 (x1_1 + 1))) = false := beq_eq_false_iff_ne.mpr c6
    have c6b1 : (((rd_T47 l0 x5_1).f1) != (wrap64 (x1_1 + 1))) = true := bne_iff_ne.mpr c6
    obtain rfl := Option.some.inj H
    have p552 : 0 ≤ (x5_1 : Int) := of_decide_eq_true zas
    have q552 : x5_1 < (l0.length : Int) := of_decide_eq_true zas
    obtain ⟨ad552, A552_4, c552_4, e552, hx552_0, hx552_1, hx552_2, hx552_3, hx552_4, hl552_4, hi552_4⟩ := at_T47 HR0.out x5_1 p552 q552
    cases e552
    replace hx552_0 := zx HB hx552_0
    replace hx552_1 := zx HB hx552_1
    replace hx552_2 := zx HB hx552_2
    replace hx552_3 := zx HB hx552_3
    replace hx552_4 := zx HB hx552_4
    have HR552_4 := Aside0.mk hi552_4
    have HC552_4 := Aside0.mk hl552_4
    clear hi552_4 hl552_4
    replace p552 := eq_true p552
    replace q552 := eq_true q552
    have p553 : 0 ≤ (x5_1 : Int) := of_decide_eq_true zas
    have q553 : x5_1 < (l0.length : Int) := of_decide_eq_true zas
    obtain ⟨ad553, A553_4, c553_4, e553, hx553_0, hx553_1, hx553_2, hx553_3, hx553_4, hl553_4, hi553_4⟩ := at_T47 HR0.out x5_1 p553 q553
    obtain rfl : ad552 = ad553 := (by injection e553)
    replace hx553_0 := zx HB hx553_0
    replace hx553_1 := zx HB hx553_1
    replace hx553_2 := zx HB hx553_2
    replace hx553_3 := zx HB hx553_3
    replace hx553_4 := zx HB hx553_4
    have HR553_4 := Aside0.mk hi553_4
    have HC553_4 := Aside0.mk hl553_4
    clear hi553_4 hl553_4
    replace p553 := eq_true p553
    replace q553 := eq_true q553
    have ea_ := Option.some.inj (hx552_4.symm.trans hx553_4)
    injection ea_ with ea_ en_ ec_
    subst ea_
    subst ec_
    clear en_
    go_wp2
    go_ret
    exact ⟨zre, zh HB⟩
   rw [if_pos c6] at H
   have c6b0 : (((rd_T47 l0 x5_1).f1) == (wrap64 (x1_1 + 1))) = true := beq_iff_eq.mpr c6
   have c6b1 : (((rd_T47 l0 x5_1).f1) != (wrap64 (x1_1 + 1))) = false := bne_eq_false_iff_eq.mpr c6
   clear c6
   replace H := Option.bind_eq_some_iff.mp H
   obtain ⟨t555, A70, H⟩ := H
   try dsimp only at H
   have A7 := Aside0.mk A70
   clear A70
   by_cases c8 : ((rd_T47 l0 x5_1).f2).toList = t555.toList
   rotate_left
   ·rw [if_neg c8] at H
    have c8b0 : (((rd_T47 l0 x5_1).f2).toList == t555.toList) = false := beq_eq_false_iff_ne.mpr c8
    have c8b1 : (((rd_T47 l0 x5_1).f2).toList != t555.toList) = true := bne_iff_ne.mpr c8
    obtain rfl := Option.some.inj H
    have p552 : 0 ≤ (x5_1 : Int) := of_decide_eq_true zas
    have q552 : x5_1 < (l0.length : Int) := of_decide_eq_true zas
    obtain ⟨ad552, A552_4, c552_4, e552, hx552_0, hx552_1, hx552_2, hx552_3, hx552_4, hl552_4, hi552_4⟩ := at_T47 HR0.out x5_1 p552 q552
    cases e552
    replace hx552_0 := zx HB hx552_0
    replace hx552_1 := zx HB hx552_1
    replace hx552_2 := zx HB hx552_2
    replace hx552_3 := zx HB hx552_3
    replace hx552_4 := zx HB hx552_4
    have HR552_4 := Aside0.mk hi552_4
    have HC552_4 := Aside0.mk hl552_4
    clear hi552_4 hl552_4
    replace p552 := eq_true p552
    replace q552 := eq_true q552
    have p553 : 0 ≤ (x5_1 : Int) := of_decide_eq_true zas
    have q553 : x5_1 < (l0.length : Int) := of_decide_eq_true zas
    obtain ⟨ad553, A553_4, c553_4, e553, hx553_0, hx553_1, hx553_2, hx553_3, hx553_4, hl553_4, hi553_4⟩ := at_T47 HR0.out x5_1 p553 q553
    obtain rfl : ad552 = ad553 := (by injection e553)
    replace hx553_0 := zx HB hx553_0
    replace hx553_1 := zx HB hx553_1
    replace hx553_2 := zx HB hx553_2
    replace hx553_3 := zx HB hx553_3
    replace hx553_4 := zx HB hx553_4
    have HR553_4 := Aside0.mk hi553_4
    have HC553_4 := Aside0.mk hl553_4
    clear hi553_4 hl553_4
    replace p553 := eq_true p553
    replace q553 := eq_true q553
    have ea_ := Option.some.inj (hx552_4.symm.trans hx553_4)
    injection ea_ with ea_ en_ ec_
    subst ea_
    subst ec_
    clear en_
    try go_wp2
    replace HB := Aside0.mk (below_drew1 HB.out)
    have p554 : 0 ≤ (x5_1 : Int) := of_decide_eq_true zas
    have q554 : x5_1 < (l0.length : Int) := of_decide_eq_true zas
    obtain ⟨ad554, A554_4, c554_4, e554, hx554_0, hx554_1, hx554_2, hx554_3, hx554_4, hl554_4, hi554_4⟩ := at_T47 HR0.out x5_1 p554 q554
    have hw554_4 := hx554_4
    have hw554_3 := hx554_3
    have hw554_2 := hx554_2
    have hw554_1 := hx554_1
    have hw554_0 := hx554_0
    obtain rfl : ad552 = ad554 := (by injection e554)
    replace hx554_0 := zx HB hx554_0
    replace hx554_1 := zx HB hx554_1
    replace hx554_2 := zx HB hx554_2
    replace hx554_3 := zx HB hx554_3
    replace hx554_4 := zx HB hx554_4
    have HR554_4 := Aside0.mk hi554_4
    have HC554_4 := Aside0.mk hl554_4
    clear hi554_4 hl554_4
    replace p554 := eq_true p554
    replace q554 := eq_true q554
    refine start_ (n := 8) (S := fun w' => w'.cell? (ad552.add ((x5_1).toNat * 5)) = some (.int .i64 ((rd_T47 l0 x5_1).f0)) ∧ w'.cell? ⟨(ad552.add ((x5_1).toNat * 5)).block, (ad552.add ((x5_1).toNat * 5)).off + 1, none⟩ = some (.int .i64 ((rd_T47 l0 x5_1).f1)) ∧ w'.cell? ⟨(ad552.add ((x5_1).toNat * 5)).block, (ad552.add ((x5_1).toNat * 5)).off + 2, none⟩ = some (.string ((rd_T47 l0 x5_1).f2)) ∧ w'.cell? ⟨(ad552.add ((x5_1).toNat * 5)).block, (ad552.add ((x5_1).toNat * 5)).off + 3, none⟩ = some (.string ((rd_T47 l0 x5_1).f3.f0)) ∧ w'.cell? ⟨(ad552.add ((x5_1).toNat * 5)).block, (ad552.add ((x5_1).toNat * 5)).off + 4, none⟩ = some (.slice A554_4 ((rd_T47 l0 x5_1).f3.f1).length c554_4)) (ds := []) (fl22_ 8 0) (by kernel_rfl) rfl rfl ⟨(zx HB hw554_0), (zx HB hw554_1), (zx HB hw554_2), (zx HB hw554_3), (zx HB hw554_4)⟩ (fun hHeld => ?_); refine with_tabW laws_heldRecordS.tab10 laws_heldRecordS.bits10 (fun HT_ HW_ => ?_)
    generalize wr.drew = w35 at HB HR554_4 hx554_0 hx554_1 hx554_2 hx554_3 hx554_4 hHeld ⊢
    refine zpu HT_ 0 30 (fl22_ 8 1) ?_
    refine zpu HT_ 1 31 (fl22_ 8 3) ?_
    refine zpu HT_ 2 32 (fl22_ 8 7) ?_
    refine zpu HT_ 3 33 (fl22_ 8 15) ?_
    refine zpu HT_ 5 35 (fl22_ 8 47) ?_
    refine take_ (i := 4) (N := some 34) (v := ?_) (a' := ?_) (fl22_ 8 63) rfl rfl (take_ofW HT_.out HW_.out (by kernel_rfl)) (fun _ _ _ h => h) (Or.inl ⟨by rfl, ?_⟩) hHeld ?_ ?_
    rotate_left
    ·rintro w' ⟨s0, s1, s2, s3, s4⟩
     go_simp
     with_reducible rfl
    rotate_left
    ·simp only [Act.put, List.setIfInBounds_toArray, List.set_cons_zero, List.set_cons_succ, i64_w, i32_w]
     rfl
    refine one_ (i := 6) (N := some 36) (fl22_ 8 127) rfl rfl (one_of HT_.out (by kernel_rfl)) (by decide) (fun K hK => ?_)
    refine goes_ Try.func60 (by kernel_rfl) rfl #[.int .i64 (wrap64 ((wrap64 (x1_1 + 1)) + 1))] (by rfl) rfl rfl zar ?_
    with_reducible refine (laws_markText.calls k1 (wrap64 ((wrap64 (x1_1 + 1)) + 1)) t555 _ A7.out).mono ?_
    rintro e w36 ⟨rfl, hb⟩
    refine ⟨_, rfl, ?_⟩
    replace HB := Aside0.mk (below_step (zh HB) hb)
    (try clear hb)
    (try clear hb2)
    (try clear hk)
    (try clear hi)
    refine hK.out _ _ ⟨(zx HB hw554_0), (zx HB hw554_1), (zx HB hw554_2), (zx HB hw554_3), (zx HB hw554_4)⟩ (fun hHeld => ?_)
    clear hK K
    refine norm_ (a' := ?_) ?_ ?_
    rotate_left
    ·show Act.put _ (some 36) _ = _
     simp only [Act.put, List.setIfInBounds_toArray, List.set_cons_zero, List.set_cons_succ, i64_w, i32_w]
     rfl
    refine zpu HT_ 7 37 (fl22_ 8 255) ?_
    refine done_ (done_of HT_.out (by kernel_rfl)) ?_
    try go_wp2
    go_ret
    exact ⟨zre, zh HB⟩
   rw [if_pos c8] at H
   have c8b0 : (((rd_T47 l0 x5_1).f2).toList == t555.toList) = true := beq_iff_eq.mpr c8
   have c8b1 : (((rd_T47 l0 x5_1).f2).toList != t555.toList) = false := bne_eq_false_iff_eq.mpr c8
   clear c8
   replace H := Option.bind_eq_some_iff.mp H
   obtain ⟨t557, A90, H⟩ := H
   try dsimp only at H
   have A9 := Aside0.mk A90
   clear A90
   by_cases c10 : ((rd_T47 l0 x5_1).f3.f0).toList = t557.toList
   rotate_left
   ·rw [if_neg c10] at H
    have c10b0 : (((rd_T47 l0 x5_1).f3.f0).toList == t557.toList) = false := beq_eq_false_iff_ne.mpr c10
    have c10b1 : (((rd_T47 l0 x5_1).f3.f0).toList != t557.toList) = true := bne_iff_ne.mpr c10
    obtain rfl := Option.some.inj H
    have p552 : 0 ≤ (x5_1 : Int) := of_decide_eq_true zas
    have q552 : x5_1 < (l0.length : Int) := of_decide_eq_true zas
    obtain ⟨ad552, A552_4, c552_4, e552, hx552_0, hx552_1, hx552_2, hx552_3, hx552_4, hl552_4, hi552_4⟩ := at_T47 HR0.out x5_1 p552 q552
    cases e552
    replace hx552_0 := zx HB hx552_0
    replace hx552_1 := zx HB hx552_1
    replace hx552_2 := zx HB hx552_2
    replace hx552_3 := zx HB hx552_3
    replace hx552_4 := zx HB hx552_4
    have HR552_4 := Aside0.mk hi552_4
    have HC552_4 := Aside0.mk hl552_4
    clear hi552_4 hl552_4
    replace p552 := eq_true p552
    replace q552 := eq_true q552
    have p553 : 0 ≤ (x5_1 : Int) := of_decide_eq_true zas
    have q553 : x5_1 < (l0.length : Int) := of_decide_eq_true zas
    obtain ⟨ad553, A553_4, c553_4, e553, hx553_0, hx553_1, hx553_2, hx553_3, hx553_4, hl553_4, hi553_4⟩ := at_T47 HR0.out x5_1 p553 q553
    obtain rfl : ad552 = ad553 := (by injection e553)
    replace hx553_0 := zx HB hx553_0
    replace hx553_1 := zx HB hx553_1
    replace hx553_2 := zx HB hx553_2
    replace hx553_3 := zx HB hx553_3
    replace hx553_4 := zx HB hx553_4
    have HR553_4 := Aside0.mk hi553_4
    have HC553_4 := Aside0.mk hl553_4
    clear hi553_4 hl553_4
    replace p553 := eq_true p553
    replace q553 := eq_true q553
    have ea_ := Option.some.inj (hx552_4.symm.trans hx553_4)
    injection ea_ with ea_ en_ ec_
    subst ea_
    subst ec_
    clear en_
    try go_wp2
    replace HB := Aside0.mk (below_drew1 HB.out)
    have p554 : 0 ≤ (x5_1 : Int) := of_decide_eq_true zas
    have q554 : x5_1 < (l0.length : Int) := of_decide_eq_true zas
    obtain ⟨ad554, A554_4, c554_4, e554, hx554_0, hx554_1, hx554_2, hx554_3, hx554_4, hl554_4, hi554_4⟩ := at_T47 HR0.out x5_1 p554 q554
    have hw554_4 := hx554_4
    have hw554_3 := hx554_3
    have hw554_2 := hx554_2
    have hw554_1 := hx554_1
    have hw554_0 := hx554_0
    obtain rfl : ad552 = ad554 := (by injection e554)
    replace hx554_0 := zx HB hx554_0
    replace hx554_1 := zx HB hx554_1
    replace hx554_2 := zx HB hx554_2
    replace hx554_3 := zx HB hx554_3
    replace hx554_4 := zx HB hx554_4
    have HR554_4 := Aside0.mk hi554_4
    have HC554_4 := Aside0.mk hl554_4
    clear hi554_4 hl554_4
    replace p554 := eq_true p554
    replace q554 := eq_true q554
    refine start_ (n := 8) (S := fun w' => w'.cell? (ad552.add ((x5_1).toNat * 5)) = some (.int .i64 ((rd_T47 l0 x5_1).f0)) ∧ w'.cell? ⟨(ad552.add ((x5_1).toNat * 5)).block, (ad552.add ((x5_1).toNat * 5)).off + 1, none⟩ = some (.int .i64 ((rd_T47 l0 x5_1).f1)) ∧ w'.cell? ⟨(ad552.add ((x5_1).toNat * 5)).block, (ad552.add ((x5_1).toNat * 5)).off + 2, none⟩ = some (.string ((rd_T47 l0 x5_1).f2)) ∧ w'.cell? ⟨(ad552.add ((x5_1).toNat * 5)).block, (ad552.add ((x5_1).toNat * 5)).off + 3, none⟩ = some (.string ((rd_T47 l0 x5_1).f3.f0)) ∧ w'.cell? ⟨(ad552.add ((x5_1).toNat * 5)).block, (ad552.add ((x5_1).toNat * 5)).off + 4, none⟩ = some (.slice A554_4 ((rd_T47 l0 x5_1).f3.f1).length c554_4)) (ds := []) (fl22_ 8 0) (by kernel_rfl) rfl rfl ⟨(zx HB hw554_0), (zx HB hw554_1), (zx HB hw554_2), (zx HB hw554_3), (zx HB hw554_4)⟩ (fun hHeld => ?_); refine with_tabW laws_heldRecordS.tab10 laws_heldRecordS.bits10 (fun HT_ HW_ => ?_)
    generalize wr.drew = w29 at HB HR554_4 hx554_0 hx554_1 hx554_2 hx554_3 hx554_4 hHeld ⊢
    refine zpu HT_ 0 30 (fl22_ 8 1) ?_
    refine zpu HT_ 1 31 (fl22_ 8 3) ?_
    refine zpu HT_ 2 32 (fl22_ 8 7) ?_
    refine zpu HT_ 3 33 (fl22_ 8 15) ?_
    refine zpu HT_ 5 35 (fl22_ 8 47) ?_
    refine take_ (i := 4) (N := some 34) (v := ?_) (a' := ?_) (fl22_ 8 63) rfl rfl (take_ofW HT_.out HW_.out (by kernel_rfl)) (fun _ _ _ h => h) (Or.inl ⟨by rfl, ?_⟩) hHeld ?_ ?_
    rotate_left
    ·rintro w' ⟨s0, s1, s2, s3, s4⟩
     go_simp
     with_reducible rfl
    rotate_left
    ·simp only [Act.put, List.setIfInBounds_toArray, List.set_cons_zero, List.set_cons_succ, i64_w, i32_w]
     rfl
    refine one_ (i := 6) (N := some 36) (fl22_ 8 127) rfl rfl (one_of HT_.out (by kernel_rfl)) (by decide) (fun K hK => ?_)
    refine goes_ Try.func60 (by kernel_rfl) rfl #[.int .i64 (wrap64 ((wrap64 (x1_1 + 1)) + 1))] (by rfl) rfl rfl zar ?_
    with_reducible refine (laws_markText.calls k1 (wrap64 ((wrap64 (x1_1 + 1)) + 1)) t555 _ A7.out).mono ?_
    rintro e w30 ⟨rfl, hb⟩
    refine ⟨_, rfl, ?_⟩
    replace HB := Aside0.mk (below_step (zh HB) hb)
    (try clear hb)
    (try clear hb2)
    (try clear hk)
    (try clear hi)
    refine hK.out _ _ ⟨(zx HB hw554_0), (zx HB hw554_1), (zx HB hw554_2), (zx HB hw554_3), (zx HB hw554_4)⟩ (fun hHeld => ?_)
    clear hK K
    refine norm_ (a' := ?_) ?_ ?_
    rotate_left
    ·show Act.put _ (some 36) _ = _
     simp only [Act.put, List.setIfInBounds_toArray, List.set_cons_zero, List.set_cons_succ, i64_w, i32_w]
     rfl
    refine zpu HT_ 7 37 (fl22_ 8 255) ?_
    refine done_ (done_of HT_.out (by kernel_rfl)) ?_
    try go_wp2
    replace HB := Aside0.mk (below_drew1 HB.out)
    have p556 : 0 ≤ (x5_1 : Int) := of_decide_eq_true zas
    have q556 : x5_1 < (l0.length : Int) := of_decide_eq_true zas
    obtain ⟨ad556, A556_4, c556_4, e556, hx556_0, hx556_1, hx556_2, hx556_3, hx556_4, hl556_4, hi556_4⟩ := at_T47 HR0.out x5_1 p556 q556
    have hw556_4 := hx556_4
    have hw556_3 := hx556_3
    have hw556_2 := hx556_2
    have hw556_1 := hx556_1
    have hw556_0 := hx556_0
    obtain rfl : ad552 = ad556 := (by injection e556)
    obtain ⟨rfl, rfl⟩ : A556_4 = A554_4 ∧ c556_4 = c554_4 := by have hu_ := hw554_4.symm.trans hx556_4; injection hu_ with hu_; injection hu_ with h1_ h2_ h3_; exact ⟨h1_.symm, h3_.symm⟩
    replace hx556_0 := zx HB hx556_0
    replace hx556_1 := zx HB hx556_1
    replace hx556_2 := zx HB hx556_2
    replace hx556_3 := zx HB hx556_3
    replace hx556_4 := zx HB hx556_4
    have HR556_4 := Aside0.mk hi556_4
    have HC556_4 := Aside0.mk hl556_4
    clear hi556_4 hl556_4
    replace p556 := eq_true p556
    replace q556 := eq_true q556
    refine start_ (n := 9) (S := fun w' => w'.cell? (ad552.add ((x5_1).toNat * 5)) = some (.int .i64 ((rd_T47 l0 x5_1).f0)) ∧ w'.cell? ⟨(ad552.add ((x5_1).toNat * 5)).block, (ad552.add ((x5_1).toNat * 5)).off + 1, none⟩ = some (.int .i64 ((rd_T47 l0 x5_1).f1)) ∧ w'.cell? ⟨(ad552.add ((x5_1).toNat * 5)).block, (ad552.add ((x5_1).toNat * 5)).off + 2, none⟩ = some (.string ((rd_T47 l0 x5_1).f2)) ∧ w'.cell? ⟨(ad552.add ((x5_1).toNat * 5)).block, (ad552.add ((x5_1).toNat * 5)).off + 3, none⟩ = some (.string ((rd_T47 l0 x5_1).f3.f0)) ∧ w'.cell? ⟨(ad552.add ((x5_1).toNat * 5)).block, (ad552.add ((x5_1).toNat * 5)).off + 4, none⟩ = some (.slice A556_4 ((rd_T47 l0 x5_1).f3.f1).length c556_4)) (ds := []) (fl22_ 9 0) (by kernel_rfl) rfl rfl ⟨(zx HB hw556_0), (zx HB hw556_1), (zx HB hw556_2), (zx HB hw556_3), (zx HB hw556_4)⟩ (fun hHeld => ?_); refine with_tabW laws_heldRecordS.tab13 laws_heldRecordS.bits13 (fun HT_ HW_ => ?_)
    generalize w30.drew = w32 at HB HR556_4 hx556_0 hx556_1 hx556_2 hx556_3 hx556_4 hHeld ⊢
    refine zpu HT_ 0 40 (fl22_ 9 1) ?_
    refine zpu HT_ 1 41 (fl22_ 9 3) ?_
    refine zpu HT_ 2 42 (fl22_ 9 7) ?_
    refine zpu HT_ 3 43 (fl22_ 9 15) ?_
    refine zpu HT_ 4 44 (fl22_ 9 31) ?_
    refine zpu HT_ 6 46 (fl22_ 9 95) ?_
    refine take_ (i := 5) (N := some 45) (v := ?_) (a' := ?_) (fl22_ 9 127) rfl rfl (take_ofW HT_.out HW_.out (by kernel_rfl)) (fun _ _ _ h => h) (Or.inl ⟨by rfl, ?_⟩) hHeld ?_ ?_
    rotate_left
    ·rintro w' ⟨s0, s1, s2, s3, s4⟩
     go_simp
     with_reducible rfl
    rotate_left
    ·simp only [Act.put, List.setIfInBounds_toArray, List.set_cons_zero, List.set_cons_succ, i64_w, i32_w]
     rfl
    refine one_ (i := 7) (N := some 47) (fl22_ 9 255) rfl rfl (one_of HT_.out (by kernel_rfl)) (by decide) (fun K hK => ?_)
    refine goes_ Try.func60 (by kernel_rfl) rfl #[.int .i64 (wrap64 ((wrap64 ((wrap64 (x1_1 + 1)) + 1)) + 1))] (by rfl) rfl rfl zar ?_
    with_reducible refine (laws_markText.calls k1 (wrap64 ((wrap64 ((wrap64 (x1_1 + 1)) + 1)) + 1)) t557 _ A9.out).mono ?_
    rintro e w33 ⟨rfl, hb⟩
    refine ⟨_, rfl, ?_⟩
    replace HB := Aside0.mk (below_step (zh HB) hb)
    (try clear hb)
    (try clear hb2)
    (try clear hk)
    (try clear hi)
    refine hK.out _ _ ⟨(zx HB hw556_0), (zx HB hw556_1), (zx HB hw556_2), (zx HB hw556_3), (zx HB hw556_4)⟩ (fun hHeld => ?_)
    clear hK K
    refine norm_ (a' := ?_) ?_ ?_
    rotate_left
    ·show Act.put _ (some 47) _ = _
     simp only [Act.put, List.setIfInBounds_toArray, List.set_cons_zero, List.set_cons_succ, i64_w, i32_w]
     rfl
    refine zpu HT_ 8 48 (fl22_ 9 511) ?_
    refine done_ (done_of HT_.out (by kernel_rfl)) ?_
    try go_wp2
    go_ret
    exact ⟨zre, zh HB⟩
   rw [if_pos c10] at H
   have c10b0 : (((rd_T47 l0 x5_1).f3.f0).toList == t557.toList) = true := beq_iff_eq.mpr c10
   have c10b1 : (((rd_T47 l0 x5_1).f3.f0).toList != t557.toList) = false := bne_eq_false_iff_eq.mpr c10
   clear c10
   replace H := Option.bind_eq_some_iff.mp H
   obtain ⟨t559, A110, H⟩ := H
   try dsimp only at H
   have A11 := Aside0.mk A110
   clear A110
   by_cases c12 : t559 < 0
   ·rw [if_pos c12] at H
    have c12b0 : decide (t559 < 0) = true := decide_eq_true c12
    clear c12
    obtain rfl := Option.some.inj H
    have p552 : 0 ≤ (x5_1 : Int) := of_decide_eq_true zas
    have q552 : x5_1 < (l0.length : Int) := of_decide_eq_true zas
    obtain ⟨ad552, A552_4, c552_4, e552, hx552_0, hx552_1, hx552_2, hx552_3, hx552_4, hl552_4, hi552_4⟩ := at_T47 HR0.out x5_1 p552 q552
    cases e552
    replace hx552_0 := zx HB hx552_0
    replace hx552_1 := zx HB hx552_1
    replace hx552_2 := zx HB hx552_2
    replace hx552_3 := zx HB hx552_3
    replace hx552_4 := zx HB hx552_4
    have HR552_4 := Aside0.mk hi552_4
    have HC552_4 := Aside0.mk hl552_4
    clear hi552_4 hl552_4
    replace p552 := eq_true p552
    replace q552 := eq_true q552
    have p553 : 0 ≤ (x5_1 : Int) := of_decide_eq_true zas
    have q553 : x5_1 < (l0.length : Int) := of_decide_eq_true zas
    obtain ⟨ad553, A553_4, c553_4, e553, hx553_0, hx553_1, hx553_2, hx553_3, hx553_4, hl553_4, hi553_4⟩ := at_T47 HR0.out x5_1 p553 q553
    obtain rfl : ad552 = ad553 := (by injection e553)
    replace hx553_0 := zx HB hx553_0
    replace hx553_1 := zx HB hx553_1
    replace hx553_2 := zx HB hx553_2
    replace hx553_3 := zx HB hx553_3
    replace hx553_4 := zx HB hx553_4
    have HR553_4 := Aside0.mk hi553_4
    have HC553_4 := Aside0.mk hl553_4
    clear hi553_4 hl553_4
    replace p553 := eq_true p553
    replace q553 := eq_true q553
    have ea_ := Option.some.inj (hx552_4.symm.trans hx553_4)
    injection ea_ with ea_ en_ ec_
    subst ea_
    subst ec_
    clear en_
    try go_wp2
    replace HB := Aside0.mk (below_drew1 HB.out)
    have p554 : 0 ≤ (x5_1 : Int) := of_decide_eq_true zas
    have q554 : x5_1 < (l0.length : Int) := of_decide_eq_true zas
    obtain ⟨ad554, A554_4, c554_4, e554, hx554_0, hx554_1, hx554_2, hx554_3, hx554_4, hl554_4, hi554_4⟩ := at_T47 HR0.out x5_1 p554 q554
    have hw554_4 := hx554_4
    have hw554_3 := hx554_3
    have hw554_2 := hx554_2
    have hw554_1 := hx554_1
    have hw554_0 := hx554_0
    obtain rfl : ad552 = ad554 := (by injection e554)
    replace hx554_0 := zx HB hx554_0
    replace hx554_1 := zx HB hx554_1
    replace hx554_2 := zx HB hx554_2
    replace hx554_3 := zx HB hx554_3
    replace hx554_4 := zx HB hx554_4
    have HR554_4 := Aside0.mk hi554_4
    have HC554_4 := Aside0.mk hl554_4
    clear hi554_4 hl554_4
    replace p554 := eq_true p554
    replace q554 := eq_true q554
    refine start_ (n := 8) (S := fun w' => w'.cell? (ad552.add ((x5_1).toNat * 5)) = some (.int .i64 ((rd_T47 l0 x5_1).f0)) ∧ w'.cell? ⟨(ad552.add ((x5_1).toNat * 5)).block, (ad552.add ((x5_1).toNat * 5)).off + 1, none⟩ = some (.int .i64 ((rd_T47 l0 x5_1).f1)) ∧ w'.cell? ⟨(ad552.add ((x5_1).toNat * 5)).block, (ad552.add ((x5_1).toNat * 5)).off + 2, none⟩ = some (.string ((rd_T47 l0 x5_1).f2)) ∧ w'.cell? ⟨(ad552.add ((x5_1).toNat * 5)).block, (ad552.add ((x5_1).toNat * 5)).off + 3, none⟩ = some (.string ((rd_T47 l0 x5_1).f3.f0)) ∧ w'.cell? ⟨(ad552.add ((x5_1).toNat * 5)).block, (ad552.add ((x5_1).toNat * 5)).off + 4, none⟩ = some (.slice A554_4 ((rd_T47 l0 x5_1).f3.f1).length c554_4)) (ds := []) (fl22_ 8 0) (by kernel_rfl) rfl rfl ⟨(zx HB hw554_0), (zx HB hw554_1), (zx HB hw554_2), (zx HB hw554_3), (zx HB hw554_4)⟩ (fun hHeld => ?_); refine with_tabW laws_heldRecordS.tab10 laws_heldRecordS.bits10 (fun HT_ HW_ => ?_)
    generalize wr.drew = w13 at HB HR554_4 hx554_0 hx554_1 hx554_2 hx554_3 hx554_4 hHeld ⊢
    refine zpu HT_ 0 30 (fl22_ 8 1) ?_
    refine zpu HT_ 1 31 (fl22_ 8 3) ?_
    refine zpu HT_ 2 32 (fl22_ 8 7) ?_
    refine zpu HT_ 3 33 (fl22_ 8 15) ?_
    refine zpu HT_ 5 35 (fl22_ 8 47) ?_
    refine take_ (i := 4) (N := some 34) (v := ?_) (a' := ?_) (fl22_ 8 63) rfl rfl (take_ofW HT_.out HW_.out (by kernel_rfl)) (fun _ _ _ h => h) (Or.inl ⟨by rfl, ?_⟩) hHeld ?_ ?_
    rotate_left
    ·rintro w' ⟨s0, s1, s2, s3, s4⟩
     go_simp
     with_reducible rfl
    rotate_left
    ·simp only [Act.put, List.setIfInBounds_toArray, List.set_cons_zero, List.set_cons_succ, i64_w, i32_w]
     rfl
    refine one_ (i := 6) (N := some 36) (fl22_ 8 127) rfl rfl (one_of HT_.out (by kernel_rfl)) (by decide) (fun K hK => ?_)
    refine goes_ Try.func60 (by kernel_rfl) rfl #[.int .i64 (wrap64 ((wrap64 (x1_1 + 1)) + 1))] (by rfl) rfl rfl zar ?_
    with_reducible refine (laws_markText.calls k1 (wrap64 ((wrap64 (x1_1 + 1)) + 1)) t555 _ A7.out).mono ?_
    rintro e w14 ⟨rfl, hb⟩
    refine ⟨_, rfl, ?_⟩
    replace HB := Aside0.mk (below_step (zh HB) hb)
    (try clear hb)
    (try clear hb2)
    (try clear hk)
    (try clear hi)
    refine hK.out _ _ ⟨(zx HB hw554_0), (zx HB hw554_1), (zx HB hw554_2), (zx HB hw554_3), (zx HB hw554_4)⟩ (fun hHeld => ?_)
    clear hK K
    refine norm_ (a' := ?_) ?_ ?_
    rotate_left
    ·show Act.put _ (some 36) _ = _
     simp only [Act.put, List.setIfInBounds_toArray, List.set_cons_zero, List.set_cons_succ, i64_w, i32_w]
     rfl
    refine zpu HT_ 7 37 (fl22_ 8 255) ?_
    refine done_ (done_of HT_.out (by kernel_rfl)) ?_
    try go_wp2
    replace HB := Aside0.mk (below_drew1 HB.out)
    have p556 : 0 ≤ (x5_1 : Int) := of_decide_eq_true zas
    have q556 : x5_1 < (l0.length : Int) := of_decide_eq_true zas
    obtain ⟨ad556, A556_4, c556_4, e556, hx556_0, hx556_1, hx556_2, hx556_3, hx556_4, hl556_4, hi556_4⟩ := at_T47 HR0.out x5_1 p556 q556
    have hw556_4 := hx556_4
    have hw556_3 := hx556_3
    have hw556_2 := hx556_2
    have hw556_1 := hx556_1
    have hw556_0 := hx556_0
    obtain rfl : ad552 = ad556 := (by injection e556)
    obtain ⟨rfl, rfl⟩ : A556_4 = A554_4 ∧ c556_4 = c554_4 := by have hu_ := hw554_4.symm.trans hx556_4; injection hu_ with hu_; injection hu_ with h1_ h2_ h3_; exact ⟨h1_.symm, h3_.symm⟩
    replace hx556_0 := zx HB hx556_0
    replace hx556_1 := zx HB hx556_1
    replace hx556_2 := zx HB hx556_2
    replace hx556_3 := zx HB hx556_3
    replace hx556_4 := zx HB hx556_4
    have HR556_4 := Aside0.mk hi556_4
    have HC556_4 := Aside0.mk hl556_4
    clear hi556_4 hl556_4
    replace p556 := eq_true p556
    replace q556 := eq_true q556
    refine start_ (n := 9) (S := fun w' => w'.cell? (ad552.add ((x5_1).toNat * 5)) = some (.int .i64 ((rd_T47 l0 x5_1).f0)) ∧ w'.cell? ⟨(ad552.add ((x5_1).toNat * 5)).block, (ad552.add ((x5_1).toNat * 5)).off + 1, none⟩ = some (.int .i64 ((rd_T47 l0 x5_1).f1)) ∧ w'.cell? ⟨(ad552.add ((x5_1).toNat * 5)).block, (ad552.add ((x5_1).toNat * 5)).off + 2, none⟩ = some (.string ((rd_T47 l0 x5_1).f2)) ∧ w'.cell? ⟨(ad552.add ((x5_1).toNat * 5)).block, (ad552.add ((x5_1).toNat * 5)).off + 3, none⟩ = some (.string ((rd_T47 l0 x5_1).f3.f0)) ∧ w'.cell? ⟨(ad552.add ((x5_1).toNat * 5)).block, (ad552.add ((x5_1).toNat * 5)).off + 4, none⟩ = some (.slice A556_4 ((rd_T47 l0 x5_1).f3.f1).length c556_4)) (ds := []) (fl22_ 9 0) (by kernel_rfl) rfl rfl ⟨(zx HB hw556_0), (zx HB hw556_1), (zx HB hw556_2), (zx HB hw556_3), (zx HB hw556_4)⟩ (fun hHeld => ?_); refine with_tabW laws_heldRecordS.tab13 laws_heldRecordS.bits13 (fun HT_ HW_ => ?_)
    generalize w14.drew = w16 at HB HR556_4 hx556_0 hx556_1 hx556_2 hx556_3 hx556_4 hHeld ⊢
    refine zpu HT_ 0 40 (fl22_ 9 1) ?_
    refine zpu HT_ 1 41 (fl22_ 9 3) ?_
    refine zpu HT_ 2 42 (fl22_ 9 7) ?_
    refine zpu HT_ 3 43 (fl22_ 9 15) ?_
    refine zpu HT_ 4 44 (fl22_ 9 31) ?_
    refine zpu HT_ 6 46 (fl22_ 9 95) ?_
    refine take_ (i := 5) (N := some 45) (v := ?_) (a' := ?_) (fl22_ 9 127) rfl rfl (take_ofW HT_.out HW_.out (by kernel_rfl)) (fun _ _ _ h => h) (Or.inl ⟨by rfl, ?_⟩) hHeld ?_ ?_
    rotate_left
    ·rintro w' ⟨s0, s1, s2, s3, s4⟩
     go_simp
     with_reducible rfl
    rotate_left
    ·simp only [Act.put, List.setIfInBounds_toArray, List.set_cons_zero, List.set_cons_succ, i64_w, i32_w]
     rfl
    refine one_ (i := 7) (N := some 47) (fl22_ 9 255) rfl rfl (one_of HT_.out (by kernel_rfl)) (by decide) (fun K hK => ?_)
    refine goes_ Try.func60 (by kernel_rfl) rfl #[.int .i64 (wrap64 ((wrap64 ((wrap64 (x1_1 + 1)) + 1)) + 1))] (by rfl) rfl rfl zar ?_
    with_reducible refine (laws_markText.calls k1 (wrap64 ((wrap64 ((wrap64 (x1_1 + 1)) + 1)) + 1)) t557 _ A9.out).mono ?_
    rintro e w17 ⟨rfl, hb⟩
    refine ⟨_, rfl, ?_⟩
    replace HB := Aside0.mk (below_step (zh HB) hb)
    (try clear hb)
    (try clear hb2)
    (try clear hk)
    (try clear hi)
    refine hK.out _ _ ⟨(zx HB hw556_0), (zx HB hw556_1), (zx HB hw556_2), (zx HB hw556_3), (zx HB hw556_4)⟩ (fun hHeld => ?_)
    clear hK K
    refine norm_ (a' := ?_) ?_ ?_
    rotate_left
    ·show Act.put _ (some 47) _ = _
     simp only [Act.put, List.setIfInBounds_toArray, List.set_cons_zero, List.set_cons_succ, i64_w, i32_w]
     rfl
    refine zpu HT_ 8 48 (fl22_ 9 511) ?_
    refine done_ (done_of HT_.out (by kernel_rfl)) ?_
    have p558 : 0 ≤ (x5_1 : Int) := of_decide_eq_true zas
    have q558 : x5_1 < (l0.length : Int) := of_decide_eq_true zas
    obtain ⟨ad558, A558_4, c558_4, e558, hx558_0, hx558_1, hx558_2, hx558_3, hx558_4, hl558_4, hi558_4⟩ := at_T47 HR0.out x5_1 p558 q558
    obtain rfl : ad552 = ad558 := (by injection e558)
    obtain ⟨rfl, rfl⟩ : A558_4 = A556_4 ∧ c558_4 = c556_4 := by have hu_ := hw556_4.symm.trans hx558_4; injection hu_ with hu_; injection hu_ with h1_ h2_ h3_; exact ⟨h1_.symm, h3_.symm⟩
    replace hx558_0 := zx HB hx558_0
    replace hx558_1 := zx HB hx558_1
    replace hx558_2 := zx HB hx558_2
    replace hx558_3 := zx HB hx558_3
    replace hx558_4 := zx HB hx558_4
    have HR558_4 := Aside0.mk hi558_4
    have HC558_4 := Aside0.mk hl558_4
    clear hi558_4 hl558_4
    replace p558 := eq_true p558
    replace q558 := eq_true q558
    try go_wp2_with (first | ((with_reducible refine gate_callee (f := 45) rfl ?_); refine goesL_ (some 58) rfl rfl Try.func45 (by kernel_rfl) rfl #[.slice A558_4 ((rd_T47 l0 x5_1).f3.f1).length c558_4, .int .i64 (wrap64 ((wrap64 ((wrap64 ((wrap64 (x1_1 + 1)) + 1)) + 1)) + 1))] rfl zar ?_; (with_reducible refine (laws_heldValueS.calls k1 _ _ ((rd_T47 l0 x5_1).f3.f1) (wrap64 ((wrap64 ((wrap64 ((wrap64 (x1_1 + 1)) + 1)) + 1)) + 1)) t559 _ ?side1 ?side2 A11.out).mono ?_); (case side1 => exact zC (Kd.C_below HR558_4.out HB.out)); (case side2 => exact HC558_4.out); rintro e w19 ⟨rfl, hb⟩; refine ⟨_, rfl, ?_⟩; replace HB := Aside0.mk (below_step (zh HB) hb); (try clear hb); (try clear hb2); (try clear hk); (try clear hi)))
    go_ret
    exact ⟨zre, zh HB⟩
   rw [if_neg c12] at H
   have c12b0 : decide (t559 < 0) = false := decide_eq_false c12
   clear c12
   have H' := Aside0.mk H
   clear H
   have p552 : 0 ≤ (x5_1 : Int) := of_decide_eq_true zas
   have q552 : x5_1 < (l0.length : Int) := of_decide_eq_true zas
   obtain ⟨ad552, A552_4, c552_4, e552, hx552_0, hx552_1, hx552_2, hx552_3, hx552_4, hl552_4, hi552_4⟩ := at_T47 HR0.out x5_1 p552 q552
   cases e552
   replace hx552_0 := zx HB hx552_0
   replace hx552_1 := zx HB hx552_1
   replace hx552_2 := zx HB hx552_2
   replace hx552_3 := zx HB hx552_3
   replace hx552_4 := zx HB hx552_4
   have HR552_4 := Aside0.mk hi552_4
   have HC552_4 := Aside0.mk hl552_4
   clear hi552_4 hl552_4
   replace p552 := eq_true p552
   replace q552 := eq_true q552
   have p553 : 0 ≤ (x5_1 : Int) := of_decide_eq_true zas
   have q553 : x5_1 < (l0.length : Int) := of_decide_eq_true zas
   obtain ⟨ad553, A553_4, c553_4, e553, hx553_0, hx553_1, hx553_2, hx553_3, hx553_4, hl553_4, hi553_4⟩ := at_T47 HR0.out x5_1 p553 q553
   obtain rfl : ad552 = ad553 := (by injection e553)
   replace hx553_0 := zx HB hx553_0
   replace hx553_1 := zx HB hx553_1
   replace hx553_2 := zx HB hx553_2
   replace hx553_3 := zx HB hx553_3
   replace hx553_4 := zx HB hx553_4
   have HR553_4 := Aside0.mk hi553_4
   have HC553_4 := Aside0.mk hl553_4
   clear hi553_4 hl553_4
   replace p553 := eq_true p553
   replace q553 := eq_true q553
   have ea_ := Option.some.inj (hx552_4.symm.trans hx553_4)
   injection ea_ with ea_ en_ ec_
   subst ea_
   subst ec_
   clear en_
   try go_wp2
   replace HB := Aside0.mk (below_drew1 HB.out)
   have p554 : 0 ≤ (x5_1 : Int) := of_decide_eq_true zas
   have q554 : x5_1 < (l0.length : Int) := of_decide_eq_true zas
   obtain ⟨ad554, A554_4, c554_4, e554, hx554_0, hx554_1, hx554_2, hx554_3, hx554_4, hl554_4, hi554_4⟩ := at_T47 HR0.out x5_1 p554 q554
   have hw554_4 := hx554_4
   have hw554_3 := hx554_3
   have hw554_2 := hx554_2
   have hw554_1 := hx554_1
   have hw554_0 := hx554_0
   obtain rfl : ad552 = ad554 := (by injection e554)
   replace hx554_0 := zx HB hx554_0
   replace hx554_1 := zx HB hx554_1
   replace hx554_2 := zx HB hx554_2
   replace hx554_3 := zx HB hx554_3
   replace hx554_4 := zx HB hx554_4
   have HR554_4 := Aside0.mk hi554_4
   have HC554_4 := Aside0.mk hl554_4
   clear hi554_4 hl554_4
   replace p554 := eq_true p554
   replace q554 := eq_true q554
   refine start_ (n := 8) (S := fun w' => w'.cell? (ad552.add ((x5_1).toNat * 5)) = some (.int .i64 ((rd_T47 l0 x5_1).f0)) ∧ w'.cell? ⟨(ad552.add ((x5_1).toNat * 5)).block, (ad552.add ((x5_1).toNat * 5)).off + 1, none⟩ = some (.int .i64 ((rd_T47 l0 x5_1).f1)) ∧ w'.cell? ⟨(ad552.add ((x5_1).toNat * 5)).block, (ad552.add ((x5_1).toNat * 5)).off + 2, none⟩ = some (.string ((rd_T47 l0 x5_1).f2)) ∧ w'.cell? ⟨(ad552.add ((x5_1).toNat * 5)).block, (ad552.add ((x5_1).toNat * 5)).off + 3, none⟩ = some (.string ((rd_T47 l0 x5_1).f3.f0)) ∧ w'.cell? ⟨(ad552.add ((x5_1).toNat * 5)).block, (ad552.add ((x5_1).toNat * 5)).off + 4, none⟩ = some (.slice A554_4 ((rd_T47 l0 x5_1).f3.f1).length c554_4)) (ds := []) (fl22_ 8 0) (by kernel_rfl) rfl rfl ⟨(zx HB hw554_0), (zx HB hw554_1), (zx HB hw554_2), (zx HB hw554_3), (zx HB hw554_4)⟩ (fun hHeld => ?_); refine with_tabW laws_heldRecordS.tab10 laws_heldRecordS.bits10 (fun HT_ HW_ => ?_)
   generalize wr.drew = w21 at HB HR554_4 hx554_0 hx554_1 hx554_2 hx554_3 hx554_4 hHeld ⊢
   refine zpu HT_ 0 30 (fl22_ 8 1) ?_
   refine zpu HT_ 1 31 (fl22_ 8 3) ?_
   refine zpu HT_ 2 32 (fl22_ 8 7) ?_
   refine zpu HT_ 3 33 (fl22_ 8 15) ?_
   refine zpu HT_ 5 35 (fl22_ 8 47) ?_
   refine take_ (i := 4) (N := some 34) (v := ?_) (a' := ?_) (fl22_ 8 63) rfl rfl (take_ofW HT_.out HW_.out (by kernel_rfl)) (fun _ _ _ h => h) (Or.inl ⟨by rfl, ?_⟩) hHeld ?_ ?_
   rotate_left
   ·rintro w' ⟨s0, s1, s2, s3, s4⟩
    go_simp
    with_reducible rfl
   rotate_left
   ·simp only [Act.put, List.setIfInBounds_toArray, List.set_cons_zero, List.set_cons_succ, i64_w, i32_w]
    rfl
   refine one_ (i := 6) (N := some 36) (fl22_ 8 127) rfl rfl (one_of HT_.out (by kernel_rfl)) (by decide) (fun K hK => ?_)
   refine goes_ Try.func60 (by kernel_rfl) rfl #[.int .i64 (wrap64 ((wrap64 (x1_1 + 1)) + 1))] (by rfl) rfl rfl zar ?_
   with_reducible refine (laws_markText.calls k1 (wrap64 ((wrap64 (x1_1 + 1)) + 1)) t555 _ A7.out).mono ?_
   rintro e w22 ⟨rfl, hb⟩
   refine ⟨_, rfl, ?_⟩
   replace HB := Aside0.mk (below_step (zh HB) hb)
   (try clear hb)
   (try clear hb2)
   (try clear hk)
   (try clear hi)
   refine hK.out _ _ ⟨(zx HB hw554_0), (zx HB hw554_1), (zx HB hw554_2), (zx HB hw554_3), (zx HB hw554_4)⟩ (fun hHeld => ?_)
   clear hK K
   refine norm_ (a' := ?_) ?_ ?_
   rotate_left
   ·show Act.put _ (some 36) _ = _
    simp only [Act.put, List.setIfInBounds_toArray, List.set_cons_zero, List.set_cons_succ, i64_w, i32_w]
    rfl
   refine zpu HT_ 7 37 (fl22_ 8 255) ?_
   refine done_ (done_of HT_.out (by kernel_rfl)) ?_
   try go_wp2
   replace HB := Aside0.mk (below_drew1 HB.out)
   have p556 : 0 ≤ (x5_1 : Int) := of_decide_eq_true zas
   have q556 : x5_1 < (l0.length : Int) := of_decide_eq_true zas
   obtain ⟨ad556, A556_4, c556_4, e556, hx556_0, hx556_1, hx556_2, hx556_3, hx556_4, hl556_4, hi556_4⟩ := at_T47 HR0.out x5_1 p556 q556
   have hw556_4 := hx556_4
   have hw556_3 := hx556_3
   have hw556_2 := hx556_2
   have hw556_1 := hx556_1
   have hw556_0 := hx556_0
   obtain rfl : ad552 = ad556 := (by injection e556)
   obtain ⟨rfl, rfl⟩ : A556_4 = A554_4 ∧ c556_4 = c554_4 := by have hu_ := hw554_4.symm.trans hx556_4; injection hu_ with hu_; injection hu_ with h1_ h2_ h3_; exact ⟨h1_.symm, h3_.symm⟩
   replace hx556_0 := zx HB hx556_0
   replace hx556_1 := zx HB hx556_1
   replace hx556_2 := zx HB hx556_2
   replace hx556_3 := zx HB hx556_3
   replace hx556_4 := zx HB hx556_4
   have HR556_4 := Aside0.mk hi556_4
   have HC556_4 := Aside0.mk hl556_4
   clear hi556_4 hl556_4
   replace p556 := eq_true p556
   replace q556 := eq_true q556
   refine start_ (n := 9) (S := fun w' => w'.cell? (ad552.add ((x5_1).toNat * 5)) = some (.int .i64 ((rd_T47 l0 x5_1).f0)) ∧ w'.cell? ⟨(ad552.add ((x5_1).toNat * 5)).block, (ad552.add ((x5_1).toNat * 5)).off + 1, none⟩ = some (.int .i64 ((rd_T47 l0 x5_1).f1)) ∧ w'.cell? ⟨(ad552.add ((x5_1).toNat * 5)).block, (ad552.add ((x5_1).toNat * 5)).off + 2, none⟩ = some (.string ((rd_T47 l0 x5_1).f2)) ∧ w'.cell? ⟨(ad552.add ((x5_1).toNat * 5)).block, (ad552.add ((x5_1).toNat * 5)).off + 3, none⟩ = some (.string ((rd_T47 l0 x5_1).f3.f0)) ∧ w'.cell? ⟨(ad552.add ((x5_1).toNat * 5)).block, (ad552.add ((x5_1).toNat * 5)).off + 4, none⟩ = some (.slice A556_4 ((rd_T47 l0 x5_1).f3.f1).length c556_4)) (ds := []) (fl22_ 9 0) (by kernel_rfl) rfl rfl ⟨(zx HB hw556_0), (zx HB hw556_1), (zx HB hw556_2), (zx HB hw556_3), (zx HB hw556_4)⟩ (fun hHeld => ?_); refine with_tabW laws_heldRecordS.tab13 laws_heldRecordS.bits13 (fun HT_ HW_ => ?_)
   generalize w22.drew = w24 at HB HR556_4 hx556_0 hx556_1 hx556_2 hx556_3 hx556_4 hHeld ⊢
   refine zpu HT_ 0 40 (fl22_ 9 1) ?_
   refine zpu HT_ 1 41 (fl22_ 9 3) ?_
   refine zpu HT_ 2 42 (fl22_ 9 7) ?_
   refine zpu HT_ 3 43 (fl22_ 9 15) ?_
   refine zpu HT_ 4 44 (fl22_ 9 31) ?_
   refine zpu HT_ 6 46 (fl22_ 9 95) ?_
   refine take_ (i := 5) (N := some 45) (v := ?_) (a' := ?_) (fl22_ 9 127) rfl rfl (take_ofW HT_.out HW_.out (by kernel_rfl)) (fun _ _ _ h => h) (Or.inl ⟨by rfl, ?_⟩) hHeld ?_ ?_
   rotate_left
   ·rintro w' ⟨s0, s1, s2, s3, s4⟩
    go_simp
    with_reducible rfl
   rotate_left
   ·simp only [Act.put, List.setIfInBounds_toArray, List.set_cons_zero, List.set_cons_succ, i64_w, i32_w]
    rfl
   refine one_ (i := 7) (N := some 47) (fl22_ 9 255) rfl rfl (one_of HT_.out (by kernel_rfl)) (by decide) (fun K hK => ?_)
   refine goes_ Try.func60 (by kernel_rfl) rfl #[.int .i64 (wrap64 ((wrap64 ((wrap64 (x1_1 + 1)) + 1)) + 1))] (by rfl) rfl rfl zar ?_
   with_reducible refine (laws_markText.calls k1 (wrap64 ((wrap64 ((wrap64 (x1_1 + 1)) + 1)) + 1)) t557 _ A9.out).mono ?_
   rintro e w25 ⟨rfl, hb⟩
   refine ⟨_, rfl, ?_⟩
   replace HB := Aside0.mk (below_step (zh HB) hb)
   (try clear hb)
   (try clear hb2)
   (try clear hk)
   (try clear hi)
   refine hK.out _ _ ⟨(zx HB hw556_0), (zx HB hw556_1), (zx HB hw556_2), (zx HB hw556_3), (zx HB hw556_4)⟩ (fun hHeld => ?_)
   clear hK K
   refine norm_ (a' := ?_) ?_ ?_
   rotate_left
   ·show Act.put _ (some 47) _ = _
    simp only [Act.put, List.setIfInBounds_toArray, List.set_cons_zero, List.set_cons_succ, i64_w, i32_w]
    rfl
   refine zpu HT_ 8 48 (fl22_ 9 511) ?_
   refine done_ (done_of HT_.out (by kernel_rfl)) ?_
   have p558 : 0 ≤ (x5_1 : Int) := of_decide_eq_true zas
   have q558 : x5_1 < (l0.length : Int) := of_decide_eq_true zas
   obtain ⟨ad558, A558_4, c558_4, e558, hx558_0, hx558_1, hx558_2, hx558_3, hx558_4, hl558_4, hi558_4⟩ := at_T47 HR0.out x5_1 p558 q558
   obtain rfl : ad552 = ad558 := (by injection e558)
   obtain ⟨rfl, rfl⟩ : A558_4 = A556_4 ∧ c558_4 = c556_4 := by have hu_ := hw556_4.symm.trans hx558_4; injection hu_ with hu_; injection hu_ with h1_ h2_ h3_; exact ⟨h1_.symm, h3_.symm⟩
   replace hx558_0 := zx HB hx558_0
   replace hx558_1 := zx HB hx558_1
   replace hx558_2 := zx HB hx558_2
   replace hx558_3 := zx HB hx558_3
   replace hx558_4 := zx HB hx558_4
   have HR558_4 := Aside0.mk hi558_4
   have HC558_4 := Aside0.mk hl558_4
   clear hi558_4 hl558_4
   replace p558 := eq_true p558
   replace q558 := eq_true q558
   try go_wp2_with (first | ((with_reducible refine gate_callee (f := 45) rfl ?_); refine goesL_ (some 58) rfl rfl Try.func45 (by kernel_rfl) rfl #[.slice A558_4 ((rd_T47 l0 x5_1).f3.f1).length c558_4, .int .i64 (wrap64 ((wrap64 ((wrap64 ((wrap64 (x1_1 + 1)) + 1)) + 1)) + 1))] rfl zar ?_; (with_reducible refine (laws_heldValueS.calls k1 _ _ ((rd_T47 l0 x5_1).f3.f1) (wrap64 ((wrap64 ((wrap64 ((wrap64 (x1_1 + 1)) + 1)) + 1)) + 1)) t559 _ ?side1 ?side2 A11.out).mono ?_); (case side1 => exact zC (Kd.C_below HR558_4.out HB.out)); (case side2 => exact HC558_4.out); rintro e w27 ⟨rfl, hb⟩; refine ⟨_, rfl, ?_⟩; replace HB := Aside0.mk (below_step (zh HB) hb); (try clear hb); (try clear hb2); (try clear hk); (try clear hi)))
   go_roundg k1
   case measure => have := HK1.out; omega
   case rel => exact ⟨(t559), (wrap64 (x5_1 + 1)), zrs, zrs, H', ⟨by have := HK1.out; omega⟩, ⟨zh HB⟩⟩
end Go.Proofs.Ytnpdmleglcbobaa.XFnExactReadLog
