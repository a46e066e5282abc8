-- A printed text of this session (wip/x/xprint.py).
import Derived.Test.YtnpdmleglcbobaaXFnExactReadLogx0
import Derived.Test.YtnpdmleglcbobaaXFnExactReadLogx17
namespace Go.Proofs.Ytnpdmleglcbobaa.XFnExactReadLog
open Go.RowKit Go.Proofs.YtnpdmleglcbobaaW.PrintWords Go.Proofs.YtnpdmleglcbobaaW.PrintLast Go.Proofs.YtnpdmleglcbobaaW.PrintMore
attribute [local go_sem] max2_int min2_int max_two min_two max_three min_three max_four min_four   -- for this text's walks alone
set_option linter.unusedVariables false
set_option linter.unusedSimpArgs false
def fl18_ (n m : Nat) : Array Bool := ((List.range n).map fun i => m.testBit i).toArray

/-! ### laws_eqValueS: function 41 -/
def laws_eqValueS.l0 : Nat → List (S66) → List (S66) → Int → Option (Bool)
 | 0, _, _, _ => none
 | k + 1, x0, x1, x5 => if x5 < (x0.length : Int) then (if 0 ≤ x5 then (if x5 < (x1.length : Int) then ((laws_eqValue.f k ((rd_T66 x0 x5).f0) ((rd_T66 x0 x5).f1) ((rd_T66 x0 x5).f2) ((rd_T66 x1 x5).f0) ((rd_T66 x1 x5).f1) ((rd_T66 x1 x5).f2)).bind fun t527 => (if t527 = true then (laws_eqValueS.l0 k x0 x1 (wrap64 (x5 + 1))) else (some false))) else (none)) else (none)) else (some true)
def laws_eqValueS.f (k : Nat) (l0 : List (S66)) (l1 : List (S66)) : Option (Bool) := if (l0.length : Int) = (l1.length : Int) then (laws_eqValueS.l0 k l0 l1 0) else (some false)
theorem laws_eqValueS.mono_l : ∀ k, (∀ y0 y1 y2, LeO (laws_eqValueS.l0 k y0 y1 y2) (laws_eqValueS.l0 (k + 1) y0 y1 y2))
 | 0 => fun _ _ _ r h => by simp [laws_eqValueS.l0] at h
 | k + 1 => by
  have ih0 := laws_eqValueS.mono_l k
  ·intro y0 y1 y2
   unfold laws_eqValueS.l0
   repeat' first
   | (with_reducible exact ih0 _ _ _)
   | (with_reducible exact laws_eqValue.mono _ _ _ _ _ _ _)
   | (with_reducible exact LeO.refl _)
   | (with_reducible exact LeO.none _)
   | (with_reducible refine LeO.ite ?_ ?_)
   | (with_reducible refine LeO.bind ?_ (fun _ => ?_))
theorem laws_eqValueS.mono : ∀ a0 a1 k, LeO (laws_eqValueS.f k a0 a1) (laws_eqValueS.f (k + 1) a0 a1) := by
 intro a0 a1 k
 have ih0 := laws_eqValueS.mono_l k
 unfold laws_eqValueS.f
 repeat' first
  | (with_reducible exact ih0 _ _ _)
  | (with_reducible exact laws_eqValue.mono _ _ _ _ _ _ _)
  | (with_reducible exact LeO.refl _)
  | (with_reducible exact LeO.none _)
  | (with_reducible refine LeO.ite ?_ ?_)
  | (with_reducible refine LeO.bind ?_ (fun _ => ?_))
def laws_eqValueS.T6 : Bool × List (List Nat × List Nat) := (true, [([], []), ([], []), ([0, 1], [0, 1]), ([2], [2]), ([], []), ([], []), ([4, 5], [4, 5]), ([6], [6]), ([3, 7], [3, 7]), ([8], [8])])
def laws_eqValueS.B6 : List Nat := [0, 0, 3, 7, 0, 0, 48, 112, 255, 511]
theorem laws_eqValueS.tab6 : rtab .any (opsOf Try.f41 6) = laws_eqValueS.T6 := by kernel_rfl
theorem laws_eqValueS.bits6 : waitsOk laws_eqValueS.T6.2 laws_eqValueS.B6 = true := by kernel_rfl
set_option maxHeartbeats 8000000 in
set_option maxRecDepth 100000 in
theorem laws_eqValueS.calls (k : Nat) (A0 : Option Addr) (c0 : Nat) (l0 : List (S66)) (A1 : Option Addr) (c1 : Nat) (l1 : List (S66)) (r : Bool) (w : World) (hr0 : Kd.C k66 w A0 l0.length l0) (hc0 : l0.length ≤ c0) (hr1 : Kd.C k66 w A1 l1.length l1) (hc1 : l1.length ≤ c1) (h : laws_eqValueS.f k l0 l1 = some r) :
 Calls Try.prog 41 #[.slice A0 l0.length c0, .slice A1 l1.length c1] w fun e w' => e = .returned (.bool r) ∧ Below w.heap.size w w' := by
 have hu66 := Try.underlying66
 have HR0 := Aside0.mk hr0
 have HC0 := Aside0.mk hc0
 clear hr0 hc0
 have HR1 := Aside0.mk hr1
 have HC1 := Aside0.mk hc1
 clear hr1 hc1
 have HB := Aside0.mk (Below.refl w.heap.size w)
 have H := h
 unfold laws_eqValueS.f at H
 clear h
 by_cases c3 : (l0.length : Int) = (l1.length : Int)
 rotate_left
 ·rw [if_neg c3] at H
  have c3b0 : ((l0.length : Int) == (l1.length : Int)) = false := beq_eq_false_iff_ne.mpr c3
  have c3b1 : ((l0.length : Int) != (l1.length : Int)) = true := bne_iff_ne.mpr c3
  have c3b2 : (l0.length == l1.length) = false := by first | simpa using c3 | (simp at c3 ⊢; omega)
  obtain rfl := Option.some.inj H
  go_enter Try.func41, Try.ntmps41
  go_wp2
  go_ret
  exact ⟨zre, zh HB⟩

 rw [if_pos c3] at H
 have c3b0 : ((l0.length : Int) == (l1.length : Int)) = true := beq_iff_eq.mpr c3
 have c3b1 : ((l0.length : Int) != (l1.length : Int)) = false := bne_eq_false_iff_eq.mpr c3
 have c3b2 : (l0.length == l1.length) = true := by first | simpa using c3 | (simp at c3 ⊢; omega)
 clear c3
 have H' := Aside0.mk H
 clear H
 go_enter Try.func41, Try.ntmps41
 go_wp2
 go_loopg [5] k (fun kq v5 w' => ∃ (x5_1 : Int), v5 = .int .i64 x5_1 ∧ Aside0 (laws_eqValueS.l0 kq l0 l1 x5_1 = some r) ∧ Aside0 (kq ≤ k) ∧ Aside0 (Below w.heap.size w w'))
 case atStart => exact ⟨(0), zrs, H', ⟨Nat.le_refl _⟩, ⟨zh HB⟩⟩
 case round =>
  clear H'
  try clear c1
  try clear c3
  try clear c3b0
  try clear c3b1
  try clear c3b2
  obtain ⟨x5_1, rfl, HA, HK1, HB⟩ := hrel
  cases gk with
  | zero => exact absurd HA.out (by simp [laws_eqValueS.l0])
  | succ k1 =>
   have H := HA.out
   clear HA
   simp only [laws_eqValueS.l0] at H
   by_cases c4 : x5_1 < (l0.length : Int)
   rotate_left
   ·rw [if_neg c4] at H
    have c4b0 : decide (x5_1 < (l0.length : Int)) = false := decide_eq_false c4
    clear c4
    obtain rfl := Option.some.inj H
    go_wp2
    go_ret
    exact ⟨zre, zh HB⟩
   rw [if_pos c4] at H
   have c4b0 : decide (x5_1 < (l0.length : Int)) = true := decide_eq_true c4
   clear c4
   by_cases c5 : 0 ≤ x5_1
   rotate_left
   ·rw [if_neg c5] at H
    exact absurd H (by simp)
   rw [if_pos c5] at H
   have c5b0 : decide (0 ≤ x5_1) = true := decide_eq_true c5
   clear c5
   by_cases c6 : x5_1 < (l1.length : Int)
   rotate_left
   ·rw [if_neg c6] at H
    exact absurd H (by simp)
   rw [if_pos c6] at H
   have c6b0 : decide (x5_1 < (l1.length : Int)) = true := decide_eq_true c6
   clear c6
   replace H := Option.bind_eq_some_iff.mp H
   obtain ⟨t527, A70, H⟩ := H
   try dsimp only at H
   have A7 := Aside0.mk A70
   clear A70
   by_cases c8 : t527 = true
   rotate_left
   ·replace c8 := Bool.eq_false_iff.mpr c8
    subst c8
    rw [if_neg (show ¬ (false = true) by decide)] at H
    obtain rfl := Option.some.inj H
    try go_wp2
    replace HB := Aside0.mk (below_drew1 HB.out)
    have p525 : 0 ≤ (x5_1 : Int) := of_decide_eq_true zas
    have q525 : x5_1 < (l0.length : Int) := of_decide_eq_true zas
    obtain ⟨ad525, A525_1, c525_1, A525_2, c525_2, e525, hx525_0, hx525_1, hx525_2, hl525_1, hi525_1, hl525_2, hi525_2⟩ := at_T66 HR0.out x5_1 p525 q525
    have hw525_2 := hx525_2
    have hw525_1 := hx525_1
    have hw525_0 := hx525_0
    cases e525
    replace hx525_0 := zx HB hx525_0
    replace hx525_1 := zx HB hx525_1
    replace hx525_2 := zx HB hx525_2
    have HR525_1 := Aside0.mk hi525_1
    have HC525_1 := Aside0.mk hl525_1
    clear hi525_1 hl525_1
    have HR525_2 := Aside0.mk hi525_2
    have HC525_2 := Aside0.mk hl525_2
    clear hi525_2 hl525_2
    replace p525 := eq_true p525
    replace q525 := eq_true q525
    have p526 : 0 ≤ (x5_1 : Int) := of_decide_eq_true zas
    have q526 : x5_1 < (l1.length : Int) := of_decide_eq_true zas
    obtain ⟨ad526, A526_1, c526_1, A526_2, c526_2, e526, hx526_0, hx526_1, hx526_2, hl526_1, hi526_1, hl526_2, hi526_2⟩ := at_T66 HR1.out x5_1 p526 q526
    have hw526_2 := hx526_2
    have hw526_1 := hx526_1
    have hw526_0 := hx526_0
    cases e526
    replace hx526_0 := zx HB hx526_0
    replace hx526_1 := zx HB hx526_1
    replace hx526_2 := zx HB hx526_2
    have HR526_1 := Aside0.mk hi526_1
    have HC526_1 := Aside0.mk hl526_1
    clear hi526_1 hl526_1
    have HR526_2 := Aside0.mk hi526_2
    have HC526_2 := Aside0.mk hl526_2
    clear hi526_2 hl526_2
    replace p526 := eq_true p526
    replace q526 := eq_true q526
    refine start_ (n := 10) (S := fun w' => w'.cell? (ad525.add ((x5_1).toNat * 3)) = some (.string ((rd_T66 l0 x5_1).f0)) ∧ w'.cell? ⟨(ad525.add ((x5_1).toNat * 3)).block, (ad525.add ((x5_1).toNat * 3)).off + 1, none⟩ = some (.slice A525_1 ((rd_T66 l0 x5_1).f1).length c525_1) ∧ w'.cell? ⟨(ad525.add ((x5_1).toNat * 3)).block, (ad525.add ((x5_1).toNat * 3)).off + 2, none⟩ = some (.slice A525_2 ((rd_T66 l0 x5_1).f2).length c525_2) ∧ w'.cell? (ad526.add ((x5_1).toNat * 3)) = some (.string ((rd_T66 l1 x5_1).f0)) ∧ w'.cell? ⟨(ad526.add ((x5_1).toNat * 3)).block, (ad526.add ((x5_1).toNat * 3)).off + 1, none⟩ = some (.slice A526_1 ((rd_T66 l1 x5_1).f1).length c526_1) ∧ w'.cell? ⟨(ad526.add ((x5_1).toNat * 3)).block, (ad526.add ((x5_1).toNat * 3)).off + 2, none⟩ = some (.slice A526_2 ((rd_T66 l1 x5_1).f2).length c526_2)) (ds := []) (fl18_ 10 0) (by kernel_rfl) rfl rfl ⟨(zx HB hw525_0), (zx HB hw525_1), (zx HB hw525_2), (zx HB hw526_0), (zx HB hw526_1), (zx HB hw526_2)⟩ (fun hHeld => ?_); refine with_tabW laws_eqValueS.tab6 laws_eqValueS.bits6 (fun HT_ HW_ => ?_)
    generalize wr.drew = w12 at HB HR525_1 HR525_2 HR526_1 HR526_2 hx525_0 hx525_1 hx525_2 hx526_0 hx526_1 hx526_2 hHeld ⊢
    refine zpu HT_ 0 17 (fl18_ 10 1) ?_
    refine zpu HT_ 1 18 (fl18_ 10 3) ?_
    refine zpu HT_ 2 19 (fl18_ 10 7) ?_
    refine zpu HT_ 4 21 (fl18_ 10 23) ?_
    refine zpu HT_ 5 22 (fl18_ 10 55) ?_
    refine zpu HT_ 6 23 (fl18_ 10 119) ?_
    refine take_ (i := 3) (N := some 20) (v := ?_) (a' := ?_) (fl18_ 10 127) rfl rfl (take_ofW HT_.out HW_.out (by kernel_rfl)) (fun _ _ _ h => h) (Or.inl ⟨by rfl, ?_⟩) hHeld ?_ ?_
    rotate_left
    ·rintro w' ⟨s0, s1, s2, s3, s4, s5⟩
     go_simp
     with_reducible rfl
    rotate_left
    ·simp only [Act.put, List.setIfInBounds_toArray, List.set_cons_zero, List.set_cons_succ, i64_w, i32_w]
     rfl
    refine take_ (i := 7) (N := some 24) (v := ?_) (a' := ?_) (fl18_ 10 255) rfl rfl (take_ofW HT_.out HW_.out (by kernel_rfl)) (fun _ _ _ h => h) (Or.inl ⟨by rfl, ?_⟩) hHeld ?_ ?_
    rotate_left
    ·rintro w' ⟨s0, s1, s2, s3, s4, s5⟩
     go_simp
     with_reducible rfl
    rotate_left
    ·simp only [Act.put, List.setIfInBounds_toArray, List.set_cons_zero, List.set_cons_succ, i64_w, i32_w]
     rfl
    refine one_ (i := 8) (N := some 25) (fl18_ 10 511) rfl rfl (one_of HT_.out (by kernel_rfl)) (by decide) (fun K hK => ?_)
    refine goes_ Try.func66 (by kernel_rfl) rfl #[.agg #[.string ((rd_T66 l0 x5_1).f0), .slice A525_1 ((rd_T66 l0 x5_1).f1).length c525_1, .slice A525_2 ((rd_T66 l0 x5_1).f2).length c525_2], .agg #[.string ((rd_T66 l1 x5_1).f0), .slice A526_1 ((rd_T66 l1 x5_1).f1).length c526_1, .slice A526_2 ((rd_T66 l1 x5_1).f2).length c526_2]] (by rfl) rfl rfl zar ?_
    with_reducible refine (laws_eqValue.calls k1 ((rd_T66 l0 x5_1).f0) _ _ ((rd_T66 l0 x5_1).f1) _ _ ((rd_T66 l0 x5_1).f2) ((rd_T66 l1 x5_1).f0) _ _ ((rd_T66 l1 x5_1).f1) _ _ ((rd_T66 l1 x5_1).f2) false _ ?side1 ?side2 ?side3 ?side4 ?side5 ?side6 ?side7 ?side8 A7.out).mono ?_
    (case side1 => exact zC (Kd.C_below HR525_1.out HB.out))
    (case side2 => exact HC525_1.out)
    (case side3 => exact zC (Kd.C_below HR525_2.out HB.out))
    (case side4 => exact HC525_2.out)
    (case side5 => exact zC (Kd.C_below HR526_1.out HB.out))
    (case side6 => exact HC526_1.out)
    (case side7 => exact zC (Kd.C_below HR526_2.out HB.out))
    (case side8 => exact HC526_2.out)
    rintro e w13 ⟨rfl, hb⟩
    refine ⟨_, rfl, ?_⟩
    replace HB := Aside0.mk (below_step (zh HB) hb)
    (try clear hb)
    (try clear hb2)
    (try clear hk)
    (try clear hi)
    refine hK.out _ _ ⟨(zx HB hw525_0), (zx HB hw525_1), (zx HB hw525_2), (zx HB hw526_0), (zx HB hw526_1), (zx HB hw526_2)⟩ (fun hHeld => ?_)
    clear hK K
    refine norm_ (a' := ?_) ?_ ?_
    rotate_left
    ·show Act.put _ (some 25) _ = _
     simp only [Act.put, List.setIfInBounds_toArray, List.set_cons_zero, List.set_cons_succ, i64_w, i32_w]
     rfl
    refine zpu HT_ 9 26 (fl18_ 10 1023) ?_
    refine done_ (done_of HT_.out (by kernel_rfl)) ?_
    try go_wp2
    go_ret
    exact ⟨zre, zh HB⟩
   subst c8
   rw [if_pos rfl] at H
   have H' := Aside0.mk H
   clear H
   try go_wp2
   replace HB := Aside0.mk (below_drew1 HB.out)
   have p525 : 0 ≤ (x5_1 : Int) := of_decide_eq_true zas
   have q525 : x5_1 < (l0.length : Int) := of_decide_eq_true zas
   obtain ⟨ad525, A525_1, c525_1, A525_2, c525_2, e525, hx525_0, hx525_1, hx525_2, hl525_1, hi525_1, hl525_2, hi525_2⟩ := at_T66 HR0.out x5_1 p525 q525
   have hw525_2 := hx525_2
   have hw525_1 := hx525_1
   have hw525_0 := hx525_0
   cases e525
   replace hx525_0 := zx HB hx525_0
   replace hx525_1 := zx HB hx525_1
   replace hx525_2 := zx HB hx525_2
   have HR525_1 := Aside0.mk hi525_1
   have HC525_1 := Aside0.mk hl525_1
   clear hi525_1 hl525_1
   have HR525_2 := Aside0.mk hi525_2
   have HC525_2 := Aside0.mk hl525_2
   clear hi525_2 hl525_2
   replace p525 := eq_true p525
   replace q525 := eq_true q525
   have p526 : 0 ≤ (x5_1 : Int) := of_decide_eq_true zas
   have q526 : x5_1 < (l1.length : Int) := of_decide_eq_true zas
   obtain ⟨ad526, A526_1, c526_1, A526_2, c526_2, e526, hx526_0, hx526_1, hx526_2, hl526_1, hi526_1, hl526_2, hi526_2⟩ := at_T66 HR1.out x5_1 p526 q526
   have hw526_2 := hx526_2
   have hw526_1 := hx526_1
   have hw526_0 := hx526_0
   cases e526
   replace hx526_0 := zx HB hx526_0
   replace hx526_1 := zx HB hx526_1
   replace hx526_2 := zx HB hx526_2
   have HR526_1 := Aside0.mk hi526_1
   have HC526_1 := Aside0.mk hl526_1
   clear hi526_1 hl526_1
   have HR526_2 := Aside0.mk hi526_2
   have HC526_2 := Aside0.mk hl526_2
   clear hi526_2 hl526_2
   replace p526 := eq_true p526
   replace q526 := eq_true q526
   refine start_ (n := 10) (S := fun w' => w'.cell? (ad525.add ((x5_1).toNat * 3)) = some (.string ((rd_T66 l0 x5_1).f0)) ∧ w'.cell? ⟨(ad525.add ((x5_1).toNat * 3)).block, (ad525.add ((x5_1).toNat * 3)).off + 1, none⟩ = some (.slice A525_1 ((rd_T66 l0 x5_1).f1).length c525_1) ∧ w'.cell? ⟨(ad525.add ((x5_1).toNat * 3)).block, (ad525.add ((x5_1).toNat * 3)).off + 2, none⟩ = some (.slice A525_2 ((rd_T66 l0 x5_1).f2).length c525_2) ∧ w'.cell? (ad526.add ((x5_1).toNat * 3)) = some (.string ((rd_T66 l1 x5_1).f0)) ∧ w'.cell? ⟨(ad526.add ((x5_1).toNat * 3)).block, (ad526.add ((x5_1).toNat * 3)).off + 1, none⟩ = some (.slice A526_1 ((rd_T66 l1 x5_1).f1).length c526_1) ∧ w'.cell? ⟨(ad526.add ((x5_1).toNat * 3)).block, (ad526.add ((x5_1).toNat * 3)).off + 2, none⟩ = some (.slice A526_2 ((rd_T66 l1 x5_1).f2).length c526_2)) (ds := []) (fl18_ 10 0) (by kernel_rfl) rfl rfl ⟨(zx HB hw525_0), (zx HB hw525_1), (zx HB hw525_2), (zx HB hw526_0), (zx HB hw526_1), (zx HB hw526_2)⟩ (fun hHeld => ?_); refine with_tabW laws_eqValueS.tab6 laws_eqValueS.bits6 (fun HT_ HW_ => ?_)
   generalize wr.drew = w9 at HB HR525_1 HR525_2 HR526_1 HR526_2 hx525_0 hx525_1 hx525_2 hx526_0 hx526_1 hx526_2 hHeld ⊢
   refine zpu HT_ 0 17 (fl18_ 10 1) ?_
   refine zpu HT_ 1 18 (fl18_ 10 3) ?_
   refine zpu HT_ 2 19 (fl18_ 10 7) ?_
   refine zpu HT_ 4 21 (fl18_ 10 23) ?_
   refine zpu HT_ 5 22 (fl18_ 10 55) ?_
   refine zpu HT_ 6 23 (fl18_ 10 119) ?_
   refine take_ (i := 3) (N := some 20) (v := ?_) (a' := ?_) (fl18_ 10 127) rfl rfl (take_ofW HT_.out HW_.out (by kernel_rfl)) (fun _ _ _ h => h) (Or.inl ⟨by rfl, ?_⟩) hHeld ?_ ?_
   rotate_left
   ·rintro w' ⟨s0, s1, s2, s3, s4, s5⟩
    go_simp
    with_reducible rfl
   rotate_left
   ·simp only [Act.put, List.setIfInBounds_toArray, List.set_cons_zero, List.set_cons_succ, i64_w, i32_w]
    rfl
   refine take_ (i := 7) (N := some 24) (v := ?_) (a' := ?_) (fl18_ 10 255) rfl rfl (take_ofW HT_.out HW_.out (by kernel_rfl)) (fun _ _ _ h => h) (Or.inl ⟨by rfl, ?_⟩) hHeld ?_ ?_
   rotate_left
   ·rintro w' ⟨s0, s1, s2, s3, s4, s5⟩
    go_simp
    with_reducible rfl
   rotate_left
   ·simp only [Act.put, List.setIfInBounds_toArray, List.set_cons_zero, List.set_cons_succ, i64_w, i32_w]
    rfl
   refine one_ (i := 8) (N := some 25) (fl18_ 10 511) rfl rfl (one_of HT_.out (by kernel_rfl)) (by decide) (fun K hK => ?_)
   refine goes_ Try.func66 (by kernel_rfl) rfl #[.agg #[.string ((rd_T66 l0 x5_1).f0), .slice A525_1 ((rd_T66 l0 x5_1).f1).length c525_1, .slice A525_2 ((rd_T66 l0 x5_1).f2).length c525_2], .agg #[.string ((rd_T66 l1 x5_1).f0), .slice A526_1 ((rd_T66 l1 x5_1).f1).length c526_1, .slice A526_2 ((rd_T66 l1 x5_1).f2).length c526_2]] (by rfl) rfl rfl zar ?_
   with_reducible refine (laws_eqValue.calls k1 ((rd_T66 l0 x5_1).f0) _ _ ((rd_T66 l0 x5_1).f1) _ _ ((rd_T66 l0 x5_1).f2) ((rd_T66 l1 x5_1).f0) _ _ ((rd_T66 l1 x5_1).f1) _ _ ((rd_T66 l1 x5_1).f2) true _ ?side1 ?side2 ?side3 ?side4 ?side5 ?side6 ?side7 ?side8 A7.out).mono ?_
   (case side1 => exact zC (Kd.C_below HR525_1.out HB.out))
   (case side2 => exact HC525_1.out)
   (case side3 => exact zC (Kd.C_below HR525_2.out HB.out))
   (case side4 => exact HC525_2.out)
   (case side5 => exact zC (Kd.C_below HR526_1.out HB.out))
   (case side6 => exact HC526_1.out)
   (case side7 => exact zC (Kd.C_below HR526_2.out HB.out))
   (case side8 => exact HC526_2.out)
   rintro e w10 ⟨rfl, hb⟩
   refine ⟨_, rfl, ?_⟩
   replace HB := Aside0.mk (below_step (zh HB) hb)
   (try clear hb)
   (try clear hb2)
   (try clear hk)
   (try clear hi)
   refine hK.out _ _ ⟨(zx HB hw525_0), (zx HB hw525_1), (zx HB hw525_2), (zx HB hw526_0), (zx HB hw526_1), (zx HB hw526_2)⟩ (fun hHeld => ?_)
   clear hK K
   refine norm_ (a' := ?_) ?_ ?_
   rotate_left
   ·show Act.put _ (some 25) _ = _
    simp only [Act.put, List.setIfInBounds_toArray, List.set_cons_zero, List.set_cons_succ, i64_w, i32_w]
    rfl
   refine zpu HT_ 9 26 (fl18_ 10 1023) ?_
   refine done_ (done_of HT_.out (by kernel_rfl)) ?_
   try go_wp2
   go_roundg k1
   case measure => have := HK1.out; omega
   case rel => exact ⟨(wrap64 (x5_1 + 1)), zrs, H', ⟨by have := HK1.out; omega⟩, ⟨zh HB⟩⟩
/-! ### laws_eqDoc: function 13 -/
def laws_eqDoc.f (k : Nat) (a0_0 : ByteArray) (l0_1 : List (S66)) (a1_0 : ByteArray) (l1_1 : List (S66)) : Option (Bool) := if a0_0.toList = a1_0.toList then ((laws_eqValueS.f k l0_1 l1_1).bind fun t530 => (if t530 = true then (some true) else (some false))) else (some false)
theorem laws_eqDoc.mono : ∀ a0 a1 a2 a3 k, LeO (laws_eqDoc.f k a0 a1 a2 a3) (laws_eqDoc.f (k + 1) a0 a1 a2 a3) := by
 intro a0 a1 a2 a3 k
 unfold laws_eqDoc.f
 repeat' first
  | (with_reducible exact laws_eqValueS.mono _ _ _)
  | (with_reducible exact LeO.refl _)
  | (with_reducible exact LeO.none _)
  | (with_reducible refine LeO.ite ?_ ?_)
  | (with_reducible refine LeO.bind ?_ (fun _ => ?_))
set_option maxHeartbeats 8000000 in
set_option maxRecDepth 100000 in
theorem laws_eqDoc.calls (k : Nat) (a0_0 : ByteArray) (A0_1 : Option Addr) (c0_1 : Nat) (l0_1 : List (S66)) (a1_0 : ByteArray) (A1_1 : Option Addr) (c1_1 : Nat) (l1_1 : List (S66)) (r : Bool) (w : World) (hr0_1 : Kd.C k66 w A0_1 l0_1.length l0_1) (hc0_1 : l0_1.length ≤ c0_1) (hr1_1 : Kd.C k66 w A1_1 l1_1.length l1_1) (hc1_1 : l1_1.length ≤ c1_1) (h : laws_eqDoc.f k a0_0 l0_1 a1_0 l1_1 = some r) :
 Calls Try.prog 13 #[.agg #[.string a0_0, .slice A0_1 l0_1.length c0_1], .agg #[.string a1_0, .slice A1_1 l1_1.length c1_1]] w fun e w' => e = .returned (.bool r) ∧ Below w.heap.size w w' := by
 have hu31 := Try.underlying31
 have HR0_1 := Aside0.mk hr0_1
 have HC0_1 := Aside0.mk hc0_1
 clear hr0_1 hc0_1
 have HR1_1 := Aside0.mk hr1_1
 have HC1_1 := Aside0.mk hc1_1
 clear hr1_1 hc1_1
 have HB := Aside0.mk (Below.refl w.heap.size w)
 have H := h
 unfold laws_eqDoc.f at H
 clear h
 by_cases c3 : a0_0.toList = a1_0.toList
 rotate_left
 ·rw [if_neg c3] at H
  have c3b0 : (a0_0.toList == a1_0.toList) = false := beq_eq_false_iff_ne.mpr c3
  have c3b1 : (a0_0.toList != a1_0.toList) = true := bne_iff_ne.mpr c3
  obtain rfl := Option.some.inj H
  go_enter Try.func13, Try.ntmps13
  go_wp2_with (first | ((with_reducible refine gate_dst (N := 2) rfl ?_); refine box_event (by rfl) (N := 2) (by rfl) (cs := #[.string a0_0, .slice A0_1 l0_1.length c0_1]) (t := 31) zgs ?_; intro gb528 hg w20 hbox hb; have BK528 := Aside0.mk (hbox); have GW528 := zge hg (below_size (zh HB)); have GE528 := zge hg (below_size (zh HB)); replace HB := Aside0.mk (below_step (zh HB) hb); clear hb hbox hg) | ((with_reducible refine gate_dst (N := 3) rfl ?_); refine box_event (by rfl) (N := 3) (by rfl) (cs := #[.string a1_0, .slice A1_1 l1_1.length c1_1]) (t := 31) zgs ?_; intro gb529 hg w21 hbox hb; have BK529 := Aside0.mk (hbox); have GW529 := zge hg (below_size (zg HB)); have GE529 := zge hg (below_size (zg HB)); replace HB := Aside0.mk (below_step (zg HB) hb); have NB528_529 := znl hg (blk_lt (zb BK528)); have NB529_528 := zng hg (blk_lt (zb BK528)); replace BK528 := Aside0.mk (blk_below (zb BK528) hb); clear hb hbox hg; have hnb22 := NB528_529.out; have hnc22 := NB529_528.out; obtain ⟨⟨hcz23_0, hcz23_1⟩, hfz23_0, hfz23_1⟩ := zc2 BK528; obtain ⟨⟨hcz24_0, hcz24_1⟩, hfz24_0, hfz24_1⟩ := zc2 BK529))
  go_ret
  exact ⟨zre, zg HB⟩

 rw [if_pos c3] at H
 have c3b0 : (a0_0.toList == a1_0.toList) = true := beq_iff_eq.mpr c3
 have c3b1 : (a0_0.toList != a1_0.toList) = false := bne_eq_false_iff_eq.mpr c3
 clear c3
 replace H := Option.bind_eq_some_iff.mp H
 obtain ⟨t530, A40, H⟩ := H
 try dsimp only at H
 have A4 := Aside0.mk A40
 clear A40
 by_cases c5 : t530 = true
 ·subst c5
  rw [if_pos rfl] at H
  obtain rfl := Option.some.inj H
  go_enter Try.func13, Try.ntmps13
  go_wp2_with (first | ((with_reducible refine gate_dst (N := 2) rfl ?_); refine box_event (by rfl) (N := 2) (by rfl) (cs := #[.string a0_0, .slice A0_1 l0_1.length c0_1]) (t := 31) zgs ?_; intro gb528 hg w6 hbox hb; have BK528 := Aside0.mk (hbox); have GW528 := zge hg (below_size (zh HB)); have GE528 := zge hg (below_size (zh HB)); replace HB := Aside0.mk (below_step (zh HB) hb); clear hb hbox hg) | ((with_reducible refine gate_dst (N := 3) rfl ?_); refine box_event (by rfl) (N := 3) (by rfl) (cs := #[.string a1_0, .slice A1_1 l1_1.length c1_1]) (t := 31) zgs ?_; intro gb529 hg w7 hbox hb; have BK529 := Aside0.mk (hbox); have GW529 := zge hg (below_size (zg HB)); have GE529 := zge hg (below_size (zg HB)); replace HB := Aside0.mk (below_step (zg HB) hb); have NB528_529 := znl hg (blk_lt (zb BK528)); have NB529_528 := zng hg (blk_lt (zb BK528)); replace BK528 := Aside0.mk (blk_below (zb BK528) hb); clear hb hbox hg; have hnb8 := NB528_529.out; have hnc8 := NB529_528.out; obtain ⟨⟨hcz9_0, hcz9_1⟩, hfz9_0, hfz9_1⟩ := zc2 BK528; obtain ⟨⟨hcz10_0, hcz10_1⟩, hfz10_0, hfz10_1⟩ := zc2 BK529) | ((with_reducible refine gate_callee (f := 41) rfl ?_); refine goesL_ (some 14) rfl rfl Try.func41 (by kernel_rfl) rfl #[.slice A0_1 l0_1.length c0_1, .slice A1_1 l1_1.length c1_1] rfl zar ?_; (with_reducible refine (laws_eqValueS.calls k _ _ l0_1 _ _ l1_1 true _ ?side1 ?side2 ?side3 ?side4 A4.out).mono ?_); (case side1 => exact zC (Kd.C_below HR0_1.out HB.out)); (case side2 => exact HC0_1.out); (case side3 => exact zC (Kd.C_below HR1_1.out HB.out)); (case side4 => exact HC1_1.out); rintro e w11 ⟨rfl, hb⟩; refine ⟨_, rfl, ?_⟩; replace BK528 := Aside0.mk (blk_below (zb BK528) hb); replace BK529 := Aside0.mk (blk_below (zb BK529) hb); replace HB := Aside0.mk (below_step (zg HB) hb); (try clear hb); (try clear hb2); (try clear hk); (try clear hi)))
  go_ret
  exact ⟨zre, zg HB⟩
 replace c5 := Bool.eq_false_iff.mpr c5
 subst c5
 rw [if_neg (show ¬ (false = true) by decide)] at H
 obtain rfl := Option.some.inj H
 go_enter Try.func13, Try.ntmps13
 go_wp2_with (first | ((with_reducible refine gate_dst (N := 2) rfl ?_); refine box_event (by rfl) (N := 2) (by rfl) (cs := #[.string a0_0, .slice A0_1 l0_1.length c0_1]) (t := 31) zgs ?_; intro gb528 hg w13 hbox hb; have BK528 := Aside0.mk (hbox); have GW528 := zge hg (below_size (zh HB)); have GE528 := zge hg (below_size (zh HB)); replace HB := Aside0.mk (below_step (zh HB) hb); clear hb hbox hg) | ((with_reducible refine gate_dst (N := 3) rfl ?_); refine box_event (by rfl) (N := 3) (by rfl) (cs := #[.string a1_0, .slice A1_1 l1_1.length c1_1]) (t := 31) zgs ?_; intro gb529 hg w14 hbox hb; have BK529 := Aside0.mk (hbox); have GW529 := zge hg (below_size (zg HB)); have GE529 := zge hg (below_size (zg HB)); replace HB := Aside0.mk (below_step (zg HB) hb); have NB528_529 := znl hg (blk_lt (zb BK528)); have NB529_528 := zng hg (blk_lt (zb BK528)); replace BK528 := Aside0.mk (blk_below (zb BK528) hb); clear hb hbox hg; have hnb15 := NB528_529.out; have hnc15 := NB529_528.out; obtain ⟨⟨hcz16_0, hcz16_1⟩, hfz16_0, hfz16_1⟩ := zc2 BK528; obtain ⟨⟨hcz17_0, hcz17_1⟩, hfz17_0, hfz17_1⟩ := zc2 BK529) | ((with_reducible refine gate_callee (f := 41) rfl ?_); refine goesL_ (some 14) rfl rfl Try.func41 (by kernel_rfl) rfl #[.slice A0_1 l0_1.length c0_1, .slice A1_1 l1_1.length c1_1] rfl zar ?_; (with_reducible refine (laws_eqValueS.calls k _ _ l0_1 _ _ l1_1 false _ ?side1 ?side2 ?side3 ?side4 A4.out).mono ?_); (case side1 => exact zC (Kd.C_below HR0_1.out HB.out)); (case side2 => exact HC0_1.out); (case side3 => exact zC (Kd.C_below HR1_1.out HB.out)); (case side4 => exact HC1_1.out); rintro e w18 ⟨rfl, hb⟩; refine ⟨_, rfl, ?_⟩; replace BK528 := Aside0.mk (blk_below (zb BK528) hb); replace BK529 := Aside0.mk (blk_below (zb BK529) hb); replace HB := Aside0.mk (below_step (zg HB) hb); (try clear hb); (try clear hb2); (try clear hk); (try clear hi)))
 go_ret
 exact ⟨zre, zg HB⟩
/-! ### laws_eqRecord: function 25 -/
def laws_eqRecord.f (k : Nat) (a0_0 : Int) (a0_1 : Int) (a0_2 : ByteArray) (a0_3 : ByteArray) (l0_4 : List (S66)) (a1_0 : Int) (a1_1 : Int) (a1_2 : ByteArray) (a1_3 : ByteArray) (l1_4 : List (S66)) : Option (Bool) := if a0_0 = a1_0 then (if a0_1 = a1_1 then (if a0_2.toList = a1_2.toList then ((laws_eqDoc.f k a0_3 l0_4 a1_3 l1_4).bind fun t533 => (if t533 = true then (some true) else (some false))) else (some false)) else (some false)) else (some false)
theorem laws_eqRecord.mono : ∀ a0 a1 a2 a3 a4 a5 a6 a7 a8 a9 k, LeO (laws_eqRecord.f k a0 a1 a2 a3 a4 a5 a6 a7 a8 a9) (laws_eqRecord.f (k + 1) a0 a1 a2 a3 a4 a5 a6 a7 a8 a9) := by
 intro a0 a1 a2 a3 a4 a5 a6 a7 a8 a9 k
 unfold laws_eqRecord.f
 repeat' first
  | (with_reducible exact laws_eqDoc.mono _ _ _ _ _)
  | (with_reducible exact LeO.refl _)
  | (with_reducible exact LeO.none _)
  | (with_reducible refine LeO.ite ?_ ?_)
  | (with_reducible refine LeO.bind ?_ (fun _ => ?_))
set_option maxHeartbeats 8000000 in
set_option maxRecDepth 100000 in
theorem laws_eqRecord.calls (k : Nat) (a0_0 : Int) (a0_1 : Int) (a0_2 : ByteArray) (a0_3 : ByteArray) (A0_4 : Option Addr) (c0_4 : Nat) (l0_4 : List (S66)) (a1_0 : Int) (a1_1 : Int) (a1_2 : ByteArray) (a1_3 : ByteArray) (A1_4 : Option Addr) (c1_4 : Nat) (l1_4 : List (S66)) (r : Bool) (w : World) (hr0_4 : Kd.C k66 w A0_4 l0_4.length l0_4) (hc0_4 : l0_4.length ≤ c0_4) (hr1_4 : Kd.C k66 w A1_4 l1_4.length l1_4) (hc1_4 : l1_4.length ≤ c1_4) (h : laws_eqRecord.f k a0_0 a0_1 a0_2 a0_3 l0_4 a1_0 a1_1 a1_2 a1_3 l1_4 = some r) :
 Calls Try.prog 25 #[.agg #[.int .i64 a0_0, .int .i64 a0_1, .string a0_2, .string a0_3, .slice A0_4 l0_4.length c0_4], .agg #[.int .i64 a1_0, .int .i64 a1_1, .string a1_2, .string a1_3, .slice A1_4 l1_4.length c1_4]] w fun e w' => e = .returned (.bool r) ∧ Below w.heap.size w w' := by
 have hu47 := Try.underlying47
 have hu31 := Try.underlying31
 have HR0_4 := Aside0.mk hr0_4
 have HC0_4 := Aside0.mk hc0_4
 clear hr0_4 hc0_4
 have HR1_4 := Aside0.mk hr1_4
 have HC1_4 := Aside0.mk hc1_4
 clear hr1_4 hc1_4
 have HB := Aside0.mk (Below.refl w.heap.size w)
 have H := h
 unfold laws_eqRecord.f at H
 clear h
 by_cases c3 : a0_0 = a1_0
 rotate_left
 ·rw [if_neg c3] at H
  have c3b0 : (a0_0 == a1_0) = false := beq_eq_false_iff_ne.mpr c3
  have c3b1 : (a0_0 != a1_0) = true := bne_iff_ne.mpr c3
  obtain rfl := Option.some.inj H
  go_enter Try.func25, Try.ntmps25
  go_wp2_with (first | ((with_reducible refine gate_dst (N := 2) rfl ?_); refine box_event (by rfl) (N := 2) (by rfl) (cs := #[.int .i64 a0_0, .int .i64 a0_1, .string a0_2, .string a0_3, .slice A0_4 l0_4.length c0_4]) (t := 47) zgs ?_; intro gb531 hg w32 hbox hb; have BK531 := Aside0.mk (hbox); have GW531 := zge hg (below_size (zh HB)); have GE531 := zge hg (below_size (zh HB)); replace HB := Aside0.mk (below_step (zh HB) hb); clear hb hbox hg) | ((with_reducible refine gate_dst (N := 3) rfl ?_); refine box_event (by rfl) (N := 3) (by rfl) (cs := #[.int .i64 a1_0, .int .i64 a1_1, .string a1_2, .string a1_3, .slice A1_4 l1_4.length c1_4]) (t := 47) zgs ?_; intro gb532 hg w33 hbox hb; have BK532 := Aside0.mk (hbox); have GW532 := zge hg (below_size (zg HB)); have GE532 := zge hg (below_size (zg HB)); replace HB := Aside0.mk (below_step (zg HB) hb); have NB531_532 := znl hg (blk_lt (zb BK531)); have NB532_531 := zng hg (blk_lt (zb BK531)); replace BK531 := Aside0.mk (blk_below (zb BK531) hb); clear hb hbox hg; have hnb34 := NB531_532.out; have hnc34 := NB532_531.out; obtain ⟨⟨hcz35_0, hcz35_1, hcz35_2, hcz35_3, hcz35_4⟩, hfz35_0, hfz35_1, hfz35_2, hfz35_3, hfz35_4⟩ := zc5 BK531; obtain ⟨⟨hcz36_0, hcz36_1, hcz36_2, hcz36_3, hcz36_4⟩, hfz36_0, hfz36_1, hfz36_2, hfz36_3, hfz36_4⟩ := zc5 BK532))
  go_ret
  exact ⟨zre, zg HB⟩

 rw [if_pos c3] at H
 have c3b0 : (a0_0 == a1_0) = true := beq_iff_eq.mpr c3
 have c3b1 : (a0_0 != a1_0) = false := bne_eq_false_iff_eq.mpr c3
 clear c3
 by_cases c4 : a0_1 = a1_1
 rotate_left
 ·rw [if_neg c4] at H
  have c4b0 : (a0_1 == a1_1) = false := beq_eq_false_iff_ne.mpr c4
  have c4b1 : (a0_1 != a1_1) = true := bne_iff_ne.mpr c4
  obtain rfl := Option.some.inj H
  go_enter Try.func25, Try.ntmps25
  go_wp2_with (first | ((with_reducible refine gate_dst (N := 2) rfl ?_); refine box_event (by rfl) (N := 2) (by rfl) (cs := #[.int .i64 a0_0, .int .i64 a0_1, .string a0_2, .string a0_3, .slice A0_4 l0_4.length c0_4]) (t := 47) zgs ?_; intro gb531 hg w27 hbox hb; have BK531 := Aside0.mk (hbox); have GW531 := zge hg (below_size (zh HB)); have GE531 := zge hg (below_size (zh HB)); replace HB := Aside0.mk (below_step (zh HB) hb); clear hb hbox hg) | ((with_reducible refine gate_dst (N := 3) rfl ?_); refine box_event (by rfl) (N := 3) (by rfl) (cs := #[.int .i64 a1_0, .int .i64 a1_1, .string a1_2, .string a1_3, .slice A1_4 l1_4.length c1_4]) (t := 47) zgs ?_; intro gb532 hg w28 hbox hb; have BK532 := Aside0.mk (hbox); have GW532 := zge hg (below_size (zg HB)); have GE532 := zge hg (below_size (zg HB)); replace HB := Aside0.mk (below_step (zg HB) hb); have NB531_532 := znl hg (blk_lt (zb BK531)); have NB532_531 := zng hg (blk_lt (zb BK531)); replace BK531 := Aside0.mk (blk_below (zb BK531) hb); clear hb hbox hg; have hnb29 := NB531_532.out; have hnc29 := NB532_531.out; obtain ⟨⟨hcz30_0, hcz30_1, hcz30_2, hcz30_3, hcz30_4⟩, hfz30_0, hfz30_1, hfz30_2, hfz30_3, hfz30_4⟩ := zc5 BK531; obtain ⟨⟨hcz31_0, hcz31_1, hcz31_2, hcz31_3, hcz31_4⟩, hfz31_0, hfz31_1, hfz31_2, hfz31_3, hfz31_4⟩ := zc5 BK532))
  go_ret
  exact ⟨zre, zg HB⟩
 rw [if_pos c4] at H
 have c4b0 : (a0_1 == a1_1) = true := beq_iff_eq.mpr c4
 have c4b1 : (a0_1 != a1_1) = false := bne_eq_false_iff_eq.mpr c4
 clear c4
 by_cases c5 : a0_2.toList = a1_2.toList
 rotate_left
 ·rw [if_neg c5] at H
  have c5b0 : (a0_2.toList == a1_2.toList) = false := beq_eq_false_iff_ne.mpr c5
  have c5b1 : (a0_2.toList != a1_2.toList) = true := bne_iff_ne.mpr c5
  obtain rfl := Option.some.inj H
  go_enter Try.func25, Try.ntmps25
  go_wp2_with (first | ((with_reducible refine gate_dst (N := 2) rfl ?_); refine box_event (by rfl) (N := 2) (by rfl) (cs := #[.int .i64 a0_0, .int .i64 a0_1, .string a0_2, .string a0_3, .slice A0_4 l0_4.length c0_4]) (t := 47) zgs ?_; intro gb531 hg w22 hbox hb; have BK531 := Aside0.mk (hbox); have GW531 := zge hg (below_size (zh HB)); have GE531 := zge hg (below_size (zh HB)); replace HB := Aside0.mk (below_step (zh HB) hb); clear hb hbox hg) | ((with_reducible refine gate_dst (N := 3) rfl ?_); refine box_event (by rfl) (N := 3) (by rfl) (cs := #[.int .i64 a1_0, .int .i64 a1_1, .string a1_2, .string a1_3, .slice A1_4 l1_4.length c1_4]) (t := 47) zgs ?_; intro gb532 hg w23 hbox hb; have BK532 := Aside0.mk (hbox); have GW532 := zge hg (below_size (zg HB)); have GE532 := zge hg (below_size (zg HB)); replace HB := Aside0.mk (below_step (zg HB) hb); have NB531_532 := znl hg (blk_lt (zb BK531)); have NB532_531 := zng hg (blk_lt (zb BK531)); replace BK531 := Aside0.mk (blk_below (zb BK531) hb); clear hb hbox hg; have hnb24 := NB531_532.out; have hnc24 := NB532_531.out; obtain ⟨⟨hcz25_0, hcz25_1, hcz25_2, hcz25_3, hcz25_4⟩, hfz25_0, hfz25_1, hfz25_2, hfz25_3, hfz25_4⟩ := zc5 BK531; obtain ⟨⟨hcz26_0, hcz26_1, hcz26_2, hcz26_3, hcz26_4⟩, hfz26_0, hfz26_1, hfz26_2, hfz26_3, hfz26_4⟩ := zc5 BK532))
  go_ret
  exact ⟨zre, zg HB⟩
 rw [if_pos c5] at H
 have c5b0 : (a0_2.toList == a1_2.toList) = true := beq_iff_eq.mpr c5
 have c5b1 : (a0_2.toList != a1_2.toList) = false := bne_eq_false_iff_eq.mpr c5
 clear c5
 replace H := Option.bind_eq_some_iff.mp H
 obtain ⟨t533, A60, H⟩ := H
 try dsimp only at H
 have A6 := Aside0.mk A60
 clear A60
 by_cases c7 : t533 = true
 ·subst c7
  rw [if_pos rfl] at H
  obtain rfl := Option.some.inj H
  go_enter Try.func25, Try.ntmps25
  go_wp2_with (first | ((with_reducible refine gate_dst (N := 2) rfl ?_); refine box_event (by rfl) (N := 2) (by rfl) (cs := #[.int .i64 a0_0, .int .i64 a0_1, .string a0_2, .string a0_3, .slice A0_4 l0_4.length c0_4]) (t := 47) zgs ?_; intro gb531 hg w8 hbox hb; have BK531 := Aside0.mk (hbox); have GW531 := zge hg (below_size (zh HB)); have GE531 := zge hg (below_size (zh HB)); replace HB := Aside0.mk (below_step (zh HB) hb); clear hb hbox hg) | ((with_reducible refine gate_dst (N := 3) rfl ?_); refine box_event (by rfl) (N := 3) (by rfl) (cs := #[.int .i64 a1_0, .int .i64 a1_1, .string a1_2, .string a1_3, .slice A1_4 l1_4.length c1_4]) (t := 47) zgs ?_; intro gb532 hg w9 hbox hb; have BK532 := Aside0.mk (hbox); have GW532 := zge hg (below_size (zg HB)); have GE532 := zge hg (below_size (zg HB)); replace HB := Aside0.mk (below_step (zg HB) hb); have NB531_532 := znl hg (blk_lt (zb BK531)); have NB532_531 := zng hg (blk_lt (zb BK531)); replace BK531 := Aside0.mk (blk_below (zb BK531) hb); clear hb hbox hg; have hnb10 := NB531_532.out; have hnc10 := NB532_531.out; obtain ⟨⟨hcz11_0, hcz11_1, hcz11_2, hcz11_3, hcz11_4⟩, hfz11_0, hfz11_1, hfz11_2, hfz11_3, hfz11_4⟩ := zc5 BK531; obtain ⟨⟨hcz12_0, hcz12_1, hcz12_2, hcz12_3, hcz12_4⟩, hfz12_0, hfz12_1, hfz12_2, hfz12_3, hfz12_4⟩ := zc5 BK532) | ((with_reducible refine gate_callee (f := 13) rfl ?_); refine goesL_ (some 24) rfl rfl Try.func13 (by kernel_rfl) rfl #[.agg #[.string a0_3, .slice A0_4 l0_4.length c0_4], .agg #[.string a1_3, .slice A1_4 l1_4.length c1_4]] rfl zar ?_; (with_reducible refine (laws_eqDoc.calls k a0_3 _ _ l0_4 a1_3 _ _ l1_4 true _ ?side1 ?side2 ?side3 ?side4 A6.out).mono ?_); (case side1 => exact zC (Kd.C_below HR0_4.out HB.out)); (case side2 => exact HC0_4.out); (case side3 => exact zC (Kd.C_below HR1_4.out HB.out)); (case side4 => exact HC1_4.out); rintro e w13 ⟨rfl, hb⟩; refine ⟨_, rfl, ?_⟩; replace BK531 := Aside0.mk (blk_below (zb BK531) hb); replace BK532 := Aside0.mk (blk_below (zb BK532) hb); replace HB := Aside0.mk (below_step (zg HB) hb); (try clear hb); (try clear hb2); (try clear hk); (try clear hi)))
  go_ret
  exact ⟨zre, zg HB⟩
 replace c7 := Bool.eq_false_iff.mpr c7
 subst c7
 rw [if_neg (show ¬ (false = true) by decide)] at H
 obtain rfl := Option.some.inj H
 go_enter Try.func25, Try.ntmps25
 go_wp2_with (first | ((with_reducible refine gate_dst (N := 2) rfl ?_); refine box_event (by rfl) (N := 2) (by rfl) (cs := #[.int .i64 a0_0, .int .i64 a0_1, .string a0_2, .string a0_3, .slice A0_4 l0_4.length c0_4]) (t := 47) zgs ?_; intro gb531 hg w15 hbox hb; have BK531 := Aside0.mk (hbox); have GW531 := zge hg (below_size (zh HB)); have GE531 := zge hg (below_size (zh HB)); replace HB := Aside0.mk (below_step (zh HB) hb); clear hb hbox hg) | ((with_reducible refine gate_dst (N := 3) rfl ?_); refine box_event (by rfl) (N := 3) (by rfl) (cs := #[.int .i64 a1_0, .int .i64 a1_1, .string a1_2, .string a1_3, .slice A1_4 l1_4.length c1_4]) (t := 47) zgs ?_; intro gb532 hg w16 hbox hb; have BK532 := Aside0.mk (hbox); have GW532 := zge hg (below_size (zg HB)); have GE532 := zge hg (below_size (zg HB)); replace HB := Aside0.mk (below_step (zg HB) hb); have NB531_532 := znl hg (blk_lt (zb BK531)); have NB532_531 := zng hg (blk_lt (zb BK531)); replace BK531 := Aside0.mk (blk_below (zb BK531) hb); clear hb hbox hg; have hnb17 := NB531_532.out; have hnc17 := NB532_531.out; obtain ⟨⟨hcz18_0, hcz18_1, hcz18_2, hcz18_3, hcz18_4⟩, hfz18_0, hfz18_1, hfz18_2, hfz18_3, hfz18_4⟩ := zc5 BK531; obtain ⟨⟨hcz19_0, hcz19_1, hcz19_2, hcz19_3, hcz19_4⟩, hfz19_0, hfz19_1, hfz19_2, hfz19_3, hfz19_4⟩ := zc5 BK532) | ((with_reducible refine gate_callee (f := 13) rfl ?_); refine goesL_ (some 24) rfl rfl Try.func13 (by kernel_rfl) rfl #[.agg #[.string a0_3, .slice A0_4 l0_4.length c0_4], .agg #[.string a1_3, .slice A1_4 l1_4.length c1_4]] rfl zar ?_; (with_reducible refine (laws_eqDoc.calls k a0_3 _ _ l0_4 a1_3 _ _ l1_4 false _ ?side1 ?side2 ?side3 ?side4 A6.out).mono ?_); (case side1 => exact zC (Kd.C_below HR0_4.out HB.out)); (case side2 => exact HC0_4.out); (case side3 => exact zC (Kd.C_below HR1_4.out HB.out)); (case side4 => exact HC1_4.out); rintro e w20 ⟨rfl, hb⟩; refine ⟨_, rfl, ?_⟩; replace BK531 := Aside0.mk (blk_below (zb BK531) hb); replace BK532 := Aside0.mk (blk_below (zb BK532) hb); replace HB := Aside0.mk (below_step (zg HB) hb); (try clear hb); (try clear hb2); (try clear hk); (try clear hi)))
 go_ret
 exact ⟨zre, zg HB⟩
end Go.Proofs.Ytnpdmleglcbobaa.XFnExactReadLog
