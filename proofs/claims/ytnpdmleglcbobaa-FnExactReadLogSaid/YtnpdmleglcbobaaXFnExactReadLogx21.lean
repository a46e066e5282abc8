-- A printed text of this session (wip/x/xprint.py).
import Derived.Test.YtnpdmleglcbobaaXFnExactReadLogx0
import Derived.Test.YtnpdmleglcbobaaXFnExactReadLogx19
import Derived.Test.YtnpdmleglcbobaaXFnExactReadLogx20
namespace Go.Proofs.Ytnpdmleglcbobaa.XFnExactReadLog
open Go.RowKit Go.Proofs.YtnpdmleglcbobaaW.PrintWords Go.Proofs.YtnpdmleglcbobaaW.PrintLast Go.Proofs.YtnpdmleglcbobaaW.PrintMore
attribute [local go_sem] max2_int min2_int max_two min_two max_three min_three max_four min_four   -- for this text's walks alone
set_option linter.unusedVariables false
set_option linter.unusedSimpArgs false
def fl21_ (n m : Nat) : Array Bool := ((List.range n).map fun i => m.testBit i).toArray

/-! ### laws_heldValueS: function 45 -/
def laws_heldValueS.l0 : Nat → List (S66) → Int → Int → Option (Int)
 | 0, _, _, _ => none
 | k + 1, x0, x1, x5 => if x5 < (x0.length : Int) then (if 0 ≤ x5 then ((laws_markText.f k x1).bind fun t547 => (if ((rd_T66 x0 x5).f0).toList = t547.toList then ((laws_heldStringS.f k ((rd_T66 x0 x5).f1) (wrap64 (x1 + 1))).bind fun t549 => (if t549 < 0 then (some (-1)) else ((laws_heldIntS.f k ((rd_T66 x0 x5).f2) t549).bind fun t551 => (if t551 < 0 then (some (-1)) else (laws_heldValueS.l0 k x0 t551 (wrap64 (x5 + 1))))))) else (some (-1)))) else (none)) else (some x1)
def laws_heldValueS.f (k : Nat) (l0 : List (S66)) (a1 : Int) : Option (Int) := laws_heldValueS.l0 k l0 a1 0
theorem laws_heldValueS.mono_l : ∀ k, (∀ y0 y1 y2, LeO (laws_heldValueS.l0 k y0 y1 y2) (laws_heldValueS.l0 (k + 1) y0 y1 y2))
 | 0 => fun _ _ _ r h => by simp [laws_heldValueS.l0] at h
 | k + 1 => by
  have ih0 := laws_heldValueS.mono_l k
  ·intro y0 y1 y2
   unfold laws_heldValueS.l0
   repeat' first
   | (with_reducible exact ih0 _ _ _)
   | (with_reducible exact laws_heldIntS.mono _ _ _)
   | (with_reducible exact laws_heldStringS.mono _ _ _)
   | (with_reducible exact laws_markText.mono _ _)
   | (with_reducible exact LeO.refl _)
   | (with_reducible exact LeO.none _)
   | (with_reducible refine LeO.ite ?_ ?_)
   | (with_reducible refine LeO.bind ?_ (fun _ => ?_))
theorem laws_heldValueS.mono : ∀ a0 a1 k, LeO (laws_heldValueS.f k a0 a1) (laws_heldValueS.f (k + 1) a0 a1) := by
 intro a0 a1 k
 have ih0 := laws_heldValueS.mono_l k
 unfold laws_heldValueS.f
 repeat' first
  | (with_reducible exact ih0 _ _ _)
  | (with_reducible exact laws_heldIntS.mono _ _ _)
  | (with_reducible exact laws_heldStringS.mono _ _ _)
  | (with_reducible exact laws_markText.mono _ _)
  | (with_reducible exact LeO.refl _)
  | (with_reducible exact LeO.none _)
  | (with_reducible refine LeO.ite ?_ ?_)
  | (with_reducible refine LeO.bind ?_ (fun _ => ?_))
def laws_heldValueS.T4 : Bool × List (List Nat × List Nat) := (true, [([], []), ([], []), ([0, 1], [0, 1]), ([2], [2]), ([3], [3]), ([], []), ([5], [5]), ([4, 6], [4, 6])])
def laws_heldValueS.B4 : List Nat := [0, 0, 3, 7, 15, 0, 32, 127]
theorem laws_heldValueS.tab4 : rtab .any (opsOf Try.f45 4) = laws_heldValueS.T4 := by kernel_rfl
theorem laws_heldValueS.bits4 : waitsOk laws_heldValueS.T4.2 laws_heldValueS.B4 = true := by kernel_rfl
set_option maxHeartbeats 8000000 in
set_option maxRecDepth 100000 in
theorem laws_heldValueS.calls (k : Nat) (A0 : Option Addr) (c0 : Nat) (l0 : List (S66)) (a1 : Int) (r : Int) (w : World) (hr0 : Kd.C k66 w A0 l0.length l0) (hc0 : l0.length ≤ c0) (h : laws_heldValueS.f k l0 a1 = some r) :
 Calls Try.prog 45 #[.slice A0 l0.length c0, .int .i64 a1] w fun e w' => e = .returned (.int .i64 r) ∧ Below w.heap.size w w' := by
 have HR0 := Aside0.mk hr0
 have HC0 := Aside0.mk hc0
 clear hr0 hc0
 have HB := Aside0.mk (Below.refl w.heap.size w)
 have H : (laws_heldValueS.l0 k l0 a1 0) = some r := h
 clear h
 have H' := Aside0.mk H
 clear H
 go_enter Try.func45, Try.ntmps45
 go_wp2
 go_loopg [1, 5] k (fun kq v1 v5 w' => ∃ (x1_1 : Int) (x5_1 : Int), v1 = .int .i64 x1_1 ∧ v5 = .int .i64 x5_1 ∧ Aside0 (laws_heldValueS.l0 kq l0 x1_1 x5_1 = some r) ∧ Aside0 (kq ≤ k) ∧ Aside0 (Below w.heap.size w w'))
 case atStart => exact ⟨(a1), (0), zrs, zrs, H', ⟨Nat.le_refl _⟩, ⟨zh HB⟩⟩
 case round =>
  clear H'
  obtain ⟨x1_1, x5_1, rfl, rfl, HA, HK1, HB⟩ := hrel
  cases gk with
  | zero => exact absurd HA.out (by simp [laws_heldValueS.l0])
  | succ k1 =>
   have H := HA.out
   clear HA
   simp only [laws_heldValueS.l0] at H
   by_cases c3 : x5_1 < (l0.length : Int)
   rotate_left
   ·rw [if_neg c3] at H
    have c3b0 : decide (x5_1 < (l0.length : Int)) = false := decide_eq_false c3
    clear c3
    obtain rfl := Option.some.inj H
    go_wp2
    go_ret
    exact ⟨zre, zh HB⟩

   rw [if_pos c3] at H
   have c3b0 : decide (x5_1 < (l0.length : Int)) = true := decide_eq_true c3
   clear c3
   by_cases c4 : 0 ≤ x5_1
   rotate_left
   ·rw [if_neg c4] at H
    exact absurd H (by simp)
   rw [if_pos c4] at H
   have c4b0 : decide (0 ≤ x5_1) = true := decide_eq_true c4
   clear c4
   replace H := Option.bind_eq_some_iff.mp H
   obtain ⟨t547, A50, H⟩ := H
   try dsimp only at H
   have A5 := Aside0.mk A50
   clear A50
   by_cases c6 : ((rd_T66 l0 x5_1).f0).toList = t547.toList
   rotate_left
   ·rw [if_neg c6] at H
    have c6b0 : (((rd_T66 l0 x5_1).f0).toList == t547.toList) = false := beq_eq_false_iff_ne.mpr c6
    have c6b1 : (((rd_T66 l0 x5_1).f0).toList != t547.toList) = true := bne_iff_ne.mpr c6
    obtain rfl := Option.some.inj H
    try go_wp2
    replace HB := Aside0.mk (below_drew1 HB.out)
    have p546 : 0 ≤ (x5_1 : Int) := of_decide_eq_true zas
    have q546 : x5_1 < (l0.length : Int) := of_decide_eq_true zas
    obtain ⟨ad546, A546_1, c546_1, A546_2, c546_2, e546, hx546_0, hx546_1, hx546_2, hl546_1, hi546_1, hl546_2, hi546_2⟩ := at_T66 HR0.out x5_1 p546 q546
    have hw546_2 := hx546_2
    have hw546_1 := hx546_1
    have hw546_0 := hx546_0
    cases e546
    replace hx546_0 := zx HB hx546_0
    replace hx546_1 := zx HB hx546_1
    replace hx546_2 := zx HB hx546_2
    have HR546_1 := Aside0.mk hi546_1
    have HC546_1 := Aside0.mk hl546_1
    clear hi546_1 hl546_1
    have HR546_2 := Aside0.mk hi546_2
    have HC546_2 := Aside0.mk hl546_2
    clear hi546_2 hl546_2
    replace p546 := eq_true p546
    replace q546 := eq_true q546
    refine start_ (n := 8) (S := fun w' => w'.cell? (ad546.add ((x5_1).toNat * 3)) = some (.string ((rd_T66 l0 x5_1).f0)) ∧ w'.cell? ⟨(ad546.add ((x5_1).toNat * 3)).block, (ad546.add ((x5_1).toNat * 3)).off + 1, none⟩ = some (.slice A546_1 ((rd_T66 l0 x5_1).f1).length c546_1) ∧ w'.cell? ⟨(ad546.add ((x5_1).toNat * 3)).block, (ad546.add ((x5_1).toNat * 3)).off + 2, none⟩ = some (.slice A546_2 ((rd_T66 l0 x5_1).f2).length c546_2)) (ds := []) (fl21_ 8 0) (by kernel_rfl) rfl rfl ⟨(zx HB hw546_0), (zx HB hw546_1), (zx HB hw546_2)⟩ (fun hHeld => ?_); refine with_tabW laws_heldValueS.tab4 laws_heldValueS.bits4 (fun HT_ HW_ => ?_)
    generalize wr.drew = w26 at HB HR546_1 HR546_2 hx546_0 hx546_1 hx546_2 hHeld ⊢
    refine zpu HT_ 0 12 (fl21_ 8 1) ?_
    refine zpu HT_ 1 13 (fl21_ 8 3) ?_
    refine zpu HT_ 2 14 (fl21_ 8 7) ?_
    refine zpu HT_ 3 15 (fl21_ 8 15) ?_
    refine zpu HT_ 5 17 (fl21_ 8 47) ?_
    refine take_ (i := 4) (N := some 16) (v := ?_) (a' := ?_) (fl21_ 8 63) rfl rfl (take_ofW HT_.out HW_.out (by kernel_rfl)) (fun _ _ _ h => h) (Or.inl ⟨by rfl, ?_⟩) hHeld ?_ ?_
    rotate_left
    ·rintro w' ⟨s0, s1, s2⟩
     go_simp
     with_reducible rfl
    rotate_left
    ·simp only [Act.put, List.setIfInBounds_toArray, List.set_cons_zero, List.set_cons_succ, i64_w, i32_w]
     rfl
    refine one_ (i := 6) (N := some 18) (fl21_ 8 127) rfl rfl (one_of HT_.out (by kernel_rfl)) (by decide) (fun K hK => ?_)
    refine goes_ Try.func60 (by kernel_rfl) rfl #[.int .i64 x1_1] (by rfl) rfl rfl zar ?_
    with_reducible refine (laws_markText.calls k1 x1_1 t547 _ A5.out).mono ?_
    rintro e w27 ⟨rfl, hb⟩
    refine ⟨_, rfl, ?_⟩
    replace HB := Aside0.mk (below_step (zh HB) hb)
    (try clear hb)
    (try clear hb2)
    (try clear hk)
    (try clear hi)
    refine hK.out _ _ ⟨(zx HB hw546_0), (zx HB hw546_1), (zx HB hw546_2)⟩ (fun hHeld => ?_)
    clear hK K
    refine norm_ (a' := ?_) ?_ ?_
    rotate_left
    ·show Act.put _ (some 18) _ = _
     simp only [Act.put, List.setIfInBounds_toArray, List.set_cons_zero, List.set_cons_succ, i64_w, i32_w]
     rfl
    refine zpu HT_ 7 19 (fl21_ 8 255) ?_
    refine done_ (done_of HT_.out (by kernel_rfl)) ?_
    try go_wp2
    go_ret
    exact ⟨zre, zh HB⟩
   rw [if_pos c6] at H
   have c6b0 : (((rd_T66 l0 x5_1).f0).toList == t547.toList) = true := beq_iff_eq.mpr c6
   have c6b1 : (((rd_T66 l0 x5_1).f0).toList != t547.toList) = false := bne_eq_false_iff_eq.mpr c6
   clear c6
   replace H := Option.bind_eq_some_iff.mp H
   obtain ⟨t549, A70, H⟩ := H
   try dsimp only at H
   have A7 := Aside0.mk A70
   clear A70
   by_cases c8 : t549 < 0
   ·rw [if_pos c8] at H
    have c8b0 : decide (t549 < 0) = true := decide_eq_true c8
    clear c8
    obtain rfl := Option.some.inj H
    try go_wp2
    replace HB := Aside0.mk (below_drew1 HB.out)
    have p546 : 0 ≤ (x5_1 : Int) := of_decide_eq_true zas
    have q546 : x5_1 < (l0.length : Int) := of_decide_eq_true zas
    obtain ⟨ad546, A546_1, c546_1, A546_2, c546_2, e546, hx546_0, hx546_1, hx546_2, hl546_1, hi546_1, hl546_2, hi546_2⟩ := at_T66 HR0.out x5_1 p546 q546
    have hw546_2 := hx546_2
    have hw546_1 := hx546_1
    have hw546_0 := hx546_0
    cases e546
    replace hx546_0 := zx HB hx546_0
    replace hx546_1 := zx HB hx546_1
    replace hx546_2 := zx HB hx546_2
    have HR546_1 := Aside0.mk hi546_1
    have HC546_1 := Aside0.mk hl546_1
    clear hi546_1 hl546_1
    have HR546_2 := Aside0.mk hi546_2
    have HC546_2 := Aside0.mk hl546_2
    clear hi546_2 hl546_2
    replace p546 := eq_true p546
    replace q546 := eq_true q546
    refine start_ (n := 8) (S := fun w' => w'.cell? (ad546.add ((x5_1).toNat * 3)) = some (.string ((rd_T66 l0 x5_1).f0)) ∧ w'.cell? ⟨(ad546.add ((x5_1).toNat * 3)).block, (ad546.add ((x5_1).toNat * 3)).off + 1, none⟩ = some (.slice A546_1 ((rd_T66 l0 x5_1).f1).length c546_1) ∧ w'.cell? ⟨(ad546.add ((x5_1).toNat * 3)).block, (ad546.add ((x5_1).toNat * 3)).off + 2, none⟩ = some (.slice A546_2 ((rd_T66 l0 x5_1).f2).length c546_2)) (ds := []) (fl21_ 8 0) (by kernel_rfl) rfl rfl ⟨(zx HB hw546_0), (zx HB hw546_1), (zx HB hw546_2)⟩ (fun hHeld => ?_); refine with_tabW laws_heldValueS.tab4 laws_heldValueS.bits4 (fun HT_ HW_ => ?_)
    generalize wr.drew = w9 at HB HR546_1 HR546_2 hx546_0 hx546_1 hx546_2 hHeld ⊢
    refine zpu HT_ 0 12 (fl21_ 8 1) ?_
    refine zpu HT_ 1 13 (fl21_ 8 3) ?_
    refine zpu HT_ 2 14 (fl21_ 8 7) ?_
    refine zpu HT_ 3 15 (fl21_ 8 15) ?_
    refine zpu HT_ 5 17 (fl21_ 8 47) ?_
    refine take_ (i := 4) (N := some 16) (v := ?_) (a' := ?_) (fl21_ 8 63) rfl rfl (take_ofW HT_.out HW_.out (by kernel_rfl)) (fun _ _ _ h => h) (Or.inl ⟨by rfl, ?_⟩) hHeld ?_ ?_
    rotate_left
    ·rintro w' ⟨s0, s1, s2⟩
     go_simp
     with_reducible rfl
    rotate_left
    ·simp only [Act.put, List.setIfInBounds_toArray, List.set_cons_zero, List.set_cons_succ, i64_w, i32_w]
     rfl
    refine one_ (i := 6) (N := some 18) (fl21_ 8 127) rfl rfl (one_of HT_.out (by kernel_rfl)) (by decide) (fun K hK => ?_)
    refine goes_ Try.func60 (by kernel_rfl) rfl #[.int .i64 x1_1] (by rfl) rfl rfl zar ?_
    with_reducible refine (laws_markText.calls k1 x1_1 t547 _ A5.out).mono ?_
    rintro e w10 ⟨rfl, hb⟩
    refine ⟨_, rfl, ?_⟩
    replace HB := Aside0.mk (below_step (zh HB) hb)
    (try clear hb)
    (try clear hb2)
    (try clear hk)
    (try clear hi)
    refine hK.out _ _ ⟨(zx HB hw546_0), (zx HB hw546_1), (zx HB hw546_2)⟩ (fun hHeld => ?_)
    clear hK K
    refine norm_ (a' := ?_) ?_ ?_
    rotate_left
    ·show Act.put _ (some 18) _ = _
     simp only [Act.put, List.setIfInBounds_toArray, List.set_cons_zero, List.set_cons_succ, i64_w, i32_w]
     rfl
    refine zpu HT_ 7 19 (fl21_ 8 255) ?_
    refine done_ (done_of HT_.out (by kernel_rfl)) ?_
    have p548 : 0 ≤ (x5_1 : Int) := of_decide_eq_true zas
    have q548 : x5_1 < (l0.length : Int) := of_decide_eq_true zas
    obtain ⟨ad548, A548_1, c548_1, A548_2, c548_2, e548, hx548_0, hx548_1, hx548_2, hl548_1, hi548_1, hl548_2, hi548_2⟩ := at_T66 HR0.out x5_1 p548 q548
    obtain rfl : ad546 = ad548 := (by injection e548)
    have ea_ := Option.some.inj (hw546_1.symm.trans hx548_1)
    injection ea_ with ea_ en_ ec_
    subst ea_
    subst ec_
    clear en_
    have ea_ := Option.some.inj (hw546_2.symm.trans hx548_2)
    injection ea_ with ea_ en_ ec_
    subst ea_
    subst ec_
    clear en_
    replace hx548_0 := zx HB hx548_0
    replace hx548_1 := zx HB hx548_1
    replace hx548_2 := zx HB hx548_2
    have HR548_1 := Aside0.mk hi548_1
    have HC548_1 := Aside0.mk hl548_1
    clear hi548_1 hl548_1
    have HR548_2 := Aside0.mk hi548_2
    have HC548_2 := Aside0.mk hl548_2
    clear hi548_2 hl548_2
    replace p548 := eq_true p548
    replace q548 := eq_true q548
    try go_wp2_with (first | ((with_reducible refine gate_callee (f := 74) rfl ?_); refine goesL_ (some 28) rfl rfl Try.func74 (by kernel_rfl) rfl #[.slice A546_1 ((rd_T66 l0 x5_1).f1).length c546_1, .int .i64 (wrap64 (x1_1 + 1))] rfl zar ?_; (with_reducible refine (laws_heldStringS.calls k1 _ _ ((rd_T66 l0 x5_1).f1) (wrap64 (x1_1 + 1)) t549 _ ?side1 ?side2 A7.out).mono ?_); (case side1 => exact zC (Kd.C_below HR548_1.out HB.out)); (case side2 => exact HC548_1.out); rintro e w12 ⟨rfl, hb⟩; refine ⟨_, rfl, ?_⟩; replace HB := Aside0.mk (below_step (zh HB) hb); (try clear hb); (try clear hb2); (try clear hk); (try clear hi)))
    go_ret
    exact ⟨zre, zh HB⟩
   rw [if_neg c8] at H
   have c8b0 : decide (t549 < 0) = false := decide_eq_false c8
   clear c8
   replace H := Option.bind_eq_some_iff.mp H
   obtain ⟨t551, A140, H⟩ := H
   try dsimp only at H
   have A14 := Aside0.mk A140
   clear A140
   by_cases c15 : t551 < 0
   ·rw [if_pos c15] at H
    have c15b0 : decide (t551 < 0) = true := decide_eq_true c15
    clear c15
    obtain rfl := Option.some.inj H
    try go_wp2
    replace HB := Aside0.mk (below_drew1 HB.out)
    have p546 : 0 ≤ (x5_1 : Int) := of_decide_eq_true zas
    have q546 : x5_1 < (l0.length : Int) := of_decide_eq_true zas
    obtain ⟨ad546, A546_1, c546_1, A546_2, c546_2, e546, hx546_0, hx546_1, hx546_2, hl546_1, hi546_1, hl546_2, hi546_2⟩ := at_T66 HR0.out x5_1 p546 q546
    have hw546_2 := hx546_2
    have hw546_1 := hx546_1
    have hw546_0 := hx546_0
    cases e546
    replace hx546_0 := zx HB hx546_0
    replace hx546_1 := zx HB hx546_1
    replace hx546_2 := zx HB hx546_2
    have HR546_1 := Aside0.mk hi546_1
    have HC546_1 := Aside0.mk hl546_1
    clear hi546_1 hl546_1
    have HR546_2 := Aside0.mk hi546_2
    have HC546_2 := Aside0.mk hl546_2
    clear hi546_2 hl546_2
    replace p546 := eq_true p546
    replace q546 := eq_true q546
    refine start_ (n := 8) (S := fun w' => w'.cell? (ad546.add ((x5_1).toNat * 3)) = some (.string ((rd_T66 l0 x5_1).f0)) ∧ w'.cell? ⟨(ad546.add ((x5_1).toNat * 3)).block, (ad546.add ((x5_1).toNat * 3)).off + 1, none⟩ = some (.slice A546_1 ((rd_T66 l0 x5_1).f1).length c546_1) ∧ w'.cell? ⟨(ad546.add ((x5_1).toNat * 3)).block, (ad546.add ((x5_1).toNat * 3)).off + 2, none⟩ = some (.slice A546_2 ((rd_T66 l0 x5_1).f2).length c546_2)) (ds := []) (fl21_ 8 0) (by kernel_rfl) rfl rfl ⟨(zx HB hw546_0), (zx HB hw546_1), (zx HB hw546_2)⟩ (fun hHeld => ?_); refine with_tabW laws_heldValueS.tab4 laws_heldValueS.bits4 (fun HT_ HW_ => ?_)
    generalize wr.drew = w16 at HB HR546_1 HR546_2 hx546_0 hx546_1 hx546_2 hHeld ⊢
    refine zpu HT_ 0 12 (fl21_ 8 1) ?_
    refine zpu HT_ 1 13 (fl21_ 8 3) ?_
    refine zpu HT_ 2 14 (fl21_ 8 7) ?_
    refine zpu HT_ 3 15 (fl21_ 8 15) ?_
    refine zpu HT_ 5 17 (fl21_ 8 47) ?_
    refine take_ (i := 4) (N := some 16) (v := ?_) (a' := ?_) (fl21_ 8 63) rfl rfl (take_ofW HT_.out HW_.out (by kernel_rfl)) (fun _ _ _ h => h) (Or.inl ⟨by rfl, ?_⟩) hHeld ?_ ?_
    rotate_left
    ·rintro w' ⟨s0, s1, s2⟩
     go_simp
     with_reducible rfl
    rotate_left
    ·simp only [Act.put, List.setIfInBounds_toArray, List.set_cons_zero, List.set_cons_succ, i64_w, i32_w]
     rfl
    refine one_ (i := 6) (N := some 18) (fl21_ 8 127) rfl rfl (one_of HT_.out (by kernel_rfl)) (by decide) (fun K hK => ?_)
    refine goes_ Try.func60 (by kernel_rfl) rfl #[.int .i64 x1_1] (by rfl) rfl rfl zar ?_
    with_reducible refine (laws_markText.calls k1 x1_1 t547 _ A5.out).mono ?_
    rintro e w17 ⟨rfl, hb⟩
    refine ⟨_, rfl, ?_⟩
    replace HB := Aside0.mk (below_step (zh HB) hb)
    (try clear hb)
    (try clear hb2)
    (try clear hk)
    (try clear hi)
    refine hK.out _ _ ⟨(zx HB hw546_0), (zx HB hw546_1), (zx HB hw546_2)⟩ (fun hHeld => ?_)
    clear hK K
    refine norm_ (a' := ?_) ?_ ?_
    rotate_left
    ·show Act.put _ (some 18) _ = _
     simp only [Act.put, List.setIfInBounds_toArray, List.set_cons_zero, List.set_cons_succ, i64_w, i32_w]
     rfl
    refine zpu HT_ 7 19 (fl21_ 8 255) ?_
    refine done_ (done_of HT_.out (by kernel_rfl)) ?_
    have p548 : 0 ≤ (x5_1 : Int) := of_decide_eq_true zas
    have q548 : x5_1 < (l0.length : Int) := of_decide_eq_true zas
    obtain ⟨ad548, A548_1, c548_1, A548_2, c548_2, e548, hx548_0, hx548_1, hx548_2, hl548_1, hi548_1, hl548_2, hi548_2⟩ := at_T66 HR0.out x5_1 p548 q548
    obtain rfl : ad546 = ad548 := (by injection e548)
    have ea_ := Option.some.inj (hw546_1.symm.trans hx548_1)
    injection ea_ with ea_ en_ ec_
    subst ea_
    subst ec_
    clear en_
    have ea_ := Option.some.inj (hw546_2.symm.trans hx548_2)
    injection ea_ with ea_ en_ ec_
    subst ea_
    subst ec_
    clear en_
    replace hx548_0 := zx HB hx548_0
    replace hx548_1 := zx HB hx548_1
    replace hx548_2 := zx HB hx548_2
    have HR548_1 := Aside0.mk hi548_1
    have HC548_1 := Aside0.mk hl548_1
    clear hi548_1 hl548_1
    have HR548_2 := Aside0.mk hi548_2
    have HC548_2 := Aside0.mk hl548_2
    clear hi548_2 hl548_2
    replace p548 := eq_true p548
    replace q548 := eq_true q548
    try go_wp2_with (first | ((with_reducible refine gate_callee (f := 74) rfl ?_); refine goesL_ (some 28) rfl rfl Try.func74 (by kernel_rfl) rfl #[.slice A546_1 ((rd_T66 l0 x5_1).f1).length c546_1, .int .i64 (wrap64 (x1_1 + 1))] rfl zar ?_; (with_reducible refine (laws_heldStringS.calls k1 _ _ ((rd_T66 l0 x5_1).f1) (wrap64 (x1_1 + 1)) t549 _ ?side1 ?side2 A7.out).mono ?_); (case side1 => exact zC (Kd.C_below HR548_1.out HB.out)); (case side2 => exact HC548_1.out); rintro e w19 ⟨rfl, hb⟩; refine ⟨_, rfl, ?_⟩; replace HB := Aside0.mk (below_step (zh HB) hb); (try clear hb); (try clear hb2); (try clear hk); (try clear hi); have p550 : 0 ≤ (x5_1 : Int) := of_decide_eq_true zas; have q550 : x5_1 < (l0.length : Int) := of_decide_eq_true zas; obtain ⟨ad550, A550_1, c550_1, A550_2, c550_2, e550, hx550_0, hx550_1, hx550_2, hl550_1, hi550_1, hl550_2, hi550_2⟩ := at_T66 HR0.out x5_1 p550 q550; obtain rfl : ad546 = ad550 := (by injection e550); have ea_ := Option.some.inj (hw546_1.symm.trans hx550_1); injection ea_ with ea_ en_ ec_; subst ea_; subst ec_; clear en_; have ea_ := Option.some.inj (hw546_2.symm.trans hx550_2); injection ea_ with ea_ en_ ec_; subst ea_; subst ec_; clear en_; replace hx550_0 := zx HB hx550_0; replace hx550_1 := zx HB hx550_1; replace hx550_2 := zx HB hx550_2; have HR550_1 := Aside0.mk hi550_1; have HC550_1 := Aside0.mk hl550_1; clear hi550_1 hl550_1; have HR550_2 := Aside0.mk hi550_2; have HC550_2 := Aside0.mk hl550_2; clear hi550_2 hl550_2; replace p550 := eq_true p550; replace q550 := eq_true q550) | ((with_reducible refine gate_callee (f := 75) rfl ?_); refine goesL_ (some 37) rfl rfl Try.func75 (by kernel_rfl) rfl #[.slice A546_2 ((rd_T66 l0 x5_1).f2).length c546_2, .int .i64 t549] rfl zar ?_; (with_reducible refine (laws_heldIntS.calls k1 _ _ ((rd_T66 l0 x5_1).f2) t549 t551 _ ?side1 ?side2 A14.out).mono ?_); (case side1 => exact zC (Kd.C_below HR550_2.out HB.out)); (case side2 => exact HC550_2.out); rintro e w' ⟨rfl, ⟨nd, rfl⟩⟩; refine ⟨_, rfl, ?_⟩))
    go_ret
    exact ⟨zre, zh HB⟩
   rw [if_neg c15] at H
   have c15b0 : decide (t551 < 0) = false := decide_eq_false c15
   clear c15
   have H' := Aside0.mk H
   clear H
   try go_wp2
   replace HB := Aside0.mk (below_drew1 HB.out)
   have p546 : 0 ≤ (x5_1 : Int) := of_decide_eq_true zas
   have q546 : x5_1 < (l0.length : Int) := of_decide_eq_true zas
   obtain ⟨ad546, A546_1, c546_1, A546_2, c546_2, e546, hx546_0, hx546_1, hx546_2, hl546_1, hi546_1, hl546_2, hi546_2⟩ := at_T66 HR0.out x5_1 p546 q546
   have hw546_2 := hx546_2
   have hw546_1 := hx546_1
   have hw546_0 := hx546_0
   cases e546
   replace hx546_0 := zx HB hx546_0
   replace hx546_1 := zx HB hx546_1
   replace hx546_2 := zx HB hx546_2
   have HR546_1 := Aside0.mk hi546_1
   have HC546_1 := Aside0.mk hl546_1
   clear hi546_1 hl546_1
   have HR546_2 := Aside0.mk hi546_2
   have HC546_2 := Aside0.mk hl546_2
   clear hi546_2 hl546_2
   replace p546 := eq_true p546
   replace q546 := eq_true q546
   refine start_ (n := 8) (S := fun w' => w'.cell? (ad546.add ((x5_1).toNat * 3)) = some (.string ((rd_T66 l0 x5_1).f0)) ∧ w'.cell? ⟨(ad546.add ((x5_1).toNat * 3)).block, (ad546.add ((x5_1).toNat * 3)).off + 1, none⟩ = some (.slice A546_1 ((rd_T66 l0 x5_1).f1).length c546_1) ∧ w'.cell? ⟨(ad546.add ((x5_1).toNat * 3)).block, (ad546.add ((x5_1).toNat * 3)).off + 2, none⟩ = some (.slice A546_2 ((rd_T66 l0 x5_1).f2).length c546_2)) (ds := []) (fl21_ 8 0) (by kernel_rfl) rfl rfl ⟨(zx HB hw546_0), (zx HB hw546_1), (zx HB hw546_2)⟩ (fun hHeld => ?_); refine with_tabW laws_heldValueS.tab4 laws_heldValueS.bits4 (fun HT_ HW_ => ?_)
   generalize wr.drew = w21 at HB HR546_1 HR546_2 hx546_0 hx546_1 hx546_2 hHeld ⊢
   refine zpu HT_ 0 12 (fl21_ 8 1) ?_
   refine zpu HT_ 1 13 (fl21_ 8 3) ?_
   refine zpu HT_ 2 14 (fl21_ 8 7) ?_
   refine zpu HT_ 3 15 (fl21_ 8 15) ?_
   refine zpu HT_ 5 17 (fl21_ 8 47) ?_
   refine take_ (i := 4) (N := some 16) (v := ?_) (a' := ?_) (fl21_ 8 63) rfl rfl (take_ofW HT_.out HW_.out (by kernel_rfl)) (fun _ _ _ h => h) (Or.inl ⟨by rfl, ?_⟩) hHeld ?_ ?_
   rotate_left
   ·rintro w' ⟨s0, s1, s2⟩
    go_simp
    with_reducible rfl
   rotate_left
   ·simp only [Act.put, List.setIfInBounds_toArray, List.set_cons_zero, List.set_cons_succ, i64_w, i32_w]
    rfl
   refine one_ (i := 6) (N := some 18) (fl21_ 8 127) rfl rfl (one_of HT_.out (by kernel_rfl)) (by decide) (fun K hK => ?_)
   refine goes_ Try.func60 (by kernel_rfl) rfl #[.int .i64 x1_1] (by rfl) rfl rfl zar ?_
   with_reducible refine (laws_markText.calls k1 x1_1 t547 _ A5.out).mono ?_
   rintro e w22 ⟨rfl, hb⟩
   refine ⟨_, rfl, ?_⟩
   replace HB := Aside0.mk (below_step (zh HB) hb)
   (try clear hb)
   (try clear hb2)
   (try clear hk)
   (try clear hi)
   refine hK.out _ _ ⟨(zx HB hw546_0), (zx HB hw546_1), (zx HB hw546_2)⟩ (fun hHeld => ?_)
   clear hK K
   refine norm_ (a' := ?_) ?_ ?_
   rotate_left
   ·show Act.put _ (some 18) _ = _
    simp only [Act.put, List.setIfInBounds_toArray, List.set_cons_zero, List.set_cons_succ, i64_w, i32_w]
    rfl
   refine zpu HT_ 7 19 (fl21_ 8 255) ?_
   refine done_ (done_of HT_.out (by kernel_rfl)) ?_
   have p548 : 0 ≤ (x5_1 : Int) := of_decide_eq_true zas
   have q548 : x5_1 < (l0.length : Int) := of_decide_eq_true zas
   obtain ⟨ad548, A548_1, c548_1, A548_2, c548_2, e548, hx548_0, hx548_1, hx548_2, hl548_1, hi548_1, hl548_2, hi548_2⟩ := at_T66 HR0.out x5_1 p548 q548
   obtain rfl : ad546 = ad548 := (by injection e548)
   have ea_ := Option.some.inj (hw546_1.symm.trans hx548_1)
   injection ea_ with ea_ en_ ec_
   subst ea_
   subst ec_
   clear en_
   have ea_ := Option.some.inj (hw546_2.symm.trans hx548_2)
   injection ea_ with ea_ en_ ec_
   subst ea_
   subst ec_
   clear en_
   replace hx548_0 := zx HB hx548_0
   replace hx548_1 := zx HB hx548_1
   replace hx548_2 := zx HB hx548_2
   have HR548_1 := Aside0.mk hi548_1
   have HC548_1 := Aside0.mk hl548_1
   clear hi548_1 hl548_1
   have HR548_2 := Aside0.mk hi548_2
   have HC548_2 := Aside0.mk hl548_2
   clear hi548_2 hl548_2
   replace p548 := eq_true p548
   replace q548 := eq_true q548
   try go_wp2_with (first | ((with_reducible refine gate_callee (f := 74) rfl ?_); refine goesL_ (some 28) rfl rfl Try.func74 (by kernel_rfl) rfl #[.slice A546_1 ((rd_T66 l0 x5_1).f1).length c546_1, .int .i64 (wrap64 (x1_1 + 1))] rfl zar ?_; (with_reducible refine (laws_heldStringS.calls k1 _ _ ((rd_T66 l0 x5_1).f1) (wrap64 (x1_1 + 1)) t549 _ ?side1 ?side2 A7.out).mono ?_); (case side1 => exact zC (Kd.C_below HR548_1.out HB.out)); (case side2 => exact HC548_1.out); rintro e w24 ⟨rfl, hb⟩; refine ⟨_, rfl, ?_⟩; replace HB := Aside0.mk (below_step (zh HB) hb); (try clear hb); (try clear hb2); (try clear hk); (try clear hi); have p550 : 0 ≤ (x5_1 : Int) := of_decide_eq_true zas; have q550 : x5_1 < (l0.length : Int) := of_decide_eq_true zas; obtain ⟨ad550, A550_1, c550_1, A550_2, c550_2, e550, hx550_0, hx550_1, hx550_2, hl550_1, hi550_1, hl550_2, hi550_2⟩ := at_T66 HR0.out x5_1 p550 q550; obtain rfl : ad546 = ad550 := (by injection e550); have ea_ := Option.some.inj (hw546_1.symm.trans hx550_1); injection ea_ with ea_ en_ ec_; subst ea_; subst ec_; clear en_; have ea_ := Option.some.inj (hw546_2.symm.trans hx550_2); injection ea_ with ea_ en_ ec_; subst ea_; subst ec_; clear en_; replace hx550_0 := zx HB hx550_0; replace hx550_1 := zx HB hx550_1; replace hx550_2 := zx HB hx550_2; have HR550_1 := Aside0.mk hi550_1; have HC550_1 := Aside0.mk hl550_1; clear hi550_1 hl550_1; have HR550_2 := Aside0.mk hi550_2; have HC550_2 := Aside0.mk hl550_2; clear hi550_2 hl550_2; replace p550 := eq_true p550; replace q550 := eq_true q550) | ((with_reducible refine gate_callee (f := 75) rfl ?_); refine goesL_ (some 37) rfl rfl Try.func75 (by kernel_rfl) rfl #[.slice A546_2 ((rd_T66 l0 x5_1).f2).length c546_2, .int .i64 t549] rfl zar ?_; (with_reducible refine (laws_heldIntS.calls k1 _ _ ((rd_T66 l0 x5_1).f2) t549 t551 _ ?side1 ?side2 A14.out).mono ?_); (case side1 => exact zC (Kd.C_below HR550_2.out HB.out)); (case side2 => exact HC550_2.out); rintro e w' ⟨rfl, ⟨nd, rfl⟩⟩; refine ⟨_, rfl, ?_⟩))
   go_roundg k1
   case measure => have := HK1.out; omega
   case rel => exact ⟨(t551), (wrap64 (x5_1 + 1)), zrs, zrs, H', ⟨by have := HK1.out; omega⟩, ⟨zh HB⟩⟩
end Go.Proofs.Ytnpdmleglcbobaa.XFnExactReadLog
