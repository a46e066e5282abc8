-- A printed text of this session (wip/x/xprint.py).
import Derived.Test.YtnpdmleglcbobaaXFnExactReadLogx0
import Derived.Test.YtnpdmleglcbobaaXFnExactReadLogx13
import Derived.Test.YtnpdmleglcbobaaXFnExactReadLogx14
namespace Go.Proofs.Ytnpdmleglcbobaa.XFnExactReadLog
open Go.RowKit Go.Proofs.YtnpdmleglcbobaaW.PrintWords Go.Proofs.YtnpdmleglcbobaaW.PrintLast Go.Proofs.YtnpdmleglcbobaaW.PrintMore
attribute [local go_sem] max2_int min2_int max_two min_two max_three min_three max_four min_four   -- for this text's walks alone
set_option linter.unusedVariables false
set_option linter.unusedSimpArgs false
def fl15_ (n m : Nat) : Array Bool := ((List.range n).map fun i => m.testBit i).toArray

/-! ### spec_l14Bytes: function 47 -/
def spec_l14Bytes.f (k : Nat) (a0_0 : Int) (a0_1 : Int) (a0_2 : ByteArray) (a0_3 : ByteArray) (l0_4 : List (S66)) : Option (List Int) := (some (([(a0_0) % 256] : List Int) : List Int)).bind fun y432 => ((spec_l03Put.f k a0_1).bind fun t435 => (if y432.length + t435.length < 140737488355328 then ((some (y432 ++ t435 : List Int)).bind fun y438 => (if a0_0 = 1 then ((spec_l06Bytes.f k a0_3 l0_4).bind fun t441 => (if y438.length + t441.length < 140737488355328 then ((some (y438 ++ t441 : List Int)).bind fun y444 => ((spec_l03Put.f k (y444.length : Int)).bind fun t447 => (if t447.length + y444.length < 140737488355328 then ((some (t447 ++ y444 : List Int)).bind fun y450 => ((spec_Sum32.f k y444).bind fun t453 => ((spec_l04Four.f t453).bind fun t454 => (if y450.length + t454.length < 140737488355328 then (some (y450 ++ t454)) else (none))))) else (none)))) else (none))) else (if y438.length + a0_2.size < 140737488355328 then ((some (y438 ++ bytesOf a0_2 : List Int)).bind fun y460 => ((spec_l03Put.f k (y460.length : Int)).bind fun t463 => (if t463.length + y460.length < 140737488355328 then ((some (t463 ++ y460 : List Int)).bind fun y466 => ((spec_Sum32.f k y460).bind fun t469 => ((spec_l04Four.f t469).bind fun t470 => (if y466.length + t470.length < 140737488355328 then (some (y466 ++ t470)) else (none))))) else (none)))) else (none)))) else (none)))
theorem spec_l14Bytes.mono : ∀ a0 a1 a2 a3 a4 k, LeO (spec_l14Bytes.f k a0 a1 a2 a3 a4) (spec_l14Bytes.f (k + 1) a0 a1 a2 a3 a4) := by
 intro a0 a1 a2 a3 a4 k
 unfold spec_l14Bytes.f
 repeat' first
  | (with_reducible exact spec_Sum32.mono _ _)
  | (with_reducible exact spec_l03Put.mono _ _)
  | (with_reducible exact spec_l06Bytes.mono _ _ _)
  | (with_reducible exact LeO.refl _)
  | (with_reducible exact LeO.none _)
  | (with_reducible refine LeO.ite ?_ ?_)
  | (with_reducible refine LeO.bind ?_ (fun _ => ?_))
def spec_l14Bytes.T1 : Bool × List (List Nat × List Nat) := (true, [([], []), ([0], [0]), ([1], [1]), ([2], [2]), ([], []), ([4], [4]), ([5], [5]), ([3, 6, 6], [3, 6]), ([7, 7, 0, 1, 2, 3, 4, 5, 6, 7], [7])])
def spec_l14Bytes.B1 : List Nat := [0, 1, 3, 7, 0, 16, 48, 127, 255]
theorem spec_l14Bytes.tab1 : rtab .any (opsOf Try.f47 1) = spec_l14Bytes.T1 := by kernel_rfl
theorem spec_l14Bytes.bits1 : waitsOk spec_l14Bytes.T1.2 spec_l14Bytes.B1 = true := by kernel_rfl
set_option maxHeartbeats 8000000 in
set_option maxRecDepth 100000 in
theorem spec_l14Bytes.calls (k : Nat) (a0_0 : Int) (a0_1 : Int) (a0_2 : ByteArray) (a0_3 : ByteArray) (A0_4 : Option Addr) (c0_4 : Nat) (l0_4 : List (S66)) (r : List Int) (w : World) (hr0_4 : Kd.C k66 w A0_4 l0_4.length l0_4) (hc0_4 : l0_4.length ≤ c0_4) (h : spec_l14Bytes.f k a0_0 a0_1 a0_2 a0_3 l0_4 = some r) :
 Calls Try.prog 47 #[.agg #[.int .i64 a0_0, .int .i64 a0_1, .string a0_2, .string a0_3, .slice A0_4 l0_4.length c0_4]] w fun e w' => ∃ v0_ : Value, e = .returned (v0_) ∧ Kd.R (Kd.int .u8) 5 w' w.heap.size (fun _ => True) v0_ r ∧ Below w.heap.size w w' := by
 have hu47 := Try.underlying47
 have hu31 := Try.underlying31
 have HR0_4 := Aside0.mk hr0_4
 have HC0_4 := Aside0.mk hc0_4
 clear hr0_4 hc0_4
 have HB := Aside0.mk (Below.refl w.heap.size w)
 have H := h
 unfold spec_l14Bytes.f at H
 clear h
 obtain ⟨y432, hy432⟩ : ∃ y_ : List Int, y_ = (([(a0_0) % 256] : List Int)) := ⟨_, rfl⟩
 replace H : ((spec_l03Put.f k a0_1).bind fun t435 => (if y432.length + t435.length < 140737488355328 then ((some (y432 ++ t435 : List Int)).bind fun y438 => (if a0_0 = 1 then ((spec_l06Bytes.f k a0_3 l0_4).bind fun t441 => (if y438.length + t441.length < 140737488355328 then ((some (y438 ++ t441 : List Int)).bind fun y444 => ((spec_l03Put.f k (y444.length : Int)).bind fun t447 => (if t447.length + y444.length < 140737488355328 then ((some (t447 ++ y444 : List Int)).bind fun y450 => ((spec_Sum32.f k y444).bind fun t453 => ((spec_l04Four.f t453).bind fun t454 => (if y450.length + t454.length < 140737488355328 then (some (y450 ++ t454)) else (none))))) else (none)))) else (none))) else (if y438.length + a0_2.size < 140737488355328 then ((some (y438 ++ bytesOf a0_2 : List Int)).bind fun y460 => ((spec_l03Put.f k (y460.length : Int)).bind fun t463 => (if t463.length + y460.length < 140737488355328 then ((some (t463 ++ y460 : List Int)).bind fun y466 => ((spec_Sum32.f k y460).bind fun t469 => ((spec_l04Four.f t469).bind fun t470 => (if y466.length + t470.length < 140737488355328 then (some (y466 ++ t470)) else (none))))) else (none)))) else (none)))) else (none))) = some r := zby hy432 H
 have Ny432 := Aside0.mk hy432
 clear hy432
 replace H := Option.bind_eq_some_iff.mp H
 obtain ⟨t435, A20, H⟩ := H
 try dsimp only at H
 have A2 := Aside0.mk A20
 clear A20
 by_cases c3 : y432.length + t435.length < 140737488355328
 rotate_left
 ·rw [if_neg c3] at H
  exact absurd H (by simp)

 rw [if_pos c3] at H
 have LMc3 := Aside0.mk c3
 clear c3
 obtain ⟨y438, hy438⟩ : ∃ y_ : List Int, y_ = (y432 ++ t435) := ⟨_, rfl⟩
 replace H : (if a0_0 = 1 then ((spec_l06Bytes.f k a0_3 l0_4).bind fun t441 => (if y438.length + t441.length < 140737488355328 then ((some (y438 ++ t441 : List Int)).bind fun y444 => ((spec_l03Put.f k (y444.length : Int)).bind fun t447 => (if t447.length + y444.length < 140737488355328 then ((some (t447 ++ y444 : List Int)).bind fun y450 => ((spec_Sum32.f k y444).bind fun t453 => ((spec_l04Four.f t453).bind fun t454 => (if y450.length + t454.length < 140737488355328 then (some (y450 ++ t454)) else (none))))) else (none)))) else (none))) else (if y438.length + a0_2.size < 140737488355328 then ((some (y438 ++ bytesOf a0_2 : List Int)).bind fun y460 => ((spec_l03Put.f k (y460.length : Int)).bind fun t463 => (if t463.length + y460.length < 140737488355328 then ((some (t463 ++ y460 : List Int)).bind fun y466 => ((spec_Sum32.f k y460).bind fun t469 => ((spec_l04Four.f t469).bind fun t470 => (if y466.length + t470.length < 140737488355328 then (some (y466 ++ t470)) else (none))))) else (none)))) else (none))) = some r := zby hy438 H
 have Ny438 := Aside0.mk hy438
 clear hy438
 by_cases c4 : a0_0 = 1
 rotate_left
 ·rw [if_neg c4] at H
  have c4b0 : (a0_0 == 1) = false := beq_eq_false_iff_ne.mpr c4
  have c4b1 : (a0_0 != 1) = true := bne_iff_ne.mpr c4
  by_cases c34 : y438.length + a0_2.size < 140737488355328
  rotate_left
  ·rw [if_neg c34] at H
   exact absurd H (by simp)
  rw [if_pos c34] at H
  have LMc34 := Aside0.mk c34
  clear c34
  obtain ⟨y460, hy460⟩ : ∃ y_ : List Int, y_ = (y438 ++ bytesOf a0_2) := ⟨_, rfl⟩
  replace H : ((spec_l03Put.f k (y460.length : Int)).bind fun t463 => (if t463.length + y460.length < 140737488355328 then ((some (t463 ++ y460 : List Int)).bind fun y466 => ((spec_Sum32.f k y460).bind fun t469 => ((spec_l04Four.f t469).bind fun t470 => (if y466.length + t470.length < 140737488355328 then (some (y466 ++ t470)) else (none))))) else (none))) = some r := zby hy460 H
  have Ny460 := Aside0.mk hy460
  clear hy460
  replace H := Option.bind_eq_some_iff.mp H
  obtain ⟨t463, A350, H⟩ := H
  try dsimp only at H
  have A35 := Aside0.mk A350
  clear A350
  by_cases c36 : t463.length + y460.length < 140737488355328
  rotate_left
  ·rw [if_neg c36] at H
   exact absurd H (by simp)
  rw [if_pos c36] at H
  have LMc36 := Aside0.mk c36
  clear c36
  obtain ⟨y466, hy466⟩ : ∃ y_ : List Int, y_ = (t463 ++ y460) := ⟨_, rfl⟩
  replace H : ((spec_Sum32.f k y460).bind fun t469 => ((spec_l04Four.f t469).bind fun t470 => (if y466.length + t470.length < 140737488355328 then (some (y466 ++ t470)) else (none)))) = some r := zby hy466 H
  have Ny466 := Aside0.mk hy466
  clear hy466
  replace H := Option.bind_eq_some_iff.mp H
  obtain ⟨t469, A370, H⟩ := H
  try dsimp only at H
  have A37 := Aside0.mk A370
  clear A370
  replace H := Option.bind_eq_some_iff.mp H
  obtain ⟨t470, A380, H⟩ := H
  try dsimp only at H
  have A38 := Aside0.mk A380
  clear A380
  by_cases c39 : y466.length + t470.length < 140737488355328
  rotate_left
  ·rw [if_neg c39] at H
   exact absurd H (by simp)
  rw [if_pos c39] at H
  have LMc39 := Aside0.mk c39
  clear c39
  obtain ⟨y473, hy473⟩ : ∃ y_ : List Int, y_ = (y466 ++ t470) := ⟨_, rfl⟩
  replace H : (some y473) = some r := zby hy473 H
  have Ny473 := Aside0.mk hy473
  clear hy473
  obtain rfl := Option.some.inj H
  go_enter Try.func47, Try.ntmps47
  try go_wp2_with (first | ((with_reducible refine gate_dst (N := 1) rfl ?_); refine box_event (by rfl) (N := 1) (by rfl) (cs := #[.int .i64 a0_0, .int .i64 a0_1, .string a0_2, .string a0_3, .slice A0_4 l0_4.length c0_4]) (t := 47) zgs ?_; intro gb431 hg w40 hbox hb; have BK431 := Aside0.mk (hbox); have GW431 := zge hg (below_size (zh HB)); have GE431 := zge hg (below_size (zh HB)); replace HB := Aside0.mk (below_step (zh HB) hb); clear hb hbox hg))
  replace BK431 := Aside0.mk (blk_drew BK431.out)
  replace HB := Aside0.mk (below_drew1 HB.out)
  refine start_ (n := 9) (S := fun w' => w'.cell? ⟨gb431, 0, none⟩ = some (.int .i64 a0_0) ∧ w'.cell? ⟨gb431, 1, none⟩ = some (.int .i64 a0_1) ∧ w'.cell? ⟨gb431, 2, none⟩ = some (.string a0_2) ∧ w'.cell? ⟨gb431, 3, none⟩ = some (.string a0_3) ∧ w'.cell? ⟨gb431, 4, none⟩ = some (.slice A0_4 l0_4.length c0_4)) (ds := []) (fl15_ 9 0) (by kernel_rfl) rfl rfl ⟨(blk_cell BK431.out 0).trans rfl, (blk_cell BK431.out 1).trans rfl, (blk_cell BK431.out 2).trans rfl, (blk_cell BK431.out 3).trans rfl, (blk_cell BK431.out 4).trans rfl⟩ (fun hHeld => ?_); refine with_tabW spec_l14Bytes.tab1 spec_l14Bytes.bits1 (fun HT_ HW_ => ?_)
  generalize w40.drew = w41 at BK431 HB hHeld ⊢
  refine zpu HT_ 0 4 (fl15_ 9 1) ?_
  refine zpu HT_ 4 8 (fl15_ 9 17) ?_
  refine take_ (i := 1) (N := some 5) (v := ?_) (a' := ?_) (fl15_ 9 19) rfl rfl (take_ofW HT_.out HW_.out (by kernel_rfl)) (fun _ _ _ h => h) (Or.inl ⟨by rfl, ?_⟩) hHeld ?_ ?_
  rotate_left
  ·rintro w' ⟨s0, s1, s2, s3, s4⟩
   go_simp
   with_reducible rfl
  rotate_left
  ·simp only [Act.put, List.setIfInBounds_toArray, List.set_cons_zero, List.set_cons_succ, i64_w, i32_w]
   rfl
  refine zpu HT_ 2 6 (fl15_ 9 23) ?_
  refine take_ (i := 5) (N := some 9) (v := ?_) (a' := ?_) (fl15_ 9 55) rfl rfl (take_ofW HT_.out HW_.out (by kernel_rfl)) (fun _ _ _ h => h) (Or.inl ⟨by rfl, ?_⟩) hHeld ?_ ?_
  rotate_left
  ·rintro w' ⟨s0, s1, s2, s3, s4⟩
   go_simp
   with_reducible rfl
  rotate_left
  ·simp only [Act.put, List.setIfInBounds_toArray, List.set_cons_zero, List.set_cons_succ, i64_w, i32_w]
   rfl
  refine join_ (σ := Value × Value) 2 (fl15_ 9 127) (fun s_ => [(7, s_.1), (10, s_.2)]) (fun s_ w' => (w'.cell? ⟨gb431, 0, none⟩ = some (.int .i64 a0_0) ∧ w'.cell? ⟨gb431, 1, none⟩ = some (.int .i64 a0_1) ∧ w'.cell? ⟨gb431, 2, none⟩ = some (.string a0_2) ∧ w'.cell? ⟨gb431, 3, none⟩ = some (.string a0_3) ∧ w'.cell? ⟨gb431, 4, none⟩ = some (.slice A0_4 l0_4.length c0_4)) ∧ (Kd.R (Kd.int .u8) 5 w' w.heap.size (fun k_ => some k_ ≠ (s_.2 : Value).ownBlock) s_.1 y432) ∧ (Kd.R (Kd.int .u8) 5 w' w.heap.size (fun k_ => some k_ ≠ (s_.1 : Value).ownBlock) s_.2 t435) ∧ (w'.heap[gb431]? = some (.cells #[.int .i64 a0_0, .int .i64 a0_1, .string a0_2, .string a0_3, .slice A0_4 l0_4.length c0_4] 47 (0, 0))) ∧ (Below w.heap.size w w')) ?_ ?_
  rotate_left
  ·intro hCont
   refine two_ (i := 3) (j := 6) (Ni := some 7) (Nj := some 10) (fl15_ 9 63) (fl15_ 9 119) rfl rfl rfl rfl (two_of HT_.out (by kernel_rfl)) (by decide) (by decide) (fun K hK => ?_) (fun K hK => ?_)
   ·skip
    refine Kd.R_lit_step (Kd.int .u8) _ 5 ?hg (N := 7) ?hd (xs := ([(a0_0) % 256] : List Int)) (inner := [.int .u8 ((a0_0) % 256)]) (ok := fun _ => True) (okp := fun _ => True) ?hr ?hp (fun _ hk => hk) trivial (Below.refl _ _) (Nat.le_refl _) (by simp) ?_; (case hd => rfl); (case hg => rfl); (case hr => first | (go_simp; done) | (go_simp; rfl)); (case hp => exact (Reps.one (show Kd.M (Kd.int .u8) _ _ _ ((a0_0) % 256) [.int .u8 ((a0_0) % 256)] from rfl) (Reps.none _ _)))
    intro v433 w42 ho43 hb hg_ hnew_
    clear hg_ hnew_
    (first | rw [← Ny432.out] at ho43 | (simp only [Int.reduceToNat] at ho43; rw [← Ny432.out] at ho43))
    have HO434 := Aside0.mk (Kd.R_lower ho43 (below_size (zg HB)))
    replace BK431 := Aside0.mk (blk_below (zb BK431) hb)
    replace HB := Aside0.mk (below_step (zg HB) hb)
    clear hb ho43
    refine hK.out _ _ ⟨(blk_cell BK431.out 0).trans rfl, (blk_cell BK431.out 1).trans rfl, (blk_cell BK431.out 2).trans rfl, (blk_cell BK431.out 3).trans rfl, (blk_cell BK431.out 4).trans rfl⟩ (fun hHeld => ?_)
    clear hK K
    refine norm_ (a' := ?_) ?_ ?_
    rotate_left
    ·show Act.put _ (some 7) _ = _
     simp only [Act.put, List.setIfInBounds_toArray, List.set_cons_zero, List.set_cons_succ, i64_w, i32_w]
     rfl
    refine one_ (i := 6) (N := some 10) (fl15_ 9 127) rfl rfl (one_of HT_.out (by kernel_rfl)) (by decide) (fun K hK => ?_)
    refine goes_ Try.func63 (by kernel_rfl) rfl #[.int .i64 a0_1] (by rfl) rfl rfl zar ?_
    with_reducible refine (spec_l03Put.calls k a0_1 t435 _ A2.out).mono ?_
    rintro e w44 ⟨v436, rfl, ho0, hb⟩
    refine ⟨_, rfl, ?_⟩
    have HO437 := Aside0.mk (Kd.R_lower (Kd.R_new' ho0 (Kd.R_lt (zr HO434))) (below_size (zg HB)))
    replace HO434 := Aside0.mk (Kd.R_elder' (zr HO434) (Kd.R_base ho0) hb)
    replace BK431 := Aside0.mk (blk_below (zb BK431) hb)
    replace HB := Aside0.mk (below_step (zg HB) hb)
    (try clear hb)
    (try clear hb2)
    (try clear hk)
    (try clear hi)
    (try clear ho0)
    refine hK.out _ _ ⟨(blk_cell BK431.out 0).trans rfl, (blk_cell BK431.out 1).trans rfl, (blk_cell BK431.out 2).trans rfl, (blk_cell BK431.out 3).trans rfl, (blk_cell BK431.out 4).trans rfl⟩ (fun hHeld => ?_)
    clear hK K
    refine norm_ (a' := ?_) ?_ ?_
    rotate_left
    ·show Act.put _ (some 10) _ = _
     simp only [Act.put, List.setIfInBounds_toArray, List.set_cons_zero, List.set_cons_succ, i64_w, i32_w]
     rfl
    exact norm_ (by simp only [putAll, Act.put, List.setIfInBounds_toArray, List.set_cons_zero, List.set_cons_succ]) (hCont (v433, v436) _ ⟨hHeld, (Kd.R_mono (zr HO434) (fun _ hk => hk.2)), (Kd.R_mono (zr HO437) (fun _ hk => hk.2)), (zb BK431), (zg HB)⟩)
   ·skip
    refine goes_ Try.func63 (by kernel_rfl) rfl #[.int .i64 a0_1] (by rfl) rfl rfl zar ?_
    with_reducible refine (spec_l03Put.calls k a0_1 t435 _ A2.out).mono ?_
    rintro e w42 ⟨v436, rfl, ho0, hb⟩
    refine ⟨_, rfl, ?_⟩
    have HO437 := Aside0.mk (Kd.R_lower ho0 (below_size (zg HB)))
    replace BK431 := Aside0.mk (blk_below (zb BK431) hb)
    replace HB := Aside0.mk (below_step (zg HB) hb)
    (try clear hb)
    (try clear hb2)
    (try clear hk)
    (try clear hi)
    (try clear ho0)
    refine hK.out _ _ ⟨(blk_cell BK431.out 0).trans rfl, (blk_cell BK431.out 1).trans rfl, (blk_cell BK431.out 2).trans rfl, (blk_cell BK431.out 3).trans rfl, (blk_cell BK431.out 4).trans rfl⟩ (fun hHeld => ?_)
    clear hK K
    refine norm_ (a' := ?_) ?_ ?_
    rotate_left
    ·show Act.put _ (some 10) _ = _
     simp only [Act.put, List.setIfInBounds_toArray, List.set_cons_zero, List.set_cons_succ, i64_w, i32_w]
     rfl
    refine one_ (i := 3) (N := some 7) (fl15_ 9 127) rfl rfl (one_of HT_.out (by kernel_rfl)) (by decide) (fun K hK => ?_)
    refine Kd.R_lit_step (Kd.int .u8) _ 5 ?hg (N := 7) ?hd (xs := ([(a0_0) % 256] : List Int)) (inner := [.int .u8 ((a0_0) % 256)]) (ok := fun _ => True) (okp := fun _ => True) ?hr ?hp (fun _ hk => hk) trivial (Below.refl _ _) (Nat.le_refl _) (by simp) ?_; (case hd => rfl); (case hg => rfl); (case hr => first | (go_simp; done) | (go_simp; rfl)); (case hp => exact (Reps.one (show Kd.M (Kd.int .u8) _ _ _ ((a0_0) % 256) [.int .u8 ((a0_0) % 256)] from rfl) (Reps.none _ _)))
    intro v433 w44 ho45 hb hg_ hnew_
    clear hg_ hnew_
    (first | rw [← Ny432.out] at ho45 | (simp only [Int.reduceToNat] at ho45; rw [← Ny432.out] at ho45))
    have HO434 := Aside0.mk (Kd.R_lower (Kd.R_new' ho45 (Kd.R_lt (zr HO437))) (below_size (zg HB)))
    replace HO437 := Aside0.mk (Kd.R_elder' (zr HO437) (Kd.R_base ho45) hb)
    replace BK431 := Aside0.mk (blk_below (zb BK431) hb)
    replace HB := Aside0.mk (below_step (zg HB) hb)
    clear hb ho45
    refine hK.out _ _ ⟨(blk_cell BK431.out 0).trans rfl, (blk_cell BK431.out 1).trans rfl, (blk_cell BK431.out 2).trans rfl, (blk_cell BK431.out 3).trans rfl, (blk_cell BK431.out 4).trans rfl⟩ (fun hHeld => ?_)
    clear hK K
    refine norm_ (a' := ?_) ?_ ?_
    rotate_left
    ·show Act.put _ (some 7) _ = _
     simp only [Act.put, List.setIfInBounds_toArray, List.set_cons_zero, List.set_cons_succ, i64_w, i32_w]
     rfl
    exact norm_ (by simp only [putAll, Act.put, List.setIfInBounds_toArray, List.set_cons_zero, List.set_cons_succ]) (hCont (v433, v436) _ ⟨hHeld, (Kd.R_mono (zr HO434) (fun _ hk => hk.2)), (Kd.R_mono (zr HO437) (fun _ hk => hk.2)), (zb BK431), (zg HB)⟩)
  rintro ⟨v433, v436⟩ w46 ⟨hS_, h0_, h1_, h2_, h3_⟩
  have n0_ : Aside0 (Kd.R (Kd.int .u8) 5 w46 w.heap.size (fun k_ => some k_ ≠ (v436 : Value).ownBlock) v433 y432) := ⟨h0_⟩
  have n1_ : Aside0 (Kd.R (Kd.int .u8) 5 w46 w.heap.size (fun k_ => some k_ ≠ (v433 : Value).ownBlock) v436 t435) := ⟨h1_⟩
  have n2_ : Aside0 (w46.heap[gb431]? = some (.cells #[.int .i64 a0_0, .int .i64 a0_1, .string a0_2, .string a0_3, .slice A0_4 l0_4.length c0_4] 47 (0, 0))) := ⟨h2_⟩
  have n3_ : Aside0 (Below w.heap.size w w46) := ⟨h3_⟩
  clear BK431
  clear HB
  clear h0_ h1_ h2_ h3_
  have HO434 := n0_
  have HO437 := n1_
  have BK431 := n2_
  have HB := n3_
  clear n0_ n1_ n2_ n3_
  have hHeld : w46.cell? ⟨gb431, 0, none⟩ = some (.int .i64 a0_0) ∧ w46.cell? ⟨gb431, 1, none⟩ = some (.int .i64 a0_1) ∧ w46.cell? ⟨gb431, 2, none⟩ = some (.string a0_2) ∧ w46.cell? ⟨gb431, 3, none⟩ = some (.string a0_3) ∧ w46.cell? ⟨gb431, 4, none⟩ = some (.slice A0_4 l0_4.length c0_4) := hS_
  obtain ⟨Ao48, co48, eo48⟩ := Kd.R_slice HO437.out
  (first | subst eo48 | (injection eo48 with f1_ f2_ f3_; have f4_ := f1_.symm; have f5_ := f3_.symm; clear f1_ f2_ f3_; subst f4_; subst f5_))
  refine norm_ (a' := ?_) ?_ ?_
  rotate_left
  ·simp only [putAll, Act.put, List.setIfInBounds_toArray, List.set_cons_zero, List.set_cons_succ]
   rfl
  refine one_ (i := 7) (N := some 11) (fl15_ 9 255) rfl rfl (one_of HT_.out (by kernel_rfl)) (by decide) (fun K hK => ?_)
  refine Kd.R_append_rows_step (Kd.int .u8) (w0 := w) w.heap.size (by rfl) (.tmp 7) (.tmp 10) 26 5 (.int .u8 0) 1 rfl Try.underlying26 info5 rfl (by decide) (by omega) v433 y432 t435 _ _ _ (fun k_ => some k_ ≠ (.slice Ao48 t435.length co48 : Value).ownBlock) (fun _ => False) rfl rfl ?aO ?aR (fun _ _ h => h) (fun _ h => h.elim) ?aF ?aB ?aS ?aL ?_
  (case aR => repeat (first | exact (Kd.R_reads' HO437.out).2.2 | (with_reducible refine Kd.C_alloc ?_ _) | (with_reducible refine Kd.C_drewN ?_ _) | (with_reducible refine Kd.C_drew ?_)))
  (case aB => exact (zg HB))
  (case aF => exact (fun k_ hk => Kd.fresh' (Kd.R_lt (zr HO437)) k_ hk))
  (case aO => exact (zr HO434))
  (case aS => exact (below_size (zg HB)))
  (case aL => have := LMc3.out; omega)
  intro v439 w47 ho hb hg hat
  rw [← Ny438.out] at ho
  replace BK431 := Aside0.mk (blk_grown (zb BK431) hg (Kd.R_ne HO434.out BK431.out (by decide)))
  replace HO437 := Aside0.mk (Kd.R_after (ok := (fun _ => True)) (Kd.R_mono (zr HO437) (fun _ hk => ⟨trivial, hk⟩)) hg hat)
  replace HB := Aside0.mk (hb)
  have HO440 := Aside0.mk (ho)
  clear HO434
  clear ho hb hg hat
  refine hK.out _ _ ⟨(blk_cell BK431.out 0).trans rfl, (blk_cell BK431.out 1).trans rfl, (blk_cell BK431.out 2).trans rfl, (blk_cell BK431.out 3).trans rfl, (blk_cell BK431.out 4).trans rfl⟩ (fun hHeld => ?_)
  clear hK K
  refine norm_ (a' := ?_) ?_ ?_
  rotate_left
  ·show Act.put _ (some 11) _ = _
   simp only [Act.put, List.setIfInBounds_toArray, List.set_cons_zero, List.set_cons_succ, i64_w, i32_w]
   rfl
  refine zpu HT_ 8 3 (fl15_ 9 511) ?_
  refine done_ (done_of HT_.out (by kernel_rfl)) ?_
  obtain ⟨⟨hcz49_0, hcz49_1, hcz49_2, hcz49_3, hcz49_4⟩, hfz49_0, hfz49_1, hfz49_2, hfz49_3, hfz49_4⟩ := zc5 BK431
  try go_wp2_with (first | (at_builtin; refine Kd.R_append_str (w0 := w) w.heap.size rfl (.tmp 20) _ 26 9 5 rfl Try.underlying26 Try.underlying9 info5 v439 y438 a0_2 (fun k_ => some k_ ≠ (.slice Ao48 t435.length co48 : Value).ownBlock) rfl rfl ?aF ?aO ?aB ?aS ?aL ?_; (case aB => exact (zg HB)); (case aF => exact (fun k_ hk => Kd.fresh' (Kd.R_lt (zr HO437)) k_ hk)); (case aO => exact (zr HO440)); (case aS => exact (below_size (zg HB))); (case aL => have := LMc34.out; omega); intro v461 w50 ho hb hg hat; rw [← Ny460.out] at ho; replace BK431 := Aside0.mk (blk_grown (zb BK431) hg (Kd.R_ne HO440.out BK431.out (by decide))); replace HO437 := Aside0.mk (Kd.R_after (ok := (fun _ => True)) (zr HO437) hg hat); replace HB := Aside0.mk (hb); have HO462 := Aside0.mk (ho); clear HO440; clear ho hb hg hat; obtain ⟨Ao51, co51, eo51⟩ := Kd.R_slice HO462.out; subst eo51) | ((with_reducible refine gate_callee (f := 63) rfl ?_); refine goesL_ (some 26) rfl rfl Try.func63 (by kernel_rfl) rfl #[.int .i64 (y460.length : Int)] rfl zar ?_; (with_reducible refine (spec_l03Put.calls k (y460.length : Int) t463 _ A35.out).mono ?_); rintro e w52 ⟨v464, rfl, ho0, hb⟩; refine ⟨_, rfl, ?_⟩; have HO465 := Aside0.mk (Kd.R_lower (Kd.R_new' (Kd.R_new' ho0 (Kd.R_lt (zr HO437))) (Kd.R_lt (zr HO462))) (below_size (zg HB))); replace HO437 := Aside0.mk (Kd.R_elder' (zr HO437) (Kd.R_base ho0) hb); replace HO462 := Aside0.mk (Kd.R_elder' (zr HO462) (Kd.R_base ho0) hb); replace BK431 := Aside0.mk (blk_below (zb BK431) hb); replace HB := Aside0.mk (below_step (zg HB) hb); (try clear hb ho0); (try clear hb); (try clear hk); (try clear hi)) | ((with_reducible refine gate_builtin (b := .append) (xs := #[.tmp 26, .tmp 27]) rfl ?_); at_builtin; refine Kd.R_append_rows (Kd.int .u8) (w0 := w) w.heap.size rfl (.tmp 26) (.tmp 27) 26 5 (.int .u8 0) 1 rfl Try.underlying26 info5 rfl (by decide) (by omega) v464 t463 y460 _ _ _ (fun k_ => some k_ ≠ (.slice Ao48 t435.length co48 : Value).ownBlock ∧ some k_ ≠ (.slice Ao51 y460.length co51 : Value).ownBlock) (fun _ => False) rfl rfl ?aO ?aR (fun _ _ h => h) (fun _ h => h.elim) ?aF ?aB ?aS ?aL ?_; (case aR => repeat (first | exact (Kd.R_reads' HO462.out).2.2 | (with_reducible refine Kd.C_alloc ?_ _) | (with_reducible refine Kd.C_drewN ?_ _) | (with_reducible refine Kd.C_drew ?_))); (case aB => exact (zg HB)); (case aF => exact (fun k_ hk => ⟨Kd.fresh' (Kd.R_lt (zr HO437)) k_ hk, Kd.fresh' (Kd.R_lt (zr HO462)) k_ hk⟩)); (case aO => exact (Kd.R_mono (zr HO465) (fun _ hk => ⟨hk.1.2, hk.2⟩))); (case aS => exact (below_size (zg HB))); (case aL => have := LMc36.out; omega); intro v467 w54 ho hb hg hat; rw [← Ny466.out] at ho; replace BK431 := Aside0.mk (blk_grown (zb BK431) hg (Kd.R_ne HO465.out BK431.out (by decide))); replace HO437 := Aside0.mk (Kd.R_after (ok := (fun k_ => some k_ ≠ (.slice Ao51 y460.length co51 : Value).ownBlock)) (Kd.R_mono (zr HO437) (fun _ hk => ⟨hk.1.2, hk.2⟩)) hg hat); replace HO462 := Aside0.mk (Kd.R_after (ok := (fun k_ => some k_ ≠ (.slice Ao48 t435.length co48 : Value).ownBlock)) (zr HO462) hg hat); replace HB := Aside0.mk (hb); have HO468 := Aside0.mk (ho); clear HO465; clear ho hb hg hat) | ((with_reducible refine gate_callee (f := 79) rfl ?_); refine goesL_ (some 30) rfl rfl Try.func79 (by kernel_rfl) rfl #[.slice Ao51 y460.length co51] rfl zar ?_; (with_reducible refine (spec_Sum32.calls k _ _ y460 t469 _ ?side1 ?side2 A37.out).mono ?_); (case side1 => exact zC (Kd.R_reads' HO462.out).2.2); (case side2 => exact (Kd.R_reads' HO462.out).2.1); rintro e w' ⟨rfl, ⟨nd, rfl⟩⟩; refine ⟨_, rfl, ?_⟩) | ((with_reducible refine gate_callee (f := 78) rfl ?_); refine goesL_ (some 31) rfl rfl Try.func78 (by kernel_rfl) rfl #[.int .i64 t469] rfl zar ?_; (with_reducible refine (spec_l04Four.calls t469 t470 _ A38.out).mono ?_); rintro e w55 ⟨v471, rfl, ho0, hb⟩; refine ⟨_, rfl, ?_⟩; have HO472 := Aside0.mk (Kd.R_lower (Kd.R_new' (Kd.R_new' (Kd.R_new' ho0 (Kd.R_lt (zr HO437))) (Kd.R_lt (zr HO462))) (Kd.R_lt (zr HO468))) (below_size (zg HB))); replace HO437 := Aside0.mk (Kd.R_elder' (zr HO437) (Kd.R_base ho0) hb); replace HO462 := Aside0.mk (Kd.R_elder' (zr HO462) (Kd.R_base ho0) hb); replace HO468 := Aside0.mk (Kd.R_elder' (zr HO468) (Kd.R_base ho0) hb); replace BK431 := Aside0.mk (blk_below (zb BK431) hb); replace HB := Aside0.mk (below_step (zg HB) hb); (try clear hb ho0); (try clear hb); (try clear hk); (try clear hi); obtain ⟨Ao58, co58, eo58⟩ := Kd.R_slice HO472.out; subst eo58) | ((with_reducible refine gate_builtin (b := .append) (xs := #[.tmp 28, .tmp 31]) rfl ?_); at_builtin; refine Kd.R_append_rows (Kd.int .u8) (w0 := w) w.heap.size rfl (.tmp 28) (.tmp 31) 26 5 (.int .u8 0) 1 rfl Try.underlying26 info5 rfl (by decide) (by omega) v467 y466 t470 _ _ _ (fun k_ => some k_ ≠ (.slice Ao48 t435.length co48 : Value).ownBlock ∧ some k_ ≠ (.slice Ao51 y460.length co51 : Value).ownBlock ∧ some k_ ≠ (.slice Ao58 t470.length co58 : Value).ownBlock) (fun _ => False) rfl rfl ?aO ?aR (fun _ _ h => h) (fun _ h => h.elim) ?aF ?aB ?aS ?aL ?_; (case aR => repeat (first | exact (Kd.R_reads' HO472.out).2.2 | (with_reducible refine Kd.C_alloc ?_ _) | (with_reducible refine Kd.C_drewN ?_ _) | (with_reducible refine Kd.C_drew ?_))); (case aB => exact (zg HB)); (case aF => exact (fun k_ hk => ⟨Kd.fresh' (Kd.R_lt (zr HO437)) k_ hk, Kd.fresh' (Kd.R_lt (zr HO462)) k_ hk, Kd.fresh' (Kd.R_lt (zr HO472)) k_ hk⟩)); (case aO => exact (Kd.R_mono (zr HO468) (fun _ hk => ⟨hk.1.1, ⟨hk.1.2, hk.2⟩⟩))); (case aS => exact (below_size (zg HB))); (case aL => have := LMc39.out; omega); intro v474 w57 ho hb hg hat; rw [← Ny473.out] at ho; replace BK431 := Aside0.mk (blk_grown (zb BK431) hg (Kd.R_ne HO468.out BK431.out (by decide))); replace HO437 := Aside0.mk (Kd.R_after (ok := (fun k_ => some k_ ≠ (.slice Ao51 y460.length co51 : Value).ownBlock ∧ some k_ ≠ (.slice Ao58 t470.length co58 : Value).ownBlock)) (Kd.R_mono (zr HO437) (fun _ hk => ⟨⟨hk.1.1, hk.2⟩, hk.1.2⟩)) hg hat); replace HO462 := Aside0.mk (Kd.R_after (ok := (fun k_ => some k_ ≠ (.slice Ao48 t435.length co48 : Value).ownBlock ∧ some k_ ≠ (.slice Ao58 t470.length co58 : Value).ownBlock)) (Kd.R_mono (zr HO462) (fun _ hk => ⟨⟨hk.1.1, hk.2⟩, hk.1.2⟩)) hg hat); replace HO472 := Aside0.mk (Kd.R_after (ok := (fun k_ => some k_ ≠ (.slice Ao48 t435.length co48 : Value).ownBlock ∧ some k_ ≠ (.slice Ao51 y460.length co51 : Value).ownBlock)) (Kd.R_mono (zr HO472) (fun _ hk => ⟨⟨hk.1.1.2, hk.1.2⟩, hk.2⟩)) hg hat); replace HB := Aside0.mk (hb); have HO475 := Aside0.mk (ho); clear HO468; clear ho hb hg hat))
  go_ret
  exact ⟨_, zre, Kd.R_mono (zr HO475) (fun _ hk => trivial), zg HB⟩
 rw [if_pos c4] at H
 have c4b0 : (a0_0 == 1) = true := beq_iff_eq.mpr c4
 have c4b1 : (a0_0 != 1) = false := bne_eq_false_iff_eq.mpr c4
 clear c4
 replace H := Option.bind_eq_some_iff.mp H
 obtain ⟨t441, A50, H⟩ := H
 try dsimp only at H
 have A5 := Aside0.mk A50
 clear A50
 by_cases c6 : y438.length + t441.length < 140737488355328
 rotate_left
 ·rw [if_neg c6] at H
  exact absurd H (by simp)
 rw [if_pos c6] at H
 have LMc6 := Aside0.mk c6
 clear c6
 obtain ⟨y444, hy444⟩ : ∃ y_ : List Int, y_ = (y438 ++ t441) := ⟨_, rfl⟩
 replace H : ((spec_l03Put.f k (y444.length : Int)).bind fun t447 => (if t447.length + y444.length < 140737488355328 then ((some (t447 ++ y444 : List Int)).bind fun y450 => ((spec_Sum32.f k y444).bind fun t453 => ((spec_l04Four.f t453).bind fun t454 => (if y450.length + t454.length < 140737488355328 then (some (y450 ++ t454)) else (none))))) else (none))) = some r := zby hy444 H
 have Ny444 := Aside0.mk hy444
 clear hy444
 replace H := Option.bind_eq_some_iff.mp H
 obtain ⟨t447, A70, H⟩ := H
 try dsimp only at H
 have A7 := Aside0.mk A70
 clear A70
 by_cases c8 : t447.length + y444.length < 140737488355328
 rotate_left
 ·rw [if_neg c8] at H
  exact absurd H (by simp)
 rw [if_pos c8] at H
 have LMc8 := Aside0.mk c8
 clear c8
 obtain ⟨y450, hy450⟩ : ∃ y_ : List Int, y_ = (t447 ++ y444) := ⟨_, rfl⟩
 replace H : ((spec_Sum32.f k y444).bind fun t453 => ((spec_l04Four.f t453).bind fun t454 => (if y450.length + t454.length < 140737488355328 then (some (y450 ++ t454)) else (none)))) = some r := zby hy450 H
 have Ny450 := Aside0.mk hy450
 clear hy450
 replace H := Option.bind_eq_some_iff.mp H
 obtain ⟨t453, A90, H⟩ := H
 try dsimp only at H
 have A9 := Aside0.mk A90
 clear A90
 replace H := Option.bind_eq_some_iff.mp H
 obtain ⟨t454, A100, H⟩ := H
 try dsimp only at H
 have A10 := Aside0.mk A100
 clear A100
 by_cases c11 : y450.length + t454.length < 140737488355328
 rotate_left
 ·rw [if_neg c11] at H
  exact absurd H (by simp)
 rw [if_pos c11] at H
 have LMc11 := Aside0.mk c11
 clear c11
 obtain ⟨y457, hy457⟩ : ∃ y_ : List Int, y_ = (y450 ++ t454) := ⟨_, rfl⟩
 replace H : (some y457) = some r := zby hy457 H
 have Ny457 := Aside0.mk hy457
 clear hy457
 obtain rfl := Option.some.inj H
 go_enter Try.func47, Try.ntmps47
 try go_wp2_with (first | ((with_reducible refine gate_dst (N := 1) rfl ?_); refine box_event (by rfl) (N := 1) (by rfl) (cs := #[.int .i64 a0_0, .int .i64 a0_1, .string a0_2, .string a0_3, .slice A0_4 l0_4.length c0_4]) (t := 47) zgs ?_; intro gb431 hg w12 hbox hb; have BK431 := Aside0.mk (hbox); have GW431 := zge hg (below_size (zh HB)); have GE431 := zge hg (below_size (zh HB)); replace HB := Aside0.mk (below_step (zh HB) hb); clear hb hbox hg))
 replace BK431 := Aside0.mk (blk_drew BK431.out)
 replace HB := Aside0.mk (below_drew1 HB.out)
 refine start_ (n := 9) (S := fun w' => w'.cell? ⟨gb431, 0, none⟩ = some (.int .i64 a0_0) ∧ w'.cell? ⟨gb431, 1, none⟩ = some (.int .i64 a0_1) ∧ w'.cell? ⟨gb431, 2, none⟩ = some (.string a0_2) ∧ w'.cell? ⟨gb431, 3, none⟩ = some (.string a0_3) ∧ w'.cell? ⟨gb431, 4, none⟩ = some (.slice A0_4 l0_4.length c0_4)) (ds := []) (fl15_ 9 0) (by kernel_rfl) rfl rfl ⟨(blk_cell BK431.out 0).trans rfl, (blk_cell BK431.out 1).trans rfl, (blk_cell BK431.out 2).trans rfl, (blk_cell BK431.out 3).trans rfl, (blk_cell BK431.out 4).trans rfl⟩ (fun hHeld => ?_); refine with_tabW spec_l14Bytes.tab1 spec_l14Bytes.bits1 (fun HT_ HW_ => ?_)
 generalize w12.drew = w13 at BK431 HB hHeld ⊢
 refine zpu HT_ 0 4 (fl15_ 9 1) ?_
 refine zpu HT_ 4 8 (fl15_ 9 17) ?_
 refine take_ (i := 1) (N := some 5) (v := ?_) (a' := ?_) (fl15_ 9 19) rfl rfl (take_ofW HT_.out HW_.out (by kernel_rfl)) (fun _ _ _ h => h) (Or.inl ⟨by rfl, ?_⟩) hHeld ?_ ?_
 rotate_left
 ·rintro w' ⟨s0, s1, s2, s3, s4⟩
  go_simp
  with_reducible rfl
 rotate_left
 ·simp only [Act.put, List.setIfInBounds_toArray, List.set_cons_zero, List.set_cons_succ, i64_w, i32_w]
  rfl
 refine zpu HT_ 2 6 (fl15_ 9 23) ?_
 refine take_ (i := 5) (N := some 9) (v := ?_) (a' := ?_) (fl15_ 9 55) rfl rfl (take_ofW HT_.out HW_.out (by kernel_rfl)) (fun _ _ _ h => h) (Or.inl ⟨by rfl, ?_⟩) hHeld ?_ ?_
 rotate_left
 ·rintro w' ⟨s0, s1, s2, s3, s4⟩
  go_simp
  with_reducible rfl
 rotate_left
 ·simp only [Act.put, List.setIfInBounds_toArray, List.set_cons_zero, List.set_cons_succ, i64_w, i32_w]
  rfl
 refine join_ (σ := Value × Value) 2 (fl15_ 9 127) (fun s_ => [(7, s_.1), (10, s_.2)]) (fun s_ w' => (w'.cell? ⟨gb431, 0, none⟩ = some (.int .i64 a0_0) ∧ w'.cell? ⟨gb431, 1, none⟩ = some (.int .i64 a0_1) ∧ w'.cell? ⟨gb431, 2, none⟩ = some (.string a0_2) ∧ w'.cell? ⟨gb431, 3, none⟩ = some (.string a0_3) ∧ w'.cell? ⟨gb431, 4, none⟩ = some (.slice A0_4 l0_4.length c0_4)) ∧ (Kd.R (Kd.int .u8) 5 w' w.heap.size (fun k_ => some k_ ≠ (s_.2 : Value).ownBlock) s_.1 y432) ∧ (Kd.R (Kd.int .u8) 5 w' w.heap.size (fun k_ => some k_ ≠ (s_.1 : Value).ownBlock) s_.2 t435) ∧ (w'.heap[gb431]? = some (.cells #[.int .i64 a0_0, .int .i64 a0_1, .string a0_2, .string a0_3, .slice A0_4 l0_4.length c0_4] 47 (0, 0))) ∧ (Below w.heap.size w w')) ?_ ?_
 rotate_left
 ·intro hCont
  refine two_ (i := 3) (j := 6) (Ni := some 7) (Nj := some 10) (fl15_ 9 63) (fl15_ 9 119) rfl rfl rfl rfl (two_of HT_.out (by kernel_rfl)) (by decide) (by decide) (fun K hK => ?_) (fun K hK => ?_)
  ·skip
   refine Kd.R_lit_step (Kd.int .u8) _ 5 ?hg (N := 7) ?hd (xs := ([(a0_0) % 256] : List Int)) (inner := [.int .u8 ((a0_0) % 256)]) (ok := fun _ => True) (okp := fun _ => True) ?hr ?hp (fun _ hk => hk) trivial (Below.refl _ _) (Nat.le_refl _) (by simp) ?_; (case hd => rfl); (case hg => rfl); (case hr => first | (go_simp; done) | (go_simp; rfl)); (case hp => exact (Reps.one (show Kd.M (Kd.int .u8) _ _ _ ((a0_0) % 256) [.int .u8 ((a0_0) % 256)] from rfl) (Reps.none _ _)))
   intro v433 w14 ho15 hb hg_ hnew_
   clear hg_ hnew_
   (first | rw [← Ny432.out] at ho15 | (simp only [Int.reduceToNat] at ho15; rw [← Ny432.out] at ho15))
   have HO434 := Aside0.mk (Kd.R_lower ho15 (below_size (zg HB)))
   replace BK431 := Aside0.mk (blk_below (zb BK431) hb)
   replace HB := Aside0.mk (below_step (zg HB) hb)
   clear hb ho15
   refine hK.out _ _ ⟨(blk_cell BK431.out 0).trans rfl, (blk_cell BK431.out 1).trans rfl, (blk_cell BK431.out 2).trans rfl, (blk_cell BK431.out 3).trans rfl, (blk_cell BK431.out 4).trans rfl⟩ (fun hHeld => ?_)
   clear hK K
   refine norm_ (a' := ?_) ?_ ?_
   rotate_left
   ·show Act.put _ (some 7) _ = _
    simp only [Act.put, List.setIfInBounds_toArray, List.set_cons_zero, List.set_cons_succ, i64_w, i32_w]
    rfl
   refine one_ (i := 6) (N := some 10) (fl15_ 9 127) rfl rfl (one_of HT_.out (by kernel_rfl)) (by decide) (fun K hK => ?_)
   refine goes_ Try.func63 (by kernel_rfl) rfl #[.int .i64 a0_1] (by rfl) rfl rfl zar ?_
   with_reducible refine (spec_l03Put.calls k a0_1 t435 _ A2.out).mono ?_
   rintro e w16 ⟨v436, rfl, ho0, hb⟩
   refine ⟨_, rfl, ?_⟩
   have HO437 := Aside0.mk (Kd.R_lower (Kd.R_new' ho0 (Kd.R_lt (zr HO434))) (below_size (zg HB)))
   replace HO434 := Aside0.mk (Kd.R_elder' (zr HO434) (Kd.R_base ho0) hb)
   replace BK431 := Aside0.mk (blk_below (zb BK431) hb)
   replace HB := Aside0.mk (below_step (zg HB) hb)
   (try clear hb)
   (try clear hb2)
   (try clear hk)
   (try clear hi)
   (try clear ho0)
   refine hK.out _ _ ⟨(blk_cell BK431.out 0).trans rfl, (blk_cell BK431.out 1).trans rfl, (blk_cell BK431.out 2).trans rfl, (blk_cell BK431.out 3).trans rfl, (blk_cell BK431.out 4).trans rfl⟩ (fun hHeld => ?_)
   clear hK K
   refine norm_ (a' := ?_) ?_ ?_
   rotate_left
   ·show Act.put _ (some 10) _ = _
    simp only [Act.put, List.setIfInBounds_toArray, List.set_cons_zero, List.set_cons_succ, i64_w, i32_w]
    rfl
   exact norm_ (by simp only [putAll, Act.put, List.setIfInBounds_toArray, List.set_cons_zero, List.set_cons_succ]) (hCont (v433, v436) _ ⟨hHeld, (Kd.R_mono (zr HO434) (fun _ hk => hk.2)), (Kd.R_mono (zr HO437) (fun _ hk => hk.2)), (zb BK431), (zg HB)⟩)
  ·skip
   refine goes_ Try.func63 (by kernel_rfl) rfl #[.int .i64 a0_1] (by rfl) rfl rfl zar ?_
   with_reducible refine (spec_l03Put.calls k a0_1 t435 _ A2.out).mono ?_
   rintro e w14 ⟨v436, rfl, ho0, hb⟩
   refine ⟨_, rfl, ?_⟩
   have HO437 := Aside0.mk (Kd.R_lower ho0 (below_size (zg HB)))
   replace BK431 := Aside0.mk (blk_below (zb BK431) hb)
   replace HB := Aside0.mk (below_step (zg HB) hb)
   (try clear hb)
   (try clear hb2)
   (try clear hk)
   (try clear hi)
   (try clear ho0)
   refine hK.out _ _ ⟨(blk_cell BK431.out 0).trans rfl, (blk_cell BK431.out 1).trans rfl, (blk_cell BK431.out 2).trans rfl, (blk_cell BK431.out 3).trans rfl, (blk_cell BK431.out 4).trans rfl⟩ (fun hHeld => ?_)
   clear hK K
   refine norm_ (a' := ?_) ?_ ?_
   rotate_left
   ·show Act.put _ (some 10) _ = _
    simp only [Act.put, List.setIfInBounds_toArray, List.set_cons_zero, List.set_cons_succ, i64_w, i32_w]
    rfl
   refine one_ (i := 3) (N := some 7) (fl15_ 9 127) rfl rfl (one_of HT_.out (by kernel_rfl)) (by decide) (fun K hK => ?_)
   refine Kd.R_lit_step (Kd.int .u8) _ 5 ?hg (N := 7) ?hd (xs := ([(a0_0) % 256] : List Int)) (inner := [.int .u8 ((a0_0) % 256)]) (ok := fun _ => True) (okp := fun _ => True) ?hr ?hp (fun _ hk => hk) trivial (Below.refl _ _) (Nat.le_refl _) (by simp) ?_; (case hd => rfl); (case hg => rfl); (case hr => first | (go_simp; done) | (go_simp; rfl)); (case hp => exact (Reps.one (show Kd.M (Kd.int .u8) _ _ _ ((a0_0) % 256) [.int .u8 ((a0_0) % 256)] from rfl) (Reps.none _ _)))
   intro v433 w16 ho17 hb hg_ hnew_
   clear hg_ hnew_
   (first | rw [← Ny432.out] at ho17 | (simp only [Int.reduceToNat] at ho17; rw [← Ny432.out] at ho17))
   have HO434 := Aside0.mk (Kd.R_lower (Kd.R_new' ho17 (Kd.R_lt (zr HO437))) (below_size (zg HB)))
   replace HO437 := Aside0.mk (Kd.R_elder' (zr HO437) (Kd.R_base ho17) hb)
   replace BK431 := Aside0.mk (blk_below (zb BK431) hb)
   replace HB := Aside0.mk (below_step (zg HB) hb)
   clear hb ho17
   refine hK.out _ _ ⟨(blk_cell BK431.out 0).trans rfl, (blk_cell BK431.out 1).trans rfl, (blk_cell BK431.out 2).trans rfl, (blk_cell BK431.out 3).trans rfl, (blk_cell BK431.out 4).trans rfl⟩ (fun hHeld => ?_)
   clear hK K
   refine norm_ (a' := ?_) ?_ ?_
   rotate_left
   ·show Act.put _ (some 7) _ = _
    simp only [Act.put, List.setIfInBounds_toArray, List.set_cons_zero, List.set_cons_succ, i64_w, i32_w]
    rfl
   exact norm_ (by simp only [putAll, Act.put, List.setIfInBounds_toArray, List.set_cons_zero, List.set_cons_succ]) (hCont (v433, v436) _ ⟨hHeld, (Kd.R_mono (zr HO434) (fun _ hk => hk.2)), (Kd.R_mono (zr HO437) (fun _ hk => hk.2)), (zb BK431), (zg HB)⟩)
 rintro ⟨v433, v436⟩ w18 ⟨hS_, h0_, h1_, h2_, h3_⟩
 have n0_ : Aside0 (Kd.R (Kd.int .u8) 5 w18 w.heap.size (fun k_ => some k_ ≠ (v436 : Value).ownBlock) v433 y432) := ⟨h0_⟩
 have n1_ : Aside0 (Kd.R (Kd.int .u8) 5 w18 w.heap.size (fun k_ => some k_ ≠ (v433 : Value).ownBlock) v436 t435) := ⟨h1_⟩
 have n2_ : Aside0 (w18.heap[gb431]? = some (.cells #[.int .i64 a0_0, .int .i64 a0_1, .string a0_2, .string a0_3, .slice A0_4 l0_4.length c0_4] 47 (0, 0))) := ⟨h2_⟩
 have n3_ : Aside0 (Below w.heap.size w w18) := ⟨h3_⟩
 clear BK431
 clear HB
 clear h0_ h1_ h2_ h3_
 have HO434 := n0_
 have HO437 := n1_
 have BK431 := n2_
 have HB := n3_
 clear n0_ n1_ n2_ n3_
 have hHeld : w18.cell? ⟨gb431, 0, none⟩ = some (.int .i64 a0_0) ∧ w18.cell? ⟨gb431, 1, none⟩ = some (.int .i64 a0_1) ∧ w18.cell? ⟨gb431, 2, none⟩ = some (.string a0_2) ∧ w18.cell? ⟨gb431, 3, none⟩ = some (.string a0_3) ∧ w18.cell? ⟨gb431, 4, none⟩ = some (.slice A0_4 l0_4.length c0_4) := hS_
 obtain ⟨Ao20, co20, eo20⟩ := Kd.R_slice HO437.out
 (first | subst eo20 | (injection eo20 with f1_ f2_ f3_; have f4_ := f1_.symm; have f5_ := f3_.symm; clear f1_ f2_ f3_; subst f4_; subst f5_))
 refine norm_ (a' := ?_) ?_ ?_
 rotate_left
 ·simp only [putAll, Act.put, List.setIfInBounds_toArray, List.set_cons_zero, List.set_cons_succ]
  rfl
 refine one_ (i := 7) (N := some 11) (fl15_ 9 255) rfl rfl (one_of HT_.out (by kernel_rfl)) (by decide) (fun K hK => ?_)
 refine Kd.R_append_rows_step (Kd.int .u8) (w0 := w) w.heap.size (by rfl) (.tmp 7) (.tmp 10) 26 5 (.int .u8 0) 1 rfl Try.underlying26 info5 rfl (by decide) (by omega) v433 y432 t435 _ _ _ (fun k_ => some k_ ≠ (.slice Ao20 t435.length co20 : Value).ownBlock) (fun _ => False) rfl rfl ?aO ?aR (fun _ _ h => h) (fun _ h => h.elim) ?aF ?aB ?aS ?aL ?_
 (case aR => repeat (first | exact (Kd.R_reads' HO437.out).2.2 | (with_reducible refine Kd.C_alloc ?_ _) | (with_reducible refine Kd.C_drewN ?_ _) | (with_reducible refine Kd.C_drew ?_)))
 (case aB => exact (zg HB))
 (case aF => exact (fun k_ hk => Kd.fresh' (Kd.R_lt (zr HO437)) k_ hk))
 (case aO => exact (zr HO434))
 (case aS => exact (below_size (zg HB)))
 (case aL => have := LMc3.out; omega)
 intro v439 w19 ho hb hg hat
 rw [← Ny438.out] at ho
 replace BK431 := Aside0.mk (blk_grown (zb BK431) hg (Kd.R_ne HO434.out BK431.out (by decide)))
 replace HO437 := Aside0.mk (Kd.R_after (ok := (fun _ => True)) (Kd.R_mono (zr HO437) (fun _ hk => ⟨trivial, hk⟩)) hg hat)
 replace HB := Aside0.mk (hb)
 have HO440 := Aside0.mk (ho)
 clear HO434
 clear ho hb hg hat
 refine hK.out _ _ ⟨(blk_cell BK431.out 0).trans rfl, (blk_cell BK431.out 1).trans rfl, (blk_cell BK431.out 2).trans rfl, (blk_cell BK431.out 3).trans rfl, (blk_cell BK431.out 4).trans rfl⟩ (fun hHeld => ?_)
 clear hK K
 refine norm_ (a' := ?_) ?_ ?_
 rotate_left
 ·show Act.put _ (some 11) _ = _
  simp only [Act.put, List.setIfInBounds_toArray, List.set_cons_zero, List.set_cons_succ, i64_w, i32_w]
  rfl
 refine zpu HT_ 8 3 (fl15_ 9 511) ?_
 refine done_ (done_of HT_.out (by kernel_rfl)) ?_
 obtain ⟨⟨hcz21_0, hcz21_1, hcz21_2, hcz21_3, hcz21_4⟩, hfz21_0, hfz21_1, hfz21_2, hfz21_3, hfz21_4⟩ := zc5 BK431
 try go_wp2_with (first | ((with_reducible refine gate_callee (f := 36) rfl ?_); refine goesL_ (some 18) rfl rfl Try.func36 (by kernel_rfl) rfl #[.agg #[.string a0_3, .slice A0_4 l0_4.length c0_4]] rfl zar ?_; (with_reducible refine (spec_l06Bytes.calls k a0_3 _ _ l0_4 t441 _ ?side1 ?side2 A5.out).mono ?_); (case side1 => exact zC (Kd.C_below HR0_4.out HB.out)); (case side2 => exact HC0_4.out); rintro e w22 ⟨v442, rfl, ho0, hb⟩; refine ⟨_, rfl, ?_⟩; have HO443 := Aside0.mk (Kd.R_lower (Kd.R_new' (Kd.R_new' ho0 (Kd.R_lt (zr HO437))) (Kd.R_lt (zr HO440))) (below_size (zg HB))); replace HO437 := Aside0.mk (Kd.R_elder' (zr HO437) (Kd.R_base ho0) hb); replace HO440 := Aside0.mk (Kd.R_elder' (zr HO440) (Kd.R_base ho0) hb); replace BK431 := Aside0.mk (blk_below (zb BK431) hb); replace HB := Aside0.mk (below_step (zg HB) hb); (try clear hb ho0); (try clear hb); (try clear hk); (try clear hi); obtain ⟨Ao25, co25, eo25⟩ := Kd.R_slice HO443.out; subst eo25) | ((with_reducible refine gate_builtin (b := .append) (xs := #[.tmp 15, .tmp 18]) rfl ?_); at_builtin; refine Kd.R_append_rows (Kd.int .u8) (w0 := w) w.heap.size rfl (.tmp 15) (.tmp 18) 26 5 (.int .u8 0) 1 rfl Try.underlying26 info5 rfl (by decide) (by omega) v439 y438 t441 _ _ _ (fun k_ => some k_ ≠ (.slice Ao20 t435.length co20 : Value).ownBlock ∧ some k_ ≠ (.slice Ao25 t441.length co25 : Value).ownBlock) (fun _ => False) rfl rfl ?aO ?aR (fun _ _ h => h) (fun _ h => h.elim) ?aF ?aB ?aS ?aL ?_; (case aR => repeat (first | exact (Kd.R_reads' HO443.out).2.2 | (with_reducible refine Kd.C_alloc ?_ _) | (with_reducible refine Kd.C_drewN ?_ _) | (with_reducible refine Kd.C_drew ?_))); (case aB => exact (zg HB)); (case aF => exact (fun k_ hk => ⟨Kd.fresh' (Kd.R_lt (zr HO437)) k_ hk, Kd.fresh' (Kd.R_lt (zr HO443)) k_ hk⟩)); (case aO => exact (zr HO440)); (case aS => exact (below_size (zg HB))); (case aL => have := LMc6.out; omega); intro v445 w24 ho hb hg hat; rw [← Ny444.out] at ho; replace BK431 := Aside0.mk (blk_grown (zb BK431) hg (Kd.R_ne HO440.out BK431.out (by decide))); replace HO437 := Aside0.mk (Kd.R_after (ok := (fun k_ => some k_ ≠ (.slice Ao25 t441.length co25 : Value).ownBlock)) (Kd.R_mono (zr HO437) (fun _ hk => ⟨hk.2, hk.1.2⟩)) hg hat); replace HO443 := Aside0.mk (Kd.R_after (ok := (fun k_ => some k_ ≠ (.slice Ao20 t435.length co20 : Value).ownBlock)) (Kd.R_mono (zr HO443) (fun _ hk => ⟨hk.1.2, hk.2⟩)) hg hat); replace HB := Aside0.mk (hb); have HO446 := Aside0.mk (ho); clear HO440; clear ho hb hg hat; obtain ⟨Ao26, co26, eo26⟩ := Kd.R_slice HO446.out; subst eo26) | ((with_reducible refine gate_callee (f := 63) rfl ?_); refine goesL_ (some 26) rfl rfl Try.func63 (by kernel_rfl) rfl #[.int .i64 (y444.length : Int)] rfl zar ?_; (with_reducible refine (spec_l03Put.calls k (y444.length : Int) t447 _ A7.out).mono ?_); rintro e w27 ⟨v448, rfl, ho0, hb⟩; refine ⟨_, rfl, ?_⟩; have HO449 := Aside0.mk (Kd.R_lower (Kd.R_new' (Kd.R_new' (Kd.R_new' ho0 (Kd.R_lt (zr HO437))) (Kd.R_lt (zr HO443))) (Kd.R_lt (zr HO446))) (below_size (zg HB))); replace HO437 := Aside0.mk (Kd.R_elder' (zr HO437) (Kd.R_base ho0) hb); replace HO443 := Aside0.mk (Kd.R_elder' (zr HO443) (Kd.R_base ho0) hb); replace HO446 := Aside0.mk (Kd.R_elder' (zr HO446) (Kd.R_base ho0) hb); replace BK431 := Aside0.mk (blk_below (zb BK431) hb); replace HB := Aside0.mk (below_step (zg HB) hb); (try clear hb ho0); (try clear hb); (try clear hk); (try clear hi)) | ((with_reducible refine gate_builtin (b := .append) (xs := #[.tmp 26, .tmp 27]) rfl ?_); at_builtin; refine Kd.R_append_rows (Kd.int .u8) (w0 := w) w.heap.size rfl (.tmp 26) (.tmp 27) 26 5 (.int .u8 0) 1 rfl Try.underlying26 info5 rfl (by decide) (by omega) v448 t447 y444 _ _ _ (fun k_ => some k_ ≠ (.slice Ao20 t435.length co20 : Value).ownBlock ∧ some k_ ≠ (.slice Ao25 t441.length co25 : Value).ownBlock ∧ some k_ ≠ (.slice Ao26 y444.length co26 : Value).ownBlock) (fun _ => False) rfl rfl ?aO ?aR (fun _ _ h => h) (fun _ h => h.elim) ?aF ?aB ?aS ?aL ?_; (case aR => repeat (first | exact (Kd.R_reads' HO446.out).2.2 | (with_reducible refine Kd.C_alloc ?_ _) | (with_reducible refine Kd.C_drewN ?_ _) | (with_reducible refine Kd.C_drew ?_))); (case aB => exact (zg HB)); (case aF => exact (fun k_ hk => ⟨Kd.fresh' (Kd.R_lt (zr HO437)) k_ hk, Kd.fresh' (Kd.R_lt (zr HO443)) k_ hk, Kd.fresh' (Kd.R_lt (zr HO446)) k_ hk⟩)); (case aO => exact (Kd.R_mono (zr HO449) (fun _ hk => ⟨hk.1.1.2, ⟨hk.1.2, hk.2⟩⟩))); (case aS => exact (below_size (zg HB))); (case aL => have := LMc8.out; omega); intro v451 w29 ho hb hg hat; rw [← Ny450.out] at ho; replace BK431 := Aside0.mk (blk_grown (zb BK431) hg (Kd.R_ne HO449.out BK431.out (by decide))); replace HO437 := Aside0.mk (Kd.R_after (ok := (fun k_ => some k_ ≠ (.slice Ao25 t441.length co25 : Value).ownBlock ∧ some k_ ≠ (.slice Ao26 y444.length co26 : Value).ownBlock)) (zr HO437) hg hat); replace HO443 := Aside0.mk (Kd.R_after (ok := (fun k_ => some k_ ≠ (.slice Ao20 t435.length co20 : Value).ownBlock ∧ some k_ ≠ (.slice Ao26 y444.length co26 : Value).ownBlock)) (zr HO443) hg hat); replace HO446 := Aside0.mk (Kd.R_after (ok := (fun k_ => some k_ ≠ (.slice Ao20 t435.length co20 : Value).ownBlock ∧ some k_ ≠ (.slice Ao25 t441.length co25 : Value).ownBlock)) (zr HO446) hg hat); replace HB := Aside0.mk (hb); have HO452 := Aside0.mk (ho); clear HO449; clear ho hb hg hat) | ((with_reducible refine gate_callee (f := 79) rfl ?_); refine goesL_ (some 30) rfl rfl Try.func79 (by kernel_rfl) rfl #[.slice Ao26 y444.length co26] rfl zar ?_; (with_reducible refine (spec_Sum32.calls k _ _ y444 t453 _ ?side1 ?side2 A9.out).mono ?_); (case side1 => exact zC (Kd.R_reads' HO446.out).2.2); (case side2 => exact (Kd.R_reads' HO446.out).2.1); rintro e w' ⟨rfl, ⟨nd, rfl⟩⟩; refine ⟨_, rfl, ?_⟩) | ((with_reducible refine gate_callee (f := 78) rfl ?_); refine goesL_ (some 31) rfl rfl Try.func78 (by kernel_rfl) rfl #[.int .i64 t453] rfl zar ?_; (with_reducible refine (spec_l04Four.calls t453 t454 _ A10.out).mono ?_); rintro e w30 ⟨v455, rfl, ho0, hb⟩; refine ⟨_, rfl, ?_⟩; have HO456 := Aside0.mk (Kd.R_lower (Kd.R_new' (Kd.R_new' (Kd.R_new' (Kd.R_new' ho0 (Kd.R_lt (zr HO437))) (Kd.R_lt (zr HO443))) (Kd.R_lt (zr HO446))) (Kd.R_lt (zr HO452))) (below_size (zg HB))); replace HO437 := Aside0.mk (Kd.R_elder' (zr HO437) (Kd.R_base ho0) hb); replace HO443 := Aside0.mk (Kd.R_elder' (zr HO443) (Kd.R_base ho0) hb); replace HO446 := Aside0.mk (Kd.R_elder' (zr HO446) (Kd.R_base ho0) hb); replace HO452 := Aside0.mk (Kd.R_elder' (zr HO452) (Kd.R_base ho0) hb); replace BK431 := Aside0.mk (blk_below (zb BK431) hb); replace HB := Aside0.mk (below_step (zg HB) hb); (try clear hb ho0); (try clear hb); (try clear hk); (try clear hi); obtain ⟨Ao33, co33, eo33⟩ := Kd.R_slice HO456.out; subst eo33) | ((with_reducible refine gate_builtin (b := .append) (xs := #[.tmp 28, .tmp 31]) rfl ?_); at_builtin; refine Kd.R_append_rows (Kd.int .u8) (w0 := w) w.heap.size rfl (.tmp 28) (.tmp 31) 26 5 (.int .u8 0) 1 rfl Try.underlying26 info5 rfl (by decide) (by omega) v451 y450 t454 _ _ _ (fun k_ => some k_ ≠ (.slice Ao20 t435.length co20 : Value).ownBlock ∧ some k_ ≠ (.slice Ao25 t441.length co25 : Value).ownBlock ∧ some k_ ≠ (.slice Ao26 y444.length co26 : Value).ownBlock ∧ some k_ ≠ (.slice Ao33 t454.length co33 : Value).ownBlock) (fun _ => False) rfl rfl ?aO ?aR (fun _ _ h => h) (fun _ h => h.elim) ?aF ?aB ?aS ?aL ?_; (case aR => repeat (first | exact (Kd.R_reads' HO456.out).2.2 | (with_reducible refine Kd.C_alloc ?_ _) | (with_reducible refine Kd.C_drewN ?_ _) | (with_reducible refine Kd.C_drew ?_))); (case aB => exact (zg HB)); (case aF => exact (fun k_ hk => ⟨Kd.fresh' (Kd.R_lt (zr HO437)) k_ hk, Kd.fresh' (Kd.R_lt (zr HO443)) k_ hk, Kd.fresh' (Kd.R_lt (zr HO446)) k_ hk, Kd.fresh' (Kd.R_lt (zr HO456)) k_ hk⟩)); (case aO => exact (Kd.R_mono (zr HO452) (fun _ hk => ⟨hk.1.1, ⟨hk.1.2.1, ⟨hk.1.2.2, hk.2⟩⟩⟩))); (case aS => exact (below_size (zg HB))); (case aL => have := LMc11.out; omega); intro v458 w32 ho hb hg hat; rw [← Ny457.out] at ho; replace BK431 := Aside0.mk (blk_grown (zb BK431) hg (Kd.R_ne HO452.out BK431.out (by decide))); replace HO437 := Aside0.mk (Kd.R_after (ok := (fun k_ => some k_ ≠ (.slice Ao25 t441.length co25 : Value).ownBlock ∧ some k_ ≠ (.slice Ao26 y444.length co26 : Value).ownBlock ∧ some k_ ≠ (.slice Ao33 t454.length co33 : Value).ownBlock)) (Kd.R_mono (zr HO437) (fun _ hk => ⟨⟨hk.1.1.1, ⟨hk.1.1.2, hk.2⟩⟩, hk.1.2⟩)) hg hat); replace HO443 := Aside0.mk (Kd.R_after (ok := (fun k_ => some k_ ≠ (.slice Ao20 t435.length co20 : Value).ownBlock ∧ some k_ ≠ (.slice Ao26 y444.length co26 : Value).ownBlock ∧ some k_ ≠ (.slice Ao33 t454.length co33 : Value).ownBlock)) (Kd.R_mono (zr HO443) (fun _ hk => ⟨⟨hk.1.1.1, ⟨hk.1.1.2, hk.2⟩⟩, hk.1.2⟩)) hg hat); replace HO446 := Aside0.mk (Kd.R_after (ok := (fun k_ => some k_ ≠ (.slice Ao20 t435.length co20 : Value).ownBlock ∧ some k_ ≠ (.slice Ao25 t441.length co25 : Value).ownBlock ∧ some k_ ≠ (.slice Ao33 t454.length co33 : Value).ownBlock)) (Kd.R_mono (zr HO446) (fun _ hk => ⟨⟨hk.1.1.1, ⟨hk.1.1.2, hk.2⟩⟩, hk.1.2⟩)) hg hat); replace HO456 := Aside0.mk (Kd.R_after (ok := (fun k_ => some k_ ≠ (.slice Ao20 t435.length co20 : Value).ownBlock ∧ some k_ ≠ (.slice Ao25 t441.length co25 : Value).ownBlock ∧ some k_ ≠ (.slice Ao26 y444.length co26 : Value).ownBlock)) (Kd.R_mono (zr HO456) (fun _ hk => ⟨⟨hk.1.1.1.2, ⟨hk.1.1.2, hk.1.2⟩⟩, hk.2⟩)) hg hat); replace HB := Aside0.mk (hb); have HO459 := Aside0.mk (ho); clear HO452; clear ho hb hg hat))
 go_ret
 exact ⟨_, zre, Kd.R_mono (zr HO459) (fun _ hk => trivial), zg HB⟩
end Go.Proofs.Ytnpdmleglcbobaa.XFnExactReadLog
