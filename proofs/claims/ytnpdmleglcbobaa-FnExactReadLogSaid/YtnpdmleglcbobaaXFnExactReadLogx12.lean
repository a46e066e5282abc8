-- A printed text of this session (wip/x/xprint.py).
import Derived.Test.YtnpdmleglcbobaaXFnExactReadLogx0
namespace Go.Proofs.Ytnpdmleglcbobaa.XFnExactReadLog
open Go.RowKit Go.Proofs.YtnpdmleglcbobaaW.PrintWords Go.Proofs.YtnpdmleglcbobaaW.PrintLast Go.Proofs.YtnpdmleglcbobaaW.PrintMore
attribute [local go_sem] max2_int min2_int max_two min_two max_three min_three max_four min_four   -- for this text's walks alone
set_option linter.unusedVariables false
set_option linter.unusedSimpArgs false

/-! ### spec_l06Fits: function 35 -/
mutual
def spec_l06Fits.j0 : Nat → Bool → ByteArray → List (S66) → Option (Bool)
 | 0, _, _, _ => none
 | k + 1, x16, x345000, x345001 => if x16 = true then (some false) else (spec_l06Fits.l0 k 0 x345000 x345001)
def spec_l06Fits.l0 : Nat → Int → ByteArray → List (S66) → Option (Bool)
 | 0, _, _, _ => none
 | k + 1, x3, x345000, x345001 => if x3 < (x345001.length : Int) then (if 0 ≤ x3 then (if (((rd_T66 x345001 x3).f0).size : Int) > 65536 then (spec_l06Fits.j2 k x3 true x345000 x345001 ((rd_T66 x345001 x3).f0) ((rd_T66 x345001 x3).f1) ((rd_T66 x345001 x3).f2)) else (if (((rd_T66 x345001 x3).f1).length : Int) > 4096 then (spec_l06Fits.j2 k x3 true x345000 x345001 ((rd_T66 x345001 x3).f0) ((rd_T66 x345001 x3).f1) ((rd_T66 x345001 x3).f2)) else (spec_l06Fits.j2 k x3 (decide ((((rd_T66 x345001 x3).f2).length : Int) > 4096)) x345000 x345001 ((rd_T66 x345001 x3).f0) ((rd_T66 x345001 x3).f1) ((rd_T66 x345001 x3).f2)))) else (none)) else (some true)
def spec_l06Fits.j2 : Nat → Int → Bool → ByteArray → List (S66) → ByteArray → List ByteArray → List Int → Option (Bool)
 | 0, _, _, _, _, _, _, _ => none
 | k + 1, x3, x44, x345000, x345001, x347000, x347001, x347002 => if x44 = true then (some false) else (spec_l06Fits.l1 k x3 0 x345000 x345001 x347000 x347001 x347002)
def spec_l06Fits.l1 : Nat → Int → Int → ByteArray → List (S66) → ByteArray → List ByteArray → List Int → Option (Bool)
 | 0, _, _, _, _, _, _, _ => none
 | k + 1, x3, x5, x345000, x345001, x347000, x347001, x347002 => if x5 < (x347001.length : Int) then (if 0 ≤ x5 then (if ((rdOf ByteArray.empty x347001 x5).size : Int) > 65536 then (some false) else (spec_l06Fits.l1 k x3 (wrap64 (x5 + 1)) x345000 x345001 x347000 x347001 x347002)) else (none)) else (spec_l06Fits.l2 k x3 0 x345000 x345001 x347000 x347001 x347002)
def spec_l06Fits.l2 : Nat → Int → Int → ByteArray → List (S66) → ByteArray → List ByteArray → List Int → Option (Bool)
 | 0, _, _, _, _, _, _, _ => none
 | k + 1, x3, x6, x345000, x345001, x347000, x347001, x347002 => if x6 < (x347002.length : Int) then (if 0 ≤ x6 then (if (rd x347002 x6) < (-1000000000000) then (some false) else (if (rd x347002 x6) > 1000000000000 then (some false) else (spec_l06Fits.l2 k x3 (wrap64 (x6 + 1)) x345000 x345001 x347000 x347001 x347002))) else (none)) else (spec_l06Fits.l0 k (wrap64 (x3 + 1)) x345000 x345001)
end
def spec_l06Fits.f (k : Nat) (a0_0 : ByteArray) (l0_1 : List (S66)) : Option (Bool) := if (a0_0.size : Int) > 65536 then (spec_l06Fits.j0 k true a0_0 l0_1) else (spec_l06Fits.j0 k (decide ((l0_1.length : Int) > 4096)) a0_0 l0_1)
theorem spec_l06Fits.mono_l : ∀ k, (∀ y0 y1 y2, LeO (spec_l06Fits.j0 k y0 y1 y2) (spec_l06Fits.j0 (k + 1) y0 y1 y2)) ∧ (∀ y0 y1 y2, LeO (spec_l06Fits.l0 k y0 y1 y2) (spec_l06Fits.l0 (k + 1) y0 y1 y2)) ∧ (∀ y0 y1 y2 y3 y4 y5 y6, LeO (spec_l06Fits.j2 k y0 y1 y2 y3 y4 y5 y6) (spec_l06Fits.j2 (k + 1) y0 y1 y2 y3 y4 y5 y6)) ∧ (∀ y0 y1 y2 y3 y4 y5 y6, LeO (spec_l06Fits.l1 k y0 y1 y2 y3 y4 y5 y6) (spec_l06Fits.l1 (k + 1) y0 y1 y2 y3 y4 y5 y6)) ∧ (∀ y0 y1 y2 y3 y4 y5 y6, LeO (spec_l06Fits.l2 k y0 y1 y2 y3 y4 y5 y6) (spec_l06Fits.l2 (k + 1) y0 y1 y2 y3 y4 y5 y6))
 | 0 => ⟨fun _ _ _ r h => by simp [spec_l06Fits.j0] at h, fun _ _ _ r h => by simp [spec_l06Fits.l0] at h, fun _ _ _ _ _ _ _ r h => by simp [spec_l06Fits.j2] at h, fun _ _ _ _ _ _ _ r h => by simp [spec_l06Fits.l1] at h, fun _ _ _ _ _ _ _ r h => by simp [spec_l06Fits.l2] at h⟩
 | k + 1 => by
  obtain ⟨ih0, ih1, ih2, ih3, ih4⟩ := spec_l06Fits.mono_l k
  refine ⟨?_, ?_, ?_, ?_, ?_⟩
  all_goals intros
  all_goals first | unfold spec_l06Fits.j0 | unfold spec_l06Fits.l0 | unfold spec_l06Fits.j2 | unfold spec_l06Fits.l1 | unfold spec_l06Fits.l2
  all_goals
   repeat' first
   | (with_reducible exact ih0 _ _ _)
   | (with_reducible exact ih1 _ _ _)
   | (with_reducible exact ih2 _ _ _ _ _ _ _)
   | (with_reducible exact ih3 _ _ _ _ _ _ _)
   | (with_reducible exact ih4 _ _ _ _ _ _ _)
   | (with_reducible exact LeO.refl _)
   | (with_reducible exact LeO.none _)
   | (with_reducible refine LeO.ite ?_ ?_)
   | (with_reducible refine LeO.bind ?_ (fun _ => ?_))
theorem spec_l06Fits.mono : ∀ a0 a1 k, LeO (spec_l06Fits.f k a0 a1) (spec_l06Fits.f (k + 1) a0 a1) := by
 intro a0 a1 k
 obtain ⟨ih0, ih1, ih2, ih3, ih4⟩ := spec_l06Fits.mono_l k
 unfold spec_l06Fits.f
 repeat' first
  | (with_reducible exact ih0 _ _ _)
  | (with_reducible exact ih1 _ _ _)
  | (with_reducible exact ih2 _ _ _ _ _ _ _)
  | (with_reducible exact ih3 _ _ _ _ _ _ _)
  | (with_reducible exact ih4 _ _ _ _ _ _ _)
  | (with_reducible exact LeO.refl _)
  | (with_reducible exact LeO.none _)
  | (with_reducible refine LeO.ite ?_ ?_)
  | (with_reducible refine LeO.bind ?_ (fun _ => ?_))
set_option maxHeartbeats 8000000 in
set_option maxRecDepth 100000 in
theorem spec_l06Fits.calls (k : Nat) (a0_0 : ByteArray) (A0_1 : Option Addr) (c0_1 : Nat) (l0_1 : List (S66)) (r : Bool) (w : World) (hr0_1 : Kd.C k66 w A0_1 l0_1.length l0_1) (hc0_1 : l0_1.length ≤ c0_1) (h : spec_l06Fits.f k a0_0 l0_1 = some r) :
 Calls Try.prog 35 #[.agg #[.string a0_0, .slice A0_1 l0_1.length c0_1]] w fun e w' => e = .returned (.bool r) ∧ Below w.heap.size w w' := by
 have hu31 := Try.underlying31
 have hu66 := Try.underlying66
 have HR0_1 := Aside0.mk hr0_1
 have HC0_1 := Aside0.mk hc0_1
 clear hr0_1 hc0_1
 have HB := Aside0.mk (Below.refl w.heap.size w)
 have H := h
 unfold spec_l06Fits.f at H
 clear h
 have HC2 := Aside0.mk H
 clear H
 go_enter Try.func35, Try.ntmps35
 go_upto_region 1 with (first | ((with_reducible refine gate_dst (N := 1) rfl ?_); (try (refine gate_guard (by rfl) ?_; dsimp only)); refine box_event (by rfl) (N := 1) (by rfl) (cs := #[.string a0_0, .slice A0_1 l0_1.length c0_1]) (t := 31) zgs ?_; intro gb344 hg w3 hbox hb; have BK344 := Aside0.mk (hbox); have GW344 := zge hg (below_size (zh HB)); have GE344 := zge hg (below_size (zh HB)); replace HB := Aside0.mk (below_step (zh HB) hb); clear hb hbox hg))
 (try simp only [Act.put, List.setIfInBounds_toArray, List.set_cons_zero, List.set_cons_succ])
 go_cut [16] (fun v16 wc => ∃ (kq : Nat) (x16_1 : Bool), v16 = .bool x16_1 ∧ Aside0 (spec_l06Fits.j0 kq x16_1 a0_0 l0_1 = some r) ∧ Aside0 (kq ≤ k) ∧ Aside0 (wc.heap[gb344]? = some (.cells #[.string a0_0, (.slice A0_1 l0_1.length c0_1)] 31 (0, 0))) ∧ Aside0 (Below w.heap.size w wc))
 case first =>
  have H := HC2.out
  clear HC2
  by_cases c4 : (a0_0.size : Int) > 65536
  ·rw [if_pos c4] at H
   have c4b0 : decide (65536 < (a0_0.size : Int)) = true := decide_eq_true c4
   have c4b1 : decide (65536 < a0_0.size) = true := decide_eq_true (by omega)
   clear c4
   (first | rw [c4b0] | (simp only [i64_w, i32_w]; rw [c4b0]) | skip)
   have H' := Aside0.mk H
   clear H
   obtain ⟨⟨hcz5_0, hcz5_1⟩, hfz5_0, hfz5_1⟩ := zc2 BK344
   go_wp2
   go_meet
   case rel => exact ⟨_, (true), zrs, H', ⟨by first | omega | exact Nat.le_refl _⟩, ⟨zb BK344⟩, ⟨zg HB⟩⟩
  rw [if_neg c4] at H
  have c4b0 : decide (65536 < (a0_0.size : Int)) = false := decide_eq_false c4
  have c4b1 : decide (65536 < a0_0.size) = false := decide_eq_false (by omega)
  clear c4
  (first | rw [c4b0] | (simp only [i64_w, i32_w]; rw [c4b0]) | skip)
  have H' := Aside0.mk H
  clear H
  obtain ⟨⟨hcz6_0, hcz6_1⟩, hfz6_0, hfz6_1⟩ := zc2 BK344
  go_wp2
  go_meet
  case rel => exact ⟨_, (decide ((l0_1.length : Int) > 4096)), zrs, H', ⟨by first | omega | exact Nat.le_refl _⟩, ⟨zb BK344⟩, ⟨zg HB⟩⟩
 case rest =>
  clear HC2
  obtain ⟨kq, x16_1, rfl, HA, HJ1, BK344, HB⟩ := hcut
  cases kq with
  | zero => exact absurd HA.out (by simp [spec_l06Fits.j0])
  | succ kj1 =>
   have H := HA.out
   clear HA
   simp only [spec_l06Fits.j0] at H
   by_cases c7 : x16_1 = true
   ·subst c7
    rw [if_pos rfl] at H
    obtain rfl := Option.some.inj H
    go_wp2
    go_ret
    exact ⟨zre, zg HB⟩
   replace c7 := Bool.eq_false_iff.mpr c7
   subst c7
   rw [if_neg (show ¬ (false = true) by decide)] at H
   have H' := Aside0.mk H
   clear H
   go_wp2
   go_loopg [3] kj1 (fun kq v3 w' => ∃ (x3_2 : Int), v3 = .int .i64 x3_2 ∧ Aside0 (spec_l06Fits.l0 kq x3_2 a0_0 l0_1 = some r) ∧ Aside0 (kq ≤ kj1) ∧ Aside0 (w'.heap[gb344]? = some (.cells #[.string a0_0, (.slice A0_1 l0_1.length c0_1)] 31 (0, 0))) ∧ Aside0 (Below w.heap.size w w'))
   case atStart => exact ⟨(0), zrs, H', ⟨Nat.le_refl _⟩, ⟨zb BK344⟩, ⟨zg HB⟩⟩
   case round =>
    clear H'
    try clear c7
    obtain ⟨x3_2, rfl, HA, HK2, BK344, HB⟩ := hrel
    cases gk with
    | zero => exact absurd HA.out (by simp [spec_l06Fits.l0])
    | succ k2 =>
     have H := HA.out
     clear HA
     simp only [spec_l06Fits.l0] at H
     by_cases c8 : x3_2 < (l0_1.length : Int)
     rotate_left
     ·rw [if_neg c8] at H
      have c8b0 : decide (x3_2 < (l0_1.length : Int)) = false := decide_eq_false c8
      clear c8
      obtain rfl := Option.some.inj H
      obtain ⟨⟨hcz45_0, hcz45_1⟩, hfz45_0, hfz45_1⟩ := zc2 BK344
      go_wp2
      go_ret
      exact ⟨zre, zg HB⟩

     rw [if_pos c8] at H
     have c8b0 : decide (x3_2 < (l0_1.length : Int)) = true := decide_eq_true c8
     clear c8
     by_cases c9 : 0 ≤ x3_2
     rotate_left
     ·rw [if_neg c9] at H
      exact absurd H (by simp)
     rw [if_pos c9] at H
     have c9b0 : decide (0 ≤ x3_2) = true := decide_eq_true c9
     clear c9
     have HC10 := Aside0.mk H
     clear H
     obtain ⟨⟨hcz11_0, hcz11_1⟩, hfz11_0, hfz11_1⟩ := zc2 BK344
     have p345 : 0 ≤ (x3_2 : Int) := of_decide_eq_true zas
     have q345 : x3_2 < (l0_1.length : Int) := of_decide_eq_true zas
     obtain ⟨ad345, A345_1, c345_1, A345_2, c345_2, e345, hx345_0, hx345_1, hx345_2, hl345_1, hi345_1, hl345_2, hi345_2⟩ := at_T66 HR0_1.out x3_2 p345 q345
     cases e345
     replace hx345_0 := zx HB hx345_0
     replace hx345_1 := zx HB hx345_1
     replace hx345_2 := zx HB hx345_2
     have HR345_1 := Aside0.mk hi345_1
     have HC345_1 := Aside0.mk hl345_1
     clear hi345_1 hl345_1
     have HR345_2 := Aside0.mk hi345_2
     have HC345_2 := Aside0.mk hl345_2
     clear hi345_2 hl345_2
     replace p345 := eq_true p345
     replace q345 := eq_true q345
     go_upto_region 7 with (first | ((with_reducible refine gate_dst (N := 4) rfl ?_); (try (refine gate_guard (by rfl) ?_; dsimp only)); refine box_event (by rfl) (N := 4) (by rfl) (cs := #[.string (⟨#[]⟩ : ByteArray), .slice none 0 0, .slice none 0 0]) (t := 66) zgs ?_; intro gb346 hg w12 hbox hb; have BK346 := Aside0.mk (hbox); have GW346 := zge hg (below_size (zg HB)); have GE346 := zge hg (below_size (zg HB)); replace HB := Aside0.mk (below_step (zg HB) hb); have NB344_346 := znl hg (blk_lt (zb BK344)); have NB346_344 := zng hg (blk_lt (zb BK344)); replace BK344 := Aside0.mk (blk_below (zb BK344) hb); clear hb hbox hg; have hnb13 := NB346_344.out; have hnc13 := NB344_346.out; obtain ⟨⟨hcz14_0, hcz14_1, hcz14_2⟩, hfz14_0, hfz14_1, hfz14_2⟩ := zc3 BK346))
     (try simp only [Act.put, List.setIfInBounds_toArray, List.set_cons_zero, List.set_cons_succ])
     go_cut [44] (fun v44 wc => ∃ (kq : Nat) (x44_9 : Bool), v44 = .bool x44_9 ∧ Aside0 (spec_l06Fits.j2 kq x3_2 x44_9 a0_0 l0_1 ((rd_T66 l0_1 x3_2).f0) ((rd_T66 l0_1 x3_2).f1) ((rd_T66 l0_1 x3_2).f2) = some r) ∧ Aside0 (kq ≤ k2) ∧ Aside0 (wc.heap[gb344]? = some (.cells #[.string a0_0, (.slice (some ad345) l0_1.length c0_1)] 31 (0, 0))) ∧ Aside0 (wc.heap[gb346]? = some (.cells #[.string ((rd_T66 l0_1 x3_2).f0), (.slice A345_1 ((rd_T66 l0_1 x3_2).f1).length c345_1), (.slice A345_2 ((rd_T66 l0_1 x3_2).f2).length c345_2)] 66 (0, 0))) ∧ Aside0 (Below w.heap.size w wc))
     case first =>
      have H := HC10.out
      clear HC10
      by_cases c15 : (((rd_T66 l0_1 x3_2).f0).size : Int) > 65536
      ·rw [if_pos c15] at H
       have c15b0 : decide (65536 < (((rd_T66 l0_1 x3_2).f0).size : Int)) = true := decide_eq_true c15
       have c15b1 : decide (65536 < ((rd_T66 l0_1 x3_2).f0).size) = true := decide_eq_true (by omega)
       clear c15
       (first | rw [c15b0] | (simp only [i64_w, i32_w]; rw [c15b0]) | skip)
       have H' := Aside0.mk H
       clear H
       have hnb16 := NB346_344.out
       have hnc16 := NB344_346.out
       obtain ⟨⟨hcz17_0, hcz17_1, hcz17_2⟩, hfz17_0, hfz17_1, hfz17_2⟩ := zc3 BK346
       go_wp2
       go_meet
       case rel => exact ⟨_, (true), zrs, H', ⟨by have := HJ1.out; have := HK2.out; first | omega | exact Nat.le_refl _⟩, ⟨zp BK344⟩, ⟨zp BK346⟩, ⟨zg HB⟩⟩
      rw [if_neg c15] at H
      have c15b0 : decide (65536 < (((rd_T66 l0_1 x3_2).f0).size : Int)) = false := decide_eq_false c15
      have c15b1 : decide (65536 < ((rd_T66 l0_1 x3_2).f0).size) = false := decide_eq_false (by omega)
      clear c15
      (first | rw [c15b0] | (simp only [i64_w, i32_w]; rw [c15b0]) | skip)
      by_cases c18 : (((rd_T66 l0_1 x3_2).f1).length : Int) > 4096
      ·rw [if_pos c18] at H
       have c18b0 : decide (4096 < (((rd_T66 l0_1 x3_2).f1).length : Int)) = true := decide_eq_true c18
       have c18b1 : decide (4096 < ((rd_T66 l0_1 x3_2).f1).length) = true := decide_eq_true (by omega)
       clear c18
       have H' := Aside0.mk H
       clear H
       have hnb19 := NB346_344.out
       have hnc19 := NB344_346.out
       obtain ⟨⟨hcz20_0, hcz20_1, hcz20_2⟩, hfz20_0, hfz20_1, hfz20_2⟩ := zc3 BK346
       go_wp2
       go_meet
       case rel => exact ⟨_, (true), zrs, H', ⟨by have := HJ1.out; have := HK2.out; first | omega | exact Nat.le_refl _⟩, ⟨zp BK344⟩, ⟨zp BK346⟩, ⟨zg HB⟩⟩
      rw [if_neg c18] at H
      have c18b0 : decide (4096 < (((rd_T66 l0_1 x3_2).f1).length : Int)) = false := decide_eq_false c18
      have c18b1 : decide (4096 < ((rd_T66 l0_1 x3_2).f1).length) = false := decide_eq_false (by omega)
      clear c18
      have H' := Aside0.mk H
      clear H
      have hnb21 := NB346_344.out
      have hnc21 := NB344_346.out
      obtain ⟨⟨hcz22_0, hcz22_1, hcz22_2⟩, hfz22_0, hfz22_1, hfz22_2⟩ := zc3 BK346
      go_wp2
      go_meet
      case rel => exact ⟨_, (decide ((((rd_T66 l0_1 x3_2).f2).length : Int) > 4096)), zrs, H', ⟨by have := HJ1.out; have := HK2.out; first | omega | exact Nat.le_refl _⟩, ⟨zp BK344⟩, ⟨zp BK346⟩, ⟨zg HB⟩⟩
     case rest =>
      clear HC10
      try clear c7
      try clear c8
      try clear c8b0
      try clear c9
      try clear c9b0
      try clear hcz11_0 hcz11_1
      try clear hcz14_0 hcz14_1 hcz14_2
      try clear hfz11_0 hfz11_1
      try clear hfz14_0 hfz14_1 hfz14_2
      try clear hx345_0
      try clear hx345_1
      try clear hx345_2
      try clear p345
      try clear q345
      obtain ⟨kq, x44_9, rfl, HA, HJ9, BK344, BK346, HB⟩ := hcut
      cases kq with
      | zero => exact absurd HA.out (by simp [spec_l06Fits.j2])
      | succ kj9 =>
       have H := HA.out
       clear HA
       simp only [spec_l06Fits.j2] at H
       by_cases c23 : x44_9 = true
       ·subst c23
        rw [if_pos rfl] at H
        obtain rfl := Option.some.inj H
        go_wp2
        go_ret
        exact ⟨zre, zg HB⟩
       replace c23 := Bool.eq_false_iff.mpr c23
       subst c23
       rw [if_neg (show ¬ (false = true) by decide)] at H
       have H' := Aside0.mk H
       clear H
       go_wp2
       go_loopg [5] kj9 (fun kq v5 w' => ∃ (x5_4 : Int), v5 = .int .i64 x5_4 ∧ Aside0 (spec_l06Fits.l1 kq x3_2 x5_4 a0_0 l0_1 ((rd_T66 l0_1 x3_2).f0) ((rd_T66 l0_1 x3_2).f1) ((rd_T66 l0_1 x3_2).f2) = some r) ∧ Aside0 (kq ≤ kj9) ∧ Aside0 (w'.heap[gb344]? = some (.cells #[.string a0_0, (.slice (some ad345) l0_1.length c0_1)] 31 (0, 0))) ∧ Aside0 (w'.heap[gb346]? = some (.cells #[.string ((rd_T66 l0_1 x3_2).f0), (.slice A345_1 ((rd_T66 l0_1 x3_2).f1).length c345_1), (.slice A345_2 ((rd_T66 l0_1 x3_2).f2).length c345_2)] 66 (0, 0))) ∧ Aside0 (Below w.heap.size w w'))
       case atStart => exact ⟨(0), zrs, H', ⟨Nat.le_refl _⟩, ⟨zb BK344⟩, ⟨zb BK346⟩, ⟨zg HB⟩⟩
       case round =>
        clear H'
        try clear c7
        try clear c8
        try clear c8b0
        try clear c9
        try clear c9b0
        try clear c23
        try clear hcz11_0 hcz11_1
        try clear hcz14_0 hcz14_1 hcz14_2
        try clear hfz11_0 hfz11_1
        try clear hfz14_0 hfz14_1 hfz14_2
        try clear hx345_0
        try clear hx345_1
        try clear hx345_2
        try clear p345
        try clear q345
        obtain ⟨x5_4, rfl, HA, HK4, BK344, BK346, HB⟩ := hrel
        cases gk with
        | zero => exact absurd HA.out (by simp [spec_l06Fits.l1])
        | succ k4 =>
         have H := HA.out
         clear HA
         simp only [spec_l06Fits.l1] at H
         by_cases c24 : x5_4 < (((rd_T66 l0_1 x3_2).f1).length : Int)
         ·rw [if_pos c24] at H
          have c24b0 : decide (x5_4 < (((rd_T66 l0_1 x3_2).f1).length : Int)) = true := decide_eq_true c24
          clear c24
          by_cases c25 : 0 ≤ x5_4
          rotate_left
          ·rw [if_neg c25] at H
           exact absurd H (by simp)
          rw [if_pos c25] at H
          have c25b0 : decide (0 ≤ x5_4) = true := decide_eq_true c25
          clear c25
          by_cases c26 : ((rdOf ByteArray.empty ((rd_T66 l0_1 x3_2).f1) x5_4).size : Int) > 65536
          ·rw [if_pos c26] at H
           have c26b0 : decide (65536 < ((rdOf ByteArray.empty ((rd_T66 l0_1 x3_2).f1) x5_4).size : Int)) = true := decide_eq_true c26
           have c26b1 : decide (65536 < (rdOf ByteArray.empty ((rd_T66 l0_1 x3_2).f1) x5_4).size) = true := decide_eq_true (by omega)
           clear c26
           obtain rfl := Option.some.inj H
           have hnb27 := NB346_344.out
           have hnc27 := NB344_346.out
           obtain ⟨⟨hcz28_0, hcz28_1, hcz28_2⟩, hfz28_0, hfz28_1, hfz28_2⟩ := zc3 BK346
           have p347 : 0 ≤ (x5_4 : Int) := of_decide_eq_true zas
           have q347 : x5_4 < (((rd_T66 l0_1 x3_2).f1).length : Int) := of_decide_eq_true zas
           obtain ⟨ad347, e347, hx347_0⟩ := Kd.at_string HR345_1.out x5_4 p347 q347
           cases e347
           replace hx347_0 := zx HB hx347_0
           replace p347 := eq_true p347
           replace q347 := eq_true q347
           go_wp2
           go_ret
           exact ⟨zre, zg HB⟩
          rw [if_neg c26] at H
          have c26b0 : decide (65536 < ((rdOf ByteArray.empty ((rd_T66 l0_1 x3_2).f1) x5_4).size : Int)) = false := decide_eq_false c26
          have c26b1 : decide (65536 < (rdOf ByteArray.empty ((rd_T66 l0_1 x3_2).f1) x5_4).size) = false := decide_eq_false (by omega)
          clear c26
          have H' := Aside0.mk H
          clear H
          have hnb29 := NB346_344.out
          have hnc29 := NB344_346.out
          obtain ⟨⟨hcz30_0, hcz30_1, hcz30_2⟩, hfz30_0, hfz30_1, hfz30_2⟩ := zc3 BK346
          have p347 : 0 ≤ (x5_4 : Int) := of_decide_eq_true zas
          have q347 : x5_4 < (((rd_T66 l0_1 x3_2).f1).length : Int) := of_decide_eq_true zas
          obtain ⟨ad347, e347, hx347_0⟩ := Kd.at_string HR345_1.out x5_4 p347 q347
          cases e347
          replace hx347_0 := zx HB hx347_0
          replace p347 := eq_true p347
          replace q347 := eq_true q347
          go_wp2
          go_roundg k4
          case measure => have := HJ1.out; have := HK2.out; have := HJ9.out; have := HK4.out; omega
          case rel => exact ⟨(wrap64 (x5_4 + 1)), zrs, H', ⟨by have := HJ1.out; have := HK2.out; have := HJ9.out; have := HK4.out; omega⟩, ⟨zb BK344⟩, ⟨zb BK346⟩, ⟨zg HB⟩⟩
         rw [if_neg c24] at H
         have c24b0 : decide (x5_4 < (((rd_T66 l0_1 x3_2).f1).length : Int)) = false := decide_eq_false c24
         clear c24
         have H' := Aside0.mk H
         clear H
         have hnb31 := NB346_344.out
         have hnc31 := NB344_346.out
         obtain ⟨⟨hcz32_0, hcz32_1, hcz32_2⟩, hfz32_0, hfz32_1, hfz32_2⟩ := zc3 BK346
         go_wp2
         go_loopg [6] k4 (fun kq v6 w' => ∃ (x6_5 : Int), v6 = .int .i64 x6_5 ∧ Aside0 (spec_l06Fits.l2 kq x3_2 x6_5 a0_0 l0_1 ((rd_T66 l0_1 x3_2).f0) ((rd_T66 l0_1 x3_2).f1) ((rd_T66 l0_1 x3_2).f2) = some r) ∧ Aside0 (kq ≤ k4) ∧ Aside0 (w'.heap[gb344]? = some (.cells #[.string a0_0, (.slice (some ad345) l0_1.length c0_1)] 31 (0, 0))) ∧ Aside0 (w'.heap[gb346]? = some (.cells #[.string ((rd_T66 l0_1 x3_2).f0), (.slice A345_1 ((rd_T66 l0_1 x3_2).f1).length c345_1), (.slice A345_2 ((rd_T66 l0_1 x3_2).f2).length c345_2)] 66 (0, 0))) ∧ Aside0 (Below w.heap.size w w'))
         case atStart => exact ⟨(0), zrs, H', ⟨Nat.le_refl _⟩, ⟨zb BK344⟩, ⟨zb BK346⟩, ⟨zg HB⟩⟩
         case round =>
          clear H'
          try clear c7
          try clear c8
          try clear c8b0
          try clear c9
          try clear c9b0
          try clear c23
          try clear c24
          try clear c24b0
          try clear hcz11_0 hcz11_1
          try clear hcz14_0 hcz14_1 hcz14_2
          try clear hcz32_0 hcz32_1 hcz32_2
          try clear hfz11_0 hfz11_1
          try clear hfz14_0 hfz14_1 hfz14_2
          try clear hfz32_0 hfz32_1 hfz32_2
          try clear hx345_0
          try clear hx345_1
          try clear hx345_2
          try clear p345
          try clear q345
          obtain ⟨x6_5, rfl, HA, HK5, BK344, BK346, HB⟩ := hrel
          cases gk with
          | zero => exact absurd HA.out (by simp [spec_l06Fits.l2])
          | succ k5 =>
           have H := HA.out
           clear HA
           simp only [spec_l06Fits.l2] at H
           by_cases c33 : x6_5 < (((rd_T66 l0_1 x3_2).f2).length : Int)
           rotate_left
           ·rw [if_neg c33] at H
            have c33b0 : decide (x6_5 < (((rd_T66 l0_1 x3_2).f2).length : Int)) = false := decide_eq_false c33
            clear c33
            have H' := Aside0.mk H
            clear H
            have hnb43 := NB346_344.out
            have hnc43 := NB344_346.out
            obtain ⟨⟨hcz44_0, hcz44_1, hcz44_2⟩, hfz44_0, hfz44_1, hfz44_2⟩ := zc3 BK346
            go_wp2
            go_roundg k5
            case measure => have := HJ1.out; have := HK2.out; have := HJ9.out; have := HK4.out; have := HK5.out; omega
            case rel => exact ⟨(wrap64 (x3_2 + 1)), zrs, H', ⟨by have := HJ1.out; have := HK2.out; have := HJ9.out; have := HK4.out; have := HK5.out; omega⟩, ⟨zb BK344⟩, ⟨zg HB⟩⟩
           rw [if_pos c33] at H
           have c33b0 : decide (x6_5 < (((rd_T66 l0_1 x3_2).f2).length : Int)) = true := decide_eq_true c33
           clear c33
           by_cases c34 : 0 ≤ x6_5
           rotate_left
           ·rw [if_neg c34] at H
            exact absurd H (by simp)
           rw [if_pos c34] at H
           have c34b0 : decide (0 ≤ x6_5) = true := decide_eq_true c34
           clear c34
           by_cases c35 : (rd ((rd_T66 l0_1 x3_2).f2) x6_5) < (-1000000000000)
           ·rw [if_pos c35] at H
            have c35b0 : decide ((rd ((rd_T66 l0_1 x3_2).f2) x6_5) < (-1000000000000)) = true := decide_eq_true c35
            clear c35
            obtain rfl := Option.some.inj H
            have hnb36 := NB346_344.out
            have hnc36 := NB344_346.out
            obtain ⟨⟨hcz37_0, hcz37_1, hcz37_2⟩, hfz37_0, hfz37_1, hfz37_2⟩ := zc3 BK346
            have p348 : 0 ≤ (x6_5 : Int) := of_decide_eq_true zas
            have q348 : x6_5 < (((rd_T66 l0_1 x3_2).f2).length : Int) := of_decide_eq_true zas
            obtain ⟨ad348, e348, hx348_0⟩ := Kd.at_int HR345_2.out x6_5 p348 q348
            cases e348
            replace hx348_0 := zx HB hx348_0
            replace p348 := eq_true p348
            replace q348 := eq_true q348
            go_wp2
            go_ret
            exact ⟨zre, zg HB⟩
           rw [if_neg c35] at H
           have c35b0 : decide ((rd ((rd_T66 l0_1 x3_2).f2) x6_5) < (-1000000000000)) = false := decide_eq_false c35
           clear c35
           by_cases c38 : (rd ((rd_T66 l0_1 x3_2).f2) x6_5) > 1000000000000
           ·rw [if_pos c38] at H
            have c38b0 : decide (1000000000000 < (rd ((rd_T66 l0_1 x3_2).f2) x6_5)) = true := decide_eq_true c38
            clear c38
            obtain rfl := Option.some.inj H
            have hnb39 := NB346_344.out
            have hnc39 := NB344_346.out
            obtain ⟨⟨hcz40_0, hcz40_1, hcz40_2⟩, hfz40_0, hfz40_1, hfz40_2⟩ := zc3 BK346
            have p348 : 0 ≤ (x6_5 : Int) := of_decide_eq_true zas
            have q348 : x6_5 < (((rd_T66 l0_1 x3_2).f2).length : Int) := of_decide_eq_true zas
            obtain ⟨ad348, e348, hx348_0⟩ := Kd.at_int HR345_2.out x6_5 p348 q348
            cases e348
            replace hx348_0 := zx HB hx348_0
            replace p348 := eq_true p348
            replace q348 := eq_true q348
            have p349 : 0 ≤ (x6_5 : Int) := of_decide_eq_true zas
            have q349 : x6_5 < (((rd_T66 l0_1 x3_2).f2).length : Int) := of_decide_eq_true zas
            obtain ⟨ad349, e349, hx349_0⟩ := Kd.at_int HR345_2.out x6_5 p349 q349
            obtain rfl : ad348 = ad349 := (by injection e349)
            replace hx349_0 := zx HB hx349_0
            replace p349 := eq_true p349
            replace q349 := eq_true q349
            go_wp2
            go_ret
            exact ⟨zre, zg HB⟩
           rw [if_neg c38] at H
           have c38b0 : decide (1000000000000 < (rd ((rd_T66 l0_1 x3_2).f2) x6_5)) = false := decide_eq_false c38
           clear c38
           have H' := Aside0.mk H
           clear H
           have hnb41 := NB346_344.out
           have hnc41 := NB344_346.out
           obtain ⟨⟨hcz42_0, hcz42_1, hcz42_2⟩, hfz42_0, hfz42_1, hfz42_2⟩ := zc3 BK346
           have p348 : 0 ≤ (x6_5 : Int) := of_decide_eq_true zas
           have q348 : x6_5 < (((rd_T66 l0_1 x3_2).f2).length : Int) := of_decide_eq_true zas
           obtain ⟨ad348, e348, hx348_0⟩ := Kd.at_int HR345_2.out x6_5 p348 q348
           cases e348
           replace hx348_0 := zx HB hx348_0
           replace p348 := eq_true p348
           replace q348 := eq_true q348
           have p349 : 0 ≤ (x6_5 : Int) := of_decide_eq_true zas
           have q349 : x6_5 < (((rd_T66 l0_1 x3_2).f2).length : Int) := of_decide_eq_true zas
           obtain ⟨ad349, e349, hx349_0⟩ := Kd.at_int HR345_2.out x6_5 p349 q349
           obtain rfl : ad348 = ad349 := (by injection e349)
           replace hx349_0 := zx HB hx349_0
           replace p349 := eq_true p349
           replace q349 := eq_true q349
           go_wp2
           go_roundg k5
           case measure => have := HJ1.out; have := HK2.out; have := HJ9.out; have := HK4.out; have := HK5.out; omega
           case rel => exact ⟨(wrap64 (x6_5 + 1)), zrs, H', ⟨by have := HJ1.out; have := HK2.out; have := HJ9.out; have := HK4.out; have := HK5.out; omega⟩, ⟨zb BK344⟩, ⟨zb BK346⟩, ⟨zg HB⟩⟩
end Go.Proofs.Ytnpdmleglcbobaa.XFnExactReadLog
