-- A text of this session: written by its own program (wip/x/xprint.py), which runs the kit's printer with contracts of its own.
import Derived.Test.YtcokeankiedfcaaDoorXFnTextx0
namespace Go.Proofs.YtcokeankiedfcaaDoor.XFnText
open Go.RowKit Go.Proofs.YtcokeankiedfcaaDoorW.PrintWords Go.Proofs.YtcokeankiedfcaaDoorW.PrintLast Go.Proofs.YtcokeankiedfcaaDoorW.PrintMore
attribute [local go_sem] max2_int min2_int max_two min_two max_three min_three max_four min_four   -- for this text's walks alone
set_option linter.unusedVariables false
set_option linter.unusedSimpArgs false

/-! ### spec_Class: function 69 -/
mutual
def spec_Class.j0 : Nat → Int → Bool → Option (Int)
 | 0, _, _ => none
 | k + 1, x0, x3 => if x3 = true then (some 1) else (if x0 ≥ 48 then (spec_Class.j1 k x0 (decide (x0 ≤ 57))) else (spec_Class.j1 k x0 false))
def spec_Class.j1 : Nat → Int → Bool → Option (Int)
 | 0, _, _ => none
 | k + 1, x0, x42 => if x42 = true then (some 2) else (if x0 = 39 then (spec_Class.j2 k x0 true) else (spec_Class.j2 k x0 (x0 == 95)))
def spec_Class.j2 : Nat → Int → Bool → Option (Int)
 | 0, _, _ => none
 | k + 1, x0, x49 => if x49 = true then (some 3) else (if x0 ≥ 12352 then (if x0 ≤ 12543 then (some 4) else (if x0 ≥ 19968 then (if x0 ≤ 40959 then (some 4) else (some 0)) else (some 0))) else (if x0 ≥ 19968 then (if x0 ≤ 40959 then (some 4) else (some 0)) else (some 0)))
end
def spec_Class.f (k : Nat) (a0 : Int) : Option (Int) := if a0 ≥ 65 then (if a0 ≤ 90 then (spec_Class.j0 k a0 true) else (if a0 ≥ 97 then (if a0 ≤ 122 then (spec_Class.j0 k a0 true) else (if a0 ≥ 192 then (if a0 ≤ 591 then (if a0 = 215 then (if a0 ≥ 880 then (spec_Class.j0 k a0 (decide (a0 ≤ 1279))) else (spec_Class.j0 k a0 false)) else (if a0 = 247 then (if a0 ≥ 880 then (spec_Class.j0 k a0 (decide (a0 ≤ 1279))) else (spec_Class.j0 k a0 false)) else (spec_Class.j0 k a0 true))) else (if a0 ≥ 880 then (spec_Class.j0 k a0 (decide (a0 ≤ 1279))) else (spec_Class.j0 k a0 false))) else (if a0 ≥ 880 then (spec_Class.j0 k a0 (decide (a0 ≤ 1279))) else (spec_Class.j0 k a0 false)))) else (if a0 ≥ 192 then (if a0 ≤ 591 then (if a0 = 215 then (if a0 ≥ 880 then (spec_Class.j0 k a0 (decide (a0 ≤ 1279))) else (spec_Class.j0 k a0 false)) else (if a0 = 247 then (if a0 ≥ 880 then (spec_Class.j0 k a0 (decide (a0 ≤ 1279))) else (spec_Class.j0 k a0 false)) else (spec_Class.j0 k a0 true))) else (if a0 ≥ 880 then (spec_Class.j0 k a0 (decide (a0 ≤ 1279))) else (spec_Class.j0 k a0 false))) else (if a0 ≥ 880 then (spec_Class.j0 k a0 (decide (a0 ≤ 1279))) else (spec_Class.j0 k a0 false))))) else (if a0 ≥ 97 then (if a0 ≤ 122 then (spec_Class.j0 k a0 true) else (if a0 ≥ 192 then (if a0 ≤ 591 then (if a0 = 215 then (if a0 ≥ 880 then (spec_Class.j0 k a0 (decide (a0 ≤ 1279))) else (spec_Class.j0 k a0 false)) else (if a0 = 247 then (if a0 ≥ 880 then (spec_Class.j0 k a0 (decide (a0 ≤ 1279))) else (spec_Class.j0 k a0 false)) else (spec_Class.j0 k a0 true))) else (if a0 ≥ 880 then (spec_Class.j0 k a0 (decide (a0 ≤ 1279))) else (spec_Class.j0 k a0 false))) else (if a0 ≥ 880 then (spec_Class.j0 k a0 (decide (a0 ≤ 1279))) else (spec_Class.j0 k a0 false)))) else (if a0 ≥ 192 then (if a0 ≤ 591 then (if a0 = 215 then (if a0 ≥ 880 then (spec_Class.j0 k a0 (decide (a0 ≤ 1279))) else (spec_Class.j0 k a0 false)) else (if a0 = 247 then (if a0 ≥ 880 then (spec_Class.j0 k a0 (decide (a0 ≤ 1279))) else (spec_Class.j0 k a0 false)) else (spec_Class.j0 k a0 true))) else (if a0 ≥ 880 then (spec_Class.j0 k a0 (decide (a0 ≤ 1279))) else (spec_Class.j0 k a0 false))) else (if a0 ≥ 880 then (spec_Class.j0 k a0 (decide (a0 ≤ 1279))) else (spec_Class.j0 k a0 false))))
theorem spec_Class.mono_l : ∀ k, (∀ y0 y1, LeO (spec_Class.j0 k y0 y1) (spec_Class.j0 (k + 1) y0 y1)) ∧ (∀ y0 y1, LeO (spec_Class.j1 k y0 y1) (spec_Class.j1 (k + 1) y0 y1)) ∧ (∀ y0 y1, LeO (spec_Class.j2 k y0 y1) (spec_Class.j2 (k + 1) y0 y1))
 | 0 => ⟨fun _ _ r h => by simp [spec_Class.j0] at h, fun _ _ r h => by simp [spec_Class.j1] at h, fun _ _ r h => by simp [spec_Class.j2] at h⟩
 | k + 1 => by
  obtain ⟨ih0, ih1, ih2⟩ := spec_Class.mono_l k
  refine ⟨?_, ?_, ?_⟩
  ·intro y0 y1
   unfold spec_Class.j0
   repeat' first
   | (with_reducible exact ih0 _ _)
   | (with_reducible exact ih1 _ _)
   | (with_reducible exact ih2 _ _)
   | (with_reducible exact LeO.refl _)
   | (with_reducible exact LeO.none _)
   | (with_reducible refine LeO.ite ?_ ?_)
   | (with_reducible refine LeO.bind ?_ (fun _ => ?_))
   | exact ih0 _ _
   | exact ih1 _ _
   | exact ih2 _ _
   | exact LeO.none _
   | refine LeO.ite ?_ ?_
   | refine LeO.bind ?_ (fun _ => ?_)
  ·intro y0 y1
   unfold spec_Class.j1
   repeat' first
   | (with_reducible exact ih0 _ _)
   | (with_reducible exact ih1 _ _)
   | (with_reducible exact ih2 _ _)
   | (with_reducible exact LeO.refl _)
   | (with_reducible exact LeO.none _)
   | (with_reducible refine LeO.ite ?_ ?_)
   | (with_reducible refine LeO.bind ?_ (fun _ => ?_))
   | exact ih0 _ _
   | exact ih1 _ _
   | exact ih2 _ _
   | exact LeO.none _
   | refine LeO.ite ?_ ?_
   | refine LeO.bind ?_ (fun _ => ?_)
  ·intro y0 y1
   unfold spec_Class.j2
   repeat' first
   | (with_reducible exact ih0 _ _)
   | (with_reducible exact ih1 _ _)
   | (with_reducible exact ih2 _ _)
   | (with_reducible exact LeO.refl _)
   | (with_reducible exact LeO.none _)
   | (with_reducible refine LeO.ite ?_ ?_)
   | (with_reducible refine LeO.bind ?_ (fun _ => ?_))
   | exact ih0 _ _
   | exact ih1 _ _
   | exact ih2 _ _
   | exact LeO.none _
   | refine LeO.ite ?_ ?_
   | refine LeO.bind ?_ (fun _ => ?_)
theorem spec_Class.mono : ∀ a0 k, LeO (spec_Class.f k a0) (spec_Class.f (k + 1) a0) := by
 intro a0 k
 obtain ⟨ih0, ih1, ih2⟩ := spec_Class.mono_l k
 unfold spec_Class.f
 repeat' first
  | (with_reducible exact ih0 _ _)
  | (with_reducible exact ih1 _ _)
  | (with_reducible exact ih2 _ _)
  | (with_reducible exact LeO.refl _)
  | (with_reducible exact LeO.none _)
  | (with_reducible refine LeO.ite ?_ ?_)
  | (with_reducible refine LeO.bind ?_ (fun _ => ?_))
  | exact ih0 _ _
  | exact ih1 _ _
  | exact ih2 _ _
  | exact LeO.none _
  | refine LeO.ite ?_ ?_
  | refine LeO.bind ?_ (fun _ => ?_)
set_option maxHeartbeats 8000000 in
set_option maxRecDepth 100000 in
theorem spec_Class.calls (k : Nat) (a0 : Int) (r : Int) (w : World) (h : spec_Class.f k a0 = some r) :
 Calls Tryd.prog 69 #[.int .i64 a0] w fun e w' => e = .returned (.int .i64 r) ∧ Drawn0 w w' := by
 have H : (if a0 ≥ 65 then (if a0 ≤ 90 then (spec_Class.j0 k a0 true) else (if a0 ≥ 97 then (if a0 ≤ 122 then (spec_Class.j0 k a0 true) else (if a0 ≥ 192 then (if a0 ≤ 591 then (if a0 = 215 then (if a0 ≥ 880 then (spec_Class.j0 k a0 (decide (a0 ≤ 1279))) else (spec_Class.j0 k a0 false)) else (if a0 = 247 then (if a0 ≥ 880 then (spec_Class.j0 k a0 (decide (a0 ≤ 1279))) else (spec_Class.j0 k a0 false)) else (spec_Class.j0 k a0 true))) else (if a0 ≥ 880 then (spec_Class.j0 k a0 (decide (a0 ≤ 1279))) else (spec_Class.j0 k a0 false))) else (if a0 ≥ 880 then (spec_Class.j0 k a0 (decide (a0 ≤ 1279))) else (spec_Class.j0 k a0 false)))) else (if a0 ≥ 192 then (if a0 ≤ 591 then (if a0 = 215 then (if a0 ≥ 880 then (spec_Class.j0 k a0 (decide (a0 ≤ 1279))) else (spec_Class.j0 k a0 false)) else (if a0 = 247 then (if a0 ≥ 880 then (spec_Class.j0 k a0 (decide (a0 ≤ 1279))) else (spec_Class.j0 k a0 false)) else (spec_Class.j0 k a0 true))) else (if a0 ≥ 880 then (spec_Class.j0 k a0 (decide (a0 ≤ 1279))) else (spec_Class.j0 k a0 false))) else (if a0 ≥ 880 then (spec_Class.j0 k a0 (decide (a0 ≤ 1279))) else (spec_Class.j0 k a0 false))))) else (if a0 ≥ 97 then (if a0 ≤ 122 then (spec_Class.j0 k a0 true) else (if a0 ≥ 192 then (if a0 ≤ 591 then (if a0 = 215 then (if a0 ≥ 880 then (spec_Class.j0 k a0 (decide (a0 ≤ 1279))) else (spec_Class.j0 k a0 false)) else (if a0 = 247 then (if a0 ≥ 880 then (spec_Class.j0 k a0 (decide (a0 ≤ 1279))) else (spec_Class.j0 k a0 false)) else (spec_Class.j0 k a0 true))) else (if a0 ≥ 880 then (spec_Class.j0 k a0 (decide (a0 ≤ 1279))) else (spec_Class.j0 k a0 false))) else (if a0 ≥ 880 then (spec_Class.j0 k a0 (decide (a0 ≤ 1279))) else (spec_Class.j0 k a0 false)))) else (if a0 ≥ 192 then (if a0 ≤ 591 then (if a0 = 215 then (if a0 ≥ 880 then (spec_Class.j0 k a0 (decide (a0 ≤ 1279))) else (spec_Class.j0 k a0 false)) else (if a0 = 247 then (if a0 ≥ 880 then (spec_Class.j0 k a0 (decide (a0 ≤ 1279))) else (spec_Class.j0 k a0 false)) else (spec_Class.j0 k a0 true))) else (if a0 ≥ 880 then (spec_Class.j0 k a0 (decide (a0 ≤ 1279))) else (spec_Class.j0 k a0 false))) else (if a0 ≥ 880 then (spec_Class.j0 k a0 (decide (a0 ≤ 1279))) else (spec_Class.j0 k a0 false))))) = some r := h
 clear h
 have HC2 := Aside0.mk H
 clear H
 go_enter Tryd.func69, Tryd.ntmps69
 go_upto_region 1 with (fail)
 go_cut [3] (fun v3 wc => ∃ (kq : Nat) (x3_1 : Bool), v3 = .bool x3_1 ∧ Aside0 (spec_Class.j0 kq a0 x3_1 = some r) ∧ Aside0 (kq ≤ k) ∧ Drawn0 w wc)
 case first =>
  have H := HC2.out
  clear HC2
  by_cases c3 : a0 ≥ 65
  ·rw [if_pos c3] at H
   have c3b0 : decide (65 ≤ a0) = true := decide_eq_true c3
   clear c3
   (first | rw [c3b0] | (simp only [i64_w, i32_w]; rw [c3b0]) | skip)
   by_cases c4 : a0 ≤ 90
   ·rw [if_pos c4] at H
    have c4b0 : decide (a0 ≤ 90) = true := decide_eq_true c4
    clear c4
    have H' := Aside0.mk H
    clear H
    go_wp2
    go_meet
    case rel => exact ⟨_, (true), (by first | rfl | (simp; done) | (simp [*]; done)), H', ⟨by first | omega | exact Nat.le_refl _⟩, by repeat (first | exact Drawn0.refl _ | apply Drawn0.step)⟩
   ·rw [if_neg c4] at H
    have c4b0 : decide (a0 ≤ 90) = false := decide_eq_false c4
    clear c4
    by_cases c5 : a0 ≥ 97
    ·rw [if_pos c5] at H
     have c5b0 : decide (97 ≤ a0) = true := decide_eq_true c5
     clear c5
     by_cases c6 : a0 ≤ 122
     ·rw [if_pos c6] at H
      have c6b0 : decide (a0 ≤ 122) = true := decide_eq_true c6
      clear c6
      have H' := Aside0.mk H
      clear H
      go_wp2
      go_meet
      case rel => exact ⟨_, (true), (by first | rfl | (simp; done) | (simp [*]; done)), H', ⟨by first | omega | exact Nat.le_refl _⟩, by repeat (first | exact Drawn0.refl _ | apply Drawn0.step)⟩
     ·rw [if_neg c6] at H
      have c6b0 : decide (a0 ≤ 122) = false := decide_eq_false c6
      clear c6
      by_cases c7 : a0 ≥ 192
      ·rw [if_pos c7] at H
       have c7b0 : decide (192 ≤ a0) = true := decide_eq_true c7
       clear c7
       by_cases c8 : a0 ≤ 591
       ·rw [if_pos c8] at H
        have c8b0 : decide (a0 ≤ 591) = true := decide_eq_true c8
        clear c8
        by_cases c9 : a0 = 215
        ·rw [if_pos c9] at H
         have c9b0 : (a0 == 215) = true := beq_iff_eq.mpr c9
         have c9b1 : (a0 != 215) = false := bne_eq_false_iff_eq.mpr c9
         clear c9
         by_cases c10 : a0 ≥ 880
         ·rw [if_pos c10] at H
          have c10b0 : decide (880 ≤ a0) = true := decide_eq_true c10
          clear c10
          have H' := Aside0.mk H
          clear H
          go_wp2
          go_meet
          case rel => exact ⟨_, (decide (a0 ≤ 1279)), (by first | rfl | (simp; done) | (simp [*]; done)), H', ⟨by first | omega | exact Nat.le_refl _⟩, by repeat (first | exact Drawn0.refl _ | apply Drawn0.step)⟩
         ·rw [if_neg c10] at H
          have c10b0 : decide (880 ≤ a0) = false := decide_eq_false c10
          clear c10
          have H' := Aside0.mk H
          clear H
          go_wp2
          go_meet
          case rel => exact ⟨_, (false), (by first | rfl | (simp; done) | (simp [*]; done)), H', ⟨by first | omega | exact Nat.le_refl _⟩, by repeat (first | exact Drawn0.refl _ | apply Drawn0.step)⟩
        ·rw [if_neg c9] at H
         have c9b0 : (a0 == 215) = false := beq_eq_false_iff_ne.mpr c9
         have c9b1 : (a0 != 215) = true := bne_iff_ne.mpr c9
         by_cases c11 : a0 = 247
         ·rw [if_pos c11] at H
          have c11b0 : (a0 == 247) = true := beq_iff_eq.mpr c11
          have c11b1 : (a0 != 247) = false := bne_eq_false_iff_eq.mpr c11
          clear c11
          by_cases c12 : a0 ≥ 880
          ·rw [if_pos c12] at H
           have c12b0 : decide (880 ≤ a0) = true := decide_eq_true c12
           clear c12
           have H' := Aside0.mk H
           clear H
           go_wp2
           go_meet
           case rel => exact ⟨_, (decide (a0 ≤ 1279)), (by first | rfl | (simp; done) | (simp [*]; done)), H', ⟨by first | omega | exact Nat.le_refl _⟩, by repeat (first | exact Drawn0.refl _ | apply Drawn0.step)⟩
          ·rw [if_neg c12] at H
           have c12b0 : decide (880 ≤ a0) = false := decide_eq_false c12
           clear c12
           have H' := Aside0.mk H
           clear H
           go_wp2
           go_meet
           case rel => exact ⟨_, (false), (by first | rfl | (simp; done) | (simp [*]; done)), H', ⟨by first | omega | exact Nat.le_refl _⟩, by repeat (first | exact Drawn0.refl _ | apply Drawn0.step)⟩
         ·rw [if_neg c11] at H
          have c11b0 : (a0 == 247) = false := beq_eq_false_iff_ne.mpr c11
          have c11b1 : (a0 != 247) = true := bne_iff_ne.mpr c11
          have H' := Aside0.mk H
          clear H
          go_wp2
          go_meet
          case rel => exact ⟨_, (true), (by first | rfl | (simp; done) | (simp [*]; done)), H', ⟨by first | omega | exact Nat.le_refl _⟩, by repeat (first | exact Drawn0.refl _ | apply Drawn0.step)⟩
       ·rw [if_neg c8] at H
        have c8b0 : decide (a0 ≤ 591) = false := decide_eq_false c8
        clear c8
        by_cases c13 : a0 ≥ 880
        ·rw [if_pos c13] at H
         have c13b0 : decide (880 ≤ a0) = true := decide_eq_true c13
         clear c13
         have H' := Aside0.mk H
         clear H
         go_wp2
         go_meet
         case rel => exact ⟨_, (decide (a0 ≤ 1279)), (by first | rfl | (simp; done) | (simp [*]; done)), H', ⟨by first | omega | exact Nat.le_refl _⟩, by repeat (first | exact Drawn0.refl _ | apply Drawn0.step)⟩
        ·rw [if_neg c13] at H
         have c13b0 : decide (880 ≤ a0) = false := decide_eq_false c13
         clear c13
         have H' := Aside0.mk H
         clear H
         go_wp2
         go_meet
         case rel => exact ⟨_, (false), (by first | rfl | (simp; done) | (simp [*]; done)), H', ⟨by first | omega | exact Nat.le_refl _⟩, by repeat (first | exact Drawn0.refl _ | apply Drawn0.step)⟩
      ·rw [if_neg c7] at H
       have c7b0 : decide (192 ≤ a0) = false := decide_eq_false c7
       clear c7
       by_cases c14 : a0 ≥ 880
       ·rw [if_pos c14] at H
        have c14b0 : decide (880 ≤ a0) = true := decide_eq_true c14
        clear c14
        have H' := Aside0.mk H
        clear H
        go_wp2
        go_meet
        case rel => exact ⟨_, (decide (a0 ≤ 1279)), (by first | rfl | (simp; done) | (simp [*]; done)), H', ⟨by first | omega | exact Nat.le_refl _⟩, by repeat (first | exact Drawn0.refl _ | apply Drawn0.step)⟩
       ·rw [if_neg c14] at H
        have c14b0 : decide (880 ≤ a0) = false := decide_eq_false c14
        clear c14
        have H' := Aside0.mk H
        clear H
        go_wp2
        go_meet
        case rel => exact ⟨_, (false), (by first | rfl | (simp; done) | (simp [*]; done)), H', ⟨by first | omega | exact Nat.le_refl _⟩, by repeat (first | exact Drawn0.refl _ | apply Drawn0.step)⟩
    ·rw [if_neg c5] at H
     have c5b0 : decide (97 ≤ a0) = false := decide_eq_false c5
     clear c5
     by_cases c15 : a0 ≥ 192
     ·rw [if_pos c15] at H
      have c15b0 : decide (192 ≤ a0) = true := decide_eq_true c15
      clear c15
      by_cases c16 : a0 ≤ 591
      ·rw [if_pos c16] at H
       have c16b0 : decide (a0 ≤ 591) = true := decide_eq_true c16
       clear c16
       by_cases c17 : a0 = 215
       ·rw [if_pos c17] at H
        have c17b0 : (a0 == 215) = true := beq_iff_eq.mpr c17
        have c17b1 : (a0 != 215) = false := bne_eq_false_iff_eq.mpr c17
        clear c17
        by_cases c18 : a0 ≥ 880
        ·rw [if_pos c18] at H
         have c18b0 : decide (880 ≤ a0) = true := decide_eq_true c18
         clear c18
         have H' := Aside0.mk H
         clear H
         go_wp2
         go_meet
         case rel => exact ⟨_, (decide (a0 ≤ 1279)), (by first | rfl | (simp; done) | (simp [*]; done)), H', ⟨by first | omega | exact Nat.le_refl _⟩, by repeat (first | exact Drawn0.refl _ | apply Drawn0.step)⟩
        ·rw [if_neg c18] at H
         have c18b0 : decide (880 ≤ a0) = false := decide_eq_false c18
         clear c18
         have H' := Aside0.mk H
         clear H
         go_wp2
         go_meet
         case rel => exact ⟨_, (false), (by first | rfl | (simp; done) | (simp [*]; done)), H', ⟨by first | omega | exact Nat.le_refl _⟩, by repeat (first | exact Drawn0.refl _ | apply Drawn0.step)⟩
       ·rw [if_neg c17] at H
        have c17b0 : (a0 == 215) = false := beq_eq_false_iff_ne.mpr c17
        have c17b1 : (a0 != 215) = true := bne_iff_ne.mpr c17
        by_cases c19 : a0 = 247
        ·rw [if_pos c19] at H
         have c19b0 : (a0 == 247) = true := beq_iff_eq.mpr c19
         have c19b1 : (a0 != 247) = false := bne_eq_false_iff_eq.mpr c19
         clear c19
         by_cases c20 : a0 ≥ 880
         ·rw [if_pos c20] at H
          have c20b0 : decide (880 ≤ a0) = true := decide_eq_true c20
          clear c20
          have H' := Aside0.mk H
          clear H
          go_wp2
          go_meet
          case rel => exact ⟨_, (decide (a0 ≤ 1279)), (by first | rfl | (simp; done) | (simp [*]; done)), H', ⟨by first | omega | exact Nat.le_refl _⟩, by repeat (first | exact Drawn0.refl _ | apply Drawn0.step)⟩
         ·rw [if_neg c20] at H
          have c20b0 : decide (880 ≤ a0) = false := decide_eq_false c20
          clear c20
          have H' := Aside0.mk H
          clear H
          go_wp2
          go_meet
          case rel => exact ⟨_, (false), (by first | rfl | (simp; done) | (simp [*]; done)), H', ⟨by first | omega | exact Nat.le_refl _⟩, by repeat (first | exact Drawn0.refl _ | apply Drawn0.step)⟩
        ·rw [if_neg c19] at H
         have c19b0 : (a0 == 247) = false := beq_eq_false_iff_ne.mpr c19
         have c19b1 : (a0 != 247) = true := bne_iff_ne.mpr c19
         have H' := Aside0.mk H
         clear H
         go_wp2
         go_meet
         case rel => exact ⟨_, (true), (by first | rfl | (simp; done) | (simp [*]; done)), H', ⟨by first | omega | exact Nat.le_refl _⟩, by repeat (first | exact Drawn0.refl _ | apply Drawn0.step)⟩
      ·rw [if_neg c16] at H
       have c16b0 : decide (a0 ≤ 591) = false := decide_eq_false c16
       clear c16
       by_cases c21 : a0 ≥ 880
       ·rw [if_pos c21] at H
        have c21b0 : decide (880 ≤ a0) = true := decide_eq_true c21
        clear c21
        have H' := Aside0.mk H
        clear H
        go_wp2
        go_meet
        case rel => exact ⟨_, (decide (a0 ≤ 1279)), (by first | rfl | (simp; done) | (simp [*]; done)), H', ⟨by first | omega | exact Nat.le_refl _⟩, by repeat (first | exact Drawn0.refl _ | apply Drawn0.step)⟩
       ·rw [if_neg c21] at H
        have c21b0 : decide (880 ≤ a0) = false := decide_eq_false c21
        clear c21
        have H' := Aside0.mk H
        clear H
        go_wp2
        go_meet
        case rel => exact ⟨_, (false), (by first | rfl | (simp; done) | (simp [*]; done)), H', ⟨by first | omega | exact Nat.le_refl _⟩, by repeat (first | exact Drawn0.refl _ | apply Drawn0.step)⟩
     ·rw [if_neg c15] at H
      have c15b0 : decide (192 ≤ a0) = false := decide_eq_false c15
      clear c15
      by_cases c22 : a0 ≥ 880
      ·rw [if_pos c22] at H
       have c22b0 : decide (880 ≤ a0) = true := decide_eq_true c22
       clear c22
       have H' := Aside0.mk H
       clear H
       go_wp2
       go_meet
       case rel => exact ⟨_, (decide (a0 ≤ 1279)), (by first | rfl | (simp; done) | (simp [*]; done)), H', ⟨by first | omega | exact Nat.le_refl _⟩, by repeat (first | exact Drawn0.refl _ | apply Drawn0.step)⟩
      ·rw [if_neg c22] at H
       have c22b0 : decide (880 ≤ a0) = false := decide_eq_false c22
       clear c22
       have H' := Aside0.mk H
       clear H
       go_wp2
       go_meet
       case rel => exact ⟨_, (false), (by first | rfl | (simp; done) | (simp [*]; done)), H', ⟨by first | omega | exact Nat.le_refl _⟩, by repeat (first | exact Drawn0.refl _ | apply Drawn0.step)⟩
  ·rw [if_neg c3] at H
   have c3b0 : decide (65 ≤ a0) = false := decide_eq_false c3
   clear c3
   (first | rw [c3b0] | (simp only [i64_w, i32_w]; rw [c3b0]) | skip)
   by_cases c23 : a0 ≥ 97
   ·rw [if_pos c23] at H
    have c23b0 : decide (97 ≤ a0) = true := decide_eq_true c23
    clear c23
    by_cases c24 : a0 ≤ 122
    ·rw [if_pos c24] at H
     have c24b0 : decide (a0 ≤ 122) = true := decide_eq_true c24
     clear c24
     have H' := Aside0.mk H
     clear H
     go_wp2
     go_meet
     case rel => exact ⟨_, (true), (by first | rfl | (simp; done) | (simp [*]; done)), H', ⟨by first | omega | exact Nat.le_refl _⟩, by repeat (first | exact Drawn0.refl _ | apply Drawn0.step)⟩
    ·rw [if_neg c24] at H
     have c24b0 : decide (a0 ≤ 122) = false := decide_eq_false c24
     clear c24
     by_cases c25 : a0 ≥ 192
     ·rw [if_pos c25] at H
      have c25b0 : decide (192 ≤ a0) = true := decide_eq_true c25
      clear c25
      by_cases c26 : a0 ≤ 591
      ·rw [if_pos c26] at H
       have c26b0 : decide (a0 ≤ 591) = true := decide_eq_true c26
       clear c26
       by_cases c27 : a0 = 215
       ·rw [if_pos c27] at H
        have c27b0 : (a0 == 215) = true := beq_iff_eq.mpr c27
        have c27b1 : (a0 != 215) = false := bne_eq_false_iff_eq.mpr c27
        clear c27
        by_cases c28 : a0 ≥ 880
        ·rw [if_pos c28] at H
         have c28b0 : decide (880 ≤ a0) = true := decide_eq_true c28
         clear c28
         have H' := Aside0.mk H
         clear H
         go_wp2
         go_meet
         case rel => exact ⟨_, (decide (a0 ≤ 1279)), (by first | rfl | (simp; done) | (simp [*]; done)), H', ⟨by first | omega | exact Nat.le_refl _⟩, by repeat (first | exact Drawn0.refl _ | apply Drawn0.step)⟩
        ·rw [if_neg c28] at H
         have c28b0 : decide (880 ≤ a0) = false := decide_eq_false c28
         clear c28
         have H' := Aside0.mk H
         clear H
         go_wp2
         go_meet
         case rel => exact ⟨_, (false), (by first | rfl | (simp; done) | (simp [*]; done)), H', ⟨by first | omega | exact Nat.le_refl _⟩, by repeat (first | exact Drawn0.refl _ | apply Drawn0.step)⟩
       ·rw [if_neg c27] at H
        have c27b0 : (a0 == 215) = false := beq_eq_false_iff_ne.mpr c27
        have c27b1 : (a0 != 215) = true := bne_iff_ne.mpr c27
        by_cases c29 : a0 = 247
        ·rw [if_pos c29] at H
         have c29b0 : (a0 == 247) = true := beq_iff_eq.mpr c29
         have c29b1 : (a0 != 247) = false := bne_eq_false_iff_eq.mpr c29
         clear c29
         by_cases c30 : a0 ≥ 880
         ·rw [if_pos c30] at H
          have c30b0 : decide (880 ≤ a0) = true := decide_eq_true c30
          clear c30
          have H' := Aside0.mk H
          clear H
          go_wp2
          go_meet
          case rel => exact ⟨_, (decide (a0 ≤ 1279)), (by first | rfl | (simp; done) | (simp [*]; done)), H', ⟨by first | omega | exact Nat.le_refl _⟩, by repeat (first | exact Drawn0.refl _ | apply Drawn0.step)⟩
         ·rw [if_neg c30] at H
          have c30b0 : decide (880 ≤ a0) = false := decide_eq_false c30
          clear c30
          have H' := Aside0.mk H
          clear H
          go_wp2
          go_meet
          case rel => exact ⟨_, (false), (by first | rfl | (simp; done) | (simp [*]; done)), H', ⟨by first | omega | exact Nat.le_refl _⟩, by repeat (first | exact Drawn0.refl _ | apply Drawn0.step)⟩
        ·rw [if_neg c29] at H
         have c29b0 : (a0 == 247) = false := beq_eq_false_iff_ne.mpr c29
         have c29b1 : (a0 != 247) = true := bne_iff_ne.mpr c29
         have H' := Aside0.mk H
         clear H
         go_wp2
         go_meet
         case rel => exact ⟨_, (true), (by first | rfl | (simp; done) | (simp [*]; done)), H', ⟨by first | omega | exact Nat.le_refl _⟩, by repeat (first | exact Drawn0.refl _ | apply Drawn0.step)⟩
      ·rw [if_neg c26] at H
       have c26b0 : decide (a0 ≤ 591) = false := decide_eq_false c26
       clear c26
       by_cases c31 : a0 ≥ 880
       ·rw [if_pos c31] at H
        have c31b0 : decide (880 ≤ a0) = true := decide_eq_true c31
        clear c31
        have H' := Aside0.mk H
        clear H
        go_wp2
        go_meet
        case rel => exact ⟨_, (decide (a0 ≤ 1279)), (by first | rfl | (simp; done) | (simp [*]; done)), H', ⟨by first | omega | exact Nat.le_refl _⟩, by repeat (first | exact Drawn0.refl _ | apply Drawn0.step)⟩
       ·rw [if_neg c31] at H
        have c31b0 : decide (880 ≤ a0) = false := decide_eq_false c31
        clear c31
        have H' := Aside0.mk H
        clear H
        go_wp2
        go_meet
        case rel => exact ⟨_, (false), (by first | rfl | (simp; done) | (simp [*]; done)), H', ⟨by first | omega | exact Nat.le_refl _⟩, by repeat (first | exact Drawn0.refl _ | apply Drawn0.step)⟩
     ·rw [if_neg c25] at H
      have c25b0 : decide (192 ≤ a0) = false := decide_eq_false c25
      clear c25
      by_cases c32 : a0 ≥ 880
      ·rw [if_pos c32] at H
       have c32b0 : decide (880 ≤ a0) = true := decide_eq_true c32
       clear c32
       have H' := Aside0.mk H
       clear H
       go_wp2
       go_meet
       case rel => exact ⟨_, (decide (a0 ≤ 1279)), (by first | rfl | (simp; done) | (simp [*]; done)), H', ⟨by first | omega | exact Nat.le_refl _⟩, by repeat (first | exact Drawn0.refl _ | apply Drawn0.step)⟩
      ·rw [if_neg c32] at H
       have c32b0 : decide (880 ≤ a0) = false := decide_eq_false c32
       clear c32
       have H' := Aside0.mk H
       clear H
       go_wp2
       go_meet
       case rel => exact ⟨_, (false), (by first | rfl | (simp; done) | (simp [*]; done)), H', ⟨by first | omega | exact Nat.le_refl _⟩, by repeat (first | exact Drawn0.refl _ | apply Drawn0.step)⟩
   ·rw [if_neg c23] at H
    have c23b0 : decide (97 ≤ a0) = false := decide_eq_false c23
    clear c23
    by_cases c33 : a0 ≥ 192
    ·rw [if_pos c33] at H
     have c33b0 : decide (192 ≤ a0) = true := decide_eq_true c33
     clear c33
     by_cases c34 : a0 ≤ 591
     ·rw [if_pos c34] at H
      have c34b0 : decide (a0 ≤ 591) = true := decide_eq_true c34
      clear c34
      by_cases c35 : a0 = 215
      ·rw [if_pos c35] at H
       have c35b0 : (a0 == 215) = true := beq_iff_eq.mpr c35
       have c35b1 : (a0 != 215) = false := bne_eq_false_iff_eq.mpr c35
       clear c35
       by_cases c36 : a0 ≥ 880
       ·rw [if_pos c36] at H
        have c36b0 : decide (880 ≤ a0) = true := decide_eq_true c36
        clear c36
        have H' := Aside0.mk H
        clear H
        go_wp2
        go_meet
        case rel => exact ⟨_, (decide (a0 ≤ 1279)), (by first | rfl | (simp; done) | (simp [*]; done)), H', ⟨by first | omega | exact Nat.le_refl _⟩, by repeat (first | exact Drawn0.refl _ | apply Drawn0.step)⟩
       ·rw [if_neg c36] at H
        have c36b0 : decide (880 ≤ a0) = false := decide_eq_false c36
        clear c36
        have H' := Aside0.mk H
        clear H
        go_wp2
        go_meet
        case rel => exact ⟨_, (false), (by first | rfl | (simp; done) | (simp [*]; done)), H', ⟨by first | omega | exact Nat.le_refl _⟩, by repeat (first | exact Drawn0.refl _ | apply Drawn0.step)⟩
      ·rw [if_neg c35] at H
       have c35b0 : (a0 == 215) = false := beq_eq_false_iff_ne.mpr c35
       have c35b1 : (a0 != 215) = true := bne_iff_ne.mpr c35
       by_cases c37 : a0 = 247
       ·rw [if_pos c37] at H
        have c37b0 : (a0 == 247) = true := beq_iff_eq.mpr c37
        have c37b1 : (a0 != 247) = false := bne_eq_false_iff_eq.mpr c37
        clear c37
        by_cases c38 : a0 ≥ 880
        ·rw [if_pos c38] at H
         have c38b0 : decide (880 ≤ a0) = true := decide_eq_true c38
         clear c38
         have H' := Aside0.mk H
         clear H
         go_wp2
         go_meet
         case rel => exact ⟨_, (decide (a0 ≤ 1279)), (by first | rfl | (simp; done) | (simp [*]; done)), H', ⟨by first | omega | exact Nat.le_refl _⟩, by repeat (first | exact Drawn0.refl _ | apply Drawn0.step)⟩
        ·rw [if_neg c38] at H
         have c38b0 : decide (880 ≤ a0) = false := decide_eq_false c38
         clear c38
         have H' := Aside0.mk H
         clear H
         go_wp2
         go_meet
         case rel => exact ⟨_, (false), (by first | rfl | (simp; done) | (simp [*]; done)), H', ⟨by first | omega | exact Nat.le_refl _⟩, by repeat (first | exact Drawn0.refl _ | apply Drawn0.step)⟩
       ·rw [if_neg c37] at H
        have c37b0 : (a0 == 247) = false := beq_eq_false_iff_ne.mpr c37
        have c37b1 : (a0 != 247) = true := bne_iff_ne.mpr c37
        have H' := Aside0.mk H
        clear H
        go_wp2
        go_meet
        case rel => exact ⟨_, (true), (by first | rfl | (simp; done) | (simp [*]; done)), H', ⟨by first | omega | exact Nat.le_refl _⟩, by repeat (first | exact Drawn0.refl _ | apply Drawn0.step)⟩
     ·rw [if_neg c34] at H
      have c34b0 : decide (a0 ≤ 591) = false := decide_eq_false c34
      clear c34
      by_cases c39 : a0 ≥ 880
      ·rw [if_pos c39] at H
       have c39b0 : decide (880 ≤ a0) = true := decide_eq_true c39
       clear c39
       have H' := Aside0.mk H
       clear H
       go_wp2
       go_meet
       case rel => exact ⟨_, (decide (a0 ≤ 1279)), (by first | rfl | (simp; done) | (simp [*]; done)), H', ⟨by first | omega | exact Nat.le_refl _⟩, by repeat (first | exact Drawn0.refl _ | apply Drawn0.step)⟩
      ·rw [if_neg c39] at H
       have c39b0 : decide (880 ≤ a0) = false := decide_eq_false c39
       clear c39
       have H' := Aside0.mk H
       clear H
       go_wp2
       go_meet
       case rel => exact ⟨_, (false), (by first | rfl | (simp; done) | (simp [*]; done)), H', ⟨by first | omega | exact Nat.le_refl _⟩, by repeat (first | exact Drawn0.refl _ | apply Drawn0.step)⟩
    ·rw [if_neg c33] at H
     have c33b0 : decide (192 ≤ a0) = false := decide_eq_false c33
     clear c33
     by_cases c40 : a0 ≥ 880
     ·rw [if_pos c40] at H
      have c40b0 : decide (880 ≤ a0) = true := decide_eq_true c40
      clear c40
      have H' := Aside0.mk H
      clear H
      go_wp2
      go_meet
      case rel => exact ⟨_, (decide (a0 ≤ 1279)), (by first | rfl | (simp; done) | (simp [*]; done)), H', ⟨by first | omega | exact Nat.le_refl _⟩, by repeat (first | exact Drawn0.refl _ | apply Drawn0.step)⟩
     ·rw [if_neg c40] at H
      have c40b0 : decide (880 ≤ a0) = false := decide_eq_false c40
      clear c40
      have H' := Aside0.mk H
      clear H
      go_wp2
      go_meet
      case rel => exact ⟨_, (false), (by first | rfl | (simp; done) | (simp [*]; done)), H', ⟨by first | omega | exact Nat.le_refl _⟩, by repeat (first | exact Drawn0.refl _ | apply Drawn0.step)⟩
 case rest =>
  clear HC2
  try clear c1
  try clear c2
  try clear p2
  try clear c3
  try clear c3b0
  try clear c4
  try clear c4b0
  try clear c5
  try clear c5b0
  try clear c6
  try clear c6b0
  try clear c7
  try clear c7b0
  try clear c8
  try clear c8b0
  try clear c9
  try clear c9b0
  try clear c9b1
  try clear c10
  try clear c10b0
  try clear c11
  try clear c11b0
  try clear c11b1
  try clear c12
  try clear c12b0
  try clear c13
  try clear c13b0
  try clear c14
  try clear c14b0
  try clear c15
  try clear c15b0
  try clear c16
  try clear c16b0
  try clear c17
  try clear c17b0
  try clear c17b1
  try clear c18
  try clear c18b0
  try clear c19
  try clear c19b0
  try clear c19b1
  try clear c20
  try clear c20b0
  try clear c21
  try clear c21b0
  try clear c22
  try clear c22b0
  try clear c23
  try clear c23b0
  try clear c24
  try clear c24b0
  try clear c25
  try clear c25b0
  try clear c26
  try clear c26b0
  try clear c27
  try clear c27b0
  try clear c27b1
  try clear c28
  try clear c28b0
  try clear c29
  try clear c29b0
  try clear c29b1
  try clear c30
  try clear c30b0
  try clear c31
  try clear c31b0
  try clear c32
  try clear c32b0
  try clear c33
  try clear c33b0
  try clear c34
  try clear c34b0
  try clear c35
  try clear c35b0
  try clear c35b1
  try clear c36
  try clear c36b0
  try clear c37
  try clear c37b0
  try clear c37b1
  try clear c38
  try clear c38b0
  try clear c39
  try clear c39b0
  try clear c40
  try clear c40b0
  obtain ⟨kq, x3_1, rfl, HA, HJ1, ⟨mc1, rfl⟩⟩ := hcut
  cases kq with
  | zero => exact absurd HA.out (by simp [spec_Class.j0])
  | succ kj1 =>
   have H := HA.out
   clear HA
   simp only [spec_Class.j0] at H
   by_cases c41 : x3_1 = true
   ·subst c41
    have H1 : (some 1) = some r := by rw [if_pos rfl] at H; exact H
    clear H
    have H := H1
    clear H1
    obtain rfl := Option.some.inj H
    go_wp2
    go_ret
    exact ⟨by first | rfl | (simp; done) | (simp [*]; done), by repeat (first | exact Drawn0.refl _ | apply Drawn0.step)⟩
   ·replace c41 := Bool.eq_false_iff.mpr c41
    subst c41
    have H1 : (if a0 ≥ 48 then (spec_Class.j1 kj1 a0 (decide (a0 ≤ 57))) else (spec_Class.j1 kj1 a0 false)) = some r := by rw [if_neg (show ¬ (false = true) by decide)] at H; exact H
    clear H
    have H := H1
    clear H1
    have HC42 := Aside0.mk H
    clear H
    go_upto_region 3 with (fail)
    go_cut [42] (fun v42 wc => ∃ (kq : Nat) (x42_41 : Bool), v42 = .bool x42_41 ∧ Aside0 (spec_Class.j1 kq a0 x42_41 = some r) ∧ Aside0 (kq ≤ kj1) ∧ Drawn0 w wc)
    case first =>
     have H := HC42.out
     clear HC42
     by_cases c43 : a0 ≥ 48
     ·rw [if_pos c43] at H
      have c43b0 : decide (48 ≤ a0) = true := decide_eq_true c43
      clear c43
      (first | rw [c43b0] | (simp only [i64_w, i32_w]; rw [c43b0]) | skip)
      have H' := Aside0.mk H
      clear H
      go_wp2
      go_meet
      case rel => exact ⟨_, (decide (a0 ≤ 57)), (by first | rfl | (simp; done) | (simp [*]; done)), H', ⟨by have := HJ1.out; first | omega | exact Nat.le_refl _⟩, by repeat (first | exact Drawn0.refl _ | apply Drawn0.step)⟩
     ·rw [if_neg c43] at H
      have c43b0 : decide (48 ≤ a0) = false := decide_eq_false c43
      clear c43
      (first | rw [c43b0] | (simp only [i64_w, i32_w]; rw [c43b0]) | skip)
      have H' := Aside0.mk H
      clear H
      go_wp2
      go_meet
      case rel => exact ⟨_, (false), (by first | rfl | (simp; done) | (simp [*]; done)), H', ⟨by have := HJ1.out; first | omega | exact Nat.le_refl _⟩, by repeat (first | exact Drawn0.refl _ | apply Drawn0.step)⟩
    case rest =>
     clear HC42
     try clear c1
     try clear c2
     try clear p2
     try clear c3
     try clear c3b0
     try clear c4
     try clear c4b0
     try clear c5
     try clear c5b0
     try clear c6
     try clear c6b0
     try clear c7
     try clear c7b0
     try clear c8
     try clear c8b0
     try clear c9
     try clear c9b0
     try clear c9b1
     try clear c10
     try clear c10b0
     try clear c11
     try clear c11b0
     try clear c11b1
     try clear c12
     try clear c12b0
     try clear c13
     try clear c13b0
     try clear c14
     try clear c14b0
     try clear c15
     try clear c15b0
     try clear c16
     try clear c16b0
     try clear c17
     try clear c17b0
     try clear c17b1
     try clear c18
     try clear c18b0
     try clear c19
     try clear c19b0
     try clear c19b1
     try clear c20
     try clear c20b0
     try clear c21
     try clear c21b0
     try clear c22
     try clear c22b0
     try clear c23
     try clear c23b0
     try clear c24
     try clear c24b0
     try clear c25
     try clear c25b0
     try clear c26
     try clear c26b0
     try clear c27
     try clear c27b0
     try clear c27b1
     try clear c28
     try clear c28b0
     try clear c29
     try clear c29b0
     try clear c29b1
     try clear c30
     try clear c30b0
     try clear c31
     try clear c31b0
     try clear c32
     try clear c32b0
     try clear c33
     try clear c33b0
     try clear c34
     try clear c34b0
     try clear c35
     try clear c35b0
     try clear c35b1
     try clear c36
     try clear c36b0
     try clear c37
     try clear c37b0
     try clear c37b1
     try clear c38
     try clear c38b0
     try clear c39
     try clear c39b0
     try clear c40
     try clear c40b0
     try clear c41
     try clear c43
     try clear c43b0
     try clear p2
     obtain ⟨kq, x42_41, rfl, HA, HJ41, ⟨mc41, rfl⟩⟩ := hcut
     cases kq with
     | zero => exact absurd HA.out (by simp [spec_Class.j1])
     | succ kj41 =>
      have H := HA.out
      clear HA
      simp only [spec_Class.j1] at H
      by_cases c44 : x42_41 = true
      ·subst c44
       have H1 : (some 2) = some r := by rw [if_pos rfl] at H; exact H
       clear H
       have H := H1
       clear H1
       obtain rfl := Option.some.inj H
       go_wp2
       go_ret
       exact ⟨by first | rfl | (simp; done) | (simp [*]; done), by repeat (first | exact Drawn0.refl _ | apply Drawn0.step)⟩
      ·replace c44 := Bool.eq_false_iff.mpr c44
       subst c44
       have H1 : (if a0 = 39 then (spec_Class.j2 kj41 a0 true) else (spec_Class.j2 kj41 a0 (a0 == 95))) = some r := by rw [if_neg (show ¬ (false = true) by decide)] at H; exact H
       clear H
       have H := H1
       clear H1
       have HC45 := Aside0.mk H
       clear H
       go_upto_region 5 with (fail)
       go_cut [49] (fun v49 wc => ∃ (kq : Nat) (x49_44 : Bool), v49 = .bool x49_44 ∧ Aside0 (spec_Class.j2 kq a0 x49_44 = some r) ∧ Aside0 (kq ≤ kj41) ∧ Drawn0 w wc)
       case first =>
        have H := HC45.out
        clear HC45
        by_cases c46 : a0 = 39
        ·rw [if_pos c46] at H
         have c46b0 : (a0 == 39) = true := beq_iff_eq.mpr c46
         have c46b1 : (a0 != 39) = false := bne_eq_false_iff_eq.mpr c46
         clear c46
         (first | rw [c46b0] | (simp only [i64_w, i32_w]; rw [c46b0]) | skip)
         have H' := Aside0.mk H
         clear H
         go_wp2
         go_meet
         case rel => exact ⟨_, (true), (by first | rfl | (simp; done) | (simp [*]; done)), H', ⟨by have := HJ1.out; have := HJ41.out; first | omega | exact Nat.le_refl _⟩, by repeat (first | exact Drawn0.refl _ | apply Drawn0.step)⟩
        ·rw [if_neg c46] at H
         have c46b0 : (a0 == 39) = false := beq_eq_false_iff_ne.mpr c46
         have c46b1 : (a0 != 39) = true := bne_iff_ne.mpr c46
         (first | rw [c46b0] | (simp only [i64_w, i32_w]; rw [c46b0]) | skip)
         have H' := Aside0.mk H
         clear H
         go_wp2
         go_meet
         case rel => exact ⟨_, ((a0 == 95)), (by first | rfl | (simp; done) | (simp [*]; done)), H', ⟨by have := HJ1.out; have := HJ41.out; first | omega | exact Nat.le_refl _⟩, by repeat (first | exact Drawn0.refl _ | apply Drawn0.step)⟩
       case rest =>
        clear HC45
        try clear c1
        try clear c2
        try clear p2
        try clear c3
        try clear c3b0
        try clear c4
        try clear c4b0
        try clear c5
        try clear c5b0
        try clear c6
        try clear c6b0
        try clear c7
        try clear c7b0
        try clear c8
        try clear c8b0
        try clear c9
        try clear c9b0
        try clear c9b1
        try clear c10
        try clear c10b0
        try clear c11
        try clear c11b0
        try clear c11b1
        try clear c12
        try clear c12b0
        try clear c13
        try clear c13b0
        try clear c14
        try clear c14b0
        try clear c15
        try clear c15b0
        try clear c16
        try clear c16b0
        try clear c17
        try clear c17b0
        try clear c17b1
        try clear c18
        try clear c18b0
        try clear c19
        try clear c19b0
        try clear c19b1
        try clear c20
        try clear c20b0
        try clear c21
        try clear c21b0
        try clear c22
        try clear c22b0
        try clear c23
        try clear c23b0
        try clear c24
        try clear c24b0
        try clear c25
        try clear c25b0
        try clear c26
        try clear c26b0
        try clear c27
        try clear c27b0
        try clear c27b1
        try clear c28
        try clear c28b0
        try clear c29
        try clear c29b0
        try clear c29b1
        try clear c30
        try clear c30b0
        try clear c31
        try clear c31b0
        try clear c32
        try clear c32b0
        try clear c33
        try clear c33b0
        try clear c34
        try clear c34b0
        try clear c35
        try clear c35b0
        try clear c35b1
        try clear c36
        try clear c36b0
        try clear c37
        try clear c37b0
        try clear c37b1
        try clear c38
        try clear c38b0
        try clear c39
        try clear c39b0
        try clear c40
        try clear c40b0
        try clear c41
        try clear c43
        try clear c43b0
        try clear c44
        try clear c46
        try clear c46b0
        try clear c46b1
        try clear p2
        obtain ⟨kq, x49_44, rfl, HA, HJ44, ⟨mc44, rfl⟩⟩ := hcut
        cases kq with
        | zero => exact absurd HA.out (by simp [spec_Class.j2])
        | succ kj44 =>
         have H := HA.out
         clear HA
         simp only [spec_Class.j2] at H
         by_cases c47 : x49_44 = true
         ·subst c47
          have H1 : (some 3) = some r := by rw [if_pos rfl] at H; exact H
          clear H
          have H := H1
          clear H1
          obtain rfl := Option.some.inj H
          go_wp2
          go_ret
          exact ⟨by first | rfl | (simp; done) | (simp [*]; done), by repeat (first | exact Drawn0.refl _ | apply Drawn0.step)⟩
         ·replace c47 := Bool.eq_false_iff.mpr c47
          subst c47
          have H1 : (if a0 ≥ 12352 then (if a0 ≤ 12543 then (some 4) else (if a0 ≥ 19968 then (if a0 ≤ 40959 then (some 4) else (some 0)) else (some 0))) else (if a0 ≥ 19968 then (if a0 ≤ 40959 then (some 4) else (some 0)) else (some 0))) = some r := by rw [if_neg (show ¬ (false = true) by decide)] at H; exact H
          clear H
          have H := H1
          clear H1
          by_cases c48 : a0 ≥ 12352
          ·rw [if_pos c48] at H
           have c48b0 : decide (12352 ≤ a0) = true := decide_eq_true c48
           clear c48
           by_cases c49 : a0 ≤ 12543
           ·rw [if_pos c49] at H
            have c49b0 : decide (a0 ≤ 12543) = true := decide_eq_true c49
            clear c49
            obtain rfl := Option.some.inj H
            go_wp2
            go_ret
            exact ⟨by first | rfl | (simp; done) | (simp [*]; done), by repeat (first | exact Drawn0.refl _ | apply Drawn0.step)⟩
           ·rw [if_neg c49] at H
            have c49b0 : decide (a0 ≤ 12543) = false := decide_eq_false c49
            clear c49
            by_cases c50 : a0 ≥ 19968
            ·rw [if_pos c50] at H
             have c50b0 : decide (19968 ≤ a0) = true := decide_eq_true c50
             clear c50
             by_cases c51 : a0 ≤ 40959
             ·rw [if_pos c51] at H
              have c51b0 : decide (a0 ≤ 40959) = true := decide_eq_true c51
              clear c51
              obtain rfl := Option.some.inj H
              go_wp2
              go_ret
              exact ⟨by first | rfl | (simp; done) | (simp [*]; done), by repeat (first | exact Drawn0.refl _ | apply Drawn0.step)⟩
             ·rw [if_neg c51] at H
              have c51b0 : decide (a0 ≤ 40959) = false := decide_eq_false c51
              clear c51
              obtain rfl := Option.some.inj H
              go_wp2
              go_ret
              exact ⟨by first | rfl | (simp; done) | (simp [*]; done), by repeat (first | exact Drawn0.refl _ | apply Drawn0.step)⟩
            ·rw [if_neg c50] at H
             have c50b0 : decide (19968 ≤ a0) = false := decide_eq_false c50
             clear c50
             obtain rfl := Option.some.inj H
             go_wp2
             go_ret
             exact ⟨by first | rfl | (simp; done) | (simp [*]; done), by repeat (first | exact Drawn0.refl _ | apply Drawn0.step)⟩
          ·rw [if_neg c48] at H
           have c48b0 : decide (12352 ≤ a0) = false := decide_eq_false c48
           clear c48
           by_cases c52 : a0 ≥ 19968
           ·rw [if_pos c52] at H
            have c52b0 : decide (19968 ≤ a0) = true := decide_eq_true c52
            clear c52
            by_cases c53 : a0 ≤ 40959
            ·rw [if_pos c53] at H
             have c53b0 : decide (a0 ≤ 40959) = true := decide_eq_true c53
             clear c53
             obtain rfl := Option.some.inj H
             go_wp2
             go_ret
             exact ⟨by first | rfl | (simp; done) | (simp [*]; done), by repeat (first | exact Drawn0.refl _ | apply Drawn0.step)⟩
            ·rw [if_neg c53] at H
             have c53b0 : decide (a0 ≤ 40959) = false := decide_eq_false c53
             clear c53
             obtain rfl := Option.some.inj H
             go_wp2
             go_ret
             exact ⟨by first | rfl | (simp; done) | (simp [*]; done), by repeat (first | exact Drawn0.refl _ | apply Drawn0.step)⟩
           ·rw [if_neg c52] at H
            have c52b0 : decide (19968 ≤ a0) = false := decide_eq_false c52
            clear c52
            obtain rfl := Option.some.inj H
            go_wp2
            go_ret
            exact ⟨by first | rfl | (simp; done) | (simp [*]; done), by repeat (first | exact Drawn0.refl _ | apply Drawn0.step)⟩

end Go.Proofs.YtcokeankiedfcaaDoor.XFnText
