-- A text of this session: written by its own program (wip/x/xprint.py), which runs the kit's printer with contracts of its own.
import Derived.Test.YtcokeankiedfcaaDoorXFnExactFoldTextx0
namespace Go.Proofs.YtcokeankiedfcaaDoor.XFnExactFoldText
open Go.RowKit Go.Proofs.YtcokeankiedfcaaDoorW.PrintWords Go.Proofs.YtcokeankiedfcaaDoorW.PrintLast Go.Proofs.YtcokeankiedfcaaDoorW.PrintMore
attribute [local go_sem] max2_int min2_int max_two min_two max_three min_three max_four min_four   -- for this text's walks alone
set_option linter.unusedVariables false
set_option linter.unusedSimpArgs false

/-! ### spec_Fold: function 101 -/
mutual
def spec_Fold.j1 : Nat → Int → Option (Int)
  | 0, _ => none
  | k + 1, x0 => if x0 ≥ 224 then (spec_Fold.j2 k x0 (decide (x0 ≤ 229))) else (spec_Fold.j2 k x0 false)
def spec_Fold.j2 : Nat → Int → Bool → Option (Int)
  | 0, _, _ => none
  | k + 1, x0, x53 => if x53 = true then (some 97) else (if x0 = 231 then (some 99) else (if x0 ≥ 232 then (spec_Fold.j3 k x0 (decide (x0 ≤ 235))) else (spec_Fold.j3 k x0 false)))
def spec_Fold.j3 : Nat → Int → Bool → Option (Int)
  | 0, _, _ => none
  | k + 1, x0, x63 => if x63 = true then (some 101) else (if x0 ≥ 236 then (spec_Fold.j4 k x0 (decide (x0 ≤ 239))) else (spec_Fold.j4 k x0 false))
def spec_Fold.j4 : Nat → Int → Bool → Option (Int)
  | 0, _, _ => none
  | k + 1, x0, x70 => if x70 = true then (some 105) else (if x0 = 241 then (some 110) else (if x0 ≥ 242 then (if x0 ≤ 246 then (spec_Fold.j5 k x0 true) else (spec_Fold.j5 k x0 (x0 == 248))) else (spec_Fold.j5 k x0 (x0 == 248))))
def spec_Fold.j5 : Nat → Int → Bool → Option (Int)
  | 0, _, _ => none
  | k + 1, x0, x80 => if x80 = true then (some 111) else (if x0 ≥ 249 then (spec_Fold.j6 k x0 (decide (x0 ≤ 252))) else (spec_Fold.j6 k x0 false))
def spec_Fold.j6 : Nat → Int → Bool → Option (Int)
  | 0, _, _ => none
  | k + 1, x0, x91 => if x91 = true then (some 117) else (if x0 = 253 then (some 121) else (if x0 = 255 then (some 121) else (some x0)))
def spec_Fold.j0 : Nat → Int → Bool → Option (Int)
  | 0, _, _ => none
  | k + 1, x0, x3 => if x3 = true then (spec_Fold.j1 k (wrap64 (x0 + 32))) else (if x0 ≥ 1024 then (if x0 ≤ 1039 then (spec_Fold.j1 k (wrap64 (x0 + 80))) else (spec_Fold.j1 k x0)) else (spec_Fold.j1 k x0))
end
def spec_Fold.f (k : Nat) (a0 : Int) : Option (Int) := if a0 ≥ 65 then (if a0 ≤ 90 then (spec_Fold.j0 k a0 true) else (if a0 ≥ 192 then (if a0 ≤ 222 then (if a0 = 215 then (if a0 ≥ 913 then (if a0 ≤ 939 then (if a0 = 930 then (if a0 ≥ 1040 then (spec_Fold.j0 k a0 (decide (a0 ≤ 1071))) else (spec_Fold.j0 k a0 false)) else (spec_Fold.j0 k a0 true)) else (if a0 ≥ 1040 then (spec_Fold.j0 k a0 (decide (a0 ≤ 1071))) else (spec_Fold.j0 k a0 false))) else (if a0 ≥ 1040 then (spec_Fold.j0 k a0 (decide (a0 ≤ 1071))) else (spec_Fold.j0 k a0 false))) else (spec_Fold.j0 k a0 true)) else (if a0 ≥ 913 then (if a0 ≤ 939 then (if a0 = 930 then (if a0 ≥ 1040 then (spec_Fold.j0 k a0 (decide (a0 ≤ 1071))) else (spec_Fold.j0 k a0 false)) else (spec_Fold.j0 k a0 true)) else (if a0 ≥ 1040 then (spec_Fold.j0 k a0 (decide (a0 ≤ 1071))) else (spec_Fold.j0 k a0 false))) else (if a0 ≥ 1040 then (spec_Fold.j0 k a0 (decide (a0 ≤ 1071))) else (spec_Fold.j0 k a0 false)))) else (if a0 ≥ 913 then (if a0 ≤ 939 then (if a0 = 930 then (if a0 ≥ 1040 then (spec_Fold.j0 k a0 (decide (a0 ≤ 1071))) else (spec_Fold.j0 k a0 false)) else (spec_Fold.j0 k a0 true)) else (if a0 ≥ 1040 then (spec_Fold.j0 k a0 (decide (a0 ≤ 1071))) else (spec_Fold.j0 k a0 false))) else (if a0 ≥ 1040 then (spec_Fold.j0 k a0 (decide (a0 ≤ 1071))) else (spec_Fold.j0 k a0 false))))) else (if a0 ≥ 192 then (if a0 ≤ 222 then (if a0 = 215 then (if a0 ≥ 913 then (if a0 ≤ 939 then (if a0 = 930 then (if a0 ≥ 1040 then (spec_Fold.j0 k a0 (decide (a0 ≤ 1071))) else (spec_Fold.j0 k a0 false)) else (spec_Fold.j0 k a0 true)) else (if a0 ≥ 1040 then (spec_Fold.j0 k a0 (decide (a0 ≤ 1071))) else (spec_Fold.j0 k a0 false))) else (if a0 ≥ 1040 then (spec_Fold.j0 k a0 (decide (a0 ≤ 1071))) else (spec_Fold.j0 k a0 false))) else (spec_Fold.j0 k a0 true)) else (if a0 ≥ 913 then (if a0 ≤ 939 then (if a0 = 930 then (if a0 ≥ 1040 then (spec_Fold.j0 k a0 (decide (a0 ≤ 1071))) else (spec_Fold.j0 k a0 false)) else (spec_Fold.j0 k a0 true)) else (if a0 ≥ 1040 then (spec_Fold.j0 k a0 (decide (a0 ≤ 1071))) else (spec_Fold.j0 k a0 false))) else (if a0 ≥ 1040 then (spec_Fold.j0 k a0 (decide (a0 ≤ 1071))) else (spec_Fold.j0 k a0 false)))) else (if a0 ≥ 913 then (if a0 ≤ 939 then (if a0 = 930 then (if a0 ≥ 1040 then (spec_Fold.j0 k a0 (decide (a0 ≤ 1071))) else (spec_Fold.j0 k a0 false)) else (spec_Fold.j0 k a0 true)) else (if a0 ≥ 1040 then (spec_Fold.j0 k a0 (decide (a0 ≤ 1071))) else (spec_Fold.j0 k a0 false))) else (if a0 ≥ 1040 then (spec_Fold.j0 k a0 (decide (a0 ≤ 1071))) else (spec_Fold.j0 k a0 false))))
theorem spec_Fold.mono_l : ∀ k, (∀ y0, LeO (spec_Fold.j1 k y0) (spec_Fold.j1 (k + 1) y0)) ∧ (∀ y0 y1, LeO (spec_Fold.j2 k y0 y1) (spec_Fold.j2 (k + 1) y0 y1)) ∧ (∀ y0 y1, LeO (spec_Fold.j3 k y0 y1) (spec_Fold.j3 (k + 1) y0 y1)) ∧ (∀ y0 y1, LeO (spec_Fold.j4 k y0 y1) (spec_Fold.j4 (k + 1) y0 y1)) ∧ (∀ y0 y1, LeO (spec_Fold.j5 k y0 y1) (spec_Fold.j5 (k + 1) y0 y1)) ∧ (∀ y0 y1, LeO (spec_Fold.j6 k y0 y1) (spec_Fold.j6 (k + 1) y0 y1)) ∧ (∀ y0 y1, LeO (spec_Fold.j0 k y0 y1) (spec_Fold.j0 (k + 1) y0 y1))
  | 0 => ⟨fun _ r h => by simp [spec_Fold.j1] at h, fun _ _ r h => by simp [spec_Fold.j2] at h, fun _ _ r h => by simp [spec_Fold.j3] at h, fun _ _ r h => by simp [spec_Fold.j4] at h, fun _ _ r h => by simp [spec_Fold.j5] at h, fun _ _ r h => by simp [spec_Fold.j6] at h, fun _ _ r h => by simp [spec_Fold.j0] at h⟩
  | k + 1 => by
    obtain ⟨ih0, ih1, ih2, ih3, ih4, ih5, ih6⟩ := spec_Fold.mono_l k
    refine ⟨?_, ?_, ?_, ?_, ?_, ?_, ?_⟩
    · intro y0
      unfold spec_Fold.j1
      repeat' first
      | (with_reducible exact ih0 _)
      | (with_reducible exact ih1 _ _)
      | (with_reducible exact ih2 _ _)
      | (with_reducible exact ih3 _ _)
      | (with_reducible exact ih4 _ _)
      | (with_reducible exact ih5 _ _)
      | (with_reducible exact ih6 _ _)
      | (with_reducible exact LeO.refl _)
      | (with_reducible exact LeO.none _)
      | (with_reducible refine LeO.ite ?_ ?_)
      | (with_reducible refine LeO.bind ?_ (fun _ => ?_))
      | exact ih0 _
      | exact ih1 _ _
      | exact ih2 _ _
      | exact ih3 _ _
      | exact ih4 _ _
      | exact ih5 _ _
      | exact ih6 _ _
      | exact LeO.none _
      | refine LeO.ite ?_ ?_
      | refine LeO.bind ?_ (fun _ => ?_)
    · intro y0 y1
      unfold spec_Fold.j2
      repeat' first
      | (with_reducible exact ih0 _)
      | (with_reducible exact ih1 _ _)
      | (with_reducible exact ih2 _ _)
      | (with_reducible exact ih3 _ _)
      | (with_reducible exact ih4 _ _)
      | (with_reducible exact ih5 _ _)
      | (with_reducible exact ih6 _ _)
      | (with_reducible exact LeO.refl _)
      | (with_reducible exact LeO.none _)
      | (with_reducible refine LeO.ite ?_ ?_)
      | (with_reducible refine LeO.bind ?_ (fun _ => ?_))
      | exact ih0 _
      | exact ih1 _ _
      | exact ih2 _ _
      | exact ih3 _ _
      | exact ih4 _ _
      | exact ih5 _ _
      | exact ih6 _ _
      | exact LeO.none _
      | refine LeO.ite ?_ ?_
      | refine LeO.bind ?_ (fun _ => ?_)
    · intro y0 y1
      unfold spec_Fold.j3
      repeat' first
      | (with_reducible exact ih0 _)
      | (with_reducible exact ih1 _ _)
      | (with_reducible exact ih2 _ _)
      | (with_reducible exact ih3 _ _)
      | (with_reducible exact ih4 _ _)
      | (with_reducible exact ih5 _ _)
      | (with_reducible exact ih6 _ _)
      | (with_reducible exact LeO.refl _)
      | (with_reducible exact LeO.none _)
      | (with_reducible refine LeO.ite ?_ ?_)
      | (with_reducible refine LeO.bind ?_ (fun _ => ?_))
      | exact ih0 _
      | exact ih1 _ _
      | exact ih2 _ _
      | exact ih3 _ _
      | exact ih4 _ _
      | exact ih5 _ _
      | exact ih6 _ _
      | exact LeO.none _
      | refine LeO.ite ?_ ?_
      | refine LeO.bind ?_ (fun _ => ?_)
    · intro y0 y1
      unfold spec_Fold.j4
      repeat' first
      | (with_reducible exact ih0 _)
      | (with_reducible exact ih1 _ _)
      | (with_reducible exact ih2 _ _)
      | (with_reducible exact ih3 _ _)
      | (with_reducible exact ih4 _ _)
      | (with_reducible exact ih5 _ _)
      | (with_reducible exact ih6 _ _)
      | (with_reducible exact LeO.refl _)
      | (with_reducible exact LeO.none _)
      | (with_reducible refine LeO.ite ?_ ?_)
      | (with_reducible refine LeO.bind ?_ (fun _ => ?_))
      | exact ih0 _
      | exact ih1 _ _
      | exact ih2 _ _
      | exact ih3 _ _
      | exact ih4 _ _
      | exact ih5 _ _
      | exact ih6 _ _
      | exact LeO.none _
      | refine LeO.ite ?_ ?_
      | refine LeO.bind ?_ (fun _ => ?_)
    · intro y0 y1
      unfold spec_Fold.j5
      repeat' first
      | (with_reducible exact ih0 _)
      | (with_reducible exact ih1 _ _)
      | (with_reducible exact ih2 _ _)
      | (with_reducible exact ih3 _ _)
      | (with_reducible exact ih4 _ _)
      | (with_reducible exact ih5 _ _)
      | (with_reducible exact ih6 _ _)
      | (with_reducible exact LeO.refl _)
      | (with_reducible exact LeO.none _)
      | (with_reducible refine LeO.ite ?_ ?_)
      | (with_reducible refine LeO.bind ?_ (fun _ => ?_))
      | exact ih0 _
      | exact ih1 _ _
      | exact ih2 _ _
      | exact ih3 _ _
      | exact ih4 _ _
      | exact ih5 _ _
      | exact ih6 _ _
      | exact LeO.none _
      | refine LeO.ite ?_ ?_
      | refine LeO.bind ?_ (fun _ => ?_)
    · intro y0 y1
      unfold spec_Fold.j6
      repeat' first
      | (with_reducible exact ih0 _)
      | (with_reducible exact ih1 _ _)
      | (with_reducible exact ih2 _ _)
      | (with_reducible exact ih3 _ _)
      | (with_reducible exact ih4 _ _)
      | (with_reducible exact ih5 _ _)
      | (with_reducible exact ih6 _ _)
      | (with_reducible exact LeO.refl _)
      | (with_reducible exact LeO.none _)
      | (with_reducible refine LeO.ite ?_ ?_)
      | (with_reducible refine LeO.bind ?_ (fun _ => ?_))
      | exact ih0 _
      | exact ih1 _ _
      | exact ih2 _ _
      | exact ih3 _ _
      | exact ih4 _ _
      | exact ih5 _ _
      | exact ih6 _ _
      | exact LeO.none _
      | refine LeO.ite ?_ ?_
      | refine LeO.bind ?_ (fun _ => ?_)
    · intro y0 y1
      unfold spec_Fold.j0
      repeat' first
      | (with_reducible exact ih0 _)
      | (with_reducible exact ih1 _ _)
      | (with_reducible exact ih2 _ _)
      | (with_reducible exact ih3 _ _)
      | (with_reducible exact ih4 _ _)
      | (with_reducible exact ih5 _ _)
      | (with_reducible exact ih6 _ _)
      | (with_reducible exact LeO.refl _)
      | (with_reducible exact LeO.none _)
      | (with_reducible refine LeO.ite ?_ ?_)
      | (with_reducible refine LeO.bind ?_ (fun _ => ?_))
      | exact ih0 _
      | exact ih1 _ _
      | exact ih2 _ _
      | exact ih3 _ _
      | exact ih4 _ _
      | exact ih5 _ _
      | exact ih6 _ _
      | exact LeO.none _
      | refine LeO.ite ?_ ?_
      | refine LeO.bind ?_ (fun _ => ?_)
theorem spec_Fold.mono : ∀ a0 k, LeO (spec_Fold.f k a0) (spec_Fold.f (k + 1) a0) := by
  intro a0 k
  obtain ⟨ih0, ih1, ih2, ih3, ih4, ih5, ih6⟩ := spec_Fold.mono_l k
  unfold spec_Fold.f
  repeat' first
      | (with_reducible exact ih0 _)
      | (with_reducible exact ih1 _ _)
      | (with_reducible exact ih2 _ _)
      | (with_reducible exact ih3 _ _)
      | (with_reducible exact ih4 _ _)
      | (with_reducible exact ih5 _ _)
      | (with_reducible exact ih6 _ _)
      | (with_reducible exact LeO.refl _)
      | (with_reducible exact LeO.none _)
      | (with_reducible refine LeO.ite ?_ ?_)
      | (with_reducible refine LeO.bind ?_ (fun _ => ?_))
      | exact ih0 _
      | exact ih1 _ _
      | exact ih2 _ _
      | exact ih3 _ _
      | exact ih4 _ _
      | exact ih5 _ _
      | exact ih6 _ _
      | exact LeO.none _
      | refine LeO.ite ?_ ?_
      | refine LeO.bind ?_ (fun _ => ?_)
set_option maxHeartbeats 8000000 in
set_option maxRecDepth 100000 in
theorem spec_Fold.calls (k : Nat) (a0 : Int) (r : Int) (w : World) (h : spec_Fold.f k a0 = some r) :
    Calls Tryd.prog 101 #[.int .i64 a0] w fun e w' => e = .returned (.int .i64 r) ∧ Drawn0 w w' := by
  have H : (if a0 ≥ 65 then (if a0 ≤ 90 then (spec_Fold.j0 k a0 true) else (if a0 ≥ 192 then (if a0 ≤ 222 then (if a0 = 215 then (if a0 ≥ 913 then (if a0 ≤ 939 then (if a0 = 930 then (if a0 ≥ 1040 then (spec_Fold.j0 k a0 (decide (a0 ≤ 1071))) else (spec_Fold.j0 k a0 false)) else (spec_Fold.j0 k a0 true)) else (if a0 ≥ 1040 then (spec_Fold.j0 k a0 (decide (a0 ≤ 1071))) else (spec_Fold.j0 k a0 false))) else (if a0 ≥ 1040 then (spec_Fold.j0 k a0 (decide (a0 ≤ 1071))) else (spec_Fold.j0 k a0 false))) else (spec_Fold.j0 k a0 true)) else (if a0 ≥ 913 then (if a0 ≤ 939 then (if a0 = 930 then (if a0 ≥ 1040 then (spec_Fold.j0 k a0 (decide (a0 ≤ 1071))) else (spec_Fold.j0 k a0 false)) else (spec_Fold.j0 k a0 true)) else (if a0 ≥ 1040 then (spec_Fold.j0 k a0 (decide (a0 ≤ 1071))) else (spec_Fold.j0 k a0 false))) else (if a0 ≥ 1040 then (spec_Fold.j0 k a0 (decide (a0 ≤ 1071))) else (spec_Fold.j0 k a0 false)))) else (if a0 ≥ 913 then (if a0 ≤ 939 then (if a0 = 930 then (if a0 ≥ 1040 then (spec_Fold.j0 k a0 (decide (a0 ≤ 1071))) else (spec_Fold.j0 k a0 false)) else (spec_Fold.j0 k a0 true)) else (if a0 ≥ 1040 then (spec_Fold.j0 k a0 (decide (a0 ≤ 1071))) else (spec_Fold.j0 k a0 false))) else (if a0 ≥ 1040 then (spec_Fold.j0 k a0 (decide (a0 ≤ 1071))) else (spec_Fold.j0 k a0 false))))) else (if a0 ≥ 192 then (if a0 ≤ 222 then (if a0 = 215 then (if a0 ≥ 913 then (if a0 ≤ 939 then (if a0 = 930 then (if a0 ≥ 1040 then (spec_Fold.j0 k a0 (decide (a0 ≤ 1071))) else (spec_Fold.j0 k a0 false)) else (spec_Fold.j0 k a0 true)) else (if a0 ≥ 1040 then (spec_Fold.j0 k a0 (decide (a0 ≤ 1071))) else (spec_Fold.j0 k a0 false))) else (if a0 ≥ 1040 then (spec_Fold.j0 k a0 (decide (a0 ≤ 1071))) else (spec_Fold.j0 k a0 false))) else (spec_Fold.j0 k a0 true)) else (if a0 ≥ 913 then (if a0 ≤ 939 then (if a0 = 930 then (if a0 ≥ 1040 then (spec_Fold.j0 k a0 (decide (a0 ≤ 1071))) else (spec_Fold.j0 k a0 false)) else (spec_Fold.j0 k a0 true)) else (if a0 ≥ 1040 then (spec_Fold.j0 k a0 (decide (a0 ≤ 1071))) else (spec_Fold.j0 k a0 false))) else (if a0 ≥ 1040 then (spec_Fold.j0 k a0 (decide (a0 ≤ 1071))) else (spec_Fold.j0 k a0 false)))) else (if a0 ≥ 913 then (if a0 ≤ 939 then (if a0 = 930 then (if a0 ≥ 1040 then (spec_Fold.j0 k a0 (decide (a0 ≤ 1071))) else (spec_Fold.j0 k a0 false)) else (spec_Fold.j0 k a0 true)) else (if a0 ≥ 1040 then (spec_Fold.j0 k a0 (decide (a0 ≤ 1071))) else (spec_Fold.j0 k a0 false))) else (if a0 ≥ 1040 then (spec_Fold.j0 k a0 (decide (a0 ≤ 1071))) else (spec_Fold.j0 k a0 false))))) = some r := h
  clear h
  have HC2 := Aside0.mk H
  clear H
  go_enter Tryd.func101, Tryd.ntmps101
  go_upto_block 0 with (fail)
  go_cut [0] (fun v0 wc => ∃ (kq : Nat) (x0_1 : Int), v0 = .int .i64 x0_1 ∧ Aside0 (spec_Fold.j1 kq x0_1 = some r) ∧ Aside0 (kq ≤ k) ∧ Drawn0 w wc)
  case first =>
    have H := HC2.out
    clear HC2
    have HC3 := Aside0.mk H
    clear H
    go_upto_region 1 with (fail)
    go_cut [3] (fun v3 wc => ∃ (kq : Nat) (x3_2 : Bool), v3 = .bool x3_2 ∧ Aside0 (spec_Fold.j0 kq a0 x3_2 = some r) ∧ Aside0 (kq ≤ k) ∧ Drawn0 w wc)
    case first =>
      have H := HC3.out
      clear HC3
      by_cases c4 : a0 ≥ 65
      · rw [if_pos c4] at H
        have c4b0 : decide (65 ≤ a0) = true := decide_eq_true c4
        clear c4
        (first | rw [c4b0] | (simp only [i64_w, i32_w]; rw [c4b0]) | skip)
        by_cases c5 : a0 ≤ 90
        · rw [if_pos c5] at H
          have c5b0 : decide (a0 ≤ 90) = true := decide_eq_true c5
          clear c5
          have H' := Aside0.mk H
          clear H
          go_wp2
          go_meet
          case rel => exact ⟨_, (true), (by first | rfl | (simp; done) | (simp [*]; done)), H', ⟨by first | omega | exact Nat.le_refl _⟩, by repeat (first | exact Drawn0.refl _ | apply Drawn0.step)⟩
        · rw [if_neg c5] at H
          have c5b0 : decide (a0 ≤ 90) = false := decide_eq_false c5
          clear c5
          by_cases c6 : a0 ≥ 192
          · rw [if_pos c6] at H
            have c6b0 : decide (192 ≤ a0) = true := decide_eq_true c6
            clear c6
            by_cases c7 : a0 ≤ 222
            · rw [if_pos c7] at H
              have c7b0 : decide (a0 ≤ 222) = true := decide_eq_true c7
              clear c7
              by_cases c8 : a0 = 215
              · rw [if_pos c8] at H
                have c8b0 : (a0 == 215) = true := beq_iff_eq.mpr c8
                have c8b1 : (a0 != 215) = false := bne_eq_false_iff_eq.mpr c8
                clear c8
                by_cases c9 : a0 ≥ 913
                · rw [if_pos c9] at H
                  have c9b0 : decide (913 ≤ a0) = true := decide_eq_true c9
                  clear c9
                  by_cases c10 : a0 ≤ 939
                  · rw [if_pos c10] at H
                    have c10b0 : decide (a0 ≤ 939) = true := decide_eq_true c10
                    clear c10
                    by_cases c11 : a0 = 930
                    · rw [if_pos c11] at H
                      have c11b0 : (a0 == 930) = true := beq_iff_eq.mpr c11
                      have c11b1 : (a0 != 930) = false := bne_eq_false_iff_eq.mpr c11
                      clear c11
                      by_cases c12 : a0 ≥ 1040
                      · rw [if_pos c12] at H
                        have c12b0 : decide (1040 ≤ a0) = true := decide_eq_true c12
                        clear c12
                        have H' := Aside0.mk H
                        clear H
                        go_wp2
                        go_meet
                        case rel => exact ⟨_, (decide (a0 ≤ 1071)), (by first | rfl | (simp; done) | (simp [*]; done)), H', ⟨by first | omega | exact Nat.le_refl _⟩, by repeat (first | exact Drawn0.refl _ | apply Drawn0.step)⟩
                      · rw [if_neg c12] at H
                        have c12b0 : decide (1040 ≤ a0) = false := decide_eq_false c12
                        clear c12
                        have H' := Aside0.mk H
                        clear H
                        go_wp2
                        go_meet
                        case rel => exact ⟨_, (false), (by first | rfl | (simp; done) | (simp [*]; done)), H', ⟨by first | omega | exact Nat.le_refl _⟩, by repeat (first | exact Drawn0.refl _ | apply Drawn0.step)⟩
                    · rw [if_neg c11] at H
                      have c11b0 : (a0 == 930) = false := beq_eq_false_iff_ne.mpr c11
                      have c11b1 : (a0 != 930) = true := bne_iff_ne.mpr c11
                      have H' := Aside0.mk H
                      clear H
                      go_wp2
                      go_meet
                      case rel => exact ⟨_, (true), (by first | rfl | (simp; done) | (simp [*]; done)), H', ⟨by first | omega | exact Nat.le_refl _⟩, by repeat (first | exact Drawn0.refl _ | apply Drawn0.step)⟩
                  · rw [if_neg c10] at H
                    have c10b0 : decide (a0 ≤ 939) = false := decide_eq_false c10
                    clear c10
                    by_cases c13 : a0 ≥ 1040
                    · rw [if_pos c13] at H
                      have c13b0 : decide (1040 ≤ a0) = true := decide_eq_true c13
                      clear c13
                      have H' := Aside0.mk H
                      clear H
                      go_wp2
                      go_meet
                      case rel => exact ⟨_, (decide (a0 ≤ 1071)), (by first | rfl | (simp; done) | (simp [*]; done)), H', ⟨by first | omega | exact Nat.le_refl _⟩, by repeat (first | exact Drawn0.refl _ | apply Drawn0.step)⟩
                    · rw [if_neg c13] at H
                      have c13b0 : decide (1040 ≤ a0) = false := decide_eq_false c13
                      clear c13
                      have H' := Aside0.mk H
                      clear H
                      go_wp2
                      go_meet
                      case rel => exact ⟨_, (false), (by first | rfl | (simp; done) | (simp [*]; done)), H', ⟨by first | omega | exact Nat.le_refl _⟩, by repeat (first | exact Drawn0.refl _ | apply Drawn0.step)⟩
                · rw [if_neg c9] at H
                  have c9b0 : decide (913 ≤ a0) = false := decide_eq_false c9
                  clear c9
                  by_cases c14 : a0 ≥ 1040
                  · rw [if_pos c14] at H
                    have c14b0 : decide (1040 ≤ a0) = true := decide_eq_true c14
                    clear c14
                    have H' := Aside0.mk H
                    clear H
                    go_wp2
                    go_meet
                    case rel => exact ⟨_, (decide (a0 ≤ 1071)), (by first | rfl | (simp; done) | (simp [*]; done)), H', ⟨by first | omega | exact Nat.le_refl _⟩, by repeat (first | exact Drawn0.refl _ | apply Drawn0.step)⟩
                  · rw [if_neg c14] at H
                    have c14b0 : decide (1040 ≤ a0) = false := decide_eq_false c14
                    clear c14
                    have H' := Aside0.mk H
                    clear H
                    go_wp2
                    go_meet
                    case rel => exact ⟨_, (false), (by first | rfl | (simp; done) | (simp [*]; done)), H', ⟨by first | omega | exact Nat.le_refl _⟩, by repeat (first | exact Drawn0.refl _ | apply Drawn0.step)⟩
              · rw [if_neg c8] at H
                have c8b0 : (a0 == 215) = false := beq_eq_false_iff_ne.mpr c8
                have c8b1 : (a0 != 215) = true := bne_iff_ne.mpr c8
                have H' := Aside0.mk H
                clear H
                go_wp2
                go_meet
                case rel => exact ⟨_, (true), (by first | rfl | (simp; done) | (simp [*]; done)), H', ⟨by first | omega | exact Nat.le_refl _⟩, by repeat (first | exact Drawn0.refl _ | apply Drawn0.step)⟩
            · rw [if_neg c7] at H
              have c7b0 : decide (a0 ≤ 222) = false := decide_eq_false c7
              clear c7
              by_cases c15 : a0 ≥ 913
              · rw [if_pos c15] at H
                have c15b0 : decide (913 ≤ a0) = true := decide_eq_true c15
                clear c15
                by_cases c16 : a0 ≤ 939
                · rw [if_pos c16] at H
                  have c16b0 : decide (a0 ≤ 939) = true := decide_eq_true c16
                  clear c16
                  by_cases c17 : a0 = 930
                  · rw [if_pos c17] at H
                    have c17b0 : (a0 == 930) = true := beq_iff_eq.mpr c17
                    have c17b1 : (a0 != 930) = false := bne_eq_false_iff_eq.mpr c17
                    clear c17
                    by_cases c18 : a0 ≥ 1040
                    · rw [if_pos c18] at H
                      have c18b0 : decide (1040 ≤ a0) = true := decide_eq_true c18
                      clear c18
                      have H' := Aside0.mk H
                      clear H
                      go_wp2
                      go_meet
                      case rel => exact ⟨_, (decide (a0 ≤ 1071)), (by first | rfl | (simp; done) | (simp [*]; done)), H', ⟨by first | omega | exact Nat.le_refl _⟩, by repeat (first | exact Drawn0.refl _ | apply Drawn0.step)⟩
                    · rw [if_neg c18] at H
                      have c18b0 : decide (1040 ≤ a0) = false := decide_eq_false c18
                      clear c18
                      have H' := Aside0.mk H
                      clear H
                      go_wp2
                      go_meet
                      case rel => exact ⟨_, (false), (by first | rfl | (simp; done) | (simp [*]; done)), H', ⟨by first | omega | exact Nat.le_refl _⟩, by repeat (first | exact Drawn0.refl _ | apply Drawn0.step)⟩
                  · rw [if_neg c17] at H
                    have c17b0 : (a0 == 930) = false := beq_eq_false_iff_ne.mpr c17
                    have c17b1 : (a0 != 930) = true := bne_iff_ne.mpr c17
                    have H' := Aside0.mk H
                    clear H
                    go_wp2
                    go_meet
                    case rel => exact ⟨_, (true), (by first | rfl | (simp; done) | (simp [*]; done)), H', ⟨by first | omega | exact Nat.le_refl _⟩, by repeat (first | exact Drawn0.refl _ | apply Drawn0.step)⟩
                · rw [if_neg c16] at H
                  have c16b0 : decide (a0 ≤ 939) = false := decide_eq_false c16
                  clear c16
                  by_cases c19 : a0 ≥ 1040
                  · rw [if_pos c19] at H
                    have c19b0 : decide (1040 ≤ a0) = true := decide_eq_true c19
                    clear c19
                    have H' := Aside0.mk H
                    clear H
                    go_wp2
                    go_meet
                    case rel => exact ⟨_, (decide (a0 ≤ 1071)), (by first | rfl | (simp; done) | (simp [*]; done)), H', ⟨by first | omega | exact Nat.le_refl _⟩, by repeat (first | exact Drawn0.refl _ | apply Drawn0.step)⟩
                  · rw [if_neg c19] at H
                    have c19b0 : decide (1040 ≤ a0) = false := decide_eq_false c19
                    clear c19
                    have H' := Aside0.mk H
                    clear H
                    go_wp2
                    go_meet
                    case rel => exact ⟨_, (false), (by first | rfl | (simp; done) | (simp [*]; done)), H', ⟨by first | omega | exact Nat.le_refl _⟩, by repeat (first | exact Drawn0.refl _ | apply Drawn0.step)⟩
              · rw [if_neg c15] at H
                have c15b0 : decide (913 ≤ a0) = false := decide_eq_false c15
                clear c15
                by_cases c20 : a0 ≥ 1040
                · rw [if_pos c20] at H
                  have c20b0 : decide (1040 ≤ a0) = true := decide_eq_true c20
                  clear c20
                  have H' := Aside0.mk H
                  clear H
                  go_wp2
                  go_meet
                  case rel => exact ⟨_, (decide (a0 ≤ 1071)), (by first | rfl | (simp; done) | (simp [*]; done)), H', ⟨by first | omega | exact Nat.le_refl _⟩, by repeat (first | exact Drawn0.refl _ | apply Drawn0.step)⟩
                · rw [if_neg c20] at H
                  have c20b0 : decide (1040 ≤ a0) = false := decide_eq_false c20
                  clear c20
                  have H' := Aside0.mk H
                  clear H
                  go_wp2
                  go_meet
                  case rel => exact ⟨_, (false), (by first | rfl | (simp; done) | (simp [*]; done)), H', ⟨by first | omega | exact Nat.le_refl _⟩, by repeat (first | exact Drawn0.refl _ | apply Drawn0.step)⟩
          · rw [if_neg c6] at H
            have c6b0 : decide (192 ≤ a0) = false := decide_eq_false c6
            clear c6
            by_cases c21 : a0 ≥ 913
            · rw [if_pos c21] at H
              have c21b0 : decide (913 ≤ a0) = true := decide_eq_true c21
              clear c21
              by_cases c22 : a0 ≤ 939
              · rw [if_pos c22] at H
                have c22b0 : decide (a0 ≤ 939) = true := decide_eq_true c22
                clear c22
                by_cases c23 : a0 = 930
                · rw [if_pos c23] at H
                  have c23b0 : (a0 == 930) = true := beq_iff_eq.mpr c23
                  have c23b1 : (a0 != 930) = false := bne_eq_false_iff_eq.mpr c23
                  clear c23
                  by_cases c24 : a0 ≥ 1040
                  · rw [if_pos c24] at H
                    have c24b0 : decide (1040 ≤ a0) = true := decide_eq_true c24
                    clear c24
                    have H' := Aside0.mk H
                    clear H
                    go_wp2
                    go_meet
                    case rel => exact ⟨_, (decide (a0 ≤ 1071)), (by first | rfl | (simp; done) | (simp [*]; done)), H', ⟨by first | omega | exact Nat.le_refl _⟩, by repeat (first | exact Drawn0.refl _ | apply Drawn0.step)⟩
                  · rw [if_neg c24] at H
                    have c24b0 : decide (1040 ≤ a0) = false := decide_eq_false c24
                    clear c24
                    have H' := Aside0.mk H
                    clear H
                    go_wp2
                    go_meet
                    case rel => exact ⟨_, (false), (by first | rfl | (simp; done) | (simp [*]; done)), H', ⟨by first | omega | exact Nat.le_refl _⟩, by repeat (first | exact Drawn0.refl _ | apply Drawn0.step)⟩
                · rw [if_neg c23] at H
                  have c23b0 : (a0 == 930) = false := beq_eq_false_iff_ne.mpr c23
                  have c23b1 : (a0 != 930) = true := bne_iff_ne.mpr c23
                  have H' := Aside0.mk H
                  clear H
                  go_wp2
                  go_meet
                  case rel => exact ⟨_, (true), (by first | rfl | (simp; done) | (simp [*]; done)), H', ⟨by first | omega | exact Nat.le_refl _⟩, by repeat (first | exact Drawn0.refl _ | apply Drawn0.step)⟩
              · rw [if_neg c22] at H
                have c22b0 : decide (a0 ≤ 939) = false := decide_eq_false c22
                clear c22
                by_cases c25 : a0 ≥ 1040
                · rw [if_pos c25] at H
                  have c25b0 : decide (1040 ≤ a0) = true := decide_eq_true c25
                  clear c25
                  have H' := Aside0.mk H
                  clear H
                  go_wp2
                  go_meet
                  case rel => exact ⟨_, (decide (a0 ≤ 1071)), (by first | rfl | (simp; done) | (simp [*]; done)), H', ⟨by first | omega | exact Nat.le_refl _⟩, by repeat (first | exact Drawn0.refl _ | apply Drawn0.step)⟩
                · rw [if_neg c25] at H
                  have c25b0 : decide (1040 ≤ a0) = false := decide_eq_false c25
                  clear c25
                  have H' := Aside0.mk H
                  clear H
                  go_wp2
                  go_meet
                  case rel => exact ⟨_, (false), (by first | rfl | (simp; done) | (simp [*]; done)), H', ⟨by first | omega | exact Nat.le_refl _⟩, by repeat (first | exact Drawn0.refl _ | apply Drawn0.step)⟩
            · rw [if_neg c21] at H
              have c21b0 : decide (913 ≤ a0) = false := decide_eq_false c21
              clear c21
              by_cases c26 : a0 ≥ 1040
              · rw [if_pos c26] at H
                have c26b0 : decide (1040 ≤ a0) = true := decide_eq_true c26
                clear c26
                have H' := Aside0.mk H
                clear H
                go_wp2
                go_meet
                case rel => exact ⟨_, (decide (a0 ≤ 1071)), (by first | rfl | (simp; done) | (simp [*]; done)), H', ⟨by first | omega | exact Nat.le_refl _⟩, by repeat (first | exact Drawn0.refl _ | apply Drawn0.step)⟩
              · rw [if_neg c26] at H
                have c26b0 : decide (1040 ≤ a0) = false := decide_eq_false c26
                clear c26
                have H' := Aside0.mk H
                clear H
                go_wp2
                go_meet
                case rel => exact ⟨_, (false), (by first | rfl | (simp; done) | (simp [*]; done)), H', ⟨by first | omega | exact Nat.le_refl _⟩, by repeat (first | exact Drawn0.refl _ | apply Drawn0.step)⟩
      · rw [if_neg c4] at H
        have c4b0 : decide (65 ≤ a0) = false := decide_eq_false c4
        clear c4
        (first | rw [c4b0] | (simp only [i64_w, i32_w]; rw [c4b0]) | skip)
        by_cases c27 : a0 ≥ 192
        · rw [if_pos c27] at H
          have c27b0 : decide (192 ≤ a0) = true := decide_eq_true c27
          clear c27
          by_cases c28 : a0 ≤ 222
          · rw [if_pos c28] at H
            have c28b0 : decide (a0 ≤ 222) = true := decide_eq_true c28
            clear c28
            by_cases c29 : a0 = 215
            · rw [if_pos c29] at H
              have c29b0 : (a0 == 215) = true := beq_iff_eq.mpr c29
              have c29b1 : (a0 != 215) = false := bne_eq_false_iff_eq.mpr c29
              clear c29
              by_cases c30 : a0 ≥ 913
              · rw [if_pos c30] at H
                have c30b0 : decide (913 ≤ a0) = true := decide_eq_true c30
                clear c30
                by_cases c31 : a0 ≤ 939
                · rw [if_pos c31] at H
                  have c31b0 : decide (a0 ≤ 939) = true := decide_eq_true c31
                  clear c31
                  by_cases c32 : a0 = 930
                  · rw [if_pos c32] at H
                    have c32b0 : (a0 == 930) = true := beq_iff_eq.mpr c32
                    have c32b1 : (a0 != 930) = false := bne_eq_false_iff_eq.mpr c32
                    clear c32
                    by_cases c33 : a0 ≥ 1040
                    · rw [if_pos c33] at H
                      have c33b0 : decide (1040 ≤ a0) = true := decide_eq_true c33
                      clear c33
                      have H' := Aside0.mk H
                      clear H
                      go_wp2
                      go_meet
                      case rel => exact ⟨_, (decide (a0 ≤ 1071)), (by first | rfl | (simp; done) | (simp [*]; done)), H', ⟨by first | omega | exact Nat.le_refl _⟩, by repeat (first | exact Drawn0.refl _ | apply Drawn0.step)⟩
                    · rw [if_neg c33] at H
                      have c33b0 : decide (1040 ≤ a0) = false := decide_eq_false c33
                      clear c33
                      have H' := Aside0.mk H
                      clear H
                      go_wp2
                      go_meet
                      case rel => exact ⟨_, (false), (by first | rfl | (simp; done) | (simp [*]; done)), H', ⟨by first | omega | exact Nat.le_refl _⟩, by repeat (first | exact Drawn0.refl _ | apply Drawn0.step)⟩
                  · rw [if_neg c32] at H
                    have c32b0 : (a0 == 930) = false := beq_eq_false_iff_ne.mpr c32
                    have c32b1 : (a0 != 930) = true := bne_iff_ne.mpr c32
                    have H' := Aside0.mk H
                    clear H
                    go_wp2
                    go_meet
                    case rel => exact ⟨_, (true), (by first | rfl | (simp; done) | (simp [*]; done)), H', ⟨by first | omega | exact Nat.le_refl _⟩, by repeat (first | exact Drawn0.refl _ | apply Drawn0.step)⟩
                · rw [if_neg c31] at H
                  have c31b0 : decide (a0 ≤ 939) = false := decide_eq_false c31
                  clear c31
                  by_cases c34 : a0 ≥ 1040
                  · rw [if_pos c34] at H
                    have c34b0 : decide (1040 ≤ a0) = true := decide_eq_true c34
                    clear c34
                    have H' := Aside0.mk H
                    clear H
                    go_wp2
                    go_meet
                    case rel => exact ⟨_, (decide (a0 ≤ 1071)), (by first | rfl | (simp; done) | (simp [*]; done)), H', ⟨by first | omega | exact Nat.le_refl _⟩, by repeat (first | exact Drawn0.refl _ | apply Drawn0.step)⟩
                  · rw [if_neg c34] at H
                    have c34b0 : decide (1040 ≤ a0) = false := decide_eq_false c34
                    clear c34
                    have H' := Aside0.mk H
                    clear H
                    go_wp2
                    go_meet
                    case rel => exact ⟨_, (false), (by first | rfl | (simp; done) | (simp [*]; done)), H', ⟨by first | omega | exact Nat.le_refl _⟩, by repeat (first | exact Drawn0.refl _ | apply Drawn0.step)⟩
              · rw [if_neg c30] at H
                have c30b0 : decide (913 ≤ a0) = false := decide_eq_false c30
                clear c30
                by_cases c35 : a0 ≥ 1040
                · rw [if_pos c35] at H
                  have c35b0 : decide (1040 ≤ a0) = true := decide_eq_true c35
                  clear c35
                  have H' := Aside0.mk H
                  clear H
                  go_wp2
                  go_meet
                  case rel => exact ⟨_, (decide (a0 ≤ 1071)), (by first | rfl | (simp; done) | (simp [*]; done)), H', ⟨by first | omega | exact Nat.le_refl _⟩, by repeat (first | exact Drawn0.refl _ | apply Drawn0.step)⟩
                · rw [if_neg c35] at H
                  have c35b0 : decide (1040 ≤ a0) = false := decide_eq_false c35
                  clear c35
                  have H' := Aside0.mk H
                  clear H
                  go_wp2
                  go_meet
                  case rel => exact ⟨_, (false), (by first | rfl | (simp; done) | (simp [*]; done)), H', ⟨by first | omega | exact Nat.le_refl _⟩, by repeat (first | exact Drawn0.refl _ | apply Drawn0.step)⟩
            · rw [if_neg c29] at H
              have c29b0 : (a0 == 215) = false := beq_eq_false_iff_ne.mpr c29
              have c29b1 : (a0 != 215) = true := bne_iff_ne.mpr c29
              have H' := Aside0.mk H
              clear H
              go_wp2
              go_meet
              case rel => exact ⟨_, (true), (by first | rfl | (simp; done) | (simp [*]; done)), H', ⟨by first | omega | exact Nat.le_refl _⟩, by repeat (first | exact Drawn0.refl _ | apply Drawn0.step)⟩
          · rw [if_neg c28] at H
            have c28b0 : decide (a0 ≤ 222) = false := decide_eq_false c28
            clear c28
            by_cases c36 : a0 ≥ 913
            · rw [if_pos c36] at H
              have c36b0 : decide (913 ≤ a0) = true := decide_eq_true c36
              clear c36
              by_cases c37 : a0 ≤ 939
              · rw [if_pos c37] at H
                have c37b0 : decide (a0 ≤ 939) = true := decide_eq_true c37
                clear c37
                by_cases c38 : a0 = 930
                · rw [if_pos c38] at H
                  have c38b0 : (a0 == 930) = true := beq_iff_eq.mpr c38
                  have c38b1 : (a0 != 930) = false := bne_eq_false_iff_eq.mpr c38
                  clear c38
                  by_cases c39 : a0 ≥ 1040
                  · rw [if_pos c39] at H
                    have c39b0 : decide (1040 ≤ a0) = true := decide_eq_true c39
                    clear c39
                    have H' := Aside0.mk H
                    clear H
                    go_wp2
                    go_meet
                    case rel => exact ⟨_, (decide (a0 ≤ 1071)), (by first | rfl | (simp; done) | (simp [*]; done)), H', ⟨by first | omega | exact Nat.le_refl _⟩, by repeat (first | exact Drawn0.refl _ | apply Drawn0.step)⟩
                  · rw [if_neg c39] at H
                    have c39b0 : decide (1040 ≤ a0) = false := decide_eq_false c39
                    clear c39
                    have H' := Aside0.mk H
                    clear H
                    go_wp2
                    go_meet
                    case rel => exact ⟨_, (false), (by first | rfl | (simp; done) | (simp [*]; done)), H', ⟨by first | omega | exact Nat.le_refl _⟩, by repeat (first | exact Drawn0.refl _ | apply Drawn0.step)⟩
                · rw [if_neg c38] at H
                  have c38b0 : (a0 == 930) = false := beq_eq_false_iff_ne.mpr c38
                  have c38b1 : (a0 != 930) = true := bne_iff_ne.mpr c38
                  have H' := Aside0.mk H
                  clear H
                  go_wp2
                  go_meet
                  case rel => exact ⟨_, (true), (by first | rfl | (simp; done) | (simp [*]; done)), H', ⟨by first | omega | exact Nat.le_refl _⟩, by repeat (first | exact Drawn0.refl _ | apply Drawn0.step)⟩
              · rw [if_neg c37] at H
                have c37b0 : decide (a0 ≤ 939) = false := decide_eq_false c37
                clear c37
                by_cases c40 : a0 ≥ 1040
                · rw [if_pos c40] at H
                  have c40b0 : decide (1040 ≤ a0) = true := decide_eq_true c40
                  clear c40
                  have H' := Aside0.mk H
                  clear H
                  go_wp2
                  go_meet
                  case rel => exact ⟨_, (decide (a0 ≤ 1071)), (by first | rfl | (simp; done) | (simp [*]; done)), H', ⟨by first | omega | exact Nat.le_refl _⟩, by repeat (first | exact Drawn0.refl _ | apply Drawn0.step)⟩
                · rw [if_neg c40] at H
                  have c40b0 : decide (1040 ≤ a0) = false := decide_eq_false c40
                  clear c40
                  have H' := Aside0.mk H
                  clear H
                  go_wp2
                  go_meet
                  case rel => exact ⟨_, (false), (by first | rfl | (simp; done) | (simp [*]; done)), H', ⟨by first | omega | exact Nat.le_refl _⟩, by repeat (first | exact Drawn0.refl _ | apply Drawn0.step)⟩
            · rw [if_neg c36] at H
              have c36b0 : decide (913 ≤ a0) = false := decide_eq_false c36
              clear c36
              by_cases c41 : a0 ≥ 1040
              · rw [if_pos c41] at H
                have c41b0 : decide (1040 ≤ a0) = true := decide_eq_true c41
                clear c41
                have H' := Aside0.mk H
                clear H
                go_wp2
                go_meet
                case rel => exact ⟨_, (decide (a0 ≤ 1071)), (by first | rfl | (simp; done) | (simp [*]; done)), H', ⟨by first | omega | exact Nat.le_refl _⟩, by repeat (first | exact Drawn0.refl _ | apply Drawn0.step)⟩
              · rw [if_neg c41] at H
                have c41b0 : decide (1040 ≤ a0) = false := decide_eq_false c41
                clear c41
                have H' := Aside0.mk H
                clear H
                go_wp2
                go_meet
                case rel => exact ⟨_, (false), (by first | rfl | (simp; done) | (simp [*]; done)), H', ⟨by first | omega | exact Nat.le_refl _⟩, by repeat (first | exact Drawn0.refl _ | apply Drawn0.step)⟩
        · rw [if_neg c27] at H
          have c27b0 : decide (192 ≤ a0) = false := decide_eq_false c27
          clear c27
          by_cases c42 : a0 ≥ 913
          · rw [if_pos c42] at H
            have c42b0 : decide (913 ≤ a0) = true := decide_eq_true c42
            clear c42
            by_cases c43 : a0 ≤ 939
            · rw [if_pos c43] at H
              have c43b0 : decide (a0 ≤ 939) = true := decide_eq_true c43
              clear c43
              by_cases c44 : a0 = 930
              · rw [if_pos c44] at H
                have c44b0 : (a0 == 930) = true := beq_iff_eq.mpr c44
                have c44b1 : (a0 != 930) = false := bne_eq_false_iff_eq.mpr c44
                clear c44
                by_cases c45 : a0 ≥ 1040
                · rw [if_pos c45] at H
                  have c45b0 : decide (1040 ≤ a0) = true := decide_eq_true c45
                  clear c45
                  have H' := Aside0.mk H
                  clear H
                  go_wp2
                  go_meet
                  case rel => exact ⟨_, (decide (a0 ≤ 1071)), (by first | rfl | (simp; done) | (simp [*]; done)), H', ⟨by first | omega | exact Nat.le_refl _⟩, by repeat (first | exact Drawn0.refl _ | apply Drawn0.step)⟩
                · rw [if_neg c45] at H
                  have c45b0 : decide (1040 ≤ a0) = false := decide_eq_false c45
                  clear c45
                  have H' := Aside0.mk H
                  clear H
                  go_wp2
                  go_meet
                  case rel => exact ⟨_, (false), (by first | rfl | (simp; done) | (simp [*]; done)), H', ⟨by first | omega | exact Nat.le_refl _⟩, by repeat (first | exact Drawn0.refl _ | apply Drawn0.step)⟩
              · rw [if_neg c44] at H
                have c44b0 : (a0 == 930) = false := beq_eq_false_iff_ne.mpr c44
                have c44b1 : (a0 != 930) = true := bne_iff_ne.mpr c44
                have H' := Aside0.mk H
                clear H
                go_wp2
                go_meet
                case rel => exact ⟨_, (true), (by first | rfl | (simp; done) | (simp [*]; done)), H', ⟨by first | omega | exact Nat.le_refl _⟩, by repeat (first | exact Drawn0.refl _ | apply Drawn0.step)⟩
            · rw [if_neg c43] at H
              have c43b0 : decide (a0 ≤ 939) = false := decide_eq_false c43
              clear c43
              by_cases c46 : a0 ≥ 1040
              · rw [if_pos c46] at H
                have c46b0 : decide (1040 ≤ a0) = true := decide_eq_true c46
                clear c46
                have H' := Aside0.mk H
                clear H
                go_wp2
                go_meet
                case rel => exact ⟨_, (decide (a0 ≤ 1071)), (by first | rfl | (simp; done) | (simp [*]; done)), H', ⟨by first | omega | exact Nat.le_refl _⟩, by repeat (first | exact Drawn0.refl _ | apply Drawn0.step)⟩
              · rw [if_neg c46] at H
                have c46b0 : decide (1040 ≤ a0) = false := decide_eq_false c46
                clear c46
                have H' := Aside0.mk H
                clear H
                go_wp2
                go_meet
                case rel => exact ⟨_, (false), (by first | rfl | (simp; done) | (simp [*]; done)), H', ⟨by first | omega | exact Nat.le_refl _⟩, by repeat (first | exact Drawn0.refl _ | apply Drawn0.step)⟩
          · rw [if_neg c42] at H
            have c42b0 : decide (913 ≤ a0) = false := decide_eq_false c42
            clear c42
            by_cases c47 : a0 ≥ 1040
            · rw [if_pos c47] at H
              have c47b0 : decide (1040 ≤ a0) = true := decide_eq_true c47
              clear c47
              have H' := Aside0.mk H
              clear H
              go_wp2
              go_meet
              case rel => exact ⟨_, (decide (a0 ≤ 1071)), (by first | rfl | (simp; done) | (simp [*]; done)), H', ⟨by first | omega | exact Nat.le_refl _⟩, by repeat (first | exact Drawn0.refl _ | apply Drawn0.step)⟩
            · rw [if_neg c47] at H
              have c47b0 : decide (1040 ≤ a0) = false := decide_eq_false c47
              clear c47
              have H' := Aside0.mk H
              clear H
              go_wp2
              go_meet
              case rel => exact ⟨_, (false), (by first | rfl | (simp; done) | (simp [*]; done)), H', ⟨by first | omega | exact Nat.le_refl _⟩, by repeat (first | exact Drawn0.refl _ | apply Drawn0.step)⟩
    case rest =>
      clear HC3
      try clear c1
      try clear c2
      try clear p2
      try clear c3
      try clear c4
      try clear c4b0
      try clear c5
      try clear c5b0
      try clear c6
      try clear c6b0
      try clear c7
      try clear c7b0
      try clear c8
      try clear c8b0
      try clear c8b1
      try clear c9
      try clear c9b0
      try clear c10
      try clear c10b0
      try clear c11
      try clear c11b0
      try clear c11b1
      try clear c12
      try clear c12b0
      try clear c13
      try clear c13b0
      try clear c14
      try clear c14b0
      try clear c15
      try clear c15b0
      try clear c16
      try clear c16b0
      try clear c17
      try clear c17b0
      try clear c17b1
      try clear c18
      try clear c18b0
      try clear c19
      try clear c19b0
      try clear c20
      try clear c20b0
      try clear c21
      try clear c21b0
      try clear c22
      try clear c22b0
      try clear c23
      try clear c23b0
      try clear c23b1
      try clear c24
      try clear c24b0
      try clear c25
      try clear c25b0
      try clear c26
      try clear c26b0
      try clear c27
      try clear c27b0
      try clear c28
      try clear c28b0
      try clear c29
      try clear c29b0
      try clear c29b1
      try clear c30
      try clear c30b0
      try clear c31
      try clear c31b0
      try clear c32
      try clear c32b0
      try clear c32b1
      try clear c33
      try clear c33b0
      try clear c34
      try clear c34b0
      try clear c35
      try clear c35b0
      try clear c36
      try clear c36b0
      try clear c37
      try clear c37b0
      try clear c38
      try clear c38b0
      try clear c38b1
      try clear c39
      try clear c39b0
      try clear c40
      try clear c40b0
      try clear c41
      try clear c41b0
      try clear c42
      try clear c42b0
      try clear c43
      try clear c43b0
      try clear c44
      try clear c44b0
      try clear c44b1
      try clear c45
      try clear c45b0
      try clear c46
      try clear c46b0
      try clear c47
      try clear c47b0
      obtain ⟨kq, x3_2, rfl, HA, HJ2, ⟨mc2, rfl⟩⟩ := hcut
      cases kq with
      | zero => exact absurd HA.out (by simp [spec_Fold.j0])
      | succ kj2 =>
        have H := HA.out
        clear HA
        simp only [spec_Fold.j0] at H
        by_cases c48 : x3_2 = true
        · subst c48
          have H1 : (spec_Fold.j1 kj2 (wrap64 (a0 + 32))) = some r := by rw [if_pos rfl] at H; exact H
          clear H
          have H := H1
          clear H1
          have H' := Aside0.mk H
          clear H
          go_wp2
          go_meet
          case rel => exact ⟨_, (wrap64 (a0 + 32)), (by first | rfl | (simp; done) | (simp [*]; done)), H', ⟨by have := HJ2.out; first | omega | exact Nat.le_refl _⟩, by repeat (first | exact Drawn0.refl _ | apply Drawn0.step)⟩
        · replace c48 := Bool.eq_false_iff.mpr c48
          subst c48
          have H1 : (if a0 ≥ 1024 then (if a0 ≤ 1039 then (spec_Fold.j1 kj2 (wrap64 (a0 + 80))) else (spec_Fold.j1 kj2 a0)) else (spec_Fold.j1 kj2 a0)) = some r := by rw [if_neg (show ¬ (false = true) by decide)] at H; exact H
          clear H
          have H := H1
          clear H1
          by_cases c49 : a0 ≥ 1024
          · rw [if_pos c49] at H
            have c49b0 : decide (1024 ≤ a0) = true := decide_eq_true c49
            clear c49
            by_cases c50 : a0 ≤ 1039
            · rw [if_pos c50] at H
              have c50b0 : decide (a0 ≤ 1039) = true := decide_eq_true c50
              clear c50
              have H' := Aside0.mk H
              clear H
              go_wp2
              go_meet
              case rel => exact ⟨_, (wrap64 (a0 + 80)), (by first | rfl | (simp; done) | (simp [*]; done)), H', ⟨by have := HJ2.out; first | omega | exact Nat.le_refl _⟩, by repeat (first | exact Drawn0.refl _ | apply Drawn0.step)⟩
            · rw [if_neg c50] at H
              have c50b0 : decide (a0 ≤ 1039) = false := decide_eq_false c50
              clear c50
              have H' := Aside0.mk H
              clear H
              go_wp2
              go_meet
              case rel => exact ⟨_, (a0), (by first | rfl | (simp; done) | (simp [*]; done)), H', ⟨by have := HJ2.out; first | omega | exact Nat.le_refl _⟩, by repeat (first | exact Drawn0.refl _ | apply Drawn0.step)⟩
          · rw [if_neg c49] at H
            have c49b0 : decide (1024 ≤ a0) = false := decide_eq_false c49
            clear c49
            have H' := Aside0.mk H
            clear H
            go_wp2
            go_meet
            case rel => exact ⟨_, (a0), (by first | rfl | (simp; done) | (simp [*]; done)), H', ⟨by have := HJ2.out; first | omega | exact Nat.le_refl _⟩, by repeat (first | exact Drawn0.refl _ | apply Drawn0.step)⟩
  case rest =>
    clear HC2
    try clear c1
    try clear c2
    try clear p2
    try clear c3
    try clear c4
    try clear c4b0
    try clear c5
    try clear c5b0
    try clear c6
    try clear c6b0
    try clear p6
    try clear c7
    try clear c7b0
    try clear c8
    try clear c8b0
    try clear c8b1
    try clear c9
    try clear c9b0
    try clear c10
    try clear c10b0
    try clear c11
    try clear c11b0
    try clear c11b1
    try clear c12
    try clear c12b0
    try clear c13
    try clear c13b0
    try clear c14
    try clear c14b0
    try clear c15
    try clear c15b0
    try clear c16
    try clear c16b0
    try clear c17
    try clear c17b0
    try clear c17b1
    try clear c18
    try clear c18b0
    try clear c19
    try clear c19b0
    try clear c20
    try clear c20b0
    try clear c21
    try clear c21b0
    try clear c22
    try clear c22b0
    try clear c23
    try clear c23b0
    try clear c23b1
    try clear c24
    try clear c24b0
    try clear c25
    try clear c25b0
    try clear c26
    try clear c26b0
    try clear c27
    try clear c27b0
    try clear c28
    try clear c28b0
    try clear c29
    try clear c29b0
    try clear c29b1
    try clear c30
    try clear c30b0
    try clear c31
    try clear c31b0
    try clear c32
    try clear c32b0
    try clear c32b1
    try clear c33
    try clear c33b0
    try clear c34
    try clear c34b0
    try clear c35
    try clear c35b0
    try clear c36
    try clear c36b0
    try clear c37
    try clear c37b0
    try clear c38
    try clear c38b0
    try clear c38b1
    try clear c39
    try clear c39b0
    try clear c40
    try clear c40b0
    try clear c41
    try clear c41b0
    try clear c42
    try clear c42b0
    try clear c43
    try clear c43b0
    try clear c44
    try clear c44b0
    try clear c44b1
    try clear c45
    try clear c45b0
    try clear c46
    try clear c46b0
    try clear c47
    try clear c47b0
    try clear c48
    try clear c49
    try clear c49b0
    try clear c50
    try clear c50b0
    try clear p2
    obtain ⟨kq, x0_1, rfl, HA, HJ1, ⟨mc1, rfl⟩⟩ := hcut
    cases kq with
    | zero => exact absurd HA.out (by simp [spec_Fold.j1])
    | succ kj1 =>
      have H := HA.out
      clear HA
      simp only [spec_Fold.j1] at H
      have HC51 := Aside0.mk H
      clear H
      go_upto_region 5 with (fail)
      go_cut [53] (fun v53 wc => ∃ (kq : Nat) (x53_50 : Bool), v53 = .bool x53_50 ∧ Aside0 (spec_Fold.j2 kq x0_1 x53_50 = some r) ∧ Aside0 (kq ≤ kj1) ∧ Drawn0 w wc)
      case first =>
        have H := HC51.out
        clear HC51
        by_cases c52 : x0_1 ≥ 224
        · rw [if_pos c52] at H
          have c52b0 : decide (224 ≤ x0_1) = true := decide_eq_true c52
          clear c52
          (first | rw [c52b0] | (simp only [i64_w, i32_w]; rw [c52b0]) | skip)
          have H' := Aside0.mk H
          clear H
          go_wp2
          go_meet
          case rel => exact ⟨_, (decide (x0_1 ≤ 229)), (by first | rfl | (simp; done) | (simp [*]; done)), H', ⟨by have := HJ1.out; first | omega | exact Nat.le_refl _⟩, by repeat (first | exact Drawn0.refl _ | apply Drawn0.step)⟩
        · rw [if_neg c52] at H
          have c52b0 : decide (224 ≤ x0_1) = false := decide_eq_false c52
          clear c52
          (first | rw [c52b0] | (simp only [i64_w, i32_w]; rw [c52b0]) | skip)
          have H' := Aside0.mk H
          clear H
          go_wp2
          go_meet
          case rel => exact ⟨_, (false), (by first | rfl | (simp; done) | (simp [*]; done)), H', ⟨by have := HJ1.out; first | omega | exact Nat.le_refl _⟩, by repeat (first | exact Drawn0.refl _ | apply Drawn0.step)⟩
      case rest =>
        clear HC51
        try clear c1
        try clear c2
        try clear p2
        try clear c3
        try clear c4
        try clear c4b0
        try clear c5
        try clear c5b0
        try clear c6
        try clear c6b0
        try clear p6
        try clear c7
        try clear c7b0
        try clear c8
        try clear c8b0
        try clear c8b1
        try clear c9
        try clear c9b0
        try clear c10
        try clear c10b0
        try clear c11
        try clear c11b0
        try clear c11b1
        try clear c12
        try clear c12b0
        try clear c13
        try clear c13b0
        try clear c14
        try clear c14b0
        try clear c15
        try clear c15b0
        try clear c16
        try clear c16b0
        try clear c17
        try clear c17b0
        try clear c17b1
        try clear c18
        try clear c18b0
        try clear c19
        try clear c19b0
        try clear c20
        try clear c20b0
        try clear c21
        try clear c21b0
        try clear c22
        try clear c22b0
        try clear c23
        try clear c23b0
        try clear c23b1
        try clear c24
        try clear c24b0
        try clear c25
        try clear c25b0
        try clear c26
        try clear c26b0
        try clear c27
        try clear c27b0
        try clear c28
        try clear c28b0
        try clear c29
        try clear c29b0
        try clear c29b1
        try clear c30
        try clear c30b0
        try clear c31
        try clear c31b0
        try clear c32
        try clear c32b0
        try clear c32b1
        try clear c33
        try clear c33b0
        try clear c34
        try clear c34b0
        try clear c35
        try clear c35b0
        try clear c36
        try clear c36b0
        try clear c37
        try clear c37b0
        try clear c38
        try clear c38b0
        try clear c38b1
        try clear c39
        try clear c39b0
        try clear c40
        try clear c40b0
        try clear c41
        try clear c41b0
        try clear c42
        try clear c42b0
        try clear c43
        try clear c43b0
        try clear c44
        try clear c44b0
        try clear c44b1
        try clear c45
        try clear c45b0
        try clear c46
        try clear c46b0
        try clear c47
        try clear c47b0
        try clear c48
        try clear c49
        try clear c49b0
        try clear c50
        try clear c50b0
        try clear c52
        try clear c52b0
        try clear p2
        try clear p6
        obtain ⟨kq, x53_50, rfl, HA, HJ50, ⟨mc50, rfl⟩⟩ := hcut
        cases kq with
        | zero => exact absurd HA.out (by simp [spec_Fold.j2])
        | succ kj50 =>
          have H := HA.out
          clear HA
          simp only [spec_Fold.j2] at H
          by_cases c53 : x53_50 = true
          · subst c53
            have H1 : (some 97) = some r := by rw [if_pos rfl] at H; exact H
            clear H
            have H := H1
            clear H1
            obtain rfl := Option.some.inj H
            go_wp2
            go_ret
            exact ⟨by first | rfl | (simp; done) | (simp [*]; done), by repeat (first | exact Drawn0.refl _ | apply Drawn0.step)⟩
          · replace c53 := Bool.eq_false_iff.mpr c53
            subst c53
            have H1 : (if x0_1 = 231 then (some 99) else (if x0_1 ≥ 232 then (spec_Fold.j3 kj50 x0_1 (decide (x0_1 ≤ 235))) else (spec_Fold.j3 kj50 x0_1 false))) = some r := by rw [if_neg (show ¬ (false = true) by decide)] at H; exact H
            clear H
            have H := H1
            clear H1
            by_cases c54 : x0_1 = 231
            · rw [if_pos c54] at H
              have c54b0 : (x0_1 == 231) = true := beq_iff_eq.mpr c54
              have c54b1 : (x0_1 != 231) = false := bne_eq_false_iff_eq.mpr c54
              clear c54
              obtain rfl := Option.some.inj H
              go_wp2
              go_ret
              exact ⟨by first | rfl | (simp; done) | (simp [*]; done), by repeat (first | exact Drawn0.refl _ | apply Drawn0.step)⟩
            · rw [if_neg c54] at H
              have c54b0 : (x0_1 == 231) = false := beq_eq_false_iff_ne.mpr c54
              have c54b1 : (x0_1 != 231) = true := bne_iff_ne.mpr c54
              have HC55 := Aside0.mk H
              clear H
              go_upto_region 9 with (fail)
              go_cut [63] (fun v63 wc => ∃ (kq : Nat) (x63_54 : Bool), v63 = .bool x63_54 ∧ Aside0 (spec_Fold.j3 kq x0_1 x63_54 = some r) ∧ Aside0 (kq ≤ kj50) ∧ Drawn0 w wc)
              case first =>
                have H := HC55.out
                clear HC55
                by_cases c56 : x0_1 ≥ 232
                · rw [if_pos c56] at H
                  have c56b0 : decide (232 ≤ x0_1) = true := decide_eq_true c56
                  clear c56
                  (first | rw [c56b0] | (simp only [i64_w, i32_w]; rw [c56b0]) | skip)
                  have H' := Aside0.mk H
                  clear H
                  go_wp2
                  go_meet
                  case rel => exact ⟨_, (decide (x0_1 ≤ 235)), (by first | rfl | (simp; done) | (simp [*]; done)), H', ⟨by have := HJ1.out; have := HJ50.out; first | omega | exact Nat.le_refl _⟩, by repeat (first | exact Drawn0.refl _ | apply Drawn0.step)⟩
                · rw [if_neg c56] at H
                  have c56b0 : decide (232 ≤ x0_1) = false := decide_eq_false c56
                  clear c56
                  (first | rw [c56b0] | (simp only [i64_w, i32_w]; rw [c56b0]) | skip)
                  have H' := Aside0.mk H
                  clear H
                  go_wp2
                  go_meet
                  case rel => exact ⟨_, (false), (by first | rfl | (simp; done) | (simp [*]; done)), H', ⟨by have := HJ1.out; have := HJ50.out; first | omega | exact Nat.le_refl _⟩, by repeat (first | exact Drawn0.refl _ | apply Drawn0.step)⟩
              case rest =>
                clear HC55
                try clear c1
                try clear c2
                try clear p2
                try clear c3
                try clear c4
                try clear c4b0
                try clear c5
                try clear c5b0
                try clear c6
                try clear c6b0
                try clear p6
                try clear c7
                try clear c7b0
                try clear c8
                try clear c8b0
                try clear c8b1
                try clear c9
                try clear c9b0
                try clear c10
                try clear c10b0
                try clear c11
                try clear c11b0
                try clear c11b1
                try clear c12
                try clear c12b0
                try clear c13
                try clear c13b0
                try clear c14
                try clear c14b0
                try clear c15
                try clear c15b0
                try clear c16
                try clear c16b0
                try clear c17
                try clear c17b0
                try clear c17b1
                try clear c18
                try clear c18b0
                try clear c19
                try clear c19b0
                try clear c20
                try clear c20b0
                try clear c21
                try clear c21b0
                try clear c22
                try clear c22b0
                try clear c23
                try clear c23b0
                try clear c23b1
                try clear c24
                try clear c24b0
                try clear c25
                try clear c25b0
                try clear c26
                try clear c26b0
                try clear c27
                try clear c27b0
                try clear c28
                try clear c28b0
                try clear c29
                try clear c29b0
                try clear c29b1
                try clear c30
                try clear c30b0
                try clear c31
                try clear c31b0
                try clear c32
                try clear c32b0
                try clear c32b1
                try clear c33
                try clear c33b0
                try clear c34
                try clear c34b0
                try clear c35
                try clear c35b0
                try clear c36
                try clear c36b0
                try clear c37
                try clear c37b0
                try clear c38
                try clear c38b0
                try clear c38b1
                try clear c39
                try clear c39b0
                try clear c40
                try clear c40b0
                try clear c41
                try clear c41b0
                try clear c42
                try clear c42b0
                try clear c43
                try clear c43b0
                try clear c44
                try clear c44b0
                try clear c44b1
                try clear c45
                try clear c45b0
                try clear c46
                try clear c46b0
                try clear c47
                try clear c47b0
                try clear c48
                try clear c49
                try clear c49b0
                try clear c50
                try clear c50b0
                try clear c52
                try clear c52b0
                try clear c53
                try clear c54
                try clear c54b0
                try clear c54b1
                try clear c56
                try clear c56b0
                try clear p2
                try clear p6
                obtain ⟨kq, x63_54, rfl, HA, HJ54, ⟨mc54, rfl⟩⟩ := hcut
                cases kq with
                | zero => exact absurd HA.out (by simp [spec_Fold.j3])
                | succ kj54 =>
                  have H := HA.out
                  clear HA
                  simp only [spec_Fold.j3] at H
                  by_cases c57 : x63_54 = true
                  · subst c57
                    have H1 : (some 101) = some r := by rw [if_pos rfl] at H; exact H
                    clear H
                    have H := H1
                    clear H1
                    obtain rfl := Option.some.inj H
                    go_wp2
                    go_ret
                    exact ⟨by first | rfl | (simp; done) | (simp [*]; done), by repeat (first | exact Drawn0.refl _ | apply Drawn0.step)⟩
                  · replace c57 := Bool.eq_false_iff.mpr c57
                    subst c57
                    have H1 : (if x0_1 ≥ 236 then (spec_Fold.j4 kj54 x0_1 (decide (x0_1 ≤ 239))) else (spec_Fold.j4 kj54 x0_1 false)) = some r := by rw [if_neg (show ¬ (false = true) by decide)] at H; exact H
                    clear H
                    have H := H1
                    clear H1
                    have HC58 := Aside0.mk H
                    clear H
                    go_upto_region 11 with (fail)
                    go_cut [70] (fun v70 wc => ∃ (kq : Nat) (x70_57 : Bool), v70 = .bool x70_57 ∧ Aside0 (spec_Fold.j4 kq x0_1 x70_57 = some r) ∧ Aside0 (kq ≤ kj54) ∧ Drawn0 w wc)
                    case first =>
                      have H := HC58.out
                      clear HC58
                      by_cases c59 : x0_1 ≥ 236
                      · rw [if_pos c59] at H
                        have c59b0 : decide (236 ≤ x0_1) = true := decide_eq_true c59
                        clear c59
                        (first | rw [c59b0] | (simp only [i64_w, i32_w]; rw [c59b0]) | skip)
                        have H' := Aside0.mk H
                        clear H
                        go_wp2
                        go_meet
                        case rel => exact ⟨_, (decide (x0_1 ≤ 239)), (by first | rfl | (simp; done) | (simp [*]; done)), H', ⟨by have := HJ1.out; have := HJ50.out; have := HJ54.out; first | omega | exact Nat.le_refl _⟩, by repeat (first | exact Drawn0.refl _ | apply Drawn0.step)⟩
                      · rw [if_neg c59] at H
                        have c59b0 : decide (236 ≤ x0_1) = false := decide_eq_false c59
                        clear c59
                        (first | rw [c59b0] | (simp only [i64_w, i32_w]; rw [c59b0]) | skip)
                        have H' := Aside0.mk H
                        clear H
                        go_wp2
                        go_meet
                        case rel => exact ⟨_, (false), (by first | rfl | (simp; done) | (simp [*]; done)), H', ⟨by have := HJ1.out; have := HJ50.out; have := HJ54.out; first | omega | exact Nat.le_refl _⟩, by repeat (first | exact Drawn0.refl _ | apply Drawn0.step)⟩
                    case rest =>
                      clear HC58
                      try clear c1
                      try clear c2
                      try clear p2
                      try clear c3
                      try clear c4
                      try clear c4b0
                      try clear c5
                      try clear c5b0
                      try clear c6
                      try clear c6b0
                      try clear p6
                      try clear c7
                      try clear c7b0
                      try clear c8
                      try clear c8b0
                      try clear c8b1
                      try clear c9
                      try clear c9b0
                      try clear c10
                      try clear c10b0
                      try clear c11
                      try clear c11b0
                      try clear c11b1
                      try clear c12
                      try clear c12b0
                      try clear c13
                      try clear c13b0
                      try clear c14
                      try clear c14b0
                      try clear c15
                      try clear c15b0
                      try clear c16
                      try clear c16b0
                      try clear c17
                      try clear c17b0
                      try clear c17b1
                      try clear c18
                      try clear c18b0
                      try clear c19
                      try clear c19b0
                      try clear c20
                      try clear c20b0
                      try clear c21
                      try clear c21b0
                      try clear c22
                      try clear c22b0
                      try clear c23
                      try clear c23b0
                      try clear c23b1
                      try clear c24
                      try clear c24b0
                      try clear c25
                      try clear c25b0
                      try clear c26
                      try clear c26b0
                      try clear c27
                      try clear c27b0
                      try clear c28
                      try clear c28b0
                      try clear c29
                      try clear c29b0
                      try clear c29b1
                      try clear c30
                      try clear c30b0
                      try clear c31
                      try clear c31b0
                      try clear c32
                      try clear c32b0
                      try clear c32b1
                      try clear c33
                      try clear c33b0
                      try clear c34
                      try clear c34b0
                      try clear c35
                      try clear c35b0
                      try clear c36
                      try clear c36b0
                      try clear c37
                      try clear c37b0
                      try clear c38
                      try clear c38b0
                      try clear c38b1
                      try clear c39
                      try clear c39b0
                      try clear c40
                      try clear c40b0
                      try clear c41
                      try clear c41b0
                      try clear c42
                      try clear c42b0
                      try clear c43
                      try clear c43b0
                      try clear c44
                      try clear c44b0
                      try clear c44b1
                      try clear c45
                      try clear c45b0
                      try clear c46
                      try clear c46b0
                      try clear c47
                      try clear c47b0
                      try clear c48
                      try clear c49
                      try clear c49b0
                      try clear c50
                      try clear c50b0
                      try clear c52
                      try clear c52b0
                      try clear c53
                      try clear c54
                      try clear c54b0
                      try clear c54b1
                      try clear c56
                      try clear c56b0
                      try clear c57
                      try clear c59
                      try clear c59b0
                      try clear p2
                      try clear p6
                      obtain ⟨kq, x70_57, rfl, HA, HJ57, ⟨mc57, rfl⟩⟩ := hcut
                      cases kq with
                      | zero => exact absurd HA.out (by simp [spec_Fold.j4])
                      | succ kj57 =>
                        have H := HA.out
                        clear HA
                        simp only [spec_Fold.j4] at H
                        by_cases c60 : x70_57 = true
                        · subst c60
                          have H1 : (some 105) = some r := by rw [if_pos rfl] at H; exact H
                          clear H
                          have H := H1
                          clear H1
                          obtain rfl := Option.some.inj H
                          go_wp2
                          go_ret
                          exact ⟨by first | rfl | (simp; done) | (simp [*]; done), by repeat (first | exact Drawn0.refl _ | apply Drawn0.step)⟩
                        · replace c60 := Bool.eq_false_iff.mpr c60
                          subst c60
                          have H1 : (if x0_1 = 241 then (some 110) else (if x0_1 ≥ 242 then (if x0_1 ≤ 246 then (spec_Fold.j5 kj57 x0_1 true) else (spec_Fold.j5 kj57 x0_1 (x0_1 == 248))) else (spec_Fold.j5 kj57 x0_1 (x0_1 == 248)))) = some r := by rw [if_neg (show ¬ (false = true) by decide)] at H; exact H
                          clear H
                          have H := H1
                          clear H1
                          by_cases c61 : x0_1 = 241
                          · rw [if_pos c61] at H
                            have c61b0 : (x0_1 == 241) = true := beq_iff_eq.mpr c61
                            have c61b1 : (x0_1 != 241) = false := bne_eq_false_iff_eq.mpr c61
                            clear c61
                            obtain rfl := Option.some.inj H
                            go_wp2
                            go_ret
                            exact ⟨by first | rfl | (simp; done) | (simp [*]; done), by repeat (first | exact Drawn0.refl _ | apply Drawn0.step)⟩
                          · rw [if_neg c61] at H
                            have c61b0 : (x0_1 == 241) = false := beq_eq_false_iff_ne.mpr c61
                            have c61b1 : (x0_1 != 241) = true := bne_iff_ne.mpr c61
                            have HC62 := Aside0.mk H
                            clear H
                            go_upto_region 15 with (fail)
                            go_cut [80] (fun v80 wc => ∃ (kq : Nat) (x80_61 : Bool), v80 = .bool x80_61 ∧ Aside0 (spec_Fold.j5 kq x0_1 x80_61 = some r) ∧ Aside0 (kq ≤ kj57) ∧ Drawn0 w wc)
                            case first =>
                              have H := HC62.out
                              clear HC62
                              by_cases c63 : x0_1 ≥ 242
                              · rw [if_pos c63] at H
                                have c63b0 : decide (242 ≤ x0_1) = true := decide_eq_true c63
                                clear c63
                                (first | rw [c63b0] | (simp only [i64_w, i32_w]; rw [c63b0]) | skip)
                                by_cases c64 : x0_1 ≤ 246
                                · rw [if_pos c64] at H
                                  have c64b0 : decide (x0_1 ≤ 246) = true := decide_eq_true c64
                                  clear c64
                                  have H' := Aside0.mk H
                                  clear H
                                  go_wp2
                                  go_meet
                                  case rel => exact ⟨_, (true), (by first | rfl | (simp; done) | (simp [*]; done)), H', ⟨by have := HJ1.out; have := HJ50.out; have := HJ54.out; have := HJ57.out; first | omega | exact Nat.le_refl _⟩, by repeat (first | exact Drawn0.refl _ | apply Drawn0.step)⟩
                                · rw [if_neg c64] at H
                                  have c64b0 : decide (x0_1 ≤ 246) = false := decide_eq_false c64
                                  clear c64
                                  have H' := Aside0.mk H
                                  clear H
                                  go_wp2
                                  go_meet
                                  case rel => exact ⟨_, ((x0_1 == 248)), (by first | rfl | (simp; done) | (simp [*]; done)), H', ⟨by have := HJ1.out; have := HJ50.out; have := HJ54.out; have := HJ57.out; first | omega | exact Nat.le_refl _⟩, by repeat (first | exact Drawn0.refl _ | apply Drawn0.step)⟩
                              · rw [if_neg c63] at H
                                have c63b0 : decide (242 ≤ x0_1) = false := decide_eq_false c63
                                clear c63
                                (first | rw [c63b0] | (simp only [i64_w, i32_w]; rw [c63b0]) | skip)
                                have H' := Aside0.mk H
                                clear H
                                go_wp2
                                go_meet
                                case rel => exact ⟨_, ((x0_1 == 248)), (by first | rfl | (simp; done) | (simp [*]; done)), H', ⟨by have := HJ1.out; have := HJ50.out; have := HJ54.out; have := HJ57.out; first | omega | exact Nat.le_refl _⟩, by repeat (first | exact Drawn0.refl _ | apply Drawn0.step)⟩
                            case rest =>
                              clear HC62
                              try clear c1
                              try clear c2
                              try clear p2
                              try clear c3
                              try clear c4
                              try clear c4b0
                              try clear c5
                              try clear c5b0
                              try clear c6
                              try clear c6b0
                              try clear p6
                              try clear c7
                              try clear c7b0
                              try clear c8
                              try clear c8b0
                              try clear c8b1
                              try clear c9
                              try clear c9b0
                              try clear c10
                              try clear c10b0
                              try clear c11
                              try clear c11b0
                              try clear c11b1
                              try clear c12
                              try clear c12b0
                              try clear c13
                              try clear c13b0
                              try clear c14
                              try clear c14b0
                              try clear c15
                              try clear c15b0
                              try clear c16
                              try clear c16b0
                              try clear c17
                              try clear c17b0
                              try clear c17b1
                              try clear c18
                              try clear c18b0
                              try clear c19
                              try clear c19b0
                              try clear c20
                              try clear c20b0
                              try clear c21
                              try clear c21b0
                              try clear c22
                              try clear c22b0
                              try clear c23
                              try clear c23b0
                              try clear c23b1
                              try clear c24
                              try clear c24b0
                              try clear c25
                              try clear c25b0
                              try clear c26
                              try clear c26b0
                              try clear c27
                              try clear c27b0
                              try clear c28
                              try clear c28b0
                              try clear c29
                              try clear c29b0
                              try clear c29b1
                              try clear c30
                              try clear c30b0
                              try clear c31
                              try clear c31b0
                              try clear c32
                              try clear c32b0
                              try clear c32b1
                              try clear c33
                              try clear c33b0
                              try clear c34
                              try clear c34b0
                              try clear c35
                              try clear c35b0
                              try clear c36
                              try clear c36b0
                              try clear c37
                              try clear c37b0
                              try clear c38
                              try clear c38b0
                              try clear c38b1
                              try clear c39
                              try clear c39b0
                              try clear c40
                              try clear c40b0
                              try clear c41
                              try clear c41b0
                              try clear c42
                              try clear c42b0
                              try clear c43
                              try clear c43b0
                              try clear c44
                              try clear c44b0
                              try clear c44b1
                              try clear c45
                              try clear c45b0
                              try clear c46
                              try clear c46b0
                              try clear c47
                              try clear c47b0
                              try clear c48
                              try clear c49
                              try clear c49b0
                              try clear c50
                              try clear c50b0
                              try clear c52
                              try clear c52b0
                              try clear c53
                              try clear c54
                              try clear c54b0
                              try clear c54b1
                              try clear c56
                              try clear c56b0
                              try clear c57
                              try clear c59
                              try clear c59b0
                              try clear c60
                              try clear c61
                              try clear c61b0
                              try clear c61b1
                              try clear c63
                              try clear c63b0
                              try clear c64
                              try clear c64b0
                              try clear p2
                              try clear p6
                              obtain ⟨kq, x80_61, rfl, HA, HJ61, ⟨mc61, rfl⟩⟩ := hcut
                              cases kq with
                              | zero => exact absurd HA.out (by simp [spec_Fold.j5])
                              | succ kj61 =>
                                have H := HA.out
                                clear HA
                                simp only [spec_Fold.j5] at H
                                by_cases c65 : x80_61 = true
                                · subst c65
                                  have H1 : (some 111) = some r := by rw [if_pos rfl] at H; exact H
                                  clear H
                                  have H := H1
                                  clear H1
                                  obtain rfl := Option.some.inj H
                                  go_wp2
                                  go_ret
                                  exact ⟨by first | rfl | (simp; done) | (simp [*]; done), by repeat (first | exact Drawn0.refl _ | apply Drawn0.step)⟩
                                · replace c65 := Bool.eq_false_iff.mpr c65
                                  subst c65
                                  have H1 : (if x0_1 ≥ 249 then (spec_Fold.j6 kj61 x0_1 (decide (x0_1 ≤ 252))) else (spec_Fold.j6 kj61 x0_1 false)) = some r := by rw [if_neg (show ¬ (false = true) by decide)] at H; exact H
                                  clear H
                                  have H := H1
                                  clear H1
                                  have HC66 := Aside0.mk H
                                  clear H
                                  go_upto_region 17 with (fail)
                                  go_cut [91] (fun v91 wc => ∃ (kq : Nat) (x91_65 : Bool), v91 = .bool x91_65 ∧ Aside0 (spec_Fold.j6 kq x0_1 x91_65 = some r) ∧ Aside0 (kq ≤ kj61) ∧ Drawn0 w wc)
                                  case first =>
                                    have H := HC66.out
                                    clear HC66
                                    by_cases c67 : x0_1 ≥ 249
                                    · rw [if_pos c67] at H
                                      have c67b0 : decide (249 ≤ x0_1) = true := decide_eq_true c67
                                      clear c67
                                      (first | rw [c67b0] | (simp only [i64_w, i32_w]; rw [c67b0]) | skip)
                                      have H' := Aside0.mk H
                                      clear H
                                      go_wp2
                                      go_meet
                                      case rel => exact ⟨_, (decide (x0_1 ≤ 252)), (by first | rfl | (simp; done) | (simp [*]; done)), H', ⟨by have := HJ1.out; have := HJ50.out; have := HJ54.out; have := HJ57.out; have := HJ61.out; first | omega | exact Nat.le_refl _⟩, by repeat (first | exact Drawn0.refl _ | apply Drawn0.step)⟩
                                    · rw [if_neg c67] at H
                                      have c67b0 : decide (249 ≤ x0_1) = false := decide_eq_false c67
                                      clear c67
                                      (first | rw [c67b0] | (simp only [i64_w, i32_w]; rw [c67b0]) | skip)
                                      have H' := Aside0.mk H
                                      clear H
                                      go_wp2
                                      go_meet
                                      case rel => exact ⟨_, (false), (by first | rfl | (simp; done) | (simp [*]; done)), H', ⟨by have := HJ1.out; have := HJ50.out; have := HJ54.out; have := HJ57.out; have := HJ61.out; first | omega | exact Nat.le_refl _⟩, by repeat (first | exact Drawn0.refl _ | apply Drawn0.step)⟩
                                  case rest =>
                                    clear HC66
                                    try clear c1
                                    try clear c2
                                    try clear p2
                                    try clear c3
                                    try clear c4
                                    try clear c4b0
                                    try clear c5
                                    try clear c5b0
                                    try clear c6
                                    try clear c6b0
                                    try clear p6
                                    try clear c7
                                    try clear c7b0
                                    try clear c8
                                    try clear c8b0
                                    try clear c8b1
                                    try clear c9
                                    try clear c9b0
                                    try clear c10
                                    try clear c10b0
                                    try clear c11
                                    try clear c11b0
                                    try clear c11b1
                                    try clear c12
                                    try clear c12b0
                                    try clear c13
                                    try clear c13b0
                                    try clear c14
                                    try clear c14b0
                                    try clear c15
                                    try clear c15b0
                                    try clear c16
                                    try clear c16b0
                                    try clear c17
                                    try clear c17b0
                                    try clear c17b1
                                    try clear c18
                                    try clear c18b0
                                    try clear c19
                                    try clear c19b0
                                    try clear c20
                                    try clear c20b0
                                    try clear c21
                                    try clear c21b0
                                    try clear c22
                                    try clear c22b0
                                    try clear c23
                                    try clear c23b0
                                    try clear c23b1
                                    try clear c24
                                    try clear c24b0
                                    try clear c25
                                    try clear c25b0
                                    try clear c26
                                    try clear c26b0
                                    try clear c27
                                    try clear c27b0
                                    try clear c28
                                    try clear c28b0
                                    try clear c29
                                    try clear c29b0
                                    try clear c29b1
                                    try clear c30
                                    try clear c30b0
                                    try clear c31
                                    try clear c31b0
                                    try clear c32
                                    try clear c32b0
                                    try clear c32b1
                                    try clear c33
                                    try clear c33b0
                                    try clear c34
                                    try clear c34b0
                                    try clear c35
                                    try clear c35b0
                                    try clear c36
                                    try clear c36b0
                                    try clear c37
                                    try clear c37b0
                                    try clear c38
                                    try clear c38b0
                                    try clear c38b1
                                    try clear c39
                                    try clear c39b0
                                    try clear c40
                                    try clear c40b0
                                    try clear c41
                                    try clear c41b0
                                    try clear c42
                                    try clear c42b0
                                    try clear c43
                                    try clear c43b0
                                    try clear c44
                                    try clear c44b0
                                    try clear c44b1
                                    try clear c45
                                    try clear c45b0
                                    try clear c46
                                    try clear c46b0
                                    try clear c47
                                    try clear c47b0
                                    try clear c48
                                    try clear c49
                                    try clear c49b0
                                    try clear c50
                                    try clear c50b0
                                    try clear c52
                                    try clear c52b0
                                    try clear c53
                                    try clear c54
                                    try clear c54b0
                                    try clear c54b1
                                    try clear c56
                                    try clear c56b0
                                    try clear c57
                                    try clear c59
                                    try clear c59b0
                                    try clear c60
                                    try clear c61
                                    try clear c61b0
                                    try clear c61b1
                                    try clear c63
                                    try clear c63b0
                                    try clear c64
                                    try clear c64b0
                                    try clear c65
                                    try clear c67
                                    try clear c67b0
                                    try clear p2
                                    try clear p6
                                    obtain ⟨kq, x91_65, rfl, HA, HJ65, ⟨mc65, rfl⟩⟩ := hcut
                                    cases kq with
                                    | zero => exact absurd HA.out (by simp [spec_Fold.j6])
                                    | succ kj65 =>
                                      have H := HA.out
                                      clear HA
                                      simp only [spec_Fold.j6] at H
                                      by_cases c68 : x91_65 = true
                                      · subst c68
                                        have H1 : (some 117) = some r := by rw [if_pos rfl] at H; exact H
                                        clear H
                                        have H := H1
                                        clear H1
                                        obtain rfl := Option.some.inj H
                                        go_wp2
                                        go_ret
                                        exact ⟨by first | rfl | (simp; done) | (simp [*]; done), by repeat (first | exact Drawn0.refl _ | apply Drawn0.step)⟩
                                      · replace c68 := Bool.eq_false_iff.mpr c68
                                        subst c68
                                        have H1 : (if x0_1 = 253 then (some 121) else (if x0_1 = 255 then (some 121) else (some x0_1))) = some r := by rw [if_neg (show ¬ (false = true) by decide)] at H; exact H
                                        clear H
                                        have H := H1
                                        clear H1
                                        by_cases c69 : x0_1 = 253
                                        · rw [if_pos c69] at H
                                          have c69b0 : (x0_1 == 253) = true := beq_iff_eq.mpr c69
                                          have c69b1 : (x0_1 != 253) = false := bne_eq_false_iff_eq.mpr c69
                                          clear c69
                                          obtain rfl := Option.some.inj H
                                          go_wp2
                                          go_ret
                                          exact ⟨by first | rfl | (simp; done) | (simp [*]; done), by repeat (first | exact Drawn0.refl _ | apply Drawn0.step)⟩
                                        · rw [if_neg c69] at H
                                          have c69b0 : (x0_1 == 253) = false := beq_eq_false_iff_ne.mpr c69
                                          have c69b1 : (x0_1 != 253) = true := bne_iff_ne.mpr c69
                                          by_cases c70 : x0_1 = 255
                                          · rw [if_pos c70] at H
                                            have c70b0 : (x0_1 == 255) = true := beq_iff_eq.mpr c70
                                            have c70b1 : (x0_1 != 255) = false := bne_eq_false_iff_eq.mpr c70
                                            clear c70
                                            obtain rfl := Option.some.inj H
                                            go_wp2
                                            go_ret
                                            exact ⟨by first | rfl | (simp; done) | (simp [*]; done), by repeat (first | exact Drawn0.refl _ | apply Drawn0.step)⟩
                                          · rw [if_neg c70] at H
                                            have c70b0 : (x0_1 == 255) = false := beq_eq_false_iff_ne.mpr c70
                                            have c70b1 : (x0_1 != 255) = true := bne_iff_ne.mpr c70
                                            obtain rfl := Option.some.inj H
                                            go_wp2
                                            go_ret
                                            exact ⟨by first | rfl | (simp; done) | (simp [*]; done), by repeat (first | exact Drawn0.refl _ | apply Drawn0.step)⟩

end Go.Proofs.YtcokeankiedfcaaDoor.XFnExactFoldText
