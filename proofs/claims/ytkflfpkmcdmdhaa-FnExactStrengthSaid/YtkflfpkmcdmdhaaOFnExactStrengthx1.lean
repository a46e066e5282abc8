/- The functions that the law FnExactStrength uses, each with a Lean function of the same answers: begun from what the kit's printer wrote, turned where that text fell. -/
import Derived.Test.YtkflfpkmcdmdhaaOFnExactStrengthx0
namespace Go.Proofs.Ytkflfpkmcdmdhaa.OFnExactStrength
open Go.RowKit Go.Proofs.YtkflfpkmcdmdhaaW.PrintWords Go.Proofs.YtkflfpkmcdmdhaaW.PrintLast Go.Proofs.YtkflfpkmcdmdhaaW.PrintMore
attribute [local go_sem] max2_int min2_int max_two min_two max_three min_three max_four min_four   -- for this text's walks alone
set_option linter.unusedVariables false
set_option linter.unusedSimpArgs false

/-! ### spec_Strength: function 15 -/
def spec_Strength.j0 : Nat → Int → Int → Int → Int → Bool → Option (Int)
  | 0, _, _, _, _, _ => none
  | k + 1, x0, x1, x2, x3, x43 => if x43 = true then (some 0) else (if x3 > 0 then (if x3 = 0 then (none) else (if (wrap64 ((wrap64 ((wrap64 (1000 * x0)) + 300)) + (wrap64 (Int.tdiv (wrap64 ((wrap64 (900 * x1)) * x2)) x3)))) = 0 then (none) else (some (wrap64 (Int.tdiv (wrap64 (2200000 * x0)) (wrap64 ((wrap64 ((wrap64 (1000 * x0)) + 300)) + (wrap64 (Int.tdiv (wrap64 ((wrap64 (900 * x1)) * x2)) x3))))))))) else (if (wrap64 ((wrap64 (1000 * x0)) + 300)) = 0 then (none) else (some (wrap64 (Int.tdiv (wrap64 (2200000 * x0)) (wrap64 ((wrap64 (1000 * x0)) + 300)))))))
def spec_Strength.f (k : Nat) (a0 : Int) (a1 : Int) (a2 : Int) (a3 : Int) : Option (Int) := if a0 < 1 then (spec_Strength.j0 k a0 a1 a2 a3 true) else (if a0 > 33554432 then (spec_Strength.j0 k a0 a1 a2 a3 true) else (if a1 < 0 then (spec_Strength.j0 k a0 a1 a2 a3 true) else (if a1 > 33554432 then (spec_Strength.j0 k a0 a1 a2 a3 true) else (if a3 < 0 then (spec_Strength.j0 k a0 a1 a2 a3 true) else (if a3 > 33554432 then (spec_Strength.j0 k a0 a1 a2 a3 true) else (if a2 < 0 then (spec_Strength.j0 k a0 a1 a2 a3 true) else (spec_Strength.j0 k a0 a1 a2 a3 (decide (a2 > 512)))))))))
theorem spec_Strength.mono_l : ∀ k, (∀ y0 y1 y2 y3 y4, LeO (spec_Strength.j0 k y0 y1 y2 y3 y4) (spec_Strength.j0 (k + 1) y0 y1 y2 y3 y4))
  | 0 => fun _ _ _ _ _ r h => by simp [spec_Strength.j0] at h
  | k + 1 => by
    have ih0 := spec_Strength.mono_l k
    · intro y0 y1 y2 y3 y4
      unfold spec_Strength.j0
      repeat' first
      | (with_reducible exact ih0 _ _ _ _ _)
      | (with_reducible exact LeO.refl _)
      | (with_reducible exact LeO.none _)
      | (with_reducible refine LeO.ite ?_ ?_)
      | (with_reducible refine LeO.bind ?_ (fun _ => ?_))
      | exact ih0 _ _ _ _ _
      | exact LeO.none _
      | refine LeO.ite ?_ ?_
      | refine LeO.bind ?_ (fun _ => ?_)
theorem spec_Strength.mono : ∀ a0 a1 a2 a3 k, LeO (spec_Strength.f k a0 a1 a2 a3) (spec_Strength.f (k + 1) a0 a1 a2 a3) := by
  intro a0 a1 a2 a3 k
  have ih0 := spec_Strength.mono_l k
  unfold spec_Strength.f
  repeat' first
      | (with_reducible exact ih0 _ _ _ _ _)
      | (with_reducible exact LeO.refl _)
      | (with_reducible exact LeO.none _)
      | (with_reducible refine LeO.ite ?_ ?_)
      | (with_reducible refine LeO.bind ?_ (fun _ => ?_))
      | exact ih0 _ _ _ _ _
      | exact LeO.none _
      | refine LeO.ite ?_ ?_
      | refine LeO.bind ?_ (fun _ => ?_)
set_option maxHeartbeats 8000000 in
set_option maxRecDepth 100000 in
theorem spec_Strength.calls (k : Nat) (a0 : Int) (a1 : Int) (a2 : Int) (a3 : Int) (r : Int) (w : World) (h : spec_Strength.f k a0 a1 a2 a3 = some r) :
    Calls Try.prog 15 #[.int .i64 a0, .int .i64 a1, .int .i64 a2, .int .i64 a3] w fun e w' => e = .returned (.int .i64 r) ∧ Drawn0 w w' := by
  have H : (if a0 < 1 then (spec_Strength.j0 k a0 a1 a2 a3 true) else (if a0 > 33554432 then (spec_Strength.j0 k a0 a1 a2 a3 true) else (if a1 < 0 then (spec_Strength.j0 k a0 a1 a2 a3 true) else (if a1 > 33554432 then (spec_Strength.j0 k a0 a1 a2 a3 true) else (if a3 < 0 then (spec_Strength.j0 k a0 a1 a2 a3 true) else (if a3 > 33554432 then (spec_Strength.j0 k a0 a1 a2 a3 true) else (if a2 < 0 then (spec_Strength.j0 k a0 a1 a2 a3 true) else (spec_Strength.j0 k a0 a1 a2 a3 (decide (a2 > 512)))))))))) = some r := h
  clear h
  have HC5 := Aside0.mk H
  clear H
  go_enter Try.func15, Try.ntmps15
  go_upto_region 2 with (fail)
  go_cut [43] (fun v43 wc => ∃ (kq : Nat) (x43_4 : Bool), v43 = .bool x43_4 ∧ Aside0 (spec_Strength.j0 kq a0 a1 a2 a3 x43_4 = some r) ∧ Aside0 (kq ≤ k) ∧ Drawn0 w wc)
  case first =>
    have H := HC5.out
    clear HC5
    by_cases c6 : a0 < 1
    · rw [if_pos c6] at H
      have c6b0 : decide (a0 < 1) = true := decide_eq_true c6
      clear c6
      (first | rw [c6b0] | (simp only [i64_w, i32_w]; rw [c6b0]) | skip)
      have H' := Aside0.mk H
      clear H
      go_wp2
      go_meet
      case rel => exact ⟨_, (true), (by first | rfl | (simp; done) | (simp [*]; done)), H', ⟨by first | omega | exact Nat.le_refl _⟩, by repeat (first | exact Drawn0.refl _ | apply Drawn0.step)⟩
    · rw [if_neg c6] at H
      have c6b0 : decide (a0 < 1) = false := decide_eq_false c6
      clear c6
      (first | rw [c6b0] | (simp only [i64_w, i32_w]; rw [c6b0]) | skip)
      by_cases c7 : a0 > 33554432
      · rw [if_pos c7] at H
        have c7b0 : decide (33554432 < a0) = true := decide_eq_true c7
        clear c7
        have H' := Aside0.mk H
        clear H
        go_wp2
        go_meet
        case rel => exact ⟨_, (true), (by first | rfl | (simp; done) | (simp [*]; done)), H', ⟨by first | omega | exact Nat.le_refl _⟩, by repeat (first | exact Drawn0.refl _ | apply Drawn0.step)⟩
      · rw [if_neg c7] at H
        have c7b0 : decide (33554432 < a0) = false := decide_eq_false c7
        clear c7
        by_cases c8 : a1 < 0
        · rw [if_pos c8] at H
          have c8b0 : decide (a1 < 0) = true := decide_eq_true c8
          clear c8
          have H' := Aside0.mk H
          clear H
          go_wp2
          go_meet
          case rel => exact ⟨_, (true), (by first | rfl | (simp; done) | (simp [*]; done)), H', ⟨by first | omega | exact Nat.le_refl _⟩, by repeat (first | exact Drawn0.refl _ | apply Drawn0.step)⟩
        · rw [if_neg c8] at H
          have c8b0 : decide (a1 < 0) = false := decide_eq_false c8
          clear c8
          by_cases c9 : a1 > 33554432
          · rw [if_pos c9] at H
            have c9b0 : decide (33554432 < a1) = true := decide_eq_true c9
            clear c9
            have H' := Aside0.mk H
            clear H
            go_wp2
            go_meet
            case rel => exact ⟨_, (true), (by first | rfl | (simp; done) | (simp [*]; done)), H', ⟨by first | omega | exact Nat.le_refl _⟩, by repeat (first | exact Drawn0.refl _ | apply Drawn0.step)⟩
          · rw [if_neg c9] at H
            have c9b0 : decide (33554432 < a1) = false := decide_eq_false c9
            clear c9
            by_cases c10 : a3 < 0
            · rw [if_pos c10] at H
              have c10b0 : decide (a3 < 0) = true := decide_eq_true c10
              clear c10
              have H' := Aside0.mk H
              clear H
              go_wp2
              go_meet
              case rel => exact ⟨_, (true), (by first | rfl | (simp; done) | (simp [*]; done)), H', ⟨by first | omega | exact Nat.le_refl _⟩, by repeat (first | exact Drawn0.refl _ | apply Drawn0.step)⟩
            · rw [if_neg c10] at H
              have c10b0 : decide (a3 < 0) = false := decide_eq_false c10
              clear c10
              by_cases c11 : a3 > 33554432
              · rw [if_pos c11] at H
                have c11b0 : decide (33554432 < a3) = true := decide_eq_true c11
                clear c11
                have H' := Aside0.mk H
                clear H
                go_wp2
                go_meet
                case rel => exact ⟨_, (true), (by first | rfl | (simp; done) | (simp [*]; done)), H', ⟨by first | omega | exact Nat.le_refl _⟩, by repeat (first | exact Drawn0.refl _ | apply Drawn0.step)⟩
              · rw [if_neg c11] at H
                have c11b0 : decide (33554432 < a3) = false := decide_eq_false c11
                clear c11
                by_cases c12 : a2 < 0
                · rw [if_pos c12] at H
                  have c12b0 : decide (a2 < 0) = true := decide_eq_true c12
                  clear c12
                  have H' := Aside0.mk H
                  clear H
                  go_wp2
                  go_meet
                  case rel => exact ⟨_, (true), (by first | rfl | (simp; done) | (simp [*]; done)), H', ⟨by first | omega | exact Nat.le_refl _⟩, by repeat (first | exact Drawn0.refl _ | apply Drawn0.step)⟩
                · rw [if_neg c12] at H
                  have c12b0 : decide (a2 < 0) = false := decide_eq_false c12
                  clear c12
                  have H' := Aside0.mk H
                  clear H
                  go_wp2
                  go_meet
                  case rel => exact ⟨_, (decide (a2 > 512)), (by first | rfl | (simp; done) | (simp [*]; done)), H', ⟨by first | omega | exact Nat.le_refl _⟩, by repeat (first | exact Drawn0.refl _ | apply Drawn0.step)⟩
  case rest =>
    clear HC5
    try clear c1
    try clear p2
    try clear c6
    try clear c6b0
    try clear c7
    try clear c7b0
    try clear c8
    try clear c8b0
    try clear c9
    try clear c9b0
    try clear c10
    try clear c10b0
    try clear c11
    try clear c11b0
    try clear c12
    try clear c12b0
    obtain ⟨kq, x43_4, rfl, HA, HJ4, ⟨mc4, rfl⟩⟩ := hcut
    cases kq with
    | zero => exact absurd HA.out (by simp [spec_Strength.j0])
    | succ kj4 =>
      have H := HA.out
      clear HA
      simp only [spec_Strength.j0] at H
      by_cases c13 : x43_4 = true
      · subst c13
        have H1 : (some 0) = some r := by rw [if_pos rfl] at H; exact H
        clear H
        have H := H1
        clear H1
        obtain rfl := Option.some.inj H
        go_wp2
        go_ret
        exact ⟨by first | rfl | (simp; done) | (simp [*]; done), by repeat (first | exact Drawn0.refl _ | apply Drawn0.step)⟩
      · replace c13 := Bool.eq_false_iff.mpr c13
        subst c13
        have H1 : (if a3 > 0 then (if a3 = 0 then (none) else (if (wrap64 ((wrap64 ((wrap64 (1000 * a0)) + 300)) + (wrap64 (Int.tdiv (wrap64 ((wrap64 (900 * a1)) * a2)) a3)))) = 0 then (none) else (some (wrap64 (Int.tdiv (wrap64 (2200000 * a0)) (wrap64 ((wrap64 ((wrap64 (1000 * a0)) + 300)) + (wrap64 (Int.tdiv (wrap64 ((wrap64 (900 * a1)) * a2)) a3))))))))) else (if (wrap64 ((wrap64 (1000 * a0)) + 300)) = 0 then (none) else (some (wrap64 (Int.tdiv (wrap64 (2200000 * a0)) (wrap64 ((wrap64 (1000 * a0)) + 300))))))) = some r := by rw [if_neg (show ¬ (false = true) by decide)] at H; exact H
        clear H
        have H := H1
        clear H1
        by_cases c14 : a3 > 0
        · rw [if_pos c14] at H
          have c14b0 : decide (0 < a3) = true := decide_eq_true c14
          clear c14
          by_cases c15 : a3 = 0
          · rw [if_pos c15] at H
            exact absurd H (by simp)
          · rw [if_neg c15] at H
            have c15b0 : (a3 == 0) = false := beq_eq_false_iff_ne.mpr c15
            have c15b1 : (a3 != 0) = true := bne_iff_ne.mpr c15
            by_cases c16 : (wrap64 ((wrap64 ((wrap64 (1000 * a0)) + 300)) + (wrap64 (Int.tdiv (wrap64 ((wrap64 (900 * a1)) * a2)) a3)))) = 0
            · rw [if_pos c16] at H
              exact absurd H (by simp)
            · rw [if_neg c16] at H
              have c16b0 : ((wrap64 ((wrap64 ((wrap64 (1000 * a0)) + 300)) + (wrap64 (Int.tdiv (wrap64 ((wrap64 (900 * a1)) * a2)) a3)))) == 0) = false := beq_eq_false_iff_ne.mpr c16
              have c16b1 : ((wrap64 ((wrap64 ((wrap64 (1000 * a0)) + 300)) + (wrap64 (Int.tdiv (wrap64 ((wrap64 (900 * a1)) * a2)) a3)))) != 0) = true := bne_iff_ne.mpr c16
              obtain rfl := Option.some.inj H
              go_wp2
              go_ret
              exact ⟨by first | rfl | (simp; done) | (simp [*]; done), by repeat (first | exact Drawn0.refl _ | apply Drawn0.step)⟩
        · rw [if_neg c14] at H
          have c14b0 : decide (0 < a3) = false := decide_eq_false c14
          clear c14
          by_cases c17 : (wrap64 ((wrap64 (1000 * a0)) + 300)) = 0
          · rw [if_pos c17] at H
            exact absurd H (by simp)
          · rw [if_neg c17] at H
            have c17b0 : ((wrap64 ((wrap64 (1000 * a0)) + 300)) == 0) = false := beq_eq_false_iff_ne.mpr c17
            have c17b1 : ((wrap64 ((wrap64 (1000 * a0)) + 300)) != 0) = true := bne_iff_ne.mpr c17
            obtain rfl := Option.some.inj H
            go_wp2
            go_ret
            exact ⟨by first | rfl | (simp; done) | (simp [*]; done), by repeat (first | exact Drawn0.refl _ | apply Drawn0.step)⟩

/-! ### impl_within: function 49 -/
def impl_within.f (a0 : Int) (a1 : Int) (a2 : Int) : Option (Bool) := if a0 ≥ a1 then (some (decide (a0 ≤ a2))) else (some false)
set_option maxHeartbeats 8000000 in
set_option maxRecDepth 100000 in
theorem impl_within.calls (a0 : Int) (a1 : Int) (a2 : Int) (r : Bool) (w : World) (h : impl_within.f a0 a1 a2 = some r) :
    Calls Try.prog 49 #[.int .i64 a0, .int .i64 a1, .int .i64 a2] w fun e w' => e = .returned (.bool r) ∧ Drawn0 w w' := by
  have H : (if a0 ≥ a1 then (some (decide (a0 ≤ a2))) else (some false)) = some r := h
  clear h
  by_cases c4 : a0 ≥ a1
  · rw [if_pos c4] at H
    have c4b0 : decide (a1 ≤ a0) = true := decide_eq_true c4
    clear c4
    obtain rfl := Option.some.inj H
    go_enter Try.func49, Try.ntmps49
    go_wp2
    go_ret
    exact ⟨by first | rfl | (simp; done) | (simp [*]; done), by repeat (first | exact Drawn0.refl _ | apply Drawn0.step)⟩
  · rw [if_neg c4] at H
    have c4b0 : decide (a1 ≤ a0) = false := decide_eq_false c4
    clear c4
    obtain rfl := Option.some.inj H
    go_enter Try.func49, Try.ntmps49
    go_wp2
    go_ret
    exact ⟨by first | rfl | (simp; done) | (simp [*]; done), by repeat (first | exact Drawn0.refl _ | apply Drawn0.step)⟩

/-! ### impl_Strength: function 16 -/
def impl_Strength.j0 : Nat → Int → Int → Int → Int → Bool → Option (Int)
  | 0, _, _, _, _, _ => none
  | k + 1, x0, x1, x2, x3, x27 => if x27 = true then (some 0) else (if x3 > 0 then (if x3 = 0 then (none) else (if (wrap64 ((wrap64 ((wrap64 (1000 * x0)) + 300)) + (wrap64 (Int.tdiv (wrap64 ((wrap64 (900 * x1)) * x2)) x3)))) = 0 then (none) else (some (wrap64 (Int.tdiv (wrap64 (2200000 * x0)) (wrap64 ((wrap64 ((wrap64 (1000 * x0)) + 300)) + (wrap64 (Int.tdiv (wrap64 ((wrap64 (900 * x1)) * x2)) x3))))))))) else (if (wrap64 ((wrap64 ((wrap64 (1000 * x0)) + 300)) + 0)) = 0 then (none) else (some (wrap64 (Int.tdiv (wrap64 (2200000 * x0)) (wrap64 ((wrap64 ((wrap64 (1000 * x0)) + 300)) + 0)))))))
def impl_Strength.f (k : Nat) (a0 : Int) (a1 : Int) (a2 : Int) (a3 : Int) : Option (Int) := (impl_within.f a0 1 33554432).bind fun t101 => (if t101 = true then ((impl_within.f a2 0 512).bind fun t102 => (if t102 = true then ((impl_within.f a1 0 33554432).bind fun t103 => (if t103 = true then ((impl_within.f a3 0 33554432).bind fun t104 => (impl_Strength.j0 k a0 a1 a2 a3 (!t104))) else (impl_Strength.j0 k a0 a1 a2 a3 true))) else (impl_Strength.j0 k a0 a1 a2 a3 true))) else (impl_Strength.j0 k a0 a1 a2 a3 true))
theorem impl_Strength.mono_l : ∀ k, (∀ y0 y1 y2 y3 y4, LeO (impl_Strength.j0 k y0 y1 y2 y3 y4) (impl_Strength.j0 (k + 1) y0 y1 y2 y3 y4))
  | 0 => fun _ _ _ _ _ r h => by simp [impl_Strength.j0] at h
  | k + 1 => by
    have ih0 := impl_Strength.mono_l k
    · intro y0 y1 y2 y3 y4
      unfold impl_Strength.j0
      repeat' first
      | (with_reducible exact ih0 _ _ _ _ _)
      | (with_reducible exact LeO.refl _)
      | (with_reducible exact LeO.none _)
      | (with_reducible refine LeO.ite ?_ ?_)
      | (with_reducible refine LeO.bind ?_ (fun _ => ?_))
      | exact ih0 _ _ _ _ _
      | exact LeO.none _
      | refine LeO.ite ?_ ?_
      | refine LeO.bind ?_ (fun _ => ?_)
theorem impl_Strength.mono : ∀ a0 a1 a2 a3 k, LeO (impl_Strength.f k a0 a1 a2 a3) (impl_Strength.f (k + 1) a0 a1 a2 a3) := by
  intro a0 a1 a2 a3 k
  have ih0 := impl_Strength.mono_l k
  unfold impl_Strength.f
  repeat' first
      | (with_reducible exact ih0 _ _ _ _ _)
      | (with_reducible exact LeO.refl _)
      | (with_reducible exact LeO.none _)
      | (with_reducible refine LeO.ite ?_ ?_)
      | (with_reducible refine LeO.bind ?_ (fun _ => ?_))
      | exact ih0 _ _ _ _ _
      | exact LeO.none _
      | refine LeO.ite ?_ ?_
      | refine LeO.bind ?_ (fun _ => ?_)
set_option maxHeartbeats 8000000 in
set_option maxRecDepth 100000 in
theorem impl_Strength.calls (k : Nat) (a0 : Int) (a1 : Int) (a2 : Int) (a3 : Int) (r : Int) (w : World) (h : impl_Strength.f k a0 a1 a2 a3 = some r) :
    Calls Try.prog 16 #[.int .i64 a0, .int .i64 a1, .int .i64 a2, .int .i64 a3] w fun e w' => e = .returned (.int .i64 r) ∧ Drawn0 w w' := by
  have H : ((impl_within.f a0 1 33554432).bind fun t101 => (if t101 = true then ((impl_within.f a2 0 512).bind fun t102 => (if t102 = true then ((impl_within.f a1 0 33554432).bind fun t103 => (if t103 = true then ((impl_within.f a3 0 33554432).bind fun t104 => (impl_Strength.j0 k a0 a1 a2 a3 (!t104))) else (impl_Strength.j0 k a0 a1 a2 a3 true))) else (impl_Strength.j0 k a0 a1 a2 a3 true))) else (impl_Strength.j0 k a0 a1 a2 a3 true))) = some r := h
  clear h
  have HC5 := Aside0.mk H
  clear H
  go_enter Try.func16, Try.ntmps16
  go_upto_region 1 with (fail)
  go_cut [27] (fun v27 wc => ∃ (kq : Nat) (x27_4 : Bool), v27 = .bool x27_4 ∧ Aside0 (impl_Strength.j0 kq a0 a1 a2 a3 x27_4 = some r) ∧ Aside0 (kq ≤ k) ∧ Drawn0 w wc)
  case first =>
    have H := HC5.out
    clear HC5
    replace H := Option.bind_eq_some_iff.mp H
    obtain ⟨t101, A60, H⟩ := H
    replace H : (if t101 = true then ((impl_within.f a2 0 512).bind fun t102 => (if t102 = true then ((impl_within.f a1 0 33554432).bind fun t103 => (if t103 = true then ((impl_within.f a3 0 33554432).bind fun t104 => (impl_Strength.j0 k a0 a1 a2 a3 (!t104))) else (impl_Strength.j0 k a0 a1 a2 a3 true))) else (impl_Strength.j0 k a0 a1 a2 a3 true))) else (impl_Strength.j0 k a0 a1 a2 a3 true)) = some r := H
    have A6 := Aside0.mk A60
    clear A60
    by_cases c7 : t101 = true
    · subst c7
      have H1 : ((impl_within.f a2 0 512).bind fun t102 => (if t102 = true then ((impl_within.f a1 0 33554432).bind fun t103 => (if t103 = true then ((impl_within.f a3 0 33554432).bind fun t104 => (impl_Strength.j0 k a0 a1 a2 a3 (!t104))) else (impl_Strength.j0 k a0 a1 a2 a3 true))) else (impl_Strength.j0 k a0 a1 a2 a3 true))) = some r := by rw [if_pos rfl] at H; exact H
      clear H
      have H := H1
      clear H1
      replace H := Option.bind_eq_some_iff.mp H
      obtain ⟨t102, A80, H⟩ := H
      replace H : (if t102 = true then ((impl_within.f a1 0 33554432).bind fun t103 => (if t103 = true then ((impl_within.f a3 0 33554432).bind fun t104 => (impl_Strength.j0 k a0 a1 a2 a3 (!t104))) else (impl_Strength.j0 k a0 a1 a2 a3 true))) else (impl_Strength.j0 k a0 a1 a2 a3 true)) = some r := H
      have A8 := Aside0.mk A80
      clear A80
      by_cases c9 : t102 = true
      · subst c9
        have H1 : ((impl_within.f a1 0 33554432).bind fun t103 => (if t103 = true then ((impl_within.f a3 0 33554432).bind fun t104 => (impl_Strength.j0 k a0 a1 a2 a3 (!t104))) else (impl_Strength.j0 k a0 a1 a2 a3 true))) = some r := by rw [if_pos rfl] at H; exact H
        clear H
        have H := H1
        clear H1
        replace H := Option.bind_eq_some_iff.mp H
        obtain ⟨t103, A100, H⟩ := H
        replace H : (if t103 = true then ((impl_within.f a3 0 33554432).bind fun t104 => (impl_Strength.j0 k a0 a1 a2 a3 (!t104))) else (impl_Strength.j0 k a0 a1 a2 a3 true)) = some r := H
        have A10 := Aside0.mk A100
        clear A100
        by_cases c11 : t103 = true
        · subst c11
          have H1 : ((impl_within.f a3 0 33554432).bind fun t104 => (impl_Strength.j0 k a0 a1 a2 a3 (!t104))) = some r := by rw [if_pos rfl] at H; exact H
          clear H
          have H := H1
          clear H1
          replace H := Option.bind_eq_some_iff.mp H
          obtain ⟨t104, A120, H⟩ := H
          replace H : (impl_Strength.j0 k a0 a1 a2 a3 (!t104)) = some r := H
          have A12 := Aside0.mk A120
          clear A120
          have H' := Aside0.mk H
          clear H
          go_wp2_with (first | ((with_reducible refine gate_callee (f := 49) rfl ?_); refine goesL_ (some 11) rfl rfl Try.func49 (by kernel_rfl) rfl #[.int .i64 a0, .int .i64 1, .int .i64 33554432] rfl (by (try simp only [List.map_toArray, List.map_cons, List.map_nil]); first | done | rfl | (simp only [List.length_drop, List.length_take]; rfl)) ?_; (with_reducible refine (impl_within.calls a0 1 33554432 true _ A6.out).mono ?_); rintro e w' ⟨rfl, ⟨nd, rfl⟩⟩; refine ⟨_, rfl, ?_⟩) | (go_at_call 49; (with_reducible refine (impl_within.calls a2 0 512 true _ A8.out).mono ?_); rintro e w' ⟨rfl, ⟨nd, rfl⟩⟩) | (go_at_call 49; (with_reducible refine (impl_within.calls a1 0 33554432 true _ A10.out).mono ?_); rintro e w' ⟨rfl, ⟨nd, rfl⟩⟩) | (go_at_call 49; (with_reducible refine (impl_within.calls a3 0 33554432 t104 _ A12.out).mono ?_); rintro e w' ⟨rfl, ⟨nd, rfl⟩⟩))
          go_meet
          case rel => exact ⟨_, (!t104), (by first | rfl | (simp; done) | (simp [*]; done)), H', ⟨by first | omega | exact Nat.le_refl _⟩, by repeat (first | exact Drawn0.refl _ | apply Drawn0.step)⟩
        · replace c11 := Bool.eq_false_iff.mpr c11
          subst c11
          have H1 : (impl_Strength.j0 k a0 a1 a2 a3 true) = some r := by rw [if_neg (show ¬ (false = true) by decide)] at H; exact H
          clear H
          have H := H1
          clear H1
          have H' := Aside0.mk H
          clear H
          go_wp2_with (first | ((with_reducible refine gate_callee (f := 49) rfl ?_); refine goesL_ (some 11) rfl rfl Try.func49 (by kernel_rfl) rfl #[.int .i64 a0, .int .i64 1, .int .i64 33554432] rfl (by (try simp only [List.map_toArray, List.map_cons, List.map_nil]); first | done | rfl | (simp only [List.length_drop, List.length_take]; rfl)) ?_; (with_reducible refine (impl_within.calls a0 1 33554432 true _ A6.out).mono ?_); rintro e w' ⟨rfl, ⟨nd, rfl⟩⟩; refine ⟨_, rfl, ?_⟩) | (go_at_call 49; (with_reducible refine (impl_within.calls a2 0 512 true _ A8.out).mono ?_); rintro e w' ⟨rfl, ⟨nd, rfl⟩⟩) | (go_at_call 49; (with_reducible refine (impl_within.calls a1 0 33554432 false _ A10.out).mono ?_); rintro e w' ⟨rfl, ⟨nd, rfl⟩⟩))
          go_meet
          case rel => exact ⟨_, (true), (by first | rfl | (simp; done) | (simp [*]; done)), H', ⟨by first | omega | exact Nat.le_refl _⟩, by repeat (first | exact Drawn0.refl _ | apply Drawn0.step)⟩
      · replace c9 := Bool.eq_false_iff.mpr c9
        subst c9
        have H1 : (impl_Strength.j0 k a0 a1 a2 a3 true) = some r := by rw [if_neg (show ¬ (false = true) by decide)] at H; exact H
        clear H
        have H := H1
        clear H1
        have H' := Aside0.mk H
        clear H
        go_wp2_with (first | ((with_reducible refine gate_callee (f := 49) rfl ?_); refine goesL_ (some 11) rfl rfl Try.func49 (by kernel_rfl) rfl #[.int .i64 a0, .int .i64 1, .int .i64 33554432] rfl (by (try simp only [List.map_toArray, List.map_cons, List.map_nil]); first | done | rfl | (simp only [List.length_drop, List.length_take]; rfl)) ?_; (with_reducible refine (impl_within.calls a0 1 33554432 true _ A6.out).mono ?_); rintro e w' ⟨rfl, ⟨nd, rfl⟩⟩; refine ⟨_, rfl, ?_⟩) | (go_at_call 49; (with_reducible refine (impl_within.calls a2 0 512 false _ A8.out).mono ?_); rintro e w' ⟨rfl, ⟨nd, rfl⟩⟩))
        go_meet
        case rel => exact ⟨_, (true), (by first | rfl | (simp; done) | (simp [*]; done)), H', ⟨by first | omega | exact Nat.le_refl _⟩, by repeat (first | exact Drawn0.refl _ | apply Drawn0.step)⟩
    · replace c7 := Bool.eq_false_iff.mpr c7
      subst c7
      have H1 : (impl_Strength.j0 k a0 a1 a2 a3 true) = some r := by rw [if_neg (show ¬ (false = true) by decide)] at H; exact H
      clear H
      have H := H1
      clear H1
      have H' := Aside0.mk H
      clear H
      go_wp2_with (first | ((with_reducible refine gate_callee (f := 49) rfl ?_); refine goesL_ (some 11) rfl rfl Try.func49 (by kernel_rfl) rfl #[.int .i64 a0, .int .i64 1, .int .i64 33554432] rfl (by (try simp only [List.map_toArray, List.map_cons, List.map_nil]); first | done | rfl | (simp only [List.length_drop, List.length_take]; rfl)) ?_; (with_reducible refine (impl_within.calls a0 1 33554432 false _ A6.out).mono ?_); rintro e w' ⟨rfl, ⟨nd, rfl⟩⟩; refine ⟨_, rfl, ?_⟩))
      go_meet
      case rel => exact ⟨_, (true), (by first | rfl | (simp; done) | (simp [*]; done)), H', ⟨by first | omega | exact Nat.le_refl _⟩, by repeat (first | exact Drawn0.refl _ | apply Drawn0.step)⟩
  case rest =>
    clear HC5
    try clear c1
    try clear p2
    try clear c4
    try clear c7
    try clear c9
    try clear c11
    obtain ⟨kq, x27_4, rfl, HA, HJ4, ⟨mc4, rfl⟩⟩ := hcut
    cases kq with
    | zero => exact absurd HA.out (by simp [impl_Strength.j0])
    | succ kj4 =>
      have H := HA.out
      clear HA
      simp only [impl_Strength.j0] at H
      by_cases c13 : x27_4 = true
      · subst c13
        have H1 : (some 0) = some r := by rw [if_pos rfl] at H; exact H
        clear H
        have H := H1
        clear H1
        obtain rfl := Option.some.inj H
        go_wp2
        go_ret
        exact ⟨by first | rfl | (simp; done) | (simp [*]; done), by repeat (first | exact Drawn0.refl _ | apply Drawn0.step)⟩
      · replace c13 := Bool.eq_false_iff.mpr c13
        subst c13
        have H1 : (if a3 > 0 then (if a3 = 0 then (none) else (if (wrap64 ((wrap64 ((wrap64 (1000 * a0)) + 300)) + (wrap64 (Int.tdiv (wrap64 ((wrap64 (900 * a1)) * a2)) a3)))) = 0 then (none) else (some (wrap64 (Int.tdiv (wrap64 (2200000 * a0)) (wrap64 ((wrap64 ((wrap64 (1000 * a0)) + 300)) + (wrap64 (Int.tdiv (wrap64 ((wrap64 (900 * a1)) * a2)) a3))))))))) else (if (wrap64 ((wrap64 ((wrap64 (1000 * a0)) + 300)) + 0)) = 0 then (none) else (some (wrap64 (Int.tdiv (wrap64 (2200000 * a0)) (wrap64 ((wrap64 ((wrap64 (1000 * a0)) + 300)) + 0))))))) = some r := by rw [if_neg (show ¬ (false = true) by decide)] at H; exact H
        clear H
        have H := H1
        clear H1
        by_cases c14 : a3 > 0
        · rw [if_pos c14] at H
          have c14b0 : decide (0 < a3) = true := decide_eq_true c14
          clear c14
          by_cases c15 : a3 = 0
          · rw [if_pos c15] at H
            exact absurd H (by simp)
          · rw [if_neg c15] at H
            have c15b0 : (a3 == 0) = false := beq_eq_false_iff_ne.mpr c15
            have c15b1 : (a3 != 0) = true := bne_iff_ne.mpr c15
            by_cases c16 : (wrap64 ((wrap64 ((wrap64 (1000 * a0)) + 300)) + (wrap64 (Int.tdiv (wrap64 ((wrap64 (900 * a1)) * a2)) a3)))) = 0
            · rw [if_pos c16] at H
              exact absurd H (by simp)
            · rw [if_neg c16] at H
              have c16b0 : ((wrap64 ((wrap64 ((wrap64 (1000 * a0)) + 300)) + (wrap64 (Int.tdiv (wrap64 ((wrap64 (900 * a1)) * a2)) a3)))) == 0) = false := beq_eq_false_iff_ne.mpr c16
              have c16b1 : ((wrap64 ((wrap64 ((wrap64 (1000 * a0)) + 300)) + (wrap64 (Int.tdiv (wrap64 ((wrap64 (900 * a1)) * a2)) a3)))) != 0) = true := bne_iff_ne.mpr c16
              obtain rfl := Option.some.inj H
              go_wp2
              go_ret
              exact ⟨by first | rfl | (simp; done) | (simp [*]; done), by repeat (first | exact Drawn0.refl _ | apply Drawn0.step)⟩
        · rw [if_neg c14] at H
          have c14b0 : decide (0 < a3) = false := decide_eq_false c14
          clear c14
          by_cases c17 : (wrap64 ((wrap64 ((wrap64 (1000 * a0)) + 300)) + 0)) = 0
          · rw [if_pos c17] at H
            exact absurd H (by simp)
          · rw [if_neg c17] at H
            have c17b0 : ((wrap64 ((wrap64 ((wrap64 (1000 * a0)) + 300)) + 0)) == 0) = false := beq_eq_false_iff_ne.mpr c17
            have c17b1 : ((wrap64 ((wrap64 ((wrap64 (1000 * a0)) + 300)) + 0)) != 0) = true := bne_iff_ne.mpr c17
            simp only [Int.add_zero] at c17b0 c17b1 c17
            obtain rfl := Option.some.inj H
            go_wp2
            go_ret
            exact ⟨by first | rfl | (simp; done) | (simp [*]; done), by repeat (first | exact Drawn0.refl _ | apply Drawn0.step)⟩

/-! ### laws_FnExactStrength: function 4 -/
def laws_FnExactStrength.f (k : Nat) (a0 : Int) (a1 : Int) (a2 : Int) (a3 : Int) : Option (Bool) := (spec_Strength.f k a0 a1 a2 a3).bind fun t105 => ((impl_Strength.f k a0 a1 a2 a3).bind fun t106 => (if t106 = t105 then (some true) else (some false)))
theorem laws_FnExactStrength.mono : ∀ a0 a1 a2 a3 k, LeO (laws_FnExactStrength.f k a0 a1 a2 a3) (laws_FnExactStrength.f (k + 1) a0 a1 a2 a3) := by
  intro a0 a1 a2 a3 k
  unfold laws_FnExactStrength.f
  repeat' first
      | (with_reducible exact impl_Strength.mono _ _ _ _ _)
      | (with_reducible exact spec_Strength.mono _ _ _ _ _)
      | (with_reducible exact LeO.refl _)
      | (with_reducible exact LeO.none _)
      | (with_reducible refine LeO.ite ?_ ?_)
      | (with_reducible refine LeO.bind ?_ (fun _ => ?_))
      | exact impl_Strength.mono _ _ _ _ _
      | exact spec_Strength.mono _ _ _ _ _
      | exact LeO.none _
      | refine LeO.ite ?_ ?_
      | refine LeO.bind ?_ (fun _ => ?_)
set_option maxHeartbeats 8000000 in
set_option maxRecDepth 100000 in
theorem laws_FnExactStrength.calls (k : Nat) (a0 : Int) (a1 : Int) (a2 : Int) (a3 : Int) (r : Bool) (w : World) (h : laws_FnExactStrength.f k a0 a1 a2 a3 = some r) :
    Calls Try.prog 4 #[.int .i64 a0, .int .i64 a1, .int .i64 a2, .int .i64 a3] w fun e w' => e = .returned (.bool r) ∧ Drawn0 w w' := by
  have H : ((spec_Strength.f k a0 a1 a2 a3).bind fun t105 => ((impl_Strength.f k a0 a1 a2 a3).bind fun t106 => (if t106 = t105 then (some true) else (some false)))) = some r := h
  clear h
  replace H := Option.bind_eq_some_iff.mp H
  obtain ⟨t105, A50, H⟩ := H
  replace H : ((impl_Strength.f k a0 a1 a2 a3).bind fun t106 => (if t106 = t105 then (some true) else (some false))) = some r := H
  have A5 := Aside0.mk A50
  clear A50
  replace H := Option.bind_eq_some_iff.mp H
  obtain ⟨t106, A60, H⟩ := H
  replace H : (if t106 = t105 then (some true) else (some false)) = some r := H
  have A6 := Aside0.mk A60
  clear A60
  by_cases c7 : t106 = t105
  · rw [if_pos c7] at H
    have c7b0 : (t106 == t105) = true := beq_iff_eq.mpr c7
    have c7b1 : (t106 != t105) = false := bne_eq_false_iff_eq.mpr c7
    clear c7
    obtain rfl := Option.some.inj H
    go_enter Try.func4, Try.ntmps4
    go_wp2_with (first | ((with_reducible refine gate_callee (f := 15) rfl ?_); refine goesL_ (some 15) rfl rfl Try.func15 (by kernel_rfl) rfl #[.int .i64 a0, .int .i64 a1, .int .i64 a2, .int .i64 a3] rfl (by (try simp only [List.map_toArray, List.map_cons, List.map_nil]); first | done | rfl | (simp only [List.length_drop, List.length_take]; rfl)) ?_; (with_reducible refine (spec_Strength.calls k a0 a1 a2 a3 t105 _ A5.out).mono ?_); rintro e w' ⟨rfl, ⟨nd, rfl⟩⟩; refine ⟨_, rfl, ?_⟩) | ((with_reducible refine gate_callee (f := 16) rfl ?_); refine goesL_ (some 20) rfl rfl Try.func16 (by kernel_rfl) rfl #[.int .i64 a0, .int .i64 a1, .int .i64 a2, .int .i64 a3] rfl (by (try simp only [List.map_toArray, List.map_cons, List.map_nil]); first | done | rfl | (simp only [List.length_drop, List.length_take]; rfl)) ?_; (with_reducible refine (impl_Strength.calls k a0 a1 a2 a3 t106 _ A6.out).mono ?_); rintro e w' ⟨rfl, ⟨nd, rfl⟩⟩; refine ⟨_, rfl, ?_⟩))
    go_ret
    exact ⟨by first | rfl | (simp; done) | (simp [*]; done), by repeat (first | exact Drawn0.refl _ | apply Drawn0.step)⟩
  · rw [if_neg c7] at H
    have c7b0 : (t106 == t105) = false := beq_eq_false_iff_ne.mpr c7
    have c7b1 : (t106 != t105) = true := bne_iff_ne.mpr c7
    obtain rfl := Option.some.inj H
    go_enter Try.func4, Try.ntmps4
    go_wp2_with (first | ((with_reducible refine gate_callee (f := 15) rfl ?_); refine goesL_ (some 15) rfl rfl Try.func15 (by kernel_rfl) rfl #[.int .i64 a0, .int .i64 a1, .int .i64 a2, .int .i64 a3] rfl (by (try simp only [List.map_toArray, List.map_cons, List.map_nil]); first | done | rfl | (simp only [List.length_drop, List.length_take]; rfl)) ?_; (with_reducible refine (spec_Strength.calls k a0 a1 a2 a3 t105 _ A5.out).mono ?_); rintro e w' ⟨rfl, ⟨nd, rfl⟩⟩; refine ⟨_, rfl, ?_⟩) | ((with_reducible refine gate_callee (f := 16) rfl ?_); refine goesL_ (some 20) rfl rfl Try.func16 (by kernel_rfl) rfl #[.int .i64 a0, .int .i64 a1, .int .i64 a2, .int .i64 a3] rfl (by (try simp only [List.map_toArray, List.map_cons, List.map_nil]); first | done | rfl | (simp only [List.length_drop, List.length_take]; rfl)) ?_; (with_reducible refine (impl_Strength.calls k a0 a1 a2 a3 t106 _ A6.out).mono ?_); rintro e w' ⟨rfl, ⟨nd, rfl⟩⟩; refine ⟨_, rfl, ?_⟩))
    go_ret
    exact ⟨by first | rfl | (simp; done) | (simp [*]; done), by repeat (first | exact Drawn0.refl _ | apply Drawn0.step)⟩

/-- THE ONE PURE STATEMENT of laws_FnExactStrength: yours. -/
def laws_FnExactStrength.Pure : Prop := ∀ (a0 : Int) (a1 : Int) (a2 : Int) (a3 : Int), (Lit.int .i64 a0).wf = true → (Lit.int .i64 a1).wf = true → (Lit.int .i64 a2).wf = true → (Lit.int .i64 a3).wf = true → ∃ k, laws_FnExactStrength.f k a0 a1 a2 a3 = some true
theorem laws_FnExactStrength.walk (P : laws_FnExactStrength.Pure) (a0 : Int) (a1 : Int) (a2 : Int) (a3 : Int) (w : World) (w0 : (Lit.int .i64 a0).wf = true) (w1 : (Lit.int .i64 a1).wf = true) (w2 : (Lit.int .i64 a2).wf = true) (w3 : (Lit.int .i64 a3).wf = true) :
    Calls Try.prog 4 #[.int .i64 a0, .int .i64 a1, .int .i64 a2, .int .i64 a3] w fun e w' => e = .returned (.bool true) ∧ Below w.heap.size w w' := by
  obtain ⟨k, h⟩ := P a0 a1 a2 a3 w0 w1 w2 w3
  refine (laws_FnExactStrength.calls k a0 a1 a2 a3 true w h).mono ?_
  rintro e w' ⟨rfl, hd⟩
  exact ⟨rfl, hd.below⟩

end Go.Proofs.Ytkflfpkmcdmdhaa.OFnExactStrength
