-- A printed text of this session (wip/x/xprint.py).
import Derived.Test.YtmbgncgcddjomaaDoorXFnExactSchemaOKx0
namespace Go.Proofs.YtmbgncgcddjomaaDoor.XFnExactSchemaOK
open Go.RowKit Go.Proofs.YtmbgncgcddjomaaDoorW.PrintWords Go.Proofs.YtmbgncgcddjomaaDoorW.PrintLast Go.Proofs.YtmbgncgcddjomaaDoorW.PrintMore
attribute [local go_sem] max2_int min2_int max_two min_two max_three min_three max_four min_four   -- for this text's walks alone
set_option linter.unusedVariables false
set_option linter.unusedSimpArgs false

/-! ### spec_l06Name: function 10 -/
mutual
def spec_l06Name.j0 : Nat → ByteArray → Bool → Option (Bool)
 | 0, _, _ => none
 | k + 1, x0, x21 => if x21 = true then (some false) else (spec_l06Name.l0 k x0 0)
def spec_l06Name.l0 : Nat → ByteArray → Int → Option (Bool)
 | 0, _, _ => none
 | k + 1, x0, x3 => if x3 < (x0.size : Int) then (if 0 ≤ x3 then (if (bt x0 x3) < 97 then (if (bt x0 x3) < 48 then (spec_l06Name.j2 k x0 x3 ((bt x0 x3) != 95)) else (if (bt x0 x3) > 57 then (spec_l06Name.j2 k x0 x3 ((bt x0 x3) != 95)) else (spec_l06Name.j2 k x0 x3 false))) else (if (bt x0 x3) > 122 then (if (bt x0 x3) < 48 then (spec_l06Name.j2 k x0 x3 ((bt x0 x3) != 95)) else (if (bt x0 x3) > 57 then (spec_l06Name.j2 k x0 x3 ((bt x0 x3) != 95)) else (spec_l06Name.j2 k x0 x3 false))) else (spec_l06Name.j2 k x0 x3 false))) else (none)) else (some true)
def spec_l06Name.j2 : Nat → ByteArray → Int → Bool → Option (Bool)
 | 0, _, _, _ => none
 | k + 1, x0, x3, x55 => if x55 = true then (some false) else (spec_l06Name.l0 k x0 (wrap64 (x3 + 1)))
end
def spec_l06Name.f (k : Nat) (a0 : ByteArray) : Option (Bool) := if (a0.size : Int) < 1 then (spec_l06Name.j0 k a0 true) else (if (a0.size : Int) > 30 then (spec_l06Name.j0 k a0 true) else (if 0 < (a0.size : Int) then (if (bt a0 0) < 97 then (spec_l06Name.j0 k a0 true) else (spec_l06Name.j0 k a0 (decide ((bt a0 0) > 122)))) else (none)))
theorem spec_l06Name.mono_l : ∀ k, (∀ y0 y1, LeO (spec_l06Name.j0 k y0 y1) (spec_l06Name.j0 (k + 1) y0 y1)) ∧ (∀ y0 y1, LeO (spec_l06Name.l0 k y0 y1) (spec_l06Name.l0 (k + 1) y0 y1)) ∧ (∀ y0 y1 y2, LeO (spec_l06Name.j2 k y0 y1 y2) (spec_l06Name.j2 (k + 1) y0 y1 y2))
 | 0 => ⟨fun _ _ r h => by simp [spec_l06Name.j0] at h, fun _ _ r h => by simp [spec_l06Name.l0] at h, fun _ _ _ r h => by simp [spec_l06Name.j2] at h⟩
 | k + 1 => by
  obtain ⟨ih0, ih1, ih2⟩ := spec_l06Name.mono_l k
  refine ⟨?_, ?_, ?_⟩
  all_goals intros
  all_goals first | unfold spec_l06Name.j0 | unfold spec_l06Name.l0 | unfold spec_l06Name.j2
  all_goals
   repeat' first
   | (with_reducible exact ih0 _ _)
   | (with_reducible exact ih1 _ _)
   | (with_reducible exact ih2 _ _ _)
   | (with_reducible exact LeO.refl _)
   | (with_reducible exact LeO.none _)
   | (with_reducible refine LeO.ite ?_ ?_)
   | (with_reducible refine LeO.bind ?_ (fun _ => ?_))
theorem spec_l06Name.mono : ∀ a0 k, LeO (spec_l06Name.f k a0) (spec_l06Name.f (k + 1) a0) := by
 intro a0 k
 obtain ⟨ih0, ih1, ih2⟩ := spec_l06Name.mono_l k
 unfold spec_l06Name.f
 repeat' first
  | (with_reducible exact ih0 _ _)
  | (with_reducible exact ih1 _ _)
  | (with_reducible exact ih2 _ _ _)
  | (with_reducible exact LeO.refl _)
  | (with_reducible exact LeO.none _)
  | (with_reducible refine LeO.ite ?_ ?_)
  | (with_reducible refine LeO.bind ?_ (fun _ => ?_))
set_option maxHeartbeats 8000000 in
set_option maxRecDepth 100000 in
theorem spec_l06Name.calls (k : Nat) (a0 : ByteArray) (r : Bool) (w : World) (h : spec_l06Name.f k a0 = some r) :
 Calls Tryd.prog 10 #[.string a0] w fun e w' => e = .returned (.bool r) ∧ Drawn0 w w' := by
 have H := h
 unfold spec_l06Name.f at H
 clear h
 have HC2 := Aside0.mk H
 clear H
 go_enter Tryd.func10, Tryd.ntmps10
 go_upto_region 1 with (fail)
 go_cut [21] (fun v21 wc => ∃ (kq : Nat) (x21_1 : Bool), v21 = .bool x21_1 ∧ Aside0 (spec_l06Name.j0 kq a0 x21_1 = some r) ∧ Aside0 (kq ≤ k) ∧ Drawn0 w wc)
 case first =>
  have H := HC2.out
  clear HC2
  by_cases c3 : (a0.size : Int) < 1
  ·rw [if_pos c3] at H
   have c3b0 : decide ((a0.size : Int) < 1) = true := decide_eq_true c3
   have c3b1 : decide (a0.size < 1) = true := decide_eq_true (by omega)
   clear c3
   (first | rw [c3b0] | (simp only [i64_w, i32_w]; rw [c3b0]) | skip)
   have H' := Aside0.mk H
   clear H
   go_wp2
   go_meet
   case rel => exact ⟨_, (true), zrs, H', ⟨by first | omega | exact Nat.le_refl _⟩, by repeat (first | exact Drawn0.refl _ | apply Drawn0.step)⟩
  rw [if_neg c3] at H
  have c3b0 : decide ((a0.size : Int) < 1) = false := decide_eq_false c3
  have c3b1 : decide (a0.size < 1) = false := decide_eq_false (by omega)
  clear c3
  (first | rw [c3b0] | (simp only [i64_w, i32_w]; rw [c3b0]) | skip)
  by_cases c4 : (a0.size : Int) > 30
  ·rw [if_pos c4] at H
   have c4b0 : decide (30 < (a0.size : Int)) = true := decide_eq_true c4
   have c4b1 : decide (30 < a0.size) = true := decide_eq_true (by omega)
   clear c4
   have H' := Aside0.mk H
   clear H
   go_wp2
   go_meet
   case rel => exact ⟨_, (true), zrs, H', ⟨by first | omega | exact Nat.le_refl _⟩, by repeat (first | exact Drawn0.refl _ | apply Drawn0.step)⟩
  rw [if_neg c4] at H
  have c4b0 : decide (30 < (a0.size : Int)) = false := decide_eq_false c4
  have c4b1 : decide (30 < a0.size) = false := decide_eq_false (by omega)
  clear c4
  by_cases c5 : 0 < (a0.size : Int)
  rotate_left
  ·rw [if_neg c5] at H
   exact absurd H (by simp)
  rw [if_pos c5] at H
  have c5b0 : decide (0 < (a0.size : Int)) = true := decide_eq_true c5
  have c5b1 : decide (0 < a0.size) = true := decide_eq_true (by omega)
  clear c5
  by_cases c7 : (bt a0 0) < 97
  ·rw [if_pos c7] at H
   have c7b0 : decide ((bt a0 0) < 97) = true := decide_eq_true c7
   clear c7
   have H' := Aside0.mk H
   clear H
   have p6 : 0 ≤ (0 : Int) := (by omega)
   have q6 : 0 < a0.size := (by have : (0 : Int) < (a0.size : Int) := of_decide_eq_true zas; omega)
   have hx6 : ∀ h : 0 < a0.size, ((a0[0]'h).toNat : Int) = bt a0 0 := bt_at a0 0
   clear p6
   have qi6 : (0 < (a0.size : Int)) = True := eq_true (of_decide_eq_true zas)
   replace q6 := eq_true q6
   go_wp2
   go_meet
   case rel => exact ⟨_, (true), zrs, H', ⟨by first | omega | exact Nat.le_refl _⟩, by repeat (first | exact Drawn0.refl _ | apply Drawn0.step)⟩
  rw [if_neg c7] at H
  have c7b0 : decide ((bt a0 0) < 97) = false := decide_eq_false c7
  clear c7
  have H' := Aside0.mk H
  clear H
  have p6 : 0 ≤ (0 : Int) := (by omega)
  have q6 : 0 < a0.size := (by have : (0 : Int) < (a0.size : Int) := of_decide_eq_true zas; omega)
  have hx6 : ∀ h : 0 < a0.size, ((a0[0]'h).toNat : Int) = bt a0 0 := bt_at a0 0
  clear p6
  have qi6 : (0 < (a0.size : Int)) = True := eq_true (of_decide_eq_true zas)
  replace q6 := eq_true q6
  have p8 : 0 ≤ (0 : Int) := (by omega)
  have q8 : 0 < a0.size := (by have : (0 : Int) < (a0.size : Int) := of_decide_eq_true zas; omega)
  have hx8 : ∀ h : 0 < a0.size, ((a0[0]'h).toNat : Int) = bt a0 0 := bt_at a0 0
  clear p8
  have qi8 : (0 < (a0.size : Int)) = True := eq_true (of_decide_eq_true zas)
  replace q8 := eq_true q8
  go_wp2
  go_meet
  case rel => exact ⟨_, (decide ((bt a0 0) > 122)), zrs, H', ⟨by first | omega | exact Nat.le_refl _⟩, by repeat (first | exact Drawn0.refl _ | apply Drawn0.step)⟩
 case rest =>
  clear HC2
  obtain ⟨kq, x21_1, rfl, HA, HJ1, ⟨mc1, rfl⟩⟩ := hcut
  cases kq with
  | zero => exact absurd HA.out (by simp [spec_l06Name.j0])
  | succ kj1 =>
   have H := HA.out
   clear HA
   simp only [spec_l06Name.j0] at H
   by_cases c9 : x21_1 = true
   ·subst c9
    rw [if_pos rfl] at H
    obtain rfl := Option.some.inj H
    go_wp2
    go_ret
    exact ⟨zrs, by repeat (first | exact Drawn0.refl _ | apply Drawn0.step)⟩
   replace c9 := Bool.eq_false_iff.mpr c9
   subst c9
   rw [if_neg (show ¬ (false = true) by decide)] at H
   have H' := Aside0.mk H
   clear H
   go_wp2
   go_loopg [3] kj1 (fun kq v3 w' => ∃ (x3_2 : Int), v3 = .int .i64 x3_2 ∧ Aside0 (spec_l06Name.l0 kq a0 x3_2 = some r) ∧ Aside0 (kq ≤ kj1) ∧ Drawn0 w w')
   case atStart => exact ⟨(0), zrs, H', ⟨Nat.le_refl _⟩, by repeat (first | exact Drawn0.refl _ | apply Drawn0.step)⟩
   case round =>
    clear H'
    try clear c9
    obtain ⟨x3_2, rfl, HA, HK2, ⟨m2, rfl⟩⟩ := hrel
    cases gk with
    | zero => exact absurd HA.out (by simp [spec_l06Name.l0])
    | succ k2 =>
     have H := HA.out
     clear HA
     simp only [spec_l06Name.l0] at H
     by_cases c10 : x3_2 < (a0.size : Int)
     rotate_left
     ·rw [if_neg c10] at H
      have c10b0 : decide (x3_2 < (a0.size : Int)) = false := decide_eq_false c10
      clear c10
      obtain rfl := Option.some.inj H
      go_wp2
      go_ret
      exact ⟨zrs, by repeat (first | exact Drawn0.refl _ | apply Drawn0.step)⟩

     rw [if_pos c10] at H
     have c10b0 : decide (x3_2 < (a0.size : Int)) = true := decide_eq_true c10
     clear c10
     have HC11 := Aside0.mk H
     clear H
     go_upto_region 6 with (fail)
     go_cut [55] (fun v55 wc => ∃ (kq : Nat) (x55_10 : Bool), v55 = .bool x55_10 ∧ Aside0 (spec_l06Name.j2 kq a0 x3_2 x55_10 = some r) ∧ Aside0 (kq ≤ k2) ∧ Drawn0 w wc)
     case first =>
      have H := HC11.out
      clear HC11
      by_cases c12 : 0 ≤ x3_2
      rotate_left
      ·rw [if_neg c12] at H
       exact absurd H (by simp)
      rw [if_pos c12] at H
      have c12b0 : decide (0 ≤ x3_2) = true := decide_eq_true c12
      clear c12
      (first | rw [c12b0] | (simp only [i64_w, i32_w]; rw [c12b0]) | skip)
      by_cases c14 : (bt a0 x3_2) < 97
      ·rw [if_pos c14] at H
       have c14b0 : decide ((bt a0 x3_2) < 97) = true := decide_eq_true c14
       clear c14
       by_cases c16 : (bt a0 x3_2) < 48
       ·rw [if_pos c16] at H
        have c16b0 : decide ((bt a0 x3_2) < 48) = true := decide_eq_true c16
        clear c16
        have H' := Aside0.mk H
        clear H
        have p13 : 0 ≤ (x3_2 : Int) := of_decide_eq_true zas
        have q13 : x3_2 < (a0.size : Int) := of_decide_eq_true zas
        have hx13 := bt_at a0 x3_2
        replace p13 := eq_true p13
        replace q13 := eq_true q13
        have p15 : 0 ≤ (x3_2 : Int) := of_decide_eq_true zas
        have q15 : x3_2 < (a0.size : Int) := of_decide_eq_true zas
        have hx15 := bt_at a0 x3_2
        replace p15 := eq_true p15
        replace q15 := eq_true q15
        have p17 : 0 ≤ (x3_2 : Int) := of_decide_eq_true zas
        have q17 : x3_2 < (a0.size : Int) := of_decide_eq_true zas
        have hx17 := bt_at a0 x3_2
        replace p17 := eq_true p17
        replace q17 := eq_true q17
        go_wp2
        go_meet
        case rel => exact ⟨_, (((bt a0 x3_2) != 95)), zrs, H', ⟨by have := HJ1.out; have := HK2.out; first | omega | exact Nat.le_refl _⟩, by repeat (first | exact Drawn0.refl _ | apply Drawn0.step)⟩
       rw [if_neg c16] at H
       have c16b0 : decide ((bt a0 x3_2) < 48) = false := decide_eq_false c16
       clear c16
       by_cases c19 : (bt a0 x3_2) > 57
       rotate_left
       ·rw [if_neg c19] at H
        have c19b0 : decide (57 < (bt a0 x3_2)) = false := decide_eq_false c19
        clear c19
        have H' := Aside0.mk H
        clear H
        have p13 : 0 ≤ (x3_2 : Int) := of_decide_eq_true zas
        have q13 : x3_2 < (a0.size : Int) := of_decide_eq_true zas
        have hx13 := bt_at a0 x3_2
        replace p13 := eq_true p13
        replace q13 := eq_true q13
        have p15 : 0 ≤ (x3_2 : Int) := of_decide_eq_true zas
        have q15 : x3_2 < (a0.size : Int) := of_decide_eq_true zas
        have hx15 := bt_at a0 x3_2
        replace p15 := eq_true p15
        replace q15 := eq_true q15
        have p18 : 0 ≤ (x3_2 : Int) := of_decide_eq_true zas
        have q18 : x3_2 < (a0.size : Int) := of_decide_eq_true zas
        have hx18 := bt_at a0 x3_2
        replace p18 := eq_true p18
        replace q18 := eq_true q18
        go_wp2
        go_meet
        case rel => exact ⟨_, (false), zrs, H', ⟨by have := HJ1.out; have := HK2.out; first | omega | exact Nat.le_refl _⟩, by repeat (first | exact Drawn0.refl _ | apply Drawn0.step)⟩
       rw [if_pos c19] at H
       have c19b0 : decide (57 < (bt a0 x3_2)) = true := decide_eq_true c19
       clear c19
       have H' := Aside0.mk H
       clear H
       have p13 : 0 ≤ (x3_2 : Int) := of_decide_eq_true zas
       have q13 : x3_2 < (a0.size : Int) := of_decide_eq_true zas
       have hx13 := bt_at a0 x3_2
       replace p13 := eq_true p13
       replace q13 := eq_true q13
       have p15 : 0 ≤ (x3_2 : Int) := of_decide_eq_true zas
       have q15 : x3_2 < (a0.size : Int) := of_decide_eq_true zas
       have hx15 := bt_at a0 x3_2
       replace p15 := eq_true p15
       replace q15 := eq_true q15
       have p18 : 0 ≤ (x3_2 : Int) := of_decide_eq_true zas
       have q18 : x3_2 < (a0.size : Int) := of_decide_eq_true zas
       have hx18 := bt_at a0 x3_2
       replace p18 := eq_true p18
       replace q18 := eq_true q18
       have p20 : 0 ≤ (x3_2 : Int) := of_decide_eq_true zas
       have q20 : x3_2 < (a0.size : Int) := of_decide_eq_true zas
       have hx20 := bt_at a0 x3_2
       replace p20 := eq_true p20
       replace q20 := eq_true q20
       go_wp2
       go_meet
       case rel => exact ⟨_, (((bt a0 x3_2) != 95)), zrs, H', ⟨by have := HJ1.out; have := HK2.out; first | omega | exact Nat.le_refl _⟩, by repeat (first | exact Drawn0.refl _ | apply Drawn0.step)⟩
      rw [if_neg c14] at H
      have c14b0 : decide ((bt a0 x3_2) < 97) = false := decide_eq_false c14
      clear c14
      by_cases c22 : (bt a0 x3_2) > 122
      rotate_left
      ·rw [if_neg c22] at H
       have c22b0 : decide (122 < (bt a0 x3_2)) = false := decide_eq_false c22
       clear c22
       have H' := Aside0.mk H
       clear H
       have p13 : 0 ≤ (x3_2 : Int) := of_decide_eq_true zas
       have q13 : x3_2 < (a0.size : Int) := of_decide_eq_true zas
       have hx13 := bt_at a0 x3_2
       replace p13 := eq_true p13
       replace q13 := eq_true q13
       have p21 : 0 ≤ (x3_2 : Int) := of_decide_eq_true zas
       have q21 : x3_2 < (a0.size : Int) := of_decide_eq_true zas
       have hx21 := bt_at a0 x3_2
       replace p21 := eq_true p21
       replace q21 := eq_true q21
       go_wp2
       go_meet
       case rel => exact ⟨_, (false), zrs, H', ⟨by have := HJ1.out; have := HK2.out; first | omega | exact Nat.le_refl _⟩, by repeat (first | exact Drawn0.refl _ | apply Drawn0.step)⟩
      rw [if_pos c22] at H
      have c22b0 : decide (122 < (bt a0 x3_2)) = true := decide_eq_true c22
      clear c22
      by_cases c24 : (bt a0 x3_2) < 48
      ·rw [if_pos c24] at H
       have c24b0 : decide ((bt a0 x3_2) < 48) = true := decide_eq_true c24
       clear c24
       have H' := Aside0.mk H
       clear H
       have p13 : 0 ≤ (x3_2 : Int) := of_decide_eq_true zas
       have q13 : x3_2 < (a0.size : Int) := of_decide_eq_true zas
       have hx13 := bt_at a0 x3_2
       replace p13 := eq_true p13
       replace q13 := eq_true q13
       have p21 : 0 ≤ (x3_2 : Int) := of_decide_eq_true zas
       have q21 : x3_2 < (a0.size : Int) := of_decide_eq_true zas
       have hx21 := bt_at a0 x3_2
       replace p21 := eq_true p21
       replace q21 := eq_true q21
       have p23 : 0 ≤ (x3_2 : Int) := of_decide_eq_true zas
       have q23 : x3_2 < (a0.size : Int) := of_decide_eq_true zas
       have hx23 := bt_at a0 x3_2
       replace p23 := eq_true p23
       replace q23 := eq_true q23
       have p25 : 0 ≤ (x3_2 : Int) := of_decide_eq_true zas
       have q25 : x3_2 < (a0.size : Int) := of_decide_eq_true zas
       have hx25 := bt_at a0 x3_2
       replace p25 := eq_true p25
       replace q25 := eq_true q25
       go_wp2
       go_meet
       case rel => exact ⟨_, (((bt a0 x3_2) != 95)), zrs, H', ⟨by have := HJ1.out; have := HK2.out; first | omega | exact Nat.le_refl _⟩, by repeat (first | exact Drawn0.refl _ | apply Drawn0.step)⟩
      rw [if_neg c24] at H
      have c24b0 : decide ((bt a0 x3_2) < 48) = false := decide_eq_false c24
      clear c24
      by_cases c27 : (bt a0 x3_2) > 57
      rotate_left
      ·rw [if_neg c27] at H
       have c27b0 : decide (57 < (bt a0 x3_2)) = false := decide_eq_false c27
       clear c27
       have H' := Aside0.mk H
       clear H
       have p13 : 0 ≤ (x3_2 : Int) := of_decide_eq_true zas
       have q13 : x3_2 < (a0.size : Int) := of_decide_eq_true zas
       have hx13 := bt_at a0 x3_2
       replace p13 := eq_true p13
       replace q13 := eq_true q13
       have p21 : 0 ≤ (x3_2 : Int) := of_decide_eq_true zas
       have q21 : x3_2 < (a0.size : Int) := of_decide_eq_true zas
       have hx21 := bt_at a0 x3_2
       replace p21 := eq_true p21
       replace q21 := eq_true q21
       have p23 : 0 ≤ (x3_2 : Int) := of_decide_eq_true zas
       have q23 : x3_2 < (a0.size : Int) := of_decide_eq_true zas
       have hx23 := bt_at a0 x3_2
       replace p23 := eq_true p23
       replace q23 := eq_true q23
       have p26 : 0 ≤ (x3_2 : Int) := of_decide_eq_true zas
       have q26 : x3_2 < (a0.size : Int) := of_decide_eq_true zas
       have hx26 := bt_at a0 x3_2
       replace p26 := eq_true p26
       replace q26 := eq_true q26
       go_wp2
       go_meet
       case rel => exact ⟨_, (false), zrs, H', ⟨by have := HJ1.out; have := HK2.out; first | omega | exact Nat.le_refl _⟩, by repeat (first | exact Drawn0.refl _ | apply Drawn0.step)⟩
      rw [if_pos c27] at H
      have c27b0 : decide (57 < (bt a0 x3_2)) = true := decide_eq_true c27
      clear c27
      have H' := Aside0.mk H
      clear H
      have p13 : 0 ≤ (x3_2 : Int) := of_decide_eq_true zas
      have q13 : x3_2 < (a0.size : Int) := of_decide_eq_true zas
      have hx13 := bt_at a0 x3_2
      replace p13 := eq_true p13
      replace q13 := eq_true q13
      have p21 : 0 ≤ (x3_2 : Int) := of_decide_eq_true zas
      have q21 : x3_2 < (a0.size : Int) := of_decide_eq_true zas
      have hx21 := bt_at a0 x3_2
      replace p21 := eq_true p21
      replace q21 := eq_true q21
      have p23 : 0 ≤ (x3_2 : Int) := of_decide_eq_true zas
      have q23 : x3_2 < (a0.size : Int) := of_decide_eq_true zas
      have hx23 := bt_at a0 x3_2
      replace p23 := eq_true p23
      replace q23 := eq_true q23
      have p26 : 0 ≤ (x3_2 : Int) := of_decide_eq_true zas
      have q26 : x3_2 < (a0.size : Int) := of_decide_eq_true zas
      have hx26 := bt_at a0 x3_2
      replace p26 := eq_true p26
      replace q26 := eq_true q26
      have p28 : 0 ≤ (x3_2 : Int) := of_decide_eq_true zas
      have q28 : x3_2 < (a0.size : Int) := of_decide_eq_true zas
      have hx28 := bt_at a0 x3_2
      replace p28 := eq_true p28
      replace q28 := eq_true q28
      go_wp2
      go_meet
      case rel => exact ⟨_, (((bt a0 x3_2) != 95)), zrs, H', ⟨by have := HJ1.out; have := HK2.out; first | omega | exact Nat.le_refl _⟩, by repeat (first | exact Drawn0.refl _ | apply Drawn0.step)⟩
     case rest =>
      clear HC11
      try clear c9
      try clear c10
      try clear c10b0
      obtain ⟨kq, x55_10, rfl, HA, HJ10, ⟨mc10, rfl⟩⟩ := hcut
      cases kq with
      | zero => exact absurd HA.out (by simp [spec_l06Name.j2])
      | succ kj10 =>
       have H := HA.out
       clear HA
       simp only [spec_l06Name.j2] at H
       by_cases c29 : x55_10 = true
       ·subst c29
        rw [if_pos rfl] at H
        obtain rfl := Option.some.inj H
        go_wp2
        go_ret
        exact ⟨zrs, by repeat (first | exact Drawn0.refl _ | apply Drawn0.step)⟩
       replace c29 := Bool.eq_false_iff.mpr c29
       subst c29
       rw [if_neg (show ¬ (false = true) by decide)] at H
       have H' := Aside0.mk H
       clear H
       go_wp2
       go_roundg kj10
       case measure => have := HJ1.out; have := HK2.out; have := HJ10.out; omega
       case rel => exact ⟨(wrap64 (x3_2 + 1)), zrs, H', ⟨by have := HJ1.out; have := HK2.out; have := HJ10.out; omega⟩, by repeat (first | exact Drawn0.refl _ | apply Drawn0.step)⟩
/-! ### spec_l01CharOK: function 51 -/
def spec_l01CharOK.f (a0 : Int) : Option (Bool) := if a0 ≥ 0 then (if a0 ≤ 1114111 then (if a0 < 55296 then (some true) else (some (decide (a0 > 57343)))) else (some false)) else (some false)
set_option maxHeartbeats 8000000 in
set_option maxRecDepth 100000 in
theorem spec_l01CharOK.calls (a0 : Int) (r : Bool) (w : World) (h : spec_l01CharOK.f a0 = some r) :
 Calls Tryd.prog 51 #[.int .i64 a0] w fun e w' => e = .returned (.bool r) ∧ Drawn0 w w' := by
 have H := h
 unfold spec_l01CharOK.f at H
 clear h
 by_cases c2 : a0 ≥ 0
 rotate_left
 ·rw [if_neg c2] at H
  have c2b0 : decide (0 ≤ a0) = false := decide_eq_false c2
  clear c2
  obtain rfl := Option.some.inj H
  go_enter Tryd.func51, Tryd.ntmps51
  go_wp2
  go_ret
  exact ⟨zrs, by repeat (first | exact Drawn0.refl _ | apply Drawn0.step)⟩

 rw [if_pos c2] at H
 have c2b0 : decide (0 ≤ a0) = true := decide_eq_true c2
 clear c2
 by_cases c3 : a0 ≤ 1114111
 rotate_left
 ·rw [if_neg c3] at H
  have c3b0 : decide (a0 ≤ 1114111) = false := decide_eq_false c3
  clear c3
  obtain rfl := Option.some.inj H
  go_enter Tryd.func51, Tryd.ntmps51
  go_wp2
  go_ret
  exact ⟨zrs, by repeat (first | exact Drawn0.refl _ | apply Drawn0.step)⟩
 rw [if_pos c3] at H
 have c3b0 : decide (a0 ≤ 1114111) = true := decide_eq_true c3
 clear c3
 by_cases c4 : a0 < 55296
 ·rw [if_pos c4] at H
  have c4b0 : decide (a0 < 55296) = true := decide_eq_true c4
  clear c4
  obtain rfl := Option.some.inj H
  go_enter Tryd.func51, Tryd.ntmps51
  go_wp2
  go_ret
  exact ⟨zrs, by repeat (first | exact Drawn0.refl _ | apply Drawn0.step)⟩
 rw [if_neg c4] at H
 have c4b0 : decide (a0 < 55296) = false := decide_eq_false c4
 clear c4
 obtain rfl := Option.some.inj H
 go_enter Tryd.func51, Tryd.ntmps51
 go_wp2
 go_ret
 exact ⟨zrs, by repeat (first | exact Drawn0.refl _ | apply Drawn0.step)⟩
/-! ### spec_l01Bytes: function 52 -/
def spec_l01Bytes.f (a0 : Int) : Option (List Int) := if a0 < 128 then (some (([(a0) % 256] : List Int))) else (if a0 < 2048 then (some (([(wrap64 (192 + (wrap64 (Int.tdiv a0 64)))) % 256, (wrap64 (128 + (Int.tmod a0 64))) % 256] : List Int))) else (if a0 < 65536 then (some (([(wrap64 (224 + (wrap64 (Int.tdiv a0 4096)))) % 256, (wrap64 (128 + (Int.tmod (wrap64 (Int.tdiv a0 64)) 64))) % 256, (wrap64 (128 + (Int.tmod a0 64))) % 256] : List Int))) else (some (([(wrap64 (240 + (wrap64 (Int.tdiv a0 262144)))) % 256, (wrap64 (128 + (Int.tmod (wrap64 (Int.tdiv a0 4096)) 64))) % 256, (wrap64 (128 + (Int.tmod (wrap64 (Int.tdiv a0 64)) 64))) % 256, (wrap64 (128 + (Int.tmod a0 64))) % 256] : List Int)))))
set_option maxHeartbeats 8000000 in
set_option maxRecDepth 100000 in
theorem spec_l01Bytes.calls (a0 : Int) (r : List Int) (w : World) (h : spec_l01Bytes.f a0 = some r) :
 Calls Tryd.prog 52 #[.int .i64 a0] w fun e w' => ∃ v0_ : Value, e = .returned (v0_) ∧ Kd.R (Kd.int .u8) 5 w' w.heap.size (fun _ => True) v0_ r ∧ Below w.heap.size w w' := by
 have HB := Aside0.mk (Below.refl w.heap.size w)
 have H := h
 unfold spec_l01Bytes.f at H
 clear h
 by_cases c2 : a0 < 128
 ·rw [if_pos c2] at H
  have c2b0 : decide (a0 < 128) = true := decide_eq_true c2
  clear c2
  obtain ⟨y114, hy114⟩ : ∃ y_ : List Int, y_ = (([(a0) % 256] : List Int)) := ⟨_, rfl⟩
  replace H : (some y114) = some r := zby hy114 H
  have Ny114 := Aside0.mk hy114
  clear hy114
  obtain rfl := Option.some.inj H
  go_enter Tryd.func52, Tryd.ntmps52
  go_wp2_with (first | ((with_reducible refine gate_dst (N := 8) rfl ?_); refine Kd.R_lit (Kd.int .u8) _ 5 ?hg (N := 8) ?hd (xs := ([(a0) % 256] : List Int)) (inner := [.int .u8 ((a0) % 256)]) (ok := fun _ => True) (okp := fun _ => True) ?hr ?hp (fun _ hk => hk) trivial (Below.refl _ _) (Nat.le_refl _) (by simp) ?_; (case hd => rfl); (case hg => rfl); (case hr => first | (go_simp; done) | (go_simp; rfl)); (case hp => exact (Reps.one (show Kd.M (Kd.int .u8) _ _ _ ((a0) % 256) [.int .u8 ((a0) % 256)] from rfl) (Reps.none _ _))); intro v115 w3 ho4 hb hg_ hnew_; clear hg_ hnew_; (first | rw [← Ny114.out] at ho4 | (simp only [Int.reduceToNat] at ho4; rw [← Ny114.out] at ho4)); have HO116 := Aside0.mk (Kd.R_lower ho4 (below_size (zh HB))); replace HB := Aside0.mk (below_step (zh HB) hb); clear hb ho4))
  go_ret
  exact ⟨_, zre, by (with_reducible repeat (first | apply Kd.R_alloc | apply Kd.R_drewN | apply Kd.R_drew)); exact HO116.out, zh HB⟩
 rw [if_neg c2] at H
 have c2b0 : decide (a0 < 128) = false := decide_eq_false c2
 clear c2
 by_cases c5 : a0 < 2048
 ·rw [if_pos c5] at H
  have c5b0 : decide (a0 < 2048) = true := decide_eq_true c5
  clear c5
  obtain ⟨y117, hy117⟩ : ∃ y_ : List Int, y_ = (([(wrap64 (192 + (wrap64 (Int.tdiv a0 64)))) % 256, (wrap64 (128 + (Int.tmod a0 64))) % 256] : List Int)) := ⟨_, rfl⟩
  replace H : (some y117) = some r := zby hy117 H
  have Ny117 := Aside0.mk hy117
  clear hy117
  obtain rfl := Option.some.inj H
  go_enter Tryd.func52, Tryd.ntmps52
  go_wp2_with (first | ((with_reducible refine gate_dst (N := 20) rfl ?_); refine Kd.R_lit (Kd.int .u8) _ 5 ?hg (N := 20) ?hd (xs := ([(wrap64 (192 + (wrap64 (Int.tdiv a0 64)))) % 256, (wrap64 (128 + (Int.tmod a0 64))) % 256] : List Int)) (inner := [.int .u8 ((wrap64 (192 + (wrap64 (Int.tdiv a0 64)))) % 256), .int .u8 ((wrap64 (128 + (Int.tmod a0 64))) % 256)]) (ok := fun _ => True) (okp := fun _ => True) ?hr ?hp (fun _ hk => hk) trivial (Below.refl _ _) (Nat.le_refl _) (by simp) ?_; (case hd => rfl); (case hg => rfl); (case hr => first | (go_simp; done) | (go_simp; rfl)); (case hp => exact (Reps.one (show Kd.M (Kd.int .u8) _ _ _ ((wrap64 (192 + (wrap64 (Int.tdiv a0 64)))) % 256) [.int .u8 ((wrap64 (192 + (wrap64 (Int.tdiv a0 64)))) % 256)] from rfl) (Reps.one (show Kd.M (Kd.int .u8) _ _ _ ((wrap64 (128 + (Int.tmod a0 64))) % 256) [.int .u8 ((wrap64 (128 + (Int.tmod a0 64))) % 256)] from rfl) (Reps.none _ _)))); intro v118 w6 ho7 hb hg_ hnew_; clear hg_ hnew_; (first | rw [← Ny117.out] at ho7 | (simp only [Int.reduceToNat] at ho7; rw [← Ny117.out] at ho7)); have HO119 := Aside0.mk (Kd.R_lower ho7 (below_size (zh HB))); replace HB := Aside0.mk (below_step (zh HB) hb); clear hb ho7))
  go_ret
  exact ⟨_, zre, by (with_reducible repeat (first | apply Kd.R_alloc | apply Kd.R_drewN | apply Kd.R_drew)); exact HO119.out, zh HB⟩
 rw [if_neg c5] at H
 have c5b0 : decide (a0 < 2048) = false := decide_eq_false c5
 clear c5
 by_cases c8 : a0 < 65536
 ·rw [if_pos c8] at H
  have c8b0 : decide (a0 < 65536) = true := decide_eq_true c8
  clear c8
  obtain ⟨y120, hy120⟩ : ∃ y_ : List Int, y_ = (([(wrap64 (224 + (wrap64 (Int.tdiv a0 4096)))) % 256, (wrap64 (128 + (Int.tmod (wrap64 (Int.tdiv a0 64)) 64))) % 256, (wrap64 (128 + (Int.tmod a0 64))) % 256] : List Int)) := ⟨_, rfl⟩
  replace H : (some y120) = some r := zby hy120 H
  have Ny120 := Aside0.mk hy120
  clear hy120
  obtain rfl := Option.some.inj H
  go_enter Tryd.func52, Tryd.ntmps52
  go_wp2_with (first | ((with_reducible refine gate_dst (N := 37) rfl ?_); refine Kd.R_lit (Kd.int .u8) _ 5 ?hg (N := 37) ?hd (xs := ([(wrap64 (224 + (wrap64 (Int.tdiv a0 4096)))) % 256, (wrap64 (128 + (Int.tmod (wrap64 (Int.tdiv a0 64)) 64))) % 256, (wrap64 (128 + (Int.tmod a0 64))) % 256] : List Int)) (inner := [.int .u8 ((wrap64 (224 + (wrap64 (Int.tdiv a0 4096)))) % 256), .int .u8 ((wrap64 (128 + (Int.tmod (wrap64 (Int.tdiv a0 64)) 64))) % 256), .int .u8 ((wrap64 (128 + (Int.tmod a0 64))) % 256)]) (ok := fun _ => True) (okp := fun _ => True) ?hr ?hp (fun _ hk => hk) trivial (Below.refl _ _) (Nat.le_refl _) (by simp) ?_; (case hd => rfl); (case hg => rfl); (case hr => first | (go_simp; done) | (go_simp; rfl)); (case hp => exact (Reps.one (show Kd.M (Kd.int .u8) _ _ _ ((wrap64 (224 + (wrap64 (Int.tdiv a0 4096)))) % 256) [.int .u8 ((wrap64 (224 + (wrap64 (Int.tdiv a0 4096)))) % 256)] from rfl) (Reps.one (show Kd.M (Kd.int .u8) _ _ _ ((wrap64 (128 + (Int.tmod (wrap64 (Int.tdiv a0 64)) 64))) % 256) [.int .u8 ((wrap64 (128 + (Int.tmod (wrap64 (Int.tdiv a0 64)) 64))) % 256)] from rfl) (Reps.one (show Kd.M (Kd.int .u8) _ _ _ ((wrap64 (128 + (Int.tmod a0 64))) % 256) [.int .u8 ((wrap64 (128 + (Int.tmod a0 64))) % 256)] from rfl) (Reps.none _ _))))); intro v121 w9 ho10 hb hg_ hnew_; clear hg_ hnew_; (first | rw [← Ny120.out] at ho10 | (simp only [Int.reduceToNat] at ho10; rw [← Ny120.out] at ho10)); have HO122 := Aside0.mk (Kd.R_lower ho10 (below_size (zh HB))); replace HB := Aside0.mk (below_step (zh HB) hb); clear hb ho10))
  go_ret
  exact ⟨_, zre, by (with_reducible repeat (first | apply Kd.R_alloc | apply Kd.R_drewN | apply Kd.R_drew)); exact HO122.out, zh HB⟩
 rw [if_neg c8] at H
 have c8b0 : decide (a0 < 65536) = false := decide_eq_false c8
 clear c8
 obtain ⟨y123, hy123⟩ : ∃ y_ : List Int, y_ = (([(wrap64 (240 + (wrap64 (Int.tdiv a0 262144)))) % 256, (wrap64 (128 + (Int.tmod (wrap64 (Int.tdiv a0 4096)) 64))) % 256, (wrap64 (128 + (Int.tmod (wrap64 (Int.tdiv a0 64)) 64))) % 256, (wrap64 (128 + (Int.tmod a0 64))) % 256] : List Int)) := ⟨_, rfl⟩
 replace H : (some y123) = some r := zby hy123 H
 have Ny123 := Aside0.mk hy123
 clear hy123
 obtain rfl := Option.some.inj H
 go_enter Tryd.func52, Tryd.ntmps52
 go_wp2_with (first | ((with_reducible refine gate_dst (N := 56) rfl ?_); refine Kd.R_lit (Kd.int .u8) _ 5 ?hg (N := 56) ?hd (xs := ([(wrap64 (240 + (wrap64 (Int.tdiv a0 262144)))) % 256, (wrap64 (128 + (Int.tmod (wrap64 (Int.tdiv a0 4096)) 64))) % 256, (wrap64 (128 + (Int.tmod (wrap64 (Int.tdiv a0 64)) 64))) % 256, (wrap64 (128 + (Int.tmod a0 64))) % 256] : List Int)) (inner := [.int .u8 ((wrap64 (240 + (wrap64 (Int.tdiv a0 262144)))) % 256), .int .u8 ((wrap64 (128 + (Int.tmod (wrap64 (Int.tdiv a0 4096)) 64))) % 256), .int .u8 ((wrap64 (128 + (Int.tmod (wrap64 (Int.tdiv a0 64)) 64))) % 256), .int .u8 ((wrap64 (128 + (Int.tmod a0 64))) % 256)]) (ok := fun _ => True) (okp := fun _ => True) ?hr ?hp (fun _ hk => hk) trivial (Below.refl _ _) (Nat.le_refl _) (by simp) ?_; (case hd => rfl); (case hg => rfl); (case hr => first | (go_simp; done) | (go_simp; rfl)); (case hp => exact (Reps.one (show Kd.M (Kd.int .u8) _ _ _ ((wrap64 (240 + (wrap64 (Int.tdiv a0 262144)))) % 256) [.int .u8 ((wrap64 (240 + (wrap64 (Int.tdiv a0 262144)))) % 256)] from rfl) (Reps.one (show Kd.M (Kd.int .u8) _ _ _ ((wrap64 (128 + (Int.tmod (wrap64 (Int.tdiv a0 4096)) 64))) % 256) [.int .u8 ((wrap64 (128 + (Int.tmod (wrap64 (Int.tdiv a0 4096)) 64))) % 256)] from rfl) (Reps.one (show Kd.M (Kd.int .u8) _ _ _ ((wrap64 (128 + (Int.tmod (wrap64 (Int.tdiv a0 64)) 64))) % 256) [.int .u8 ((wrap64 (128 + (Int.tmod (wrap64 (Int.tdiv a0 64)) 64))) % 256)] from rfl) (Reps.one (show Kd.M (Kd.int .u8) _ _ _ ((wrap64 (128 + (Int.tmod a0 64))) % 256) [.int .u8 ((wrap64 (128 + (Int.tmod a0 64))) % 256)] from rfl) (Reps.none _ _)))))); intro v124 w11 ho12 hb hg_ hnew_; clear hg_ hnew_; (first | rw [← Ny123.out] at ho12 | (simp only [Int.reduceToNat] at ho12; rw [← Ny123.out] at ho12)); have HO125 := Aside0.mk (Kd.R_lower ho12 (below_size (zh HB))); replace HB := Aside0.mk (below_step (zh HB) hb); clear hb ho12))
 go_ret
 exact ⟨_, zre, by (with_reducible repeat (first | apply Kd.R_alloc | apply Kd.R_drewN | apply Kd.R_drew)); exact HO125.out, zh HB⟩

end Go.Proofs.YtmbgncgcddjomaaDoor.XFnExactSchemaOK
