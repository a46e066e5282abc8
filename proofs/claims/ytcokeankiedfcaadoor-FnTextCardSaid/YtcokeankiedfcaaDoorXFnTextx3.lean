-- A text of this session: written by its own program (wip/x/xprint.py), which runs the kit's printer with contracts of its own.
import Derived.Test.YtcokeankiedfcaaDoorXFnTextx0
import Derived.Test.YtcokeankiedfcaaDoorXFnTextx1
import Derived.Test.YtcokeankiedfcaaDoorXFnTextx2
namespace Go.Proofs.YtcokeankiedfcaaDoor.XFnText
open Go.RowKit Go.Proofs.YtcokeankiedfcaaDoorW.PrintWords Go.Proofs.YtcokeankiedfcaaDoorW.PrintLast Go.Proofs.YtcokeankiedfcaaDoorW.PrintMore
attribute [local go_sem] max2_int min2_int max_two min_two max_three min_three max_four min_four   -- for this text's walks alone
set_option linter.unusedVariables false
set_option linter.unusedSimpArgs false

/-! ### impl_Fold: function 55 -/
mutual
def impl_Fold.j2 : Nat → Int → Option (Int)
 | 0, _ => none
 | k + 1, x0 => (impl_within.f x0 224 229).bind fun t185 => (if t185 = true then (some 97) else (if x0 = 231 then (some 99) else ((impl_within.f x0 232 235).bind fun t186 => (if t186 = true then (some 101) else ((impl_within.f x0 236 239).bind fun t187 => (if t187 = true then (some 105) else (if x0 = 241 then (some 110) else ((impl_within.f x0 242 246).bind fun t188 => (if t188 = true then (impl_Fold.j3 k x0 t188) else (impl_Fold.j3 k x0 (x0 == 248)))))))))))
def impl_Fold.j3 : Nat → Int → Bool → Option (Int)
 | 0, _, _ => none
 | k + 1, x0, x42 => if x42 = true then (some 111) else ((impl_within.f x0 249 252).bind fun t189 => (if t189 = true then (some 117) else (if x0 = 253 then (some 121) else (if x0 = 255 then (some 121) else (some x0)))))
def impl_Fold.j1 : Nat → Int → Bool → Option (Int)
 | 0, _, _ => none
 | k + 1, x0, x3 => if x3 = true then (impl_Fold.j2 k (wrap64 (x0 + 32))) else ((impl_within.f x0 1024 1039).bind fun t184 => (if t184 = true then (impl_Fold.j2 k (wrap64 (x0 + 80))) else (impl_Fold.j2 k x0)))
def impl_Fold.j0 : Nat → Int → Bool → Option (Int)
 | 0, _, _ => none
 | k + 1, x0, x3 => if x3 = true then (impl_Fold.j1 k x0 x3) else ((impl_within.f x0 913 939).bind fun t181 => (if t181 = true then (if x0 = 930 then ((impl_within.f x0 1040 1071).bind fun t182 => (impl_Fold.j1 k x0 t182)) else (impl_Fold.j1 k x0 (x0 != 930))) else ((impl_within.f x0 1040 1071).bind fun t183 => (impl_Fold.j1 k x0 t183))))
end
def impl_Fold.f (k : Nat) (a0 : Int) : Option (Int) := (impl_within.f a0 65 90).bind fun t179 => (if t179 = true then (impl_Fold.j1 k a0 t179) else ((impl_within.f a0 192 222).bind fun t180 => (if t180 = true then (impl_Fold.j0 k a0 (a0 != 215)) else (impl_Fold.j0 k a0 false))))
theorem impl_Fold.mono_l : ∀ k, (∀ y0, LeO (impl_Fold.j2 k y0) (impl_Fold.j2 (k + 1) y0)) ∧ (∀ y0 y1, LeO (impl_Fold.j3 k y0 y1) (impl_Fold.j3 (k + 1) y0 y1)) ∧ (∀ y0 y1, LeO (impl_Fold.j1 k y0 y1) (impl_Fold.j1 (k + 1) y0 y1)) ∧ (∀ y0 y1, LeO (impl_Fold.j0 k y0 y1) (impl_Fold.j0 (k + 1) y0 y1))
 | 0 => ⟨fun _ r h => by simp [impl_Fold.j2] at h, fun _ _ r h => by simp [impl_Fold.j3] at h, fun _ _ r h => by simp [impl_Fold.j1] at h, fun _ _ r h => by simp [impl_Fold.j0] at h⟩
 | k + 1 => by
  obtain ⟨ih0, ih1, ih2, ih3⟩ := impl_Fold.mono_l k
  refine ⟨?_, ?_, ?_, ?_⟩
  ·intro y0
   unfold impl_Fold.j2
   repeat' first
   | (with_reducible exact ih0 _)
   | (with_reducible exact ih1 _ _)
   | (with_reducible exact ih2 _ _)
   | (with_reducible exact ih3 _ _)
   | (with_reducible exact LeO.refl _)
   | (with_reducible exact LeO.none _)
   | (with_reducible refine LeO.ite ?_ ?_)
   | (with_reducible refine LeO.bind ?_ (fun _ => ?_))
   | exact ih0 _
   | exact ih1 _ _
   | exact ih2 _ _
   | exact ih3 _ _
   | exact LeO.none _
   | refine LeO.ite ?_ ?_
   | refine LeO.bind ?_ (fun _ => ?_)
  ·intro y0 y1
   unfold impl_Fold.j3
   repeat' first
   | (with_reducible exact ih0 _)
   | (with_reducible exact ih1 _ _)
   | (with_reducible exact ih2 _ _)
   | (with_reducible exact ih3 _ _)
   | (with_reducible exact LeO.refl _)
   | (with_reducible exact LeO.none _)
   | (with_reducible refine LeO.ite ?_ ?_)
   | (with_reducible refine LeO.bind ?_ (fun _ => ?_))
   | exact ih0 _
   | exact ih1 _ _
   | exact ih2 _ _
   | exact ih3 _ _
   | exact LeO.none _
   | refine LeO.ite ?_ ?_
   | refine LeO.bind ?_ (fun _ => ?_)
  ·intro y0 y1
   unfold impl_Fold.j1
   repeat' first
   | (with_reducible exact ih0 _)
   | (with_reducible exact ih1 _ _)
   | (with_reducible exact ih2 _ _)
   | (with_reducible exact ih3 _ _)
   | (with_reducible exact LeO.refl _)
   | (with_reducible exact LeO.none _)
   | (with_reducible refine LeO.ite ?_ ?_)
   | (with_reducible refine LeO.bind ?_ (fun _ => ?_))
   | exact ih0 _
   | exact ih1 _ _
   | exact ih2 _ _
   | exact ih3 _ _
   | exact LeO.none _
   | refine LeO.ite ?_ ?_
   | refine LeO.bind ?_ (fun _ => ?_)
  ·intro y0 y1
   unfold impl_Fold.j0
   repeat' first
   | (with_reducible exact ih0 _)
   | (with_reducible exact ih1 _ _)
   | (with_reducible exact ih2 _ _)
   | (with_reducible exact ih3 _ _)
   | (with_reducible exact LeO.refl _)
   | (with_reducible exact LeO.none _)
   | (with_reducible refine LeO.ite ?_ ?_)
   | (with_reducible refine LeO.bind ?_ (fun _ => ?_))
   | exact ih0 _
   | exact ih1 _ _
   | exact ih2 _ _
   | exact ih3 _ _
   | exact LeO.none _
   | refine LeO.ite ?_ ?_
   | refine LeO.bind ?_ (fun _ => ?_)
theorem impl_Fold.mono : ∀ a0 k, LeO (impl_Fold.f k a0) (impl_Fold.f (k + 1) a0) := by
 intro a0 k
 obtain ⟨ih0, ih1, ih2, ih3⟩ := impl_Fold.mono_l k
 unfold impl_Fold.f
 repeat' first
  | (with_reducible exact ih0 _)
  | (with_reducible exact ih1 _ _)
  | (with_reducible exact ih2 _ _)
  | (with_reducible exact ih3 _ _)
  | (with_reducible exact LeO.refl _)
  | (with_reducible exact LeO.none _)
  | (with_reducible refine LeO.ite ?_ ?_)
  | (with_reducible refine LeO.bind ?_ (fun _ => ?_))
  | exact ih0 _
  | exact ih1 _ _
  | exact ih2 _ _
  | exact ih3 _ _
  | exact LeO.none _
  | refine LeO.ite ?_ ?_
  | refine LeO.bind ?_ (fun _ => ?_)
set_option maxHeartbeats 8000000 in
set_option maxRecDepth 100000 in
theorem impl_Fold.calls (k : Nat) (a0 : Int) (r : Int) (w : World) (h : impl_Fold.f k a0 = some r) :
 Calls Tryd.prog 55 #[.int .i64 a0] w fun e w' => e = .returned (.int .i64 r) ∧ Drawn0 w w' := by
 have H : ((impl_within.f a0 65 90).bind fun t179 => (if t179 = true then (impl_Fold.j1 k a0 t179) else ((impl_within.f a0 192 222).bind fun t180 => (if t180 = true then (impl_Fold.j0 k a0 (a0 != 215)) else (impl_Fold.j0 k a0 false))))) = some r := h
 clear h
 have HC2 := Aside0.mk H
 clear H
 go_enter Tryd.func55, Tryd.ntmps55
 go_upto_block 0 with (fail)
 go_cut [0] (fun v0 wc => ∃ (kq : Nat) (x0_1 : Int), v0 = .int .i64 x0_1 ∧ Aside0 (impl_Fold.j2 kq x0_1 = some r) ∧ Aside0 (kq ≤ k) ∧ Drawn0 w wc)
 case first =>
  have H := HC2.out
  clear HC2
  replace H := Option.bind_eq_some_iff.mp H
  obtain ⟨t179, A30, H⟩ := H
  replace H : (if t179 = true then (impl_Fold.j1 k a0 t179) else ((impl_within.f a0 192 222).bind fun t180 => (if t180 = true then (impl_Fold.j0 k a0 (a0 != 215)) else (impl_Fold.j0 k a0 false)))) = some r := H
  have A3 := Aside0.mk A30
  clear A30
  have HC4 := Aside0.mk H
  clear H
  go_upto_if 3 with (first | ((with_reducible refine gate_callee (f := 102) rfl ?_); refine goesL_ (some 5) rfl rfl Tryd.func102 (by kernel_rfl) rfl #[.int .i64 a0, .int .i64 65, .int .i64 90] rfl zar ?_; (with_reducible refine (impl_within.calls a0 65 90 t179 _ A3.out).mono ?_); rintro e w' ⟨rfl, ⟨nd, rfl⟩⟩; refine ⟨_, rfl, ?_⟩))
  (try simp only [Act.put, List.setIfInBounds_toArray, List.set_cons_zero, List.set_cons_succ])
  go_cut [3] (fun v3 wc => ∃ (kq : Nat) (x3_3 : Bool), v3 = .bool x3_3 ∧ Aside0 (impl_Fold.j1 kq a0 x3_3 = some r) ∧ Aside0 (kq ≤ k) ∧ Drawn0 w wc)
  case first =>
   have H := HC4.out
   clear HC4
   by_cases c5 : t179 = true
   ·subst c5
    have H1 : (impl_Fold.j1 k a0 true) = some r := by rw [if_pos rfl] at H; exact H
    clear H
    have H := H1
    clear H1
    have H' := Aside0.mk H
    clear H
    go_wp2
    go_meet
    case rel => exact ⟨_, (true), (by first | rfl | (simp; done) | (simp [*]; done)), H', ⟨by first | omega | exact Nat.le_refl _⟩, by repeat (first | exact Drawn0.refl _ | apply Drawn0.step)⟩
   ·replace c5 := Bool.eq_false_iff.mpr c5
    subst c5
    have H1 : ((impl_within.f a0 192 222).bind fun t180 => (if t180 = true then (impl_Fold.j0 k a0 (a0 != 215)) else (impl_Fold.j0 k a0 false))) = some r := by rw [if_neg (show ¬ (false = true) by decide)] at H; exact H
    clear H
    have H := H1
    clear H1
    have HC6 := Aside0.mk H
    clear H
    go_upto_region 2 with (fail)
    go_cut [3] (fun v3 wc => ∃ (kq : Nat) (x3_5 : Bool), v3 = .bool x3_5 ∧ Aside0 (impl_Fold.j0 kq a0 x3_5 = some r) ∧ Aside0 (kq ≤ k) ∧ Drawn0 w wc)
    case first =>
     have H := HC6.out
     clear HC6
     replace H := Option.bind_eq_some_iff.mp H
     obtain ⟨t180, A70, H⟩ := H
     replace H : (if t180 = true then (impl_Fold.j0 k a0 (a0 != 215)) else (impl_Fold.j0 k a0 false)) = some r := H
     have A7 := Aside0.mk A70
     clear A70
     by_cases c8 : t180 = true
     ·subst c8
      have H1 : (impl_Fold.j0 k a0 (a0 != 215)) = some r := by rw [if_pos rfl] at H; exact H
      clear H
      have H := H1
      clear H1
      have H' := Aside0.mk H
      clear H
      go_wp2_with (first | ((with_reducible refine gate_callee (f := 102) rfl ?_); refine goesL_ (some 7) rfl rfl Tryd.func102 (by kernel_rfl) rfl #[.int .i64 a0, .int .i64 192, .int .i64 222] rfl zar ?_; (with_reducible refine (impl_within.calls a0 192 222 true _ A7.out).mono ?_); rintro e w' ⟨rfl, ⟨nd, rfl⟩⟩; refine ⟨_, rfl, ?_⟩))
      go_meet
      case rel => exact ⟨_, ((a0 != 215)), (by first | rfl | (simp; done) | (simp [*]; done)), H', ⟨by first | omega | exact Nat.le_refl _⟩, by repeat (first | exact Drawn0.refl _ | apply Drawn0.step)⟩
     ·replace c8 := Bool.eq_false_iff.mpr c8
      subst c8
      have H1 : (impl_Fold.j0 k a0 false) = some r := by rw [if_neg (show ¬ (false = true) by decide)] at H; exact H
      clear H
      have H := H1
      clear H1
      have H' := Aside0.mk H
      clear H
      go_wp2_with (first | ((with_reducible refine gate_callee (f := 102) rfl ?_); refine goesL_ (some 7) rfl rfl Tryd.func102 (by kernel_rfl) rfl #[.int .i64 a0, .int .i64 192, .int .i64 222] rfl zar ?_; (with_reducible refine (impl_within.calls a0 192 222 false _ A7.out).mono ?_); rintro e w' ⟨rfl, ⟨nd, rfl⟩⟩; refine ⟨_, rfl, ?_⟩))
      go_meet
      case rel => exact ⟨_, (false), (by first | rfl | (simp; done) | (simp [*]; done)), H', ⟨by first | omega | exact Nat.le_refl _⟩, by repeat (first | exact Drawn0.refl _ | apply Drawn0.step)⟩
    case rest =>
     clear HC6
     try clear c1
     try clear p2
     try clear c5
     try clear c8
     obtain ⟨kq, x3_5, rfl, HA, HJ5, ⟨mc5, rfl⟩⟩ := hcut
     cases kq with
     | zero => exact absurd HA.out (by simp [impl_Fold.j0])
     | succ kj5 =>
      have H := HA.out
      clear HA
      simp only [impl_Fold.j0] at H
      by_cases c9 : x3_5 = true
      ·subst c9
       have H1 : (impl_Fold.j1 kj5 a0 true) = some r := by rw [if_pos rfl] at H; exact H
       clear H
       have H := H1
       clear H1
       have H' := Aside0.mk H
       clear H
       go_wp2
       go_meet
       case rel => exact ⟨_, (true), (by first | rfl | (simp; done) | (simp [*]; done)), H', ⟨by have := HJ5.out; first | omega | exact Nat.le_refl _⟩, by repeat (first | exact Drawn0.refl _ | apply Drawn0.step)⟩
      ·replace c9 := Bool.eq_false_iff.mpr c9
       subst c9
       have H1 : ((impl_within.f a0 913 939).bind fun t181 => (if t181 = true then (if a0 = 930 then ((impl_within.f a0 1040 1071).bind fun t182 => (impl_Fold.j1 kj5 a0 t182)) else (impl_Fold.j1 kj5 a0 (a0 != 930))) else ((impl_within.f a0 1040 1071).bind fun t183 => (impl_Fold.j1 kj5 a0 t183)))) = some r := by rw [if_neg (show ¬ (false = true) by decide)] at H; exact H
       clear H
       have H := H1
       clear H1
       replace H := Option.bind_eq_some_iff.mp H
       obtain ⟨t181, A100, H⟩ := H
       replace H : (if t181 = true then (if a0 = 930 then ((impl_within.f a0 1040 1071).bind fun t182 => (impl_Fold.j1 kj5 a0 t182)) else (impl_Fold.j1 kj5 a0 (a0 != 930))) else ((impl_within.f a0 1040 1071).bind fun t183 => (impl_Fold.j1 kj5 a0 t183))) = some r := H
       have A10 := Aside0.mk A100
       clear A100
       by_cases c11 : t181 = true
       ·subst c11
        have H1 : (if a0 = 930 then ((impl_within.f a0 1040 1071).bind fun t182 => (impl_Fold.j1 kj5 a0 t182)) else (impl_Fold.j1 kj5 a0 (a0 != 930))) = some r := by rw [if_pos rfl] at H; exact H
        clear H
        have H := H1
        clear H1
        by_cases c12 : a0 = 930
        ·rw [if_pos c12] at H
         have c12b0 : (a0 == 930) = true := beq_iff_eq.mpr c12
         have c12b1 : (a0 != 930) = false := bne_eq_false_iff_eq.mpr c12
         clear c12
         replace H := Option.bind_eq_some_iff.mp H
         obtain ⟨t182, A130, H⟩ := H
         replace H : (impl_Fold.j1 kj5 a0 t182) = some r := H
         have A13 := Aside0.mk A130
         clear A130
         have H' := Aside0.mk H
         clear H
         go_wp2_with (first | ((with_reducible refine gate_callee (f := 102) rfl ?_); refine goesL_ (some 13) rfl rfl Tryd.func102 (by kernel_rfl) rfl #[.int .i64 a0, .int .i64 913, .int .i64 939] rfl zar ?_; (with_reducible refine (impl_within.calls a0 913 939 true _ A10.out).mono ?_); rintro e w' ⟨rfl, ⟨nd, rfl⟩⟩; refine ⟨_, rfl, ?_⟩) | ((with_reducible refine gate_callee (f := 102) rfl ?_); refine goesL_ (some 19) rfl rfl Tryd.func102 (by kernel_rfl) rfl #[.int .i64 a0, .int .i64 1040, .int .i64 1071] rfl zar ?_; (with_reducible refine (impl_within.calls a0 1040 1071 t182 _ A13.out).mono ?_); rintro e w' ⟨rfl, ⟨nd, rfl⟩⟩; refine ⟨_, rfl, ?_⟩))
         go_meet
         case rel => exact ⟨_, (t182), (by first | rfl | (simp; done) | (simp [*]; done)), H', ⟨by have := HJ5.out; first | omega | exact Nat.le_refl _⟩, by repeat (first | exact Drawn0.refl _ | apply Drawn0.step)⟩
        ·rw [if_neg c12] at H
         have c12b0 : (a0 == 930) = false := beq_eq_false_iff_ne.mpr c12
         have c12b1 : (a0 != 930) = true := bne_iff_ne.mpr c12
         have H' := Aside0.mk H
         clear H
         go_wp2_with (first | ((with_reducible refine gate_callee (f := 102) rfl ?_); refine goesL_ (some 13) rfl rfl Tryd.func102 (by kernel_rfl) rfl #[.int .i64 a0, .int .i64 913, .int .i64 939] rfl zar ?_; (with_reducible refine (impl_within.calls a0 913 939 true _ A10.out).mono ?_); rintro e w' ⟨rfl, ⟨nd, rfl⟩⟩; refine ⟨_, rfl, ?_⟩))
         go_meet
         case rel => exact ⟨_, ((a0 != 930)), (by first | rfl | (simp; done) | (simp [*]; done)), H', ⟨by have := HJ5.out; first | omega | exact Nat.le_refl _⟩, by repeat (first | exact Drawn0.refl _ | apply Drawn0.step)⟩
       ·replace c11 := Bool.eq_false_iff.mpr c11
        subst c11
        have H1 : ((impl_within.f a0 1040 1071).bind fun t183 => (impl_Fold.j1 kj5 a0 t183)) = some r := by rw [if_neg (show ¬ (false = true) by decide)] at H; exact H
        clear H
        have H := H1
        clear H1
        replace H := Option.bind_eq_some_iff.mp H
        obtain ⟨t183, A140, H⟩ := H
        replace H : (impl_Fold.j1 kj5 a0 t183) = some r := H
        have A14 := Aside0.mk A140
        clear A140
        have H' := Aside0.mk H
        clear H
        go_wp2_with (first | ((with_reducible refine gate_callee (f := 102) rfl ?_); refine goesL_ (some 13) rfl rfl Tryd.func102 (by kernel_rfl) rfl #[.int .i64 a0, .int .i64 913, .int .i64 939] rfl zar ?_; (with_reducible refine (impl_within.calls a0 913 939 false _ A10.out).mono ?_); rintro e w' ⟨rfl, ⟨nd, rfl⟩⟩; refine ⟨_, rfl, ?_⟩) | ((with_reducible refine gate_callee (f := 102) rfl ?_); refine goesL_ (some 19) rfl rfl Tryd.func102 (by kernel_rfl) rfl #[.int .i64 a0, .int .i64 1040, .int .i64 1071] rfl zar ?_; (with_reducible refine (impl_within.calls a0 1040 1071 t183 _ A14.out).mono ?_); rintro e w' ⟨rfl, ⟨nd, rfl⟩⟩; refine ⟨_, rfl, ?_⟩))
        go_meet
        case rel => exact ⟨_, (t183), (by first | rfl | (simp; done) | (simp [*]; done)), H', ⟨by have := HJ5.out; first | omega | exact Nat.le_refl _⟩, by repeat (first | exact Drawn0.refl _ | apply Drawn0.step)⟩
  case rest =>
   clear HC4
   try clear c1
   try clear p2
   try clear c5
   try clear c8
   try clear c9
   try clear c10
   try clear c11
   try clear c12
   try clear c12b0
   try clear c12b1
   try clear p2
   obtain ⟨kq, x3_3, rfl, HA, HJ3, ⟨mc3, rfl⟩⟩ := hcut
   cases kq with
   | zero => exact absurd HA.out (by simp [impl_Fold.j1])
   | succ kj3 =>
    have H := HA.out
    clear HA
    simp only [impl_Fold.j1] at H
    by_cases c15 : x3_3 = true
    ·subst c15
     have H1 : (impl_Fold.j2 kj3 (wrap64 (a0 + 32))) = some r := by rw [if_pos rfl] at H; exact H
     clear H
     have H := H1
     clear H1
     have H' := Aside0.mk H
     clear H
     go_wp2
     go_meet
     case rel => exact ⟨_, (wrap64 (a0 + 32)), (by first | rfl | (simp; done) | (simp [*]; done)), H', ⟨by have := HJ3.out; first | omega | exact Nat.le_refl _⟩, by repeat (first | exact Drawn0.refl _ | apply Drawn0.step)⟩
    ·replace c15 := Bool.eq_false_iff.mpr c15
     subst c15
     have H1 : ((impl_within.f a0 1024 1039).bind fun t184 => (if t184 = true then (impl_Fold.j2 kj3 (wrap64 (a0 + 80))) else (impl_Fold.j2 kj3 a0))) = some r := by rw [if_neg (show ¬ (false = true) by decide)] at H; exact H
     clear H
     have H := H1
     clear H1
     replace H := Option.bind_eq_some_iff.mp H
     obtain ⟨t184, A160, H⟩ := H
     replace H : (if t184 = true then (impl_Fold.j2 kj3 (wrap64 (a0 + 80))) else (impl_Fold.j2 kj3 a0)) = some r := H
     have A16 := Aside0.mk A160
     clear A160
     by_cases c17 : t184 = true
     ·subst c17
      have H1 : (impl_Fold.j2 kj3 (wrap64 (a0 + 80))) = some r := by rw [if_pos rfl] at H; exact H
      clear H
      have H := H1
      clear H1
      have H' := Aside0.mk H
      clear H
      go_wp2_with (first | ((with_reducible refine gate_callee (f := 102) rfl ?_); refine goesL_ (some 24) rfl rfl Tryd.func102 (by kernel_rfl) rfl #[.int .i64 a0, .int .i64 1024, .int .i64 1039] rfl zar ?_; (with_reducible refine (impl_within.calls a0 1024 1039 true _ A16.out).mono ?_); rintro e w' ⟨rfl, ⟨nd, rfl⟩⟩; refine ⟨_, rfl, ?_⟩))
      go_meet
      case rel => exact ⟨_, (wrap64 (a0 + 80)), (by first | rfl | (simp; done) | (simp [*]; done)), H', ⟨by have := HJ3.out; first | omega | exact Nat.le_refl _⟩, by repeat (first | exact Drawn0.refl _ | apply Drawn0.step)⟩
     ·replace c17 := Bool.eq_false_iff.mpr c17
      subst c17
      have H1 : (impl_Fold.j2 kj3 a0) = some r := by rw [if_neg (show ¬ (false = true) by decide)] at H; exact H
      clear H
      have H := H1
      clear H1
      have H' := Aside0.mk H
      clear H
      go_wp2_with (first | ((with_reducible refine gate_callee (f := 102) rfl ?_); refine goesL_ (some 24) rfl rfl Tryd.func102 (by kernel_rfl) rfl #[.int .i64 a0, .int .i64 1024, .int .i64 1039] rfl zar ?_; (with_reducible refine (impl_within.calls a0 1024 1039 false _ A16.out).mono ?_); rintro e w' ⟨rfl, ⟨nd, rfl⟩⟩; refine ⟨_, rfl, ?_⟩))
      go_meet
      case rel => exact ⟨_, (a0), (by first | rfl | (simp; done) | (simp [*]; done)), H', ⟨by have := HJ3.out; first | omega | exact Nat.le_refl _⟩, by repeat (first | exact Drawn0.refl _ | apply Drawn0.step)⟩
 case rest =>
  clear HC2
  try clear c1
  try clear p2
  try clear c3
  try clear c5
  try clear p6
  try clear c8
  try clear c9
  try clear c10
  try clear c11
  try clear c12
  try clear c12b0
  try clear c12b1
  try clear c15
  try clear c17
  try clear p2
  obtain ⟨kq, x0_1, rfl, HA, HJ1, ⟨mc1, rfl⟩⟩ := hcut
  cases kq with
  | zero => exact absurd HA.out (by simp [impl_Fold.j2])
  | succ kj1 =>
   have H := HA.out
   clear HA
   simp only [impl_Fold.j2] at H
   replace H := Option.bind_eq_some_iff.mp H
   obtain ⟨t185, A180, H⟩ := H
   replace H : (if t185 = true then (some 97) else (if x0_1 = 231 then (some 99) else ((impl_within.f x0_1 232 235).bind fun t186 => (if t186 = true then (some 101) else ((impl_within.f x0_1 236 239).bind fun t187 => (if t187 = true then (some 105) else (if x0_1 = 241 then (some 110) else ((impl_within.f x0_1 242 246).bind fun t188 => (if t188 = true then (impl_Fold.j3 kj1 x0_1 t188) else (impl_Fold.j3 kj1 x0_1 (x0_1 == 248))))))))))) = some r := H
   have A18 := Aside0.mk A180
   clear A180
   by_cases c19 : t185 = true
   ·subst c19
    have H1 : (some 97) = some r := by rw [if_pos rfl] at H; exact H
    clear H
    have H := H1
    clear H1
    obtain rfl := Option.some.inj H
    go_wp2_with (first | ((with_reducible refine gate_callee (f := 102) rfl ?_); refine goesL_ (some 29) rfl rfl Tryd.func102 (by kernel_rfl) rfl #[.int .i64 x0_1, .int .i64 224, .int .i64 229] rfl zar ?_; (with_reducible refine (impl_within.calls x0_1 224 229 true _ A18.out).mono ?_); rintro e w' ⟨rfl, ⟨nd, rfl⟩⟩; refine ⟨_, rfl, ?_⟩))
    go_ret
    exact ⟨by first | rfl | (simp; done) | (simp [*]; done), by repeat (first | exact Drawn0.refl _ | apply Drawn0.step)⟩
   ·replace c19 := Bool.eq_false_iff.mpr c19
    subst c19
    have H1 : (if x0_1 = 231 then (some 99) else ((impl_within.f x0_1 232 235).bind fun t186 => (if t186 = true then (some 101) else ((impl_within.f x0_1 236 239).bind fun t187 => (if t187 = true then (some 105) else (if x0_1 = 241 then (some 110) else ((impl_within.f x0_1 242 246).bind fun t188 => (if t188 = true then (impl_Fold.j3 kj1 x0_1 t188) else (impl_Fold.j3 kj1 x0_1 (x0_1 == 248)))))))))) = some r := by rw [if_neg (show ¬ (false = true) by decide)] at H; exact H
    clear H
    have H := H1
    clear H1
    by_cases c20 : x0_1 = 231
    ·rw [if_pos c20] at H
     have c20b0 : (x0_1 == 231) = true := beq_iff_eq.mpr c20
     have c20b1 : (x0_1 != 231) = false := bne_eq_false_iff_eq.mpr c20
     clear c20
     obtain rfl := Option.some.inj H
     go_wp2_with (first | ((with_reducible refine gate_callee (f := 102) rfl ?_); refine goesL_ (some 29) rfl rfl Tryd.func102 (by kernel_rfl) rfl #[.int .i64 x0_1, .int .i64 224, .int .i64 229] rfl zar ?_; (with_reducible refine (impl_within.calls x0_1 224 229 false _ A18.out).mono ?_); rintro e w' ⟨rfl, ⟨nd, rfl⟩⟩; refine ⟨_, rfl, ?_⟩))
     go_ret
     exact ⟨by first | rfl | (simp; done) | (simp [*]; done), by repeat (first | exact Drawn0.refl _ | apply Drawn0.step)⟩
    ·rw [if_neg c20] at H
     have c20b0 : (x0_1 == 231) = false := beq_eq_false_iff_ne.mpr c20
     have c20b1 : (x0_1 != 231) = true := bne_iff_ne.mpr c20
     replace H := Option.bind_eq_some_iff.mp H
     obtain ⟨t186, A210, H⟩ := H
     replace H : (if t186 = true then (some 101) else ((impl_within.f x0_1 236 239).bind fun t187 => (if t187 = true then (some 105) else (if x0_1 = 241 then (some 110) else ((impl_within.f x0_1 242 246).bind fun t188 => (if t188 = true then (impl_Fold.j3 kj1 x0_1 t188) else (impl_Fold.j3 kj1 x0_1 (x0_1 == 248)))))))) = some r := H
     have A21 := Aside0.mk A210
     clear A210
     by_cases c22 : t186 = true
     ·subst c22
      have H1 : (some 101) = some r := by rw [if_pos rfl] at H; exact H
      clear H
      have H := H1
      clear H1
      obtain rfl := Option.some.inj H
      go_wp2_with (first | ((with_reducible refine gate_callee (f := 102) rfl ?_); refine goesL_ (some 29) rfl rfl Tryd.func102 (by kernel_rfl) rfl #[.int .i64 x0_1, .int .i64 224, .int .i64 229] rfl zar ?_; (with_reducible refine (impl_within.calls x0_1 224 229 false _ A18.out).mono ?_); rintro e w' ⟨rfl, ⟨nd, rfl⟩⟩; refine ⟨_, rfl, ?_⟩) | ((with_reducible refine gate_callee (f := 102) rfl ?_); refine goesL_ (some 35) rfl rfl Tryd.func102 (by kernel_rfl) rfl #[.int .i64 x0_1, .int .i64 232, .int .i64 235] rfl zar ?_; (with_reducible refine (impl_within.calls x0_1 232 235 true _ A21.out).mono ?_); rintro e w' ⟨rfl, ⟨nd, rfl⟩⟩; refine ⟨_, rfl, ?_⟩))
      go_ret
      exact ⟨by first | rfl | (simp; done) | (simp [*]; done), by repeat (first | exact Drawn0.refl _ | apply Drawn0.step)⟩
     ·replace c22 := Bool.eq_false_iff.mpr c22
      subst c22
      have H1 : ((impl_within.f x0_1 236 239).bind fun t187 => (if t187 = true then (some 105) else (if x0_1 = 241 then (some 110) else ((impl_within.f x0_1 242 246).bind fun t188 => (if t188 = true then (impl_Fold.j3 kj1 x0_1 t188) else (impl_Fold.j3 kj1 x0_1 (x0_1 == 248))))))) = some r := by rw [if_neg (show ¬ (false = true) by decide)] at H; exact H
      clear H
      have H := H1
      clear H1
      replace H := Option.bind_eq_some_iff.mp H
      obtain ⟨t187, A230, H⟩ := H
      replace H : (if t187 = true then (some 105) else (if x0_1 = 241 then (some 110) else ((impl_within.f x0_1 242 246).bind fun t188 => (if t188 = true then (impl_Fold.j3 kj1 x0_1 t188) else (impl_Fold.j3 kj1 x0_1 (x0_1 == 248)))))) = some r := H
      have A23 := Aside0.mk A230
      clear A230
      by_cases c24 : t187 = true
      ·subst c24
       have H1 : (some 105) = some r := by rw [if_pos rfl] at H; exact H
       clear H
       have H := H1
       clear H1
       obtain rfl := Option.some.inj H
       go_wp2_with (first | ((with_reducible refine gate_callee (f := 102) rfl ?_); refine goesL_ (some 29) rfl rfl Tryd.func102 (by kernel_rfl) rfl #[.int .i64 x0_1, .int .i64 224, .int .i64 229] rfl zar ?_; (with_reducible refine (impl_within.calls x0_1 224 229 false _ A18.out).mono ?_); rintro e w' ⟨rfl, ⟨nd, rfl⟩⟩; refine ⟨_, rfl, ?_⟩) | ((with_reducible refine gate_callee (f := 102) rfl ?_); refine goesL_ (some 35) rfl rfl Tryd.func102 (by kernel_rfl) rfl #[.int .i64 x0_1, .int .i64 232, .int .i64 235] rfl zar ?_; (with_reducible refine (impl_within.calls x0_1 232 235 false _ A21.out).mono ?_); rintro e w' ⟨rfl, ⟨nd, rfl⟩⟩; refine ⟨_, rfl, ?_⟩) | ((with_reducible refine gate_callee (f := 102) rfl ?_); refine goesL_ (some 38) rfl rfl Tryd.func102 (by kernel_rfl) rfl #[.int .i64 x0_1, .int .i64 236, .int .i64 239] rfl zar ?_; (with_reducible refine (impl_within.calls x0_1 236 239 true _ A23.out).mono ?_); rintro e w' ⟨rfl, ⟨nd, rfl⟩⟩; refine ⟨_, rfl, ?_⟩))
       go_ret
       exact ⟨by first | rfl | (simp; done) | (simp [*]; done), by repeat (first | exact Drawn0.refl _ | apply Drawn0.step)⟩
      ·replace c24 := Bool.eq_false_iff.mpr c24
       subst c24
       have H1 : (if x0_1 = 241 then (some 110) else ((impl_within.f x0_1 242 246).bind fun t188 => (if t188 = true then (impl_Fold.j3 kj1 x0_1 t188) else (impl_Fold.j3 kj1 x0_1 (x0_1 == 248))))) = some r := by rw [if_neg (show ¬ (false = true) by decide)] at H; exact H
       clear H
       have H := H1
       clear H1
       by_cases c25 : x0_1 = 241
       ·rw [if_pos c25] at H
        have c25b0 : (x0_1 == 241) = true := beq_iff_eq.mpr c25
        have c25b1 : (x0_1 != 241) = false := bne_eq_false_iff_eq.mpr c25
        clear c25
        obtain rfl := Option.some.inj H
        go_wp2_with (first | ((with_reducible refine gate_callee (f := 102) rfl ?_); refine goesL_ (some 29) rfl rfl Tryd.func102 (by kernel_rfl) rfl #[.int .i64 x0_1, .int .i64 224, .int .i64 229] rfl zar ?_; (with_reducible refine (impl_within.calls x0_1 224 229 false _ A18.out).mono ?_); rintro e w' ⟨rfl, ⟨nd, rfl⟩⟩; refine ⟨_, rfl, ?_⟩) | ((with_reducible refine gate_callee (f := 102) rfl ?_); refine goesL_ (some 35) rfl rfl Tryd.func102 (by kernel_rfl) rfl #[.int .i64 x0_1, .int .i64 232, .int .i64 235] rfl zar ?_; (with_reducible refine (impl_within.calls x0_1 232 235 false _ A21.out).mono ?_); rintro e w' ⟨rfl, ⟨nd, rfl⟩⟩; refine ⟨_, rfl, ?_⟩) | ((with_reducible refine gate_callee (f := 102) rfl ?_); refine goesL_ (some 38) rfl rfl Tryd.func102 (by kernel_rfl) rfl #[.int .i64 x0_1, .int .i64 236, .int .i64 239] rfl zar ?_; (with_reducible refine (impl_within.calls x0_1 236 239 false _ A23.out).mono ?_); rintro e w' ⟨rfl, ⟨nd, rfl⟩⟩; refine ⟨_, rfl, ?_⟩))
        go_ret
        exact ⟨by first | rfl | (simp; done) | (simp [*]; done), by repeat (first | exact Drawn0.refl _ | apply Drawn0.step)⟩
       ·rw [if_neg c25] at H
        have c25b0 : (x0_1 == 241) = false := beq_eq_false_iff_ne.mpr c25
        have c25b1 : (x0_1 != 241) = true := bne_iff_ne.mpr c25
        replace H := Option.bind_eq_some_iff.mp H
        obtain ⟨t188, A260, H⟩ := H
        replace H : (if t188 = true then (impl_Fold.j3 kj1 x0_1 t188) else (impl_Fold.j3 kj1 x0_1 (x0_1 == 248))) = some r := H
        have A26 := Aside0.mk A260
        clear A260
        have HC27 := Aside0.mk H
        clear H
        go_upto_if 42 with (first | ((with_reducible refine gate_callee (f := 102) rfl ?_); refine goesL_ (some 29) rfl rfl Tryd.func102 (by kernel_rfl) rfl #[.int .i64 x0_1, .int .i64 224, .int .i64 229] rfl zar ?_; (with_reducible refine (impl_within.calls x0_1 224 229 false _ A18.out).mono ?_); rintro e w' ⟨rfl, ⟨nd, rfl⟩⟩; refine ⟨_, rfl, ?_⟩) | ((with_reducible refine gate_callee (f := 102) rfl ?_); refine goesL_ (some 35) rfl rfl Tryd.func102 (by kernel_rfl) rfl #[.int .i64 x0_1, .int .i64 232, .int .i64 235] rfl zar ?_; (with_reducible refine (impl_within.calls x0_1 232 235 false _ A21.out).mono ?_); rintro e w' ⟨rfl, ⟨nd, rfl⟩⟩; refine ⟨_, rfl, ?_⟩) | ((with_reducible refine gate_callee (f := 102) rfl ?_); refine goesL_ (some 38) rfl rfl Tryd.func102 (by kernel_rfl) rfl #[.int .i64 x0_1, .int .i64 236, .int .i64 239] rfl zar ?_; (with_reducible refine (impl_within.calls x0_1 236 239 false _ A23.out).mono ?_); rintro e w' ⟨rfl, ⟨nd, rfl⟩⟩; refine ⟨_, rfl, ?_⟩) | ((with_reducible refine gate_callee (f := 102) rfl ?_); refine goesL_ (some 44) rfl rfl Tryd.func102 (by kernel_rfl) rfl #[.int .i64 x0_1, .int .i64 242, .int .i64 246] rfl zar ?_; (with_reducible refine (impl_within.calls x0_1 242 246 t188 _ A26.out).mono ?_); rintro e w' ⟨rfl, ⟨nd, rfl⟩⟩; refine ⟨_, rfl, ?_⟩))
        (try simp only [Act.put, List.setIfInBounds_toArray, List.set_cons_zero, List.set_cons_succ])
        go_cut [42] (fun v42 wc => ∃ (kq : Nat) (x42_26 : Bool), v42 = .bool x42_26 ∧ Aside0 (impl_Fold.j3 kq x0_1 x42_26 = some r) ∧ Aside0 (kq ≤ kj1) ∧ Drawn0 w wc)
        case first =>
         have H := HC27.out
         clear HC27
         by_cases c28 : t188 = true
         ·subst c28
          have H1 : (impl_Fold.j3 kj1 x0_1 true) = some r := by rw [if_pos rfl] at H; exact H
          clear H
          have H := H1
          clear H1
          have H' := Aside0.mk H
          clear H
          go_wp2
          go_meet
          case rel => exact ⟨_, (true), (by first | rfl | (simp; done) | (simp [*]; done)), H', ⟨by have := HJ1.out; first | omega | exact Nat.le_refl _⟩, by repeat (first | exact Drawn0.refl _ | apply Drawn0.step)⟩
         ·replace c28 := Bool.eq_false_iff.mpr c28
          subst c28
          have H1 : (impl_Fold.j3 kj1 x0_1 (x0_1 == 248)) = some r := by rw [if_neg (show ¬ (false = true) by decide)] at H; exact H
          clear H
          have H := H1
          clear H1
          have H' := Aside0.mk H
          clear H
          go_wp2
          go_meet
          case rel => exact ⟨_, ((x0_1 == 248)), (by first | rfl | (simp; done) | (simp [*]; done)), H', ⟨by have := HJ1.out; first | omega | exact Nat.le_refl _⟩, by repeat (first | exact Drawn0.refl _ | apply Drawn0.step)⟩
        case rest =>
         clear HC27
         try clear c1
         try clear c2
         try clear p2
         try clear c3
         try clear c5
         try clear p6
         try clear c8
         try clear c9
         try clear c10
         try clear c11
         try clear c12
         try clear c12b0
         try clear c12b1
         try clear c15
         try clear c17
         try clear c19
         try clear c20
         try clear c20b0
         try clear c20b1
         try clear c22
         try clear c24
         try clear c25
         try clear c25b0
         try clear c25b1
         try clear c28
         try clear p2
         try clear p6
         obtain ⟨kq, x42_26, rfl, HA, HJ26, ⟨mc26, rfl⟩⟩ := hcut
         cases kq with
         | zero => exact absurd HA.out (by simp [impl_Fold.j3])
         | succ kj26 =>
          have H := HA.out
          clear HA
          simp only [impl_Fold.j3] at H
          by_cases c29 : x42_26 = true
          ·subst c29
           have H1 : (some 111) = some r := by rw [if_pos rfl] at H; exact H
           clear H
           have H := H1
           clear H1
           obtain rfl := Option.some.inj H
           go_wp2
           go_ret
           exact ⟨by first | rfl | (simp; done) | (simp [*]; done), by repeat (first | exact Drawn0.refl _ | apply Drawn0.step)⟩
          ·replace c29 := Bool.eq_false_iff.mpr c29
           subst c29
           have H1 : ((impl_within.f x0_1 249 252).bind fun t189 => (if t189 = true then (some 117) else (if x0_1 = 253 then (some 121) else (if x0_1 = 255 then (some 121) else (some x0_1))))) = some r := by rw [if_neg (show ¬ (false = true) by decide)] at H; exact H
           clear H
           have H := H1
           clear H1
           replace H := Option.bind_eq_some_iff.mp H
           obtain ⟨t189, A300, H⟩ := H
           replace H : (if t189 = true then (some 117) else (if x0_1 = 253 then (some 121) else (if x0_1 = 255 then (some 121) else (some x0_1)))) = some r := H
           have A30 := Aside0.mk A300
           clear A300
           by_cases c31 : t189 = true
           ·subst c31
            have H1 : (some 117) = some r := by rw [if_pos rfl] at H; exact H
            clear H
            have H := H1
            clear H1
            obtain rfl := Option.some.inj H
            go_wp2_with (first | ((with_reducible refine gate_callee (f := 102) rfl ?_); refine goesL_ (some 49) rfl rfl Tryd.func102 (by kernel_rfl) rfl #[.int .i64 x0_1, .int .i64 249, .int .i64 252] rfl zar ?_; (with_reducible refine (impl_within.calls x0_1 249 252 true _ A30.out).mono ?_); rintro e w' ⟨rfl, ⟨nd, rfl⟩⟩; refine ⟨_, rfl, ?_⟩))
            go_ret
            exact ⟨by first | rfl | (simp; done) | (simp [*]; done), by repeat (first | exact Drawn0.refl _ | apply Drawn0.step)⟩
           ·replace c31 := Bool.eq_false_iff.mpr c31
            subst c31
            have H1 : (if x0_1 = 253 then (some 121) else (if x0_1 = 255 then (some 121) else (some x0_1))) = some r := by rw [if_neg (show ¬ (false = true) by decide)] at H; exact H
            clear H
            have H := H1
            clear H1
            by_cases c32 : x0_1 = 253
            ·rw [if_pos c32] at H
             have c32b0 : (x0_1 == 253) = true := beq_iff_eq.mpr c32
             have c32b1 : (x0_1 != 253) = false := bne_eq_false_iff_eq.mpr c32
             clear c32
             obtain rfl := Option.some.inj H
             go_wp2_with (first | ((with_reducible refine gate_callee (f := 102) rfl ?_); refine goesL_ (some 49) rfl rfl Tryd.func102 (by kernel_rfl) rfl #[.int .i64 x0_1, .int .i64 249, .int .i64 252] rfl zar ?_; (with_reducible refine (impl_within.calls x0_1 249 252 false _ A30.out).mono ?_); rintro e w' ⟨rfl, ⟨nd, rfl⟩⟩; refine ⟨_, rfl, ?_⟩))
             go_ret
             exact ⟨by first | rfl | (simp; done) | (simp [*]; done), by repeat (first | exact Drawn0.refl _ | apply Drawn0.step)⟩
            ·rw [if_neg c32] at H
             have c32b0 : (x0_1 == 253) = false := beq_eq_false_iff_ne.mpr c32
             have c32b1 : (x0_1 != 253) = true := bne_iff_ne.mpr c32
             by_cases c33 : x0_1 = 255
             ·rw [if_pos c33] at H
              have c33b0 : (x0_1 == 255) = true := beq_iff_eq.mpr c33
              have c33b1 : (x0_1 != 255) = false := bne_eq_false_iff_eq.mpr c33
              clear c33
              obtain rfl := Option.some.inj H
              go_wp2_with (first | ((with_reducible refine gate_callee (f := 102) rfl ?_); refine goesL_ (some 49) rfl rfl Tryd.func102 (by kernel_rfl) rfl #[.int .i64 x0_1, .int .i64 249, .int .i64 252] rfl zar ?_; (with_reducible refine (impl_within.calls x0_1 249 252 false _ A30.out).mono ?_); rintro e w' ⟨rfl, ⟨nd, rfl⟩⟩; refine ⟨_, rfl, ?_⟩))
              go_ret
              exact ⟨by first | rfl | (simp; done) | (simp [*]; done), by repeat (first | exact Drawn0.refl _ | apply Drawn0.step)⟩
             ·rw [if_neg c33] at H
              have c33b0 : (x0_1 == 255) = false := beq_eq_false_iff_ne.mpr c33
              have c33b1 : (x0_1 != 255) = true := bne_iff_ne.mpr c33
              obtain rfl := Option.some.inj H
              go_wp2_with (first | ((with_reducible refine gate_callee (f := 102) rfl ?_); refine goesL_ (some 49) rfl rfl Tryd.func102 (by kernel_rfl) rfl #[.int .i64 x0_1, .int .i64 249, .int .i64 252] rfl zar ?_; (with_reducible refine (impl_within.calls x0_1 249 252 false _ A30.out).mono ?_); rintro e w' ⟨rfl, ⟨nd, rfl⟩⟩; refine ⟨_, rfl, ?_⟩))
              go_ret
              exact ⟨by first | rfl | (simp; done) | (simp [*]; done), by repeat (first | exact Drawn0.refl _ | apply Drawn0.step)⟩

/-! ### impl_FoldText: function 21 -/
def impl_FoldText.l0 : Nat → List Int → Int → Int → Option (ByteArray × Int)
 | 0, _, _, _ => none
 | k + 1, x4, x16, x17 => if x17 < x16 then (if 0 ≤ x17 then (if x17 < (x4.length : Int) then ((impl_Fold.f k (rd x4 x17)).bind fun t195 => (impl_FoldText.l0 k (x4.set (x17 : Int).toNat t195) x16 (wrap64 (x17 + 1)))) else (none)) else (none)) else ((impl_Encode.f k x4).bind fun bt197 => (some (bt197.1, bt197.2)))
def impl_FoldText.f (k : Nat) (a0 : ByteArray) : Option (ByteArray × Int) := (impl_Decode.f a0).bind fun bt190 => (if bt190.2 = 0 then (impl_FoldText.l0 k bt190.1 (bt190.1.length : Int) 0) else (some ((⟨#[]⟩ : ByteArray), bt190.2)))
theorem impl_FoldText.mono_l : ∀ k, (∀ y0 y1 y2, LeO (impl_FoldText.l0 k y0 y1 y2) (impl_FoldText.l0 (k + 1) y0 y1 y2))
 | 0 => fun _ _ _ r h => by simp [impl_FoldText.l0] at h
 | k + 1 => by
  have ih0 := impl_FoldText.mono_l k
  ·intro y0 y1 y2
   unfold impl_FoldText.l0
   repeat' first
   | (with_reducible exact ih0 _ _ _)
   | (with_reducible exact impl_Encode.mono _ _)
   | (with_reducible exact impl_Fold.mono _ _)
   | (with_reducible exact LeO.refl _)
   | (with_reducible exact LeO.none _)
   | (with_reducible refine LeO.ite ?_ ?_)
   | (with_reducible refine LeO.bind ?_ (fun _ => ?_))
   | exact ih0 _ _ _
   | exact impl_Encode.mono _ _
   | exact impl_Fold.mono _ _
   | exact LeO.none _
   | refine LeO.ite ?_ ?_
   | refine LeO.bind ?_ (fun _ => ?_)
theorem impl_FoldText.mono : ∀ a0 k, LeO (impl_FoldText.f k a0) (impl_FoldText.f (k + 1) a0) := by
 intro a0 k
 have ih0 := impl_FoldText.mono_l k
 unfold impl_FoldText.f
 repeat' first
  | (with_reducible exact ih0 _ _ _)
  | (with_reducible exact impl_Encode.mono _ _)
  | (with_reducible exact impl_Fold.mono _ _)
  | (with_reducible exact LeO.refl _)
  | (with_reducible exact LeO.none _)
  | (with_reducible refine LeO.ite ?_ ?_)
  | (with_reducible refine LeO.bind ?_ (fun _ => ?_))
  | exact ih0 _ _ _
  | exact impl_Encode.mono _ _
  | exact impl_Fold.mono _ _
  | exact LeO.none _
  | refine LeO.ite ?_ ?_
  | refine LeO.bind ?_ (fun _ => ?_)
set_option maxHeartbeats 8000000 in
set_option maxRecDepth 100000 in
theorem impl_FoldText.calls (k : Nat) (a0 : ByteArray) (r1 : ByteArray) (r2 : Int) (w : World) (hT : TabW w) (h : impl_FoldText.f k a0 = some (r1, r2)) :
 Calls Tryd.prog 21 #[.string a0] w fun e w' => e = .returned (.tuple #[.string r1, .int .i64 r2]) ∧ Below w.heap.size w w' := by
 have HB := Aside0.mk (Below.refl w.heap.size w)
 have HT := Aside0.mk hT
 clear hT
 have H : ((impl_Decode.f a0).bind fun bt190 => (if bt190.2 = 0 then (impl_FoldText.l0 k bt190.1 (bt190.1.length : Int) 0) else (some ((⟨#[]⟩ : ByteArray), bt190.2)))) = some (r1, r2) := h
 clear h
 replace H := Option.bind_eq_some_iff.mp H
 obtain ⟨⟨t190, t191⟩, A20, H⟩ := H
 replace H : (if t191 = 0 then (impl_FoldText.l0 k t190 (t190.length : Int) 0) else (some ((⟨#[]⟩ : ByteArray), t191))) = some (r1, r2) := H
 have A2 := Aside0.mk A20
 clear A20
 by_cases c3 : t191 = 0
 ·rw [if_pos c3] at H
  have c3b0 : (t191 == 0) = true := beq_iff_eq.mpr c3
  have c3b1 : (t191 != 0) = false := bne_eq_false_iff_eq.mpr c3
  clear c3
  have H' := Aside0.mk H
  clear H
  go_enter Tryd.func21, Tryd.ntmps21
  go_wp2_with (first | ((with_reducible refine gate_callee (f := 16) rfl ?_); refine goesL_ (some 9) rfl rfl Tryd.func16 (by kernel_rfl) rfl #[.string a0] rfl zar ?_; (with_reducible refine (impl_Decode.calls a0 t190 t191 _ ?side1 A2.out).mono ?_); (case side1 => exact TabW.below HT.out (zh HB)); rintro e w4 ⟨v192, rfl, ho0, hb⟩; refine ⟨_, rfl, ?_⟩; have n0_ := Aside0.mk (Kd.R_lower ho0 (below_size (zh HB))); have n1_ := Aside0.mk (below_step (zh HB) hb); clear HB; have HO193 := n0_; have HB := n1_; clear n0_ n1_; (try clear hb); (try clear hb2); (try clear hk); (try clear hi); (try clear ho0); obtain ⟨Ao5, co5, eo5⟩ := Kd.R_slice HO193.out; subst eo5))
  go_loopg [17] k (fun kq v17 w' => ∃ (x4_1 : List Int) (x17_1 : Int), v17 = .int .i64 x17_1 ∧ Aside0 (impl_FoldText.l0 kq x4_1 (t190.length : Int) x17_1 = some (r1, r2)) ∧ Aside0 (kq ≤ k) ∧ Aside0 (Kd.R (Kd.int .i64) 3 w' w.heap.size (fun _ => True) (.slice Ao5 t190.length co5) x4_1) ∧ Aside0 (Below w.heap.size w w'))
  case atStart => exact ⟨(t190), (0), (by first | rfl | (simp; done) | (simp [*]; done)), H', ⟨Nat.le_refl _⟩, ⟨zr HO193⟩, ⟨zh HB⟩⟩
  case round =>
   clear H'
   try clear c1
   try clear c2
   try clear p2
   try clear c3
   try clear c3b0
   try clear c3b1
   obtain ⟨x4_1, x17_1, rfl, HA, HK1, HO_4, HB⟩ := hrel
   have hl4_1 := (Kd.R_reads' HO_4.out).1
   rw [hl4_1] at HO_4
   (try simp only [hl4_1])
   cases gk with
   | zero => exact absurd HA.out (by simp [impl_FoldText.l0])
   | succ k1 =>
    have H := HA.out
    clear HA
    simp only [impl_FoldText.l0] at H
    by_cases c6 : x17_1 < (t190.length : Int)
    ·rw [if_pos c6] at H
     have c6b0 : decide (x17_1 < (t190.length : Int)) = true := decide_eq_true c6
     have c6b0l : decide (x17_1 < (x4_1.length : Int)) = true := by rw [← hl4_1]; exact c6b0
     clear c6
     by_cases c7 : 0 ≤ x17_1
     ·rw [if_pos c7] at H
      have c7b0 : decide (0 ≤ x17_1) = true := decide_eq_true c7
      clear c7
      by_cases c8 : x17_1 < (x4_1.length : Int)
      ·rw [if_pos c8] at H
       have c8b0 : decide (x17_1 < (x4_1.length : Int)) = true := decide_eq_true c8
       clear c8
       replace H := Option.bind_eq_some_iff.mp H
       obtain ⟨t195, A90, H⟩ := H
       replace H : (impl_FoldText.l0 k1 (x4_1.set (x17_1 : Int).toNat t195) (t190.length : Int) (wrap64 (x17_1 + 1))) = some (r1, r2) := H
       have A9 := Aside0.mk A90
       clear A90
       obtain ⟨y196, hy196⟩ : ∃ y_ : List Int, y_ = (x4_1.set (x17_1 : Int).toNat t195) := ⟨_, rfl⟩
       replace H : (impl_FoldText.l0 k1 y196 (t190.length : Int) (wrap64 (x17_1 + 1))) = some (r1, r2) := by first | (rw [hy196]; with_reducible exact H) | (have H2_ := (Option.bind_some _ _).symm.trans H; rw [hy196]; with_reducible exact H2_) | (have H2_ := (Option.bind_some _ _).symm.trans H; with_reducible exact H2_) | with_reducible exact H | (rw [hy196]; exact H) | exact H
       have Ny196 := Aside0.mk hy196
       clear hy196
       have H' := Aside0.mk H
       clear H
       have p194 : 0 ≤ (x17_1 : Int) := of_decide_eq_true zas
       have q194 : x17_1 < (x4_1.length : Int) := of_decide_eq_true zas
       obtain ⟨ad194, e194, hx194_0⟩ := Kd.at_int (Kd.R_reads' HO_4.out).2.2 x17_1 p194 q194
       cases e194
       replace p194 := eq_true p194
       replace q194 := eq_true q194
       go_wp2_with (first | ((with_reducible refine gate_callee (f := 55) rfl ?_); refine goesL_ (some 26) rfl rfl Tryd.func55 (by kernel_rfl) rfl #[.int .i64 (rd x4_1 x17_1)] rfl zar ?_; (with_reducible refine (impl_Fold.calls k1 (rd x4_1 x17_1) t195 _ A9.out).mono ?_); rintro e w' ⟨rfl, ⟨nd, rfl⟩⟩; refine ⟨_, rfl, ?_⟩; (try (rw [drewN_self wr]; generalize hq_ : World.drewN wr _ = wr; have n0_ : Aside0 (Kd.R (Kd.int .i64) 3 wr w.heap.size (fun _ => True) (.slice (some ad194) x4_1.length co5) x4_1) := ⟨by rw [← hq_]; exact (zr HO_4)⟩; have n1_ : Aside0 (Below w.heap.size w wr) := ⟨by rw [← hq_]; exact (zh HB)⟩; clear HO_4 HB hq_; have HO_4 := n0_; have HB := n1_; clear n0_ n1_)); have p10 : 0 ≤ (x17_1 : Int) := of_decide_eq_true zas; have q10 : (x17_1 : Int) < ((x4_1.length : Int) : Int) := of_decide_eq_true zas; obtain ⟨go10, co10, eo10, gb10, gl10, cl10, HG10⟩ := Kd.R_form HO_4.out (by omega); (first | cases eo10 | (injection eo10 with ea_ en_ ec_; (first | subst ea_ | (injection ea_ with ea_; subst ea_)); subst ec_; clear en_)); have GB10 := Aside0.mk gb10; have GG10 := Aside0.mk HG10; clear gb10 gl10 HG10; (first | simp only [add_plain] at hx194_0 | skip); obtain ⟨hx10_0, hf10_0⟩ := Kd.R_celln 0 HO_4.out (x17_1 : Int) p10 q10; replace p10 := eq_true p10; replace q10 := eq_true q10; obtain ⟨hy11_, hz11_⟩ := Kd.R_celln 0 HO_4.out (x17_1 : Int) (of_decide_eq_true zas) (of_decide_eq_true zas); have HP11 := Kd.R_putg HO_4.out (x17_1 : Int) t195) | ((with_reducible refine gate_store (t := 3) (p := 27) rfl ?_); refine store_event (t := 3) (p := 27) (v := ?vo_w12) (w1 := (wr.setCell ⟨go10, (x17_1 : Int).toNat, none⟩ (.int .i64 t195))) ?hg ?ho ?hn ?hr ?_; (case ho => rfl); (case hg => rfl); (case hn => rfl); (case hr => first | (go_simp; done) | (go_simp; rfl)); intro w12 hw; have hg : wr.grownBy w12 (some go10) := (by rw [hw]; exact HP11.2); have hp_ : Kd.R (Kd.int .i64) 3 w12 w.heap.size (fun _ => True) (.slice (some ⟨go10, 0, none⟩) x4_1.length co5) y196 := (by rw [hw, Ny196.out]; exact HP11.1); clear HP11; have n0_ := Aside0.mk (hp_); have n1_ := Aside0.mk ((by rw [hw]; exact below_set (HB.out) GB10.out : Below w.heap.size w w12)); clear HO_4; clear HB; have HO_4 := n0_; have HB := n1_; clear n0_ n1_; clear hg hw hp_))
       (try simp only [← hl4_1])
       go_roundg k1
       case measure => have := HK1.out; omega
       case rel => exact ⟨(y196), (wrap64 (x17_1 + 1)), (by first | rfl | (simp; done) | (simp [*]; done)), H', ⟨by have := HK1.out; omega⟩, ⟨by (try simp only [hl4_1]); (with_reducible repeat (first | apply Kd.R_alloc | apply Kd.R_drewN | apply Kd.R_drew)); exact HO_4.out⟩, ⟨zh HB⟩⟩
      ·rw [if_neg c8] at H
       exact absurd H (by simp)
     ·rw [if_neg c7] at H
      exact absurd H (by simp)
    ·rw [if_neg c6] at H
     have c6b0 : decide (x17_1 < (t190.length : Int)) = false := decide_eq_false c6
     have c6b0l : decide (x17_1 < (x4_1.length : Int)) = false := by rw [← hl4_1]; exact c6b0
     clear c6
     replace H := Option.bind_eq_some_iff.mp H
     obtain ⟨⟨t197, t198⟩, A130, H⟩ := H
     replace H : (some (t197, t198)) = some (r1, r2) := H
     have A13 := Aside0.mk A130
     clear A130
     simp only [Option.some.injEq, Prod.mk.injEq] at H
     obtain ⟨rfl, rfl⟩ := H
     go_wp2_with (first | ((with_reducible refine gate_callee (f := 38) rfl ?_); refine goesL_ (some 30) rfl rfl Tryd.func38 (by kernel_rfl) rfl #[.slice Ao5 x4_1.length co5] rfl zar ?_; (with_reducible refine (impl_Encode.calls k1 _ _ x4_1 t197 t198 _ ?side1 ?side2 A13.out).mono ?_); (case side1 => repeat (first | exact (Kd.R_reads' HO_4.out).2.2 | (with_reducible refine Kd.C_alloc ?_ _) | (with_reducible refine Kd.C_drewN ?_ _) | (with_reducible refine Kd.C_drew ?_))); (case side2 => exact (Kd.R_reads' HO_4.out).2.1); rintro e w14 ⟨rfl, hb⟩; refine ⟨_, rfl, ?_⟩; have n0_ := Aside0.mk (Kd.R_below (zr HO_4) hb); have n1_ := Aside0.mk (below_step (zh HB) hb); clear HO_4; clear HB; have HO_4 := n0_; have HB := n1_; clear n0_ n1_; (try clear hb); (try clear hb2); (try clear hk); (try clear hi)))
     go_ret2
     exact ⟨zre, zh HB⟩
 ·rw [if_neg c3] at H
  have c3b0 : (t191 == 0) = false := beq_eq_false_iff_ne.mpr c3
  have c3b1 : (t191 != 0) = true := bne_iff_ne.mpr c3
  simp only [Option.some.injEq, Prod.mk.injEq] at H
  obtain ⟨rfl, rfl⟩ := H
  go_enter Tryd.func21, Tryd.ntmps21
  go_wp2_with (first | ((with_reducible refine gate_callee (f := 16) rfl ?_); refine goesL_ (some 9) rfl rfl Tryd.func16 (by kernel_rfl) rfl #[.string a0] rfl zar ?_; (with_reducible refine (impl_Decode.calls a0 t190 t191 _ ?side1 A2.out).mono ?_); (case side1 => exact TabW.below HT.out (zh HB)); rintro e w15 ⟨v192, rfl, ho0, hb⟩; refine ⟨_, rfl, ?_⟩; have n0_ := Aside0.mk (Kd.R_lower ho0 (below_size (zh HB))); have n1_ := Aside0.mk (below_step (zh HB) hb); clear HB; have HO193 := n0_; have HB := n1_; clear n0_ n1_; (try clear hb); (try clear hb2); (try clear hk); (try clear hi); (try clear ho0)))
  go_ret2
  exact ⟨zre, zh HB⟩

/-! ### spec_l01Encode: function 66 -/
def spec_l01Encode.l0 : Nat → List Int → List Int → Int → Option (ByteArray)
 | 0, _, _, _ => none
 | k + 1, x0, x3, x4 => if x4 < (x0.length : Int) then (if 0 ≤ x4 then ((spec_l01Bytes.f (rd x0 x4)).bind fun t203 => (if x3.length + t203.length < 140737488355328 then (spec_l01Encode.l0 k x0 (x3 ++ t203) (wrap64 (x4 + 1))) else (none))) else (none)) else (some (strOfNums x3))
def spec_l01Encode.f (k : Nat) (l0 : List Int) : Option (ByteArray) := spec_l01Encode.l0 k l0 (([] : List Int)) 0
theorem spec_l01Encode.mono_l : ∀ k, (∀ y0 y1 y2, LeO (spec_l01Encode.l0 k y0 y1 y2) (spec_l01Encode.l0 (k + 1) y0 y1 y2))
 | 0 => fun _ _ _ r h => by simp [spec_l01Encode.l0] at h
 | k + 1 => by
  have ih0 := spec_l01Encode.mono_l k
  ·intro y0 y1 y2
   unfold spec_l01Encode.l0
   repeat' first
   | (with_reducible exact ih0 _ _ _)
   | (with_reducible exact LeO.refl _)
   | (with_reducible exact LeO.none _)
   | (with_reducible refine LeO.ite ?_ ?_)
   | (with_reducible refine LeO.bind ?_ (fun _ => ?_))
   | exact ih0 _ _ _
   | exact LeO.none _
   | refine LeO.ite ?_ ?_
   | refine LeO.bind ?_ (fun _ => ?_)
theorem spec_l01Encode.mono : ∀ a0 k, LeO (spec_l01Encode.f k a0) (spec_l01Encode.f (k + 1) a0) := by
 intro a0 k
 have ih0 := spec_l01Encode.mono_l k
 unfold spec_l01Encode.f
 repeat' first
  | (with_reducible exact ih0 _ _ _)
  | (with_reducible exact LeO.refl _)
  | (with_reducible exact LeO.none _)
  | (with_reducible refine LeO.ite ?_ ?_)
  | (with_reducible refine LeO.bind ?_ (fun _ => ?_))
  | exact ih0 _ _ _
  | exact LeO.none _
  | refine LeO.ite ?_ ?_
  | refine LeO.bind ?_ (fun _ => ?_)
set_option maxHeartbeats 8000000 in
set_option maxRecDepth 100000 in
theorem spec_l01Encode.calls (k : Nat) (A0 : Option Addr) (c0 : Nat) (l0 : List Int) (r : ByteArray) (w : World) (hr0 : Kd.C (Kd.int .i64) w A0 l0.length l0) (hc0 : l0.length ≤ c0) (h : spec_l01Encode.f k l0 = some r) :
 Calls Tryd.prog 66 #[.slice A0 l0.length c0] w fun e w' => e = .returned (.string r) ∧ Below w.heap.size w w' := by
 have HR0 := Aside0.mk hr0
 have HC0 := Aside0.mk hc0
 clear hr0 hc0
 have HB := Aside0.mk (Below.refl w.heap.size w)
 have H : (spec_l01Encode.l0 k l0 (([] : List Int)) 0) = some r := h
 clear h
 obtain ⟨y199, hy199⟩ : ∃ y_ : List Int, y_ = (([] : List Int)) := ⟨_, rfl⟩
 replace H : (spec_l01Encode.l0 k l0 y199 0) = some r := by first | (rw [hy199]; with_reducible exact H) | (have H2_ := (Option.bind_some _ _).symm.trans H; rw [hy199]; with_reducible exact H2_) | (have H2_ := (Option.bind_some _ _).symm.trans H; with_reducible exact H2_) | with_reducible exact H | (rw [hy199]; exact H) | exact H
 have Ny199 := Aside0.mk hy199
 clear hy199
 have H' := Aside0.mk H
 clear H
 go_enter Tryd.func66, Tryd.ntmps66
 go_wp2_with (first | ((with_reducible refine gate_dst (N := 5) rfl ?_); refine Kd.R_lit (Kd.int .u8) _ 5 ?hg (N := 5) ?hd (xs := ([] : List Int)) (inner := []) (ok := fun _ => True) (okp := fun _ => True) ?hr ?hp (fun _ hk => hk) trivial (Below.refl _ _) (Nat.le_refl _) (by simp) ?_; (case hd => rfl); (case hg => rfl); (case hr => first | (go_simp; done) | (go_simp; rfl)); (case hp => exact (Reps.none _ _)); intro v200 w2 ho3 hb hg_ hnew_; clear hg_ hnew_; (first | rw [← Ny199.out] at ho3 | (simp only [Int.reduceToNat] at ho3; rw [← Ny199.out] at ho3)); have n0_ := Aside0.mk (Kd.R_lower ho3 (below_size (zh HB))); have n1_ := Aside0.mk (below_step (zh HB) hb); clear HB; have HO201 := n0_; have HB := n1_; clear n0_ n1_; clear hb ho3))
 go_loopg [3, 4] k (fun kq v3 v4 w' => ∃ (x3_1 : List Int) (x4_1 : Int), v4 = .int .i64 x4_1 ∧ Aside0 (spec_l01Encode.l0 kq l0 x3_1 x4_1 = some r) ∧ Aside0 (kq ≤ k) ∧ Aside0 (Kd.R (Kd.int .u8) 5 w' w.heap.size (fun _ => True) v3 x3_1) ∧ Aside0 (Below w.heap.size w w'))
 case atStart => exact ⟨(y199), (0), (by first | rfl | (simp; done) | (simp [*]; done)), H', ⟨Nat.le_refl _⟩, ⟨zr HO201⟩, ⟨zh HB⟩⟩
 case round =>
  clear H'
  try clear p2
  obtain ⟨x3_1, x4_1, rfl, HA, HK1, HO_3, HB⟩ := hrel
  cases gk with
  | zero => exact absurd HA.out (by simp [spec_l01Encode.l0])
  | succ k1 =>
   have H := HA.out
   clear HA
   simp only [spec_l01Encode.l0] at H
   by_cases c4 : x4_1 < (l0.length : Int)
   ·rw [if_pos c4] at H
    have c4b0 : decide (x4_1 < (l0.length : Int)) = true := decide_eq_true c4
    clear c4
    by_cases c5 : 0 ≤ x4_1
    ·rw [if_pos c5] at H
     have c5b0 : decide (0 ≤ x4_1) = true := decide_eq_true c5
     clear c5
     replace H := Option.bind_eq_some_iff.mp H
     obtain ⟨t203, A60, H⟩ := H
     replace H : (if x3_1.length + t203.length < 140737488355328 then (spec_l01Encode.l0 k1 l0 (x3_1 ++ t203) (wrap64 (x4_1 + 1))) else (none)) = some r := H
     have A6 := Aside0.mk A60
     clear A60
     by_cases c7 : x3_1.length + t203.length < 140737488355328
     ·rw [if_pos c7] at H
      have LMc7 := Aside0.mk c7
      clear c7
      obtain ⟨y206, hy206⟩ : ∃ y_ : List Int, y_ = (x3_1 ++ t203) := ⟨_, rfl⟩
      replace H : (spec_l01Encode.l0 k1 l0 y206 (wrap64 (x4_1 + 1))) = some r := by first | (rw [hy206]; with_reducible exact H) | (have H2_ := (Option.bind_some _ _).symm.trans H; rw [hy206]; with_reducible exact H2_) | (have H2_ := (Option.bind_some _ _).symm.trans H; with_reducible exact H2_) | with_reducible exact H | (rw [hy206]; exact H) | exact H
      have Ny206 := Aside0.mk hy206
      clear hy206
      have H' := Aside0.mk H
      clear H
      have p202 : 0 ≤ (x4_1 : Int) := of_decide_eq_true zas
      have q202 : x4_1 < (l0.length : Int) := of_decide_eq_true zas
      obtain ⟨ad202, e202, hx202_0⟩ := Kd.at_int HR0.out x4_1 p202 q202
      cases e202
      replace hx202_0 := (HB.out.cell (World.block_lt_of_cell? w _ hx202_0)).trans hx202_0
      replace p202 := eq_true p202
      replace q202 := eq_true q202
      go_wp2_with (first | ((with_reducible refine gate_callee (f := 71) rfl ?_); refine goesL_ (some 17) rfl rfl Tryd.func71 (by kernel_rfl) rfl #[.int .i64 (rd l0 x4_1)] rfl zar ?_; (with_reducible refine (spec_l01Bytes.calls (rd l0 x4_1) t203 _ A6.out).mono ?_); rintro e w8 ⟨v204, rfl, ho0, hb⟩; refine ⟨_, rfl, ?_⟩; have n0_ := Aside0.mk (Kd.R_elder' (zr HO_3) (Kd.R_base ho0) hb); have n1_ := Aside0.mk (Kd.R_lower (Kd.R_new' ho0 (Kd.R_lt (zr HO_3))) (below_size (zh HB))); have n2_ := Aside0.mk (below_step (zh HB) hb); clear HO_3; clear HB; have HO_3 := n0_; have HO205 := n1_; have HB := n2_; clear n0_ n1_ n2_; (try clear hb); (try clear hb2); (try clear hk); (try clear hi); (try clear ho0); obtain ⟨Ao10, co10, eo10⟩ := Kd.R_slice HO205.out; subst eo10) | ((with_reducible refine gate_builtin (b := .append) (xs := #[.tmp 12, .tmp 17]) rfl ?_); at_builtin; refine Kd.R_append_rows (Kd.int .u8) (w0 := w) w.heap.size rfl (.tmp 12) (.tmp 17) 33 5 (.int .u8 0) 1 rfl Tryd.underlying33 info5 rfl (by decide) (by omega) u3 x3_1 t203 _ _ _ (fun k_ => some k_ ≠ (.slice Ao10 t203.length co10 : Value).ownBlock) (fun _ => False) rfl rfl ?aO ?aR (fun _ _ h => h) (fun _ h => h.elim) ?aF ?aB ?aS ?aL ?_; (case aR => repeat (first | exact (Kd.R_reads' HO205.out).2.2 | (with_reducible refine Kd.C_alloc ?_ _) | (with_reducible refine Kd.C_drewN ?_ _) | (with_reducible refine Kd.C_drew ?_))); (case aB => exact (zh HB)); (case aF => exact (fun k_ hk => Kd.fresh' (Kd.R_lt (zr HO205)) k_ hk)); (case aO => exact (Kd.R_mono (zr HO_3) (fun _ hk => hk.2))); (case aS => exact (below_size (zh HB))); (case aL => have := LMc7.out; omega); intro v207 w9 ho hb hg hat; rw [← Ny206.out] at ho; have n0_ := Aside0.mk (Kd.R_after (ok := (fun _ => True)) (zr HO205) hg hat); have n1_ := Aside0.mk (hb); have n2_ := Aside0.mk (ho); clear HO205; clear HB; clear HO_3; have HO205 := n0_; have HB := n1_; have HO208 := n2_; clear n0_ n1_ n2_; clear ho hb hg hat))
      go_roundg k1
      case measure => have := HK1.out; omega
      case rel => exact ⟨(y206), (wrap64 (x4_1 + 1)), (by first | rfl | (simp; done) | (simp [*]; done)), H', ⟨by have := HK1.out; omega⟩, ⟨Kd.R_mono (zr HO208) (fun _ hk => trivial)⟩, ⟨zh HB⟩⟩
     ·rw [if_neg c7] at H
      exact absurd H (by simp)
    ·rw [if_neg c5] at H
     exact absurd H (by simp)
   ·rw [if_neg c4] at H
    have c4b0 : decide (x4_1 < (l0.length : Int)) = false := decide_eq_false c4
    clear c4
    obtain rfl := Option.some.inj H
    have hcv11 := own_string (P := Tryd.prog) Tryd.underlying33 Tryd.underlying5 Tryd.underlying9 (Kd.own_of_R HO_3.out)
    go_wp2
    go_ret
    exact ⟨zre, zh HB⟩

end Go.Proofs.YtcokeankiedfcaaDoor.XFnText
