-- A printed text of this session (wip/x/xprint.py).
import Derived.Test.YtnpdmleglcbobaaXFnExactReadLogx0
namespace Go.Proofs.Ytnpdmleglcbobaa.XFnExactReadLog
open Go.RowKit Go.Proofs.YtnpdmleglcbobaaW.PrintWords Go.Proofs.YtnpdmleglcbobaaW.PrintLast Go.Proofs.YtnpdmleglcbobaaW.PrintMore
attribute [local go_sem] max2_int min2_int max_two min_two max_three min_three max_four min_four   -- for this text's walks alone
set_option linter.unusedVariables false
set_option linter.unusedSimpArgs false

/-! ### spec_l03Get: function 89 -/
mutual
def spec_l03Get.l0 : Nat → List Int → Int → Int → Int → Int → Option (Int × Int × Bool)
 | 0, _, _, _, _, _ => none
 | k + 1, x0, x1, x7, x8, x9 => if x9 < 9 then (spec_l03Get.j1 k x0 x1 x7 x8 x9 (decide ((wrap64 (x1 + x9)) < (x0.length : Int)))) else (spec_l03Get.j1 k x0 x1 x7 x8 x9 false)
def spec_l03Get.j1 : Nat → List Int → Int → Int → Int → Int → Bool → Option (Int × Int × Bool)
 | 0, _, _, _, _, _, _ => none
 | k + 1, x0, x1, x7, x8, x9, x20 => if x20 = true then (if 0 ≤ (wrap64 (x1 + x9)) then (if (wrap64 (x1 + x9)) < (x0.length : Int) then (if x9 = 8 then (spec_l03Get.j2 k x0 x1 x7 x8 x9 (wrap64 (rd x0 (wrap64 (x1 + x9)))) (decide ((wrap64 (rd x0 (wrap64 (x1 + x9)))) > 63))) else (spec_l03Get.j2 k x0 x1 x7 x8 x9 (wrap64 (rd x0 (wrap64 (x1 + x9)))) false)) else (none)) else (none)) else (some (0, 0, false))
def spec_l03Get.j2 : Nat → List Int → Int → Int → Int → Int → Int → Bool → Option (Int × Int × Bool)
 | 0, _, _, _, _, _, _, _ => none
 | k + 1, x0, x1, x7, x8, x9, x10, x35 => if x35 = true then (some (0, 0, false)) else (if x10 < 128 then (if x9 = 0 then (some (wrap64 (x7 + (wrap64 ((Int.tmod x10 128) * x8))), wrap64 ((wrap64 (x1 + x9)) + 1), true)) else (some (wrap64 (x7 + (wrap64 ((Int.tmod x10 128) * x8))), wrap64 ((wrap64 (x1 + x9)) + 1), decide (x10 > 0)))) else (if x9 < 8 then (spec_l03Get.l0 k x0 x1 (wrap64 (x7 + (wrap64 ((Int.tmod x10 128) * x8)))) (wrap64 (x8 * 128)) (wrap64 (x9 + 1))) else (spec_l03Get.l0 k x0 x1 (wrap64 (x7 + (wrap64 ((Int.tmod x10 128) * x8)))) x8 (wrap64 (x9 + 1)))))
end
def spec_l03Get.f (k : Nat) (l0 : List Int) (a1 : Int) : Option (Int × Int × Bool) := spec_l03Get.l0 k l0 a1 0 1 0
theorem spec_l03Get.mono_l : ∀ k, (∀ y0 y1 y2 y3 y4, LeO (spec_l03Get.l0 k y0 y1 y2 y3 y4) (spec_l03Get.l0 (k + 1) y0 y1 y2 y3 y4)) ∧ (∀ y0 y1 y2 y3 y4 y5, LeO (spec_l03Get.j1 k y0 y1 y2 y3 y4 y5) (spec_l03Get.j1 (k + 1) y0 y1 y2 y3 y4 y5)) ∧ (∀ y0 y1 y2 y3 y4 y5 y6, LeO (spec_l03Get.j2 k y0 y1 y2 y3 y4 y5 y6) (spec_l03Get.j2 (k + 1) y0 y1 y2 y3 y4 y5 y6))
 | 0 => ⟨fun _ _ _ _ _ r h => by simp [spec_l03Get.l0] at h, fun _ _ _ _ _ _ r h => by simp [spec_l03Get.j1] at h, fun _ _ _ _ _ _ _ r h => by simp [spec_l03Get.j2] at h⟩
 | k + 1 => by
  obtain ⟨ih0, ih1, ih2⟩ := spec_l03Get.mono_l k
  refine ⟨?_, ?_, ?_⟩
  all_goals intros
  all_goals first | unfold spec_l03Get.l0 | unfold spec_l03Get.j1 | unfold spec_l03Get.j2
  all_goals
   repeat' first
   | (with_reducible exact ih0 _ _ _ _ _)
   | (with_reducible exact ih1 _ _ _ _ _ _)
   | (with_reducible exact ih2 _ _ _ _ _ _ _)
   | (with_reducible exact LeO.refl _)
   | (with_reducible exact LeO.none _)
   | (with_reducible refine LeO.ite ?_ ?_)
   | (with_reducible refine LeO.bind ?_ (fun _ => ?_))
theorem spec_l03Get.mono : ∀ a0 a1 k, LeO (spec_l03Get.f k a0 a1) (spec_l03Get.f (k + 1) a0 a1) := by
 intro a0 a1 k
 obtain ⟨ih0, ih1, ih2⟩ := spec_l03Get.mono_l k
 unfold spec_l03Get.f
 repeat' first
  | (with_reducible exact ih0 _ _ _ _ _)
  | (with_reducible exact ih1 _ _ _ _ _ _)
  | (with_reducible exact ih2 _ _ _ _ _ _ _)
  | (with_reducible exact LeO.refl _)
  | (with_reducible exact LeO.none _)
  | (with_reducible refine LeO.ite ?_ ?_)
  | (with_reducible refine LeO.bind ?_ (fun _ => ?_))
set_option maxHeartbeats 8000000 in
set_option maxRecDepth 100000 in
theorem spec_l03Get.calls (k : Nat) (A0 : Option Addr) (c0 : Nat) (l0 : List Int) (a1 : Int) (r1 : Int) (r2 : Int) (r3 : Bool) (w : World) (hr0 : Kd.C (Kd.int .u8) w A0 l0.length l0) (hc0 : l0.length ≤ c0) (h : spec_l03Get.f k l0 a1 = some (r1, r2, r3)) :
 Calls Try.prog 89 #[.slice A0 l0.length c0, .int .i64 a1] w fun e w' => e = .returned (.tuple #[.int .i64 r1, .int .i64 r2, .bool r3]) ∧ Drawn0 w w' := by
 have HR0 := Aside0.mk hr0
 have HC0 := Aside0.mk hc0
 clear hr0 hc0
 have H : (spec_l03Get.l0 k l0 a1 0 1 0) = some (r1, r2, r3) := h
 clear h
 have H' := Aside0.mk H
 clear H
 go_enter Try.func89, Try.ntmps89
 go_wp2
 go_loopg [7, 8, 9] k (fun kq v7 v8 v9 w' => ∃ (x7_1 : Int) (x8_1 : Int) (x9_1 : Int), v7 = .int .i64 x7_1 ∧ v8 = .int .i64 x8_1 ∧ v9 = .int .i64 x9_1 ∧ Aside0 (spec_l03Get.l0 kq l0 a1 x7_1 x8_1 x9_1 = some (r1, r2, r3)) ∧ Aside0 (kq ≤ k) ∧ Drawn0 w w')
 case atStart => exact ⟨(0), (1), (0), zrs, zrs, zrs, H', ⟨Nat.le_refl _⟩, by repeat (first | exact Drawn0.refl _ | apply Drawn0.step)⟩
 case round =>
  clear H'
  obtain ⟨x7_1, x8_1, x9_1, rfl, rfl, rfl, HA, HK1, ⟨m1, rfl⟩⟩ := hrel
  cases gk with
  | zero => exact absurd HA.out (by simp [spec_l03Get.l0])
  | succ k1 =>
   have H := HA.out
   clear HA
   simp only [spec_l03Get.l0] at H
   have HC3 := Aside0.mk H
   clear H
   go_upto_region 4 with (fail)
   go_cut [20] (fun v20 wc => ∃ (kq : Nat) (x20_2 : Bool), v20 = .bool x20_2 ∧ Aside0 (spec_l03Get.j1 kq l0 a1 x7_1 x8_1 x9_1 x20_2 = some (r1, r2, r3)) ∧ Aside0 (kq ≤ k1) ∧ Drawn0 w wc)
   case first =>
    have H := HC3.out
    clear HC3
    by_cases c4 : x9_1 < 9
    rotate_left
    ·rw [if_neg c4] at H
     have c4b0 : decide (x9_1 < 9) = false := decide_eq_false c4
     clear c4
     (first | rw [c4b0] | (simp only [i64_w, i32_w]; rw [c4b0]) | skip)
     have H' := Aside0.mk H
     clear H
     go_wp2
     go_meet
     case rel => exact ⟨_, (false), zrs, H', ⟨by have := HK1.out; first | omega | exact Nat.le_refl _⟩, by repeat (first | exact Drawn0.refl _ | apply Drawn0.step)⟩
    rw [if_pos c4] at H
    have c4b0 : decide (x9_1 < 9) = true := decide_eq_true c4
    clear c4
    (first | rw [c4b0] | (simp only [i64_w, i32_w]; rw [c4b0]) | skip)
    have H' := Aside0.mk H
    clear H
    go_wp2
    go_meet
    case rel => exact ⟨_, (decide ((wrap64 (a1 + x9_1)) < (l0.length : Int))), zrs, H', ⟨by have := HK1.out; first | omega | exact Nat.le_refl _⟩, by repeat (first | exact Drawn0.refl _ | apply Drawn0.step)⟩
   case rest =>
    clear HC3
    obtain ⟨kq, x20_2, rfl, HA, HJ2, ⟨mc2, rfl⟩⟩ := hcut
    cases kq with
    | zero => exact absurd HA.out (by simp [spec_l03Get.j1])
    | succ kj2 =>
     have H := HA.out
     clear HA
     simp only [spec_l03Get.j1] at H
     by_cases c5 : x20_2 = true
     rotate_left
     ·replace c5 := Bool.eq_false_iff.mpr c5
      subst c5
      rw [if_neg (show ¬ (false = true) by decide)] at H
      simp only [Option.some.injEq, Prod.mk.injEq] at H
      obtain ⟨rfl, rfl, rfl⟩ := H
      go_wp2
      go_ret3
      exact ⟨zrs, by repeat (first | exact Drawn0.refl _ | apply Drawn0.step)⟩

     subst c5
     rw [if_pos rfl] at H
     obtain ⟨ji6, hji6⟩ : ∃ j_ : Int, (wrap64 (a1 + x9_1)) = j_ := ⟨_, rfl⟩
     replace H : (if 0 ≤ (ji6) then (if (ji6) < (l0.length : Int) then (if x9_1 = 8 then (spec_l03Get.j2 kj2 l0 a1 x7_1 x8_1 x9_1 (wrap64 (rd l0 (ji6))) (decide ((wrap64 (rd l0 (ji6))) > 63))) else (spec_l03Get.j2 kj2 l0 a1 x7_1 x8_1 x9_1 (wrap64 (rd l0 (ji6))) false)) else (none)) else (none)) = some (r1, r2, r3) := by first | (rw [hji6] at H; exact H) | (simp only [hji6] at H ⊢; exact H)
     have hji6w : (IntKind.i64.wrap (a1 + x9_1)) = ji6 := (i64_w _).trans hji6
     by_cases c7 : 0 ≤ (ji6)
     rotate_left
     ·rw [if_neg c7] at H
      exact absurd H (by simp)
     rw [if_pos c7] at H
     have c7b0 : decide (0 ≤ (ji6)) = true := decide_eq_true c7
     clear c7
     by_cases c8 : (ji6) < (l0.length : Int)
     rotate_left
     ·rw [if_neg c8] at H
      exact absurd H (by simp)
     rw [if_pos c8] at H
     have c8b0 : decide ((ji6) < (l0.length : Int)) = true := decide_eq_true c8
     clear c8
     have HC9 := Aside0.mk H
     clear H
     have p289 : 0 ≤ ((ji6) : Int) := of_decide_eq_true zas
     have q289 : (ji6) < (l0.length : Int) := of_decide_eq_true zas
     obtain ⟨ad289, e289, hx289_0⟩ := Kd.at_int HR0.out (ji6) p289 q289
     cases e289
     replace p289 := eq_true p289
     replace q289 := eq_true q289
     go_upto_region 7 with (fail)
     go_cut [35] (fun v35 wc => ∃ (kq : Nat) (x35_8 : Bool), v35 = .bool x35_8 ∧ Aside0 (spec_l03Get.j2 kq l0 a1 x7_1 x8_1 x9_1 (wrap64 (rd l0 (ji6))) x35_8 = some (r1, r2, r3)) ∧ Aside0 (kq ≤ kj2) ∧ Drawn0 w wc)
     case first =>
      have H := HC9.out
      clear HC9
      by_cases c10 : x9_1 = 8
      rotate_left
      ·rw [if_neg c10] at H
       have c10b0 : (x9_1 == 8) = false := beq_eq_false_iff_ne.mpr c10
       have c10b1 : (x9_1 != 8) = true := bne_iff_ne.mpr c10
       (first | rw [c10b0] | (simp only [i64_w, i32_w]; rw [c10b0]) | skip)
       have H' := Aside0.mk H
       clear H
       go_wp2
       go_meet
       case rel => exact ⟨_, (false), zrs, H', ⟨by have := HK1.out; have := HJ2.out; first | omega | exact Nat.le_refl _⟩, by repeat (first | exact Drawn0.refl _ | apply Drawn0.step)⟩
      rw [if_pos c10] at H
      have c10b0 : (x9_1 == 8) = true := beq_iff_eq.mpr c10
      have c10b1 : (x9_1 != 8) = false := bne_eq_false_iff_eq.mpr c10
      clear c10
      (first | rw [c10b0] | (simp only [i64_w, i32_w]; rw [c10b0]) | skip)
      have H' := Aside0.mk H
      clear H
      go_wp2
      go_meet
      case rel => exact ⟨_, (decide ((wrap64 (rd l0 (ji6))) > 63)), (by first | rfl | (simp; done) | (simp only [← hji6] <;> (first | rfl | simp)) | (simp [*]; done)), H', ⟨by have := HK1.out; have := HJ2.out; first | omega | exact Nat.le_refl _⟩, by repeat (first | exact Drawn0.refl _ | apply Drawn0.step)⟩
     case rest =>
      clear HC9
      try clear c5
      try clear c7
      try clear c7b0
      try clear c8
      try clear c8b0
      try clear hx289_0
      try clear p289
      try clear q289
      obtain ⟨kq, x35_8, rfl, HA, HJ8, ⟨mc8, rfl⟩⟩ := hcut
      cases kq with
      | zero => exact absurd HA.out (by simp [spec_l03Get.j2])
      | succ kj8 =>
       have H := HA.out
       clear HA
       simp only [spec_l03Get.j2] at H
       by_cases c11 : x35_8 = true
       ·subst c11
        rw [if_pos rfl] at H
        simp only [Option.some.injEq, Prod.mk.injEq] at H
        obtain ⟨rfl, rfl, rfl⟩ := H
        go_wp2
        go_ret3
        exact ⟨by first | rfl | (simp; done) | (simp only [← hji6] <;> (first | rfl | simp)) | (simp [*]; done), by repeat (first | exact Drawn0.refl _ | apply Drawn0.step)⟩
       replace c11 := Bool.eq_false_iff.mpr c11
       subst c11
       rw [if_neg (show ¬ (false = true) by decide)] at H
       by_cases c12 : (wrap64 (rd l0 (ji6))) < 128
       ·rw [if_pos c12] at H
        have c12b0 : decide ((wrap64 (rd l0 (ji6))) < 128) = true := decide_eq_true c12
        clear c12
        by_cases c13 : x9_1 = 0
        rotate_left
        ·rw [if_neg c13] at H
         have c13b0 : (x9_1 == 0) = false := beq_eq_false_iff_ne.mpr c13
         have c13b1 : (x9_1 != 0) = true := bne_iff_ne.mpr c13
         simp only [Option.some.injEq, Prod.mk.injEq] at H
         obtain ⟨rfl, rfl, rfl⟩ := H
         go_wp2
         go_ret3
         exact ⟨by first | rfl | (simp; done) | (simp only [← hji6] <;> (first | rfl | simp)) | (simp [*]; done), by repeat (first | exact Drawn0.refl _ | apply Drawn0.step)⟩
        rw [if_pos c13] at H
        have c13b0 : (x9_1 == 0) = true := beq_iff_eq.mpr c13
        have c13b1 : (x9_1 != 0) = false := bne_eq_false_iff_eq.mpr c13
        clear c13
        simp only [Option.some.injEq, Prod.mk.injEq] at H
        obtain ⟨rfl, rfl, rfl⟩ := H
        go_wp2
        go_ret3
        exact ⟨by first | rfl | (simp; done) | (simp only [← hji6] <;> (first | rfl | simp)) | (simp [*]; done), by repeat (first | exact Drawn0.refl _ | apply Drawn0.step)⟩
       rw [if_neg c12] at H
       have c12b0 : decide ((wrap64 (rd l0 (ji6))) < 128) = false := decide_eq_false c12
       clear c12
       by_cases c14 : x9_1 < 8
       rotate_left
       ·rw [if_neg c14] at H
        have c14b0 : decide (x9_1 < 8) = false := decide_eq_false c14
        clear c14
        have H' := Aside0.mk H
        clear H
        go_wp2
        go_roundg kj8
        case measure => have := HK1.out; have := HJ2.out; have := HJ8.out; omega
        case rel => exact ⟨(wrap64 (x7_1 + (wrap64 ((Int.tmod (wrap64 (rd l0 (ji6))) 128) * x8_1)))), (x8_1), (wrap64 (x9_1 + 1)), (by first | rfl | (simp; done) | (simp only [← hji6] <;> (first | rfl | simp)) | (simp [*]; done)), zrs, zrs, H', ⟨by have := HK1.out; have := HJ2.out; have := HJ8.out; omega⟩, by repeat (first | exact Drawn0.refl _ | apply Drawn0.step)⟩
       rw [if_pos c14] at H
       have c14b0 : decide (x9_1 < 8) = true := decide_eq_true c14
       clear c14
       have H' := Aside0.mk H
       clear H
       go_wp2
       go_roundg kj8
       case measure => have := HK1.out; have := HJ2.out; have := HJ8.out; omega
       case rel => exact ⟨(wrap64 (x7_1 + (wrap64 ((Int.tmod (wrap64 (rd l0 (ji6))) 128) * x8_1)))), (wrap64 (x8_1 * 128)), (wrap64 (x9_1 + 1)), (by first | rfl | (simp; done) | (simp only [← hji6] <;> (first | rfl | simp)) | (simp [*]; done)), zrs, zrs, H', ⟨by have := HK1.out; have := HJ2.out; have := HJ8.out; omega⟩, by repeat (first | exact Drawn0.refl _ | apply Drawn0.step)⟩
/-- A state of type 74 at block g of W; what its slices lead to came in by w0. -/
def IsS74 (w0 W : World) (g : Nat) (f0 : List Int) (f1 : Int) (f2 : Bool) : Prop := ∃ A0 c0, W.heap[g]? = some (.cells #[.slice A0 f0.length c0, .int .i64 f1, .bool f2] 74 (0, 0)) ∧ w0.heap.size ≤ g ∧ (Kd.C (Kd.int .u8) w0 A0 f0.length f0 ∧ f0.length ≤ c0)
theorem IsS74.grown {w0 W : World} {g : Nat} {f0 : List Int} {f1 : Int} {f2 : Bool} {W1 : World} {row : Option Nat} (h : IsS74 w0 W g f0 f1 f2) (hw : W.grownBy W1 row) (hne : some g ≠ row) : IsS74 w0 W1 g f0 f1 f2 := by
 obtain ⟨A0, c0, hb, hg, hr0⟩ := h
 exact ⟨A0, c0, blk_grown hb hw hne, hg, hr0⟩
theorem IsS74.own_neN {w0 W : World} {g : Nat} {f0 : List Int} {f1 : Int} {f2 : Bool} {α : Type} {d : Kd α} {e : Nat} {base : Nat} {ok : Nat → Prop} {v : Value} {xs : List α} (h : IsS74 w0 W g f0 f1 f2) (ho : Kd.N d e W base ok v xs) (ht : e ≠ 74) : some g ≠ v.ownBlock := by
 obtain ⟨A0, c0, hb, hg, hr0⟩ := h
 exact Kd.N_ne ho hb ht
theorem IsS74.fresh {w0 W : World} {g : Nat} {f0 : List Int} {f1 : Int} {f2 : Bool} (h : IsS74 w0 W g f0 f1 f2) : ∀ k, W.heap.size ≤ k → k ≠ g := by
 obtain ⟨A0, c0, hb, hg, hr0⟩ := h
 exact Kd.freshB hb
theorem IsS74.kept {w0 W : World} {g : Nat} {f0 : List Int} {f1 : Int} {f2 : Bool} {W1 : World} {S : Nat → Prop} (h : IsS74 w0 W g f0 f1 f2) (hk : Kept W W1 S) (hne : ¬ S g) : IsS74 w0 W1 g f0 f1 f2 := by
 obtain ⟨A0, c0, hb, hg, hr0⟩ := h
 exact ⟨A0, c0, blk_kept hb hk hne, hg, hr0⟩
theorem IsS74.below {w0 W : World} {g : Nat} {f0 : List Int} {f1 : Int} {f2 : Bool} {W1 : World} (h : IsS74 w0 W g f0 f1 f2) (hw : Below W.heap.size W W1) : IsS74 w0 W1 g f0 f1 f2 := h.grown (grown_of_below hw none) (by simp)
theorem IsS74.alloc {w0 W : World} {g : Nat} {f0 : List Int} {f1 : Int} {f2 : Bool} (h : IsS74 w0 W g f0 f1 f2) (o : Obj) : IsS74 w0 (W.alloc o) g f0 f1 f2 := h.below (below_alloc (Below.refl _ _) o)
theorem IsS74.drewN {w0 W : World} {g : Nat} {f0 : List Int} {f1 : Int} {f2 : Bool} (h : IsS74 w0 W g f0 f1 f2) (m : Nat) : IsS74 w0 (W.drewN m) g f0 f1 f2 := h
theorem IsS74.drew {w0 W : World} {g : Nat} {f0 : List Int} {f1 : Int} {f2 : Bool} (h : IsS74 w0 W g f0 f1 f2) : IsS74 w0 W.drew g f0 f1 f2 := h
theorem IsS74.at_ {w0 W : World} {g : Nat} {f0 : List Int} {f1 : Int} {f2 : Bool} {w' : World} {m : Nat} (hq : W.drewN m = w') (h : IsS74 w0 W g f0 f1 f2) : IsS74 w0 w' g f0 f1 f2 := by subst hq; exact IsS74.drewN h m
theorem IsS74.apart {w0 W : World} {g : Nat} {f0 : List Int} {f1 : Int} {f2 : Bool} {α : Type} {d : Kd α} {e : Nat} {base : Nat} {ok : Nat → Prop} {v : Value} {xs : List α} (h : IsS74 w0 W g f0 f1 f2) (ho : d.R e W base ok v xs) (ht : ∀ q, q ∈ e :: d.E → q ≠ 74) : d.R e W base (fun k => ok k ∧ k ≠ g) v xs := by
 obtain ⟨A0, c0, hb, hg, hr0⟩ := h
 exact Kd.R_types ho hb ht
theorem IsS74.own_ne {w0 W : World} {g : Nat} {f0 : List Int} {f1 : Int} {f2 : Bool} {α : Type} {d : Kd α} {e : Nat} {base : Nat} {ok : Nat → Prop} {v : Value} {xs : List α} (h : IsS74 w0 W g f0 f1 f2) (ho : d.R e W base ok v xs) (ht : e ≠ 74) : some g ≠ v.ownBlock := by
 obtain ⟨A0, c0, hb, hg, hr0⟩ := h
 exact Kd.R_ne ho hb ht
theorem IsS74.apartQ {w0 W : World} {g : Nat} {f0 : List Int} {f1 : Int} {f2 : Bool} {α : Type} {d : Kd α} {e : Nat} {base : Nat} {ok : Nat → Prop} {v : Value} {xs : List α} (h : IsS74 w0 W g f0 f1 f2) (ho : d.Q e W base ok v xs) (ht : ∀ q, q ∈ e :: d.E → q ≠ 74) : d.Q e W base (fun k => ok k ∧ k ≠ g) v xs := by
 obtain ⟨A0, c0, hb, hg, hr0⟩ := h
 exact Kd.Q_types ho hb ht
theorem IsS74.own_neQ {w0 W : World} {g : Nat} {f0 : List Int} {f1 : Int} {f2 : Bool} {α : Type} {d : Kd α} {e : Nat} {base : Nat} {ok : Nat → Prop} {v : Value} {xs : List α} (h : IsS74 w0 W g f0 f1 f2) (ho : d.Q e W base ok v xs) (ht : e ≠ 74) : some g ≠ v.ownBlock := by
 obtain ⟨A0, c0, hb, hg, hr0⟩ := h
 exact Kd.Q_ne ho hb ht
theorem IsS74.apartS {w0 W : World} {g : Nat} {f0 : List Int} {f1 : Int} {f2 : Bool} {α : Type} {d : Kd α} {e : Nat} {base : Nat} {ok : Nat → Prop} {v : Value} {xs : List α} (h : IsS74 w0 W g f0 f1 f2) (ho : d.S e W base ok v xs) (ht : ∀ q, q ∈ e :: d.E → q ≠ 74) : d.S e W base (fun k => ok k ∧ k ≠ g) v xs := by
 obtain ⟨A0, c0, hb, hg, hr0⟩ := h
 exact Kd.S_types ho hb ht
theorem IsS74.own_neS {w0 W : World} {g : Nat} {f0 : List Int} {f1 : Int} {f2 : Bool} {α : Type} {d : Kd α} {e : Nat} {base : Nat} {ok : Nat → Prop} {v : Value} {xs : List α} (h : IsS74 w0 W g f0 f1 f2) (ho : d.S e W base ok v xs) (ht : e ≠ 74) : some g ≠ v.ownBlock := by
 obtain ⟨A0, c0, hb, hg, hr0⟩ := h
 exact Kd.S_ne ho hb ht
theorem IsS74.lt {w0 W : World} {g : Nat} {f0 : List Int} {f1 : Int} {f2 : Bool} (h : IsS74 w0 W g f0 f1 f2) : g < W.heap.size := by
 obtain ⟨A0, c0, hb, hg, hr0⟩ := h
 exact blk_lt hb
theorem IsS74.ge {w0 W : World} {g : Nat} {f0 : List Int} {f1 : Int} {f2 : Bool} (h : IsS74 w0 W g f0 f1 f2) : w0.heap.size ≤ g := by
 obtain ⟨A0, c0, hb, hg, hr0⟩ := h
 exact hg
theorem IsS74.ne_blk {w0 W : World} {g : Nat} {f0 : List Int} {f1 : Int} {f2 : Bool} {a : Nat} {cs : Array Value} {t : TypeId} {fr : Nat × Nat} (h : IsS74 w0 W g f0 f1 f2) (hb2 : W.heap[a]? = some (.cells cs t fr)) (ht : t ≠ 74) : g ≠ a := by
 obtain ⟨A0, c0, hb, hg, hr0⟩ := h
 rintro rfl
 rw [hb] at hb2
 injection hb2 with hb2
 injection hb2 with _ ht2
 exact ht ht2.symm
theorem IsS74.far {w0 W : World} {g : Nat} {f0 : List Int} {f1 : Int} {f2 : Bool} {p : Addr} (h : IsS74 w0 W g f0 f1 f2) (hne : g ≠ p.block) (u : Value) : IsS74 w0 (W.setCell p u) g f0 f1 f2 := by
 obtain ⟨A0, c0, hb, hg, hr0⟩ := h
 exact ⟨A0, c0, blk_far hb hne u, hg, hr0⟩
theorem cellS74_0 {W : World} {g : Nat} {A0 : Option Addr} {c0 : Nat} {f0 : List Int} {f1 : Int} {f2 : Bool} (h : W.heap[g]? = some (.cells #[.slice A0 f0.length c0, .int .i64 f1, .bool f2] 74 (0, 0))) : W.cell? ⟨g, 0, none⟩ = some (.slice A0 f0.length c0) := (blk_cell h 0).trans rfl
theorem cellS74_1 {W : World} {g : Nat} {A0 : Option Addr} {c0 : Nat} {f0 : List Int} {f1 : Int} {f2 : Bool} (h : W.heap[g]? = some (.cells #[.slice A0 f0.length c0, .int .i64 f1, .bool f2] 74 (0, 0))) : W.cell? ⟨g, 1, none⟩ = some (.int .i64 f1) := (blk_cell h 1).trans rfl
theorem IsS74.set_1 {w0 W : World} {g : Nat} {f0 : List Int} {f1 : Int} {f2 : Bool} (h : IsS74 w0 W g f0 f1 f2) (x : Int) : IsS74 w0 (W.setCell ⟨g, 1, none⟩ (.int .i64 x)) g f0 x f2 := by
 obtain ⟨A0, c0, hb, hg, hr0⟩ := h
 exact ⟨A0, c0, by simpa using blk_set hb 1 (.int .i64 x), hg, hr0⟩
theorem cellS74_2 {W : World} {g : Nat} {A0 : Option Addr} {c0 : Nat} {f0 : List Int} {f1 : Int} {f2 : Bool} (h : W.heap[g]? = some (.cells #[.slice A0 f0.length c0, .int .i64 f1, .bool f2] 74 (0, 0))) : W.cell? ⟨g, 2, none⟩ = some (.bool f2) := (blk_cell h 2).trans rfl
theorem IsS74.set_2 {w0 W : World} {g : Nat} {f0 : List Int} {f1 : Int} {f2 : Bool} (h : IsS74 w0 W g f0 f1 f2) (x : Bool) : IsS74 w0 (W.setCell ⟨g, 2, none⟩ (.bool x)) g f0 f1 x := by
 obtain ⟨A0, c0, hb, hg, hr0⟩ := h
 exact ⟨A0, c0, by simpa using blk_set hb 2 (.bool x), hg, hr0⟩
theorem IsS74.new (w0 W : World) (A0 : Option Addr) (c0 : Nat) (f0 : List Int) (f1 : Int) (f2 : Bool) (hB : Below w0.heap.size w0 W) (hr0 : (Kd.C (Kd.int .u8) w0 A0 f0.length f0 ∧ f0.length ≤ c0)) : IsS74 w0 (W.alloc (.cells #[.slice A0 f0.length c0, .int .i64 f1, .bool f2] 74)) W.heap.size f0 f1 f2 := ⟨A0, c0, by simpa using heap_alloc_new W _, hB.size, hr0⟩

theorem zi74 {V : World} {w0 W : World} {g : Nat} {f0 : List Int} {f1 : Int} {f2 : Bool} {f0' : List Int} {f1' : Int} {f2' : Bool} (h : Aside0 (IsS74 w0 W g f0 f1 f2)) (hv : IsS74 w0 W g f0 f1 f2 → IsS74 w0 V g f0' f1' f2' := by intro h_; repeat (first | (with_reducible first | exact h_ | apply IsS74.alloc | apply IsS74.drewN | apply IsS74.drew | apply IsS74.set_1 | apply IsS74.set_2 | refine IsS74.far ?_ (Aside0.out (by assumption)) _) | exact h_)) : IsS74 w0 V g f0' f1' f2' := hv h.out
theorem zj74 {B : Nat} {w W V : World} (h : Aside0 (Below B w W)) (hv : Below B w W → Below B w V := by intro h_; repeat (first | (with_reducible first | exact h_ | apply below_alloc | apply pw_below_drewN | apply below_drew1 | refine below_set ?_ (Aside0.out (by assumption)) | refine below_set ?_ (IsS74.ge (Aside0.out (by assumption)))) | exact h_)) : Below B w V := hv h.out
/-! ### spec_l06Reader_num: function 96 -/
def spec_l06Reader_num.f (k : Nat) (s0_0 : List Int) (s0_1 : Int) (s0_2 : Bool) : Option (Int × Int × Bool) := if s0_2 = true then (some (0, s0_1, s0_2)) else ((spec_l03Get.f k s0_0 s0_1).bind fun bt290 => (if bt290.2.2 = true then (some (bt290.1, bt290.2.1, s0_2)) else (some (0, s0_1, true))))
theorem spec_l06Reader_num.mono : ∀ a0 a1 a2 k, LeO (spec_l06Reader_num.f k a0 a1 a2) (spec_l06Reader_num.f (k + 1) a0 a1 a2) := by
 intro a0 a1 a2 k
 unfold spec_l06Reader_num.f
 repeat' first
  | (with_reducible exact spec_l03Get.mono _ _ _)
  | (with_reducible exact LeO.refl _)
  | (with_reducible exact LeO.none _)
  | (with_reducible refine LeO.ite ?_ ?_)
  | (with_reducible refine LeO.bind ?_ (fun _ => ?_))
set_option maxHeartbeats 8000000 in
set_option maxRecDepth 100000 in
theorem spec_l06Reader_num.calls (k : Nat) (g : Nat) (s0_0 : List Int) (s0_1 : Int) (s0_2 : Bool) (r1 : Int) (r2 : Int) (r3 : Bool) (w0 w : World) (hI : IsS74 w0 w g s0_0 s0_1 s0_2) (hB : Below w0.heap.size w0 w) (h : spec_l06Reader_num.f k s0_0 s0_1 s0_2 = some (r1, r2, r3)) :
 Calls Try.prog 96 #[.pointer (some ⟨g, 0, none⟩)] w fun e w' => e = .returned (.int .i64 r1) ∧ IsS74 w0 w' g s0_0 r2 r3 ∧ Below w0.heap.size w0 w' ∧ KeepBut w w' g none := by
 have HI0 := Aside0.mk hI
 have HK := Aside0.mk (KeepBut.refl w g none)
 have HL := Aside0.mk hB.size
 clear hI
 have HW0 := Aside0.mk hB.size
 have HB := Aside0.mk hB
 clear hB
 have H := h
 unfold spec_l06Reader_num.f at H
 clear h
 by_cases c2 : s0_2 = true
 ·subst c2
  rw [if_pos rfl] at H
  simp only [Option.some.injEq, Prod.mk.injEq] at H
  obtain ⟨rfl, rfl, rfl⟩ := H
  obtain ⟨ASz3_0, cSz3_0, HGz3, hgz3, HSz3_0⟩ := HI0.out
  have hcz3_0 := cellS74_0 HGz3
  have hcz3_1 := cellS74_1 HGz3
  have hcz3_2 := cellS74_2 HGz3
  have hfz3_1 := blk_frozen HGz3 1
  have hfz3_2 := blk_frozen HGz3 2
  clear HGz3 hgz3
  go_enter Try.func96, Try.ntmps96
  go_wp2
  repeat (go_quiet (fail); try go_wp2)
  go_ret
  exact ⟨zre, zi74 HI0, zj74 HB, zk HK⟩
 replace c2 := Bool.eq_false_iff.mpr c2
 subst c2
 rw [if_neg (show ¬ (false = true) by decide)] at H
 replace H := Option.bind_eq_some_iff.mp H
 obtain ⟨⟨t290, t291, t292⟩, A40, H⟩ := H
 try dsimp only at H
 have A4 := Aside0.mk A40
 clear A40
 by_cases c5 : t292 = true
 ·subst c5
  rw [if_pos rfl] at H
  simp only [Option.some.injEq, Prod.mk.injEq] at H
  obtain ⟨rfl, rfl, rfl⟩ := H
  obtain ⟨ASz6_0, cSz6_0, HGz6, hgz6, HSz6_0⟩ := HI0.out
  have hcz6_0 := cellS74_0 HGz6
  have hcz6_1 := cellS74_1 HGz6
  have hcz6_2 := cellS74_2 HGz6
  have hfz6_1 := blk_frozen HGz6 1
  have hfz6_2 := blk_frozen HGz6 2
  clear HGz6 hgz6
  go_enter Try.func96, Try.ntmps96
  go_wp2_with (first | (go_at_call 89; (with_reducible refine (spec_l03Get.calls k _ _ s0_0 s0_1 t290 t291 true _ ?side1 ?side2 A4.out).mono ?_); (case side1 => exact Kd.C_below HSz6_0.1 (zj74 HB)); (case side2 => exact HSz6_0.2); rintro e w' ⟨rfl, ⟨nd, rfl⟩⟩; (try first | exact ⟨rfl, _, World.drewN_drewN _ _ _⟩ | exact ⟨rfl, _, Eq.trans (World.drewN_drewN _ _ _) (congrArg (World.drewN _) (Nat.add_assoc _ _ _))⟩)))
  repeat (go_quiet (first | (go_at_call 89; (with_reducible refine (spec_l03Get.calls k _ _ s0_0 s0_1 t290 t291 true _ ?side1 ?side2 A4.out).mono ?_); (case side1 => exact Kd.C_below HSz6_0.1 (zj74 HB)); (case side2 => exact HSz6_0.2); rintro e w' ⟨rfl, ⟨nd, rfl⟩⟩; (try first | exact ⟨rfl, _, World.drewN_drewN _ _ _⟩ | exact ⟨rfl, _, Eq.trans (World.drewN_drewN _ _ _) (congrArg (World.drewN _) (Nat.add_assoc _ _ _))⟩))); try go_wp2_with (first | (go_at_call 89; (with_reducible refine (spec_l03Get.calls k _ _ s0_0 s0_1 t290 t291 true _ ?side1 ?side2 A4.out).mono ?_); (case side1 => exact Kd.C_below HSz6_0.1 (zj74 HB)); (case side2 => exact HSz6_0.2); rintro e w' ⟨rfl, ⟨nd, rfl⟩⟩; (try first | exact ⟨rfl, _, World.drewN_drewN _ _ _⟩ | exact ⟨rfl, _, Eq.trans (World.drewN_drewN _ _ _) (congrArg (World.drewN _) (Nat.add_assoc _ _ _))⟩))))
  go_ret
  exact ⟨zre, zi74 HI0, zj74 HB, zk HK⟩
 replace c5 := Bool.eq_false_iff.mpr c5
 subst c5
 rw [if_neg (show ¬ (false = true) by decide)] at H
 simp only [Option.some.injEq, Prod.mk.injEq] at H
 obtain ⟨rfl, rfl, rfl⟩ := H
 obtain ⟨ASz7_0, cSz7_0, HGz7, hgz7, HSz7_0⟩ := HI0.out
 have hcz7_0 := cellS74_0 HGz7
 have hcz7_1 := cellS74_1 HGz7
 have hcz7_2 := cellS74_2 HGz7
 have hfz7_1 := blk_frozen HGz7 1
 have hfz7_2 := blk_frozen HGz7 2
 clear HGz7 hgz7
 go_enter Try.func96, Try.ntmps96
 go_wp2_with (first | (go_at_call 89; (with_reducible refine (spec_l03Get.calls k _ _ s0_0 s0_1 t290 t291 false _ ?side1 ?side2 A4.out).mono ?_); (case side1 => exact Kd.C_below HSz7_0.1 (zj74 HB)); (case side2 => exact HSz7_0.2); rintro e w' ⟨rfl, ⟨nd, rfl⟩⟩; (try first | exact ⟨rfl, _, World.drewN_drewN _ _ _⟩ | exact ⟨rfl, _, Eq.trans (World.drewN_drewN _ _ _) (congrArg (World.drewN _) (Nat.add_assoc _ _ _))⟩)))
 repeat (go_quiet (first | (go_at_call 89; (with_reducible refine (spec_l03Get.calls k _ _ s0_0 s0_1 t290 t291 false _ ?side1 ?side2 A4.out).mono ?_); (case side1 => exact Kd.C_below HSz7_0.1 (zj74 HB)); (case side2 => exact HSz7_0.2); rintro e w' ⟨rfl, ⟨nd, rfl⟩⟩; (try first | exact ⟨rfl, _, World.drewN_drewN _ _ _⟩ | exact ⟨rfl, _, Eq.trans (World.drewN_drewN _ _ _) (congrArg (World.drewN _) (Nat.add_assoc _ _ _))⟩))); try go_wp2_with (first | (go_at_call 89; (with_reducible refine (spec_l03Get.calls k _ _ s0_0 s0_1 t290 t291 false _ ?side1 ?side2 A4.out).mono ?_); (case side1 => exact Kd.C_below HSz7_0.1 (zj74 HB)); (case side2 => exact HSz7_0.2); rintro e w' ⟨rfl, ⟨nd, rfl⟩⟩; (try first | exact ⟨rfl, _, World.drewN_drewN _ _ _⟩ | exact ⟨rfl, _, Eq.trans (World.drewN_drewN _ _ _) (congrArg (World.drewN _) (Nat.add_assoc _ _ _))⟩))))
 go_ret
 exact ⟨zre, zi74 HI0, zj74 HB, zk HK⟩

/-! ### spec_l06Reader_text: function 69 -/
def spec_l06Reader_text.f (k : Nat) (s0_0 : List Int) (s0_1 : Int) (s0_2 : Bool) : Option (ByteArray × Int × Bool) := (spec_l06Reader_num.f k s0_0 s0_1 s0_2).bind fun bt => (if 0 ≤ bt.1 then (if bt.1 ≤ 4611686018427387904 then (if 0 ≤ bt.2.1 then (if bt.2.1 ≤ 9000000000 then (if s0_0.length ≤ 9000000000 then (if bt.2.2 = true then (some ((⟨#[]⟩ : ByteArray), bt.2.1, true)) else (if bt.1 > (s0_0.length : Int) - bt.2.1 then (some ((⟨#[]⟩ : ByteArray), bt.2.1, true)) else (if bt.1 > 65536 then (some ((⟨#[]⟩ : ByteArray), bt.2.1, true)) else (some (strOfNums ((s0_0.take (bt.2.1 + bt.1).toNat).drop bt.2.1.toNat), bt.2.1 + bt.1, false))))) else (none)) else (none)) else (none)) else (none)) else (none))
theorem spec_l06Reader_text.mono : ∀ a0 a1 a2 k, LeO (spec_l06Reader_text.f k a0 a1 a2) (spec_l06Reader_text.f (k + 1) a0 a1 a2) := by
 intro a0 a1 a2 k
 unfold spec_l06Reader_text.f
 exact LeO.bind (spec_l06Reader_num.mono _ _ _ _) (fun _ => LeO.refl _)
set_option maxHeartbeats 8000000 in
set_option maxRecDepth 100000 in
theorem spec_l06Reader_text.calls (k : Nat) (g : Nat) (s0_0 : List Int) (s0_1 : Int) (s0_2 : Bool) (r1 : ByteArray) (r2 : Int) (r3 : Bool) (w0 w : World) (hI : IsS74 w0 w g s0_0 s0_1 s0_2) (hB : Below w0.heap.size w0 w) (h : spec_l06Reader_text.f k s0_0 s0_1 s0_2 = some (r1, r2, r3)) :
 Calls Try.prog 69 #[.pointer (some ⟨g, 0, none⟩)] w fun e w' => e = .returned (.string r1) ∧ IsS74 w0 w' g s0_0 r2 r3 ∧ Below w0.heap.size w0 w' ∧ KeepBut w w' g none := by
 unfold spec_l06Reader_text.f at h
 obtain ⟨⟨n1, at1, bad1⟩, hnum, h⟩ := Option.bind_eq_some_iff.1 h
 simp only at h
 by_cases g1 : 0 ≤ n1
 case neg => rw [if_neg g1] at h; cases h
 rw [if_pos g1] at h
 by_cases g2 : n1 ≤ 4611686018427387904
 case neg => rw [if_neg g2] at h; cases h
 rw [if_pos g2] at h
 by_cases g3 : 0 ≤ at1
 case neg => rw [if_neg g3] at h; cases h
 rw [if_pos g3] at h
 by_cases g4 : at1 ≤ 9000000000
 case neg => rw [if_neg g4] at h; cases h
 rw [if_pos g4] at h
 by_cases g5 : s0_0.length ≤ 9000000000
 case neg => rw [if_neg g5] at h; cases h
 rw [if_pos g5] at h
 have hc := fun W hi hb => spec_l06Reader_num.calls k g s0_0 s0_1 s0_2 n1 at1 bad1 w0 W hi hb hnum
 have HI := Aside0.mk hI
 have HB := Aside0.mk hB
 clear hnum hI hB
 have bad : Calls Try.prog 96 #[.pointer (some ⟨g, 0, none⟩)] w (fun e w' => e = .returned (.int .i64 n1) ∧ IsS74 w0 w' g s0_0 at1 bad1 ∧ Below w0.heap.size w0 w' ∧ KeepBut w w' g none) := hc w HI.out HB.out
 clear hc
 by_cases cb : bad1 = true
 ·subst cb
  rw [if_pos rfl] at h
  simp only [Option.some.injEq, Prod.mk.injEq] at h
  obtain ⟨rfl, rfl, rfl⟩ := h
  go_enter Try.func69, Try.ntmps69
  go_wp2_with (go_at_call 96; refine bad.mono ?_; rintro e w1 ⟨rfl, hi1, hb1, hk1⟩; have HI1 := Aside0.mk hi1; have HB1 := Aside0.mk hb1; have HK1 := Aside0.mk hk1; obtain ⟨A1, c1, HG1, hg1, HS1⟩ := hi1; have hx0 := cellS74_0 HG1; have hx1 := cellS74_1 HG1; have hx2 := cellS74_2 HG1; have hf1 := blk_frozen HG1 1; have hf2 := blk_frozen HG1 2; clear HG1 hg1 hb1 hk1)
  repeat (go_quiet (fail); try go_wp2)
  go_ret
  exact ⟨rfl, zi74 HI1, zj74 HB1, zk HK1⟩
 have cb' := Bool.eq_false_iff.2 cb
 subst cb'
 rw [if_neg Bool.false_ne_true] at h
 clear cb
 have q1 : wrap64 (at1 + n1) = at1 + n1 := by unfold wrap64; omega
 have q2 : IntKind.i64.wrap (at1 + n1) = at1 + n1 := (i64_w _).trans q1
 have q3 : wrap64 (at1 + n1 - n1) = at1 := by unfold wrap64; omega
 have q4 : IntKind.i64.wrap (at1 + n1 - n1) = at1 := (i64_w _).trans q3
 have q5 : wrap64 ((s0_0.length : Int) - at1) = (s0_0.length : Int) - at1 := by unfold wrap64; omega
 have q6 : IntKind.i64.wrap ((s0_0.length : Int) - at1) = (s0_0.length : Int) - at1 := (i64_w _).trans q5
 by_cases cl : n1 > (s0_0.length : Int) - at1
 ·rw [if_pos cl] at h
  have d1 : decide ((s0_0.length : Int) - at1 < n1) = true := decide_eq_true cl
  clear cl
  simp only [Option.some.injEq, Prod.mk.injEq] at h
  obtain ⟨rfl, rfl, rfl⟩ := h
  clear g1 g2 g3 g4 g5
  go_enter Try.func69, Try.ntmps69
  go_wp2_with (go_at_call 96; refine bad.mono ?_; rintro e w1 ⟨rfl, hi1, hb1, hk1⟩; have HI1 := Aside0.mk hi1; have HB1 := Aside0.mk hb1; have HK1 := Aside0.mk hk1; obtain ⟨A1, c1, HG1, hg1, HS1⟩ := hi1; have hx0 := cellS74_0 HG1; have hx1 := cellS74_1 HG1; have hx2 := cellS74_2 HG1; have hf1 := blk_frozen HG1 1; have hf2 := blk_frozen HG1 2; clear HG1 hg1 hb1 hk1)
  repeat (go_quiet (fail); try go_wp2)
  go_ret
  exact ⟨rfl, zi74 HI1, zj74 HB1, zk HK1⟩
 rw [if_neg cl] at h
 have d1 : decide ((s0_0.length : Int) - at1 < n1) = false := decide_eq_false cl
 by_cases cm : n1 > 65536
 ·rw [if_pos cm] at h
  have d2 : decide (65536 < n1) = true := decide_eq_true cm
  clear cl cm
  simp only [Option.some.injEq, Prod.mk.injEq] at h
  obtain ⟨rfl, rfl, rfl⟩ := h
  clear g1 g2 g3 g4 g5
  go_enter Try.func69, Try.ntmps69
  go_wp2_with (go_at_call 96; refine bad.mono ?_; rintro e w1 ⟨rfl, hi1, hb1, hk1⟩; have HI1 := Aside0.mk hi1; have HB1 := Aside0.mk hb1; have HK1 := Aside0.mk hk1; obtain ⟨A1, c1, HG1, hg1, HS1⟩ := hi1; have hx0 := cellS74_0 HG1; have hx1 := cellS74_1 HG1; have hx2 := cellS74_2 HG1; have hf1 := blk_frozen HG1 1; have hf2 := blk_frozen HG1 2; clear HG1 hg1 hb1 hk1)
  repeat (go_quiet (fail); try go_wp2)
  go_ret
  exact ⟨rfl, zi74 HI1, zj74 HB1, zk HK1⟩
 rw [if_neg cm] at h
 have d2 : decide (65536 < n1) = false := decide_eq_false cm
 simp only [Option.some.injEq, Prod.mk.injEq] at h
 obtain ⟨rfl, rfl, rfl⟩ := h
 have HG := Aside0.mk (show 0 ≤ at1 ∧ at1 ≤ at1 + n1 ∧ at1 + n1 ≤ (s0_0.length : Int) from ⟨g3, by omega, by omega⟩)
 have HG0 := Aside0.mk (And.intro g3 g4)
 clear g1 g2 g3 g4 g5
 go_enter Try.func69, Try.ntmps69
 go_upto_region 6 with (first | (go_at_call 96; refine bad.mono ?_; rintro e w1 ⟨rfl, hi1, hb1, hk1⟩; have HI1 := Aside0.mk hi1; have HB1 := Aside0.mk hb1; have HK1 := Aside0.mk hk1; obtain ⟨A1, c1, HG1, hg1, HS1⟩ := hi1; have hx0 := cellS74_0 HG1; have hx1 := cellS74_1 HG1; have hx2 := cellS74_2 HG1; have hf1 := blk_frozen HG1 1; have hf2 := blk_frozen HG1 2; clear HG1 hg1 hb1 hk1) | (go_quiet (fail)))
 have HI2 : Aside0 (IsS74 w0 ((w1.drewN nq).setCell ⟨g, 1, none⟩ (.int .i64 (at1 + n1))) g s0_0 (at1 + n1) false) := ⟨zi74 HI1⟩
 have HB2 : Aside0 (Below w0.heap.size w0 ((w1.drewN nq).setCell ⟨g, 1, none⟩ (.int .i64 (at1 + n1)))) := ⟨zj74 HB1⟩
 have HK2 : Aside0 (KeepBut w ((w1.drewN nq).setCell ⟨g, 1, none⟩ (.int .i64 (at1 + n1))) g none) := ⟨zk HK1⟩
 clear hx0 hx1 hx2 hf1 hf2 HS1
 generalize (w1.drewN nq).setCell ⟨g, 1, none⟩ (.int .i64 (at1 + n1)) = w2 at HI2 HB2 HK2 ⊢
 clear HI1 HB1 HK1
 obtain ⟨A2, c2, HG2, hg2, HS2⟩ := HI2.out
 have hx0 := cellS74_0 HG2
 have hx1 := cellS74_1 HG2
 clear HG2 hg2
 obtain ⟨A3, hcut, hrd, hle⟩ := print_mid_of (P := Try.prog) (Value.int .u8) (0 : Int) 26 5 .i64 .i64 Try.underlying26 rfl rfl A2 c2 s0_0 at1 (at1 + n1) HG.out.1 HG.out.2.1 HG.out.2.2 HS2.2
 have hcv := fun m => string_of_reads (c := c2 - at1.toNat) Try.underlying26 Try.underlying5 Try.underlying9 (hrd _ (Kd.reads_of_C (enc := Value.int .u8) (d := (0 : Int)) (h1 := fun _ => rfl) (Kd.C_drewN (Kd.C_below HS2.1 HB2.out) m)))
 clear HS2 hrd hle HG h
 generalize hxs : (s0_0.take (at1 + n1).toNat).drop at1.toNat = xs at hcut hcv ⊢
 have q7 : wrap64 at1 = at1 := by have := HG0.out; unfold wrap64; omega
 have q8 : IntKind.i64.wrap at1 = at1 := (i64_w _).trans q7
 clear HG0
 go_quiet (fail)
 try go_wp2
 go_ret
 exact ⟨by subst hxs; rfl, zi74 HI2, zj74 HB2, zk HK2⟩

/-! ### spec_l06Reader_count: function 70 -/
def spec_l06Reader_count.f (k : Nat) (s0_0 : List Int) (s0_1 : Int) (s0_2 : Bool) : Option (Int × Int × Bool) := (spec_l06Reader_num.f k s0_0 s0_1 s0_2).bind fun bt293 => (if bt293.1 > 4096 then (some (0, bt293.2.1, true)) else (some (bt293.1, bt293.2.1, bt293.2.2)))
theorem spec_l06Reader_count.mono : ∀ a0 a1 a2 k, LeO (spec_l06Reader_count.f k a0 a1 a2) (spec_l06Reader_count.f (k + 1) a0 a1 a2) := by
 intro a0 a1 a2 k
 unfold spec_l06Reader_count.f
 repeat' first
  | (with_reducible exact spec_l06Reader_num.mono _ _ _ _)
  | (with_reducible exact LeO.refl _)
  | (with_reducible exact LeO.none _)
  | (with_reducible refine LeO.ite ?_ ?_)
  | (with_reducible refine LeO.bind ?_ (fun _ => ?_))
set_option maxHeartbeats 8000000 in
set_option maxRecDepth 100000 in
theorem spec_l06Reader_count.calls (k : Nat) (g : Nat) (s0_0 : List Int) (s0_1 : Int) (s0_2 : Bool) (r1 : Int) (r2 : Int) (r3 : Bool) (w0 w : World) (hI : IsS74 w0 w g s0_0 s0_1 s0_2) (hB : Below w0.heap.size w0 w) (h : spec_l06Reader_count.f k s0_0 s0_1 s0_2 = some (r1, r2, r3)) :
 Calls Try.prog 70 #[.pointer (some ⟨g, 0, none⟩)] w fun e w' => e = .returned (.int .i64 r1) ∧ IsS74 w0 w' g s0_0 r2 r3 ∧ Below w0.heap.size w0 w' ∧ KeepBut w w' g none := by
 have HI0 := Aside0.mk hI
 have HK := Aside0.mk (KeepBut.refl w g none)
 have HL := Aside0.mk hB.size
 clear hI
 have HW0 := Aside0.mk hB.size
 have HB := Aside0.mk hB
 clear hB
 have H := h
 unfold spec_l06Reader_count.f at H
 clear h
 replace H := Option.bind_eq_some_iff.mp H
 obtain ⟨⟨t293, t294, t295⟩, A20, H⟩ := H
 try dsimp only at H
 have A2 := Aside0.mk A20
 clear A20
 by_cases c3 : t293 > 4096
 rotate_left
 ·rw [if_neg c3] at H
  have c3b0 : decide (4096 < t293) = false := decide_eq_false c3
  clear c3
  simp only [Option.some.injEq, Prod.mk.injEq] at H
  obtain ⟨rfl, rfl, rfl⟩ := H
  go_enter Try.func70, Try.ntmps70
  go_wp2_with (first | ((with_reducible refine gate_callee (f := 96) rfl ?_); refine goesL_ (some 5) rfl rfl Try.func96 (by kernel_rfl) rfl #[.pointer (some ⟨g, 0, none⟩)] rfl zar ?_; (with_reducible refine (spec_l06Reader_num.calls k g s0_0 s0_1 s0_2 t293 t294 t295 w0 _ ?side1 ?side2 A2.out).mono ?_); (case side1 => exact zi74 HI0); (case side2 => exact zj74 HB); rintro e w6 ⟨rfl, hi, hb, hk⟩; refine ⟨_, rfl, ?_⟩; replace HK := Aside0.mk (KeepBut.trans (zk HK) hk (.inl rfl)); replace HB := Aside0.mk (hb); replace HI0 := Aside0.mk (hi); (try clear hb); (try clear hb2); (try clear hk); (try clear hi)))
  go_ret
  exact ⟨zre, zi74 HI0, zj74 HB, zk HK⟩

 rw [if_pos c3] at H
 have c3b0 : decide (4096 < t293) = true := decide_eq_true c3
 clear c3
 simp only [Option.some.injEq, Prod.mk.injEq] at H
 obtain ⟨rfl, rfl, rfl⟩ := H
 go_enter Try.func70, Try.ntmps70
 go_wp2_with (first | ((with_reducible refine gate_callee (f := 96) rfl ?_); refine goesL_ (some 5) rfl rfl Try.func96 (by kernel_rfl) rfl #[.pointer (some ⟨g, 0, none⟩)] rfl zar ?_; (with_reducible refine (spec_l06Reader_num.calls k g s0_0 s0_1 s0_2 t293 t294 t295 w0 _ ?side1 ?side2 A2.out).mono ?_); (case side1 => exact zi74 HI0); (case side2 => exact zj74 HB); rintro e w4 ⟨rfl, hi, hb, hk⟩; refine ⟨_, rfl, ?_⟩; replace HK := Aside0.mk (KeepBut.trans (zk HK) hk (.inl rfl)); replace HB := Aside0.mk (hb); replace HI0 := Aside0.mk (hi); (try clear hb); (try clear hb2); (try clear hk); (try clear hi); obtain ⟨ASz5_0, cSz5_0, HGz5, hgz5, HSz5_0⟩ := HI0.out; have hcz5_0 := cellS74_0 HGz5; have hcz5_1 := cellS74_1 HGz5; have hcz5_2 := cellS74_2 HGz5; have hfz5_1 := blk_frozen HGz5 1; have hfz5_2 := blk_frozen HGz5 2; clear HGz5 hgz5))
 go_ret
 exact ⟨zre, zi74 HI0, zj74 HB, zk HK⟩
/-! ### spec_l06Reader_number: function 71 -/
def spec_l06Reader_number.f (k : Nat) (s0_0 : List Int) (s0_1 : Int) (s0_2 : Bool) : Option (Int × Int × Bool) := (spec_l06Reader_num.f k s0_0 s0_1 s0_2).bind fun bt296 => (if bt296.1 > 2000000000000 then (some (0, bt296.2.1, true)) else (if (Int.tmod bt296.1 2) = 1 then (some (wrap64 (Int.tdiv (wrap64 (-(wrap64 (bt296.1 + 1)))) 2), bt296.2.1, bt296.2.2)) else (some (wrap64 (Int.tdiv bt296.1 2), bt296.2.1, bt296.2.2))))
theorem spec_l06Reader_number.mono : ∀ a0 a1 a2 k, LeO (spec_l06Reader_number.f k a0 a1 a2) (spec_l06Reader_number.f (k + 1) a0 a1 a2) := by
 intro a0 a1 a2 k
 unfold spec_l06Reader_number.f
 repeat' first
  | (with_reducible exact spec_l06Reader_num.mono _ _ _ _)
  | (with_reducible exact LeO.refl _)
  | (with_reducible exact LeO.none _)
  | (with_reducible refine LeO.ite ?_ ?_)
  | (with_reducible refine LeO.bind ?_ (fun _ => ?_))
set_option maxHeartbeats 8000000 in
set_option maxRecDepth 100000 in
theorem spec_l06Reader_number.calls (k : Nat) (g : Nat) (s0_0 : List Int) (s0_1 : Int) (s0_2 : Bool) (r1 : Int) (r2 : Int) (r3 : Bool) (w0 w : World) (hI : IsS74 w0 w g s0_0 s0_1 s0_2) (hB : Below w0.heap.size w0 w) (h : spec_l06Reader_number.f k s0_0 s0_1 s0_2 = some (r1, r2, r3)) :
 Calls Try.prog 71 #[.pointer (some ⟨g, 0, none⟩)] w fun e w' => e = .returned (.int .i64 r1) ∧ IsS74 w0 w' g s0_0 r2 r3 ∧ Below w0.heap.size w0 w' ∧ KeepBut w w' g none := by
 have HI0 := Aside0.mk hI
 have HK := Aside0.mk (KeepBut.refl w g none)
 have HL := Aside0.mk hB.size
 clear hI
 have HW0 := Aside0.mk hB.size
 have HB := Aside0.mk hB
 clear hB
 have H := h
 unfold spec_l06Reader_number.f at H
 clear h
 replace H := Option.bind_eq_some_iff.mp H
 obtain ⟨⟨t296, t297, t298⟩, A20, H⟩ := H
 try dsimp only at H
 have A2 := Aside0.mk A20
 clear A20
 by_cases c3 : t296 > 2000000000000
 ·rw [if_pos c3] at H
  have c3b0 : decide (2000000000000 < t296) = true := decide_eq_true c3
  clear c3
  simp only [Option.some.injEq, Prod.mk.injEq] at H
  obtain ⟨rfl, rfl, rfl⟩ := H
  go_enter Try.func71, Try.ntmps71
  go_wp2_with (first | ((with_reducible refine gate_callee (f := 96) rfl ?_); refine goesL_ (some 5) rfl rfl Try.func96 (by kernel_rfl) rfl #[.pointer (some ⟨g, 0, none⟩)] rfl zar ?_; (with_reducible refine (spec_l06Reader_num.calls k g s0_0 s0_1 s0_2 t296 t297 t298 w0 _ ?side1 ?side2 A2.out).mono ?_); (case side1 => exact zi74 HI0); (case side2 => exact zj74 HB); rintro e w4 ⟨rfl, hi, hb, hk⟩; refine ⟨_, rfl, ?_⟩; replace HK := Aside0.mk (KeepBut.trans (zk HK) hk (.inl rfl)); replace HB := Aside0.mk (hb); replace HI0 := Aside0.mk (hi); (try clear hb); (try clear hb2); (try clear hk); (try clear hi); obtain ⟨ASz5_0, cSz5_0, HGz5, hgz5, HSz5_0⟩ := HI0.out; have hcz5_0 := cellS74_0 HGz5; have hcz5_1 := cellS74_1 HGz5; have hcz5_2 := cellS74_2 HGz5; have hfz5_1 := blk_frozen HGz5 1; have hfz5_2 := blk_frozen HGz5 2; clear HGz5 hgz5))
  go_ret
  exact ⟨zre, zi74 HI0, zj74 HB, zk HK⟩
 rw [if_neg c3] at H
 have c3b0 : decide (2000000000000 < t296) = false := decide_eq_false c3
 clear c3
 by_cases c6 : (Int.tmod t296 2) = 1
 rotate_left
 ·rw [if_neg c6] at H
  have c6b0 : ((Int.tmod t296 2) == 1) = false := beq_eq_false_iff_ne.mpr c6
  have c6b1 : ((Int.tmod t296 2) != 1) = true := bne_iff_ne.mpr c6
  simp only [Option.some.injEq, Prod.mk.injEq] at H
  obtain ⟨rfl, rfl, rfl⟩ := H
  go_enter Try.func71, Try.ntmps71
  go_wp2_with (first | ((with_reducible refine gate_callee (f := 96) rfl ?_); refine goesL_ (some 5) rfl rfl Try.func96 (by kernel_rfl) rfl #[.pointer (some ⟨g, 0, none⟩)] rfl zar ?_; (with_reducible refine (spec_l06Reader_num.calls k g s0_0 s0_1 s0_2 t296 t297 t298 w0 _ ?side1 ?side2 A2.out).mono ?_); (case side1 => exact zi74 HI0); (case side2 => exact zj74 HB); rintro e w8 ⟨rfl, hi, hb, hk⟩; refine ⟨_, rfl, ?_⟩; replace HK := Aside0.mk (KeepBut.trans (zk HK) hk (.inl rfl)); replace HB := Aside0.mk (hb); replace HI0 := Aside0.mk (hi); (try clear hb); (try clear hb2); (try clear hk); (try clear hi)))
  go_ret
  exact ⟨zre, zi74 HI0, zj74 HB, zk HK⟩

 rw [if_pos c6] at H
 have c6b0 : ((Int.tmod t296 2) == 1) = true := beq_iff_eq.mpr c6
 have c6b1 : ((Int.tmod t296 2) != 1) = false := bne_eq_false_iff_eq.mpr c6
 clear c6
 simp only [Option.some.injEq, Prod.mk.injEq] at H
 obtain ⟨rfl, rfl, rfl⟩ := H
 go_enter Try.func71, Try.ntmps71
 go_wp2_with (first | ((with_reducible refine gate_callee (f := 96) rfl ?_); refine goesL_ (some 5) rfl rfl Try.func96 (by kernel_rfl) rfl #[.pointer (some ⟨g, 0, none⟩)] rfl zar ?_; (with_reducible refine (spec_l06Reader_num.calls k g s0_0 s0_1 s0_2 t296 t297 t298 w0 _ ?side1 ?side2 A2.out).mono ?_); (case side1 => exact zi74 HI0); (case side2 => exact zj74 HB); rintro e w7 ⟨rfl, hi, hb, hk⟩; refine ⟨_, rfl, ?_⟩; replace HK := Aside0.mk (KeepBut.trans (zk HK) hk (.inl rfl)); replace HB := Aside0.mk (hb); replace HI0 := Aside0.mk (hi); (try clear hb); (try clear hb2); (try clear hk); (try clear hi)))
 go_ret
 exact ⟨zre, zi74 HI0, zj74 HB, zk HK⟩
end Go.Proofs.Ytnpdmleglcbobaa.XFnExactReadLog
