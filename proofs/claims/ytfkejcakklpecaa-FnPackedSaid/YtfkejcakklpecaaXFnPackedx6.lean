-- A text of this session: written by its own program (wip/x/xprint.py), which runs the kit's printer with contracts of its own.
import Derived.Test.YtfkejcakklpecaaXFnPackedx0
import Derived.Test.YtfkejcakklpecaaXFnPackedx3
import Derived.Test.YtfkejcakklpecaaXFnPackedx5
namespace Go.Proofs.Ytfkejcakklpecaa.XFnPacked
open Go.RowKit Go.Proofs.YtfkejcakklpecaaW.PrintWords Go.Proofs.YtfkejcakklpecaaW.PrintLast Go.Proofs.YtfkejcakklpecaaW.PrintMore
attribute [local go_sem] max2_int min2_int max_two min_two max_three min_three max_four min_four   -- for this text's walks alone
set_option linter.unusedVariables false
set_option linter.unusedSimpArgs false

/-! ### impl_UnpackInts: function 26 -/
mutual
def impl_UnpackInts.j0 : Nat → List Int → Int → Int → Bool → Option (List Int × Int)
 | 0, _, _, _, _ => none
 | k + 1, x0, x4, x5, x31 => if x31 = true then (some (([] : List Int), 3)) else (impl_UnpackInts.l0 k x0 x4 x5 ([] : List Int))
def impl_UnpackInts.l0 : Nat → List Int → Int → Int → List Int → Option (List Int × Int)
 | 0, _, _, _, _ => none
 | k + 1, x0, x4, x5, x7 => if (x7.length : Int) < x4 then (if x5 ≥ (x0.length : Int) then (impl_UnpackInts.j2 k x0 x4 x5 x7 (mn 128 (wrap64 (x4 - (x7.length : Int)))) true) else (if 0 ≤ x5 then (if x5 < (x0.length : Int) then (impl_UnpackInts.j2 k x0 x4 x5 x7 (mn 128 (wrap64 (x4 - (x7.length : Int)))) (decide ((rd x0 x5) > 62))) else (none)) else (none))) else ((impl_PackInts.f k x7).bind fun bt218 => (if bt218.2 = 0 then (if (strOfNums bt218.1).toList = (strOfNums x0).toList then (some (x7, 0)) else (some (([] : List Int), 3))) else (some (([] : List Int), 3))))
def impl_UnpackInts.j2 : Nat → List Int → Int → Int → List Int → Int → Bool → Option (List Int × Int)
 | 0, _, _, _, _, _, _ => none
 | k + 1, x0, x4, x5, x7, x8, x51 => if x51 = true then (some (([] : List Int), 3)) else (if 0 ≤ x5 then (if x5 < (x0.length : Int) then (if (wrap64 ((wrap64 (x5 + 1)) + (wrap64 (Int.tdiv (wrap64 ((wrap64 ((wrap64 (rd x0 x5)) * x8)) + 7)) 8)))) > (x0.length : Int) then (some (([] : List Int), 3)) else (impl_UnpackInts.l1 k x0 x4 (wrap64 (x5 + 1)) x7 (wrap64 (rd x0 x5)) (wrap64 (Int.tdiv (wrap64 ((wrap64 ((wrap64 (rd x0 x5)) * x8)) + 7)) 8)) x8 0)) else (none)) else (none))
def impl_UnpackInts.l1 : Nat → List Int → Int → Int → List Int → Int → Int → Int → Int → Option (List Int × Int)
 | 0, _, _, _, _, _, _, _, _ => none
 | k + 1, x0, x4, x5, x7, x9, x10, x70, x71 => if x71 < x70 then (impl_UnpackInts.l2 k x0 x4 x5 x7 x9 x10 x71 0 x70 x71 x9 0) else (impl_UnpackInts.l0 k x0 x4 (wrap64 (x5 + x10)) x7)
def impl_UnpackInts.l2 : Nat → List Int → Int → Int → List Int → Int → Int → Int → Int → Int → Int → Int → Int → Option (List Int × Int)
 | 0, _, _, _, _, _, _, _, _, _, _, _, _ => none
 | k + 1, x0, x4, x5, x7, x9, x10, x11, x12, x70, x71, x74, x75 => if x75 < x74 then (if 0 ≤ (wrap64 (x5 + (wrap64 (Int.tdiv (wrap64 ((wrap64 (x11 * x9)) + x75)) 8)))) then (if (wrap64 (x5 + (wrap64 (Int.tdiv (wrap64 ((wrap64 (x11 * x9)) + x75)) 8)))) < (x0.length : Int) then (if 0 ≤ (Int.tmod (wrap64 ((wrap64 (x11 * x9)) + x75)) 8) then (if 0 ≤ x75 then (impl_UnpackInts.l2 k x0 x4 x5 x7 x9 x10 x11 (Go.bits .or .i64 x12 (shl .i64 (wrap64 (Go.bits .and .u8 (shr .u8 (rd x0 (wrap64 (x5 + (wrap64 (Int.tdiv (wrap64 ((wrap64 (x11 * x9)) + x75)) 8))))) (Int.tmod (wrap64 ((wrap64 (x11 * x9)) + x75)) 8)) 1)) x75)) x70 x71 x74 (wrap64 (x75 + 1))) else (none)) else (none)) else (none)) else (none)) else (if x7.length < 17592186044416 then (impl_UnpackInts.l1 k x0 x4 x5 (x7 ++ [x12]) x9 x10 x70 (wrap64 (x71 + 1))) else (none))
end
def impl_UnpackInts.f (k : Nat) (l0 : List Int) : Option (List Int × Int) := (impl_GetInt.f k l0 0).bind fun bt215 => (if bt215.2.2 = 2 then (some (([] : List Int), bt215.2.2)) else (if bt215.2.2 = 0 then (impl_UnpackInts.j0 k l0 bt215.1 bt215.2.1 (decide (bt215.1 > 4096))) else (impl_UnpackInts.j0 k l0 bt215.1 bt215.2.1 true)))
theorem impl_UnpackInts.mono_l : ∀ k, (∀ y0 y1 y2 y3, LeO (impl_UnpackInts.j0 k y0 y1 y2 y3) (impl_UnpackInts.j0 (k + 1) y0 y1 y2 y3)) ∧ (∀ y0 y1 y2 y3, LeO (impl_UnpackInts.l0 k y0 y1 y2 y3) (impl_UnpackInts.l0 (k + 1) y0 y1 y2 y3)) ∧ (∀ y0 y1 y2 y3 y4 y5, LeO (impl_UnpackInts.j2 k y0 y1 y2 y3 y4 y5) (impl_UnpackInts.j2 (k + 1) y0 y1 y2 y3 y4 y5)) ∧ (∀ y0 y1 y2 y3 y4 y5 y6 y7, LeO (impl_UnpackInts.l1 k y0 y1 y2 y3 y4 y5 y6 y7) (impl_UnpackInts.l1 (k + 1) y0 y1 y2 y3 y4 y5 y6 y7)) ∧ (∀ y0 y1 y2 y3 y4 y5 y6 y7 y8 y9 y10 y11, LeO (impl_UnpackInts.l2 k y0 y1 y2 y3 y4 y5 y6 y7 y8 y9 y10 y11) (impl_UnpackInts.l2 (k + 1) y0 y1 y2 y3 y4 y5 y6 y7 y8 y9 y10 y11))
 | 0 => ⟨fun _ _ _ _ r h => by simp [impl_UnpackInts.j0] at h, fun _ _ _ _ r h => by simp [impl_UnpackInts.l0] at h, fun _ _ _ _ _ _ r h => by simp [impl_UnpackInts.j2] at h, fun _ _ _ _ _ _ _ _ r h => by simp [impl_UnpackInts.l1] at h, fun _ _ _ _ _ _ _ _ _ _ _ _ r h => by simp [impl_UnpackInts.l2] at h⟩
 | k + 1 => by
  obtain ⟨ih0, ih1, ih2, ih3, ih4⟩ := impl_UnpackInts.mono_l k
  refine ⟨?_, ?_, ?_, ?_, ?_⟩
  ·intro y0 y1 y2 y3
   unfold impl_UnpackInts.j0
   repeat' first
   | (with_reducible exact ih0 _ _ _ _)
   | (with_reducible exact ih1 _ _ _ _)
   | (with_reducible exact ih2 _ _ _ _ _ _)
   | (with_reducible exact ih3 _ _ _ _ _ _ _ _)
   | (with_reducible exact ih4 _ _ _ _ _ _ _ _ _ _ _ _)
   | (with_reducible exact impl_GetInt.mono _ _ _)
   | (with_reducible exact impl_PackInts.mono _ _)
   | (with_reducible exact LeO.refl _)
   | (with_reducible exact LeO.none _)
   | (with_reducible refine LeO.ite ?_ ?_)
   | (with_reducible refine LeO.bind ?_ (fun _ => ?_))
   | exact ih0 _ _ _ _
   | exact ih1 _ _ _ _
   | exact ih2 _ _ _ _ _ _
   | exact ih3 _ _ _ _ _ _ _ _
   | exact ih4 _ _ _ _ _ _ _ _ _ _ _ _
   | exact impl_GetInt.mono _ _ _
   | exact impl_PackInts.mono _ _
   | exact LeO.none _
   | refine LeO.ite ?_ ?_
   | refine LeO.bind ?_ (fun _ => ?_)
  ·intro y0 y1 y2 y3
   unfold impl_UnpackInts.l0
   repeat' first
   | (with_reducible exact ih0 _ _ _ _)
   | (with_reducible exact ih1 _ _ _ _)
   | (with_reducible exact ih2 _ _ _ _ _ _)
   | (with_reducible exact ih3 _ _ _ _ _ _ _ _)
   | (with_reducible exact ih4 _ _ _ _ _ _ _ _ _ _ _ _)
   | (with_reducible exact impl_GetInt.mono _ _ _)
   | (with_reducible exact impl_PackInts.mono _ _)
   | (with_reducible exact LeO.refl _)
   | (with_reducible exact LeO.none _)
   | (with_reducible refine LeO.ite ?_ ?_)
   | (with_reducible refine LeO.bind ?_ (fun _ => ?_))
   | exact ih0 _ _ _ _
   | exact ih1 _ _ _ _
   | exact ih2 _ _ _ _ _ _
   | exact ih3 _ _ _ _ _ _ _ _
   | exact ih4 _ _ _ _ _ _ _ _ _ _ _ _
   | exact impl_GetInt.mono _ _ _
   | exact impl_PackInts.mono _ _
   | exact LeO.none _
   | refine LeO.ite ?_ ?_
   | refine LeO.bind ?_ (fun _ => ?_)
  ·intro y0 y1 y2 y3 y4 y5
   unfold impl_UnpackInts.j2
   repeat' first
   | (with_reducible exact ih0 _ _ _ _)
   | (with_reducible exact ih1 _ _ _ _)
   | (with_reducible exact ih2 _ _ _ _ _ _)
   | (with_reducible exact ih3 _ _ _ _ _ _ _ _)
   | (with_reducible exact ih4 _ _ _ _ _ _ _ _ _ _ _ _)
   | (with_reducible exact impl_GetInt.mono _ _ _)
   | (with_reducible exact impl_PackInts.mono _ _)
   | (with_reducible exact LeO.refl _)
   | (with_reducible exact LeO.none _)
   | (with_reducible refine LeO.ite ?_ ?_)
   | (with_reducible refine LeO.bind ?_ (fun _ => ?_))
   | exact ih0 _ _ _ _
   | exact ih1 _ _ _ _
   | exact ih2 _ _ _ _ _ _
   | exact ih3 _ _ _ _ _ _ _ _
   | exact ih4 _ _ _ _ _ _ _ _ _ _ _ _
   | exact impl_GetInt.mono _ _ _
   | exact impl_PackInts.mono _ _
   | exact LeO.none _
   | refine LeO.ite ?_ ?_
   | refine LeO.bind ?_ (fun _ => ?_)
  ·intro y0 y1 y2 y3 y4 y5 y6 y7
   unfold impl_UnpackInts.l1
   repeat' first
   | (with_reducible exact ih0 _ _ _ _)
   | (with_reducible exact ih1 _ _ _ _)
   | (with_reducible exact ih2 _ _ _ _ _ _)
   | (with_reducible exact ih3 _ _ _ _ _ _ _ _)
   | (with_reducible exact ih4 _ _ _ _ _ _ _ _ _ _ _ _)
   | (with_reducible exact impl_GetInt.mono _ _ _)
   | (with_reducible exact impl_PackInts.mono _ _)
   | (with_reducible exact LeO.refl _)
   | (with_reducible exact LeO.none _)
   | (with_reducible refine LeO.ite ?_ ?_)
   | (with_reducible refine LeO.bind ?_ (fun _ => ?_))
   | exact ih0 _ _ _ _
   | exact ih1 _ _ _ _
   | exact ih2 _ _ _ _ _ _
   | exact ih3 _ _ _ _ _ _ _ _
   | exact ih4 _ _ _ _ _ _ _ _ _ _ _ _
   | exact impl_GetInt.mono _ _ _
   | exact impl_PackInts.mono _ _
   | exact LeO.none _
   | refine LeO.ite ?_ ?_
   | refine LeO.bind ?_ (fun _ => ?_)
  ·intro y0 y1 y2 y3 y4 y5 y6 y7 y8 y9 y10 y11
   unfold impl_UnpackInts.l2
   repeat' first
   | (with_reducible exact ih0 _ _ _ _)
   | (with_reducible exact ih1 _ _ _ _)
   | (with_reducible exact ih2 _ _ _ _ _ _)
   | (with_reducible exact ih3 _ _ _ _ _ _ _ _)
   | (with_reducible exact ih4 _ _ _ _ _ _ _ _ _ _ _ _)
   | (with_reducible exact impl_GetInt.mono _ _ _)
   | (with_reducible exact impl_PackInts.mono _ _)
   | (with_reducible exact LeO.refl _)
   | (with_reducible exact LeO.none _)
   | (with_reducible refine LeO.ite ?_ ?_)
   | (with_reducible refine LeO.bind ?_ (fun _ => ?_))
   | exact ih0 _ _ _ _
   | exact ih1 _ _ _ _
   | exact ih2 _ _ _ _ _ _
   | exact ih3 _ _ _ _ _ _ _ _
   | exact ih4 _ _ _ _ _ _ _ _ _ _ _ _
   | exact impl_GetInt.mono _ _ _
   | exact impl_PackInts.mono _ _
   | exact LeO.none _
   | refine LeO.ite ?_ ?_
   | refine LeO.bind ?_ (fun _ => ?_)
theorem impl_UnpackInts.mono : ∀ a0 k, LeO (impl_UnpackInts.f k a0) (impl_UnpackInts.f (k + 1) a0) := by
 intro a0 k
 obtain ⟨ih0, ih1, ih2, ih3, ih4⟩ := impl_UnpackInts.mono_l k
 unfold impl_UnpackInts.f
 repeat' first
   | (with_reducible exact ih0 _ _ _ _)
   | (with_reducible exact ih1 _ _ _ _)
   | (with_reducible exact ih2 _ _ _ _ _ _)
   | (with_reducible exact ih3 _ _ _ _ _ _ _ _)
   | (with_reducible exact ih4 _ _ _ _ _ _ _ _ _ _ _ _)
   | (with_reducible exact impl_GetInt.mono _ _ _)
   | (with_reducible exact impl_PackInts.mono _ _)
   | (with_reducible exact LeO.refl _)
   | (with_reducible exact LeO.none _)
   | (with_reducible refine LeO.ite ?_ ?_)
   | (with_reducible refine LeO.bind ?_ (fun _ => ?_))
   | exact ih0 _ _ _ _
   | exact ih1 _ _ _ _
   | exact ih2 _ _ _ _ _ _
   | exact ih3 _ _ _ _ _ _ _ _
   | exact ih4 _ _ _ _ _ _ _ _ _ _ _ _
   | exact impl_GetInt.mono _ _ _
   | exact impl_PackInts.mono _ _
   | exact LeO.none _
   | refine LeO.ite ?_ ?_
   | refine LeO.bind ?_ (fun _ => ?_)
set_option maxHeartbeats 8000000 in
set_option maxRecDepth 100000 in
theorem impl_UnpackInts.calls (k : Nat) (A0 : Option Addr) (c0 : Nat) (l0 : List Int) (r1 : List Int) (r2 : Int) (w : World) (hr0 : Kd.C (Kd.int .u8) w A0 l0.length l0) (hc0 : l0.length ≤ c0) (h : impl_UnpackInts.f k l0 = some (r1, r2)) :
  Calls Try.prog 26 #[.slice A0 l0.length c0] w fun e w' => ∃ v0_ : Value, e = .returned (.tuple #[v0_, .int .i64 r2]) ∧ Kd.R (Kd.int .i64) 3 w' w.heap.size (fun _ => True) v0_ r1 ∧ Below w.heap.size w w' := by
 have HR0 := Aside0.mk hr0
 have HC0 := Aside0.mk hc0
 clear hr0 hc0
 have HB := Aside0.mk (Below.refl w.heap.size w)
 have H : ((impl_GetInt.f k l0 0).bind fun bt215 => (if bt215.2.2 = 2 then (some (([] : List Int), bt215.2.2)) else (if bt215.2.2 = 0 then (impl_UnpackInts.j0 k l0 bt215.1 bt215.2.1 (decide (bt215.1 > 4096))) else (impl_UnpackInts.j0 k l0 bt215.1 bt215.2.1 true)))) = some (r1, r2) := h
 clear h
 replace H := Option.bind_eq_some_iff.mp H
 obtain ⟨⟨t215, t216, t217⟩, A20, H⟩ := H
 replace H : (if t217 = 2 then (some (([] : List Int), t217)) else (if t217 = 0 then (impl_UnpackInts.j0 k l0 t215 t216 (decide (t215 > 4096))) else (impl_UnpackInts.j0 k l0 t215 t216 true))) = some (r1, r2) := H
 have A2 := Aside0.mk A20
 clear A20
 by_cases c3 : t217 = 2
 ·rw [if_pos c3] at H
  have c3b0 : (t217 == 2) = true := beq_iff_eq.mpr c3
  have c3b1 : (t217 != 2) = false := bne_eq_false_iff_eq.mpr c3
  clear c3
  simp only [Option.some.injEq, Prod.mk.injEq] at H
  obtain ⟨rfl, rfl⟩ := H
  go_enter Try.func26, Try.ntmps26
  go_wp2_with (first | ((with_reducible refine gate_callee (f := 33) rfl ?_); refine goesL_ (some 19) rfl rfl Try.func33 (by kernel_rfl) rfl #[.slice A0 l0.length c0, .int .i64 0] rfl (by (try simp only [List.map_toArray, List.map_cons, List.map_nil]); first | done | rfl | (simp only [List.length_drop, List.length_take]; rfl)) ?_; (with_reducible refine (impl_GetInt.calls k _ _ l0 0 t215 t216 t217 _ ?side1 ?side2 A2.out).mono ?_); (case side1 => repeat (first | exact HR0.out | (with_reducible refine Kd.C_alloc ?_ _) | (with_reducible refine Kd.C_drewN ?_ _) | (with_reducible refine Kd.C_drew ?_))); (case side2 => exact HC0.out); rintro e w' ⟨rfl, ⟨nd, rfl⟩⟩; refine ⟨_, rfl, ?_⟩))
  go_ret2
  exact ⟨_, by first | rfl | (simp [errW_none, errW_some] <;> rfl) | (simp [*, errW_none, errW_some] <;> rfl), by first | exact Kd.R_nil _ _ _ _ _ | exact Kd.N_nil _ _ _ _ _ | exact Kd.V_nil _ _ _ _ _ | exact Kd.Q_nil _ _ _ _ _ | exact Kd.S_nil _ _ _ _ _, by repeat (first | (with_reducible first | exact HB.out | apply below_alloc | apply pw_below_drewN | apply below_drew1) | exact HB.out)⟩
 ·rw [if_neg c3] at H
  have c3b0 : (t217 == 2) = false := beq_eq_false_iff_ne.mpr c3
  have c3b1 : (t217 != 2) = true := bne_iff_ne.mpr c3
  have HC4 := Aside0.mk H
  clear H
  go_enter Try.func26, Try.ntmps26
  go_upto_region 4 with (first | ((with_reducible refine gate_callee (f := 33) rfl ?_); refine goesL_ (some 19) rfl rfl Try.func33 (by kernel_rfl) rfl #[.slice A0 l0.length c0, .int .i64 0] rfl (by (try simp only [List.map_toArray, List.map_cons, List.map_nil]); first | done | rfl | (simp only [List.length_drop, List.length_take]; rfl)) ?_; (with_reducible refine (impl_GetInt.calls k _ _ l0 0 t215 t216 t217 _ ?side1 ?side2 A2.out).mono ?_); (case side1 => repeat (first | exact HR0.out | (with_reducible refine Kd.C_alloc ?_ _) | (with_reducible refine Kd.C_drewN ?_ _) | (with_reducible refine Kd.C_drew ?_))); (case side2 => exact HC0.out); rintro e w' ⟨rfl, ⟨nd, rfl⟩⟩; refine ⟨_, rfl, ?_⟩))
  (try simp only [Act.put, List.setIfInBounds_toArray, List.set_cons_zero, List.set_cons_succ])
  go_cut [31] (fun v31 wc => ∃ (kq : Nat) (x31_3 : Bool), v31 = .bool x31_3 ∧ Aside0 (impl_UnpackInts.j0 kq l0 t215 t216 x31_3 = some (r1, r2)) ∧ Aside0 (kq ≤ k) ∧ Aside0 (Below w.heap.size w wc))
  case first =>
   have H := HC4.out
   clear HC4
   by_cases c5 : t217 = 0
   ·rw [if_pos c5] at H
    have c5b0 : (t217 == 0) = true := beq_iff_eq.mpr c5
    have c5b1 : (t217 != 0) = false := bne_eq_false_iff_eq.mpr c5
    clear c5
    (first | rw [c5b0] | (simp only [i64_w, i32_w]; rw [c5b0]) | skip)
    have H' := Aside0.mk H
    clear H
    go_wp2
    go_meet
    case rel => exact ⟨_, (decide (t215 > 4096)), (by first | rfl | (simp; done) | (simp [*]; done)), H', ⟨by first | omega | exact Nat.le_refl _⟩, ⟨by repeat (first | (with_reducible first | exact HB.out | apply below_alloc | apply pw_below_drewN | apply below_drew1) | exact HB.out)⟩⟩
   ·rw [if_neg c5] at H
    have c5b0 : (t217 == 0) = false := beq_eq_false_iff_ne.mpr c5
    have c5b1 : (t217 != 0) = true := bne_iff_ne.mpr c5
    (first | rw [c5b0] | (simp only [i64_w, i32_w]; rw [c5b0]) | skip)
    have H' := Aside0.mk H
    clear H
    go_wp2
    go_meet
    case rel => exact ⟨_, (true), (by first | rfl | (simp; done) | (simp [*]; done)), H', ⟨by first | omega | exact Nat.le_refl _⟩, ⟨by repeat (first | (with_reducible first | exact HB.out | apply below_alloc | apply pw_below_drewN | apply below_drew1) | exact HB.out)⟩⟩
  case rest =>
   clear HC4
   try clear c2
   try clear p2
   try clear c3
   try clear c3b0
   try clear c3b1
   try clear c5
   try clear c5b0
   try clear c5b1
   obtain ⟨kq, x31_3, rfl, HA, HJ3, HB⟩ := hcut
   cases kq with
   | zero => exact absurd HA.out (by simp [impl_UnpackInts.j0])
   | succ kj3 =>
    have H := HA.out
    clear HA
    simp only [impl_UnpackInts.j0] at H
    by_cases c6 : x31_3 = true
    ·subst c6
     have H1 : (some (([] : List Int), 3)) = some (r1, r2) := by rw [if_pos rfl] at H; exact H
     clear H
     have H := H1
     clear H1
     simp only [Option.some.injEq, Prod.mk.injEq] at H
     obtain ⟨rfl, rfl⟩ := H
     go_wp2
     go_ret2
     exact ⟨_, by first | rfl | (simp [errW_none, errW_some] <;> rfl) | (simp [*, errW_none, errW_some] <;> rfl), by first | exact Kd.R_nil _ _ _ _ _ | exact Kd.N_nil _ _ _ _ _ | exact Kd.V_nil _ _ _ _ _ | exact Kd.Q_nil _ _ _ _ _ | exact Kd.S_nil _ _ _ _ _, by repeat (first | (with_reducible first | exact HB.out | apply below_alloc | apply pw_below_drewN | apply below_drew1) | exact HB.out)⟩
    ·replace c6 := Bool.eq_false_iff.mpr c6
     subst c6
     have H1 : (impl_UnpackInts.l0 kj3 l0 t215 t216 ([] : List Int)) = some (r1, r2) := by rw [if_neg (show ¬ (false = true) by decide)] at H; exact H
     clear H
     have H := H1
     clear H1
     have H' := Aside0.mk H
     clear H
     go_wp2
     go_loopg [5, 7] kj3 (fun kq v5 v7 w' => ∃ (x5_2 : Int) (x7_2 : List Int), v5 = .int .i64 x5_2 ∧ Aside0 (impl_UnpackInts.l0 kq l0 t215 x5_2 x7_2 = some (r1, r2)) ∧ Aside0 (kq ≤ kj3) ∧ Aside0 (Kd.R (Kd.int .i64) 3 w' w.heap.size (fun _ => True) v7 x7_2) ∧ Aside0 (Below w.heap.size w w'))
     case atStart => exact ⟨(t216), (([] : List Int)), (by first | rfl | (simp; done) | (simp [*]; done)), H', ⟨Nat.le_refl _⟩, ⟨by first | exact Kd.R_nil _ _ _ _ _ | exact Kd.N_nil _ _ _ _ _ | exact Kd.V_nil _ _ _ _ _ | exact Kd.Q_nil _ _ _ _ _ | exact Kd.S_nil _ _ _ _ _⟩, ⟨by repeat (first | (with_reducible first | exact HB.out | apply below_alloc | apply pw_below_drewN | apply below_drew1) | exact HB.out)⟩⟩
     case round =>
      clear H'
      try clear c2
      try clear p2
      try clear c3
      try clear c3b0
      try clear c3b1
      try clear c5
      try clear c5b0
      try clear c5b1
      try clear c6
      try clear p2
      obtain ⟨x5_2, x7_2, rfl, HA, HK2, HO_7, HB⟩ := hrel
      cases gk with
      | zero => exact absurd HA.out (by simp [impl_UnpackInts.l0])
      | succ k2 =>
       have H := HA.out
       clear HA
       simp only [impl_UnpackInts.l0] at H
       by_cases c7 : (x7_2.length : Int) < t215
       ·rw [if_pos c7] at H
        have c7b0 : decide ((x7_2.length : Int) < t215) = true := decide_eq_true c7
        clear c7
        obtain ⟨ji8, hji8⟩ : ∃ j_ : Int, (mn 128 (wrap64 (t215 - (x7_2.length : Int)))) = j_ := ⟨_, rfl⟩
        replace H : (if x5_2 ≥ (l0.length : Int) then (impl_UnpackInts.j2 k2 l0 t215 x5_2 x7_2 ji8 true) else (if 0 ≤ x5_2 then (if x5_2 < (l0.length : Int) then (impl_UnpackInts.j2 k2 l0 t215 x5_2 x7_2 ji8 (decide ((rd l0 x5_2) > 62))) else (none)) else (none))) = some (r1, r2) := by first | (rw [hji8] at H; exact H) | (simp only [hji8] at H ⊢; exact H)
        have hji8_ : (if (wrap64 (t215 - (x7_2.length : Int))) < 128 then (wrap64 (t215 - (x7_2.length : Int))) else 128) = ji8 := hji8
        have HC9 := Aside0.mk H
        clear H
        obtain ⟨Ao10, co10, eo10⟩ := Kd.R_slice HO_7.out
        subst eo10
        go_upto_region 9 with (fail)
        go_cut [51] (fun v51 wc => ∃ (kq : Nat) (x51_8 : Bool), v51 = .bool x51_8 ∧ Aside0 (impl_UnpackInts.j2 kq l0 t215 x5_2 x7_2 ji8 x51_8 = some (r1, r2)) ∧ Aside0 (kq ≤ k2) ∧ Aside0 (Kd.R (Kd.int .i64) 3 wc w.heap.size (fun _ => True) (.slice Ao10 x7_2.length co10) x7_2) ∧ Aside0 (Below w.heap.size w wc))
        case first =>
         have H := HC9.out
         clear HC9
         by_cases c11 : x5_2 ≥ (l0.length : Int)
         ·rw [if_pos c11] at H
          have c11b0 : decide ((l0.length : Int) ≤ x5_2) = true := decide_eq_true c11
          clear c11
          (first | rw [c11b0] | (simp only [i64_w, i32_w]; rw [c11b0]) | skip)
          have H' := Aside0.mk H
          clear H
          go_wp2
          go_meet
          case rel => exact ⟨_, (true), (by first | rfl | (simp; done) | (simp [*]; done)), H', ⟨by have := HJ3.out; have := HK2.out; first | omega | exact Nat.le_refl _⟩, ⟨by (with_reducible repeat (first | apply Kd.R_alloc | apply Kd.R_drewN | apply Kd.R_drew)); exact HO_7.out⟩, ⟨by repeat (first | (with_reducible first | exact HB.out | apply below_alloc | apply pw_below_drewN | apply below_drew1) | exact HB.out)⟩⟩
         ·rw [if_neg c11] at H
          have c11b0 : decide ((l0.length : Int) ≤ x5_2) = false := decide_eq_false c11
          clear c11
          (first | rw [c11b0] | (simp only [i64_w, i32_w]; rw [c11b0]) | skip)
          by_cases c12 : 0 ≤ x5_2
          ·rw [if_pos c12] at H
           have c12b0 : decide (0 ≤ x5_2) = true := decide_eq_true c12
           clear c12
           by_cases c13 : x5_2 < (l0.length : Int)
           ·rw [if_pos c13] at H
            have c13b0 : decide (x5_2 < (l0.length : Int)) = true := decide_eq_true c13
            clear c13
            have H' := Aside0.mk H
            clear H
            have p222 : 0 ≤ (x5_2 : Int) := of_decide_eq_true (by first | (with_reducible assumption) | assumption)
            have q222 : x5_2 < (l0.length : Int) := of_decide_eq_true (by first | (with_reducible assumption) | assumption)
            obtain ⟨ad222, e222, hx222_0⟩ := Kd.at_int HR0.out x5_2 p222 q222
            cases e222
            replace hx222_0 := (HB.out.cell (World.block_lt_of_cell? w _ hx222_0)).trans hx222_0
            replace p222 := eq_true p222
            replace q222 := eq_true q222
            go_wp2
            go_meet
            case rel => exact ⟨_, (decide ((rd l0 x5_2) > 62)), (by first | rfl | (simp; done) | (simp [*]; done)), H', ⟨by have := HJ3.out; have := HK2.out; first | omega | exact Nat.le_refl _⟩, ⟨by (with_reducible repeat (first | apply Kd.R_alloc | apply Kd.R_drewN | apply Kd.R_drew)); exact HO_7.out⟩, ⟨by repeat (first | (with_reducible first | exact HB.out | apply below_alloc | apply pw_below_drewN | apply below_drew1) | exact HB.out)⟩⟩
           ·rw [if_neg c13] at H
            exact absurd H (by simp)
          ·rw [if_neg c12] at H
           exact absurd H (by simp)
        case rest =>
         clear HC9
         try clear c1
         try clear c2
         try clear p2
         try clear q2
         try clear hx2
         try clear c3
         try clear c3b0
         try clear c3b1
         try clear c5
         try clear c5b0
         try clear c5b1
         try clear c6
         try clear p6
         try clear c7
         try clear c7b0
         try clear c11
         try clear c11b0
         try clear c12
         try clear c12b0
         try clear c13
         try clear c13b0
         try clear hx222_0
         try clear p2
         try clear p222
         try clear q222
         obtain ⟨kq, x51_8, rfl, HA, HJ8, HO_7, HB⟩ := hcut
         cases kq with
         | zero => exact absurd HA.out (by simp [impl_UnpackInts.j2])
         | succ kj8 =>
          have H := HA.out
          clear HA
          simp only [impl_UnpackInts.j2] at H
          by_cases c14 : x51_8 = true
          ·subst c14
           have H1 : (some (([] : List Int), 3)) = some (r1, r2) := by rw [if_pos rfl] at H; exact H
           clear H
           have H := H1
           clear H1
           simp only [Option.some.injEq, Prod.mk.injEq] at H
           obtain ⟨rfl, rfl⟩ := H
           go_wp2
           go_ret2
           exact ⟨_, by first | rfl | (simp [errW_none, errW_some] <;> rfl) | (simp only [← hji8]; first | rfl | (simp [errW_none, errW_some] <;> rfl)) | (simp [*, errW_none, errW_some] <;> rfl), by first | exact Kd.R_nil _ _ _ _ _ | exact Kd.N_nil _ _ _ _ _ | exact Kd.V_nil _ _ _ _ _ | exact Kd.Q_nil _ _ _ _ _ | exact Kd.S_nil _ _ _ _ _, by repeat (first | (with_reducible first | exact HB.out | apply below_alloc | apply pw_below_drewN | apply below_drew1) | exact HB.out)⟩
          ·replace c14 := Bool.eq_false_iff.mpr c14
           subst c14
           have H1 : (if 0 ≤ x5_2 then (if x5_2 < (l0.length : Int) then (if (wrap64 ((wrap64 (x5_2 + 1)) + (wrap64 (Int.tdiv (wrap64 ((wrap64 ((wrap64 (rd l0 x5_2)) * ji8)) + 7)) 8)))) > (l0.length : Int) then (some (([] : List Int), 3)) else (impl_UnpackInts.l1 kj8 l0 t215 (wrap64 (x5_2 + 1)) x7_2 (wrap64 (rd l0 x5_2)) (wrap64 (Int.tdiv (wrap64 ((wrap64 ((wrap64 (rd l0 x5_2)) * ji8)) + 7)) 8)) ji8 0)) else (none)) else (none)) = some (r1, r2) := by rw [if_neg (show ¬ (false = true) by decide)] at H; exact H
           clear H
           have H := H1
           clear H1
           by_cases c15 : 0 ≤ x5_2
           ·rw [if_pos c15] at H
            have c15b0 : decide (0 ≤ x5_2) = true := decide_eq_true c15
            clear c15
            by_cases c16 : x5_2 < (l0.length : Int)
            ·rw [if_pos c16] at H
             have c16b0 : decide (x5_2 < (l0.length : Int)) = true := decide_eq_true c16
             clear c16
             by_cases c17 : (wrap64 ((wrap64 (x5_2 + 1)) + (wrap64 (Int.tdiv (wrap64 ((wrap64 ((wrap64 (rd l0 x5_2)) * ji8)) + 7)) 8)))) > (l0.length : Int)
             ·rw [if_pos c17] at H
              have c17b0 : decide ((l0.length : Int) < (wrap64 ((wrap64 (x5_2 + 1)) + (wrap64 (Int.tdiv (wrap64 ((wrap64 ((wrap64 (rd l0 x5_2)) * ji8)) + 7)) 8))))) = true := decide_eq_true c17
              clear c17
              simp only [Option.some.injEq, Prod.mk.injEq] at H
              obtain ⟨rfl, rfl⟩ := H
              have p223 : 0 ≤ (x5_2 : Int) := of_decide_eq_true (by first | (with_reducible assumption) | assumption)
              have q223 : x5_2 < (l0.length : Int) := of_decide_eq_true (by first | (with_reducible assumption) | assumption)
              obtain ⟨ad223, e223, hx223_0⟩ := Kd.at_int HR0.out x5_2 p223 q223
              cases e223
              replace hx223_0 := (HB.out.cell (World.block_lt_of_cell? w _ hx223_0)).trans hx223_0
              replace p223 := eq_true p223
              replace q223 := eq_true q223
              go_wp2
              go_ret2
              exact ⟨_, by first | rfl | (simp [errW_none, errW_some] <;> rfl) | (simp only [← hji8]; first | rfl | (simp [errW_none, errW_some] <;> rfl)) | (simp [*, errW_none, errW_some] <;> rfl), by first | exact Kd.R_nil _ _ _ _ _ | exact Kd.N_nil _ _ _ _ _ | exact Kd.V_nil _ _ _ _ _ | exact Kd.Q_nil _ _ _ _ _ | exact Kd.S_nil _ _ _ _ _, by repeat (first | (with_reducible first | exact HB.out | apply below_alloc | apply pw_below_drewN | apply below_drew1) | exact HB.out)⟩
             ·rw [if_neg c17] at H
              have c17b0 : decide ((l0.length : Int) < (wrap64 ((wrap64 (x5_2 + 1)) + (wrap64 (Int.tdiv (wrap64 ((wrap64 ((wrap64 (rd l0 x5_2)) * ji8)) + 7)) 8))))) = false := decide_eq_false c17
              clear c17
              have H' := Aside0.mk H
              clear H
              have p223 : 0 ≤ (x5_2 : Int) := of_decide_eq_true (by first | (with_reducible assumption) | assumption)
              have q223 : x5_2 < (l0.length : Int) := of_decide_eq_true (by first | (with_reducible assumption) | assumption)
              obtain ⟨ad223, e223, hx223_0⟩ := Kd.at_int HR0.out x5_2 p223 q223
              cases e223
              replace hx223_0 := (HB.out.cell (World.block_lt_of_cell? w _ hx223_0)).trans hx223_0
              replace p223 := eq_true p223
              replace q223 := eq_true q223
              go_wp2
              go_loopg [7, 71] kj8 (fun kq v7 v71 w' => ∃ (x7_4 : List Int) (x71_4 : Int), v71 = .int .i64 x71_4 ∧ Aside0 (impl_UnpackInts.l1 kq l0 t215 (wrap64 (x5_2 + 1)) x7_4 (wrap64 (rd l0 x5_2)) (wrap64 (Int.tdiv (wrap64 ((wrap64 ((wrap64 (rd l0 x5_2)) * ji8)) + 7)) 8)) ji8 x71_4 = some (r1, r2)) ∧ Aside0 (kq ≤ kj8) ∧ Aside0 (Kd.R (Kd.int .i64) 3 w' w.heap.size (fun _ => True) v7 x7_4) ∧ Aside0 (Below w.heap.size w w'))
              case atStart => exact ⟨(x7_2), (0), (by first | rfl | (simp; done) | (simp [*]; done)), H', ⟨Nat.le_refl _⟩, ⟨by (with_reducible repeat (first | apply Kd.R_alloc | apply Kd.R_drewN | apply Kd.R_drew)); exact HO_7.out⟩, ⟨by repeat (first | (with_reducible first | exact HB.out | apply below_alloc | apply pw_below_drewN | apply below_drew1) | exact HB.out)⟩⟩
              case round =>
               clear H'
               try clear c1
               try clear c2
               try clear p2
               try clear q2
               try clear hx2
               try clear c3
               try clear c3b0
               try clear c3b1
               try clear c5
               try clear c5b0
               try clear c5b1
               try clear c6
               try clear p6
               try clear c7
               try clear c7b0
               try clear c11
               try clear c11b0
               try clear c12
               try clear c12b0
               try clear c13
               try clear c13b0
               try clear c14
               try clear c15
               try clear c15b0
               try clear c16
               try clear c16b0
               try clear c17
               try clear c17b0
               try clear hx222_0
               try clear hx223_0
               try clear p2
               try clear p222
               try clear p223
               try clear p6
               try clear q2
               try clear q222
               try clear q223
               obtain ⟨x7_4, x71_4, rfl, HA, HK4, HO_7, HB⟩ := hrel
               cases gk with
               | zero => exact absurd HA.out (by simp [impl_UnpackInts.l1])
               | succ k4 =>
                have H := HA.out
                clear HA
                simp only [impl_UnpackInts.l1] at H
                by_cases c18 : x71_4 < ji8
                ·rw [if_pos c18] at H
                 have c18b0 : decide (x71_4 < ji8) = true := decide_eq_true c18
                 clear c18
                 have H' := Aside0.mk H
                 clear H
                 go_wp2
                 go_loopg [12, 75] k4 (fun kq v12 v75 w' => ∃ (x12_5 : Int) (x75_5 : Int), v12 = .int .i64 x12_5 ∧ v75 = .int .i64 x75_5 ∧ Aside0 (impl_UnpackInts.l2 kq l0 t215 (wrap64 (x5_2 + 1)) x7_4 (wrap64 (rd l0 x5_2)) (wrap64 (Int.tdiv (wrap64 ((wrap64 ((wrap64 (rd l0 x5_2)) * ji8)) + 7)) 8)) x71_4 x12_5 ji8 x71_4 (wrap64 (rd l0 x5_2)) x75_5 = some (r1, r2)) ∧ Aside0 (kq ≤ k4) ∧ Aside0 (Kd.R (Kd.int .i64) 3 w' w.heap.size (fun _ => True) u7 x7_4) ∧ Aside0 (Below w.heap.size w w'))
                 case atStart => exact ⟨(0), (0), (by first | rfl | (simp; done) | (simp [*]; done)), (by first | rfl | (simp; done) | (simp [*]; done)), H', ⟨Nat.le_refl _⟩, ⟨by (with_reducible repeat (first | apply Kd.R_alloc | apply Kd.R_drewN | apply Kd.R_drew)); exact HO_7.out⟩, ⟨by repeat (first | (with_reducible first | exact HB.out | apply below_alloc | apply pw_below_drewN | apply below_drew1) | exact HB.out)⟩⟩
                 case round =>
                  clear H'
                  try clear c1
                  try clear c2
                  try clear p2
                  try clear q2
                  try clear hx2
                  try clear c3
                  try clear c3b0
                  try clear c3b1
                  try clear c5
                  try clear c5b0
                  try clear c5b1
                  try clear c6
                  try clear p6
                  try clear c7
                  try clear c7b0
                  try clear c11
                  try clear c11b0
                  try clear c12
                  try clear c12b0
                  try clear c13
                  try clear c13b0
                  try clear c14
                  try clear c15
                  try clear c15b0
                  try clear c16
                  try clear c16b0
                  try clear c17
                  try clear c17b0
                  try clear c18
                  try clear c18b0
                  try clear hx222_0
                  try clear hx223_0
                  try clear p2
                  try clear p222
                  try clear p223
                  try clear p6
                  try clear q2
                  try clear q222
                  try clear q223
                  obtain ⟨x12_5, x75_5, rfl, rfl, HA, HK5, HO_7, HB⟩ := hrel
                  cases gk with
                  | zero => exact absurd HA.out (by simp [impl_UnpackInts.l2])
                  | succ k5 =>
                   have H := HA.out
                   clear HA
                   simp only [impl_UnpackInts.l2] at H
                   by_cases c19 : x75_5 < (wrap64 (rd l0 x5_2))
                   ·rw [if_pos c19] at H
                    have c19b0 : decide (x75_5 < (wrap64 (rd l0 x5_2))) = true := decide_eq_true c19
                    clear c19
                    obtain ⟨ji20, hji20⟩ : ∃ j_ : Int, (wrap64 ((wrap64 (x5_2 + 1)) + (wrap64 (Int.tdiv (wrap64 ((wrap64 (x71_4 * (wrap64 (rd l0 x5_2)))) + x75_5)) 8)))) = j_ := ⟨_, rfl⟩
                    replace H : (if 0 ≤ (ji20) then (if (ji20) < (l0.length : Int) then (if 0 ≤ (Int.tmod (wrap64 ((wrap64 (x71_4 * (wrap64 (rd l0 x5_2)))) + x75_5)) 8) then (if 0 ≤ x75_5 then (impl_UnpackInts.l2 k5 l0 t215 (wrap64 (x5_2 + 1)) x7_4 (wrap64 (rd l0 x5_2)) (wrap64 (Int.tdiv (wrap64 ((wrap64 ((wrap64 (rd l0 x5_2)) * ji8)) + 7)) 8)) x71_4 (Go.bits .or .i64 x12_5 (shl .i64 (wrap64 (Go.bits .and .u8 (shr .u8 (rd l0 (ji20)) (Int.tmod (wrap64 ((wrap64 (x71_4 * (wrap64 (rd l0 x5_2)))) + x75_5)) 8)) 1)) x75_5)) ji8 x71_4 (wrap64 (rd l0 x5_2)) (wrap64 (x75_5 + 1))) else (none)) else (none)) else (none)) else (none)) = some (r1, r2) := by first | (rw [hji20] at H; exact H) | (simp only [hji20] at H ⊢; exact H)
                    have hji20w : (IntKind.i64.wrap ((wrap64 (x5_2 + 1)) + (wrap64 (Int.tdiv (wrap64 ((wrap64 (x71_4 * (wrap64 (rd l0 x5_2)))) + x75_5)) 8)))) = ji20 := (i64_w _).trans hji20
                    by_cases c21 : 0 ≤ (ji20)
                    ·rw [if_pos c21] at H
                     have c21b0 : decide (0 ≤ (ji20)) = true := decide_eq_true c21
                     clear c21
                     by_cases c22 : (ji20) < (l0.length : Int)
                     ·rw [if_pos c22] at H
                      have c22b0 : decide ((ji20) < (l0.length : Int)) = true := decide_eq_true c22
                      clear c22
                      obtain ⟨ji23, hji23⟩ : ∃ j_ : Int, (Int.tmod (wrap64 ((wrap64 (x71_4 * (wrap64 (rd l0 x5_2)))) + x75_5)) 8) = j_ := ⟨_, rfl⟩
                      replace H : (if 0 ≤ (ji23) then (if 0 ≤ x75_5 then (impl_UnpackInts.l2 k5 l0 t215 (wrap64 (x5_2 + 1)) x7_4 (wrap64 (rd l0 x5_2)) (wrap64 (Int.tdiv (wrap64 ((wrap64 ((wrap64 (rd l0 x5_2)) * ji8)) + 7)) 8)) x71_4 (Go.bits .or .i64 x12_5 (shl .i64 (wrap64 (Go.bits .and .u8 (shr .u8 (rd l0 (ji20)) (ji23)) 1)) x75_5)) ji8 x71_4 (wrap64 (rd l0 x5_2)) (wrap64 (x75_5 + 1))) else (none)) else (none)) = some (r1, r2) := by first | (rw [hji23] at H; exact H) | (simp only [hji23] at H ⊢; exact H)
                      by_cases c24 : 0 ≤ (ji23)
                      ·rw [if_pos c24] at H
                       have c24b0 := eq_true c24
                       have c24b1 : decide (0 ≤ (ji23)) = true := decide_eq_true c24
                       clear c24
                       obtain ⟨ji25, hji25⟩ : ∃ j_ : Int, (shr .u8 (rd l0 (ji20)) (ji23)) = j_ := ⟨_, rfl⟩
                       replace H : (if 0 ≤ x75_5 then (impl_UnpackInts.l2 k5 l0 t215 (wrap64 (x5_2 + 1)) x7_4 (wrap64 (rd l0 x5_2)) (wrap64 (Int.tdiv (wrap64 ((wrap64 ((wrap64 (rd l0 x5_2)) * ji8)) + 7)) 8)) x71_4 (Go.bits .or .i64 x12_5 (shl .i64 (wrap64 (Go.bits .and .u8 (ji25) 1)) x75_5)) ji8 x71_4 (wrap64 (rd l0 x5_2)) (wrap64 (x75_5 + 1))) else (none)) = some (r1, r2) := by first | (rw [hji25] at H; exact H) | (simp only [hji25] at H ⊢; exact H)
                       have hji25_ : ((rd l0 (ji20)) / 2 ^ min (ji23).toNat 8) = ji25 := hji25
                       have hji25z : (ji23) ≤ 8 → ((rd l0 (ji20)) / 2 ^ (ji23).toNat) = ji25 := shr_small hji25
                       by_cases c26 : 0 ≤ x75_5
                       ·rw [if_pos c26] at H
                        have c26b0 := eq_true c26
                        have c26b1 : decide (0 ≤ x75_5) = true := decide_eq_true c26
                        clear c26
                        obtain ⟨ji27, hji27⟩ : ∃ j_ : Int, (shl .i64 (wrap64 (Go.bits .and .u8 (ji25) 1)) x75_5) = j_ := ⟨_, rfl⟩
                        replace H : (impl_UnpackInts.l2 k5 l0 t215 (wrap64 (x5_2 + 1)) x7_4 (wrap64 (rd l0 x5_2)) (wrap64 (Int.tdiv (wrap64 ((wrap64 ((wrap64 (rd l0 x5_2)) * ji8)) + 7)) 8)) x71_4 (Go.bits .or .i64 x12_5 (ji27)) ji8 x71_4 (wrap64 (rd l0 x5_2)) (wrap64 (x75_5 + 1))) = some (r1, r2) := by first | (rw [hji27] at H; exact H) | (simp only [hji27] at H ⊢; exact H)
                        have hji27_ : (IntKind.i64.wrap ((wrap64 (Go.bits .and .u8 (ji25) 1)) * 2 ^ min x75_5.toNat 64)) = ji27 := hji27
                        have hji27z : x75_5 ≤ 64 → (IntKind.i64.wrap ((wrap64 (Go.bits .and .u8 (ji25) 1)) * 2 ^ x75_5.toNat)) = ji27 := shl_small hji27
                        have hji27y : (wrap64 ((wrap64 (Go.bits .and .u8 (ji25) 1)) * 2 ^ min x75_5.toNat 64)) = ji27 := (i64_w _).symm.trans hji27_
                        have hji27x : x75_5 ≤ 64 → (wrap64 ((wrap64 (Go.bits .and .u8 (ji25) 1)) * 2 ^ x75_5.toNat)) = ji27 := fun h_ => (i64_w _).symm.trans (hji27z h_)
                        have H' := Aside0.mk H
                        clear H
                        have p224 : 0 ≤ ((ji20) : Int) := of_decide_eq_true (by first | (with_reducible assumption) | assumption)
                        have q224 : (ji20) < (l0.length : Int) := of_decide_eq_true (by first | (with_reducible assumption) | assumption)
                        obtain ⟨ad224, e224, hx224_0⟩ := Kd.at_int HR0.out (ji20) p224 q224
                        obtain rfl : ad223 = ad224 := (by injection e224)
                        replace hx224_0 := (HB.out.cell (World.block_lt_of_cell? w _ hx224_0)).trans hx224_0
                        replace p224 := eq_true p224
                        replace q224 := eq_true q224
                        go_wp2
                        go_roundg k5
                        case measure => have := HJ3.out; have := HK2.out; have := HJ8.out; have := HK4.out; have := HK5.out; omega
                        case rel => exact ⟨(Go.bits .or .i64 x12_5 (ji27)), (wrap64 (x75_5 + 1)), (by first | rfl | (simp; done) | (simp only [← hji27] <;> (first | rfl | simp)) | (simp [*]; done)), (by first | rfl | (simp; done) | (simp [*]; done)), H', ⟨by have := HJ3.out; have := HK2.out; have := HJ8.out; have := HK4.out; have := HK5.out; omega⟩, ⟨by (with_reducible repeat (first | apply Kd.R_alloc | apply Kd.R_drewN | apply Kd.R_drew)); exact HO_7.out⟩, ⟨by repeat (first | (with_reducible first | exact HB.out | apply below_alloc | apply pw_below_drewN | apply below_drew1) | exact HB.out)⟩⟩
                       ·rw [if_neg c26] at H
                        exact absurd H (by simp)
                      ·rw [if_neg c24] at H
                       exact absurd H (by simp)
                     ·rw [if_neg c22] at H
                      exact absurd H (by simp)
                    ·rw [if_neg c21] at H
                     exact absurd H (by simp)
                   ·rw [if_neg c19] at H
                    have c19b0 : decide (x75_5 < (wrap64 (rd l0 x5_2))) = false := decide_eq_false c19
                    clear c19
                    by_cases c28 : x7_4.length < 17592186044416
                    ·rw [if_pos c28] at H
                     have LMc28 := Aside0.mk c28
                     clear c28
                     obtain ⟨y225, hy225⟩ : ∃ y_ : List Int, y_ = (x7_4 ++ [x12_5]) := ⟨_, rfl⟩
                     replace H : (impl_UnpackInts.l1 k5 l0 t215 (wrap64 (x5_2 + 1)) y225 (wrap64 (rd l0 x5_2)) (wrap64 (Int.tdiv (wrap64 ((wrap64 ((wrap64 (rd l0 x5_2)) * ji8)) + 7)) 8)) ji8 (wrap64 (x71_4 + 1))) = some (r1, r2) := by first | (rw [hy225]; with_reducible exact H) | (have H2_ := (Option.bind_some _ _).symm.trans H; rw [hy225]; with_reducible exact H2_) | (have H2_ := (Option.bind_some _ _).symm.trans H; with_reducible exact H2_) | with_reducible exact H | (rw [hy225]; exact H) | exact H
                     have Ny225 := Aside0.mk hy225
                     clear hy225
                     have H' := Aside0.mk H
                     clear H
                     go_wp2_with (first | ((with_reducible refine gate_builtin (b := .append) (xs := #[.tmp 100, .tmp 102]) rfl ?_); (try (refine gate_guard (by rfl) ?_; dsimp only)); at_builtin; refine Kd.R_append (Kd.int .i64) (w0 := w) w.heap.size rfl (.tmp 100) (.tmp 102) 22 3 (.int .i64 0) 8 rfl Try.underlying22 info3 rfl (by decide) (by omega) u7 x7_4 x12_5 [.int .i64 x12_5] (fun _ => True) (fun _ => False) rfl rfl ?aP (fun _ hk => hk.elim) ?aF ?aO ?aB ?aS ?aL ?_; (case aP => exact rfl); (case aB => exact (by repeat (first | (with_reducible first | exact HB.out | apply below_alloc | apply pw_below_drewN | apply below_drew1) | exact HB.out))); (case aF => exact (fun _ _ => trivial)); (case aO => exact (by (with_reducible repeat (first | apply Kd.R_alloc | apply Kd.R_drewN | apply Kd.R_drew)); exact HO_7.out)); (case aS => exact (below_size (by repeat (first | (with_reducible first | exact HB.out | apply below_alloc | apply pw_below_drewN | apply below_drew1) | exact HB.out)))); (case aL => have := LMc28.out; omega); intro v226 w29 ho hb hg hat; rw [← Ny225.out] at ho; have n0_ := Aside0.mk (hb); have n1_ := Aside0.mk (ho); clear HB; clear HO_7; have HB := n0_; have HO227 := n1_; clear n0_ n1_; clear ho hb hg hat))
                     go_roundg k5
                     case measure => have := HJ3.out; have := HK2.out; have := HJ8.out; have := HK4.out; have := HK5.out; omega
                     case rel => exact ⟨(y225), (wrap64 (x71_4 + 1)), (by first | rfl | (simp; done) | (simp [*]; done)), H', ⟨by have := HJ3.out; have := HK2.out; have := HJ8.out; have := HK4.out; have := HK5.out; omega⟩, ⟨by (with_reducible repeat (first | apply Kd.R_alloc | apply Kd.R_drewN | apply Kd.R_drew)); exact HO227.out⟩, ⟨by repeat (first | (with_reducible first | exact HB.out | apply below_alloc | apply pw_below_drewN | apply below_drew1) | exact HB.out)⟩⟩
                    ·rw [if_neg c28] at H
                     exact absurd H (by simp)
                ·rw [if_neg c18] at H
                 have c18b0 : decide (x71_4 < ji8) = false := decide_eq_false c18
                 clear c18
                 have H' := Aside0.mk H
                 clear H
                 go_wp2
                 go_roundg k4
                 case measure => have := HJ3.out; have := HK2.out; have := HJ8.out; have := HK4.out; omega
                 case rel => exact ⟨(wrap64 ((wrap64 (x5_2 + 1)) + (wrap64 (Int.tdiv (wrap64 ((wrap64 ((wrap64 (rd l0 x5_2)) * ji8)) + 7)) 8)))), (x7_4), (by first | rfl | (simp; done) | (simp only [← hji8] <;> (first | rfl | simp)) | (simp [*]; done)), H', ⟨by have := HJ3.out; have := HK2.out; have := HJ8.out; have := HK4.out; omega⟩, ⟨by (with_reducible repeat (first | apply Kd.R_alloc | apply Kd.R_drewN | apply Kd.R_drew)); exact HO_7.out⟩, ⟨by repeat (first | (with_reducible first | exact HB.out | apply below_alloc | apply pw_below_drewN | apply below_drew1) | exact HB.out)⟩⟩
            ·rw [if_neg c16] at H
             exact absurd H (by simp)
           ·rw [if_neg c15] at H
            exact absurd H (by simp)
       ·rw [if_neg c7] at H
        have c7b0 : decide ((x7_2.length : Int) < t215) = false := decide_eq_false c7
        clear c7
        replace H := Option.bind_eq_some_iff.mp H
        obtain ⟨⟨t218, t219⟩, A300, H⟩ := H
        replace H : (if t219 = 0 then (if (strOfNums t218).toList = (strOfNums l0).toList then (some (x7_2, 0)) else (some (([] : List Int), 3))) else (some (([] : List Int), 3))) = some (r1, r2) := H
        have A30 := Aside0.mk A300
        clear A300
        by_cases c31 : t219 = 0
        ·rw [if_pos c31] at H
         have c31b0 : (t219 == 0) = true := beq_iff_eq.mpr c31
         have c31b1 : (t219 != 0) = false := bne_eq_false_iff_eq.mpr c31
         clear c31
         by_cases c32 : (strOfNums t218).toList = (strOfNums l0).toList
         ·rw [if_pos c32] at H
          have c32b0 : ((strOfNums t218).toList == (strOfNums l0).toList) = true := beq_iff_eq.mpr c32
          have c32b1 : ((strOfNums t218).toList != (strOfNums l0).toList) = false := bne_eq_false_iff_eq.mpr c32
          clear c32
          simp only [Option.some.injEq, Prod.mk.injEq] at H
          obtain ⟨rfl, rfl⟩ := H
          obtain ⟨Ao33, co33, eo33⟩ := Kd.R_slice HO_7.out
          subst eo33
          go_wp2_with (first | ((with_reducible refine gate_callee (f := 16) rfl ?_); refine goesL_ (some 110) rfl rfl Try.func16 (by kernel_rfl) rfl #[.slice Ao33 x7_2.length co33] rfl (by (try simp only [List.map_toArray, List.map_cons, List.map_nil]); first | done | rfl | (simp only [List.length_drop, List.length_take]; rfl)) ?_; (with_reducible refine (impl_PackInts.calls k2 _ _ x7_2 t218 t219 _ ?side1 ?side2 A30.out).mono ?_); (case side1 => repeat (first | exact (Kd.R_reads' HO_7.out).2.2 | (with_reducible refine Kd.C_alloc ?_ _) | (with_reducible refine Kd.C_drewN ?_ _) | (with_reducible refine Kd.C_drew ?_))); (case side2 => exact (Kd.R_reads' HO_7.out).2.1); rintro e w34 ⟨v220, rfl, ho0, hb⟩; refine ⟨_, rfl, ?_⟩; have n0_ := Aside0.mk (Kd.R_below (by (with_reducible repeat (first | apply Kd.R_alloc | apply Kd.R_drewN | apply Kd.R_drew)); exact HO_7.out) hb); have n1_ := Aside0.mk (Kd.R_lower ho0 (below_size (by repeat (first | (with_reducible first | exact HB.out | apply below_alloc | apply pw_below_drewN | apply below_drew1) | exact HB.out)))); have n2_ := Aside0.mk (below_step (by repeat (first | (with_reducible first | exact HB.out | apply below_alloc | apply pw_below_drewN | apply below_drew1) | exact HB.out)) hb); clear HO_7; clear HB; have HO_7 := n0_; have HO221 := n1_; have HB := n2_; clear n0_ n1_ n2_; (try clear hb); (try clear hb2); (try clear hk); (try clear hi); (try clear ho0); have hcv35 := own_string (P := Try.prog) Try.underlying23 Try.underlying5 Try.underlying9 (Kd.own_of_R HO221.out); have hcv36 := Kd.C_string (P := Try.prog) (A := A0) (c := c0) Try.underlying23 Try.underlying5 Try.underlying9 (Kd.C_below HR0.out HB.out)))
          go_ret2
          exact ⟨_, by first | rfl | (simp [errW_none, errW_some] <;> rfl) | (simp [*, errW_none, errW_some] <;> rfl), by (with_reducible repeat (first | apply Kd.R_alloc | apply Kd.R_drewN | apply Kd.R_drew)); exact HO_7.out, by repeat (first | (with_reducible first | exact HB.out | apply below_alloc | apply pw_below_drewN | apply below_drew1) | exact HB.out)⟩
         ·rw [if_neg c32] at H
          have c32b0 : ((strOfNums t218).toList == (strOfNums l0).toList) = false := beq_eq_false_iff_ne.mpr c32
          have c32b1 : ((strOfNums t218).toList != (strOfNums l0).toList) = true := bne_iff_ne.mpr c32
          simp only [Option.some.injEq, Prod.mk.injEq] at H
          obtain ⟨rfl, rfl⟩ := H
          obtain ⟨Ao37, co37, eo37⟩ := Kd.R_slice HO_7.out
          subst eo37
          go_wp2_with (first | ((with_reducible refine gate_callee (f := 16) rfl ?_); refine goesL_ (some 110) rfl rfl Try.func16 (by kernel_rfl) rfl #[.slice Ao37 x7_2.length co37] rfl (by (try simp only [List.map_toArray, List.map_cons, List.map_nil]); first | done | rfl | (simp only [List.length_drop, List.length_take]; rfl)) ?_; (with_reducible refine (impl_PackInts.calls k2 _ _ x7_2 t218 t219 _ ?side1 ?side2 A30.out).mono ?_); (case side1 => repeat (first | exact (Kd.R_reads' HO_7.out).2.2 | (with_reducible refine Kd.C_alloc ?_ _) | (with_reducible refine Kd.C_drewN ?_ _) | (with_reducible refine Kd.C_drew ?_))); (case side2 => exact (Kd.R_reads' HO_7.out).2.1); rintro e w38 ⟨v220, rfl, ho0, hb⟩; refine ⟨_, rfl, ?_⟩; have n0_ := Aside0.mk (Kd.R_below (by (with_reducible repeat (first | apply Kd.R_alloc | apply Kd.R_drewN | apply Kd.R_drew)); exact HO_7.out) hb); have n1_ := Aside0.mk (Kd.R_lower ho0 (below_size (by repeat (first | (with_reducible first | exact HB.out | apply below_alloc | apply pw_below_drewN | apply below_drew1) | exact HB.out)))); have n2_ := Aside0.mk (below_step (by repeat (first | (with_reducible first | exact HB.out | apply below_alloc | apply pw_below_drewN | apply below_drew1) | exact HB.out)) hb); clear HO_7; clear HB; have HO_7 := n0_; have HO221 := n1_; have HB := n2_; clear n0_ n1_ n2_; (try clear hb); (try clear hb2); (try clear hk); (try clear hi); (try clear ho0); have hcv39 := own_string (P := Try.prog) Try.underlying23 Try.underlying5 Try.underlying9 (Kd.own_of_R HO221.out); have hcv40 := Kd.C_string (P := Try.prog) (A := A0) (c := c0) Try.underlying23 Try.underlying5 Try.underlying9 (Kd.C_below HR0.out HB.out)))
          go_ret2
          exact ⟨_, by first | rfl | (simp [errW_none, errW_some] <;> rfl) | (simp [*, errW_none, errW_some] <;> rfl), by first | exact Kd.R_nil _ _ _ _ _ | exact Kd.N_nil _ _ _ _ _ | exact Kd.V_nil _ _ _ _ _ | exact Kd.Q_nil _ _ _ _ _ | exact Kd.S_nil _ _ _ _ _, by repeat (first | (with_reducible first | exact HB.out | apply below_alloc | apply pw_below_drewN | apply below_drew1) | exact HB.out)⟩
        ·rw [if_neg c31] at H
         have c31b0 : (t219 == 0) = false := beq_eq_false_iff_ne.mpr c31
         have c31b1 : (t219 != 0) = true := bne_iff_ne.mpr c31
         simp only [Option.some.injEq, Prod.mk.injEq] at H
         obtain ⟨rfl, rfl⟩ := H
         obtain ⟨Ao41, co41, eo41⟩ := Kd.R_slice HO_7.out
         subst eo41
         go_wp2_with (first | ((with_reducible refine gate_callee (f := 16) rfl ?_); refine goesL_ (some 110) rfl rfl Try.func16 (by kernel_rfl) rfl #[.slice Ao41 x7_2.length co41] rfl (by (try simp only [List.map_toArray, List.map_cons, List.map_nil]); first | done | rfl | (simp only [List.length_drop, List.length_take]; rfl)) ?_; (with_reducible refine (impl_PackInts.calls k2 _ _ x7_2 t218 t219 _ ?side1 ?side2 A30.out).mono ?_); (case side1 => repeat (first | exact (Kd.R_reads' HO_7.out).2.2 | (with_reducible refine Kd.C_alloc ?_ _) | (with_reducible refine Kd.C_drewN ?_ _) | (with_reducible refine Kd.C_drew ?_))); (case side2 => exact (Kd.R_reads' HO_7.out).2.1); rintro e w42 ⟨v220, rfl, ho0, hb⟩; refine ⟨_, rfl, ?_⟩; have n0_ := Aside0.mk (Kd.R_below (by (with_reducible repeat (first | apply Kd.R_alloc | apply Kd.R_drewN | apply Kd.R_drew)); exact HO_7.out) hb); have n1_ := Aside0.mk (Kd.R_lower ho0 (below_size (by repeat (first | (with_reducible first | exact HB.out | apply below_alloc | apply pw_below_drewN | apply below_drew1) | exact HB.out)))); have n2_ := Aside0.mk (below_step (by repeat (first | (with_reducible first | exact HB.out | apply below_alloc | apply pw_below_drewN | apply below_drew1) | exact HB.out)) hb); clear HO_7; clear HB; have HO_7 := n0_; have HO221 := n1_; have HB := n2_; clear n0_ n1_ n2_; (try clear hb); (try clear hb2); (try clear hk); (try clear hi); (try clear ho0)))
         go_ret2
         exact ⟨_, by first | rfl | (simp [errW_none, errW_some] <;> rfl) | (simp [*, errW_none, errW_some] <;> rfl), by first | exact Kd.R_nil _ _ _ _ _ | exact Kd.N_nil _ _ _ _ _ | exact Kd.V_nil _ _ _ _ _ | exact Kd.Q_nil _ _ _ _ _ | exact Kd.S_nil _ _ _ _ _, by repeat (first | (with_reducible first | exact HB.out | apply below_alloc | apply pw_below_drewN | apply below_drew1) | exact HB.out)⟩

end Go.Proofs.Ytfkejcakklpecaa.XFnPacked
