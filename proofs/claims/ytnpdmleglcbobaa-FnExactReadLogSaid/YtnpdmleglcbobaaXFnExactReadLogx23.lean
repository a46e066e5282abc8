-- A printed text of this session (wip/x/xprint.py).
import Derived.Test.YtnpdmleglcbobaaXFnExactReadLogx0
import Derived.Test.YtnpdmleglcbobaaXFnExactReadLogx1
import Derived.Test.YtnpdmleglcbobaaXFnExactReadLogx8
import Derived.Test.YtnpdmleglcbobaaXFnExactReadLogx17
import Derived.Test.YtnpdmleglcbobaaXFnExactReadLogx19
import Derived.Test.YtnpdmleglcbobaaXFnExactReadLogx20
import Derived.Test.YtnpdmleglcbobaaXFnExactReadLogx22
namespace Go.Proofs.Ytnpdmleglcbobaa.XFnExactReadLog
open Go.RowKit Go.Proofs.YtnpdmleglcbobaaW.PrintWords Go.Proofs.YtnpdmleglcbobaaW.PrintLast Go.Proofs.YtnpdmleglcbobaaW.PrintMore
attribute [local go_sem] max2_int min2_int max_two min_two max_three min_three max_four min_four   -- for this text's walks alone
set_option linter.unusedVariables false
set_option linter.unusedSimpArgs false

/-! ### laws_FnExactReadLog: function 7 -/
mutual
def laws_FnExactReadLog.j0 : Nat → List Int → List (S47) → Int → Int → List Int → List (S47) → Int → Int → Bool → Option (Bool)
 | 0, _, _, _, _, _, _, _, _, _ => none
 | k + 1, x0, x3, x4, x5, x6, x7, x8, x9, x47 => if x47 = true then (some false) else ((laws_toByteS.f k x0).bind fun t577 => ((laws_eqByteS.f k x6 t577).bind fun t580 => (if t580 = true then ((laws_markByteS.f k x6 1).bind fun bt581 => (if bt581.1 < 0 then (laws_FnExactReadLog.j1 k x0 x3 x4 x5 x7 true) else ((laws_eqRecordS.f k x7 x3).bind fun t583 => (if t583 = true then (if x8 = x4 then (laws_FnExactReadLog.j1 k x0 x3 x4 x5 x7 (x9 != x5)) else (laws_FnExactReadLog.j1 k x0 x3 x4 x5 x7 true)) else (laws_FnExactReadLog.j1 k x0 x3 x4 x5 x7 true))))) else (some false))))
def laws_FnExactReadLog.j1 : Nat → List Int → List (S47) → Int → Int → List (S47) → Bool → Option (Bool)
 | 0, _, _, _, _, _, _ => none
 | k + 1, x0, x3, x4, x5, x7, x73 => if x73 = true then (some false) else ((laws_markRecordS.f k x7 1).bind fun bt584 => ((laws_heldRecordS.f k bt584.2 1).bind fun t586 => (if t586 < 0 then (some false) else (if t586 = bt584.1 then ((laws_toByteS.f k x0).bind fun t587 => ((impl_ReadLog.f k t587).bind fun bt590 => ((laws_eqRecordS.f k bt590.1 x3).bind fun t595 => (if t595 = true then (if bt590.2.1 = x4 then (laws_FnExactReadLog.j2 k bt584.2 bt584.1 (bt590.2.2 != x5)) else (laws_FnExactReadLog.j2 k bt584.2 bt584.1 true)) else (laws_FnExactReadLog.j2 k bt584.2 bt584.1 true))))) else (some false)))))
def laws_FnExactReadLog.j2 : Nat → List (S47) → Int → Bool → Option (Bool)
 | 0, _, _, _ => none
 | k + 1, x7, x11, x105 => if x105 = true then (some false) else ((laws_heldRecordS.f k x7 1).bind fun t596 => (if t596 < 0 then (some false) else (if t596 = x11 then (some true) else (some false))))
end
def laws_FnExactReadLog.f (k : Nat) (l0 : List Int) : Option (Bool) := if (l0.length : Int) > 1048576 then (some true) else ((laws_toByteS.f k l0).bind fun t560 => ((spec_ReadLog.f k t560).bind fun bt563 => ((laws_toByteS.f k l0).bind fun t568 => ((impl_ReadLog.f k t568).bind fun bt571 => ((laws_eqRecordS.f k bt571.1 bt563.1).bind fun t576 => (if t576 = true then (if bt571.2.1 = bt563.2.1 then (laws_FnExactReadLog.j0 k l0 bt563.1 bt563.2.1 bt563.2.2 t568 bt571.1 bt571.2.1 bt571.2.2 (bt571.2.2 != bt563.2.2)) else (laws_FnExactReadLog.j0 k l0 bt563.1 bt563.2.1 bt563.2.2 t568 bt571.1 bt571.2.1 bt571.2.2 true)) else (laws_FnExactReadLog.j0 k l0 bt563.1 bt563.2.1 bt563.2.2 t568 bt571.1 bt571.2.1 bt571.2.2 true)))))))
theorem laws_FnExactReadLog.mono_l : ∀ k, (∀ y0 y1 y2 y3 y4 y5 y6 y7 y8, LeO (laws_FnExactReadLog.j0 k y0 y1 y2 y3 y4 y5 y6 y7 y8) (laws_FnExactReadLog.j0 (k + 1) y0 y1 y2 y3 y4 y5 y6 y7 y8)) ∧ (∀ y0 y1 y2 y3 y4 y5, LeO (laws_FnExactReadLog.j1 k y0 y1 y2 y3 y4 y5) (laws_FnExactReadLog.j1 (k + 1) y0 y1 y2 y3 y4 y5)) ∧ (∀ y0 y1 y2, LeO (laws_FnExactReadLog.j2 k y0 y1 y2) (laws_FnExactReadLog.j2 (k + 1) y0 y1 y2))
 | 0 => ⟨fun _ _ _ _ _ _ _ _ _ r h => by simp [laws_FnExactReadLog.j0] at h, fun _ _ _ _ _ _ r h => by simp [laws_FnExactReadLog.j1] at h, fun _ _ _ r h => by simp [laws_FnExactReadLog.j2] at h⟩
 | k + 1 => by
  obtain ⟨ih0, ih1, ih2⟩ := laws_FnExactReadLog.mono_l k
  refine ⟨?_, ?_, ?_⟩
  all_goals intros
  all_goals first | unfold laws_FnExactReadLog.j0 | unfold laws_FnExactReadLog.j1 | unfold laws_FnExactReadLog.j2
  all_goals
   repeat' first
   | (with_reducible exact ih0 _ _ _ _ _ _ _ _ _)
   | (with_reducible exact ih1 _ _ _ _ _ _)
   | (with_reducible exact ih2 _ _ _)
   | (with_reducible exact impl_ReadLog.mono _ _)
   | (with_reducible exact laws_eqByteS.mono _ _ _)
   | (with_reducible exact laws_eqRecordS.mono _ _ _)
   | (with_reducible exact laws_heldRecordS.mono _ _ _)
   | (with_reducible exact laws_markByteS.mono _ _ _)
   | (with_reducible exact laws_markRecordS.mono _ _ _)
   | (with_reducible exact laws_toByteS.mono _ _)
   | (with_reducible exact spec_ReadLog.mono _ _)
   | (with_reducible exact LeO.refl _)
   | (with_reducible exact LeO.none _)
   | (with_reducible refine LeO.ite ?_ ?_)
   | (with_reducible refine LeO.bind ?_ (fun _ => ?_))
theorem laws_FnExactReadLog.mono : ∀ a0 k, LeO (laws_FnExactReadLog.f k a0) (laws_FnExactReadLog.f (k + 1) a0) := by
 intro a0 k
 obtain ⟨ih0, ih1, ih2⟩ := laws_FnExactReadLog.mono_l k
 unfold laws_FnExactReadLog.f
 repeat' first
  | (with_reducible exact ih0 _ _ _ _ _ _ _ _ _)
  | (with_reducible exact ih1 _ _ _ _ _ _)
  | (with_reducible exact ih2 _ _ _)
  | (with_reducible exact impl_ReadLog.mono _ _)
  | (with_reducible exact laws_eqByteS.mono _ _ _)
  | (with_reducible exact laws_eqRecordS.mono _ _ _)
  | (with_reducible exact laws_heldRecordS.mono _ _ _)
  | (with_reducible exact laws_markByteS.mono _ _ _)
  | (with_reducible exact laws_markRecordS.mono _ _ _)
  | (with_reducible exact laws_toByteS.mono _ _)
  | (with_reducible exact spec_ReadLog.mono _ _)
  | (with_reducible exact LeO.refl _)
  | (with_reducible exact LeO.none _)
  | (with_reducible refine LeO.ite ?_ ?_)
  | (with_reducible refine LeO.bind ?_ (fun _ => ?_))
set_option maxHeartbeats 8000000 in
set_option maxRecDepth 100000 in
theorem laws_FnExactReadLog.calls (k : Nat) (A0 : Option Addr) (c0 : Nat) (l0 : List Int) (r : Bool) (w : World) (hr0 : Kd.C (Kd.int .u8) w A0 l0.length l0) (hc0 : l0.length ≤ c0) (h : laws_FnExactReadLog.f k l0 = some r) :
 Calls Try.prog 7 #[.slice A0 l0.length c0] w fun e w' => e = .returned (.bool r) ∧ Below w.heap.size w w' := by
 have HR0 := Aside0.mk hr0
 have HC0 := Aside0.mk hc0
 clear hr0 hc0
 have HB := Aside0.mk (Below.refl w.heap.size w)
 have H := h
 unfold laws_FnExactReadLog.f at H
 clear h
 by_cases c2 : (l0.length : Int) > 1048576
 ·rw [if_pos c2] at H
  have c2b0 : decide (1048576 < (l0.length : Int)) = true := decide_eq_true c2
  have c2b1 : decide (1048576 < l0.length) = true := decide_eq_true (by omega)
  clear c2
  obtain rfl := Option.some.inj H
  go_enter Try.func7, Try.ntmps7
  go_wp2
  go_ret
  exact ⟨zre, zh HB⟩
 rw [if_neg c2] at H
 have c2b0 : decide (1048576 < (l0.length : Int)) = false := decide_eq_false c2
 have c2b1 : decide (1048576 < l0.length) = false := decide_eq_false (by omega)
 clear c2
 replace H := Option.bind_eq_some_iff.mp H
 obtain ⟨t560, A30, H⟩ := H
 try dsimp only at H
 have A3 := Aside0.mk A30
 clear A30
 replace H := Option.bind_eq_some_iff.mp H
 obtain ⟨⟨t563, t564, t565⟩, A40, H⟩ := H
 try dsimp only at H
 have A4 := Aside0.mk A40
 clear A40
 replace H := Option.bind_eq_some_iff.mp H
 obtain ⟨t568, A50, H⟩ := H
 try dsimp only at H
 have A5 := Aside0.mk A50
 clear A50
 replace H := Option.bind_eq_some_iff.mp H
 obtain ⟨⟨t571, t572, t573⟩, A60, H⟩ := H
 try dsimp only at H
 have A6 := Aside0.mk A60
 clear A60
 have HC7 := Aside0.mk H
 clear H
 go_enter Try.func7, Try.ntmps7
 go_upto_region 6 with (first | ((with_reducible refine gate_callee (f := 18) rfl ?_); refine goesL_ (some 21) rfl rfl Try.func18 (by kernel_rfl) rfl #[.slice A0 l0.length c0] rfl zar ?_; (with_reducible refine (laws_toByteS.calls k _ _ l0 t560 _ ?side1 ?side2 A3.out).mono ?_); (case side1 => exact zC HR0.out); (case side2 => exact HC0.out); rintro e w8 ⟨v561, rfl, ho0, hb⟩; refine ⟨_, rfl, ?_⟩; have HO562 := Aside0.mk (Kd.R_lower ho0 (below_size (zh HB))); replace HB := Aside0.mk (below_step (zh HB) hb); (try clear hb ho0); (try clear hb); (try clear hk); (try clear hi); obtain ⟨Ao10, co10, eo10⟩ := Kd.R_slice HO562.out; subst eo10) | ((with_reducible refine gate_callee (f := 30) rfl ?_); refine goesL_ (some 22) rfl rfl Try.func30 (by kernel_rfl) rfl #[.slice Ao10 t560.length co10] rfl zar ?_; (with_reducible refine (spec_ReadLog.calls k _ _ t560 t563 t564 t565 _ ?side1 ?side2 A4.out).mono ?_); (case side1 => exact zC (Kd.R_reads' HO562.out).2.2); (case side2 => exact (Kd.R_reads' HO562.out).2.1); rintro e w11 ⟨v566, rfl, ho0, hb⟩; refine ⟨_, rfl, ?_⟩; replace HO562 := Aside0.mk (Kd.R_below (zr HO562) hb); have HO567 := Aside0.mk (Kd.S_lower ho0 (below_size (zh HB))); replace HB := Aside0.mk (below_step (zh HB) hb); (try clear hb ho0); (try clear hb); (try clear hk); (try clear hi)) | ((with_reducible refine gate_callee (f := 18) rfl ?_); refine goesL_ (some 27) rfl rfl Try.func18 (by kernel_rfl) rfl #[.slice A0 l0.length c0] rfl zar ?_; (with_reducible refine (laws_toByteS.calls k _ _ l0 t568 _ ?side1 ?side2 A5.out).mono ?_); (case side1 => exact zC (Kd.C_below HR0.out HB.out)); (case side2 => exact HC0.out); rintro e w13 ⟨v569, rfl, ho0, hb⟩; refine ⟨_, rfl, ?_⟩; replace HO567 := Aside0.mk (Kd.S_below (zs HO567) hb); have HO570 := Aside0.mk (Kd.R_lower (Kd.R_new' ho0 (Kd.R_lt (zr HO562))) (below_size (zh HB))); replace HO562 := Aside0.mk (Kd.R_elder' (zr HO562) (Kd.R_base ho0) hb); replace HB := Aside0.mk (below_step (zh HB) hb); (try clear hb ho0); (try clear hb); (try clear hk); (try clear hi); obtain ⟨Ao15, co15, eo15⟩ := Kd.R_slice HO570.out; subst eo15) | ((with_reducible refine gate_callee (f := 28) rfl ?_); refine goesL_ (some 30) rfl rfl Try.func28 (by kernel_rfl) rfl #[.slice Ao15 t568.length co15] rfl zar ?_; (with_reducible refine (impl_ReadLog.calls k _ _ t568 t571 t572 t573 _ ?side1 ?side2 A6.out).mono ?_); (case side1 => exact zC (Kd.R_reads' HO570.out).2.2); (case side2 => exact (Kd.R_reads' HO570.out).2.1); rintro e w16 ⟨v574, rfl, ho0, hb⟩; refine ⟨_, rfl, ?_⟩; obtain ⟨nb17, hnb_⟩ := Kd.pivot_ hb; have HNB17 := Aside0.mk hnb_; clear hnb_; replace HO562 := Aside0.mk (Kd.R_below (zr HO562) hb); replace HO570 := Aside0.mk (Kd.R_below (zr HO570) hb); have HO575 := Aside0.mk (Kd.S_lower (Kd.S_geN (Kd.S_new' ho0 (Kd.S_lt (zs HO567))) HNB17.out) (below_size (zh HB))); replace HO567 := Aside0.mk (Kd.S_elderN (zs HO567) (Kd.S_base ho0) hb HNB17.out); replace HB := Aside0.mk (below_step (zh HB) hb); (try clear hb ho0); (try clear hb); (try clear hk); (try clear hi)))
 (try simp only [Act.put, List.setIfInBounds_toArray, List.set_cons_zero, List.set_cons_succ])
 go_cut [47] (fun v47 wc => ∃ (kq : Nat) (x47_6 : Bool), v47 = .bool x47_6 ∧ Aside0 (laws_FnExactReadLog.j0 kq l0 t563 t564 t565 t568 t571 t572 t573 x47_6 = some r) ∧ Aside0 (kq ≤ k) ∧ Aside0 (Kd.S k47 47 wc w.heap.size (fun k_ => some k_ ≠ (v574 : Value).ownBlock ∧ k_ < nb17) v566 t563) ∧ Aside0 (Kd.R (Kd.int .u8) 5 wc w.heap.size (fun _ => True) (.slice Ao15 t568.length co15) t568) ∧ Aside0 (Kd.S k47 47 wc w.heap.size (fun k_ => some k_ ≠ (v566 : Value).ownBlock ∧ nb17 ≤ k_) v574 t571) ∧ Aside0 (Below w.heap.size w wc))
 case first =>
  have H := HC7.out
  clear HC7
  replace H := Option.bind_eq_some_iff.mp H
  obtain ⟨t576, A180, H⟩ := H
  try dsimp only at H
  have A18 := Aside0.mk A180
  clear A180
  by_cases c19 : t576 = true
  rotate_left
  ·replace c19 := Bool.eq_false_iff.mpr c19
   subst c19
   rw [if_neg (show ¬ (false = true) by decide)] at H
   have H' := Aside0.mk H
   clear H
   obtain ⟨Ao29, co29, eo29⟩ := Kd.S_slice HO575.out
   subst eo29
   obtain ⟨Ao30, co30, eo30⟩ := Kd.S_slice HO567.out
   subst eo30
   go_wp2_with (first | ((with_reducible refine gate_callee (f := 31) rfl ?_); refine goesL_ (some 36) rfl rfl Try.func31 (by kernel_rfl) rfl #[.slice Ao29 t571.length co29, .slice Ao30 t563.length co30] rfl zar ?_; (with_reducible refine (laws_eqRecordS.calls k _ _ t571 _ _ t563 false _ ?side1 ?side2 ?side3 ?side4 A18.out).mono ?_); (case side1 => exact zC (Kd.S_reads' HO575.out).2.2); (case side2 => exact (Kd.S_reads' HO575.out).2.1); (case side3 => exact zC (Kd.S_reads' HO567.out).2.2); (case side4 => exact (Kd.S_reads' HO567.out).2.1); rintro e w31 ⟨rfl, hb⟩; refine ⟨_, rfl, ?_⟩; replace HO562 := Aside0.mk (Kd.R_below (zr HO562) hb); replace HO567 := Aside0.mk (Kd.S_below (zs HO567) hb); replace HO570 := Aside0.mk (Kd.R_below (zr HO570) hb); replace HO575 := Aside0.mk (Kd.S_below (zs HO575) hb); replace HB := Aside0.mk (below_step (zh HB) hb); (try clear hb); (try clear hb2); (try clear hk); (try clear hi)))
   go_meet
   case rel => exact ⟨_, (true), zrs, H', ⟨by first | omega | exact Nat.le_refl _⟩, ⟨Kd.S_mono (zs HO567) (fun _ hk => ⟨hk.1.2, hk.2⟩)⟩, ⟨Kd.R_mono (zr HO570) (fun _ hk => trivial)⟩, ⟨Kd.S_mono (zs HO575) (fun _ hk => ⟨hk.1.2, hk.2⟩)⟩, ⟨zh HB⟩⟩
  subst c19
  rw [if_pos rfl] at H
  by_cases c20 : t572 = t564
  rotate_left
  ·rw [if_neg c20] at H
   have c20b0 : (t572 == t564) = false := beq_eq_false_iff_ne.mpr c20
   have c20b1 : (t572 != t564) = true := bne_iff_ne.mpr c20
   (first | rw [c20b0] | (simp only [i64_w, i32_w]; rw [c20b0]) | skip)
   have H' := Aside0.mk H
   clear H
   obtain ⟨Ao25, co25, eo25⟩ := Kd.S_slice HO575.out
   subst eo25
   obtain ⟨Ao26, co26, eo26⟩ := Kd.S_slice HO567.out
   subst eo26
   go_wp2_with (first | ((with_reducible refine gate_callee (f := 31) rfl ?_); refine goesL_ (some 36) rfl rfl Try.func31 (by kernel_rfl) rfl #[.slice Ao25 t571.length co25, .slice Ao26 t563.length co26] rfl zar ?_; (with_reducible refine (laws_eqRecordS.calls k _ _ t571 _ _ t563 true _ ?side1 ?side2 ?side3 ?side4 A18.out).mono ?_); (case side1 => exact zC (Kd.S_reads' HO575.out).2.2); (case side2 => exact (Kd.S_reads' HO575.out).2.1); (case side3 => exact zC (Kd.S_reads' HO567.out).2.2); (case side4 => exact (Kd.S_reads' HO567.out).2.1); rintro e w27 ⟨rfl, hb⟩; refine ⟨_, rfl, ?_⟩; replace HO562 := Aside0.mk (Kd.R_below (zr HO562) hb); replace HO567 := Aside0.mk (Kd.S_below (zs HO567) hb); replace HO570 := Aside0.mk (Kd.R_below (zr HO570) hb); replace HO575 := Aside0.mk (Kd.S_below (zs HO575) hb); replace HB := Aside0.mk (below_step (zh HB) hb); (try clear hb); (try clear hb2); (try clear hk); (try clear hi)))
   go_meet
   case rel => exact ⟨_, (true), zrs, H', ⟨by first | omega | exact Nat.le_refl _⟩, ⟨Kd.S_mono (zs HO567) (fun _ hk => ⟨hk.1.2, hk.2⟩)⟩, ⟨Kd.R_mono (zr HO570) (fun _ hk => trivial)⟩, ⟨Kd.S_mono (zs HO575) (fun _ hk => ⟨hk.1.2, hk.2⟩)⟩, ⟨zh HB⟩⟩
  rw [if_pos c20] at H
  have c20b0 : (t572 == t564) = true := beq_iff_eq.mpr c20
  have c20b1 : (t572 != t564) = false := bne_eq_false_iff_eq.mpr c20
  clear c20
  (first | rw [c20b0] | (simp only [i64_w, i32_w]; rw [c20b0]) | skip)
  have H' := Aside0.mk H
  clear H
  obtain ⟨Ao21, co21, eo21⟩ := Kd.S_slice HO575.out
  subst eo21
  obtain ⟨Ao22, co22, eo22⟩ := Kd.S_slice HO567.out
  subst eo22
  go_wp2_with (first | ((with_reducible refine gate_callee (f := 31) rfl ?_); refine goesL_ (some 36) rfl rfl Try.func31 (by kernel_rfl) rfl #[.slice Ao21 t571.length co21, .slice Ao22 t563.length co22] rfl zar ?_; (with_reducible refine (laws_eqRecordS.calls k _ _ t571 _ _ t563 true _ ?side1 ?side2 ?side3 ?side4 A18.out).mono ?_); (case side1 => exact zC (Kd.S_reads' HO575.out).2.2); (case side2 => exact (Kd.S_reads' HO575.out).2.1); (case side3 => exact zC (Kd.S_reads' HO567.out).2.2); (case side4 => exact (Kd.S_reads' HO567.out).2.1); rintro e w23 ⟨rfl, hb⟩; refine ⟨_, rfl, ?_⟩; replace HO562 := Aside0.mk (Kd.R_below (zr HO562) hb); replace HO567 := Aside0.mk (Kd.S_below (zs HO567) hb); replace HO570 := Aside0.mk (Kd.R_below (zr HO570) hb); replace HO575 := Aside0.mk (Kd.S_below (zs HO575) hb); replace HB := Aside0.mk (below_step (zh HB) hb); (try clear hb); (try clear hb2); (try clear hk); (try clear hi)))
  go_meet
  case rel => exact ⟨_, ((t573 != t565)), zrs, H', ⟨by first | omega | exact Nat.le_refl _⟩, ⟨Kd.S_mono (zs HO567) (fun _ hk => ⟨hk.1.2, hk.2⟩)⟩, ⟨Kd.R_mono (zr HO570) (fun _ hk => trivial)⟩, ⟨Kd.S_mono (zs HO575) (fun _ hk => ⟨hk.1.2, hk.2⟩)⟩, ⟨zh HB⟩⟩
 case rest =>
  clear HC7
  try clear c2
  try clear c2b0
  try clear c2b1
  obtain ⟨kq, x47_6, rfl, HA, HJ6, HO_3, HO_6, HO_7, HB⟩ := hcut
  cases kq with
  | zero => exact absurd HA.out (by simp [laws_FnExactReadLog.j0])
  | succ kj6 =>
   have H := HA.out
   clear HA
   simp only [laws_FnExactReadLog.j0] at H
   by_cases c33 : x47_6 = true
   ·subst c33
    rw [if_pos rfl] at H
    obtain rfl := Option.some.inj H
    go_wp2
    go_ret
    exact ⟨zre, zh HB⟩
   replace c33 := Bool.eq_false_iff.mpr c33
   subst c33
   rw [if_neg (show ¬ (false = true) by decide)] at H
   replace H := Option.bind_eq_some_iff.mp H
   obtain ⟨t577, A340, H⟩ := H
   try dsimp only at H
   have A34 := Aside0.mk A340
   clear A340
   replace H := Option.bind_eq_some_iff.mp H
   obtain ⟨t580, A350, H⟩ := H
   try dsimp only at H
   have A35 := Aside0.mk A350
   clear A350
   by_cases c36 : t580 = true
   rotate_left
   ·replace c36 := Bool.eq_false_iff.mpr c36
    subst c36
    rw [if_neg (show ¬ (false = true) by decide)] at H
    obtain rfl := Option.some.inj H
    go_wp2_with (first | ((with_reducible refine gate_callee (f := 18) rfl ?_); refine goesL_ (some 50) rfl rfl Try.func18 (by kernel_rfl) rfl #[.slice A0 l0.length c0] rfl zar ?_; (with_reducible refine (laws_toByteS.calls kj6 _ _ l0 t577 _ ?side1 ?side2 A34.out).mono ?_); (case side1 => exact zC (Kd.C_below HR0.out HB.out)); (case side2 => exact HC0.out); rintro e w109 ⟨v578, rfl, ho0, hb⟩; refine ⟨_, rfl, ?_⟩; replace HO_3 := Aside0.mk (Kd.S_below (zs HO_3) hb); replace HO_7 := Aside0.mk (Kd.S_below (zs HO_7) hb); have HO579 := Aside0.mk (Kd.R_lower (Kd.R_new' ho0 (Kd.R_lt (zr HO_6))) (below_size (zh HB))); replace HO_6 := Aside0.mk (Kd.R_elder' (zr HO_6) (Kd.R_base ho0) hb); replace HB := Aside0.mk (below_step (zh HB) hb); (try clear hb ho0); (try clear hb); (try clear hk); (try clear hi); obtain ⟨Ao111, co111, eo111⟩ := Kd.R_slice HO579.out; subst eo111) | ((with_reducible refine gate_callee (f := 12) rfl ?_); refine goesL_ (some 51) rfl rfl Try.func12 (by kernel_rfl) rfl #[.slice Ao15 t568.length co15, .slice Ao111 t577.length co111] rfl zar ?_; (with_reducible refine (laws_eqByteS.calls kj6 _ _ t568 _ _ t577 false _ ?side1 ?side2 ?side3 ?side4 A35.out).mono ?_); (case side1 => exact zC (Kd.R_reads' HO_6.out).2.2); (case side2 => exact (Kd.R_reads' HO_6.out).2.1); (case side3 => exact zC (Kd.R_reads' HO579.out).2.2); (case side4 => exact (Kd.R_reads' HO579.out).2.1); rintro e w' ⟨rfl, ⟨nd, rfl⟩⟩; refine ⟨_, rfl, ?_⟩))
    go_ret
    exact ⟨zre, zh HB⟩

   subst c36
   rw [if_pos rfl] at H
   replace H := Option.bind_eq_some_iff.mp H
   obtain ⟨⟨t581, t582⟩, A370, H⟩ := H
   try dsimp only at H
   have A37 := Aside0.mk A370
   clear A370
   have HC38 := Aside0.mk H
   clear H
   go_upto_region 12 with (first | ((with_reducible refine gate_callee (f := 18) rfl ?_); refine goesL_ (some 50) rfl rfl Try.func18 (by kernel_rfl) rfl #[.slice A0 l0.length c0] rfl zar ?_; (with_reducible refine (laws_toByteS.calls kj6 _ _ l0 t577 _ ?side1 ?side2 A34.out).mono ?_); (case side1 => exact zC (Kd.C_below HR0.out HB.out)); (case side2 => exact HC0.out); rintro e w39 ⟨v578, rfl, ho0, hb⟩; refine ⟨_, rfl, ?_⟩; replace HO_3 := Aside0.mk (Kd.S_below (zs HO_3) hb); replace HO_7 := Aside0.mk (Kd.S_below (zs HO_7) hb); have HO579 := Aside0.mk (Kd.R_lower (Kd.R_new' ho0 (Kd.R_lt (zr HO_6))) (below_size (zh HB))); replace HO_6 := Aside0.mk (Kd.R_elder' (zr HO_6) (Kd.R_base ho0) hb); replace HB := Aside0.mk (below_step (zh HB) hb); (try clear hb ho0); (try clear hb); (try clear hk); (try clear hi); obtain ⟨Ao41, co41, eo41⟩ := Kd.R_slice HO579.out; subst eo41) | ((with_reducible refine gate_callee (f := 12) rfl ?_); refine goesL_ (some 51) rfl rfl Try.func12 (by kernel_rfl) rfl #[.slice Ao15 t568.length co15, .slice Ao41 t577.length co41] rfl zar ?_; (with_reducible refine (laws_eqByteS.calls kj6 _ _ t568 _ _ t577 true _ ?side1 ?side2 ?side3 ?side4 A35.out).mono ?_); (case side1 => exact zC (Kd.R_reads' HO_6.out).2.2); (case side2 => exact (Kd.R_reads' HO_6.out).2.1); (case side3 => exact zC (Kd.R_reads' HO579.out).2.2); (case side4 => exact (Kd.R_reads' HO579.out).2.1); rintro e w' ⟨rfl, ⟨nd, rfl⟩⟩; refine ⟨_, rfl, ?_⟩) | ((with_reducible refine gate_callee (f := 15) rfl ?_); refine goesL_ (some 55) rfl rfl Try.func15 (by kernel_rfl) rfl #[.slice Ao15 t568.length co15, .int .i64 1] rfl zar ?_; (with_reducible refine (laws_markByteS.calls kj6 (fun k_ => some k_ = (.slice Ao15 t568.length co15 : Value).ownBlock) (.slice Ao15 t568.length co15) t568 1 t581 t582 w _ ?side1 ?side2 A37.out).mono ?_); (case side1 => exact zh HB); (case side2 => exact Kd.R_tight rfl HO_6.out); rintro e w42 ⟨rfl, hy0, hb, hkp⟩; refine ⟨_, rfl, ?_⟩; replace HO_3 := Aside0.mk (Kd.S_mono (ok' := fun k_ => some k_ ≠ (v574 : Value).ownBlock ∧ k_ < nb17) (Kd.S_keptB ((Kd.S_apart' HO_3.out (Kd.R_typed HO_6.out) (by decide))) hkp (fun k_ hk_ hs_ => (hk_.2) hs_)) (fun k_ hk_ => ⟨hk_.1.1.1, hk_.1.1.2⟩)); replace HO_7 := Aside0.mk (Kd.S_mono (ok' := fun k_ => some k_ ≠ (v566 : Value).ownBlock ∧ nb17 ≤ k_) (Kd.S_keptB ((Kd.S_apart' HO_7.out (Kd.R_typed HO_6.out) (by decide))) hkp (fun k_ hk_ hs_ => (hk_.2) hs_)) (fun k_ hk_ => ⟨hk_.1.1.1, hk_.1.1.2⟩)); replace HO_6 := Aside0.mk (Kd.R_reok rfl hy0 (fun k_ e_ => HO_6.out.1 k_ e_)); replace HO579 := Aside0.mk (Kd.R_mono (ok' := fun k_ => some k_ ≠ (.slice Ao15 t568.length co15 : Value).ownBlock) (Kd.R_keptB (HO579.out) hkp (fun k_ hk_ hs_ => (hk_.2) hs_)) (fun k_ hk_ => hk_.1.2)); replace HB := Aside0.mk (hb); (try clear hb); (try clear hkp); (try clear hy0)))
   (try simp only [Act.put, List.setIfInBounds_toArray, List.set_cons_zero, List.set_cons_succ])
   go_cut [73] (fun v73 wc => ∃ (kq : Nat) (x73_37 : Bool), v73 = .bool x73_37 ∧ Aside0 (laws_FnExactReadLog.j1 kq l0 t563 t564 t565 t571 x73_37 = some r) ∧ Aside0 (kq ≤ kj6) ∧ Aside0 (Kd.S k47 47 wc w.heap.size (fun k_ => some k_ ≠ (v574 : Value).ownBlock ∧ k_ < nb17) v566 t563) ∧ Aside0 (Kd.S k47 47 wc w.heap.size (fun k_ => some k_ ≠ (v566 : Value).ownBlock ∧ nb17 ≤ k_) v574 t571) ∧ Aside0 (Below w.heap.size w wc))
   case first =>
    have H := HC38.out
    clear HC38
    by_cases c43 : t581 < 0
    ·rw [if_pos c43] at H
     have c43b0 : decide (t581 < 0) = true := decide_eq_true c43
     clear c43
     (first | rw [c43b0] | (simp only [i64_w, i32_w]; rw [c43b0]) | skip)
     have H' := Aside0.mk H
     clear H
     go_wp2
     go_meet
     case rel => exact ⟨_, (true), zrs, H', ⟨by have := HJ6.out; first | omega | exact Nat.le_refl _⟩, ⟨zs HO_3⟩, ⟨zs HO_7⟩, ⟨zh HB⟩⟩
    rw [if_neg c43] at H
    have c43b0 : decide (t581 < 0) = false := decide_eq_false c43
    clear c43
    (first | rw [c43b0] | (simp only [i64_w, i32_w]; rw [c43b0]) | skip)
    replace H := Option.bind_eq_some_iff.mp H
    obtain ⟨t583, A440, H⟩ := H
    try dsimp only at H
    have A44 := Aside0.mk A440
    clear A440
    by_cases c45 : t583 = true
    rotate_left
    ·replace c45 := Bool.eq_false_iff.mpr c45
     subst c45
     rw [if_neg (show ¬ (false = true) by decide)] at H
     have H' := Aside0.mk H
     clear H
     obtain ⟨Ao55, co55, eo55⟩ := Kd.S_slice HO_7.out
     subst eo55
     obtain ⟨Ao56, co56, eo56⟩ := Kd.S_slice HO_3.out
     subst eo56
     go_wp2_with (first | (go_at_call 31; (with_reducible refine (laws_eqRecordS.calls kj6 _ _ t571 _ _ t563 false _ ?side1 ?side2 ?side3 ?side4 A44.out).mono ?_); (case side1 => exact zC (Kd.S_reads' HO_7.out).2.2); (case side2 => exact (Kd.S_reads' HO_7.out).2.1); (case side3 => exact zC (Kd.S_reads' HO_3.out).2.2); (case side4 => exact (Kd.S_reads' HO_3.out).2.1); rintro e w57 ⟨rfl, hb⟩; replace HO_3 := Aside0.mk (Kd.S_below (zs HO_3) hb); replace HO_6 := Aside0.mk (Kd.R_below (zr HO_6) hb); replace HO_7 := Aside0.mk (Kd.S_below (zs HO_7) hb); replace HO579 := Aside0.mk (Kd.R_below (zr HO579) hb); replace HB := Aside0.mk (below_step (zh HB) hb); (try clear hb); (try clear hb2); (try clear hk); (try clear hi)))
     go_meet
     case rel => exact ⟨_, (true), zrs, H', ⟨by have := HJ6.out; first | omega | exact Nat.le_refl _⟩, ⟨zs HO_3⟩, ⟨zs HO_7⟩, ⟨zh HB⟩⟩
    subst c45
    rw [if_pos rfl] at H
    by_cases c46 : t572 = t564
    rotate_left
    ·rw [if_neg c46] at H
     have c46b0 : (t572 == t564) = false := beq_eq_false_iff_ne.mpr c46
     have c46b1 : (t572 != t564) = true := bne_iff_ne.mpr c46
     have H' := Aside0.mk H
     clear H
     obtain ⟨Ao51, co51, eo51⟩ := Kd.S_slice HO_7.out
     subst eo51
     obtain ⟨Ao52, co52, eo52⟩ := Kd.S_slice HO_3.out
     subst eo52
     go_wp2_with (first | (go_at_call 31; (with_reducible refine (laws_eqRecordS.calls kj6 _ _ t571 _ _ t563 true _ ?side1 ?side2 ?side3 ?side4 A44.out).mono ?_); (case side1 => exact zC (Kd.S_reads' HO_7.out).2.2); (case side2 => exact (Kd.S_reads' HO_7.out).2.1); (case side3 => exact zC (Kd.S_reads' HO_3.out).2.2); (case side4 => exact (Kd.S_reads' HO_3.out).2.1); rintro e w53 ⟨rfl, hb⟩; replace HO_3 := Aside0.mk (Kd.S_below (zs HO_3) hb); replace HO_6 := Aside0.mk (Kd.R_below (zr HO_6) hb); replace HO_7 := Aside0.mk (Kd.S_below (zs HO_7) hb); replace HO579 := Aside0.mk (Kd.R_below (zr HO579) hb); replace HB := Aside0.mk (below_step (zh HB) hb); (try clear hb); (try clear hb2); (try clear hk); (try clear hi)))
     go_meet
     case rel => exact ⟨_, (true), zrs, H', ⟨by have := HJ6.out; first | omega | exact Nat.le_refl _⟩, ⟨zs HO_3⟩, ⟨zs HO_7⟩, ⟨zh HB⟩⟩
    rw [if_pos c46] at H
    have c46b0 : (t572 == t564) = true := beq_iff_eq.mpr c46
    have c46b1 : (t572 != t564) = false := bne_eq_false_iff_eq.mpr c46
    clear c46
    have H' := Aside0.mk H
    clear H
    obtain ⟨Ao47, co47, eo47⟩ := Kd.S_slice HO_7.out
    subst eo47
    obtain ⟨Ao48, co48, eo48⟩ := Kd.S_slice HO_3.out
    subst eo48
    go_wp2_with (first | (go_at_call 31; (with_reducible refine (laws_eqRecordS.calls kj6 _ _ t571 _ _ t563 true _ ?side1 ?side2 ?side3 ?side4 A44.out).mono ?_); (case side1 => exact zC (Kd.S_reads' HO_7.out).2.2); (case side2 => exact (Kd.S_reads' HO_7.out).2.1); (case side3 => exact zC (Kd.S_reads' HO_3.out).2.2); (case side4 => exact (Kd.S_reads' HO_3.out).2.1); rintro e w49 ⟨rfl, hb⟩; replace HO_3 := Aside0.mk (Kd.S_below (zs HO_3) hb); replace HO_6 := Aside0.mk (Kd.R_below (zr HO_6) hb); replace HO_7 := Aside0.mk (Kd.S_below (zs HO_7) hb); replace HO579 := Aside0.mk (Kd.R_below (zr HO579) hb); replace HB := Aside0.mk (below_step (zh HB) hb); (try clear hb); (try clear hb2); (try clear hk); (try clear hi)))
    go_meet
    case rel => exact ⟨_, ((t573 != t565)), zrs, H', ⟨by have := HJ6.out; first | omega | exact Nat.le_refl _⟩, ⟨zs HO_3⟩, ⟨zs HO_7⟩, ⟨zh HB⟩⟩
   case rest =>
    clear HC38
    try clear c2
    try clear c2b0
    try clear c2b1
    try clear c33
    try clear c36
    obtain ⟨kq, x73_37, rfl, HA, HJ37, HO_3, HO_7, HB⟩ := hcut
    cases kq with
    | zero => exact absurd HA.out (by simp [laws_FnExactReadLog.j1])
    | succ kj37 =>
     have H := HA.out
     clear HA
     simp only [laws_FnExactReadLog.j1] at H
     by_cases c59 : x73_37 = true
     ·subst c59
      rw [if_pos rfl] at H
      obtain rfl := Option.some.inj H
      go_wp2
      go_ret
      exact ⟨zre, zh HB⟩
     replace c59 := Bool.eq_false_iff.mpr c59
     subst c59
     rw [if_neg (show ¬ (false = true) by decide)] at H
     replace H := Option.bind_eq_some_iff.mp H
     obtain ⟨⟨t584, t585⟩, A600, H⟩ := H
     try dsimp only at H
     have A60 := Aside0.mk A600
     clear A600
     replace H := Option.bind_eq_some_iff.mp H
     obtain ⟨t586, A610, H⟩ := H
     try dsimp only at H
     have A61 := Aside0.mk A610
     clear A610
     by_cases c62 : t586 < 0
     ·rw [if_pos c62] at H
      have c62b0 : decide (t586 < 0) = true := decide_eq_true c62
      clear c62
      obtain rfl := Option.some.inj H
      obtain ⟨Ao63, co63, eo63⟩ := Kd.S_slice HO_7.out
      subst eo63
      go_wp2_with (first | ((with_reducible refine gate_callee (f := 32) rfl ?_); refine goesL_ (some 76) rfl rfl Try.func32 (by kernel_rfl) rfl #[.slice Ao63 t571.length co63, .int .i64 1] rfl zar ?_; (with_reducible refine (laws_markRecordS.calls kj37 ?pz_ (.slice Ao63 t571.length co63) t571 1 t584 t585 w _ ?side1 ?side2 A60.out).mono ?_); (case side1 => exact zh HB); (case side2 => exact Kd.S_bound (HO_7.out)); rintro e w64 ⟨rfl, hy0, hb, hkp⟩; refine ⟨_, rfl, ?_⟩; replace HO_3 := Aside0.mk (Kd.S_kept (ok := fun k_ => (some k_ ≠ (.slice Ao63 t571.length co63 : Value).ownBlock ∧ k_ < nb17)) (zs HO_3) hkp (fun k_ h1_ h2_ => Nat.not_le.2 h1_.2 h2_.1.2)); replace HO_7 := Aside0.mk (Kd.S_mono hy0 (fun k_ h_ => h_.1)); replace HB := Aside0.mk (hb); (try clear hb); (try clear hkp); (try clear hy0)) | ((with_reducible refine gate_callee (f := 33) rfl ?_); refine goesL_ (some 79) rfl rfl Try.func33 (by kernel_rfl) rfl #[.slice Ao63 t585.length co63, .int .i64 1] rfl (by (try simp only [List.map_toArray, List.map_cons, List.map_nil]); first | done | (rw [show t585.length = t571.length from (Kd.S_reads' HO_7.out).1.symm] <;> rfl) | rfl | (simp only [List.length_drop, List.length_take]; rfl)) ?_; (with_reducible refine (laws_heldRecordS.calls kj37 _ _ t585 1 t586 _ ?side1 ?side2 A61.out).mono ?_); (case side1 => exact zC (Kd.S_reads' HO_7.out).2.2); (case side2 => rw [show t585.length = t571.length from (Kd.S_reads' HO_7.out).1.symm]; exact (Kd.S_reads' HO_7.out).2.1); rintro e w65 ⟨rfl, hb⟩; refine ⟨_, rfl, ?_⟩; replace HO_3 := Aside0.mk (Kd.S_below (zs HO_3) hb); replace HO_7 := Aside0.mk (Kd.S_below (zs HO_7) hb); replace HB := Aside0.mk (below_step (zh HB) hb); (try clear hb); (try clear hb2); (try clear hk); (try clear hi)))
      go_ret
      exact ⟨zre, zh HB⟩
     rw [if_neg c62] at H
     have c62b0 : decide (t586 < 0) = false := decide_eq_false c62
     clear c62
     by_cases c67 : t586 = t584
     rotate_left
     ·rw [if_neg c67] at H
      have c67b0 : (t586 == t584) = false := beq_eq_false_iff_ne.mpr c67
      have c67b1 : (t586 != t584) = true := bne_iff_ne.mpr c67
      obtain rfl := Option.some.inj H
      obtain ⟨Ao105, co105, eo105⟩ := Kd.S_slice HO_7.out
      subst eo105
      go_wp2_with (first | ((with_reducible refine gate_callee (f := 32) rfl ?_); refine goesL_ (some 76) rfl rfl Try.func32 (by kernel_rfl) rfl #[.slice Ao105 t571.length co105, .int .i64 1] rfl zar ?_; (with_reducible refine (laws_markRecordS.calls kj37 ?pz_ (.slice Ao105 t571.length co105) t571 1 t584 t585 w _ ?side1 ?side2 A60.out).mono ?_); (case side1 => exact zh HB); (case side2 => exact Kd.S_bound (HO_7.out)); rintro e w106 ⟨rfl, hy0, hb, hkp⟩; refine ⟨_, rfl, ?_⟩; replace HO_3 := Aside0.mk (Kd.S_kept (ok := fun k_ => (some k_ ≠ (.slice Ao105 t571.length co105 : Value).ownBlock ∧ k_ < nb17)) (zs HO_3) hkp (fun k_ h1_ h2_ => Nat.not_le.2 h1_.2 h2_.1.2)); replace HO_7 := Aside0.mk (Kd.S_mono hy0 (fun k_ h_ => h_.1)); replace HB := Aside0.mk (hb); (try clear hb); (try clear hkp); (try clear hy0)) | ((with_reducible refine gate_callee (f := 33) rfl ?_); refine goesL_ (some 79) rfl rfl Try.func33 (by kernel_rfl) rfl #[.slice Ao105 t585.length co105, .int .i64 1] rfl (by (try simp only [List.map_toArray, List.map_cons, List.map_nil]); first | done | (rw [show t585.length = t571.length from (Kd.S_reads' HO_7.out).1.symm] <;> rfl) | rfl | (simp only [List.length_drop, List.length_take]; rfl)) ?_; (with_reducible refine (laws_heldRecordS.calls kj37 _ _ t585 1 t586 _ ?side1 ?side2 A61.out).mono ?_); (case side1 => exact zC (Kd.S_reads' HO_7.out).2.2); (case side2 => rw [show t585.length = t571.length from (Kd.S_reads' HO_7.out).1.symm]; exact (Kd.S_reads' HO_7.out).2.1); rintro e w107 ⟨rfl, hb⟩; refine ⟨_, rfl, ?_⟩; replace HO_3 := Aside0.mk (Kd.S_below (zs HO_3) hb); replace HO_7 := Aside0.mk (Kd.S_below (zs HO_7) hb); replace HB := Aside0.mk (below_step (zh HB) hb); (try clear hb); (try clear hb2); (try clear hk); (try clear hi)))
      go_ret
      exact ⟨zre, zh HB⟩
     rw [if_pos c67] at H
     have c67b0 : (t586 == t584) = true := beq_iff_eq.mpr c67
     have c67b1 : (t586 != t584) = false := bne_eq_false_iff_eq.mpr c67
     clear c67
     replace H := Option.bind_eq_some_iff.mp H
     obtain ⟨t587, A680, H⟩ := H
     try dsimp only at H
     have A68 := Aside0.mk A680
     clear A680
     replace H := Option.bind_eq_some_iff.mp H
     obtain ⟨⟨t590, t591, t592⟩, A690, H⟩ := H
     try dsimp only at H
     have A69 := Aside0.mk A690
     clear A690
     have HC70 := Aside0.mk H
     clear H
     obtain ⟨Ao71, co71, eo71⟩ := Kd.S_slice HO_7.out
     subst eo71
     go_upto_region 23 with (first | ((with_reducible refine gate_callee (f := 32) rfl ?_); refine goesL_ (some 76) rfl rfl Try.func32 (by kernel_rfl) rfl #[.slice Ao71 t571.length co71, .int .i64 1] rfl zar ?_; (with_reducible refine (laws_markRecordS.calls kj37 ?pz_ (.slice Ao71 t571.length co71) t571 1 t584 t585 w _ ?side1 ?side2 A60.out).mono ?_); (case side1 => exact zh HB); (case side2 => exact Kd.S_bound (HO_7.out)); rintro e w72 ⟨rfl, hy0, hb, hkp⟩; refine ⟨_, rfl, ?_⟩; replace HO_3 := Aside0.mk (Kd.S_kept (ok := fun k_ => (some k_ ≠ (.slice Ao71 t571.length co71 : Value).ownBlock ∧ k_ < nb17)) (zs HO_3) hkp (fun k_ h1_ h2_ => Nat.not_le.2 h1_.2 h2_.1.2)); replace HO_7 := Aside0.mk (Kd.S_mono hy0 (fun k_ h_ => h_.1)); replace HB := Aside0.mk (hb); (try clear hb); (try clear hkp); (try clear hy0)) | ((with_reducible refine gate_callee (f := 33) rfl ?_); refine goesL_ (some 79) rfl rfl Try.func33 (by kernel_rfl) rfl #[.slice Ao71 t585.length co71, .int .i64 1] rfl (by (try simp only [List.map_toArray, List.map_cons, List.map_nil]); first | done | (rw [show t585.length = t571.length from (Kd.S_reads' HO_7.out).1.symm] <;> rfl) | rfl | (simp only [List.length_drop, List.length_take]; rfl)) ?_; (with_reducible refine (laws_heldRecordS.calls kj37 _ _ t585 1 t586 _ ?side1 ?side2 A61.out).mono ?_); (case side1 => exact zC (Kd.S_reads' HO_7.out).2.2); (case side2 => rw [show t585.length = t571.length from (Kd.S_reads' HO_7.out).1.symm]; exact (Kd.S_reads' HO_7.out).2.1); rintro e w73 ⟨rfl, hb⟩; refine ⟨_, rfl, ?_⟩; replace HO_3 := Aside0.mk (Kd.S_below (zs HO_3) hb); replace HO_7 := Aside0.mk (Kd.S_below (zs HO_7) hb); replace HB := Aside0.mk (below_step (zh HB) hb); (try clear hb); (try clear hb2); (try clear hk); (try clear hi)) | ((with_reducible refine gate_callee (f := 18) rfl ?_); refine goesL_ (some 87) rfl rfl Try.func18 (by kernel_rfl) rfl #[.slice A0 l0.length c0] rfl zar ?_; (with_reducible refine (laws_toByteS.calls kj37 _ _ l0 t587 _ ?side1 ?side2 A68.out).mono ?_); (case side1 => exact zC (Kd.C_below HR0.out HB.out)); (case side2 => exact HC0.out); rintro e w75 ⟨v588, rfl, ho0, hb⟩; refine ⟨_, rfl, ?_⟩; replace HO_3 := Aside0.mk (Kd.S_below (zs HO_3) hb); replace HO_7 := Aside0.mk (Kd.S_below (zs HO_7) hb); have HO589 := Aside0.mk (Kd.R_lower ho0 (below_size (zh HB))); replace HB := Aside0.mk (below_step (zh HB) hb); (try clear hb ho0); (try clear hb); (try clear hk); (try clear hi); obtain ⟨Ao77, co77, eo77⟩ := Kd.R_slice HO589.out; subst eo77) | ((with_reducible refine gate_callee (f := 28) rfl ?_); refine goesL_ (some 88) rfl rfl Try.func28 (by kernel_rfl) rfl #[.slice Ao77 t587.length co77] rfl zar ?_; (with_reducible refine (impl_ReadLog.calls kj37 _ _ t587 t590 t591 t592 _ ?side1 ?side2 A69.out).mono ?_); (case side1 => exact zC (Kd.R_reads' HO589.out).2.2); (case side2 => exact (Kd.R_reads' HO589.out).2.1); rintro e w78 ⟨v593, rfl, ho0, hb⟩; refine ⟨_, rfl, ?_⟩; replace HO589 := Aside0.mk (Kd.R_below (zr HO589) hb); have HO594 := Aside0.mk (Kd.S_lower (Kd.S_new' (Kd.S_new' ho0 (Kd.S_lt (zs HO_3))) (Kd.S_lt (zs HO_7))) (below_size (zh HB))); replace HO_3 := Aside0.mk (Kd.S_elder' (zs HO_3) (Kd.S_base ho0) hb); replace HO_7 := Aside0.mk (Kd.S_elder' (zs HO_7) (Kd.S_base ho0) hb); replace HB := Aside0.mk (below_step (zh HB) hb); (try clear hb ho0); (try clear hb); (try clear hk); (try clear hi)))
     (try simp only [Act.put, List.setIfInBounds_toArray, List.set_cons_zero, List.set_cons_succ])
     go_cut [105] (fun v105 wc => ∃ (kq : Nat) (x105_69 : Bool), v105 = .bool x105_69 ∧ Aside0 (laws_FnExactReadLog.j2 kq t585 t584 x105_69 = some r) ∧ Aside0 (kq ≤ kj37) ∧ Aside0 (Kd.S k47 47 wc w.heap.size (fun k_ => nb17 ≤ k_) (.slice Ao71 t571.length co71) t585) ∧ Aside0 (Below w.heap.size w wc))
     case first =>
      have H := HC70.out
      clear HC70
      replace H := Option.bind_eq_some_iff.mp H
      obtain ⟨t595, A800, H⟩ := H
      try dsimp only at H
      have A80 := Aside0.mk A800
      clear A800
      by_cases c81 : t595 = true
      rotate_left
      ·replace c81 := Bool.eq_false_iff.mpr c81
       subst c81
       rw [if_neg (show ¬ (false = true) by decide)] at H
       have H' := Aside0.mk H
       clear H
       obtain ⟨Ao91, co91, eo91⟩ := Kd.S_slice HO594.out
       subst eo91
       obtain ⟨Ao92, co92, eo92⟩ := Kd.S_slice HO_3.out
       subst eo92
       go_wp2_with (first | ((with_reducible refine gate_callee (f := 31) rfl ?_); refine goesL_ (some 94) rfl rfl Try.func31 (by kernel_rfl) rfl #[.slice Ao91 t590.length co91, .slice Ao92 t563.length co92] rfl zar ?_; (with_reducible refine (laws_eqRecordS.calls kj37 _ _ t590 _ _ t563 false _ ?side1 ?side2 ?side3 ?side4 A80.out).mono ?_); (case side1 => exact zC (Kd.S_reads' HO594.out).2.2); (case side2 => exact (Kd.S_reads' HO594.out).2.1); (case side3 => exact zC (Kd.S_reads' HO_3.out).2.2); (case side4 => exact (Kd.S_reads' HO_3.out).2.1); rintro e w93 ⟨rfl, hb⟩; refine ⟨_, rfl, ?_⟩; replace HO_3 := Aside0.mk (Kd.S_below (zs HO_3) hb); replace HO_7 := Aside0.mk (Kd.S_below (zs HO_7) hb); replace HO589 := Aside0.mk (Kd.R_below (zr HO589) hb); replace HO594 := Aside0.mk (Kd.S_below (zs HO594) hb); replace HB := Aside0.mk (below_step (zh HB) hb); (try clear hb); (try clear hb2); (try clear hk); (try clear hi)))
       go_meet
       case rel => exact ⟨_, (true), zrs, H', ⟨by have := HJ6.out; have := HJ37.out; first | omega | exact Nat.le_refl _⟩, ⟨Kd.S_mono (zs HO_7) (fun _ hk => hk.1.2)⟩, ⟨zh HB⟩⟩
      subst c81
      rw [if_pos rfl] at H
      by_cases c82 : t591 = t564
      rotate_left
      ·rw [if_neg c82] at H
       have c82b0 : (t591 == t564) = false := beq_eq_false_iff_ne.mpr c82
       have c82b1 : (t591 != t564) = true := bne_iff_ne.mpr c82
       (first | rw [c82b0] | (simp only [i64_w, i32_w]; rw [c82b0]) | skip)
       have H' := Aside0.mk H
       clear H
       obtain ⟨Ao87, co87, eo87⟩ := Kd.S_slice HO594.out
       subst eo87
       obtain ⟨Ao88, co88, eo88⟩ := Kd.S_slice HO_3.out
       subst eo88
       go_wp2_with (first | ((with_reducible refine gate_callee (f := 31) rfl ?_); refine goesL_ (some 94) rfl rfl Try.func31 (by kernel_rfl) rfl #[.slice Ao87 t590.length co87, .slice Ao88 t563.length co88] rfl zar ?_; (with_reducible refine (laws_eqRecordS.calls kj37 _ _ t590 _ _ t563 true _ ?side1 ?side2 ?side3 ?side4 A80.out).mono ?_); (case side1 => exact zC (Kd.S_reads' HO594.out).2.2); (case side2 => exact (Kd.S_reads' HO594.out).2.1); (case side3 => exact zC (Kd.S_reads' HO_3.out).2.2); (case side4 => exact (Kd.S_reads' HO_3.out).2.1); rintro e w89 ⟨rfl, hb⟩; refine ⟨_, rfl, ?_⟩; replace HO_3 := Aside0.mk (Kd.S_below (zs HO_3) hb); replace HO_7 := Aside0.mk (Kd.S_below (zs HO_7) hb); replace HO589 := Aside0.mk (Kd.R_below (zr HO589) hb); replace HO594 := Aside0.mk (Kd.S_below (zs HO594) hb); replace HB := Aside0.mk (below_step (zh HB) hb); (try clear hb); (try clear hb2); (try clear hk); (try clear hi)))
       go_meet
       case rel => exact ⟨_, (true), zrs, H', ⟨by have := HJ6.out; have := HJ37.out; first | omega | exact Nat.le_refl _⟩, ⟨Kd.S_mono (zs HO_7) (fun _ hk => hk.1.2)⟩, ⟨zh HB⟩⟩
      rw [if_pos c82] at H
      have c82b0 : (t591 == t564) = true := beq_iff_eq.mpr c82
      have c82b1 : (t591 != t564) = false := bne_eq_false_iff_eq.mpr c82
      clear c82
      (first | rw [c82b0] | (simp only [i64_w, i32_w]; rw [c82b0]) | skip)
      have H' := Aside0.mk H
      clear H
      obtain ⟨Ao83, co83, eo83⟩ := Kd.S_slice HO594.out
      subst eo83
      obtain ⟨Ao84, co84, eo84⟩ := Kd.S_slice HO_3.out
      subst eo84
      go_wp2_with (first | ((with_reducible refine gate_callee (f := 31) rfl ?_); refine goesL_ (some 94) rfl rfl Try.func31 (by kernel_rfl) rfl #[.slice Ao83 t590.length co83, .slice Ao84 t563.length co84] rfl zar ?_; (with_reducible refine (laws_eqRecordS.calls kj37 _ _ t590 _ _ t563 true _ ?side1 ?side2 ?side3 ?side4 A80.out).mono ?_); (case side1 => exact zC (Kd.S_reads' HO594.out).2.2); (case side2 => exact (Kd.S_reads' HO594.out).2.1); (case side3 => exact zC (Kd.S_reads' HO_3.out).2.2); (case side4 => exact (Kd.S_reads' HO_3.out).2.1); rintro e w85 ⟨rfl, hb⟩; refine ⟨_, rfl, ?_⟩; replace HO_3 := Aside0.mk (Kd.S_below (zs HO_3) hb); replace HO_7 := Aside0.mk (Kd.S_below (zs HO_7) hb); replace HO589 := Aside0.mk (Kd.R_below (zr HO589) hb); replace HO594 := Aside0.mk (Kd.S_below (zs HO594) hb); replace HB := Aside0.mk (below_step (zh HB) hb); (try clear hb); (try clear hb2); (try clear hk); (try clear hi)))
      go_meet
      case rel => exact ⟨_, ((t592 != t565)), zrs, H', ⟨by have := HJ6.out; have := HJ37.out; first | omega | exact Nat.le_refl _⟩, ⟨Kd.S_mono (zs HO_7) (fun _ hk => hk.1.2)⟩, ⟨zh HB⟩⟩
     case rest =>
      clear HC70
      try clear c2
      try clear c2b0
      try clear c2b1
      try clear c33
      try clear c36
      try clear c59
      try clear c62
      try clear c62b0
      try clear c67
      try clear c67b0
      try clear c67b1
      obtain ⟨kq, x105_69, rfl, HA, HJ69, HO_7, HB⟩ := hcut
      have hl7_69 := (Kd.S_reads' HO_7.out).1
      rw [hl7_69] at HO_7
      (try simp only [hl7_69])
      cases kq with
      | zero => exact absurd HA.out (by simp [laws_FnExactReadLog.j2])
      | succ kj69 =>
       have H := HA.out
       clear HA
       simp only [laws_FnExactReadLog.j2] at H
       by_cases c95 : x105_69 = true
       ·subst c95
        rw [if_pos rfl] at H
        obtain rfl := Option.some.inj H
        go_wp2
        go_ret
        exact ⟨zre, zh HB⟩
       replace c95 := Bool.eq_false_iff.mpr c95
       subst c95
       rw [if_neg (show ¬ (false = true) by decide)] at H
       replace H := Option.bind_eq_some_iff.mp H
       obtain ⟨t596, A960, H⟩ := H
       try dsimp only at H
       have A96 := Aside0.mk A960
       clear A960
       by_cases c97 : t596 < 0
       ·rw [if_pos c97] at H
        have c97b0 : decide (t596 < 0) = true := decide_eq_true c97
        clear c97
        obtain rfl := Option.some.inj H
        go_wp2_with (first | ((with_reducible refine gate_callee (f := 33) rfl ?_); refine goesL_ (some 108) rfl rfl Try.func33 (by kernel_rfl) rfl #[.slice Ao71 t585.length co71, .int .i64 1] rfl zar ?_; (with_reducible refine (laws_heldRecordS.calls kj69 _ _ t585 1 t596 _ ?side1 ?side2 A96.out).mono ?_); (case side1 => exact zC (Kd.S_reads' HO_7.out).2.2); (case side2 => exact (Kd.S_reads' HO_7.out).2.1); rintro e w98 ⟨rfl, hb⟩; refine ⟨_, rfl, ?_⟩; replace HO_7 := Aside0.mk (Kd.S_below (zs HO_7) hb); replace HB := Aside0.mk (below_step (zh HB) hb); (try clear hb); (try clear hb2); (try clear hk); (try clear hi)))
        go_ret
        exact ⟨zre, zh HB⟩
       rw [if_neg c97] at H
       have c97b0 : decide (t596 < 0) = false := decide_eq_false c97
       clear c97
       by_cases c100 : t596 = t584
       rotate_left
       ·rw [if_neg c100] at H
        have c100b0 : (t596 == t584) = false := beq_eq_false_iff_ne.mpr c100
        have c100b1 : (t596 != t584) = true := bne_iff_ne.mpr c100
        obtain rfl := Option.some.inj H
        go_wp2_with (first | ((with_reducible refine gate_callee (f := 33) rfl ?_); refine goesL_ (some 108) rfl rfl Try.func33 (by kernel_rfl) rfl #[.slice Ao71 t585.length co71, .int .i64 1] rfl zar ?_; (with_reducible refine (laws_heldRecordS.calls kj69 _ _ t585 1 t596 _ ?side1 ?side2 A96.out).mono ?_); (case side1 => exact zC (Kd.S_reads' HO_7.out).2.2); (case side2 => exact (Kd.S_reads' HO_7.out).2.1); rintro e w103 ⟨rfl, hb⟩; refine ⟨_, rfl, ?_⟩; replace HO_7 := Aside0.mk (Kd.S_below (zs HO_7) hb); replace HB := Aside0.mk (below_step (zh HB) hb); (try clear hb); (try clear hb2); (try clear hk); (try clear hi)))
        go_ret
        exact ⟨zre, zh HB⟩
       rw [if_pos c100] at H
       have c100b0 : (t596 == t584) = true := beq_iff_eq.mpr c100
       have c100b1 : (t596 != t584) = false := bne_eq_false_iff_eq.mpr c100
       clear c100
       obtain rfl := Option.some.inj H
       go_wp2_with (first | ((with_reducible refine gate_callee (f := 33) rfl ?_); refine goesL_ (some 108) rfl rfl Try.func33 (by kernel_rfl) rfl #[.slice Ao71 t585.length co71, .int .i64 1] rfl zar ?_; (with_reducible refine (laws_heldRecordS.calls kj69 _ _ t585 1 t596 _ ?side1 ?side2 A96.out).mono ?_); (case side1 => exact zC (Kd.S_reads' HO_7.out).2.2); (case side2 => exact (Kd.S_reads' HO_7.out).2.1); rintro e w101 ⟨rfl, hb⟩; refine ⟨_, rfl, ?_⟩; replace HO_7 := Aside0.mk (Kd.S_below (zs HO_7) hb); replace HB := Aside0.mk (below_step (zh HB) hb); (try clear hb); (try clear hb2); (try clear hk); (try clear hi)))
       go_ret
       exact ⟨zre, zh HB⟩
/-- THE ONE PURE STATEMENT of laws_FnExactReadLog: yours. -/
def laws_FnExactReadLog.Pure : Prop := ∀ (l0 : List Int), l0.length ≤ maxLen → l0.length * 1 ≤ 140737488351232 → (∀ x ∈ l0, (Lit.int .u8 x).wf = true) → ∃ k, laws_FnExactReadLog.f k l0 = some true
theorem laws_FnExactReadLog.walk (P : laws_FnExactReadLog.Pure) (a0 : Option Addr) (len0 cap0 : Nat) (z0 : List Int) (w : World) (w0 : (a0 = none ∧ len0 = 0 ∧ cap0 = 0 ∧ z0 = []) ∨ ∃ x, a0 = some x ∧ len0 ≤ cap0 ∧ cap0 ≤ maxLen ∧ z0.length = cap0 ∧ (∀ i, i < z0.length → w.cell? (x.add i) = some (.int .u8 (z0.getD i 0))) ∧ ∀ n ∈ z0, (Lit.int .u8 n).wf = true) (y0 : len0 * 1 ≤ 140737488351232) :
 Calls Try.prog 7 #[.slice a0 len0 cap0] w fun e w' => e = .returned (.bool true) ∧ Below w.heap.size w w' := by
 obtain ⟨l0, rfl, hr0, hm0, hw0, hc0⟩ := ReadsInt.ofRowC w0
 obtain ⟨k, h⟩ := P l0 hm0 y0 hw0
 refine (laws_FnExactReadLog.calls k _ _ l0 true w (Kd.C_of_reads (d := (0 : Int)) (h1 := fun _ => rfl) hr0) hc0 h).mono ?_
 rintro e w' ⟨rfl, hd⟩
 exact ⟨rfl, hd⟩

end Go.Proofs.Ytnpdmleglcbobaa.XFnExactReadLog
