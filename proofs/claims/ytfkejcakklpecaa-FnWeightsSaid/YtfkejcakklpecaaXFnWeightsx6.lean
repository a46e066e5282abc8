-- A text of this session: written by its own program (wip/x/xprint.py), which runs the kit's printer with contracts of its own.
import Derived.Test.YtfkejcakklpecaaXFnWeightsx0
import Derived.Test.YtfkejcakklpecaaXFnWeightsx1
import Derived.Test.YtfkejcakklpecaaXFnWeightsx2
import Derived.Test.YtfkejcakklpecaaXFnWeightsx3
import Derived.Test.YtfkejcakklpecaaXFnWeightsx5
namespace Go.Proofs.Ytfkejcakklpecaa.XFnWeights
open Go.RowKit Go.Proofs.YtfkejcakklpecaaW.PrintWords Go.Proofs.YtfkejcakklpecaaW.PrintLast Go.Proofs.YtfkejcakklpecaaW.PrintMore
attribute [local go_sem] max2_int min2_int max_two min_two max_three min_three max_four min_four   -- for this text's walks alone
set_option linter.unusedVariables false
set_option linter.unusedSimpArgs false

/-! ### laws_FnWeights: function 8 -/
mutual
def laws_FnWeights.l0 : Nat → List Int → Int → Int → Option (Bool)
  | 0, _, _, _ => none
  | k + 1, x0, x3, x4 => if x4 ≤ x3 then ((impl_Weight.f k x3 x4).bind fun t182 => ((spec_Weight.f k x3 x4).bind fun t183 => (if t182 = t183 then (if t182 < 0 then (some false) else (if x4 > 0 then ((impl_Weight.f k x3 (wrap64 (x4 - 1))).bind fun t184 => (if t182 > t184 then (some false) else (laws_FnWeights.l0 k x0 x3 (wrap64 (x4 + 1))))) else (laws_FnWeights.l0 k x0 x3 (wrap64 (x4 + 1))))) else (some false)))) else ((laws_at.f x0 1 200).bind fun t185 => (laws_FnWeights.l1 k x0 x3 (wrap64 (1 + t185)) 1))
def laws_FnWeights.l1 : Nat → List Int → Int → Int → Int → Option (Bool)
  | 0, _, _, _, _ => none
  | k + 1, x0, x3, x6, x7 => if x7 < 20 then ((impl_Strength.f k x7 x6 x3 (wrap64 (50 * x3))).bind fun t186 => ((spec_Strength.f k x7 x6 x3 (wrap64 (50 * x3))).bind fun t187 => (if t186 = t187 then ((impl_Strength.f k (wrap64 (x7 + 1)) x6 x3 (wrap64 (50 * x3))).bind fun t188 => (if t186 > t188 then (some false) else ((impl_Strength.f k x7 (wrap64 (x6 + 7)) x3 (wrap64 (50 * x3))).bind fun t189 => (if t186 < t189 then (some false) else (laws_FnWeights.l1 k x0 x3 x6 (wrap64 (x7 + 1))))))) else (some false)))) else ((spec_DrawLog2.f k x0).bind fun t190 => (if t190 < 1 then (laws_FnWeights.j2 k t190 true) else (laws_FnWeights.j2 k t190 (decide (t190 > 2305843009213693951)))))
def laws_FnWeights.j2 : Nat → Int → Bool → Option (Bool)
  | 0, _, _ => none
  | k + 1, x9, x96 => if x96 = true then ((impl_Log2.f k x9).bind fun t191 => ((spec_Log2.f k x9).bind fun t192 => (some (t191 == t192)))) else ((impl_Log2.f k x9).bind fun t193 => ((spec_Log2.f k x9).bind fun t194 => (if t193 = t194 then ((impl_Log2.f k (wrap64 (x9 + 1))).bind fun t195 => (if t195 ≥ t193 then (if x9 ≥ 1073741824 then (some true) else ((impl_Log2.f k (wrap64 (2 * x9))).bind fun t196 => (some (t196 == (wrap64 (t193 + 1024)))))) else (some false))) else (some false))))
end
def laws_FnWeights.f (k : Nat) (l0 : List Int) : Option (Bool) := if (l0.length : Int) > 1048576 then (some true) else ((laws_at.f l0 0 60).bind fun t181 => (laws_FnWeights.l0 k l0 (wrap64 (1 + t181)) 0))
theorem laws_FnWeights.mono_l : ∀ k, (∀ y0 y1 y2, LeO (laws_FnWeights.l0 k y0 y1 y2) (laws_FnWeights.l0 (k + 1) y0 y1 y2)) ∧ (∀ y0 y1 y2 y3, LeO (laws_FnWeights.l1 k y0 y1 y2 y3) (laws_FnWeights.l1 (k + 1) y0 y1 y2 y3)) ∧ (∀ y0 y1, LeO (laws_FnWeights.j2 k y0 y1) (laws_FnWeights.j2 (k + 1) y0 y1))
  | 0 => ⟨fun _ _ _ r h => by simp [laws_FnWeights.l0] at h, fun _ _ _ _ r h => by simp [laws_FnWeights.l1] at h, fun _ _ r h => by simp [laws_FnWeights.j2] at h⟩
  | k + 1 => by
    obtain ⟨ih0, ih1, ih2⟩ := laws_FnWeights.mono_l k
    refine ⟨?_, ?_, ?_⟩
    · intro y0 y1 y2
      unfold laws_FnWeights.l0
      repeat' first
      | (with_reducible exact ih0 _ _ _)
      | (with_reducible exact ih1 _ _ _ _)
      | (with_reducible exact ih2 _ _)
      | (with_reducible exact impl_Log2.mono _ _)
      | (with_reducible exact impl_Strength.mono _ _ _ _ _)
      | (with_reducible exact impl_Weight.mono _ _ _)
      | (with_reducible exact spec_DrawLog2.mono _ _)
      | (with_reducible exact spec_Log2.mono _ _)
      | (with_reducible exact spec_Strength.mono _ _ _ _ _)
      | (with_reducible exact spec_Weight.mono _ _ _)
      | (with_reducible exact LeO.refl _)
      | (with_reducible exact LeO.none _)
      | (with_reducible refine LeO.ite ?_ ?_)
      | (with_reducible refine LeO.bind ?_ (fun _ => ?_))
      | exact ih0 _ _ _
      | exact ih1 _ _ _ _
      | exact ih2 _ _
      | exact impl_Log2.mono _ _
      | exact impl_Strength.mono _ _ _ _ _
      | exact impl_Weight.mono _ _ _
      | exact spec_DrawLog2.mono _ _
      | exact spec_Log2.mono _ _
      | exact spec_Strength.mono _ _ _ _ _
      | exact spec_Weight.mono _ _ _
      | exact LeO.none _
      | refine LeO.ite ?_ ?_
      | refine LeO.bind ?_ (fun _ => ?_)
    · intro y0 y1 y2 y3
      unfold laws_FnWeights.l1
      repeat' first
      | (with_reducible exact ih0 _ _ _)
      | (with_reducible exact ih1 _ _ _ _)
      | (with_reducible exact ih2 _ _)
      | (with_reducible exact impl_Log2.mono _ _)
      | (with_reducible exact impl_Strength.mono _ _ _ _ _)
      | (with_reducible exact impl_Weight.mono _ _ _)
      | (with_reducible exact spec_DrawLog2.mono _ _)
      | (with_reducible exact spec_Log2.mono _ _)
      | (with_reducible exact spec_Strength.mono _ _ _ _ _)
      | (with_reducible exact spec_Weight.mono _ _ _)
      | (with_reducible exact LeO.refl _)
      | (with_reducible exact LeO.none _)
      | (with_reducible refine LeO.ite ?_ ?_)
      | (with_reducible refine LeO.bind ?_ (fun _ => ?_))
      | exact ih0 _ _ _
      | exact ih1 _ _ _ _
      | exact ih2 _ _
      | exact impl_Log2.mono _ _
      | exact impl_Strength.mono _ _ _ _ _
      | exact impl_Weight.mono _ _ _
      | exact spec_DrawLog2.mono _ _
      | exact spec_Log2.mono _ _
      | exact spec_Strength.mono _ _ _ _ _
      | exact spec_Weight.mono _ _ _
      | exact LeO.none _
      | refine LeO.ite ?_ ?_
      | refine LeO.bind ?_ (fun _ => ?_)
    · intro y0 y1
      unfold laws_FnWeights.j2
      repeat' first
      | (with_reducible exact ih0 _ _ _)
      | (with_reducible exact ih1 _ _ _ _)
      | (with_reducible exact ih2 _ _)
      | (with_reducible exact impl_Log2.mono _ _)
      | (with_reducible exact impl_Strength.mono _ _ _ _ _)
      | (with_reducible exact impl_Weight.mono _ _ _)
      | (with_reducible exact spec_DrawLog2.mono _ _)
      | (with_reducible exact spec_Log2.mono _ _)
      | (with_reducible exact spec_Strength.mono _ _ _ _ _)
      | (with_reducible exact spec_Weight.mono _ _ _)
      | (with_reducible exact LeO.refl _)
      | (with_reducible exact LeO.none _)
      | (with_reducible refine LeO.ite ?_ ?_)
      | (with_reducible refine LeO.bind ?_ (fun _ => ?_))
      | exact ih0 _ _ _
      | exact ih1 _ _ _ _
      | exact ih2 _ _
      | exact impl_Log2.mono _ _
      | exact impl_Strength.mono _ _ _ _ _
      | exact impl_Weight.mono _ _ _
      | exact spec_DrawLog2.mono _ _
      | exact spec_Log2.mono _ _
      | exact spec_Strength.mono _ _ _ _ _
      | exact spec_Weight.mono _ _ _
      | exact LeO.none _
      | refine LeO.ite ?_ ?_
      | refine LeO.bind ?_ (fun _ => ?_)
theorem laws_FnWeights.mono : ∀ a0 k, LeO (laws_FnWeights.f k a0) (laws_FnWeights.f (k + 1) a0) := by
  intro a0 k
  obtain ⟨ih0, ih1, ih2⟩ := laws_FnWeights.mono_l k
  unfold laws_FnWeights.f
  repeat' first
      | (with_reducible exact ih0 _ _ _)
      | (with_reducible exact ih1 _ _ _ _)
      | (with_reducible exact ih2 _ _)
      | (with_reducible exact impl_Log2.mono _ _)
      | (with_reducible exact impl_Strength.mono _ _ _ _ _)
      | (with_reducible exact impl_Weight.mono _ _ _)
      | (with_reducible exact spec_DrawLog2.mono _ _)
      | (with_reducible exact spec_Log2.mono _ _)
      | (with_reducible exact spec_Strength.mono _ _ _ _ _)
      | (with_reducible exact spec_Weight.mono _ _ _)
      | (with_reducible exact LeO.refl _)
      | (with_reducible exact LeO.none _)
      | (with_reducible refine LeO.ite ?_ ?_)
      | (with_reducible refine LeO.bind ?_ (fun _ => ?_))
      | exact ih0 _ _ _
      | exact ih1 _ _ _ _
      | exact ih2 _ _
      | exact impl_Log2.mono _ _
      | exact impl_Strength.mono _ _ _ _ _
      | exact impl_Weight.mono _ _ _
      | exact spec_DrawLog2.mono _ _
      | exact spec_Log2.mono _ _
      | exact spec_Strength.mono _ _ _ _ _
      | exact spec_Weight.mono _ _ _
      | exact LeO.none _
      | refine LeO.ite ?_ ?_
      | refine LeO.bind ?_ (fun _ => ?_)
set_option maxHeartbeats 8000000 in
set_option maxRecDepth 100000 in
theorem laws_FnWeights.calls (k : Nat) (A0 : Option Addr) (c0 : Nat) (l0 : List Int) (r : Bool) (w : World) (hr0 : Kd.C (Kd.int .u8) w A0 l0.length l0) (hc0 : l0.length ≤ c0) (h : laws_FnWeights.f k l0 = some r) :
    Calls Try.prog 8 #[.slice A0 l0.length c0] w fun e w' => e = .returned (.bool r) ∧ Below w.heap.size w w' := by
  have HR0 := Aside0.mk hr0
  have HC0 := Aside0.mk hc0
  clear hr0 hc0
  have HB := Aside0.mk (Below.refl w.heap.size w)
  have H : (if (l0.length : Int) > 1048576 then (some true) else ((laws_at.f l0 0 60).bind fun t181 => (laws_FnWeights.l0 k l0 (wrap64 (1 + t181)) 0))) = some r := h
  clear h
  by_cases c2 : (l0.length : Int) > 1048576
  · rw [if_pos c2] at H
    have c2b0 : decide (1048576 < (l0.length : Int)) = true := decide_eq_true c2
    have c2b1 : decide (1048576 < l0.length) = true := decide_eq_true (by omega)
    clear c2
    obtain rfl := Option.some.inj H
    go_enter Try.func8, Try.ntmps8
    go_wp2
    go_ret
    exact ⟨by first | rfl | (simp [errW_none, errW_some] <;> rfl) | (simp [*, errW_none, errW_some] <;> rfl), by repeat (first | (with_reducible first | exact HB.out | apply below_alloc | apply pw_below_drewN | apply below_drew1) | exact HB.out)⟩
  · rw [if_neg c2] at H
    have c2b0 : decide (1048576 < (l0.length : Int)) = false := decide_eq_false c2
    have c2b1 : decide (1048576 < l0.length) = false := decide_eq_false (by omega)
    clear c2
    replace H := Option.bind_eq_some_iff.mp H
    obtain ⟨t181, A30, H⟩ := H
    replace H : (laws_FnWeights.l0 k l0 (wrap64 (1 + t181)) 0) = some r := H
    have A3 := Aside0.mk A30
    clear A30
    have H' := Aside0.mk H
    clear H
    go_enter Try.func8, Try.ntmps8
    go_wp2_with (first | ((with_reducible refine gate_callee (f := 35) rfl ?_); refine goesL_ (some 15) rfl rfl Try.func35 (by kernel_rfl) rfl #[.slice A0 l0.length c0, .int .i64 0, .int .i64 60] rfl (by (try simp only [List.map_toArray, List.map_cons, List.map_nil]); first | done | rfl | (simp only [List.length_drop, List.length_take]; rfl)) ?_; (with_reducible refine (laws_at.calls _ _ l0 0 60 t181 _ ?side1 ?side2 A3.out).mono ?_); (case side1 => repeat (first | exact HR0.out | (with_reducible refine Kd.C_alloc ?_ _) | (with_reducible refine Kd.C_drewN ?_ _) | (with_reducible refine Kd.C_drew ?_))); (case side2 => exact HC0.out); rintro e w' ⟨rfl, ⟨nd, rfl⟩⟩; refine ⟨_, rfl, ?_⟩))
    go_loopg [4] k (fun kq v4 w' => ∃ (x4_1 : Int), v4 = .int .i64 x4_1 ∧ Aside0 (laws_FnWeights.l0 kq l0 (wrap64 (1 + t181)) x4_1 = some r) ∧ Aside0 (kq ≤ k) ∧ Aside0 (Below w.heap.size w w'))
    case atStart => exact ⟨(0), (by first | rfl | (simp; done) | (simp [*]; done)), H', ⟨Nat.le_refl _⟩, ⟨by repeat (first | (with_reducible first | exact HB.out | apply below_alloc | apply pw_below_drewN | apply below_drew1) | exact HB.out)⟩⟩
    case round =>
      clear H'
      try clear c2
      try clear c2b0
      try clear c2b1
      try clear p2
      try clear c3
      obtain ⟨x4_1, rfl, HA, HK1, HB⟩ := hrel
      cases gk with
      | zero => exact absurd HA.out (by simp [laws_FnWeights.l0])
      | succ k1 =>
        have H := HA.out
        clear HA
        simp only [laws_FnWeights.l0] at H
        by_cases c4 : x4_1 ≤ (wrap64 (1 + t181))
        · rw [if_pos c4] at H
          have c4b0 : decide (x4_1 ≤ (wrap64 (1 + t181))) = true := decide_eq_true c4
          clear c4
          replace H := Option.bind_eq_some_iff.mp H
          obtain ⟨t182, A50, H⟩ := H
          replace H : ((spec_Weight.f k1 (wrap64 (1 + t181)) x4_1).bind fun t183 => (if t182 = t183 then (if t182 < 0 then (some false) else (if x4_1 > 0 then ((impl_Weight.f k1 (wrap64 (1 + t181)) (wrap64 (x4_1 - 1))).bind fun t184 => (if t182 > t184 then (some false) else (laws_FnWeights.l0 k1 l0 (wrap64 (1 + t181)) (wrap64 (x4_1 + 1))))) else (laws_FnWeights.l0 k1 l0 (wrap64 (1 + t181)) (wrap64 (x4_1 + 1))))) else (some false))) = some r := H
          have A5 := Aside0.mk A50
          clear A50
          replace H := Option.bind_eq_some_iff.mp H
          obtain ⟨t183, A60, H⟩ := H
          replace H : (if t182 = t183 then (if t182 < 0 then (some false) else (if x4_1 > 0 then ((impl_Weight.f k1 (wrap64 (1 + t181)) (wrap64 (x4_1 - 1))).bind fun t184 => (if t182 > t184 then (some false) else (laws_FnWeights.l0 k1 l0 (wrap64 (1 + t181)) (wrap64 (x4_1 + 1))))) else (laws_FnWeights.l0 k1 l0 (wrap64 (1 + t181)) (wrap64 (x4_1 + 1))))) else (some false)) = some r := H
          have A6 := Aside0.mk A60
          clear A60
          by_cases c7 : t182 = t183
          · rw [if_pos c7] at H
            have c7b0 : (t182 == t183) = true := beq_iff_eq.mpr c7
            have c7b1 : (t182 != t183) = false := bne_eq_false_iff_eq.mpr c7
            clear c7
            by_cases c8 : t182 < 0
            · rw [if_pos c8] at H
              have c8b0 : decide (t182 < 0) = true := decide_eq_true c8
              clear c8
              obtain rfl := Option.some.inj H
              go_wp2_with (first | ((with_reducible refine gate_callee (f := 36) rfl ?_); refine goesL_ (some 24) rfl rfl Try.func36 (by kernel_rfl) rfl #[.int .i64 (wrap64 (1 + t181)), .int .i64 x4_1] rfl (by (try simp only [List.map_toArray, List.map_cons, List.map_nil]); first | done | rfl | (simp only [List.length_drop, List.length_take]; rfl)) ?_; (with_reducible refine (impl_Weight.calls k1 (wrap64 (1 + t181)) x4_1 t182 _ A5.out).mono ?_); rintro e w' ⟨rfl, ⟨nd, rfl⟩⟩; refine ⟨_, rfl, ?_⟩) | ((with_reducible refine gate_callee (f := 37) rfl ?_); refine goesL_ (some 28) rfl rfl Try.func37 (by kernel_rfl) rfl #[.int .i64 (wrap64 (1 + t181)), .int .i64 x4_1] rfl (by (try simp only [List.map_toArray, List.map_cons, List.map_nil]); first | done | rfl | (simp only [List.length_drop, List.length_take]; rfl)) ?_; (with_reducible refine (spec_Weight.calls k1 (wrap64 (1 + t181)) x4_1 t183 _ A6.out).mono ?_); rintro e w' ⟨rfl, ⟨nd, rfl⟩⟩; refine ⟨_, rfl, ?_⟩))
              go_ret
              exact ⟨by first | rfl | (simp [errW_none, errW_some] <;> rfl) | (simp [*, errW_none, errW_some] <;> rfl), by repeat (first | (with_reducible first | exact HB.out | apply below_alloc | apply pw_below_drewN | apply below_drew1) | exact HB.out)⟩
            · rw [if_neg c8] at H
              have c8b0 : decide (t182 < 0) = false := decide_eq_false c8
              clear c8
              by_cases c9 : x4_1 > 0
              · rw [if_pos c9] at H
                have c9b0 : decide (0 < x4_1) = true := decide_eq_true c9
                clear c9
                replace H := Option.bind_eq_some_iff.mp H
                obtain ⟨t184, A100, H⟩ := H
                replace H : (if t182 > t184 then (some false) else (laws_FnWeights.l0 k1 l0 (wrap64 (1 + t181)) (wrap64 (x4_1 + 1)))) = some r := H
                have A10 := Aside0.mk A100
                clear A100
                by_cases c11 : t182 > t184
                · rw [if_pos c11] at H
                  have c11b0 : decide (t184 < t182) = true := decide_eq_true c11
                  clear c11
                  obtain rfl := Option.some.inj H
                  go_wp2_with (first | ((with_reducible refine gate_callee (f := 36) rfl ?_); refine goesL_ (some 24) rfl rfl Try.func36 (by kernel_rfl) rfl #[.int .i64 (wrap64 (1 + t181)), .int .i64 x4_1] rfl (by (try simp only [List.map_toArray, List.map_cons, List.map_nil]); first | done | rfl | (simp only [List.length_drop, List.length_take]; rfl)) ?_; (with_reducible refine (impl_Weight.calls k1 (wrap64 (1 + t181)) x4_1 t182 _ A5.out).mono ?_); rintro e w' ⟨rfl, ⟨nd, rfl⟩⟩; refine ⟨_, rfl, ?_⟩) | ((with_reducible refine gate_callee (f := 37) rfl ?_); refine goesL_ (some 28) rfl rfl Try.func37 (by kernel_rfl) rfl #[.int .i64 (wrap64 (1 + t181)), .int .i64 x4_1] rfl (by (try simp only [List.map_toArray, List.map_cons, List.map_nil]); first | done | rfl | (simp only [List.length_drop, List.length_take]; rfl)) ?_; (with_reducible refine (spec_Weight.calls k1 (wrap64 (1 + t181)) x4_1 t183 _ A6.out).mono ?_); rintro e w' ⟨rfl, ⟨nd, rfl⟩⟩; refine ⟨_, rfl, ?_⟩) | (go_at_call 36; (with_reducible refine (impl_Weight.calls k1 (wrap64 (1 + t181)) (wrap64 (x4_1 - 1)) t184 _ A10.out).mono ?_); rintro e w' ⟨rfl, ⟨nd, rfl⟩⟩))
                  go_ret
                  exact ⟨by first | rfl | (simp [errW_none, errW_some] <;> rfl) | (simp [*, errW_none, errW_some] <;> rfl), by repeat (first | (with_reducible first | exact HB.out | apply below_alloc | apply pw_below_drewN | apply below_drew1) | exact HB.out)⟩
                · rw [if_neg c11] at H
                  have c11b0 : decide (t184 < t182) = false := decide_eq_false c11
                  clear c11
                  have H' := Aside0.mk H
                  clear H
                  go_wp2_with (first | ((with_reducible refine gate_callee (f := 36) rfl ?_); refine goesL_ (some 24) rfl rfl Try.func36 (by kernel_rfl) rfl #[.int .i64 (wrap64 (1 + t181)), .int .i64 x4_1] rfl (by (try simp only [List.map_toArray, List.map_cons, List.map_nil]); first | done | rfl | (simp only [List.length_drop, List.length_take]; rfl)) ?_; (with_reducible refine (impl_Weight.calls k1 (wrap64 (1 + t181)) x4_1 t182 _ A5.out).mono ?_); rintro e w' ⟨rfl, ⟨nd, rfl⟩⟩; refine ⟨_, rfl, ?_⟩) | ((with_reducible refine gate_callee (f := 37) rfl ?_); refine goesL_ (some 28) rfl rfl Try.func37 (by kernel_rfl) rfl #[.int .i64 (wrap64 (1 + t181)), .int .i64 x4_1] rfl (by (try simp only [List.map_toArray, List.map_cons, List.map_nil]); first | done | rfl | (simp only [List.length_drop, List.length_take]; rfl)) ?_; (with_reducible refine (spec_Weight.calls k1 (wrap64 (1 + t181)) x4_1 t183 _ A6.out).mono ?_); rintro e w' ⟨rfl, ⟨nd, rfl⟩⟩; refine ⟨_, rfl, ?_⟩) | (go_at_call 36; (with_reducible refine (impl_Weight.calls k1 (wrap64 (1 + t181)) (wrap64 (x4_1 - 1)) t184 _ A10.out).mono ?_); rintro e w' ⟨rfl, ⟨nd, rfl⟩⟩))
                  go_roundg k1
                  case measure => have := HK1.out; omega
                  case rel => exact ⟨(wrap64 (x4_1 + 1)), (by first | rfl | (simp; done) | (simp [*]; done)), H', ⟨by have := HK1.out; omega⟩, ⟨by repeat (first | (with_reducible first | exact HB.out | apply below_alloc | apply pw_below_drewN | apply below_drew1) | exact HB.out)⟩⟩
              · rw [if_neg c9] at H
                have c9b0 : decide (0 < x4_1) = false := decide_eq_false c9
                clear c9
                have H' := Aside0.mk H
                clear H
                go_wp2_with (first | ((with_reducible refine gate_callee (f := 36) rfl ?_); refine goesL_ (some 24) rfl rfl Try.func36 (by kernel_rfl) rfl #[.int .i64 (wrap64 (1 + t181)), .int .i64 x4_1] rfl (by (try simp only [List.map_toArray, List.map_cons, List.map_nil]); first | done | rfl | (simp only [List.length_drop, List.length_take]; rfl)) ?_; (with_reducible refine (impl_Weight.calls k1 (wrap64 (1 + t181)) x4_1 t182 _ A5.out).mono ?_); rintro e w' ⟨rfl, ⟨nd, rfl⟩⟩; refine ⟨_, rfl, ?_⟩) | ((with_reducible refine gate_callee (f := 37) rfl ?_); refine goesL_ (some 28) rfl rfl Try.func37 (by kernel_rfl) rfl #[.int .i64 (wrap64 (1 + t181)), .int .i64 x4_1] rfl (by (try simp only [List.map_toArray, List.map_cons, List.map_nil]); first | done | rfl | (simp only [List.length_drop, List.length_take]; rfl)) ?_; (with_reducible refine (spec_Weight.calls k1 (wrap64 (1 + t181)) x4_1 t183 _ A6.out).mono ?_); rintro e w' ⟨rfl, ⟨nd, rfl⟩⟩; refine ⟨_, rfl, ?_⟩))
                go_roundg k1
                case measure => have := HK1.out; omega
                case rel => exact ⟨(wrap64 (x4_1 + 1)), (by first | rfl | (simp; done) | (simp [*]; done)), H', ⟨by have := HK1.out; omega⟩, ⟨by repeat (first | (with_reducible first | exact HB.out | apply below_alloc | apply pw_below_drewN | apply below_drew1) | exact HB.out)⟩⟩
          · rw [if_neg c7] at H
            have c7b0 : (t182 == t183) = false := beq_eq_false_iff_ne.mpr c7
            have c7b1 : (t182 != t183) = true := bne_iff_ne.mpr c7
            obtain rfl := Option.some.inj H
            go_wp2_with (first | ((with_reducible refine gate_callee (f := 36) rfl ?_); refine goesL_ (some 24) rfl rfl Try.func36 (by kernel_rfl) rfl #[.int .i64 (wrap64 (1 + t181)), .int .i64 x4_1] rfl (by (try simp only [List.map_toArray, List.map_cons, List.map_nil]); first | done | rfl | (simp only [List.length_drop, List.length_take]; rfl)) ?_; (with_reducible refine (impl_Weight.calls k1 (wrap64 (1 + t181)) x4_1 t182 _ A5.out).mono ?_); rintro e w' ⟨rfl, ⟨nd, rfl⟩⟩; refine ⟨_, rfl, ?_⟩) | ((with_reducible refine gate_callee (f := 37) rfl ?_); refine goesL_ (some 28) rfl rfl Try.func37 (by kernel_rfl) rfl #[.int .i64 (wrap64 (1 + t181)), .int .i64 x4_1] rfl (by (try simp only [List.map_toArray, List.map_cons, List.map_nil]); first | done | rfl | (simp only [List.length_drop, List.length_take]; rfl)) ?_; (with_reducible refine (spec_Weight.calls k1 (wrap64 (1 + t181)) x4_1 t183 _ A6.out).mono ?_); rintro e w' ⟨rfl, ⟨nd, rfl⟩⟩; refine ⟨_, rfl, ?_⟩))
            go_ret
            exact ⟨by first | rfl | (simp [errW_none, errW_some] <;> rfl) | (simp [*, errW_none, errW_some] <;> rfl), by repeat (first | (with_reducible first | exact HB.out | apply below_alloc | apply pw_below_drewN | apply below_drew1) | exact HB.out)⟩
        · rw [if_neg c4] at H
          have c4b0 : decide (x4_1 ≤ (wrap64 (1 + t181))) = false := decide_eq_false c4
          clear c4
          replace H := Option.bind_eq_some_iff.mp H
          obtain ⟨t185, A120, H⟩ := H
          replace H : (laws_FnWeights.l1 k1 l0 (wrap64 (1 + t181)) (wrap64 (1 + t185)) 1) = some r := H
          have A12 := Aside0.mk A120
          clear A120
          have H' := Aside0.mk H
          clear H
          go_wp2_with (first | ((with_reducible refine gate_callee (f := 35) rfl ?_); refine goesL_ (some 47) rfl rfl Try.func35 (by kernel_rfl) rfl #[.slice A0 l0.length c0, .int .i64 1, .int .i64 200] rfl (by (try simp only [List.map_toArray, List.map_cons, List.map_nil]); first | done | rfl | (simp only [List.length_drop, List.length_take]; rfl)) ?_; (with_reducible refine (laws_at.calls _ _ l0 1 200 t185 _ ?side1 ?side2 A12.out).mono ?_); (case side1 => repeat (first | exact (Kd.C_below HR0.out HB.out) | (with_reducible refine Kd.C_alloc ?_ _) | (with_reducible refine Kd.C_drewN ?_ _) | (with_reducible refine Kd.C_drew ?_))); (case side2 => exact HC0.out); rintro e w' ⟨rfl, ⟨nd, rfl⟩⟩; refine ⟨_, rfl, ?_⟩))
          go_loopg [7] k1 (fun kq v7 w' => ∃ (x7_2 : Int), v7 = .int .i64 x7_2 ∧ Aside0 (laws_FnWeights.l1 kq l0 (wrap64 (1 + t181)) (wrap64 (1 + t185)) x7_2 = some r) ∧ Aside0 (kq ≤ k1) ∧ Aside0 (Below w.heap.size w w'))
          case atStart => exact ⟨(1), (by first | rfl | (simp; done) | (simp [*]; done)), H', ⟨Nat.le_refl _⟩, ⟨by repeat (first | (with_reducible first | exact HB.out | apply below_alloc | apply pw_below_drewN | apply below_drew1) | exact HB.out)⟩⟩
          case round =>
            clear H'
            try clear c1
            try clear c2
            try clear c2b0
            try clear c2b1
            try clear p2
            try clear c3
            try clear c4
            try clear c4b0
            try clear p6
            try clear c7
            try clear c7b0
            try clear c7b1
            try clear c8
            try clear c8b0
            try clear c9
            try clear c9b0
            try clear c11
            try clear c11b0
            try clear p2
            obtain ⟨x7_2, rfl, HA, HK2, HB⟩ := hrel
            cases gk with
            | zero => exact absurd HA.out (by simp [laws_FnWeights.l1])
            | succ k2 =>
              have H := HA.out
              clear HA
              simp only [laws_FnWeights.l1] at H
              by_cases c13 : x7_2 < 20
              · rw [if_pos c13] at H
                have c13b0 : decide (x7_2 < 20) = true := decide_eq_true c13
                clear c13
                replace H := Option.bind_eq_some_iff.mp H
                obtain ⟨t186, A140, H⟩ := H
                replace H : ((spec_Strength.f k2 x7_2 (wrap64 (1 + t185)) (wrap64 (1 + t181)) (wrap64 (50 * (wrap64 (1 + t181))))).bind fun t187 => (if t186 = t187 then ((impl_Strength.f k2 (wrap64 (x7_2 + 1)) (wrap64 (1 + t185)) (wrap64 (1 + t181)) (wrap64 (50 * (wrap64 (1 + t181))))).bind fun t188 => (if t186 > t188 then (some false) else ((impl_Strength.f k2 x7_2 (wrap64 ((wrap64 (1 + t185)) + 7)) (wrap64 (1 + t181)) (wrap64 (50 * (wrap64 (1 + t181))))).bind fun t189 => (if t186 < t189 then (some false) else (laws_FnWeights.l1 k2 l0 (wrap64 (1 + t181)) (wrap64 (1 + t185)) (wrap64 (x7_2 + 1))))))) else (some false))) = some r := H
                have A14 := Aside0.mk A140
                clear A140
                replace H := Option.bind_eq_some_iff.mp H
                obtain ⟨t187, A150, H⟩ := H
                replace H : (if t186 = t187 then ((impl_Strength.f k2 (wrap64 (x7_2 + 1)) (wrap64 (1 + t185)) (wrap64 (1 + t181)) (wrap64 (50 * (wrap64 (1 + t181))))).bind fun t188 => (if t186 > t188 then (some false) else ((impl_Strength.f k2 x7_2 (wrap64 ((wrap64 (1 + t185)) + 7)) (wrap64 (1 + t181)) (wrap64 (50 * (wrap64 (1 + t181))))).bind fun t189 => (if t186 < t189 then (some false) else (laws_FnWeights.l1 k2 l0 (wrap64 (1 + t181)) (wrap64 (1 + t185)) (wrap64 (x7_2 + 1))))))) else (some false)) = some r := H
                have A15 := Aside0.mk A150
                clear A150
                by_cases c16 : t186 = t187
                · rw [if_pos c16] at H
                  have c16b0 : (t186 == t187) = true := beq_iff_eq.mpr c16
                  have c16b1 : (t186 != t187) = false := bne_eq_false_iff_eq.mpr c16
                  clear c16
                  replace H := Option.bind_eq_some_iff.mp H
                  obtain ⟨t188, A170, H⟩ := H
                  replace H : (if t186 > t188 then (some false) else ((impl_Strength.f k2 x7_2 (wrap64 ((wrap64 (1 + t185)) + 7)) (wrap64 (1 + t181)) (wrap64 (50 * (wrap64 (1 + t181))))).bind fun t189 => (if t186 < t189 then (some false) else (laws_FnWeights.l1 k2 l0 (wrap64 (1 + t181)) (wrap64 (1 + t185)) (wrap64 (x7_2 + 1)))))) = some r := H
                  have A17 := Aside0.mk A170
                  clear A170
                  by_cases c18 : t186 > t188
                  · rw [if_pos c18] at H
                    have c18b0 : decide (t188 < t186) = true := decide_eq_true c18
                    clear c18
                    obtain rfl := Option.some.inj H
                    go_wp2_with (first | ((with_reducible refine gate_callee (f := 38) rfl ?_); refine goesL_ (some 58) rfl rfl Try.func38 (by kernel_rfl) rfl #[.int .i64 x7_2, .int .i64 (wrap64 (1 + t185)), .int .i64 (wrap64 (1 + t181)), .int .i64 (wrap64 (50 * (wrap64 (1 + t181))))] rfl (by (try simp only [List.map_toArray, List.map_cons, List.map_nil]); first | done | rfl | (simp only [List.length_drop, List.length_take]; rfl)) ?_; (with_reducible refine (impl_Strength.calls k2 x7_2 (wrap64 (1 + t185)) (wrap64 (1 + t181)) (wrap64 (50 * (wrap64 (1 + t181)))) t186 _ A14.out).mono ?_); rintro e w' ⟨rfl, ⟨nd, rfl⟩⟩; refine ⟨_, rfl, ?_⟩) | ((with_reducible refine gate_callee (f := 39) rfl ?_); refine goesL_ (some 65) rfl rfl Try.func39 (by kernel_rfl) rfl #[.int .i64 x7_2, .int .i64 (wrap64 (1 + t185)), .int .i64 (wrap64 (1 + t181)), .int .i64 (wrap64 (50 * (wrap64 (1 + t181))))] rfl (by (try simp only [List.map_toArray, List.map_cons, List.map_nil]); first | done | rfl | (simp only [List.length_drop, List.length_take]; rfl)) ?_; (with_reducible refine (spec_Strength.calls k2 x7_2 (wrap64 (1 + t185)) (wrap64 (1 + t181)) (wrap64 (50 * (wrap64 (1 + t181)))) t187 _ A15.out).mono ?_); rintro e w' ⟨rfl, ⟨nd, rfl⟩⟩; refine ⟨_, rfl, ?_⟩) | (go_at_call 38; (with_reducible refine (impl_Strength.calls k2 (wrap64 (x7_2 + 1)) (wrap64 (1 + t185)) (wrap64 (1 + t181)) (wrap64 (50 * (wrap64 (1 + t181)))) t188 _ A17.out).mono ?_); rintro e w' ⟨rfl, ⟨nd, rfl⟩⟩))
                    go_ret
                    exact ⟨by first | rfl | (simp [errW_none, errW_some] <;> rfl) | (simp [*, errW_none, errW_some] <;> rfl), by repeat (first | (with_reducible first | exact HB.out | apply below_alloc | apply pw_below_drewN | apply below_drew1) | exact HB.out)⟩
                  · rw [if_neg c18] at H
                    have c18b0 : decide (t188 < t186) = false := decide_eq_false c18
                    clear c18
                    replace H := Option.bind_eq_some_iff.mp H
                    obtain ⟨t189, A190, H⟩ := H
                    replace H : (if t186 < t189 then (some false) else (laws_FnWeights.l1 k2 l0 (wrap64 (1 + t181)) (wrap64 (1 + t185)) (wrap64 (x7_2 + 1)))) = some r := H
                    have A19 := Aside0.mk A190
                    clear A190
                    by_cases c20 : t186 < t189
                    · rw [if_pos c20] at H
                      have c20b0 : decide (t186 < t189) = true := decide_eq_true c20
                      clear c20
                      obtain rfl := Option.some.inj H
                      go_wp2_with (first | ((with_reducible refine gate_callee (f := 38) rfl ?_); refine goesL_ (some 58) rfl rfl Try.func38 (by kernel_rfl) rfl #[.int .i64 x7_2, .int .i64 (wrap64 (1 + t185)), .int .i64 (wrap64 (1 + t181)), .int .i64 (wrap64 (50 * (wrap64 (1 + t181))))] rfl (by (try simp only [List.map_toArray, List.map_cons, List.map_nil]); first | done | rfl | (simp only [List.length_drop, List.length_take]; rfl)) ?_; (with_reducible refine (impl_Strength.calls k2 x7_2 (wrap64 (1 + t185)) (wrap64 (1 + t181)) (wrap64 (50 * (wrap64 (1 + t181)))) t186 _ A14.out).mono ?_); rintro e w' ⟨rfl, ⟨nd, rfl⟩⟩; refine ⟨_, rfl, ?_⟩) | ((with_reducible refine gate_callee (f := 39) rfl ?_); refine goesL_ (some 65) rfl rfl Try.func39 (by kernel_rfl) rfl #[.int .i64 x7_2, .int .i64 (wrap64 (1 + t185)), .int .i64 (wrap64 (1 + t181)), .int .i64 (wrap64 (50 * (wrap64 (1 + t181))))] rfl (by (try simp only [List.map_toArray, List.map_cons, List.map_nil]); first | done | rfl | (simp only [List.length_drop, List.length_take]; rfl)) ?_; (with_reducible refine (spec_Strength.calls k2 x7_2 (wrap64 (1 + t185)) (wrap64 (1 + t181)) (wrap64 (50 * (wrap64 (1 + t181)))) t187 _ A15.out).mono ?_); rintro e w' ⟨rfl, ⟨nd, rfl⟩⟩; refine ⟨_, rfl, ?_⟩) | (go_at_call 38; (with_reducible refine (impl_Strength.calls k2 (wrap64 (x7_2 + 1)) (wrap64 (1 + t185)) (wrap64 (1 + t181)) (wrap64 (50 * (wrap64 (1 + t181)))) t188 _ A17.out).mono ?_); rintro e w' ⟨rfl, ⟨nd, rfl⟩⟩) | (go_at_call 38; (with_reducible refine (impl_Strength.calls k2 x7_2 (wrap64 ((wrap64 (1 + t185)) + 7)) (wrap64 (1 + t181)) (wrap64 (50 * (wrap64 (1 + t181)))) t189 _ A19.out).mono ?_); rintro e w' ⟨rfl, ⟨nd, rfl⟩⟩))
                      go_ret
                      exact ⟨by first | rfl | (simp [errW_none, errW_some] <;> rfl) | (simp [*, errW_none, errW_some] <;> rfl), by repeat (first | (with_reducible first | exact HB.out | apply below_alloc | apply pw_below_drewN | apply below_drew1) | exact HB.out)⟩
                    · rw [if_neg c20] at H
                      have c20b0 : decide (t186 < t189) = false := decide_eq_false c20
                      clear c20
                      have H' := Aside0.mk H
                      clear H
                      go_wp2_with (first | ((with_reducible refine gate_callee (f := 38) rfl ?_); refine goesL_ (some 58) rfl rfl Try.func38 (by kernel_rfl) rfl #[.int .i64 x7_2, .int .i64 (wrap64 (1 + t185)), .int .i64 (wrap64 (1 + t181)), .int .i64 (wrap64 (50 * (wrap64 (1 + t181))))] rfl (by (try simp only [List.map_toArray, List.map_cons, List.map_nil]); first | done | rfl | (simp only [List.length_drop, List.length_take]; rfl)) ?_; (with_reducible refine (impl_Strength.calls k2 x7_2 (wrap64 (1 + t185)) (wrap64 (1 + t181)) (wrap64 (50 * (wrap64 (1 + t181)))) t186 _ A14.out).mono ?_); rintro e w' ⟨rfl, ⟨nd, rfl⟩⟩; refine ⟨_, rfl, ?_⟩) | ((with_reducible refine gate_callee (f := 39) rfl ?_); refine goesL_ (some 65) rfl rfl Try.func39 (by kernel_rfl) rfl #[.int .i64 x7_2, .int .i64 (wrap64 (1 + t185)), .int .i64 (wrap64 (1 + t181)), .int .i64 (wrap64 (50 * (wrap64 (1 + t181))))] rfl (by (try simp only [List.map_toArray, List.map_cons, List.map_nil]); first | done | rfl | (simp only [List.length_drop, List.length_take]; rfl)) ?_; (with_reducible refine (spec_Strength.calls k2 x7_2 (wrap64 (1 + t185)) (wrap64 (1 + t181)) (wrap64 (50 * (wrap64 (1 + t181)))) t187 _ A15.out).mono ?_); rintro e w' ⟨rfl, ⟨nd, rfl⟩⟩; refine ⟨_, rfl, ?_⟩) | (go_at_call 38; (with_reducible refine (impl_Strength.calls k2 (wrap64 (x7_2 + 1)) (wrap64 (1 + t185)) (wrap64 (1 + t181)) (wrap64 (50 * (wrap64 (1 + t181)))) t188 _ A17.out).mono ?_); rintro e w' ⟨rfl, ⟨nd, rfl⟩⟩) | (go_at_call 38; (with_reducible refine (impl_Strength.calls k2 x7_2 (wrap64 ((wrap64 (1 + t185)) + 7)) (wrap64 (1 + t181)) (wrap64 (50 * (wrap64 (1 + t181)))) t189 _ A19.out).mono ?_); rintro e w' ⟨rfl, ⟨nd, rfl⟩⟩))
                      go_roundg k2
                      case measure => have := HK1.out; have := HK2.out; omega
                      case rel => exact ⟨(wrap64 (x7_2 + 1)), (by first | rfl | (simp; done) | (simp [*]; done)), H', ⟨by have := HK1.out; have := HK2.out; omega⟩, ⟨by repeat (first | (with_reducible first | exact HB.out | apply below_alloc | apply pw_below_drewN | apply below_drew1) | exact HB.out)⟩⟩
                · rw [if_neg c16] at H
                  have c16b0 : (t186 == t187) = false := beq_eq_false_iff_ne.mpr c16
                  have c16b1 : (t186 != t187) = true := bne_iff_ne.mpr c16
                  obtain rfl := Option.some.inj H
                  go_wp2_with (first | ((with_reducible refine gate_callee (f := 38) rfl ?_); refine goesL_ (some 58) rfl rfl Try.func38 (by kernel_rfl) rfl #[.int .i64 x7_2, .int .i64 (wrap64 (1 + t185)), .int .i64 (wrap64 (1 + t181)), .int .i64 (wrap64 (50 * (wrap64 (1 + t181))))] rfl (by (try simp only [List.map_toArray, List.map_cons, List.map_nil]); first | done | rfl | (simp only [List.length_drop, List.length_take]; rfl)) ?_; (with_reducible refine (impl_Strength.calls k2 x7_2 (wrap64 (1 + t185)) (wrap64 (1 + t181)) (wrap64 (50 * (wrap64 (1 + t181)))) t186 _ A14.out).mono ?_); rintro e w' ⟨rfl, ⟨nd, rfl⟩⟩; refine ⟨_, rfl, ?_⟩) | ((with_reducible refine gate_callee (f := 39) rfl ?_); refine goesL_ (some 65) rfl rfl Try.func39 (by kernel_rfl) rfl #[.int .i64 x7_2, .int .i64 (wrap64 (1 + t185)), .int .i64 (wrap64 (1 + t181)), .int .i64 (wrap64 (50 * (wrap64 (1 + t181))))] rfl (by (try simp only [List.map_toArray, List.map_cons, List.map_nil]); first | done | rfl | (simp only [List.length_drop, List.length_take]; rfl)) ?_; (with_reducible refine (spec_Strength.calls k2 x7_2 (wrap64 (1 + t185)) (wrap64 (1 + t181)) (wrap64 (50 * (wrap64 (1 + t181)))) t187 _ A15.out).mono ?_); rintro e w' ⟨rfl, ⟨nd, rfl⟩⟩; refine ⟨_, rfl, ?_⟩))
                  go_ret
                  exact ⟨by first | rfl | (simp [errW_none, errW_some] <;> rfl) | (simp [*, errW_none, errW_some] <;> rfl), by repeat (first | (with_reducible first | exact HB.out | apply below_alloc | apply pw_below_drewN | apply below_drew1) | exact HB.out)⟩
              · rw [if_neg c13] at H
                have c13b0 : decide (x7_2 < 20) = false := decide_eq_false c13
                clear c13
                replace H := Option.bind_eq_some_iff.mp H
                obtain ⟨t190, A210, H⟩ := H
                replace H : (if t190 < 1 then (laws_FnWeights.j2 k2 t190 true) else (laws_FnWeights.j2 k2 t190 (decide (t190 > 2305843009213693951)))) = some r := H
                have A21 := Aside0.mk A210
                clear A210
                have HC22 := Aside0.mk H
                clear H
                go_upto_region 18 with (first | ((with_reducible refine gate_callee (f := 40) rfl ?_); refine goesL_ (some 90) rfl rfl Try.func40 (by kernel_rfl) rfl #[.slice A0 l0.length c0] rfl (by (try simp only [List.map_toArray, List.map_cons, List.map_nil]); first | done | rfl | (simp only [List.length_drop, List.length_take]; rfl)) ?_; (with_reducible refine (spec_DrawLog2.calls k2 _ _ l0 t190 _ ?side1 ?side2 A21.out).mono ?_); (case side1 => repeat (first | exact (Kd.C_below HR0.out HB.out) | (with_reducible refine Kd.C_alloc ?_ _) | (with_reducible refine Kd.C_drewN ?_ _) | (with_reducible refine Kd.C_drew ?_))); (case side2 => exact HC0.out); rintro e w23 ⟨rfl, hb⟩; refine ⟨_, rfl, ?_⟩; have n0_ := Aside0.mk (below_step (by repeat (first | (with_reducible first | exact HB.out | apply below_alloc | apply pw_below_drewN | apply below_drew1) | exact HB.out)) hb); clear HB; have HB := n0_; clear n0_; (try clear hb); (try clear hb2); (try clear hk); (try clear hi)))
                (try simp only [Act.put, List.setIfInBounds_toArray, List.set_cons_zero, List.set_cons_succ])
                go_cut [96] (fun v96 wc => ∃ (kq : Nat) (x96_21 : Bool), v96 = .bool x96_21 ∧ Aside0 (laws_FnWeights.j2 kq t190 x96_21 = some r) ∧ Aside0 (kq ≤ k2) ∧ Aside0 (Below w.heap.size w wc))
                case first =>
                  have H := HC22.out
                  clear HC22
                  by_cases c24 : t190 < 1
                  · rw [if_pos c24] at H
                    have c24b0 : decide (t190 < 1) = true := decide_eq_true c24
                    clear c24
                    (first | rw [c24b0] | (simp only [i64_w, i32_w]; rw [c24b0]) | skip)
                    have H' := Aside0.mk H
                    clear H
                    go_wp2
                    go_meet
                    case rel => exact ⟨_, (true), (by first | rfl | (simp; done) | (simp [*]; done)), H', ⟨by have := HK1.out; have := HK2.out; first | omega | exact Nat.le_refl _⟩, ⟨by repeat (first | (with_reducible first | exact HB.out | apply below_alloc | apply pw_below_drewN | apply below_drew1) | exact HB.out)⟩⟩
                  · rw [if_neg c24] at H
                    have c24b0 : decide (t190 < 1) = false := decide_eq_false c24
                    clear c24
                    (first | rw [c24b0] | (simp only [i64_w, i32_w]; rw [c24b0]) | skip)
                    have H' := Aside0.mk H
                    clear H
                    go_wp2
                    go_meet
                    case rel => exact ⟨_, (decide (t190 > 2305843009213693951)), (by first | rfl | (simp; done) | (simp [*]; done)), H', ⟨by have := HK1.out; have := HK2.out; first | omega | exact Nat.le_refl _⟩, ⟨by repeat (first | (with_reducible first | exact HB.out | apply below_alloc | apply pw_below_drewN | apply below_drew1) | exact HB.out)⟩⟩
                case rest =>
                  clear HC22
                  try clear c1
                  try clear c2
                  try clear c2b0
                  try clear c2b1
                  try clear p2
                  try clear c3
                  try clear c4
                  try clear c4b0
                  try clear p6
                  try clear c7
                  try clear c7b0
                  try clear c7b1
                  try clear c8
                  try clear c8b0
                  try clear c9
                  try clear c9b0
                  try clear c11
                  try clear c11b0
                  try clear c13
                  try clear c13b0
                  try clear c16
                  try clear c16b0
                  try clear c16b1
                  try clear c18
                  try clear c18b0
                  try clear c20
                  try clear c20b0
                  try clear c24
                  try clear c24b0
                  try clear p2
                  try clear p6
                  obtain ⟨kq, x96_21, rfl, HA, HJ21, HB⟩ := hcut
                  cases kq with
                  | zero => exact absurd HA.out (by simp [laws_FnWeights.j2])
                  | succ kj21 =>
                    have H := HA.out
                    clear HA
                    simp only [laws_FnWeights.j2] at H
                    by_cases c25 : x96_21 = true
                    · subst c25
                      have H1 : ((impl_Log2.f kj21 t190).bind fun t191 => ((spec_Log2.f kj21 t190).bind fun t192 => (some (t191 == t192)))) = some r := by rw [if_pos rfl] at H; exact H
                      clear H
                      have H := H1
                      clear H1
                      replace H := Option.bind_eq_some_iff.mp H
                      obtain ⟨t191, A260, H⟩ := H
                      replace H : ((spec_Log2.f kj21 t190).bind fun t192 => (some (t191 == t192))) = some r := H
                      have A26 := Aside0.mk A260
                      clear A260
                      replace H := Option.bind_eq_some_iff.mp H
                      obtain ⟨t192, A270, H⟩ := H
                      replace H : (some (t191 == t192)) = some r := H
                      have A27 := Aside0.mk A270
                      clear A270
                      obtain rfl := Option.some.inj H
                      go_wp2_with (first | ((with_reducible refine gate_callee (f := 41) rfl ?_); refine goesL_ (some 98) rfl rfl Try.func41 (by kernel_rfl) rfl #[.int .i64 t190] rfl (by (try simp only [List.map_toArray, List.map_cons, List.map_nil]); first | done | rfl | (simp only [List.length_drop, List.length_take]; rfl)) ?_; (with_reducible refine (impl_Log2.calls kj21 t190 t191 _ A26.out).mono ?_); rintro e w' ⟨rfl, ⟨nd, rfl⟩⟩; refine ⟨_, rfl, ?_⟩) | ((with_reducible refine gate_callee (f := 42) rfl ?_); refine goesL_ (some 100) rfl rfl Try.func42 (by kernel_rfl) rfl #[.int .i64 t190] rfl (by (try simp only [List.map_toArray, List.map_cons, List.map_nil]); first | done | rfl | (simp only [List.length_drop, List.length_take]; rfl)) ?_; (with_reducible refine (spec_Log2.calls kj21 t190 t192 _ A27.out).mono ?_); rintro e w' ⟨rfl, ⟨nd, rfl⟩⟩; refine ⟨_, rfl, ?_⟩))
                      go_ret
                      exact ⟨by first | rfl | (simp [errW_none, errW_some] <;> rfl) | (simp [*, errW_none, errW_some] <;> rfl), by repeat (first | (with_reducible first | exact HB.out | apply below_alloc | apply pw_below_drewN | apply below_drew1) | exact HB.out)⟩
                    · replace c25 := Bool.eq_false_iff.mpr c25
                      subst c25
                      have H1 : ((impl_Log2.f kj21 t190).bind fun t193 => ((spec_Log2.f kj21 t190).bind fun t194 => (if t193 = t194 then ((impl_Log2.f kj21 (wrap64 (t190 + 1))).bind fun t195 => (if t195 ≥ t193 then (if t190 ≥ 1073741824 then (some true) else ((impl_Log2.f kj21 (wrap64 (2 * t190))).bind fun t196 => (some (t196 == (wrap64 (t193 + 1024)))))) else (some false))) else (some false)))) = some r := by rw [if_neg (show ¬ (false = true) by decide)] at H; exact H
                      clear H
                      have H := H1
                      clear H1
                      replace H := Option.bind_eq_some_iff.mp H
                      obtain ⟨t193, A280, H⟩ := H
                      replace H : ((spec_Log2.f kj21 t190).bind fun t194 => (if t193 = t194 then ((impl_Log2.f kj21 (wrap64 (t190 + 1))).bind fun t195 => (if t195 ≥ t193 then (if t190 ≥ 1073741824 then (some true) else ((impl_Log2.f kj21 (wrap64 (2 * t190))).bind fun t196 => (some (t196 == (wrap64 (t193 + 1024)))))) else (some false))) else (some false))) = some r := H
                      have A28 := Aside0.mk A280
                      clear A280
                      replace H := Option.bind_eq_some_iff.mp H
                      obtain ⟨t194, A290, H⟩ := H
                      replace H : (if t193 = t194 then ((impl_Log2.f kj21 (wrap64 (t190 + 1))).bind fun t195 => (if t195 ≥ t193 then (if t190 ≥ 1073741824 then (some true) else ((impl_Log2.f kj21 (wrap64 (2 * t190))).bind fun t196 => (some (t196 == (wrap64 (t193 + 1024)))))) else (some false))) else (some false)) = some r := H
                      have A29 := Aside0.mk A290
                      clear A290
                      by_cases c30 : t193 = t194
                      · rw [if_pos c30] at H
                        have c30b0 : (t193 == t194) = true := beq_iff_eq.mpr c30
                        have c30b1 : (t193 != t194) = false := bne_eq_false_iff_eq.mpr c30
                        clear c30
                        replace H := Option.bind_eq_some_iff.mp H
                        obtain ⟨t195, A310, H⟩ := H
                        replace H : (if t195 ≥ t193 then (if t190 ≥ 1073741824 then (some true) else ((impl_Log2.f kj21 (wrap64 (2 * t190))).bind fun t196 => (some (t196 == (wrap64 (t193 + 1024)))))) else (some false)) = some r := H
                        have A31 := Aside0.mk A310
                        clear A310
                        by_cases c32 : t195 ≥ t193
                        · rw [if_pos c32] at H
                          have c32b0 : decide (t193 ≤ t195) = true := decide_eq_true c32
                          clear c32
                          by_cases c33 : t190 ≥ 1073741824
                          · rw [if_pos c33] at H
                            have c33b0 : decide (1073741824 ≤ t190) = true := decide_eq_true c33
                            clear c33
                            obtain rfl := Option.some.inj H
                            go_wp2_with (first | ((with_reducible refine gate_callee (f := 41) rfl ?_); refine goesL_ (some 103) rfl rfl Try.func41 (by kernel_rfl) rfl #[.int .i64 t190] rfl (by (try simp only [List.map_toArray, List.map_cons, List.map_nil]); first | done | rfl | (simp only [List.length_drop, List.length_take]; rfl)) ?_; (with_reducible refine (impl_Log2.calls kj21 t190 t193 _ A28.out).mono ?_); rintro e w' ⟨rfl, ⟨nd, rfl⟩⟩; refine ⟨_, rfl, ?_⟩) | ((with_reducible refine gate_callee (f := 42) rfl ?_); refine goesL_ (some 106) rfl rfl Try.func42 (by kernel_rfl) rfl #[.int .i64 t190] rfl (by (try simp only [List.map_toArray, List.map_cons, List.map_nil]); first | done | rfl | (simp only [List.length_drop, List.length_take]; rfl)) ?_; (with_reducible refine (spec_Log2.calls kj21 t190 t194 _ A29.out).mono ?_); rintro e w' ⟨rfl, ⟨nd, rfl⟩⟩; refine ⟨_, rfl, ?_⟩) | (go_at_call 41; (with_reducible refine (impl_Log2.calls kj21 (wrap64 (t190 + 1)) t195 _ A31.out).mono ?_); rintro e w' ⟨rfl, ⟨nd, rfl⟩⟩))
                            go_ret
                            exact ⟨by first | rfl | (simp [errW_none, errW_some] <;> rfl) | (simp [*, errW_none, errW_some] <;> rfl), by repeat (first | (with_reducible first | exact HB.out | apply below_alloc | apply pw_below_drewN | apply below_drew1) | exact HB.out)⟩
                          · rw [if_neg c33] at H
                            have c33b0 : decide (1073741824 ≤ t190) = false := decide_eq_false c33
                            clear c33
                            replace H := Option.bind_eq_some_iff.mp H
                            obtain ⟨t196, A340, H⟩ := H
                            replace H : (some (t196 == (wrap64 (t193 + 1024)))) = some r := H
                            have A34 := Aside0.mk A340
                            clear A340
                            obtain rfl := Option.some.inj H
                            go_wp2_with (first | ((with_reducible refine gate_callee (f := 41) rfl ?_); refine goesL_ (some 103) rfl rfl Try.func41 (by kernel_rfl) rfl #[.int .i64 t190] rfl (by (try simp only [List.map_toArray, List.map_cons, List.map_nil]); first | done | rfl | (simp only [List.length_drop, List.length_take]; rfl)) ?_; (with_reducible refine (impl_Log2.calls kj21 t190 t193 _ A28.out).mono ?_); rintro e w' ⟨rfl, ⟨nd, rfl⟩⟩; refine ⟨_, rfl, ?_⟩) | ((with_reducible refine gate_callee (f := 42) rfl ?_); refine goesL_ (some 106) rfl rfl Try.func42 (by kernel_rfl) rfl #[.int .i64 t190] rfl (by (try simp only [List.map_toArray, List.map_cons, List.map_nil]); first | done | rfl | (simp only [List.length_drop, List.length_take]; rfl)) ?_; (with_reducible refine (spec_Log2.calls kj21 t190 t194 _ A29.out).mono ?_); rintro e w' ⟨rfl, ⟨nd, rfl⟩⟩; refine ⟨_, rfl, ?_⟩) | (go_at_call 41; (with_reducible refine (impl_Log2.calls kj21 (wrap64 (t190 + 1)) t195 _ A31.out).mono ?_); rintro e w' ⟨rfl, ⟨nd, rfl⟩⟩) | (go_at_call 41; (with_reducible refine (impl_Log2.calls kj21 (wrap64 (2 * t190)) t196 _ A34.out).mono ?_); rintro e w' ⟨rfl, ⟨nd, rfl⟩⟩))
                            go_ret
                            exact ⟨by first | rfl | (simp [errW_none, errW_some] <;> rfl) | (simp [*, errW_none, errW_some] <;> rfl), by repeat (first | (with_reducible first | exact HB.out | apply below_alloc | apply pw_below_drewN | apply below_drew1) | exact HB.out)⟩
                        · rw [if_neg c32] at H
                          have c32b0 : decide (t193 ≤ t195) = false := decide_eq_false c32
                          clear c32
                          obtain rfl := Option.some.inj H
                          go_wp2_with (first | ((with_reducible refine gate_callee (f := 41) rfl ?_); refine goesL_ (some 103) rfl rfl Try.func41 (by kernel_rfl) rfl #[.int .i64 t190] rfl (by (try simp only [List.map_toArray, List.map_cons, List.map_nil]); first | done | rfl | (simp only [List.length_drop, List.length_take]; rfl)) ?_; (with_reducible refine (impl_Log2.calls kj21 t190 t193 _ A28.out).mono ?_); rintro e w' ⟨rfl, ⟨nd, rfl⟩⟩; refine ⟨_, rfl, ?_⟩) | ((with_reducible refine gate_callee (f := 42) rfl ?_); refine goesL_ (some 106) rfl rfl Try.func42 (by kernel_rfl) rfl #[.int .i64 t190] rfl (by (try simp only [List.map_toArray, List.map_cons, List.map_nil]); first | done | rfl | (simp only [List.length_drop, List.length_take]; rfl)) ?_; (with_reducible refine (spec_Log2.calls kj21 t190 t194 _ A29.out).mono ?_); rintro e w' ⟨rfl, ⟨nd, rfl⟩⟩; refine ⟨_, rfl, ?_⟩) | (go_at_call 41; (with_reducible refine (impl_Log2.calls kj21 (wrap64 (t190 + 1)) t195 _ A31.out).mono ?_); rintro e w' ⟨rfl, ⟨nd, rfl⟩⟩))
                          go_ret
                          exact ⟨by first | rfl | (simp [errW_none, errW_some] <;> rfl) | (simp [*, errW_none, errW_some] <;> rfl), by repeat (first | (with_reducible first | exact HB.out | apply below_alloc | apply pw_below_drewN | apply below_drew1) | exact HB.out)⟩
                      · rw [if_neg c30] at H
                        have c30b0 : (t193 == t194) = false := beq_eq_false_iff_ne.mpr c30
                        have c30b1 : (t193 != t194) = true := bne_iff_ne.mpr c30
                        obtain rfl := Option.some.inj H
                        go_wp2_with (first | ((with_reducible refine gate_callee (f := 41) rfl ?_); refine goesL_ (some 103) rfl rfl Try.func41 (by kernel_rfl) rfl #[.int .i64 t190] rfl (by (try simp only [List.map_toArray, List.map_cons, List.map_nil]); first | done | rfl | (simp only [List.length_drop, List.length_take]; rfl)) ?_; (with_reducible refine (impl_Log2.calls kj21 t190 t193 _ A28.out).mono ?_); rintro e w' ⟨rfl, ⟨nd, rfl⟩⟩; refine ⟨_, rfl, ?_⟩) | ((with_reducible refine gate_callee (f := 42) rfl ?_); refine goesL_ (some 106) rfl rfl Try.func42 (by kernel_rfl) rfl #[.int .i64 t190] rfl (by (try simp only [List.map_toArray, List.map_cons, List.map_nil]); first | done | rfl | (simp only [List.length_drop, List.length_take]; rfl)) ?_; (with_reducible refine (spec_Log2.calls kj21 t190 t194 _ A29.out).mono ?_); rintro e w' ⟨rfl, ⟨nd, rfl⟩⟩; refine ⟨_, rfl, ?_⟩))
                        go_ret
                        exact ⟨by first | rfl | (simp [errW_none, errW_some] <;> rfl) | (simp [*, errW_none, errW_some] <;> rfl), by repeat (first | (with_reducible first | exact HB.out | apply below_alloc | apply pw_below_drewN | apply below_drew1) | exact HB.out)⟩

/-- THE ONE PURE STATEMENT of laws_FnWeights: yours. -/
def laws_FnWeights.Pure : Prop := ∀ (l0 : List Int), l0.length ≤ maxLen → l0.length * 1 ≤ 140737488351232 → (∀ x ∈ l0, (Lit.int .u8 x).wf = true) → ∃ k, laws_FnWeights.f k l0 = some true
theorem laws_FnWeights.walk (P : laws_FnWeights.Pure) (a0 : Option Addr) (len0 cap0 : Nat) (z0 : List Int) (w : World) (w0 : (a0 = none ∧ len0 = 0 ∧ cap0 = 0 ∧ z0 = []) ∨ ∃ x, a0 = some x ∧ len0 ≤ cap0 ∧ cap0 ≤ maxLen ∧ z0.length = cap0 ∧ (∀ i, i < z0.length → w.cell? (x.add i) = some (.int .u8 (z0.getD i 0))) ∧ ∀ n ∈ z0, (Lit.int .u8 n).wf = true) (y0 : len0 * 1 ≤ 140737488351232) :
    Calls Try.prog 8 #[.slice a0 len0 cap0] w fun e w' => e = .returned (.bool true) ∧ Below w.heap.size w w' := by
  obtain ⟨l0, rfl, hr0, hm0, hw0, hc0⟩ := ReadsInt.ofRowC w0
  obtain ⟨k, h⟩ := P l0 hm0 y0 hw0
  refine (laws_FnWeights.calls k _ _ l0 true w (Kd.C_of_reads (d := (0 : Int)) (h1 := fun _ => rfl) hr0) hc0 h).mono ?_
  rintro e w' ⟨rfl, hd⟩
  exact ⟨rfl, hd⟩

end Go.Proofs.Ytfkejcakklpecaa.XFnWeights
