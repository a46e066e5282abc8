-- A text of this session: written by its own program (wip/x/xprint.py), which runs the kit's printer with contracts of its own.
import Derived.Test.YtcokeankiedfcaaDoorXFnTextx0
import Derived.Test.YtcokeankiedfcaaDoorXFnTextx1
import Derived.Test.YtcokeankiedfcaaDoorXFnTextx3
import Derived.Test.YtcokeankiedfcaaDoorXFnTextx4
namespace Go.Proofs.YtcokeankiedfcaaDoor.XFnText
open Go.RowKit Go.Proofs.YtcokeankiedfcaaDoorW.PrintWords Go.Proofs.YtcokeankiedfcaaDoorW.PrintLast Go.Proofs.YtcokeankiedfcaaDoorW.PrintMore
attribute [local go_sem] max2_int min2_int max_two min_two max_three min_three max_four min_four   -- for this text's walks alone
set_option linter.unusedVariables false
set_option linter.unusedSimpArgs false

/-! ### spec_l01Inner: function 70 -/
def spec_l01Inner.f (k : Nat) (a0 : Int) : Option (Bool) := (spec_Class.f k a0).bind fun t209 => (if t209 = 1 then (some true) else (some (t209 == 2)))
theorem spec_l01Inner.mono : ∀ a0 k, LeO (spec_l01Inner.f k a0) (spec_l01Inner.f (k + 1) a0) := by
 intro a0 k
 unfold spec_l01Inner.f
 repeat' first
  | (with_reducible exact spec_Class.mono _ _)
  | (with_reducible exact LeO.refl _)
  | (with_reducible exact LeO.none _)
  | (with_reducible refine LeO.ite ?_ ?_)
  | (with_reducible refine LeO.bind ?_ (fun _ => ?_))
  | exact spec_Class.mono _ _
  | exact LeO.none _
  | refine LeO.ite ?_ ?_
  | refine LeO.bind ?_ (fun _ => ?_)
set_option maxHeartbeats 8000000 in
set_option maxRecDepth 100000 in
theorem spec_l01Inner.calls (k : Nat) (a0 : Int) (r : Bool) (w : World) (h : spec_l01Inner.f k a0 = some r) :
 Calls Tryd.prog 70 #[.int .i64 a0] w fun e w' => e = .returned (.bool r) ∧ Drawn0 w w' := by
 have H : ((spec_Class.f k a0).bind fun t209 => (if t209 = 1 then (some true) else (some (t209 == 2)))) = some r := h
 clear h
 replace H := Option.bind_eq_some_iff.mp H
 obtain ⟨t209, A20, H⟩ := H
 replace H : (if t209 = 1 then (some true) else (some (t209 == 2))) = some r := H
 have A2 := Aside0.mk A20
 clear A20
 by_cases c3 : t209 = 1
 ·rw [if_pos c3] at H
  have c3b0 : (t209 == 1) = true := beq_iff_eq.mpr c3
  have c3b1 : (t209 != 1) = false := bne_eq_false_iff_eq.mpr c3
  clear c3
  obtain rfl := Option.some.inj H
  go_enter Tryd.func70, Tryd.ntmps70
  go_wp2_with (first | ((with_reducible refine gate_callee (f := 69) rfl ?_); refine goesL_ (some 5) rfl rfl Tryd.func69 (by kernel_rfl) rfl #[.int .i64 a0] rfl zar ?_; (with_reducible refine (spec_Class.calls k a0 t209 _ A2.out).mono ?_); rintro e w' ⟨rfl, ⟨nd, rfl⟩⟩; refine ⟨_, rfl, ?_⟩))
  go_ret
  exact ⟨by first | rfl | (simp; done) | (simp [*]; done), by repeat (first | exact Drawn0.refl _ | apply Drawn0.step)⟩
 ·rw [if_neg c3] at H
  have c3b0 : (t209 == 1) = false := beq_eq_false_iff_ne.mpr c3
  have c3b1 : (t209 != 1) = true := bne_iff_ne.mpr c3
  obtain rfl := Option.some.inj H
  go_enter Tryd.func70, Tryd.ntmps70
  go_wp2_with (first | ((with_reducible refine gate_callee (f := 69) rfl ?_); refine goesL_ (some 5) rfl rfl Tryd.func69 (by kernel_rfl) rfl #[.int .i64 a0] rfl zar ?_; (with_reducible refine (spec_Class.calls k a0 t209 _ A2.out).mono ?_); rintro e w' ⟨rfl, ⟨nd, rfl⟩⟩; refine ⟨_, rfl, ?_⟩))
  go_ret
  exact ⟨by first | rfl | (simp; done) | (simp [*]; done), by repeat (first | exact Drawn0.refl _ | apply Drawn0.step)⟩

/-! ### spec_Break: function 32 -/
mutual
def spec_Break.l0 : Nat → List Int → List (S53) → Int → Int → Option ((List (S53)) × Int)
 | 0, _, _, _, _ => none
 | k + 1, x4, x6, x7, x8 => if x8 < (x4.length : Int) then (if 0 ≤ x8 then ((spec_Class.f k (rd x4 x8)).bind fun t221 => (if t221 = 4 then (spec_Break.j1 k x4 x6 x7 x8 (wrap64 (x8 + 1))) else (spec_Break.j1 k x4 x6 x7 x8 x8))) else (none)) else (some (x6, 0))
def spec_Break.j1 : Nat → List Int → List (S53) → Int → Int → Int → Option ((List (S53)) × Int)
 | 0, _, _, _, _, _ => none
 | k + 1, x4, x6, x7, x8, x9 => spec_Break.l1 k x4 x6 x7 x8 x9
def spec_Break.j3 : Nat → List Int → List (S53) → Int → Int → Int → Option ((List (S53)) × Int)
 | 0, _, _, _, _, _ => none
 | k + 1, x4, x6, x7, x8, x9 => if x9 = x8 then (if 0 ≤ x8 then (if x8 < (x4.length : Int) then ((spec_l01Bytes.f (rd x4 x8)).bind fun t233 => (spec_Break.l0 k x4 x6 (wrap64 (x7 + (t233.length : Int))) (wrap64 (x8 + 1)))) else (none)) else (none)) else (if 0 ≤ x8 then (if x8 ≤ x9 then (if x9 ≤ (x4.length : Int) then ((spec_l01Encode.f k ((x4.take (x9 : Int).toNat).drop (x8 : Int).toNat)).bind fun t240 => (if x6.length < 3518437208883 then ((some (x6 ++ [(⟨t240, (x6.length : Int), x7, wrap64 (x7 + (t240.size : Int))⟩ : S53)] : List (S53))).bind fun y241 => (if (y241.length : Int) > 8192 then (some ((([] : List (S53))), 11)) else (spec_Break.l0 k x4 y241 (wrap64 (x7 + (t240.size : Int))) x9))) else (none))) else (none)) else (none)) else (none))
def spec_Break.l1 : Nat → List Int → List (S53) → Int → Int → Int → Option ((List (S53)) × Int)
 | 0, _, _, _, _, _ => none
 | k + 1, x4, x6, x7, x8, x9 => if x9 < (x4.length : Int) then (if x9 ≥ x8 then (if 0 ≤ x8 then (if x8 < (x4.length : Int) then ((spec_Class.f k (rd x4 x8)).bind fun t223 => (if t223 = 4 then (spec_Break.j3 k x4 x6 x7 x8 x9) else (if 0 ≤ x9 then ((spec_l01Inner.f k (rd x4 x9)).bind fun t225 => (if t225 = true then (spec_Break.l1 k x4 x6 x7 x8 (wrap64 (x9 + 1))) else (if x9 > x8 then ((spec_Class.f k (rd x4 x9)).bind fun t227 => (if t227 = 3 then (if 0 ≤ (wrap64 (x9 - 1)) then (if (wrap64 (x9 - 1)) < (x4.length : Int) then ((spec_l01Inner.f k (rd x4 (wrap64 (x9 - 1)))).bind fun t229 => (if t229 = true then (if (wrap64 (x9 + 1)) < (x4.length : Int) then (if 0 ≤ (wrap64 (x9 + 1)) then ((spec_l01Inner.f k (rd x4 (wrap64 (x9 + 1)))).bind fun t231 => (if t231 = true then (spec_Break.l1 k x4 x6 x7 x8 (wrap64 (x9 + 1))) else (spec_Break.j3 k x4 x6 x7 x8 x9))) else (none)) else (spec_Break.j3 k x4 x6 x7 x8 x9)) else (spec_Break.j3 k x4 x6 x7 x8 x9))) else (none)) else (none)) else (spec_Break.j3 k x4 x6 x7 x8 x9))) else (spec_Break.j3 k x4 x6 x7 x8 x9)))) else (none)))) else (none)) else (none)) else (spec_Break.j3 k x4 x6 x7 x8 x9)) else (spec_Break.j3 k x4 x6 x7 x8 x9)
end
def spec_Break.f (k : Nat) (a0 : ByteArray) : Option ((List (S53)) × Int) := (spec_Decode.f k a0).bind fun bt210 => (if bt210.2 = 0 then (spec_Break.l0 k bt210.1 (([] : List (S53))) 0 0) else (some ((([] : List (S53))), bt210.2)))
theorem spec_Break.mono_l : ∀ k, (∀ y0 y1 y2 y3, LeO (spec_Break.l0 k y0 y1 y2 y3) (spec_Break.l0 (k + 1) y0 y1 y2 y3)) ∧ (∀ y0 y1 y2 y3 y4, LeO (spec_Break.j1 k y0 y1 y2 y3 y4) (spec_Break.j1 (k + 1) y0 y1 y2 y3 y4)) ∧ (∀ y0 y1 y2 y3 y4, LeO (spec_Break.j3 k y0 y1 y2 y3 y4) (spec_Break.j3 (k + 1) y0 y1 y2 y3 y4)) ∧ (∀ y0 y1 y2 y3 y4, LeO (spec_Break.l1 k y0 y1 y2 y3 y4) (spec_Break.l1 (k + 1) y0 y1 y2 y3 y4))
 | 0 => ⟨fun _ _ _ _ r h => by simp [spec_Break.l0] at h, fun _ _ _ _ _ r h => by simp [spec_Break.j1] at h, fun _ _ _ _ _ r h => by simp [spec_Break.j3] at h, fun _ _ _ _ _ r h => by simp [spec_Break.l1] at h⟩
 | k + 1 => by
  obtain ⟨ih0, ih1, ih2, ih3⟩ := spec_Break.mono_l k
  refine ⟨?_, ?_, ?_, ?_⟩
  ·intro y0 y1 y2 y3
   unfold spec_Break.l0
   repeat' first
   | (with_reducible exact ih0 _ _ _ _)
   | (with_reducible exact ih1 _ _ _ _ _)
   | (with_reducible exact ih2 _ _ _ _ _)
   | (with_reducible exact ih3 _ _ _ _ _)
   | (with_reducible exact spec_Class.mono _ _)
   | (with_reducible exact spec_Decode.mono _ _)
   | (with_reducible exact spec_l01Encode.mono _ _)
   | (with_reducible exact spec_l01Inner.mono _ _)
   | (with_reducible exact LeO.refl _)
   | (with_reducible exact LeO.none _)
   | (with_reducible refine LeO.ite ?_ ?_)
   | (with_reducible refine LeO.bind ?_ (fun _ => ?_))
   | exact ih0 _ _ _ _
   | exact ih1 _ _ _ _ _
   | exact ih2 _ _ _ _ _
   | exact ih3 _ _ _ _ _
   | exact spec_Class.mono _ _
   | exact spec_Decode.mono _ _
   | exact spec_l01Encode.mono _ _
   | exact spec_l01Inner.mono _ _
   | exact LeO.none _
   | refine LeO.ite ?_ ?_
   | refine LeO.bind ?_ (fun _ => ?_)
  ·intro y0 y1 y2 y3 y4
   unfold spec_Break.j1
   repeat' first
   | (with_reducible exact ih0 _ _ _ _)
   | (with_reducible exact ih1 _ _ _ _ _)
   | (with_reducible exact ih2 _ _ _ _ _)
   | (with_reducible exact ih3 _ _ _ _ _)
   | (with_reducible exact spec_Class.mono _ _)
   | (with_reducible exact spec_Decode.mono _ _)
   | (with_reducible exact spec_l01Encode.mono _ _)
   | (with_reducible exact spec_l01Inner.mono _ _)
   | (with_reducible exact LeO.refl _)
   | (with_reducible exact LeO.none _)
   | (with_reducible refine LeO.ite ?_ ?_)
   | (with_reducible refine LeO.bind ?_ (fun _ => ?_))
   | exact ih0 _ _ _ _
   | exact ih1 _ _ _ _ _
   | exact ih2 _ _ _ _ _
   | exact ih3 _ _ _ _ _
   | exact spec_Class.mono _ _
   | exact spec_Decode.mono _ _
   | exact spec_l01Encode.mono _ _
   | exact spec_l01Inner.mono _ _
   | exact LeO.none _
   | refine LeO.ite ?_ ?_
   | refine LeO.bind ?_ (fun _ => ?_)
  ·intro y0 y1 y2 y3 y4
   unfold spec_Break.j3
   repeat' first
   | (with_reducible exact ih0 _ _ _ _)
   | (with_reducible exact ih1 _ _ _ _ _)
   | (with_reducible exact ih2 _ _ _ _ _)
   | (with_reducible exact ih3 _ _ _ _ _)
   | (with_reducible exact spec_Class.mono _ _)
   | (with_reducible exact spec_Decode.mono _ _)
   | (with_reducible exact spec_l01Encode.mono _ _)
   | (with_reducible exact spec_l01Inner.mono _ _)
   | (with_reducible exact LeO.refl _)
   | (with_reducible exact LeO.none _)
   | (with_reducible refine LeO.ite ?_ ?_)
   | (with_reducible refine LeO.bind ?_ (fun _ => ?_))
   | exact ih0 _ _ _ _
   | exact ih1 _ _ _ _ _
   | exact ih2 _ _ _ _ _
   | exact ih3 _ _ _ _ _
   | exact spec_Class.mono _ _
   | exact spec_Decode.mono _ _
   | exact spec_l01Encode.mono _ _
   | exact spec_l01Inner.mono _ _
   | exact LeO.none _
   | refine LeO.ite ?_ ?_
   | refine LeO.bind ?_ (fun _ => ?_)
  ·intro y0 y1 y2 y3 y4
   unfold spec_Break.l1
   repeat' first
   | (with_reducible exact ih0 _ _ _ _)
   | (with_reducible exact ih1 _ _ _ _ _)
   | (with_reducible exact ih2 _ _ _ _ _)
   | (with_reducible exact ih3 _ _ _ _ _)
   | (with_reducible exact spec_Class.mono _ _)
   | (with_reducible exact spec_Decode.mono _ _)
   | (with_reducible exact spec_l01Encode.mono _ _)
   | (with_reducible exact spec_l01Inner.mono _ _)
   | (with_reducible exact LeO.refl _)
   | (with_reducible exact LeO.none _)
   | (with_reducible refine LeO.ite ?_ ?_)
   | (with_reducible refine LeO.bind ?_ (fun _ => ?_))
   | exact ih0 _ _ _ _
   | exact ih1 _ _ _ _ _
   | exact ih2 _ _ _ _ _
   | exact ih3 _ _ _ _ _
   | exact spec_Class.mono _ _
   | exact spec_Decode.mono _ _
   | exact spec_l01Encode.mono _ _
   | exact spec_l01Inner.mono _ _
   | exact LeO.none _
   | refine LeO.ite ?_ ?_
   | refine LeO.bind ?_ (fun _ => ?_)
theorem spec_Break.mono : ∀ a0 k, LeO (spec_Break.f k a0) (spec_Break.f (k + 1) a0) := by
 intro a0 k
 obtain ⟨ih0, ih1, ih2, ih3⟩ := spec_Break.mono_l k
 unfold spec_Break.f
 repeat' first
  | (with_reducible exact ih0 _ _ _ _)
  | (with_reducible exact ih1 _ _ _ _ _)
  | (with_reducible exact ih2 _ _ _ _ _)
  | (with_reducible exact ih3 _ _ _ _ _)
  | (with_reducible exact spec_Class.mono _ _)
  | (with_reducible exact spec_Decode.mono _ _)
  | (with_reducible exact spec_l01Encode.mono _ _)
  | (with_reducible exact spec_l01Inner.mono _ _)
  | (with_reducible exact LeO.refl _)
  | (with_reducible exact LeO.none _)
  | (with_reducible refine LeO.ite ?_ ?_)
  | (with_reducible refine LeO.bind ?_ (fun _ => ?_))
  | exact ih0 _ _ _ _
  | exact ih1 _ _ _ _ _
  | exact ih2 _ _ _ _ _
  | exact ih3 _ _ _ _ _
  | exact spec_Class.mono _ _
  | exact spec_Decode.mono _ _
  | exact spec_l01Encode.mono _ _
  | exact spec_l01Inner.mono _ _
  | exact LeO.none _
  | refine LeO.ite ?_ ?_
  | refine LeO.bind ?_ (fun _ => ?_)
set_option maxHeartbeats 8000000 in
set_option maxRecDepth 100000 in
theorem spec_Break.calls (k : Nat) (a0 : ByteArray) (r1 : List (S53)) (r2 : Int) (w : World) (h : spec_Break.f k a0 = some (r1, r2)) :
 Calls Tryd.prog 32 #[.string a0] w fun e w' => ∃ v0_ : Value, e = .returned (.tuple #[v0_, .int .i64 r2]) ∧ Kd.R k53 53 w' w.heap.size (fun _ => True) v0_ r1 ∧ Below w.heap.size w w' := by
 have hu53 := Tryd.underlying53
 have HB := Aside0.mk (Below.refl w.heap.size w)
 have H : ((spec_Decode.f k a0).bind fun bt210 => (if bt210.2 = 0 then (spec_Break.l0 k bt210.1 (([] : List (S53))) 0 0) else (some ((([] : List (S53))), bt210.2)))) = some (r1, r2) := h
 clear h
 replace H := Option.bind_eq_some_iff.mp H
 obtain ⟨⟨t210, t211⟩, A20, H⟩ := H
 replace H : (if t211 = 0 then (spec_Break.l0 k t210 (([] : List (S53))) 0 0) else (some ((([] : List (S53))), t211))) = some (r1, r2) := H
 have A2 := Aside0.mk A20
 clear A20
 by_cases c3 : t211 = 0
 ·rw [if_pos c3] at H
  have c3b0 : (t211 == 0) = true := beq_iff_eq.mpr c3
  have c3b1 : (t211 != 0) = false := bne_eq_false_iff_eq.mpr c3
  clear c3
  obtain ⟨y217, hy217⟩ : ∃ y_ : List (S53), y_ = (([] : List (S53))) := ⟨_, rfl⟩
  replace H : (spec_Break.l0 k t210 y217 0 0) = some (r1, r2) := by first | (rw [hy217]; with_reducible exact H) | (have H2_ := (Option.bind_some _ _).symm.trans H; rw [hy217]; with_reducible exact H2_) | (have H2_ := (Option.bind_some _ _).symm.trans H; with_reducible exact H2_) | with_reducible exact H | (rw [hy217]; exact H) | exact H
  have Ny217 := Aside0.mk hy217
  clear hy217
  have H' := Aside0.mk H
  clear H
  go_enter Tryd.func32, Tryd.ntmps32
  go_wp2_with (first | ((with_reducible refine gate_callee (f := 15) rfl ?_); refine goesL_ (some 13) rfl rfl Tryd.func15 (by kernel_rfl) rfl #[.string a0] rfl zar ?_; (with_reducible refine (spec_Decode.calls k a0 t210 t211 _ A2.out).mono ?_); rintro e w4 ⟨v212, rfl, ho0, hb⟩; refine ⟨_, rfl, ?_⟩; have n0_ := Aside0.mk (Kd.R_lower ho0 (below_size (zh HB))); have n1_ := Aside0.mk (below_step (zh HB) hb); clear HB; have HO213 := n0_; have HB := n1_; clear n0_ n1_; (try clear hb); (try clear hb2); (try clear hk); (try clear hi); (try clear ho0)) | ((with_reducible refine gate_dst (N := 20) rfl ?_); (try (refine gate_guard (by rfl) ?_; dsimp only)); refine Kd.R_lit k53 _ 53 ?hg (N := 20) ?hd (xs := ([] : List (S53))) (inner := []) (ok := fun _ => True) (okp := fun _ => True) ?hr ?hp (fun _ hk => hk) trivial (Below.refl _ _) (Nat.le_refl _) (by simp) ?_; (case hd => rfl); (case hg => rfl); (case hr => first | (go_simp; done) | (go_simp; rfl)); (case hp => exact (Reps.none _ _)); intro v218 w5 ho6 hb hg_ hnew_; clear hg_ hnew_; (first | rw [← Ny217.out] at ho6 | (simp only [Int.reduceToNat] at ho6; rw [← Ny217.out] at ho6)); have n0_ := Aside0.mk (Kd.R_below (zr HO213) hb); have n1_ := Aside0.mk (Kd.R_lower ho6 (below_size (zh HB))); have n2_ := Aside0.mk (below_step (zh HB) hb); clear HO213; clear HB; have HO213 := n0_; have HO219 := n1_; have HB := n2_; clear n0_ n1_ n2_; clear hb ho6))
  go_loopg [6, 7, 8] k (fun kq v6 v7 v8 w' => ∃ (x6_1 : List (S53)) (x7_1 : Int) (x8_1 : Int), v7 = .int .i64 x7_1 ∧ v8 = .int .i64 x8_1 ∧ Aside0 (spec_Break.l0 kq t210 x6_1 x7_1 x8_1 = some (r1, r2)) ∧ Aside0 (kq ≤ k) ∧ Aside0 (Kd.R (Kd.int .i64) 3 w' w.heap.size (fun _ => True) v212 t210) ∧ Aside0 (Kd.R k53 53 w' w.heap.size (fun _ => True) v6 x6_1) ∧ Aside0 (Below w.heap.size w w'))
  case atStart => exact ⟨(y217), (0), (0), (by first | rfl | (simp; done) | (simp [*]; done)), (by first | rfl | (simp; done) | (simp [*]; done)), H', ⟨Nat.le_refl _⟩, ⟨zr HO213⟩, ⟨zr HO219⟩, ⟨zh HB⟩⟩
  case round =>
   clear H'
   try clear c1
   try clear p2
   try clear c3
   try clear c3b0
   try clear c3b1
   obtain ⟨x6_1, x7_1, x8_1, rfl, rfl, HA, HK1, HO_4, HO_6, HB⟩ := hrel
   cases gk with
   | zero => exact absurd HA.out (by simp [spec_Break.l0])
   | succ k1 =>
    have H := HA.out
    clear HA
    simp only [spec_Break.l0] at H
    by_cases c7 : x8_1 < (t210.length : Int)
    ·rw [if_pos c7] at H
     have c7b0 : decide (x8_1 < (t210.length : Int)) = true := decide_eq_true c7
     clear c7
     by_cases c8 : 0 ≤ x8_1
     ·rw [if_pos c8] at H
      have c8b0 : decide (0 ≤ x8_1) = true := decide_eq_true c8
      clear c8
      replace H := Option.bind_eq_some_iff.mp H
      obtain ⟨t221, A90, H⟩ := H
      replace H : (if t221 = 4 then (spec_Break.j1 k1 t210 x6_1 x7_1 x8_1 (wrap64 (x8_1 + 1))) else (spec_Break.j1 k1 t210 x6_1 x7_1 x8_1 x8_1)) = some (r1, r2) := H
      have A9 := Aside0.mk A90
      clear A90
      have HC10 := Aside0.mk H
      clear H
      obtain ⟨Ao11, co11, eo11⟩ := Kd.R_slice HO_4.out
      subst eo11
      have p220 : 0 ≤ (x8_1 : Int) := of_decide_eq_true zas
      have q220 : x8_1 < (t210.length : Int) := of_decide_eq_true zas
      obtain ⟨ad220, e220, hx220_0⟩ := Kd.at_int (Kd.R_reads' HO_4.out).2.2 x8_1 p220 q220
      cases e220
      replace p220 := eq_true p220
      replace q220 := eq_true q220
      go_upto_if 31 with (first | ((with_reducible refine gate_callee (f := 69) rfl ?_); refine goesL_ (some 30) rfl rfl Tryd.func69 (by kernel_rfl) rfl #[.int .i64 (rd t210 x8_1)] rfl zar ?_; (with_reducible refine (spec_Class.calls k1 (rd t210 x8_1) t221 _ A9.out).mono ?_); rintro e w' ⟨rfl, ⟨nd, rfl⟩⟩; refine ⟨_, rfl, ?_⟩))
      (try simp only [Act.put, List.setIfInBounds_toArray, List.set_cons_zero, List.set_cons_succ])
      go_cut [9] (fun v9 wc => ∃ (kq : Nat) (x9_9 : Int), v9 = .int .i64 x9_9 ∧ Aside0 (spec_Break.j1 kq t210 x6_1 x7_1 x8_1 x9_9 = some (r1, r2)) ∧ Aside0 (kq ≤ k1) ∧ Aside0 (Kd.R (Kd.int .i64) 3 wc w.heap.size (fun _ => True) (.slice (some ad220) t210.length co11) t210) ∧ Aside0 (Kd.R k53 53 wc w.heap.size (fun _ => True) u6 x6_1) ∧ Aside0 (Below w.heap.size w wc))
      case first =>
       have H := HC10.out
       clear HC10
       by_cases c12 : t221 = 4
       ·rw [if_pos c12] at H
        have c12b0 : (t221 == 4) = true := beq_iff_eq.mpr c12
        have c12b1 : (t221 != 4) = false := bne_eq_false_iff_eq.mpr c12
        clear c12
        (first | rw [c12b0] | (simp only [i64_w, i32_w]; rw [c12b0]) | skip)
        have H' := Aside0.mk H
        clear H
        go_wp2
        go_meet
        case rel => exact ⟨_, (wrap64 (x8_1 + 1)), (by first | rfl | (simp; done) | (simp [*]; done)), H', ⟨by have := HK1.out; first | omega | exact Nat.le_refl _⟩, ⟨zr HO_4⟩, ⟨zr HO_6⟩, ⟨zh HB⟩⟩
       ·rw [if_neg c12] at H
        have c12b0 : (t221 == 4) = false := beq_eq_false_iff_ne.mpr c12
        have c12b1 : (t221 != 4) = true := bne_iff_ne.mpr c12
        (first | rw [c12b0] | (simp only [i64_w, i32_w]; rw [c12b0]) | skip)
        have H' := Aside0.mk H
        clear H
        go_wp2
        go_meet
        case rel => exact ⟨_, (x8_1), (by first | rfl | (simp; done) | (simp [*]; done)), H', ⟨by have := HK1.out; first | omega | exact Nat.le_refl _⟩, ⟨zr HO_4⟩, ⟨zr HO_6⟩, ⟨zh HB⟩⟩
      case rest =>
       clear HC10
       try clear c1
       try clear p2
       try clear q2
       try clear hx2
       try clear c3
       try clear c3b0
       try clear c3b1
       try clear c6
       try clear p6
       try clear c7
       try clear c7b0
       try clear c8
       try clear c8b0
       try clear c12
       try clear c12b0
       try clear c12b1
       try clear hx220_0
       try clear p2
       try clear p220
       try clear q220
       obtain ⟨kq, x9_9, rfl, HA, HJ9, HO_4, HO_6, HB⟩ := hcut
       cases kq with
       | zero => exact absurd HA.out (by simp [spec_Break.j1])
       | succ kj9 =>
        have H := HA.out
        clear HA
        simp only [spec_Break.j1] at H
        have HC13 := Aside0.mk H
        clear H
        go_upto_block 2 with (fail)
        go_cut [9] (fun v9 wc => ∃ (kq : Nat) (x9_12 : Int), v9 = .int .i64 x9_12 ∧ Aside0 (spec_Break.j3 kq t210 x6_1 x7_1 x8_1 x9_12 = some (r1, r2)) ∧ Aside0 (kq ≤ kj9) ∧ Aside0 (Kd.R (Kd.int .i64) 3 wc w.heap.size (fun _ => True) (.slice (some ad220) t210.length co11) t210) ∧ Aside0 (Kd.R k53 53 wc w.heap.size (fun _ => True) u6 x6_1) ∧ Aside0 (Below w.heap.size w wc))
        case first =>
         have H := HC13.out
         clear HC13
         have H' := Aside0.mk H
         clear H
         go_wp2
         go_loopg [9] kj9 (fun kq v9 w' => ∃ (x9_3 : Int), v9 = .int .i64 x9_3 ∧ Aside0 (spec_Break.l1 kq t210 x6_1 x7_1 x8_1 x9_3 = some (r1, r2)) ∧ Aside0 (kq ≤ kj9) ∧ Aside0 (Kd.R (Kd.int .i64) 3 w' w.heap.size (fun _ => True) (.slice (some ad220) t210.length co11) t210) ∧ Aside0 (Kd.R k53 53 w' w.heap.size (fun _ => True) u6 x6_1) ∧ Aside0 (Below w.heap.size w w'))
         case atStart => exact ⟨(x9_9), (by first | rfl | (simp; done) | (simp [*]; done)), H', ⟨Nat.le_refl _⟩, ⟨zr HO_4⟩, ⟨zr HO_6⟩, ⟨zh HB⟩⟩
         case round =>
          clear H'
          try clear c1
          try clear p2
          try clear q2
          try clear hx2
          try clear c3
          try clear c3b0
          try clear c3b1
          try clear c6
          try clear p6
          try clear c7
          try clear c7b0
          try clear c8
          try clear c8b0
          try clear c12
          try clear c12b0
          try clear c12b1
          try clear hx220_0
          try clear p2
          try clear p220
          try clear p6
          try clear q2
          try clear q220
          obtain ⟨x9_3, rfl, HA, HK3, HO_4, HO_6, HB⟩ := hrel
          cases gk with
          | zero => exact absurd HA.out (by simp [spec_Break.l1])
          | succ k3 =>
           have H := HA.out
           clear HA
           simp only [spec_Break.l1] at H
           by_cases c14 : x9_3 < (t210.length : Int)
           ·rw [if_pos c14] at H
            have c14b0 : decide (x9_3 < (t210.length : Int)) = true := decide_eq_true c14
            clear c14
            (first | rw [c14b0] | (simp only [i64_w, i32_w]; rw [c14b0]) | skip)
            by_cases c15 : x9_3 ≥ x8_1
            ·rw [if_pos c15] at H
             have c15b0 : decide (x8_1 ≤ x9_3) = true := decide_eq_true c15
             clear c15
             by_cases c16 : 0 ≤ x8_1
             ·rw [if_pos c16] at H
              have c16b0 : decide (0 ≤ x8_1) = true := decide_eq_true c16
              clear c16
              by_cases c17 : x8_1 < (t210.length : Int)
              ·rw [if_pos c17] at H
               have c17b0 : decide (x8_1 < (t210.length : Int)) = true := decide_eq_true c17
               clear c17
               replace H := Option.bind_eq_some_iff.mp H
               obtain ⟨t223, A180, H⟩ := H
               replace H : (if t223 = 4 then (spec_Break.j3 k3 t210 x6_1 x7_1 x8_1 x9_3) else (if 0 ≤ x9_3 then ((spec_l01Inner.f k3 (rd t210 x9_3)).bind fun t225 => (if t225 = true then (spec_Break.l1 k3 t210 x6_1 x7_1 x8_1 (wrap64 (x9_3 + 1))) else (if x9_3 > x8_1 then ((spec_Class.f k3 (rd t210 x9_3)).bind fun t227 => (if t227 = 3 then (if 0 ≤ (wrap64 (x9_3 - 1)) then (if (wrap64 (x9_3 - 1)) < (t210.length : Int) then ((spec_l01Inner.f k3 (rd t210 (wrap64 (x9_3 - 1)))).bind fun t229 => (if t229 = true then (if (wrap64 (x9_3 + 1)) < (t210.length : Int) then (if 0 ≤ (wrap64 (x9_3 + 1)) then ((spec_l01Inner.f k3 (rd t210 (wrap64 (x9_3 + 1)))).bind fun t231 => (if t231 = true then (spec_Break.l1 k3 t210 x6_1 x7_1 x8_1 (wrap64 (x9_3 + 1))) else (spec_Break.j3 k3 t210 x6_1 x7_1 x8_1 x9_3))) else (none)) else (spec_Break.j3 k3 t210 x6_1 x7_1 x8_1 x9_3)) else (spec_Break.j3 k3 t210 x6_1 x7_1 x8_1 x9_3))) else (none)) else (none)) else (spec_Break.j3 k3 t210 x6_1 x7_1 x8_1 x9_3))) else (spec_Break.j3 k3 t210 x6_1 x7_1 x8_1 x9_3)))) else (none))) = some (r1, r2) := H
               have A18 := Aside0.mk A180
               clear A180
               by_cases c19 : t223 = 4
               ·rw [if_pos c19] at H
                have c19b0 : (t223 == 4) = true := beq_iff_eq.mpr c19
                have c19b1 : (t223 != 4) = false := bne_eq_false_iff_eq.mpr c19
                clear c19
                have H' := Aside0.mk H
                clear H
                have p222 : 0 ≤ (x8_1 : Int) := of_decide_eq_true zas
                have q222 : x8_1 < (t210.length : Int) := of_decide_eq_true zas
                obtain ⟨ad222, e222, hx222_0⟩ := Kd.at_int (Kd.R_reads' HO_4.out).2.2 x8_1 p222 q222
                obtain rfl : ad220 = ad222 := (by injection e222)
                replace p222 := eq_true p222
                replace q222 := eq_true q222
                go_wp2_with (first | (go_at_call 69; (with_reducible refine (spec_Class.calls k3 (rd t210 x8_1) t223 _ A18.out).mono ?_); rintro e w' ⟨rfl, ⟨nd, rfl⟩⟩))
                go_meet
                case rel => exact ⟨_, (x9_3), (by first | rfl | (simp; done) | (simp [*]; done)), H', ⟨by have := HK1.out; have := HJ9.out; have := HK3.out; first | omega | exact Nat.le_refl _⟩, ⟨zr HO_4⟩, ⟨zr HO_6⟩, ⟨zh HB⟩⟩
               ·rw [if_neg c19] at H
                have c19b0 : (t223 == 4) = false := beq_eq_false_iff_ne.mpr c19
                have c19b1 : (t223 != 4) = true := bne_iff_ne.mpr c19
                by_cases c20 : 0 ≤ x9_3
                ·rw [if_pos c20] at H
                 have c20b0 : decide (0 ≤ x9_3) = true := decide_eq_true c20
                 clear c20
                 replace H := Option.bind_eq_some_iff.mp H
                 obtain ⟨t225, A210, H⟩ := H
                 replace H : (if t225 = true then (spec_Break.l1 k3 t210 x6_1 x7_1 x8_1 (wrap64 (x9_3 + 1))) else (if x9_3 > x8_1 then ((spec_Class.f k3 (rd t210 x9_3)).bind fun t227 => (if t227 = 3 then (if 0 ≤ (wrap64 (x9_3 - 1)) then (if (wrap64 (x9_3 - 1)) < (t210.length : Int) then ((spec_l01Inner.f k3 (rd t210 (wrap64 (x9_3 - 1)))).bind fun t229 => (if t229 = true then (if (wrap64 (x9_3 + 1)) < (t210.length : Int) then (if 0 ≤ (wrap64 (x9_3 + 1)) then ((spec_l01Inner.f k3 (rd t210 (wrap64 (x9_3 + 1)))).bind fun t231 => (if t231 = true then (spec_Break.l1 k3 t210 x6_1 x7_1 x8_1 (wrap64 (x9_3 + 1))) else (spec_Break.j3 k3 t210 x6_1 x7_1 x8_1 x9_3))) else (none)) else (spec_Break.j3 k3 t210 x6_1 x7_1 x8_1 x9_3)) else (spec_Break.j3 k3 t210 x6_1 x7_1 x8_1 x9_3))) else (none)) else (none)) else (spec_Break.j3 k3 t210 x6_1 x7_1 x8_1 x9_3))) else (spec_Break.j3 k3 t210 x6_1 x7_1 x8_1 x9_3))) = some (r1, r2) := H
                 have A21 := Aside0.mk A210
                 clear A210
                 by_cases c22 : t225 = true
                 ·subst c22
                  have H1 : (spec_Break.l1 k3 t210 x6_1 x7_1 x8_1 (wrap64 (x9_3 + 1))) = some (r1, r2) := by rw [if_pos rfl] at H; exact H
                  clear H
                  have H := H1
                  clear H1
                  have H' := Aside0.mk H
                  clear H
                  have p222 : 0 ≤ (x8_1 : Int) := of_decide_eq_true zas
                  have q222 : x8_1 < (t210.length : Int) := of_decide_eq_true zas
                  obtain ⟨ad222, e222, hx222_0⟩ := Kd.at_int (Kd.R_reads' HO_4.out).2.2 x8_1 p222 q222
                  obtain rfl : ad220 = ad222 := (by injection e222)
                  replace p222 := eq_true p222
                  replace q222 := eq_true q222
                  go_wp2_with (first | (go_at_call 69; (with_reducible refine (spec_Class.calls k3 (rd t210 x8_1) t223 _ A18.out).mono ?_); rintro e w' ⟨rfl, ⟨nd, rfl⟩⟩; have p224 : 0 ≤ (x9_3 : Int) := of_decide_eq_true zas; have q224 : x9_3 < (t210.length : Int) := of_decide_eq_true zas; obtain ⟨ad224, e224, hx224_0⟩ := Kd.at_int (Kd.R_reads' HO_4.out).2.2 x9_3 p224 q224; obtain rfl : ad220 = ad224 := (by injection e224); replace p224 := eq_true p224; replace q224 := eq_true q224) | (go_at_call 70; (with_reducible refine (spec_l01Inner.calls k3 (rd t210 x9_3) true _ A21.out).mono ?_); rintro e w' ⟨rfl, ⟨nd, rfl⟩⟩))
                  go_roundg k3
                  case measure => have := HK1.out; have := HJ9.out; have := HK3.out; omega
                  case rel => exact ⟨(wrap64 (x9_3 + 1)), (by first | rfl | (simp; done) | (simp [*]; done)), H', ⟨by have := HK1.out; have := HJ9.out; have := HK3.out; omega⟩, ⟨zr HO_4⟩, ⟨zr HO_6⟩, ⟨zh HB⟩⟩
                 ·replace c22 := Bool.eq_false_iff.mpr c22
                  subst c22
                  have H1 : (if x9_3 > x8_1 then ((spec_Class.f k3 (rd t210 x9_3)).bind fun t227 => (if t227 = 3 then (if 0 ≤ (wrap64 (x9_3 - 1)) then (if (wrap64 (x9_3 - 1)) < (t210.length : Int) then ((spec_l01Inner.f k3 (rd t210 (wrap64 (x9_3 - 1)))).bind fun t229 => (if t229 = true then (if (wrap64 (x9_3 + 1)) < (t210.length : Int) then (if 0 ≤ (wrap64 (x9_3 + 1)) then ((spec_l01Inner.f k3 (rd t210 (wrap64 (x9_3 + 1)))).bind fun t231 => (if t231 = true then (spec_Break.l1 k3 t210 x6_1 x7_1 x8_1 (wrap64 (x9_3 + 1))) else (spec_Break.j3 k3 t210 x6_1 x7_1 x8_1 x9_3))) else (none)) else (spec_Break.j3 k3 t210 x6_1 x7_1 x8_1 x9_3)) else (spec_Break.j3 k3 t210 x6_1 x7_1 x8_1 x9_3))) else (none)) else (none)) else (spec_Break.j3 k3 t210 x6_1 x7_1 x8_1 x9_3))) else (spec_Break.j3 k3 t210 x6_1 x7_1 x8_1 x9_3)) = some (r1, r2) := by rw [if_neg (show ¬ (false = true) by decide)] at H; exact H
                  clear H
                  have H := H1
                  clear H1
                  by_cases c23 : x9_3 > x8_1
                  ·rw [if_pos c23] at H
                   have c23b0 : decide (x8_1 < x9_3) = true := decide_eq_true c23
                   clear c23
                   replace H := Option.bind_eq_some_iff.mp H
                   obtain ⟨t227, A240, H⟩ := H
                   replace H : (if t227 = 3 then (if 0 ≤ (wrap64 (x9_3 - 1)) then (if (wrap64 (x9_3 - 1)) < (t210.length : Int) then ((spec_l01Inner.f k3 (rd t210 (wrap64 (x9_3 - 1)))).bind fun t229 => (if t229 = true then (if (wrap64 (x9_3 + 1)) < (t210.length : Int) then (if 0 ≤ (wrap64 (x9_3 + 1)) then ((spec_l01Inner.f k3 (rd t210 (wrap64 (x9_3 + 1)))).bind fun t231 => (if t231 = true then (spec_Break.l1 k3 t210 x6_1 x7_1 x8_1 (wrap64 (x9_3 + 1))) else (spec_Break.j3 k3 t210 x6_1 x7_1 x8_1 x9_3))) else (none)) else (spec_Break.j3 k3 t210 x6_1 x7_1 x8_1 x9_3)) else (spec_Break.j3 k3 t210 x6_1 x7_1 x8_1 x9_3))) else (none)) else (none)) else (spec_Break.j3 k3 t210 x6_1 x7_1 x8_1 x9_3)) = some (r1, r2) := H
                   have A24 := Aside0.mk A240
                   clear A240
                   by_cases c25 : t227 = 3
                   ·rw [if_pos c25] at H
                    have c25b0 : (t227 == 3) = true := beq_iff_eq.mpr c25
                    have c25b1 : (t227 != 3) = false := bne_eq_false_iff_eq.mpr c25
                    clear c25
                    obtain ⟨ji26, hji26⟩ : ∃ j_ : Int, (wrap64 (x9_3 - 1)) = j_ := ⟨_, rfl⟩
                    replace H : (if 0 ≤ (ji26) then (if (ji26) < (t210.length : Int) then ((spec_l01Inner.f k3 (rd t210 (ji26))).bind fun t229 => (if t229 = true then (if (wrap64 (x9_3 + 1)) < (t210.length : Int) then (if 0 ≤ (wrap64 (x9_3 + 1)) then ((spec_l01Inner.f k3 (rd t210 (wrap64 (x9_3 + 1)))).bind fun t231 => (if t231 = true then (spec_Break.l1 k3 t210 x6_1 x7_1 x8_1 (wrap64 (x9_3 + 1))) else (spec_Break.j3 k3 t210 x6_1 x7_1 x8_1 x9_3))) else (none)) else (spec_Break.j3 k3 t210 x6_1 x7_1 x8_1 x9_3)) else (spec_Break.j3 k3 t210 x6_1 x7_1 x8_1 x9_3))) else (none)) else (none)) = some (r1, r2) := by first | (rw [hji26] at H; exact H) | (simp only [hji26] at H ⊢; exact H)
                    (try rw [hji26] at A18)
                    (try rw [hji26] at A21)
                    (try rw [hji26] at A24)
                    have hji26w : (IntKind.i64.wrap (x9_3 - 1)) = ji26 := (i64_w _).trans hji26
                    by_cases c27 : 0 ≤ (ji26)
                    ·rw [if_pos c27] at H
                     have c27b0 : decide (0 ≤ (ji26)) = true := decide_eq_true c27
                     clear c27
                     by_cases c28 : (ji26) < (t210.length : Int)
                     ·rw [if_pos c28] at H
                      have c28b0 : decide ((ji26) < (t210.length : Int)) = true := decide_eq_true c28
                      clear c28
                      replace H := Option.bind_eq_some_iff.mp H
                      obtain ⟨t229, A290, H⟩ := H
                      replace H : (if t229 = true then (if (wrap64 (x9_3 + 1)) < (t210.length : Int) then (if 0 ≤ (wrap64 (x9_3 + 1)) then ((spec_l01Inner.f k3 (rd t210 (wrap64 (x9_3 + 1)))).bind fun t231 => (if t231 = true then (spec_Break.l1 k3 t210 x6_1 x7_1 x8_1 (wrap64 (x9_3 + 1))) else (spec_Break.j3 k3 t210 x6_1 x7_1 x8_1 x9_3))) else (none)) else (spec_Break.j3 k3 t210 x6_1 x7_1 x8_1 x9_3)) else (spec_Break.j3 k3 t210 x6_1 x7_1 x8_1 x9_3)) = some (r1, r2) := H
                      have A29 := Aside0.mk A290
                      clear A290
                      by_cases c30 : t229 = true
                      ·subst c30
                       have H1 : (if (wrap64 (x9_3 + 1)) < (t210.length : Int) then (if 0 ≤ (wrap64 (x9_3 + 1)) then ((spec_l01Inner.f k3 (rd t210 (wrap64 (x9_3 + 1)))).bind fun t231 => (if t231 = true then (spec_Break.l1 k3 t210 x6_1 x7_1 x8_1 (wrap64 (x9_3 + 1))) else (spec_Break.j3 k3 t210 x6_1 x7_1 x8_1 x9_3))) else (none)) else (spec_Break.j3 k3 t210 x6_1 x7_1 x8_1 x9_3)) = some (r1, r2) := by rw [if_pos rfl] at H; exact H
                       clear H
                       have H := H1
                       clear H1
                       by_cases c31 : (wrap64 (x9_3 + 1)) < (t210.length : Int)
                       ·rw [if_pos c31] at H
                        have c31b0 : decide ((wrap64 (x9_3 + 1)) < (t210.length : Int)) = true := decide_eq_true c31
                        clear c31
                        obtain ⟨ji32, hji32⟩ : ∃ j_ : Int, (wrap64 (x9_3 + 1)) = j_ := ⟨_, rfl⟩
                        replace H : (if 0 ≤ (ji32) then ((spec_l01Inner.f k3 (rd t210 (ji32))).bind fun t231 => (if t231 = true then (spec_Break.l1 k3 t210 x6_1 x7_1 x8_1 ji32) else (spec_Break.j3 k3 t210 x6_1 x7_1 x8_1 x9_3))) else (none)) = some (r1, r2) := by first | (rw [hji32] at H; exact H) | (simp only [hji32] at H ⊢; exact H)
                        (try rw [hji32] at c31b0)
                        (try rw [hji32] at A18)
                        (try rw [hji32] at A21)
                        (try rw [hji32] at A24)
                        (try rw [hji32] at A29)
                        have hji32w : (IntKind.i64.wrap (x9_3 + 1)) = ji32 := (i64_w _).trans hji32
                        by_cases c33 : 0 ≤ (ji32)
                        ·rw [if_pos c33] at H
                         have c33b0 : decide (0 ≤ (ji32)) = true := decide_eq_true c33
                         clear c33
                         replace H := Option.bind_eq_some_iff.mp H
                         obtain ⟨t231, A340, H⟩ := H
                         replace H : (if t231 = true then (spec_Break.l1 k3 t210 x6_1 x7_1 x8_1 ji32) else (spec_Break.j3 k3 t210 x6_1 x7_1 x8_1 x9_3)) = some (r1, r2) := H
                         have A34 := Aside0.mk A340
                         clear A340
                         by_cases c35 : t231 = true
                         ·subst c35
                          have H1 : (spec_Break.l1 k3 t210 x6_1 x7_1 x8_1 ji32) = some (r1, r2) := by rw [if_pos rfl] at H; exact H
                          clear H
                          have H := H1
                          clear H1
                          have H' := Aside0.mk H
                          clear H
                          have p222 : 0 ≤ (x8_1 : Int) := of_decide_eq_true zas
                          have q222 : x8_1 < (t210.length : Int) := of_decide_eq_true zas
                          obtain ⟨ad222, e222, hx222_0⟩ := Kd.at_int (Kd.R_reads' HO_4.out).2.2 x8_1 p222 q222
                          obtain rfl : ad220 = ad222 := (by injection e222)
                          replace p222 := eq_true p222
                          replace q222 := eq_true q222
                          go_wp2_with (first | (go_at_call 69; (with_reducible refine (spec_Class.calls k3 (rd t210 x8_1) t223 _ A18.out).mono ?_); rintro e w' ⟨rfl, ⟨nd, rfl⟩⟩; have p224 : 0 ≤ (x9_3 : Int) := of_decide_eq_true zas; have q224 : x9_3 < (t210.length : Int) := of_decide_eq_true zas; obtain ⟨ad224, e224, hx224_0⟩ := Kd.at_int (Kd.R_reads' HO_4.out).2.2 x9_3 p224 q224; obtain rfl : ad220 = ad224 := (by injection e224); replace p224 := eq_true p224; replace q224 := eq_true q224) | (go_at_call 70; (with_reducible refine (spec_l01Inner.calls k3 (rd t210 x9_3) false _ A21.out).mono ?_); rintro e w' ⟨rfl, ⟨nd, rfl⟩⟩; have p226 : 0 ≤ (x9_3 : Int) := of_decide_eq_true zas; have q226 : x9_3 < (t210.length : Int) := of_decide_eq_true zas; obtain ⟨ad226, e226, hx226_0⟩ := Kd.at_int (Kd.R_reads' HO_4.out).2.2 x9_3 p226 q226; obtain rfl : ad220 = ad226 := (by injection e226); replace p226 := eq_true p226; replace q226 := eq_true q226) | (go_at_call 69; (with_reducible refine (spec_Class.calls k3 (rd t210 x9_3) t227 _ A24.out).mono ?_); rintro e w' ⟨rfl, ⟨nd, rfl⟩⟩; have p228 : 0 ≤ ((ji26) : Int) := of_decide_eq_true zas; have q228 : (ji26) < (t210.length : Int) := of_decide_eq_true zas; obtain ⟨ad228, e228, hx228_0⟩ := Kd.at_int (Kd.R_reads' HO_4.out).2.2 (ji26) p228 q228; obtain rfl : ad220 = ad228 := (by injection e228); replace p228 := eq_true p228; replace q228 := eq_true q228) | (go_at_call 70; (with_reducible refine (spec_l01Inner.calls k3 (rd t210 (ji26)) true _ A29.out).mono ?_); rintro e w' ⟨rfl, ⟨nd, rfl⟩⟩; have p230 : 0 ≤ ((ji32) : Int) := of_decide_eq_true zas; have q230 : (ji32) < (t210.length : Int) := of_decide_eq_true zas; obtain ⟨ad230, e230, hx230_0⟩ := Kd.at_int (Kd.R_reads' HO_4.out).2.2 (ji32) p230 q230; obtain rfl : ad220 = ad230 := (by injection e230); replace p230 := eq_true p230; replace q230 := eq_true q230) | (go_at_call 70; (with_reducible refine (spec_l01Inner.calls k3 (rd t210 (ji32)) true _ A34.out).mono ?_); rintro e w' ⟨rfl, ⟨nd, rfl⟩⟩))
                          go_roundg k3
                          case measure => have := HK1.out; have := HJ9.out; have := HK3.out; omega
                          case rel => exact ⟨(ji32), (by first | rfl | (simp; done) | (simp only [← hji32] <;> (first | rfl | simp)) | (simp [*]; done)), H', ⟨by have := HK1.out; have := HJ9.out; have := HK3.out; omega⟩, ⟨zr HO_4⟩, ⟨zr HO_6⟩, ⟨zh HB⟩⟩
                         ·replace c35 := Bool.eq_false_iff.mpr c35
                          subst c35
                          have H1 : (spec_Break.j3 k3 t210 x6_1 x7_1 x8_1 x9_3) = some (r1, r2) := by rw [if_neg (show ¬ (false = true) by decide)] at H; exact H
                          clear H
                          have H := H1
                          clear H1
                          have H' := Aside0.mk H
                          clear H
                          have p222 : 0 ≤ (x8_1 : Int) := of_decide_eq_true zas
                          have q222 : x8_1 < (t210.length : Int) := of_decide_eq_true zas
                          obtain ⟨ad222, e222, hx222_0⟩ := Kd.at_int (Kd.R_reads' HO_4.out).2.2 x8_1 p222 q222
                          obtain rfl : ad220 = ad222 := (by injection e222)
                          replace p222 := eq_true p222
                          replace q222 := eq_true q222
                          go_wp2_with (first | (go_at_call 69; (with_reducible refine (spec_Class.calls k3 (rd t210 x8_1) t223 _ A18.out).mono ?_); rintro e w' ⟨rfl, ⟨nd, rfl⟩⟩; have p224 : 0 ≤ (x9_3 : Int) := of_decide_eq_true zas; have q224 : x9_3 < (t210.length : Int) := of_decide_eq_true zas; obtain ⟨ad224, e224, hx224_0⟩ := Kd.at_int (Kd.R_reads' HO_4.out).2.2 x9_3 p224 q224; obtain rfl : ad220 = ad224 := (by injection e224); replace p224 := eq_true p224; replace q224 := eq_true q224) | (go_at_call 70; (with_reducible refine (spec_l01Inner.calls k3 (rd t210 x9_3) false _ A21.out).mono ?_); rintro e w' ⟨rfl, ⟨nd, rfl⟩⟩; have p226 : 0 ≤ (x9_3 : Int) := of_decide_eq_true zas; have q226 : x9_3 < (t210.length : Int) := of_decide_eq_true zas; obtain ⟨ad226, e226, hx226_0⟩ := Kd.at_int (Kd.R_reads' HO_4.out).2.2 x9_3 p226 q226; obtain rfl : ad220 = ad226 := (by injection e226); replace p226 := eq_true p226; replace q226 := eq_true q226) | (go_at_call 69; (with_reducible refine (spec_Class.calls k3 (rd t210 x9_3) t227 _ A24.out).mono ?_); rintro e w' ⟨rfl, ⟨nd, rfl⟩⟩; have p228 : 0 ≤ ((ji26) : Int) := of_decide_eq_true zas; have q228 : (ji26) < (t210.length : Int) := of_decide_eq_true zas; obtain ⟨ad228, e228, hx228_0⟩ := Kd.at_int (Kd.R_reads' HO_4.out).2.2 (ji26) p228 q228; obtain rfl : ad220 = ad228 := (by injection e228); replace p228 := eq_true p228; replace q228 := eq_true q228) | (go_at_call 70; (with_reducible refine (spec_l01Inner.calls k3 (rd t210 (ji26)) true _ A29.out).mono ?_); rintro e w' ⟨rfl, ⟨nd, rfl⟩⟩; have p230 : 0 ≤ ((ji32) : Int) := of_decide_eq_true zas; have q230 : (ji32) < (t210.length : Int) := of_decide_eq_true zas; obtain ⟨ad230, e230, hx230_0⟩ := Kd.at_int (Kd.R_reads' HO_4.out).2.2 (ji32) p230 q230; obtain rfl : ad220 = ad230 := (by injection e230); replace p230 := eq_true p230; replace q230 := eq_true q230) | (go_at_call 70; (with_reducible refine (spec_l01Inner.calls k3 (rd t210 (ji32)) false _ A34.out).mono ?_); rintro e w' ⟨rfl, ⟨nd, rfl⟩⟩))
                          go_meet
                          case rel => exact ⟨_, (x9_3), (by first | rfl | (simp; done) | (simp [*]; done)), H', ⟨by have := HK1.out; have := HJ9.out; have := HK3.out; first | omega | exact Nat.le_refl _⟩, ⟨zr HO_4⟩, ⟨zr HO_6⟩, ⟨zh HB⟩⟩
                        ·rw [if_neg c33] at H
                         exact absurd H (by simp)
                       ·rw [if_neg c31] at H
                        have c31b0 : decide ((wrap64 (x9_3 + 1)) < (t210.length : Int)) = false := decide_eq_false c31
                        clear c31
                        have H' := Aside0.mk H
                        clear H
                        have p222 : 0 ≤ (x8_1 : Int) := of_decide_eq_true zas
                        have q222 : x8_1 < (t210.length : Int) := of_decide_eq_true zas
                        obtain ⟨ad222, e222, hx222_0⟩ := Kd.at_int (Kd.R_reads' HO_4.out).2.2 x8_1 p222 q222
                        obtain rfl : ad220 = ad222 := (by injection e222)
                        replace p222 := eq_true p222
                        replace q222 := eq_true q222
                        go_wp2_with (first | (go_at_call 69; (with_reducible refine (spec_Class.calls k3 (rd t210 x8_1) t223 _ A18.out).mono ?_); rintro e w' ⟨rfl, ⟨nd, rfl⟩⟩; have p224 : 0 ≤ (x9_3 : Int) := of_decide_eq_true zas; have q224 : x9_3 < (t210.length : Int) := of_decide_eq_true zas; obtain ⟨ad224, e224, hx224_0⟩ := Kd.at_int (Kd.R_reads' HO_4.out).2.2 x9_3 p224 q224; obtain rfl : ad220 = ad224 := (by injection e224); replace p224 := eq_true p224; replace q224 := eq_true q224) | (go_at_call 70; (with_reducible refine (spec_l01Inner.calls k3 (rd t210 x9_3) false _ A21.out).mono ?_); rintro e w' ⟨rfl, ⟨nd, rfl⟩⟩; have p226 : 0 ≤ (x9_3 : Int) := of_decide_eq_true zas; have q226 : x9_3 < (t210.length : Int) := of_decide_eq_true zas; obtain ⟨ad226, e226, hx226_0⟩ := Kd.at_int (Kd.R_reads' HO_4.out).2.2 x9_3 p226 q226; obtain rfl : ad220 = ad226 := (by injection e226); replace p226 := eq_true p226; replace q226 := eq_true q226) | (go_at_call 69; (with_reducible refine (spec_Class.calls k3 (rd t210 x9_3) t227 _ A24.out).mono ?_); rintro e w' ⟨rfl, ⟨nd, rfl⟩⟩; have p228 : 0 ≤ ((ji26) : Int) := of_decide_eq_true zas; have q228 : (ji26) < (t210.length : Int) := of_decide_eq_true zas; obtain ⟨ad228, e228, hx228_0⟩ := Kd.at_int (Kd.R_reads' HO_4.out).2.2 (ji26) p228 q228; obtain rfl : ad220 = ad228 := (by injection e228); replace p228 := eq_true p228; replace q228 := eq_true q228) | (go_at_call 70; (with_reducible refine (spec_l01Inner.calls k3 (rd t210 (ji26)) true _ A29.out).mono ?_); rintro e w' ⟨rfl, ⟨nd, rfl⟩⟩))
                        go_meet
                        case rel => exact ⟨_, (x9_3), (by first | rfl | (simp; done) | (simp [*]; done)), H', ⟨by have := HK1.out; have := HJ9.out; have := HK3.out; first | omega | exact Nat.le_refl _⟩, ⟨zr HO_4⟩, ⟨zr HO_6⟩, ⟨zh HB⟩⟩
                      ·replace c30 := Bool.eq_false_iff.mpr c30
                       subst c30
                       have H1 : (spec_Break.j3 k3 t210 x6_1 x7_1 x8_1 x9_3) = some (r1, r2) := by rw [if_neg (show ¬ (false = true) by decide)] at H; exact H
                       clear H
                       have H := H1
                       clear H1
                       have H' := Aside0.mk H
                       clear H
                       have p222 : 0 ≤ (x8_1 : Int) := of_decide_eq_true zas
                       have q222 : x8_1 < (t210.length : Int) := of_decide_eq_true zas
                       obtain ⟨ad222, e222, hx222_0⟩ := Kd.at_int (Kd.R_reads' HO_4.out).2.2 x8_1 p222 q222
                       obtain rfl : ad220 = ad222 := (by injection e222)
                       replace p222 := eq_true p222
                       replace q222 := eq_true q222
                       go_wp2_with (first | (go_at_call 69; (with_reducible refine (spec_Class.calls k3 (rd t210 x8_1) t223 _ A18.out).mono ?_); rintro e w' ⟨rfl, ⟨nd, rfl⟩⟩; have p224 : 0 ≤ (x9_3 : Int) := of_decide_eq_true zas; have q224 : x9_3 < (t210.length : Int) := of_decide_eq_true zas; obtain ⟨ad224, e224, hx224_0⟩ := Kd.at_int (Kd.R_reads' HO_4.out).2.2 x9_3 p224 q224; obtain rfl : ad220 = ad224 := (by injection e224); replace p224 := eq_true p224; replace q224 := eq_true q224) | (go_at_call 70; (with_reducible refine (spec_l01Inner.calls k3 (rd t210 x9_3) false _ A21.out).mono ?_); rintro e w' ⟨rfl, ⟨nd, rfl⟩⟩; have p226 : 0 ≤ (x9_3 : Int) := of_decide_eq_true zas; have q226 : x9_3 < (t210.length : Int) := of_decide_eq_true zas; obtain ⟨ad226, e226, hx226_0⟩ := Kd.at_int (Kd.R_reads' HO_4.out).2.2 x9_3 p226 q226; obtain rfl : ad220 = ad226 := (by injection e226); replace p226 := eq_true p226; replace q226 := eq_true q226) | (go_at_call 69; (with_reducible refine (spec_Class.calls k3 (rd t210 x9_3) t227 _ A24.out).mono ?_); rintro e w' ⟨rfl, ⟨nd, rfl⟩⟩; have p228 : 0 ≤ ((ji26) : Int) := of_decide_eq_true zas; have q228 : (ji26) < (t210.length : Int) := of_decide_eq_true zas; obtain ⟨ad228, e228, hx228_0⟩ := Kd.at_int (Kd.R_reads' HO_4.out).2.2 (ji26) p228 q228; obtain rfl : ad220 = ad228 := (by injection e228); replace p228 := eq_true p228; replace q228 := eq_true q228) | (go_at_call 70; (with_reducible refine (spec_l01Inner.calls k3 (rd t210 (ji26)) false _ A29.out).mono ?_); rintro e w' ⟨rfl, ⟨nd, rfl⟩⟩))
                       go_meet
                       case rel => exact ⟨_, (x9_3), (by first | rfl | (simp; done) | (simp [*]; done)), H', ⟨by have := HK1.out; have := HJ9.out; have := HK3.out; first | omega | exact Nat.le_refl _⟩, ⟨zr HO_4⟩, ⟨zr HO_6⟩, ⟨zh HB⟩⟩
                     ·rw [if_neg c28] at H
                      exact absurd H (by simp)
                    ·rw [if_neg c27] at H
                     exact absurd H (by simp)
                   ·rw [if_neg c25] at H
                    have c25b0 : (t227 == 3) = false := beq_eq_false_iff_ne.mpr c25
                    have c25b1 : (t227 != 3) = true := bne_iff_ne.mpr c25
                    have H' := Aside0.mk H
                    clear H
                    have p222 : 0 ≤ (x8_1 : Int) := of_decide_eq_true zas
                    have q222 : x8_1 < (t210.length : Int) := of_decide_eq_true zas
                    obtain ⟨ad222, e222, hx222_0⟩ := Kd.at_int (Kd.R_reads' HO_4.out).2.2 x8_1 p222 q222
                    obtain rfl : ad220 = ad222 := (by injection e222)
                    replace p222 := eq_true p222
                    replace q222 := eq_true q222
                    go_wp2_with (first | (go_at_call 69; (with_reducible refine (spec_Class.calls k3 (rd t210 x8_1) t223 _ A18.out).mono ?_); rintro e w' ⟨rfl, ⟨nd, rfl⟩⟩; have p224 : 0 ≤ (x9_3 : Int) := of_decide_eq_true zas; have q224 : x9_3 < (t210.length : Int) := of_decide_eq_true zas; obtain ⟨ad224, e224, hx224_0⟩ := Kd.at_int (Kd.R_reads' HO_4.out).2.2 x9_3 p224 q224; obtain rfl : ad220 = ad224 := (by injection e224); replace p224 := eq_true p224; replace q224 := eq_true q224) | (go_at_call 70; (with_reducible refine (spec_l01Inner.calls k3 (rd t210 x9_3) false _ A21.out).mono ?_); rintro e w' ⟨rfl, ⟨nd, rfl⟩⟩; have p226 : 0 ≤ (x9_3 : Int) := of_decide_eq_true zas; have q226 : x9_3 < (t210.length : Int) := of_decide_eq_true zas; obtain ⟨ad226, e226, hx226_0⟩ := Kd.at_int (Kd.R_reads' HO_4.out).2.2 x9_3 p226 q226; obtain rfl : ad220 = ad226 := (by injection e226); replace p226 := eq_true p226; replace q226 := eq_true q226) | (go_at_call 69; (with_reducible refine (spec_Class.calls k3 (rd t210 x9_3) t227 _ A24.out).mono ?_); rintro e w' ⟨rfl, ⟨nd, rfl⟩⟩))
                    go_meet
                    case rel => exact ⟨_, (x9_3), (by first | rfl | (simp; done) | (simp [*]; done)), H', ⟨by have := HK1.out; have := HJ9.out; have := HK3.out; first | omega | exact Nat.le_refl _⟩, ⟨zr HO_4⟩, ⟨zr HO_6⟩, ⟨zh HB⟩⟩
                  ·rw [if_neg c23] at H
                   have c23b0 : decide (x8_1 < x9_3) = false := decide_eq_false c23
                   clear c23
                   have H' := Aside0.mk H
                   clear H
                   have p222 : 0 ≤ (x8_1 : Int) := of_decide_eq_true zas
                   have q222 : x8_1 < (t210.length : Int) := of_decide_eq_true zas
                   obtain ⟨ad222, e222, hx222_0⟩ := Kd.at_int (Kd.R_reads' HO_4.out).2.2 x8_1 p222 q222
                   obtain rfl : ad220 = ad222 := (by injection e222)
                   replace p222 := eq_true p222
                   replace q222 := eq_true q222
                   go_wp2_with (first | (go_at_call 69; (with_reducible refine (spec_Class.calls k3 (rd t210 x8_1) t223 _ A18.out).mono ?_); rintro e w' ⟨rfl, ⟨nd, rfl⟩⟩; have p224 : 0 ≤ (x9_3 : Int) := of_decide_eq_true zas; have q224 : x9_3 < (t210.length : Int) := of_decide_eq_true zas; obtain ⟨ad224, e224, hx224_0⟩ := Kd.at_int (Kd.R_reads' HO_4.out).2.2 x9_3 p224 q224; obtain rfl : ad220 = ad224 := (by injection e224); replace p224 := eq_true p224; replace q224 := eq_true q224) | (go_at_call 70; (with_reducible refine (spec_l01Inner.calls k3 (rd t210 x9_3) false _ A21.out).mono ?_); rintro e w' ⟨rfl, ⟨nd, rfl⟩⟩))
                   go_meet
                   case rel => exact ⟨_, (x9_3), (by first | rfl | (simp; done) | (simp [*]; done)), H', ⟨by have := HK1.out; have := HJ9.out; have := HK3.out; first | omega | exact Nat.le_refl _⟩, ⟨zr HO_4⟩, ⟨zr HO_6⟩, ⟨zh HB⟩⟩
                ·rw [if_neg c20] at H
                 exact absurd H (by simp)
              ·rw [if_neg c17] at H
               exact absurd H (by simp)
             ·rw [if_neg c16] at H
              exact absurd H (by simp)
            ·rw [if_neg c15] at H
             have c15b0 : decide (x8_1 ≤ x9_3) = false := decide_eq_false c15
             clear c15
             have H' := Aside0.mk H
             clear H
             go_wp2
             go_meet
             case rel => exact ⟨_, (x9_3), (by first | rfl | (simp; done) | (simp [*]; done)), H', ⟨by have := HK1.out; have := HJ9.out; have := HK3.out; first | omega | exact Nat.le_refl _⟩, ⟨zr HO_4⟩, ⟨zr HO_6⟩, ⟨zh HB⟩⟩
           ·rw [if_neg c14] at H
            have c14b0 : decide (x9_3 < (t210.length : Int)) = false := decide_eq_false c14
            clear c14
            (first | rw [c14b0] | (simp only [i64_w, i32_w]; rw [c14b0]) | skip)
            have H' := Aside0.mk H
            clear H
            go_wp2
            go_meet
            case rel => exact ⟨_, (x9_3), (by first | rfl | (simp; done) | (simp [*]; done)), H', ⟨by have := HK1.out; have := HJ9.out; have := HK3.out; first | omega | exact Nat.le_refl _⟩, ⟨zr HO_4⟩, ⟨zr HO_6⟩, ⟨zh HB⟩⟩
        case rest =>
         clear HC13
         try clear c1
         try clear c2
         try clear p2
         try clear q2
         try clear hx2
         try clear c3
         try clear c3b0
         try clear c3b1
         try clear c6
         try clear p6
         try clear c7
         try clear c7b0
         try clear c8
         try clear c8b0
         try clear c12
         try clear c12b0
         try clear c12b1
         try clear c14
         try clear c14b0
         try clear c15
         try clear c15b0
         try clear c16
         try clear c16b0
         try clear c17
         try clear c17b0
         try clear c19
         try clear c19b0
         try clear c19b1
         try clear c20
         try clear c20b0
         try clear c22
         try clear p22
         try clear q22
         try clear hx22
         try clear c23
         try clear c23b0
         try clear p23
         try clear q23
         try clear hx23
         try clear c25
         try clear c25b0
         try clear c25b1
         try clear c27
         try clear c27b0
         try clear c28
         try clear c28b0
         try clear c30
         try clear c31
         try clear c31b0
         try clear c32
         try clear c33
         try clear c33b0
         try clear c35
         try clear hx220_0
         try clear hx222_0
         try clear hx224_0
         try clear hx226_0
         try clear hx228_0
         try clear hx230_0
         try clear p2
         try clear p220
         try clear p222
         try clear p224
         try clear p226
         try clear p228
         try clear p230
         try clear p6
         try clear q2
         try clear q220
         try clear q222
         try clear q224
         try clear q226
         try clear q228
         try clear q230
         obtain ⟨kq, x9_12, rfl, HA, HJ12, HO_4, HO_6, HB⟩ := hcut
         cases kq with
         | zero => exact absurd HA.out (by simp [spec_Break.j3])
         | succ kj12 =>
          have H := HA.out
          clear HA
          simp only [spec_Break.j3] at H
          by_cases c36 : x9_12 = x8_1
          ·rw [if_pos c36] at H
           have c36b0 : (x9_12 == x8_1) = true := beq_iff_eq.mpr c36
           have c36b1 : (x9_12 != x8_1) = false := bne_eq_false_iff_eq.mpr c36
           clear c36
           by_cases c37 : 0 ≤ x8_1
           ·rw [if_pos c37] at H
            have c37b0 : decide (0 ≤ x8_1) = true := decide_eq_true c37
            clear c37
            by_cases c38 : x8_1 < (t210.length : Int)
            ·rw [if_pos c38] at H
             have c38b0 : decide (x8_1 < (t210.length : Int)) = true := decide_eq_true c38
             clear c38
             replace H := Option.bind_eq_some_iff.mp H
             obtain ⟨t233, A390, H⟩ := H
             replace H : (spec_Break.l0 kj12 t210 x6_1 (wrap64 (x7_1 + (t233.length : Int))) (wrap64 (x8_1 + 1))) = some (r1, r2) := H
             have A39 := Aside0.mk A390
             clear A390
             have H' := Aside0.mk H
             clear H
             have p232 : 0 ≤ (x8_1 : Int) := of_decide_eq_true zas
             have q232 : x8_1 < (t210.length : Int) := of_decide_eq_true zas
             obtain ⟨ad232, e232, hx232_0⟩ := Kd.at_int (Kd.R_reads' HO_4.out).2.2 x8_1 p232 q232
             obtain rfl : ad220 = ad232 := (by injection e232)
             replace p232 := eq_true p232
             replace q232 := eq_true q232
             go_wp2_with (first | ((with_reducible refine gate_callee (f := 71) rfl ?_); refine goesL_ (some 104) rfl rfl Tryd.func71 (by kernel_rfl) rfl #[.int .i64 (rd t210 x8_1)] rfl zar ?_; (with_reducible refine (spec_l01Bytes.calls (rd t210 x8_1) t233 _ A39.out).mono ?_); rintro e w40 ⟨v234, rfl, ho0, hb⟩; refine ⟨_, rfl, ?_⟩; have n0_ := Aside0.mk (Kd.R_below (zr HO_4) hb); have n1_ := Aside0.mk (Kd.R_below (zr HO_6) hb); have n2_ := Aside0.mk (Kd.R_lower ho0 (below_size (zh HB))); have n3_ := Aside0.mk (below_step (zh HB) hb); clear HO_4; clear HO_6; clear HB; have HO_4 := n0_; have HO_6 := n1_; have HO235 := n2_; have HB := n3_; clear n0_ n1_ n2_ n3_; (try clear hb); (try clear hb2); (try clear hk); (try clear hi); (try clear ho0); obtain ⟨Ao41, co41, eo41⟩ := Kd.R_slice HO235.out; subst eo41))
             go_roundg kj12
             case measure => have := HK1.out; have := HJ9.out; have := HJ12.out; omega
             case rel => exact ⟨(x6_1), (wrap64 (x7_1 + (t233.length : Int))), (wrap64 (x8_1 + 1)), (by first | rfl | (simp; done) | (simp [*]; done)), (by first | rfl | (simp; done) | (simp [*]; done)), H', ⟨by have := HK1.out; have := HJ9.out; have := HJ12.out; omega⟩, ⟨zr HO_4⟩, ⟨zr HO_6⟩, ⟨zh HB⟩⟩
            ·rw [if_neg c38] at H
             exact absurd H (by simp)
           ·rw [if_neg c37] at H
            exact absurd H (by simp)
          ·rw [if_neg c36] at H
           have c36b0 : (x9_12 == x8_1) = false := beq_eq_false_iff_ne.mpr c36
           have c36b1 : (x9_12 != x8_1) = true := bne_iff_ne.mpr c36
           by_cases c42 : 0 ≤ x8_1
           ·rw [if_pos c42] at H
            have c42b0 := eq_true c42
            have c42b1 : decide (0 ≤ x8_1) = true := decide_eq_true c42
            clear c42
            by_cases c43 : x8_1 ≤ x9_12
            ·rw [if_pos c43] at H
             have c43b0 := eq_true c43
             have c43b1 : decide (x8_1 ≤ x9_12) = true := decide_eq_true c43
             clear c43
             by_cases c44 : x9_12 ≤ (t210.length : Int)
             ·rw [if_pos c44] at H
              have c44b0 := eq_true c44
              have c44b1 : decide (x9_12 ≤ (t210.length : Int)) = true := decide_eq_true c44
              clear c44
              obtain ⟨y236, hy236⟩ : ∃ y_ : List Int, y_ = ((t210.take (x9_12 : Int).toNat).drop (x8_1 : Int).toNat) := ⟨_, rfl⟩
              replace H : ((spec_l01Encode.f kj12 y236).bind fun t240 => (if x6_1.length < 3518437208883 then ((some (x6_1 ++ [(⟨t240, (x6_1.length : Int), x7_1, wrap64 (x7_1 + (t240.size : Int))⟩ : S53)] : List (S53))).bind fun y241 => (if (y241.length : Int) > 8192 then (some ((([] : List (S53))), 11)) else (spec_Break.l0 kj12 t210 y241 (wrap64 (x7_1 + (t240.size : Int))) x9_12))) else (none))) = some (r1, r2) := by first | (rw [hy236]; with_reducible exact H) | (have H2_ := (Option.bind_some _ _).symm.trans H; rw [hy236]; with_reducible exact H2_) | (have H2_ := (Option.bind_some _ _).symm.trans H; with_reducible exact H2_) | with_reducible exact H | (rw [hy236]; exact H) | exact H
              have Ny236 := Aside0.mk hy236
              clear hy236
              replace H := Option.bind_eq_some_iff.mp H
              obtain ⟨t240, A450, H⟩ := H
              replace H : (if x6_1.length < 3518437208883 then ((some (x6_1 ++ [(⟨t240, (x6_1.length : Int), x7_1, wrap64 (x7_1 + (t240.size : Int))⟩ : S53)] : List (S53))).bind fun y241 => (if (y241.length : Int) > 8192 then (some ((([] : List (S53))), 11)) else (spec_Break.l0 kj12 t210 y241 (wrap64 (x7_1 + (t240.size : Int))) x9_12))) else (none)) = some (r1, r2) := H
              have A45 := Aside0.mk A450
              clear A450
              by_cases c46 : x6_1.length < 3518437208883
              ·rw [if_pos c46] at H
               have LMc46 := Aside0.mk c46
               clear c46
               obtain ⟨y241, hy241⟩ : ∃ y_ : List (S53), y_ = (x6_1 ++ [(⟨t240, (x6_1.length : Int), x7_1, wrap64 (x7_1 + (t240.size : Int))⟩ : S53)]) := ⟨_, rfl⟩
               replace H : (if (y241.length : Int) > 8192 then (some ((([] : List (S53))), 11)) else (spec_Break.l0 kj12 t210 y241 (wrap64 (x7_1 + (t240.size : Int))) x9_12)) = some (r1, r2) := by first | (rw [hy241]; with_reducible exact H) | (have H2_ := (Option.bind_some _ _).symm.trans H; rw [hy241]; with_reducible exact H2_) | (have H2_ := (Option.bind_some _ _).symm.trans H; with_reducible exact H2_) | with_reducible exact H | (rw [hy241]; exact H) | exact H
               have Ny241 := Aside0.mk hy241
               clear hy241
               by_cases c47 : (y241.length : Int) > 8192
               ·rw [if_pos c47] at H
                have c47b0 : decide (8192 < (y241.length : Int)) = true := decide_eq_true c47
                have c47b1 : decide (8192 < y241.length) = true := decide_eq_true (by omega)
                clear c47
                obtain ⟨y244, hy244⟩ : ∃ y_ : List (S53), y_ = (([] : List (S53))) := ⟨_, rfl⟩
                replace H : (some (y244, 11)) = some (r1, r2) := by first | (rw [hy244]; with_reducible exact H) | (have H2_ := (Option.bind_some _ _).symm.trans H; rw [hy244]; with_reducible exact H2_) | (have H2_ := (Option.bind_some _ _).symm.trans H; with_reducible exact H2_) | with_reducible exact H | (rw [hy244]; exact H) | exact H
                have Ny244 := Aside0.mk hy244
                clear hy244
                simp only [Option.some.injEq, Prod.mk.injEq] at H
                obtain ⟨rfl, rfl⟩ := H
                have q48 : (x9_12 : Int) ≤ ((t210.length : Int) : Int) := of_decide_eq_true zas
                obtain ⟨i048, hi048, _, hsz48, _⟩ := info_parts info3
                have hroom48 : t210.length ≤ co11 := (Kd.R_reads' HO_4.out).2.1
                have hC48 : Kd.C (Kd.int .i64) _ (some ad220) t210.length t210 := (Kd.R_reads' HO_4.out).2.2
                have ql48 : (x8_1 : Int) ≤ (x9_12 : Int) := of_decide_eq_true zas
                have q048 : (0 : Int) ≤ (x8_1 : Int) := of_decide_eq_true zas
                have hcut48 := cut_mid (P := Tryd.prog) 22 3 .i64 .i64 Tryd.underlying22 hi048 1 hsz48 (some ad220) t210.length co11 x8_1 x9_12 q048 ql48 q48 hroom48
                have hr48 := Kd.C_mid (lo := (x8_1 : Int).toNat) (hi := (x9_12 : Int).toNat) (c := co11) hC48 (by omega) (by omega) hroom48
                obtain ⟨A48, hA48⟩ : ∃ A1, A1 = (if co11 = (x8_1 : Int).toNat then (some ad220) else ((some ad220) : Option Addr).map (·.add ((x8_1 : Int).toNat * 1))) := ⟨_, rfl⟩
                obtain ⟨c48, hc48⟩ : ∃ c1, c1 = co11 - (x8_1 : Int).toNat := ⟨_, rfl⟩
                have hy48 : y236.length = (x9_12 : Int).toNat - (x8_1 : Int).toNat := (by rw [Ny236.out, List.length_drop, List.length_take] <;> omega)
                rw [show ((t210).take (x9_12 : Int).toNat).drop (x8_1 : Int).toNat = y236 from Ny236.out.symm] at hr48
                replace hr48 : Kd.C (Kd.int .i64) _ A48 y236.length y236 := (by rw [hA48]; exact hr48)
                rw [← hy48, ← hA48, ← hc48] at hcut48
                have HR239 := Aside0.mk hr48
                have HC239 := Aside0.mk (show y236.length ≤ c48 from by rw [hy48, hc48]; exact Nat.sub_le_sub_right (Nat.le_trans (by omega) hroom48) _)
                clear hr48 hC48 hroom48 hi048 hsz48 hc48
                have KY48 := Aside0.mk hy48
                have KA48 := Aside0.mk hA48
                clear hy48 hA48
                have KL48 := Aside0.mk (show (x9_12 : Int).toNat ≤ t210.length from by omega)
                have KM48 := Aside0.mk (show (x8_1 : Int).toNat ≤ (x9_12 : Int).toNat from by omega)
                replace q48 := eq_true q48
                go_wp2_with (first | ((with_reducible refine gate_callee (f := 66) rfl ?_); refine goesL_ (some 113) rfl rfl Tryd.func66 (by kernel_rfl) rfl #[.slice A48 y236.length c48] rfl zar ?_; (with_reducible refine (spec_l01Encode.calls kj12 _ _ y236 t240 _ ?side1 ?side2 A45.out).mono ?_); (case side1 => repeat (first | exact (by repeat (first | (with_reducible exact HR239.out) | (with_reducible refine Kd.C_alloc ?_ _) | (with_reducible refine Kd.C_drewN ?_ _) | (with_reducible refine Kd.C_drew ?_) | exact HR239.out)) | (with_reducible refine Kd.C_alloc ?_ _) | (with_reducible refine Kd.C_drewN ?_ _) | (with_reducible refine Kd.C_drew ?_))); (case side2 => exact HC239.out); rintro e w49 ⟨rfl, hb⟩; refine ⟨_, rfl, ?_⟩; have n0_ := Aside0.mk (Kd.R_below (zr HO_4) hb); have n1_ := Aside0.mk (Kd.R_below (zr HO_6) hb); have n2_ := Aside0.mk (Kd.C_below (by repeat (first | (with_reducible exact HR239.out) | (with_reducible refine Kd.C_alloc ?_ _) | (with_reducible refine Kd.C_drewN ?_ _) | (with_reducible refine Kd.C_drew ?_) | exact HR239.out)) hb); have n3_ := Aside0.mk (below_step (zh HB) hb); clear HO_4; clear HO_6; clear HR239; clear HB; have HO_4 := n0_; have HO_6 := n1_; have HR239 := n2_; have HB := n3_; clear n0_ n1_ n2_ n3_; (try clear hb); (try clear hb2); (try clear hk); (try clear hi); obtain ⟨Ao50, co50, eo50⟩ := Kd.R_slice HO_6.out; subst eo50) | ((with_reducible refine gate_builtin (b := .append) (xs := #[.tmp 114, .tmp 124]) rfl ?_); (try (refine gate_guard (by rfl) ?_; dsimp only)); at_builtin; refine Kd.R_append k53 (w0 := w) w.heap.size rfl (.tmp 114) (.tmp 124) 45 53 (.agg #[(.string ⟨#[]⟩), (.int .i64 0), (.int .i64 0), (.int .i64 0)]) 40 rfl Tryd.underlying45 info53 rfl (by decide) (by omega) (.slice Ao50 x6_1.length co50) x6_1 (⟨t240, (x6_1.length : Int), x7_1, wrap64 (x7_1 + (t240.size : Int))⟩ : S53) [.string t240, .int .i64 (x6_1.length : Int), .int .i64 x7_1, .int .i64 (wrap64 (x7_1 + (t240.size : Int)))] (fun _ => True) (fun _ => False) rfl rfl ?aP (fun _ hk => hk.elim) ?aF ?aO ?aB ?aS ?aL ?_; (case aP => exact k53_mkM _ _ _ (⟨t240, (x6_1.length : Int), x7_1, wrap64 (x7_1 + (t240.size : Int))⟩ : S53)); (case aB => exact (zh HB)); (case aF => exact (fun _ _ => trivial)); (case aO => exact (zr HO_6)); (case aS => exact (below_size (zh HB))); (case aL => have := LMc46.out; omega); intro v242 w51 ho hb hg hat; rw [← Ny241.out] at ho; have n0_ := Aside0.mk (Kd.R_over' (zr HO_4) (Kd.R_typed (zr HO_6)) (by decide) hg); have n1_ := Aside0.mk (hb); have n2_ := Aside0.mk ((show Kd.C (Kd.int .i64) w51 A48 y236.length y236 from by rw [Ny236.out, KA48.out]; exact Kd.C_mid (lo := (x8_1 : Int).toNat) (hi := (x9_12 : Int).toNat) (c := co11) ((Kd.R_reads' (Kd.R_over' (zr HO_4) (Kd.R_typed (zr HO_6)) (by decide) hg)).2.2) KM48.out KL48.out ((Kd.R_reads' (Kd.R_over' (zr HO_4) (Kd.R_typed (zr HO_6)) (by decide) hg)).2.1))); have n3_ := Aside0.mk (ho); clear HO_4; clear HB; clear HR239; clear HO_6; have HO_4 := n0_; have HB := n1_; have HR239 := n2_; have HO243 := n3_; clear n0_ n1_ n2_ n3_; clear ho hb hg hat; obtain ⟨Ao52, co52, eo52⟩ := Kd.R_slice HO243.out; subst eo52) | ((with_reducible refine gate_dst (N := 129) rfl ?_); (try (refine gate_guard (by rfl) ?_; dsimp only)); refine Kd.R_lit k53 _ 53 ?hg (N := 129) ?hd (xs := ([] : List (S53))) (inner := []) (ok := fun _ => True) (okp := fun _ => True) ?hr ?hp (fun _ hk => hk) trivial (Below.refl _ _) (Nat.le_refl _) (by simp) ?_; (case hd => rfl); (case hg => rfl); (case hr => first | (go_simp; done) | (go_simp; rfl)); (case hp => exact (Reps.none _ _)); intro v245 w53 ho54 hb hg_ hnew_; clear hg_ hnew_; (first | rw [← Ny244.out] at ho54 | (simp only [Int.reduceToNat] at ho54; rw [← Ny244.out] at ho54)); have n0_ := Aside0.mk (Kd.R_below (zr HO_4) hb); have n1_ := Aside0.mk (Kd.R_elder' (zr HO243) (Kd.R_base ho54) hb); have n2_ := Aside0.mk (Kd.R_lower (Kd.R_new' ho54 (Kd.R_lt (zr HO243))) (below_size (zh HB))); have n3_ := Aside0.mk (Kd.C_below (by repeat (first | (with_reducible exact HR239.out) | (with_reducible refine Kd.C_alloc ?_ _) | (with_reducible refine Kd.C_drewN ?_ _) | (with_reducible refine Kd.C_drew ?_) | exact HR239.out)) hb); have n4_ := Aside0.mk (below_step (zh HB) hb); clear HO_4; clear HO243; clear HR239; clear HB; have HO_4 := n0_; have HO243 := n1_; have HO246 := n2_; have HR239 := n3_; have HB := n4_; clear n0_ n1_ n2_ n3_ n4_; clear hb ho54))
                go_ret2
                exact ⟨_, zre, Kd.R_mono (zr HO246) (fun _ hk => trivial), zh HB⟩
               ·rw [if_neg c47] at H
                have c47b0 : decide (8192 < (y241.length : Int)) = false := decide_eq_false c47
                have c47b1 : decide (8192 < y241.length) = false := decide_eq_false (by omega)
                clear c47
                have H' := Aside0.mk H
                clear H
                have q55 : (x9_12 : Int) ≤ ((t210.length : Int) : Int) := of_decide_eq_true zas
                obtain ⟨i055, hi055, _, hsz55, _⟩ := info_parts info3
                have hroom55 : t210.length ≤ co11 := (Kd.R_reads' HO_4.out).2.1
                have hC55 : Kd.C (Kd.int .i64) _ (some ad220) t210.length t210 := (Kd.R_reads' HO_4.out).2.2
                have ql55 : (x8_1 : Int) ≤ (x9_12 : Int) := of_decide_eq_true zas
                have q055 : (0 : Int) ≤ (x8_1 : Int) := of_decide_eq_true zas
                have hcut55 := cut_mid (P := Tryd.prog) 22 3 .i64 .i64 Tryd.underlying22 hi055 1 hsz55 (some ad220) t210.length co11 x8_1 x9_12 q055 ql55 q55 hroom55
                have hr55 := Kd.C_mid (lo := (x8_1 : Int).toNat) (hi := (x9_12 : Int).toNat) (c := co11) hC55 (by omega) (by omega) hroom55
                obtain ⟨A55, hA55⟩ : ∃ A1, A1 = (if co11 = (x8_1 : Int).toNat then (some ad220) else ((some ad220) : Option Addr).map (·.add ((x8_1 : Int).toNat * 1))) := ⟨_, rfl⟩
                obtain ⟨c55, hc55⟩ : ∃ c1, c1 = co11 - (x8_1 : Int).toNat := ⟨_, rfl⟩
                have hy55 : y236.length = (x9_12 : Int).toNat - (x8_1 : Int).toNat := (by rw [Ny236.out, List.length_drop, List.length_take] <;> omega)
                rw [show ((t210).take (x9_12 : Int).toNat).drop (x8_1 : Int).toNat = y236 from Ny236.out.symm] at hr55
                replace hr55 : Kd.C (Kd.int .i64) _ A55 y236.length y236 := (by rw [hA55]; exact hr55)
                rw [← hy55, ← hA55, ← hc55] at hcut55
                have HR239 := Aside0.mk hr55
                have HC239 := Aside0.mk (show y236.length ≤ c55 from by rw [hy55, hc55]; exact Nat.sub_le_sub_right (Nat.le_trans (by omega) hroom55) _)
                clear hr55 hC55 hroom55 hi055 hsz55 hc55
                have KY55 := Aside0.mk hy55
                have KA55 := Aside0.mk hA55
                clear hy55 hA55
                have KL55 := Aside0.mk (show (x9_12 : Int).toNat ≤ t210.length from by omega)
                have KM55 := Aside0.mk (show (x8_1 : Int).toNat ≤ (x9_12 : Int).toNat from by omega)
                replace q55 := eq_true q55
                go_wp2_with (first | ((with_reducible refine gate_callee (f := 66) rfl ?_); refine goesL_ (some 113) rfl rfl Tryd.func66 (by kernel_rfl) rfl #[.slice A55 y236.length c55] rfl zar ?_; (with_reducible refine (spec_l01Encode.calls kj12 _ _ y236 t240 _ ?side1 ?side2 A45.out).mono ?_); (case side1 => repeat (first | exact (by repeat (first | (with_reducible exact HR239.out) | (with_reducible refine Kd.C_alloc ?_ _) | (with_reducible refine Kd.C_drewN ?_ _) | (with_reducible refine Kd.C_drew ?_) | exact HR239.out)) | (with_reducible refine Kd.C_alloc ?_ _) | (with_reducible refine Kd.C_drewN ?_ _) | (with_reducible refine Kd.C_drew ?_))); (case side2 => exact HC239.out); rintro e w56 ⟨rfl, hb⟩; refine ⟨_, rfl, ?_⟩; have n0_ := Aside0.mk (Kd.R_below (zr HO_4) hb); have n1_ := Aside0.mk (Kd.R_below (zr HO_6) hb); have n2_ := Aside0.mk (Kd.C_below (by repeat (first | (with_reducible exact HR239.out) | (with_reducible refine Kd.C_alloc ?_ _) | (with_reducible refine Kd.C_drewN ?_ _) | (with_reducible refine Kd.C_drew ?_) | exact HR239.out)) hb); have n3_ := Aside0.mk (below_step (zh HB) hb); clear HO_4; clear HO_6; clear HR239; clear HB; have HO_4 := n0_; have HO_6 := n1_; have HR239 := n2_; have HB := n3_; clear n0_ n1_ n2_ n3_; (try clear hb); (try clear hb2); (try clear hk); (try clear hi); obtain ⟨Ao57, co57, eo57⟩ := Kd.R_slice HO_6.out; subst eo57) | ((with_reducible refine gate_builtin (b := .append) (xs := #[.tmp 114, .tmp 124]) rfl ?_); (try (refine gate_guard (by rfl) ?_; dsimp only)); at_builtin; refine Kd.R_append k53 (w0 := w) w.heap.size rfl (.tmp 114) (.tmp 124) 45 53 (.agg #[(.string ⟨#[]⟩), (.int .i64 0), (.int .i64 0), (.int .i64 0)]) 40 rfl Tryd.underlying45 info53 rfl (by decide) (by omega) (.slice Ao57 x6_1.length co57) x6_1 (⟨t240, (x6_1.length : Int), x7_1, wrap64 (x7_1 + (t240.size : Int))⟩ : S53) [.string t240, .int .i64 (x6_1.length : Int), .int .i64 x7_1, .int .i64 (wrap64 (x7_1 + (t240.size : Int)))] (fun _ => True) (fun _ => False) rfl rfl ?aP (fun _ hk => hk.elim) ?aF ?aO ?aB ?aS ?aL ?_; (case aP => exact k53_mkM _ _ _ (⟨t240, (x6_1.length : Int), x7_1, wrap64 (x7_1 + (t240.size : Int))⟩ : S53)); (case aB => exact (zh HB)); (case aF => exact (fun _ _ => trivial)); (case aO => exact (zr HO_6)); (case aS => exact (below_size (zh HB))); (case aL => have := LMc46.out; omega); intro v242 w58 ho hb hg hat; rw [← Ny241.out] at ho; have n0_ := Aside0.mk (Kd.R_over' (zr HO_4) (Kd.R_typed (zr HO_6)) (by decide) hg); have n1_ := Aside0.mk (hb); have n2_ := Aside0.mk ((show Kd.C (Kd.int .i64) w58 A55 y236.length y236 from by rw [Ny236.out, KA55.out]; exact Kd.C_mid (lo := (x8_1 : Int).toNat) (hi := (x9_12 : Int).toNat) (c := co11) ((Kd.R_reads' (Kd.R_over' (zr HO_4) (Kd.R_typed (zr HO_6)) (by decide) hg)).2.2) KM55.out KL55.out ((Kd.R_reads' (Kd.R_over' (zr HO_4) (Kd.R_typed (zr HO_6)) (by decide) hg)).2.1))); have n3_ := Aside0.mk (ho); clear HO_4; clear HB; clear HR239; clear HO_6; have HO_4 := n0_; have HB := n1_; have HR239 := n2_; have HO243 := n3_; clear n0_ n1_ n2_ n3_; clear ho hb hg hat; obtain ⟨Ao59, co59, eo59⟩ := Kd.R_slice HO243.out; subst eo59))
                go_roundg kj12
                case measure => have := HK1.out; have := HJ9.out; have := HJ12.out; omega
                case rel => exact ⟨(y241), (wrap64 (x7_1 + (t240.size : Int))), (x9_12), (by first | rfl | (simp; done) | (simp [*]; done)), (by first | rfl | (simp; done) | (simp [*]; done)), H', ⟨by have := HK1.out; have := HJ9.out; have := HJ12.out; omega⟩, ⟨zr HO_4⟩, ⟨zr HO243⟩, ⟨zh HB⟩⟩
              ·rw [if_neg c46] at H
               exact absurd H (by simp)
             ·rw [if_neg c44] at H
              exact absurd H (by simp)
            ·rw [if_neg c43] at H
             exact absurd H (by simp)
           ·rw [if_neg c42] at H
            exact absurd H (by simp)
     ·rw [if_neg c8] at H
      exact absurd H (by simp)
    ·rw [if_neg c7] at H
     have c7b0 : decide (x8_1 < (t210.length : Int)) = false := decide_eq_false c7
     clear c7
     simp only [Option.some.injEq, Prod.mk.injEq] at H
     obtain ⟨rfl, rfl⟩ := H
     obtain ⟨Ao60, co60, eo60⟩ := Kd.R_slice HO_4.out
     subst eo60
     go_wp2
     go_ret2
     exact ⟨_, zre, by (with_reducible repeat (first | apply Kd.R_alloc | apply Kd.R_drewN | apply Kd.R_drew)); exact HO_6.out, zh HB⟩
 ·rw [if_neg c3] at H
  have c3b0 : (t211 == 0) = false := beq_eq_false_iff_ne.mpr c3
  have c3b1 : (t211 != 0) = true := bne_iff_ne.mpr c3
  obtain ⟨y214, hy214⟩ : ∃ y_ : List (S53), y_ = (([] : List (S53))) := ⟨_, rfl⟩
  replace H : (some (y214, t211)) = some (r1, r2) := by first | (rw [hy214]; with_reducible exact H) | (have H2_ := (Option.bind_some _ _).symm.trans H; rw [hy214]; with_reducible exact H2_) | (have H2_ := (Option.bind_some _ _).symm.trans H; with_reducible exact H2_) | with_reducible exact H | (rw [hy214]; exact H) | exact H
  have Ny214 := Aside0.mk hy214
  clear hy214
  simp only [Option.some.injEq, Prod.mk.injEq] at H
  obtain ⟨rfl, rfl⟩ := H
  go_enter Tryd.func32, Tryd.ntmps32
  go_wp2_with (first | ((with_reducible refine gate_callee (f := 15) rfl ?_); refine goesL_ (some 13) rfl rfl Tryd.func15 (by kernel_rfl) rfl #[.string a0] rfl zar ?_; (with_reducible refine (spec_Decode.calls k a0 t210 t211 _ A2.out).mono ?_); rintro e w61 ⟨v212, rfl, ho0, hb⟩; refine ⟨_, rfl, ?_⟩; have n0_ := Aside0.mk (Kd.R_lower ho0 (below_size (zh HB))); have n1_ := Aside0.mk (below_step (zh HB) hb); clear HB; have HO213 := n0_; have HB := n1_; clear n0_ n1_; (try clear hb); (try clear hb2); (try clear hk); (try clear hi); (try clear ho0)) | ((with_reducible refine gate_dst (N := 18) rfl ?_); (try (refine gate_guard (by rfl) ?_; dsimp only)); refine Kd.R_lit k53 _ 53 ?hg (N := 18) ?hd (xs := ([] : List (S53))) (inner := []) (ok := fun _ => True) (okp := fun _ => True) ?hr ?hp (fun _ hk => hk) trivial (Below.refl _ _) (Nat.le_refl _) (by simp) ?_; (case hd => rfl); (case hg => rfl); (case hr => first | (go_simp; done) | (go_simp; rfl)); (case hp => exact (Reps.none _ _)); intro v215 w62 ho63 hb hg_ hnew_; clear hg_ hnew_; (first | rw [← Ny214.out] at ho63 | (simp only [Int.reduceToNat] at ho63; rw [← Ny214.out] at ho63)); have n0_ := Aside0.mk (Kd.R_below (zr HO213) hb); have n1_ := Aside0.mk (Kd.R_lower ho63 (below_size (zh HB))); have n2_ := Aside0.mk (below_step (zh HB) hb); clear HO213; clear HB; have HO213 := n0_; have HO216 := n1_; have HB := n2_; clear n0_ n1_ n2_; clear hb ho63))
  go_ret2
  exact ⟨_, zre, by (with_reducible repeat (first | apply Kd.R_alloc | apply Kd.R_drewN | apply Kd.R_drew)); exact HO216.out, zh HB⟩

end Go.Proofs.YtcokeankiedfcaaDoor.XFnText
