-- A text of this session: written by its own program (wip/x/xprint.py), which runs the kit's printer with contracts of its own.
import Derived.Test.YtcokeankiedfcaaDoorXFnExactBreakx0
import Derived.Test.YtcokeankiedfcaaDoorXFnExactBreakx1
import Derived.Test.YtcokeankiedfcaaDoorXFnExactBreakx2
namespace Go.Proofs.YtcokeankiedfcaaDoor.XFnExactBreak
open Go.RowKit Go.Proofs.YtcokeankiedfcaaDoorW.PrintWords Go.Proofs.YtcokeankiedfcaaDoorW.PrintLast Go.Proofs.YtcokeankiedfcaaDoorW.PrintMore
attribute [local go_sem] max2_int min2_int max_two min_two max_three min_three max_four min_four   -- for this text's walks alone
set_option linter.unusedVariables false
set_option linter.unusedSimpArgs false

/-! ### spec_l01Inner: function 70 -/
def spec_l01Inner.f (k : Nat) (a0 : Int) : Option (Bool) := (spec_Class.f k a0).bind fun t148 => (if t148 = 1 then (some true) else (some (t148 == 2)))
theorem spec_l01Inner.mono : ∀ a0 k, LeO (spec_l01Inner.f k a0) (spec_l01Inner.f (k + 1) a0) := by
  intro a0 k
  unfold spec_l01Inner.f
  repeat' first
      | (with_reducible exact spec_Class.mono _ _)
      | (with_reducible exact LeO.refl _)
      | (with_reducible exact LeO.none _)
      | (with_reducible refine LeO.ite ?_ ?_)
      | (with_reducible refine LeO.bind ?_ (fun _ => ?_))
      | exact spec_Class.mono _ _
      | exact LeO.none _
      | refine LeO.ite ?_ ?_
      | refine LeO.bind ?_ (fun _ => ?_)
set_option maxHeartbeats 8000000 in
set_option maxRecDepth 100000 in
theorem spec_l01Inner.calls (k : Nat) (a0 : Int) (r : Bool) (w : World) (h : spec_l01Inner.f k a0 = some r) :
    Calls Tryd.prog 70 #[.int .i64 a0] w fun e w' => e = .returned (.bool r) ∧ Drawn0 w w' := by
  have H : ((spec_Class.f k a0).bind fun t148 => (if t148 = 1 then (some true) else (some (t148 == 2)))) = some r := h
  clear h
  replace H := Option.bind_eq_some_iff.mp H
  obtain ⟨t148, A20, H⟩ := H
  replace H : (if t148 = 1 then (some true) else (some (t148 == 2))) = some r := H
  have A2 := Aside0.mk A20
  clear A20
  by_cases c3 : t148 = 1
  · rw [if_pos c3] at H
    have c3b0 : (t148 == 1) = true := beq_iff_eq.mpr c3
    have c3b1 : (t148 != 1) = false := bne_eq_false_iff_eq.mpr c3
    clear c3
    obtain rfl := Option.some.inj H
    go_enter Tryd.func70, Tryd.ntmps70
    go_wp2_with (first | ((with_reducible refine gate_callee (f := 69) rfl ?_); refine goesL_ (some 5) rfl rfl Tryd.func69 (by kernel_rfl) rfl #[.int .i64 a0] rfl (by (try simp only [List.map_toArray, List.map_cons, List.map_nil]); first | done | rfl | (simp only [List.length_drop, List.length_take]; rfl)) ?_; (with_reducible refine (spec_Class.calls k a0 t148 _ A2.out).mono ?_); rintro e w' ⟨rfl, ⟨nd, rfl⟩⟩; refine ⟨_, rfl, ?_⟩))
    go_ret
    exact ⟨by first | rfl | (simp; done) | (simp [*]; done), by repeat (first | exact Drawn0.refl _ | apply Drawn0.step)⟩
  · rw [if_neg c3] at H
    have c3b0 : (t148 == 1) = false := beq_eq_false_iff_ne.mpr c3
    have c3b1 : (t148 != 1) = true := bne_iff_ne.mpr c3
    obtain rfl := Option.some.inj H
    go_enter Tryd.func70, Tryd.ntmps70
    go_wp2_with (first | ((with_reducible refine gate_callee (f := 69) rfl ?_); refine goesL_ (some 5) rfl rfl Tryd.func69 (by kernel_rfl) rfl #[.int .i64 a0] rfl (by (try simp only [List.map_toArray, List.map_cons, List.map_nil]); first | done | rfl | (simp only [List.length_drop, List.length_take]; rfl)) ?_; (with_reducible refine (spec_Class.calls k a0 t148 _ A2.out).mono ?_); rintro e w' ⟨rfl, ⟨nd, rfl⟩⟩; refine ⟨_, rfl, ?_⟩))
    go_ret
    exact ⟨by first | rfl | (simp; done) | (simp [*]; done), by repeat (first | exact Drawn0.refl _ | apply Drawn0.step)⟩

/-! ### spec_Break: function 32 -/
mutual
def spec_Break.l0 : Nat → List Int → List (S53) → Int → Int → Option ((List (S53)) × Int)
  | 0, _, _, _, _ => none
  | k + 1, x4, x6, x7, x8 => if x8 < (x4.length : Int) then (if 0 ≤ x8 then ((spec_Class.f k (rd x4 x8)).bind fun t160 => (if t160 = 4 then (spec_Break.j1 k x4 x6 x7 x8 (wrap64 (x8 + 1))) else (spec_Break.j1 k x4 x6 x7 x8 x8))) else (none)) else (some (x6, 0))
def spec_Break.j1 : Nat → List Int → List (S53) → Int → Int → Int → Option ((List (S53)) × Int)
  | 0, _, _, _, _, _ => none
  | k + 1, x4, x6, x7, x8, x9 => spec_Break.l1 k x4 x6 x7 x8 x9
def spec_Break.j3 : Nat → List Int → List (S53) → Int → Int → Int → Option ((List (S53)) × Int)
  | 0, _, _, _, _, _ => none
  | k + 1, x4, x6, x7, x8, x9 => if x9 = x8 then (if 0 ≤ x8 then (if x8 < (x4.length : Int) then ((spec_l01Bytes.f (rd x4 x8)).bind fun t172 => (spec_Break.l0 k x4 x6 (wrap64 (x7 + (t172.length : Int))) (wrap64 (x8 + 1)))) else (none)) else (none)) else (if 0 ≤ x8 then (if x8 ≤ x9 then (if x9 ≤ (x4.length : Int) then ((spec_l01Encode.f k ((x4.take (x9 : Int).toNat).drop (x8 : Int).toNat)).bind fun t179 => (if x6.length < 3518437208883 then ((some (x6 ++ [(⟨t179, (x6.length : Int), x7, wrap64 (x7 + (t179.size : Int))⟩ : S53)] : List (S53))).bind fun y180 => (if (y180.length : Int) > 8192 then (some ((([] : List (S53))), 11)) else (spec_Break.l0 k x4 y180 (wrap64 (x7 + (t179.size : Int))) x9))) else (none))) else (none)) else (none)) else (none))
def spec_Break.l1 : Nat → List Int → List (S53) → Int → Int → Int → Option ((List (S53)) × Int)
  | 0, _, _, _, _, _ => none
  | k + 1, x4, x6, x7, x8, x9 => if x9 < (x4.length : Int) then (if x9 ≥ x8 then (if 0 ≤ x8 then (if x8 < (x4.length : Int) then ((spec_Class.f k (rd x4 x8)).bind fun t162 => (if t162 = 4 then (spec_Break.j3 k x4 x6 x7 x8 x9) else (if 0 ≤ x9 then ((spec_l01Inner.f k (rd x4 x9)).bind fun t164 => (if t164 = true then (spec_Break.l1 k x4 x6 x7 x8 (wrap64 (x9 + 1))) else (if x9 > x8 then ((spec_Class.f k (rd x4 x9)).bind fun t166 => (if t166 = 3 then (if 0 ≤ (wrap64 (x9 - 1)) then (if (wrap64 (x9 - 1)) < (x4.length : Int) then ((spec_l01Inner.f k (rd x4 (wrap64 (x9 - 1)))).bind fun t168 => (if t168 = true then (if (wrap64 (x9 + 1)) < (x4.length : Int) then (if 0 ≤ (wrap64 (x9 + 1)) then ((spec_l01Inner.f k (rd x4 (wrap64 (x9 + 1)))).bind fun t170 => (if t170 = true then (spec_Break.l1 k x4 x6 x7 x8 (wrap64 (x9 + 1))) else (spec_Break.j3 k x4 x6 x7 x8 x9))) else (none)) else (spec_Break.j3 k x4 x6 x7 x8 x9)) else (spec_Break.j3 k x4 x6 x7 x8 x9))) else (none)) else (none)) else (spec_Break.j3 k x4 x6 x7 x8 x9))) else (spec_Break.j3 k x4 x6 x7 x8 x9)))) else (none)))) else (none)) else (none)) else (spec_Break.j3 k x4 x6 x7 x8 x9)) else (spec_Break.j3 k x4 x6 x7 x8 x9)
end
def spec_Break.f (k : Nat) (a0 : ByteArray) : Option ((List (S53)) × Int) := (spec_Decode.f k a0).bind fun bt149 => (if bt149.2 = 0 then (spec_Break.l0 k bt149.1 (([] : List (S53))) 0 0) else (some ((([] : List (S53))), bt149.2)))
theorem spec_Break.mono_l : ∀ k, (∀ y0 y1 y2 y3, LeO (spec_Break.l0 k y0 y1 y2 y3) (spec_Break.l0 (k + 1) y0 y1 y2 y3)) ∧ (∀ y0 y1 y2 y3 y4, LeO (spec_Break.j1 k y0 y1 y2 y3 y4) (spec_Break.j1 (k + 1) y0 y1 y2 y3 y4)) ∧ (∀ y0 y1 y2 y3 y4, LeO (spec_Break.j3 k y0 y1 y2 y3 y4) (spec_Break.j3 (k + 1) y0 y1 y2 y3 y4)) ∧ (∀ y0 y1 y2 y3 y4, LeO (spec_Break.l1 k y0 y1 y2 y3 y4) (spec_Break.l1 (k + 1) y0 y1 y2 y3 y4))
  | 0 => ⟨fun _ _ _ _ r h => by simp [spec_Break.l0] at h, fun _ _ _ _ _ r h => by simp [spec_Break.j1] at h, fun _ _ _ _ _ r h => by simp [spec_Break.j3] at h, fun _ _ _ _ _ r h => by simp [spec_Break.l1] at h⟩
  | k + 1 => by
    obtain ⟨ih0, ih1, ih2, ih3⟩ := spec_Break.mono_l k
    refine ⟨?_, ?_, ?_, ?_⟩
    · intro y0 y1 y2 y3
      unfold spec_Break.l0
      repeat' first
      | (with_reducible exact ih0 _ _ _ _)
      | (with_reducible exact ih1 _ _ _ _ _)
      | (with_reducible exact ih2 _ _ _ _ _)
      | (with_reducible exact ih3 _ _ _ _ _)
      | (with_reducible exact spec_Class.mono _ _)
      | (with_reducible exact spec_Decode.mono _ _)
      | (with_reducible exact spec_l01Encode.mono _ _)
      | (with_reducible exact spec_l01Inner.mono _ _)
      | (with_reducible exact LeO.refl _)
      | (with_reducible exact LeO.none _)
      | (with_reducible refine LeO.ite ?_ ?_)
      | (with_reducible refine LeO.bind ?_ (fun _ => ?_))
      | exact ih0 _ _ _ _
      | exact ih1 _ _ _ _ _
      | exact ih2 _ _ _ _ _
      | exact ih3 _ _ _ _ _
      | exact spec_Class.mono _ _
      | exact spec_Decode.mono _ _
      | exact spec_l01Encode.mono _ _
      | exact spec_l01Inner.mono _ _
      | exact LeO.none _
      | refine LeO.ite ?_ ?_
      | refine LeO.bind ?_ (fun _ => ?_)
    · intro y0 y1 y2 y3 y4
      unfold spec_Break.j1
      repeat' first
      | (with_reducible exact ih0 _ _ _ _)
      | (with_reducible exact ih1 _ _ _ _ _)
      | (with_reducible exact ih2 _ _ _ _ _)
      | (with_reducible exact ih3 _ _ _ _ _)
      | (with_reducible exact spec_Class.mono _ _)
      | (with_reducible exact spec_Decode.mono _ _)
      | (with_reducible exact spec_l01Encode.mono _ _)
      | (with_reducible exact spec_l01Inner.mono _ _)
      | (with_reducible exact LeO.refl _)
      | (with_reducible exact LeO.none _)
      | (with_reducible refine LeO.ite ?_ ?_)
      | (with_reducible refine LeO.bind ?_ (fun _ => ?_))
      | exact ih0 _ _ _ _
      | exact ih1 _ _ _ _ _
      | exact ih2 _ _ _ _ _
      | exact ih3 _ _ _ _ _
      | exact spec_Class.mono _ _
      | exact spec_Decode.mono _ _
      | exact spec_l01Encode.mono _ _
      | exact spec_l01Inner.mono _ _
      | exact LeO.none _
      | refine LeO.ite ?_ ?_
      | refine LeO.bind ?_ (fun _ => ?_)
    · intro y0 y1 y2 y3 y4
      unfold spec_Break.j3
      repeat' first
      | (with_reducible exact ih0 _ _ _ _)
      | (with_reducible exact ih1 _ _ _ _ _)
      | (with_reducible exact ih2 _ _ _ _ _)
      | (with_reducible exact ih3 _ _ _ _ _)
      | (with_reducible exact spec_Class.mono _ _)
      | (with_reducible exact spec_Decode.mono _ _)
      | (with_reducible exact spec_l01Encode.mono _ _)
      | (with_reducible exact spec_l01Inner.mono _ _)
      | (with_reducible exact LeO.refl _)
      | (with_reducible exact LeO.none _)
      | (with_reducible refine LeO.ite ?_ ?_)
      | (with_reducible refine LeO.bind ?_ (fun _ => ?_))
      | exact ih0 _ _ _ _
      | exact ih1 _ _ _ _ _
      | exact ih2 _ _ _ _ _
      | exact ih3 _ _ _ _ _
      | exact spec_Class.mono _ _
      | exact spec_Decode.mono _ _
      | exact spec_l01Encode.mono _ _
      | exact spec_l01Inner.mono _ _
      | exact LeO.none _
      | refine LeO.ite ?_ ?_
      | refine LeO.bind ?_ (fun _ => ?_)
    · intro y0 y1 y2 y3 y4
      unfold spec_Break.l1
      repeat' first
      | (with_reducible exact ih0 _ _ _ _)
      | (with_reducible exact ih1 _ _ _ _ _)
      | (with_reducible exact ih2 _ _ _ _ _)
      | (with_reducible exact ih3 _ _ _ _ _)
      | (with_reducible exact spec_Class.mono _ _)
      | (with_reducible exact spec_Decode.mono _ _)
      | (with_reducible exact spec_l01Encode.mono _ _)
      | (with_reducible exact spec_l01Inner.mono _ _)
      | (with_reducible exact LeO.refl _)
      | (with_reducible exact LeO.none _)
      | (with_reducible refine LeO.ite ?_ ?_)
      | (with_reducible refine LeO.bind ?_ (fun _ => ?_))
      | exact ih0 _ _ _ _
      | exact ih1 _ _ _ _ _
      | exact ih2 _ _ _ _ _
      | exact ih3 _ _ _ _ _
      | exact spec_Class.mono _ _
      | exact spec_Decode.mono _ _
      | exact spec_l01Encode.mono _ _
      | exact spec_l01Inner.mono _ _
      | exact LeO.none _
      | refine LeO.ite ?_ ?_
      | refine LeO.bind ?_ (fun _ => ?_)
theorem spec_Break.mono : ∀ a0 k, LeO (spec_Break.f k a0) (spec_Break.f (k + 1) a0) := by
  intro a0 k
  obtain ⟨ih0, ih1, ih2, ih3⟩ := spec_Break.mono_l k
  unfold spec_Break.f
  repeat' first
      | (with_reducible exact ih0 _ _ _ _)
      | (with_reducible exact ih1 _ _ _ _ _)
      | (with_reducible exact ih2 _ _ _ _ _)
      | (with_reducible exact ih3 _ _ _ _ _)
      | (with_reducible exact spec_Class.mono _ _)
      | (with_reducible exact spec_Decode.mono _ _)
      | (with_reducible exact spec_l01Encode.mono _ _)
      | (with_reducible exact spec_l01Inner.mono _ _)
      | (with_reducible exact LeO.refl _)
      | (with_reducible exact LeO.none _)
      | (with_reducible refine LeO.ite ?_ ?_)
      | (with_reducible refine LeO.bind ?_ (fun _ => ?_))
      | exact ih0 _ _ _ _
      | exact ih1 _ _ _ _ _
      | exact ih2 _ _ _ _ _
      | exact ih3 _ _ _ _ _
      | exact spec_Class.mono _ _
      | exact spec_Decode.mono _ _
      | exact spec_l01Encode.mono _ _
      | exact spec_l01Inner.mono _ _
      | exact LeO.none _
      | refine LeO.ite ?_ ?_
      | refine LeO.bind ?_ (fun _ => ?_)
set_option maxHeartbeats 8000000 in
set_option maxRecDepth 100000 in
theorem spec_Break.calls (k : Nat) (a0 : ByteArray) (r1 : List (S53)) (r2 : Int) (w : World) (h : spec_Break.f k a0 = some (r1, r2)) :
    Calls Tryd.prog 32 #[.string a0] w fun e w' => ∃ v0_ : Value, e = .returned (.tuple #[v0_, .int .i64 r2]) ∧ Kd.R k53 53 w' w.heap.size (fun _ => True) v0_ r1 ∧ Below w.heap.size w w' := by
  have hu53 := Tryd.underlying53
  have HB := Aside0.mk (Below.refl w.heap.size w)
  have H : ((spec_Decode.f k a0).bind fun bt149 => (if bt149.2 = 0 then (spec_Break.l0 k bt149.1 (([] : List (S53))) 0 0) else (some ((([] : List (S53))), bt149.2)))) = some (r1, r2) := h
  clear h
  replace H := Option.bind_eq_some_iff.mp H
  obtain ⟨⟨t149, t150⟩, A20, H⟩ := H
  replace H : (if t150 = 0 then (spec_Break.l0 k t149 (([] : List (S53))) 0 0) else (some ((([] : List (S53))), t150))) = some (r1, r2) := H
  have A2 := Aside0.mk A20
  clear A20
  by_cases c3 : t150 = 0
  · rw [if_pos c3] at H
    have c3b0 : (t150 == 0) = true := beq_iff_eq.mpr c3
    have c3b1 : (t150 != 0) = false := bne_eq_false_iff_eq.mpr c3
    clear c3
    obtain ⟨y156, hy156⟩ : ∃ y_ : List (S53), y_ = (([] : List (S53))) := ⟨_, rfl⟩
    replace H : (spec_Break.l0 k t149 y156 0 0) = some (r1, r2) := by first | (rw [hy156]; with_reducible exact H) | (have H2_ := (Option.bind_some _ _).symm.trans H; rw [hy156]; with_reducible exact H2_) | (have H2_ := (Option.bind_some _ _).symm.trans H; with_reducible exact H2_) | with_reducible exact H | (rw [hy156]; exact H) | exact H
    have Ny156 := Aside0.mk hy156
    clear hy156
    have H' := Aside0.mk H
    clear H
    go_enter Tryd.func32, Tryd.ntmps32
    go_wp2_with (first | ((with_reducible refine gate_callee (f := 15) rfl ?_); refine goesL_ (some 13) rfl rfl Tryd.func15 (by kernel_rfl) rfl #[.string a0] rfl (by (try simp only [List.map_toArray, List.map_cons, List.map_nil]); first | done | rfl | (simp only [List.length_drop, List.length_take]; rfl)) ?_; (with_reducible refine (spec_Decode.calls k a0 t149 t150 _ A2.out).mono ?_); rintro e w4 ⟨v151, rfl, ho0, hb⟩; refine ⟨_, rfl, ?_⟩; have n0_ := Aside0.mk (Kd.R_lower ho0 (below_size (by repeat (first | (with_reducible first | exact HB.out | apply below_alloc | apply pw_below_drewN | apply below_drew1) | exact HB.out)))); have n1_ := Aside0.mk (below_step (by repeat (first | (with_reducible first | exact HB.out | apply below_alloc | apply pw_below_drewN | apply below_drew1) | exact HB.out)) hb); clear HB; have HO152 := n0_; have HB := n1_; clear n0_ n1_; (try clear hb); (try clear hb2); (try clear hk); (try clear hi); (try clear ho0)) | ((with_reducible refine gate_dst (N := 20) rfl ?_); (try (refine gate_guard (by rfl) ?_; dsimp only)); refine Kd.R_lit k53 _ 53 ?hg (N := 20) ?hd (xs := ([] : List (S53))) (inner := []) (ok := fun _ => True) (okp := fun _ => True) ?hr ?hp (fun _ hk => hk) trivial (Below.refl _ _) (Nat.le_refl _) (by simp) ?_; (case hd => rfl); (case hg => rfl); (case hr => first | (go_simp; done) | (go_simp; rfl)); (case hp => exact (Reps.none _ _)); intro v157 w5 ho6 hb hg_ hnew_; clear hg_ hnew_; (first | rw [← Ny156.out] at ho6 | (simp only [Int.reduceToNat] at ho6; rw [← Ny156.out] at ho6)); have n0_ := Aside0.mk (Kd.R_below (by (with_reducible repeat (first | apply Kd.R_alloc | apply Kd.R_drewN | apply Kd.R_drew)); exact HO152.out) hb); have n1_ := Aside0.mk (Kd.R_lower ho6 (below_size (by repeat (first | (with_reducible first | exact HB.out | apply below_alloc | apply pw_below_drewN | apply below_drew1) | exact HB.out)))); have n2_ := Aside0.mk (below_step (by repeat (first | (with_reducible first | exact HB.out | apply below_alloc | apply pw_below_drewN | apply below_drew1) | exact HB.out)) hb); clear HO152; clear HB; have HO152 := n0_; have HO158 := n1_; have HB := n2_; clear n0_ n1_ n2_; clear hb ho6))
    go_loopg [6, 7, 8] k (fun kq v6 v7 v8 w' => ∃ (x6_1 : List (S53)) (x7_1 : Int) (x8_1 : Int), v7 = .int .i64 x7_1 ∧ v8 = .int .i64 x8_1 ∧ Aside0 (spec_Break.l0 kq t149 x6_1 x7_1 x8_1 = some (r1, r2)) ∧ Aside0 (kq ≤ k) ∧ Aside0 (Kd.R (Kd.int .i64) 3 w' w.heap.size (fun _ => True) v151 t149) ∧ Aside0 (Kd.R k53 53 w' w.heap.size (fun _ => True) v6 x6_1) ∧ Aside0 (Below w.heap.size w w'))
    case atStart => exact ⟨(y156), (0), (0), (by first | rfl | (simp; done) | (simp [*]; done)), (by first | rfl | (simp; done) | (simp [*]; done)), H', ⟨Nat.le_refl _⟩, ⟨by (with_reducible repeat (first | apply Kd.R_alloc | apply Kd.R_drewN | apply Kd.R_drew)); exact HO152.out⟩, ⟨by (with_reducible repeat (first | apply Kd.R_alloc | apply Kd.R_drewN | apply Kd.R_drew)); exact HO158.out⟩, ⟨by repeat (first | (with_reducible first | exact HB.out | apply below_alloc | apply pw_below_drewN | apply below_drew1) | exact HB.out)⟩⟩
    case round =>
      clear H'
      try clear c1
      try clear p2
      try clear c3
      try clear c3b0
      try clear c3b1
      obtain ⟨x6_1, x7_1, x8_1, rfl, rfl, HA, HK1, HO_4, HO_6, HB⟩ := hrel
      cases gk with
      | zero => exact absurd HA.out (by simp [spec_Break.l0])
      | succ k1 =>
        have H := HA.out
        clear HA
        simp only [spec_Break.l0] at H
        by_cases c7 : x8_1 < (t149.length : Int)
        · rw [if_pos c7] at H
          have c7b0 : decide (x8_1 < (t149.length : Int)) = true := decide_eq_true c7
          clear c7
          by_cases c8 : 0 ≤ x8_1
          · rw [if_pos c8] at H
            have c8b0 : decide (0 ≤ x8_1) = true := decide_eq_true c8
            clear c8
            replace H := Option.bind_eq_some_iff.mp H
            obtain ⟨t160, A90, H⟩ := H
            replace H : (if t160 = 4 then (spec_Break.j1 k1 t149 x6_1 x7_1 x8_1 (wrap64 (x8_1 + 1))) else (spec_Break.j1 k1 t149 x6_1 x7_1 x8_1 x8_1)) = some (r1, r2) := H
            have A9 := Aside0.mk A90
            clear A90
            have HC10 := Aside0.mk H
            clear H
            obtain ⟨Ao11, co11, eo11⟩ := Kd.R_slice HO_4.out
            subst eo11
            have p159 : 0 ≤ (x8_1 : Int) := of_decide_eq_true (by first | (with_reducible assumption) | assumption)
            have q159 : x8_1 < (t149.length : Int) := of_decide_eq_true (by first | (with_reducible assumption) | assumption)
            obtain ⟨ad159, e159, hx159_0⟩ := Kd.at_int (Kd.R_reads' HO_4.out).2.2 x8_1 p159 q159
            cases e159
            replace p159 := eq_true p159
            replace q159 := eq_true q159
            go_upto_if 31 with (first | ((with_reducible refine gate_callee (f := 69) rfl ?_); refine goesL_ (some 30) rfl rfl Tryd.func69 (by kernel_rfl) rfl #[.int .i64 (rd t149 x8_1)] rfl (by (try simp only [List.map_toArray, List.map_cons, List.map_nil]); first | done | rfl | (simp only [List.length_drop, List.length_take]; rfl)) ?_; (with_reducible refine (spec_Class.calls k1 (rd t149 x8_1) t160 _ A9.out).mono ?_); rintro e w' ⟨rfl, ⟨nd, rfl⟩⟩; refine ⟨_, rfl, ?_⟩))
            (try simp only [Act.put, List.setIfInBounds_toArray, List.set_cons_zero, List.set_cons_succ])
            go_cut [9] (fun v9 wc => ∃ (kq : Nat) (x9_9 : Int), v9 = .int .i64 x9_9 ∧ Aside0 (spec_Break.j1 kq t149 x6_1 x7_1 x8_1 x9_9 = some (r1, r2)) ∧ Aside0 (kq ≤ k1) ∧ Aside0 (Kd.R (Kd.int .i64) 3 wc w.heap.size (fun _ => True) (.slice (some ad159) t149.length co11) t149) ∧ Aside0 (Kd.R k53 53 wc w.heap.size (fun _ => True) u6 x6_1) ∧ Aside0 (Below w.heap.size w wc))
            case first =>
              have H := HC10.out
              clear HC10
              by_cases c12 : t160 = 4
              · rw [if_pos c12] at H
                have c12b0 : (t160 == 4) = true := beq_iff_eq.mpr c12
                have c12b1 : (t160 != 4) = false := bne_eq_false_iff_eq.mpr c12
                clear c12
                (first | rw [c12b0] | (simp only [i64_w, i32_w]; rw [c12b0]) | skip)
                have H' := Aside0.mk H
                clear H
                go_wp2
                go_meet
                case rel => exact ⟨_, (wrap64 (x8_1 + 1)), (by first | rfl | (simp; done) | (simp [*]; done)), H', ⟨by have := HK1.out; first | omega | exact Nat.le_refl _⟩, ⟨by (with_reducible repeat (first | apply Kd.R_alloc | apply Kd.R_drewN | apply Kd.R_drew)); exact HO_4.out⟩, ⟨by (with_reducible repeat (first | apply Kd.R_alloc | apply Kd.R_drewN | apply Kd.R_drew)); exact HO_6.out⟩, ⟨by repeat (first | (with_reducible first | exact HB.out | apply below_alloc | apply pw_below_drewN | apply below_drew1) | exact HB.out)⟩⟩
              · rw [if_neg c12] at H
                have c12b0 : (t160 == 4) = false := beq_eq_false_iff_ne.mpr c12
                have c12b1 : (t160 != 4) = true := bne_iff_ne.mpr c12
                (first | rw [c12b0] | (simp only [i64_w, i32_w]; rw [c12b0]) | skip)
                have H' := Aside0.mk H
                clear H
                go_wp2
                go_meet
                case rel => exact ⟨_, (x8_1), (by first | rfl | (simp; done) | (simp [*]; done)), H', ⟨by have := HK1.out; first | omega | exact Nat.le_refl _⟩, ⟨by (with_reducible repeat (first | apply Kd.R_alloc | apply Kd.R_drewN | apply Kd.R_drew)); exact HO_4.out⟩, ⟨by (with_reducible repeat (first | apply Kd.R_alloc | apply Kd.R_drewN | apply Kd.R_drew)); exact HO_6.out⟩, ⟨by repeat (first | (with_reducible first | exact HB.out | apply below_alloc | apply pw_below_drewN | apply below_drew1) | exact HB.out)⟩⟩
            case rest =>
              clear HC10
              try clear c1
              try clear p1
              try clear q1
              try clear hx1
              try clear p2
              try clear c3
              try clear c3b0
              try clear c3b1
              try clear c6
              try clear p6
              try clear c7
              try clear c7b0
              try clear c8
              try clear c8b0
              try clear c12
              try clear c12b0
              try clear c12b1
              try clear hx159_0
              try clear p159
              try clear p2
              try clear q159
              obtain ⟨kq, x9_9, rfl, HA, HJ9, HO_4, HO_6, HB⟩ := hcut
              cases kq with
              | zero => exact absurd HA.out (by simp [spec_Break.j1])
              | succ kj9 =>
                have H := HA.out
                clear HA
                simp only [spec_Break.j1] at H
                have HC13 := Aside0.mk H
                clear H
                go_upto_block 2 with (fail)
                go_cut [9] (fun v9 wc => ∃ (kq : Nat) (x9_12 : Int), v9 = .int .i64 x9_12 ∧ Aside0 (spec_Break.j3 kq t149 x6_1 x7_1 x8_1 x9_12 = some (r1, r2)) ∧ Aside0 (kq ≤ kj9) ∧ Aside0 (Kd.R (Kd.int .i64) 3 wc w.heap.size (fun _ => True) (.slice (some ad159) t149.length co11) t149) ∧ Aside0 (Kd.R k53 53 wc w.heap.size (fun _ => True) u6 x6_1) ∧ Aside0 (Below w.heap.size w wc))
                case first =>
                  have H := HC13.out
                  clear HC13
                  have H' := Aside0.mk H
                  clear H
                  go_wp2
                  go_loopg [9] kj9 (fun kq v9 w' => ∃ (x9_3 : Int), v9 = .int .i64 x9_3 ∧ Aside0 (spec_Break.l1 kq t149 x6_1 x7_1 x8_1 x9_3 = some (r1, r2)) ∧ Aside0 (kq ≤ kj9) ∧ Aside0 (Kd.R (Kd.int .i64) 3 w' w.heap.size (fun _ => True) (.slice (some ad159) t149.length co11) t149) ∧ Aside0 (Kd.R k53 53 w' w.heap.size (fun _ => True) u6 x6_1) ∧ Aside0 (Below w.heap.size w w'))
                  case atStart => exact ⟨(x9_9), (by first | rfl | (simp; done) | (simp [*]; done)), H', ⟨Nat.le_refl _⟩, ⟨by (with_reducible repeat (first | apply Kd.R_alloc | apply Kd.R_drewN | apply Kd.R_drew)); exact HO_4.out⟩, ⟨by (with_reducible repeat (first | apply Kd.R_alloc | apply Kd.R_drewN | apply Kd.R_drew)); exact HO_6.out⟩, ⟨by repeat (first | (with_reducible first | exact HB.out | apply below_alloc | apply pw_below_drewN | apply below_drew1) | exact HB.out)⟩⟩
                  case round =>
                    clear H'
                    try clear c1
                    try clear p1
                    try clear q1
                    try clear hx1
                    try clear p2
                    try clear c3
                    try clear c3b0
                    try clear c3b1
                    try clear c6
                    try clear p6
                    try clear c7
                    try clear c7b0
                    try clear c8
                    try clear c8b0
                    try clear c12
                    try clear c12b0
                    try clear c12b1
                    try clear hx159_0
                    try clear p1
                    try clear p159
                    try clear p2
                    try clear p6
                    try clear q1
                    try clear q159
                    obtain ⟨x9_3, rfl, HA, HK3, HO_4, HO_6, HB⟩ := hrel
                    cases gk with
                    | zero => exact absurd HA.out (by simp [spec_Break.l1])
                    | succ k3 =>
                      have H := HA.out
                      clear HA
                      simp only [spec_Break.l1] at H
                      by_cases c14 : x9_3 < (t149.length : Int)
                      · rw [if_pos c14] at H
                        have c14b0 : decide (x9_3 < (t149.length : Int)) = true := decide_eq_true c14
                        clear c14
                        (first | rw [c14b0] | (simp only [i64_w, i32_w]; rw [c14b0]) | skip)
                        by_cases c15 : x9_3 ≥ x8_1
                        · rw [if_pos c15] at H
                          have c15b0 : decide (x8_1 ≤ x9_3) = true := decide_eq_true c15
                          clear c15
                          by_cases c16 : 0 ≤ x8_1
                          · rw [if_pos c16] at H
                            have c16b0 : decide (0 ≤ x8_1) = true := decide_eq_true c16
                            clear c16
                            by_cases c17 : x8_1 < (t149.length : Int)
                            · rw [if_pos c17] at H
                              have c17b0 : decide (x8_1 < (t149.length : Int)) = true := decide_eq_true c17
                              clear c17
                              replace H := Option.bind_eq_some_iff.mp H
                              obtain ⟨t162, A180, H⟩ := H
                              replace H : (if t162 = 4 then (spec_Break.j3 k3 t149 x6_1 x7_1 x8_1 x9_3) else (if 0 ≤ x9_3 then ((spec_l01Inner.f k3 (rd t149 x9_3)).bind fun t164 => (if t164 = true then (spec_Break.l1 k3 t149 x6_1 x7_1 x8_1 (wrap64 (x9_3 + 1))) else (if x9_3 > x8_1 then ((spec_Class.f k3 (rd t149 x9_3)).bind fun t166 => (if t166 = 3 then (if 0 ≤ (wrap64 (x9_3 - 1)) then (if (wrap64 (x9_3 - 1)) < (t149.length : Int) then ((spec_l01Inner.f k3 (rd t149 (wrap64 (x9_3 - 1)))).bind fun t168 => (if t168 = true then (if (wrap64 (x9_3 + 1)) < (t149.length : Int) then (if 0 ≤ (wrap64 (x9_3 + 1)) then ((spec_l01Inner.f k3 (rd t149 (wrap64 (x9_3 + 1)))).bind fun t170 => (if t170 = true then (spec_Break.l1 k3 t149 x6_1 x7_1 x8_1 (wrap64 (x9_3 + 1))) else (spec_Break.j3 k3 t149 x6_1 x7_1 x8_1 x9_3))) else (none)) else (spec_Break.j3 k3 t149 x6_1 x7_1 x8_1 x9_3)) else (spec_Break.j3 k3 t149 x6_1 x7_1 x8_1 x9_3))) else (none)) else (none)) else (spec_Break.j3 k3 t149 x6_1 x7_1 x8_1 x9_3))) else (spec_Break.j3 k3 t149 x6_1 x7_1 x8_1 x9_3)))) else (none))) = some (r1, r2) := H
                              have A18 := Aside0.mk A180
                              clear A180
                              by_cases c19 : t162 = 4
                              · rw [if_pos c19] at H
                                have c19b0 : (t162 == 4) = true := beq_iff_eq.mpr c19
                                have c19b1 : (t162 != 4) = false := bne_eq_false_iff_eq.mpr c19
                                clear c19
                                have H' := Aside0.mk H
                                clear H
                                have p161 : 0 ≤ (x8_1 : Int) := of_decide_eq_true (by first | (with_reducible assumption) | assumption)
                                have q161 : x8_1 < (t149.length : Int) := of_decide_eq_true (by first | (with_reducible assumption) | assumption)
                                obtain ⟨ad161, e161, hx161_0⟩ := Kd.at_int (Kd.R_reads' HO_4.out).2.2 x8_1 p161 q161
                                obtain rfl : ad159 = ad161 := (by injection e161)
                                replace p161 := eq_true p161
                                replace q161 := eq_true q161
                                go_wp2_with (first | (go_at_call 69; (with_reducible refine (spec_Class.calls k3 (rd t149 x8_1) t162 _ A18.out).mono ?_); rintro e w' ⟨rfl, ⟨nd, rfl⟩⟩))
                                go_meet
                                case rel => exact ⟨_, (x9_3), (by first | rfl | (simp; done) | (simp [*]; done)), H', ⟨by have := HK1.out; have := HJ9.out; have := HK3.out; first | omega | exact Nat.le_refl _⟩, ⟨by (with_reducible repeat (first | apply Kd.R_alloc | apply Kd.R_drewN | apply Kd.R_drew)); exact HO_4.out⟩, ⟨by (with_reducible repeat (first | apply Kd.R_alloc | apply Kd.R_drewN | apply Kd.R_drew)); exact HO_6.out⟩, ⟨by repeat (first | (with_reducible first | exact HB.out | apply below_alloc | apply pw_below_drewN | apply below_drew1) | exact HB.out)⟩⟩
                              · rw [if_neg c19] at H
                                have c19b0 : (t162 == 4) = false := beq_eq_false_iff_ne.mpr c19
                                have c19b1 : (t162 != 4) = true := bne_iff_ne.mpr c19
                                by_cases c20 : 0 ≤ x9_3
                                · rw [if_pos c20] at H
                                  have c20b0 : decide (0 ≤ x9_3) = true := decide_eq_true c20
                                  clear c20
                                  replace H := Option.bind_eq_some_iff.mp H
                                  obtain ⟨t164, A210, H⟩ := H
                                  replace H : (if t164 = true then (spec_Break.l1 k3 t149 x6_1 x7_1 x8_1 (wrap64 (x9_3 + 1))) else (if x9_3 > x8_1 then ((spec_Class.f k3 (rd t149 x9_3)).bind fun t166 => (if t166 = 3 then (if 0 ≤ (wrap64 (x9_3 - 1)) then (if (wrap64 (x9_3 - 1)) < (t149.length : Int) then ((spec_l01Inner.f k3 (rd t149 (wrap64 (x9_3 - 1)))).bind fun t168 => (if t168 = true then (if (wrap64 (x9_3 + 1)) < (t149.length : Int) then (if 0 ≤ (wrap64 (x9_3 + 1)) then ((spec_l01Inner.f k3 (rd t149 (wrap64 (x9_3 + 1)))).bind fun t170 => (if t170 = true then (spec_Break.l1 k3 t149 x6_1 x7_1 x8_1 (wrap64 (x9_3 + 1))) else (spec_Break.j3 k3 t149 x6_1 x7_1 x8_1 x9_3))) else (none)) else (spec_Break.j3 k3 t149 x6_1 x7_1 x8_1 x9_3)) else (spec_Break.j3 k3 t149 x6_1 x7_1 x8_1 x9_3))) else (none)) else (none)) else (spec_Break.j3 k3 t149 x6_1 x7_1 x8_1 x9_3))) else (spec_Break.j3 k3 t149 x6_1 x7_1 x8_1 x9_3))) = some (r1, r2) := H
                                  have A21 := Aside0.mk A210
                                  clear A210
                                  by_cases c22 : t164 = true
                                  · subst c22
                                    have H1 : (spec_Break.l1 k3 t149 x6_1 x7_1 x8_1 (wrap64 (x9_3 + 1))) = some (r1, r2) := by rw [if_pos rfl] at H; exact H
                                    clear H
                                    have H := H1
                                    clear H1
                                    have H' := Aside0.mk H
                                    clear H
                                    have p161 : 0 ≤ (x8_1 : Int) := of_decide_eq_true (by first | (with_reducible assumption) | assumption)
                                    have q161 : x8_1 < (t149.length : Int) := of_decide_eq_true (by first | (with_reducible assumption) | assumption)
                                    obtain ⟨ad161, e161, hx161_0⟩ := Kd.at_int (Kd.R_reads' HO_4.out).2.2 x8_1 p161 q161
                                    obtain rfl : ad159 = ad161 := (by injection e161)
                                    replace p161 := eq_true p161
                                    replace q161 := eq_true q161
                                    go_wp2_with (first | (go_at_call 69; (with_reducible refine (spec_Class.calls k3 (rd t149 x8_1) t162 _ A18.out).mono ?_); rintro e w' ⟨rfl, ⟨nd, rfl⟩⟩; have p163 : 0 ≤ (x9_3 : Int) := of_decide_eq_true (by first | (with_reducible assumption) | assumption); have q163 : x9_3 < (t149.length : Int) := of_decide_eq_true (by first | (with_reducible assumption) | assumption); obtain ⟨ad163, e163, hx163_0⟩ := Kd.at_int (Kd.R_reads' HO_4.out).2.2 x9_3 p163 q163; obtain rfl : ad159 = ad163 := (by injection e163); replace p163 := eq_true p163; replace q163 := eq_true q163) | (go_at_call 70; (with_reducible refine (spec_l01Inner.calls k3 (rd t149 x9_3) true _ A21.out).mono ?_); rintro e w' ⟨rfl, ⟨nd, rfl⟩⟩))
                                    go_roundg k3
                                    case measure => have := HK1.out; have := HJ9.out; have := HK3.out; omega
                                    case rel => exact ⟨(wrap64 (x9_3 + 1)), (by first | rfl | (simp; done) | (simp [*]; done)), H', ⟨by have := HK1.out; have := HJ9.out; have := HK3.out; omega⟩, ⟨by (with_reducible repeat (first | apply Kd.R_alloc | apply Kd.R_drewN | apply Kd.R_drew)); exact HO_4.out⟩, ⟨by (with_reducible repeat (first | apply Kd.R_alloc | apply Kd.R_drewN | apply Kd.R_drew)); exact HO_6.out⟩, ⟨by repeat (first | (with_reducible first | exact HB.out | apply below_alloc | apply pw_below_drewN | apply below_drew1) | exact HB.out)⟩⟩
                                  · replace c22 := Bool.eq_false_iff.mpr c22
                                    subst c22
                                    have H1 : (if x9_3 > x8_1 then ((spec_Class.f k3 (rd t149 x9_3)).bind fun t166 => (if t166 = 3 then (if 0 ≤ (wrap64 (x9_3 - 1)) then (if (wrap64 (x9_3 - 1)) < (t149.length : Int) then ((spec_l01Inner.f k3 (rd t149 (wrap64 (x9_3 - 1)))).bind fun t168 => (if t168 = true then (if (wrap64 (x9_3 + 1)) < (t149.length : Int) then (if 0 ≤ (wrap64 (x9_3 + 1)) then ((spec_l01Inner.f k3 (rd t149 (wrap64 (x9_3 + 1)))).bind fun t170 => (if t170 = true then (spec_Break.l1 k3 t149 x6_1 x7_1 x8_1 (wrap64 (x9_3 + 1))) else (spec_Break.j3 k3 t149 x6_1 x7_1 x8_1 x9_3))) else (none)) else (spec_Break.j3 k3 t149 x6_1 x7_1 x8_1 x9_3)) else (spec_Break.j3 k3 t149 x6_1 x7_1 x8_1 x9_3))) else (none)) else (none)) else (spec_Break.j3 k3 t149 x6_1 x7_1 x8_1 x9_3))) else (spec_Break.j3 k3 t149 x6_1 x7_1 x8_1 x9_3)) = some (r1, r2) := by rw [if_neg (show ¬ (false = true) by decide)] at H; exact H
                                    clear H
                                    have H := H1
                                    clear H1
                                    by_cases c23 : x9_3 > x8_1
                                    · rw [if_pos c23] at H
                                      have c23b0 : decide (x8_1 < x9_3) = true := decide_eq_true c23
                                      clear c23
                                      replace H := Option.bind_eq_some_iff.mp H
                                      obtain ⟨t166, A240, H⟩ := H
                                      replace H : (if t166 = 3 then (if 0 ≤ (wrap64 (x9_3 - 1)) then (if (wrap64 (x9_3 - 1)) < (t149.length : Int) then ((spec_l01Inner.f k3 (rd t149 (wrap64 (x9_3 - 1)))).bind fun t168 => (if t168 = true then (if (wrap64 (x9_3 + 1)) < (t149.length : Int) then (if 0 ≤ (wrap64 (x9_3 + 1)) then ((spec_l01Inner.f k3 (rd t149 (wrap64 (x9_3 + 1)))).bind fun t170 => (if t170 = true then (spec_Break.l1 k3 t149 x6_1 x7_1 x8_1 (wrap64 (x9_3 + 1))) else (spec_Break.j3 k3 t149 x6_1 x7_1 x8_1 x9_3))) else (none)) else (spec_Break.j3 k3 t149 x6_1 x7_1 x8_1 x9_3)) else (spec_Break.j3 k3 t149 x6_1 x7_1 x8_1 x9_3))) else (none)) else (none)) else (spec_Break.j3 k3 t149 x6_1 x7_1 x8_1 x9_3)) = some (r1, r2) := H
                                      have A24 := Aside0.mk A240
                                      clear A240
                                      by_cases c25 : t166 = 3
                                      · rw [if_pos c25] at H
                                        have c25b0 : (t166 == 3) = true := beq_iff_eq.mpr c25
                                        have c25b1 : (t166 != 3) = false := bne_eq_false_iff_eq.mpr c25
                                        clear c25
                                        obtain ⟨ji26, hji26⟩ : ∃ j_ : Int, (wrap64 (x9_3 - 1)) = j_ := ⟨_, rfl⟩
                                        replace H : (if 0 ≤ (ji26) then (if (ji26) < (t149.length : Int) then ((spec_l01Inner.f k3 (rd t149 (ji26))).bind fun t168 => (if t168 = true then (if (wrap64 (x9_3 + 1)) < (t149.length : Int) then (if 0 ≤ (wrap64 (x9_3 + 1)) then ((spec_l01Inner.f k3 (rd t149 (wrap64 (x9_3 + 1)))).bind fun t170 => (if t170 = true then (spec_Break.l1 k3 t149 x6_1 x7_1 x8_1 (wrap64 (x9_3 + 1))) else (spec_Break.j3 k3 t149 x6_1 x7_1 x8_1 x9_3))) else (none)) else (spec_Break.j3 k3 t149 x6_1 x7_1 x8_1 x9_3)) else (spec_Break.j3 k3 t149 x6_1 x7_1 x8_1 x9_3))) else (none)) else (none)) = some (r1, r2) := by first | (rw [hji26] at H; exact H) | (simp only [hji26] at H ⊢; exact H)
                                        (try rw [hji26] at A18)
                                        (try rw [hji26] at A21)
                                        (try rw [hji26] at A24)
                                        have hji26w : (IntKind.i64.wrap (x9_3 - 1)) = ji26 := (i64_w _).trans hji26
                                        by_cases c27 : 0 ≤ (ji26)
                                        · rw [if_pos c27] at H
                                          have c27b0 : decide (0 ≤ (ji26)) = true := decide_eq_true c27
                                          clear c27
                                          by_cases c28 : (ji26) < (t149.length : Int)
                                          · rw [if_pos c28] at H
                                            have c28b0 : decide ((ji26) < (t149.length : Int)) = true := decide_eq_true c28
                                            clear c28
                                            replace H := Option.bind_eq_some_iff.mp H
                                            obtain ⟨t168, A290, H⟩ := H
                                            replace H : (if t168 = true then (if (wrap64 (x9_3 + 1)) < (t149.length : Int) then (if 0 ≤ (wrap64 (x9_3 + 1)) then ((spec_l01Inner.f k3 (rd t149 (wrap64 (x9_3 + 1)))).bind fun t170 => (if t170 = true then (spec_Break.l1 k3 t149 x6_1 x7_1 x8_1 (wrap64 (x9_3 + 1))) else (spec_Break.j3 k3 t149 x6_1 x7_1 x8_1 x9_3))) else (none)) else (spec_Break.j3 k3 t149 x6_1 x7_1 x8_1 x9_3)) else (spec_Break.j3 k3 t149 x6_1 x7_1 x8_1 x9_3)) = some (r1, r2) := H
                                            have A29 := Aside0.mk A290
                                            clear A290
                                            by_cases c30 : t168 = true
                                            · subst c30
                                              have H1 : (if (wrap64 (x9_3 + 1)) < (t149.length : Int) then (if 0 ≤ (wrap64 (x9_3 + 1)) then ((spec_l01Inner.f k3 (rd t149 (wrap64 (x9_3 + 1)))).bind fun t170 => (if t170 = true then (spec_Break.l1 k3 t149 x6_1 x7_1 x8_1 (wrap64 (x9_3 + 1))) else (spec_Break.j3 k3 t149 x6_1 x7_1 x8_1 x9_3))) else (none)) else (spec_Break.j3 k3 t149 x6_1 x7_1 x8_1 x9_3)) = some (r1, r2) := by rw [if_pos rfl] at H; exact H
                                              clear H
                                              have H := H1
                                              clear H1
                                              by_cases c31 : (wrap64 (x9_3 + 1)) < (t149.length : Int)
                                              · rw [if_pos c31] at H
                                                have c31b0 : decide ((wrap64 (x9_3 + 1)) < (t149.length : Int)) = true := decide_eq_true c31
                                                clear c31
                                                obtain ⟨ji32, hji32⟩ : ∃ j_ : Int, (wrap64 (x9_3 + 1)) = j_ := ⟨_, rfl⟩
                                                replace H : (if 0 ≤ (ji32) then ((spec_l01Inner.f k3 (rd t149 (ji32))).bind fun t170 => (if t170 = true then (spec_Break.l1 k3 t149 x6_1 x7_1 x8_1 ji32) else (spec_Break.j3 k3 t149 x6_1 x7_1 x8_1 x9_3))) else (none)) = some (r1, r2) := by first | (rw [hji32] at H; exact H) | (simp only [hji32] at H ⊢; exact H)
                                                (try rw [hji32] at c31b0)
                                                (try rw [hji32] at A18)
                                                (try rw [hji32] at A21)
                                                (try rw [hji32] at A24)
                                                (try rw [hji32] at A29)
                                                have hji32w : (IntKind.i64.wrap (x9_3 + 1)) = ji32 := (i64_w _).trans hji32
                                                by_cases c33 : 0 ≤ (ji32)
                                                · rw [if_pos c33] at H
                                                  have c33b0 : decide (0 ≤ (ji32)) = true := decide_eq_true c33
                                                  clear c33
                                                  replace H := Option.bind_eq_some_iff.mp H
                                                  obtain ⟨t170, A340, H⟩ := H
                                                  replace H : (if t170 = true then (spec_Break.l1 k3 t149 x6_1 x7_1 x8_1 ji32) else (spec_Break.j3 k3 t149 x6_1 x7_1 x8_1 x9_3)) = some (r1, r2) := H
                                                  have A34 := Aside0.mk A340
                                                  clear A340
                                                  by_cases c35 : t170 = true
                                                  · subst c35
                                                    have H1 : (spec_Break.l1 k3 t149 x6_1 x7_1 x8_1 ji32) = some (r1, r2) := by rw [if_pos rfl] at H; exact H
                                                    clear H
                                                    have H := H1
                                                    clear H1
                                                    have H' := Aside0.mk H
                                                    clear H
                                                    have p161 : 0 ≤ (x8_1 : Int) := of_decide_eq_true (by first | (with_reducible assumption) | assumption)
                                                    have q161 : x8_1 < (t149.length : Int) := of_decide_eq_true (by first | (with_reducible assumption) | assumption)
                                                    obtain ⟨ad161, e161, hx161_0⟩ := Kd.at_int (Kd.R_reads' HO_4.out).2.2 x8_1 p161 q161
                                                    obtain rfl : ad159 = ad161 := (by injection e161)
                                                    replace p161 := eq_true p161
                                                    replace q161 := eq_true q161
                                                    go_wp2_with (first | (go_at_call 69; (with_reducible refine (spec_Class.calls k3 (rd t149 x8_1) t162 _ A18.out).mono ?_); rintro e w' ⟨rfl, ⟨nd, rfl⟩⟩; have p163 : 0 ≤ (x9_3 : Int) := of_decide_eq_true (by first | (with_reducible assumption) | assumption); have q163 : x9_3 < (t149.length : Int) := of_decide_eq_true (by first | (with_reducible assumption) | assumption); obtain ⟨ad163, e163, hx163_0⟩ := Kd.at_int (Kd.R_reads' HO_4.out).2.2 x9_3 p163 q163; obtain rfl : ad159 = ad163 := (by injection e163); replace p163 := eq_true p163; replace q163 := eq_true q163) | (go_at_call 70; (with_reducible refine (spec_l01Inner.calls k3 (rd t149 x9_3) false _ A21.out).mono ?_); rintro e w' ⟨rfl, ⟨nd, rfl⟩⟩; have p165 : 0 ≤ (x9_3 : Int) := of_decide_eq_true (by first | (with_reducible assumption) | assumption); have q165 : x9_3 < (t149.length : Int) := of_decide_eq_true (by first | (with_reducible assumption) | assumption); obtain ⟨ad165, e165, hx165_0⟩ := Kd.at_int (Kd.R_reads' HO_4.out).2.2 x9_3 p165 q165; obtain rfl : ad159 = ad165 := (by injection e165); replace p165 := eq_true p165; replace q165 := eq_true q165) | (go_at_call 69; (with_reducible refine (spec_Class.calls k3 (rd t149 x9_3) t166 _ A24.out).mono ?_); rintro e w' ⟨rfl, ⟨nd, rfl⟩⟩; have p167 : 0 ≤ ((ji26) : Int) := of_decide_eq_true (by first | (with_reducible assumption) | assumption); have q167 : (ji26) < (t149.length : Int) := of_decide_eq_true (by first | (with_reducible assumption) | assumption); obtain ⟨ad167, e167, hx167_0⟩ := Kd.at_int (Kd.R_reads' HO_4.out).2.2 (ji26) p167 q167; obtain rfl : ad159 = ad167 := (by injection e167); replace p167 := eq_true p167; replace q167 := eq_true q167) | (go_at_call 70; (with_reducible refine (spec_l01Inner.calls k3 (rd t149 (ji26)) true _ A29.out).mono ?_); rintro e w' ⟨rfl, ⟨nd, rfl⟩⟩; have p169 : 0 ≤ ((ji32) : Int) := of_decide_eq_true (by first | (with_reducible assumption) | assumption); have q169 : (ji32) < (t149.length : Int) := of_decide_eq_true (by first | (with_reducible assumption) | assumption); obtain ⟨ad169, e169, hx169_0⟩ := Kd.at_int (Kd.R_reads' HO_4.out).2.2 (ji32) p169 q169; obtain rfl : ad159 = ad169 := (by injection e169); replace p169 := eq_true p169; replace q169 := eq_true q169) | (go_at_call 70; (with_reducible refine (spec_l01Inner.calls k3 (rd t149 (ji32)) true _ A34.out).mono ?_); rintro e w' ⟨rfl, ⟨nd, rfl⟩⟩))
                                                    go_roundg k3
                                                    case measure => have := HK1.out; have := HJ9.out; have := HK3.out; omega
                                                    case rel => exact ⟨(ji32), (by first | rfl | (simp; done) | (simp only [← hji32] <;> (first | rfl | simp)) | (simp [*]; done)), H', ⟨by have := HK1.out; have := HJ9.out; have := HK3.out; omega⟩, ⟨by (with_reducible repeat (first | apply Kd.R_alloc | apply Kd.R_drewN | apply Kd.R_drew)); exact HO_4.out⟩, ⟨by (with_reducible repeat (first | apply Kd.R_alloc | apply Kd.R_drewN | apply Kd.R_drew)); exact HO_6.out⟩, ⟨by repeat (first | (with_reducible first | exact HB.out | apply below_alloc | apply pw_below_drewN | apply below_drew1) | exact HB.out)⟩⟩
                                                  · replace c35 := Bool.eq_false_iff.mpr c35
                                                    subst c35
                                                    have H1 : (spec_Break.j3 k3 t149 x6_1 x7_1 x8_1 x9_3) = some (r1, r2) := by rw [if_neg (show ¬ (false = true) by decide)] at H; exact H
                                                    clear H
                                                    have H := H1
                                                    clear H1
                                                    have H' := Aside0.mk H
                                                    clear H
                                                    have p161 : 0 ≤ (x8_1 : Int) := of_decide_eq_true (by first | (with_reducible assumption) | assumption)
                                                    have q161 : x8_1 < (t149.length : Int) := of_decide_eq_true (by first | (with_reducible assumption) | assumption)
                                                    obtain ⟨ad161, e161, hx161_0⟩ := Kd.at_int (Kd.R_reads' HO_4.out).2.2 x8_1 p161 q161
                                                    obtain rfl : ad159 = ad161 := (by injection e161)
                                                    replace p161 := eq_true p161
                                                    replace q161 := eq_true q161
                                                    go_wp2_with (first | (go_at_call 69; (with_reducible refine (spec_Class.calls k3 (rd t149 x8_1) t162 _ A18.out).mono ?_); rintro e w' ⟨rfl, ⟨nd, rfl⟩⟩; have p163 : 0 ≤ (x9_3 : Int) := of_decide_eq_true (by first | (with_reducible assumption) | assumption); have q163 : x9_3 < (t149.length : Int) := of_decide_eq_true (by first | (with_reducible assumption) | assumption); obtain ⟨ad163, e163, hx163_0⟩ := Kd.at_int (Kd.R_reads' HO_4.out).2.2 x9_3 p163 q163; obtain rfl : ad159 = ad163 := (by injection e163); replace p163 := eq_true p163; replace q163 := eq_true q163) | (go_at_call 70; (with_reducible refine (spec_l01Inner.calls k3 (rd t149 x9_3) false _ A21.out).mono ?_); rintro e w' ⟨rfl, ⟨nd, rfl⟩⟩; have p165 : 0 ≤ (x9_3 : Int) := of_decide_eq_true (by first | (with_reducible assumption) | assumption); have q165 : x9_3 < (t149.length : Int) := of_decide_eq_true (by first | (with_reducible assumption) | assumption); obtain ⟨ad165, e165, hx165_0⟩ := Kd.at_int (Kd.R_reads' HO_4.out).2.2 x9_3 p165 q165; obtain rfl : ad159 = ad165 := (by injection e165); replace p165 := eq_true p165; replace q165 := eq_true q165) | (go_at_call 69; (with_reducible refine (spec_Class.calls k3 (rd t149 x9_3) t166 _ A24.out).mono ?_); rintro e w' ⟨rfl, ⟨nd, rfl⟩⟩; have p167 : 0 ≤ ((ji26) : Int) := of_decide_eq_true (by first | (with_reducible assumption) | assumption); have q167 : (ji26) < (t149.length : Int) := of_decide_eq_true (by first | (with_reducible assumption) | assumption); obtain ⟨ad167, e167, hx167_0⟩ := Kd.at_int (Kd.R_reads' HO_4.out).2.2 (ji26) p167 q167; obtain rfl : ad159 = ad167 := (by injection e167); replace p167 := eq_true p167; replace q167 := eq_true q167) | (go_at_call 70; (with_reducible refine (spec_l01Inner.calls k3 (rd t149 (ji26)) true _ A29.out).mono ?_); rintro e w' ⟨rfl, ⟨nd, rfl⟩⟩; have p169 : 0 ≤ ((ji32) : Int) := of_decide_eq_true (by first | (with_reducible assumption) | assumption); have q169 : (ji32) < (t149.length : Int) := of_decide_eq_true (by first | (with_reducible assumption) | assumption); obtain ⟨ad169, e169, hx169_0⟩ := Kd.at_int (Kd.R_reads' HO_4.out).2.2 (ji32) p169 q169; obtain rfl : ad159 = ad169 := (by injection e169); replace p169 := eq_true p169; replace q169 := eq_true q169) | (go_at_call 70; (with_reducible refine (spec_l01Inner.calls k3 (rd t149 (ji32)) false _ A34.out).mono ?_); rintro e w' ⟨rfl, ⟨nd, rfl⟩⟩))
                                                    go_meet
                                                    case rel => exact ⟨_, (x9_3), (by first | rfl | (simp; done) | (simp [*]; done)), H', ⟨by have := HK1.out; have := HJ9.out; have := HK3.out; first | omega | exact Nat.le_refl _⟩, ⟨by (with_reducible repeat (first | apply Kd.R_alloc | apply Kd.R_drewN | apply Kd.R_drew)); exact HO_4.out⟩, ⟨by (with_reducible repeat (first | apply Kd.R_alloc | apply Kd.R_drewN | apply Kd.R_drew)); exact HO_6.out⟩, ⟨by repeat (first | (with_reducible first | exact HB.out | apply below_alloc | apply pw_below_drewN | apply below_drew1) | exact HB.out)⟩⟩
                                                · rw [if_neg c33] at H
                                                  exact absurd H (by simp)
                                              · rw [if_neg c31] at H
                                                have c31b0 : decide ((wrap64 (x9_3 + 1)) < (t149.length : Int)) = false := decide_eq_false c31
                                                clear c31
                                                have H' := Aside0.mk H
                                                clear H
                                                have p161 : 0 ≤ (x8_1 : Int) := of_decide_eq_true (by first | (with_reducible assumption) | assumption)
                                                have q161 : x8_1 < (t149.length : Int) := of_decide_eq_true (by first | (with_reducible assumption) | assumption)
                                                obtain ⟨ad161, e161, hx161_0⟩ := Kd.at_int (Kd.R_reads' HO_4.out).2.2 x8_1 p161 q161
                                                obtain rfl : ad159 = ad161 := (by injection e161)
                                                replace p161 := eq_true p161
                                                replace q161 := eq_true q161
                                                go_wp2_with (first | (go_at_call 69; (with_reducible refine (spec_Class.calls k3 (rd t149 x8_1) t162 _ A18.out).mono ?_); rintro e w' ⟨rfl, ⟨nd, rfl⟩⟩; have p163 : 0 ≤ (x9_3 : Int) := of_decide_eq_true (by first | (with_reducible assumption) | assumption); have q163 : x9_3 < (t149.length : Int) := of_decide_eq_true (by first | (with_reducible assumption) | assumption); obtain ⟨ad163, e163, hx163_0⟩ := Kd.at_int (Kd.R_reads' HO_4.out).2.2 x9_3 p163 q163; obtain rfl : ad159 = ad163 := (by injection e163); replace p163 := eq_true p163; replace q163 := eq_true q163) | (go_at_call 70; (with_reducible refine (spec_l01Inner.calls k3 (rd t149 x9_3) false _ A21.out).mono ?_); rintro e w' ⟨rfl, ⟨nd, rfl⟩⟩; have p165 : 0 ≤ (x9_3 : Int) := of_decide_eq_true (by first | (with_reducible assumption) | assumption); have q165 : x9_3 < (t149.length : Int) := of_decide_eq_true (by first | (with_reducible assumption) | assumption); obtain ⟨ad165, e165, hx165_0⟩ := Kd.at_int (Kd.R_reads' HO_4.out).2.2 x9_3 p165 q165; obtain rfl : ad159 = ad165 := (by injection e165); replace p165 := eq_true p165; replace q165 := eq_true q165) | (go_at_call 69; (with_reducible refine (spec_Class.calls k3 (rd t149 x9_3) t166 _ A24.out).mono ?_); rintro e w' ⟨rfl, ⟨nd, rfl⟩⟩; have p167 : 0 ≤ ((ji26) : Int) := of_decide_eq_true (by first | (with_reducible assumption) | assumption); have q167 : (ji26) < (t149.length : Int) := of_decide_eq_true (by first | (with_reducible assumption) | assumption); obtain ⟨ad167, e167, hx167_0⟩ := Kd.at_int (Kd.R_reads' HO_4.out).2.2 (ji26) p167 q167; obtain rfl : ad159 = ad167 := (by injection e167); replace p167 := eq_true p167; replace q167 := eq_true q167) | (go_at_call 70; (with_reducible refine (spec_l01Inner.calls k3 (rd t149 (ji26)) true _ A29.out).mono ?_); rintro e w' ⟨rfl, ⟨nd, rfl⟩⟩))
                                                go_meet
                                                case rel => exact ⟨_, (x9_3), (by first | rfl | (simp; done) | (simp [*]; done)), H', ⟨by have := HK1.out; have := HJ9.out; have := HK3.out; first | omega | exact Nat.le_refl _⟩, ⟨by (with_reducible repeat (first | apply Kd.R_alloc | apply Kd.R_drewN | apply Kd.R_drew)); exact HO_4.out⟩, ⟨by (with_reducible repeat (first | apply Kd.R_alloc | apply Kd.R_drewN | apply Kd.R_drew)); exact HO_6.out⟩, ⟨by repeat (first | (with_reducible first | exact HB.out | apply below_alloc | apply pw_below_drewN | apply below_drew1) | exact HB.out)⟩⟩
                                            · replace c30 := Bool.eq_false_iff.mpr c30
                                              subst c30
                                              have H1 : (spec_Break.j3 k3 t149 x6_1 x7_1 x8_1 x9_3) = some (r1, r2) := by rw [if_neg (show ¬ (false = true) by decide)] at H; exact H
                                              clear H
                                              have H := H1
                                              clear H1
                                              have H' := Aside0.mk H
                                              clear H
                                              have p161 : 0 ≤ (x8_1 : Int) := of_decide_eq_true (by first | (with_reducible assumption) | assumption)
                                              have q161 : x8_1 < (t149.length : Int) := of_decide_eq_true (by first | (with_reducible assumption) | assumption)
                                              obtain ⟨ad161, e161, hx161_0⟩ := Kd.at_int (Kd.R_reads' HO_4.out).2.2 x8_1 p161 q161
                                              obtain rfl : ad159 = ad161 := (by injection e161)
                                              replace p161 := eq_true p161
                                              replace q161 := eq_true q161
                                              go_wp2_with (first | (go_at_call 69; (with_reducible refine (spec_Class.calls k3 (rd t149 x8_1) t162 _ A18.out).mono ?_); rintro e w' ⟨rfl, ⟨nd, rfl⟩⟩; have p163 : 0 ≤ (x9_3 : Int) := of_decide_eq_true (by first | (with_reducible assumption) | assumption); have q163 : x9_3 < (t149.length : Int) := of_decide_eq_true (by first | (with_reducible assumption) | assumption); obtain ⟨ad163, e163, hx163_0⟩ := Kd.at_int (Kd.R_reads' HO_4.out).2.2 x9_3 p163 q163; obtain rfl : ad159 = ad163 := (by injection e163); replace p163 := eq_true p163; replace q163 := eq_true q163) | (go_at_call 70; (with_reducible refine (spec_l01Inner.calls k3 (rd t149 x9_3) false _ A21.out).mono ?_); rintro e w' ⟨rfl, ⟨nd, rfl⟩⟩; have p165 : 0 ≤ (x9_3 : Int) := of_decide_eq_true (by first | (with_reducible assumption) | assumption); have q165 : x9_3 < (t149.length : Int) := of_decide_eq_true (by first | (with_reducible assumption) | assumption); obtain ⟨ad165, e165, hx165_0⟩ := Kd.at_int (Kd.R_reads' HO_4.out).2.2 x9_3 p165 q165; obtain rfl : ad159 = ad165 := (by injection e165); replace p165 := eq_true p165; replace q165 := eq_true q165) | (go_at_call 69; (with_reducible refine (spec_Class.calls k3 (rd t149 x9_3) t166 _ A24.out).mono ?_); rintro e w' ⟨rfl, ⟨nd, rfl⟩⟩; have p167 : 0 ≤ ((ji26) : Int) := of_decide_eq_true (by first | (with_reducible assumption) | assumption); have q167 : (ji26) < (t149.length : Int) := of_decide_eq_true (by first | (with_reducible assumption) | assumption); obtain ⟨ad167, e167, hx167_0⟩ := Kd.at_int (Kd.R_reads' HO_4.out).2.2 (ji26) p167 q167; obtain rfl : ad159 = ad167 := (by injection e167); replace p167 := eq_true p167; replace q167 := eq_true q167) | (go_at_call 70; (with_reducible refine (spec_l01Inner.calls k3 (rd t149 (ji26)) false _ A29.out).mono ?_); rintro e w' ⟨rfl, ⟨nd, rfl⟩⟩))
                                              go_meet
                                              case rel => exact ⟨_, (x9_3), (by first | rfl | (simp; done) | (simp [*]; done)), H', ⟨by have := HK1.out; have := HJ9.out; have := HK3.out; first | omega | exact Nat.le_refl _⟩, ⟨by (with_reducible repeat (first | apply Kd.R_alloc | apply Kd.R_drewN | apply Kd.R_drew)); exact HO_4.out⟩, ⟨by (with_reducible repeat (first | apply Kd.R_alloc | apply Kd.R_drewN | apply Kd.R_drew)); exact HO_6.out⟩, ⟨by repeat (first | (with_reducible first | exact HB.out | apply below_alloc | apply pw_below_drewN | apply below_drew1) | exact HB.out)⟩⟩
                                          · rw [if_neg c28] at H
                                            exact absurd H (by simp)
                                        · rw [if_neg c27] at H
                                          exact absurd H (by simp)
                                      · rw [if_neg c25] at H
                                        have c25b0 : (t166 == 3) = false := beq_eq_false_iff_ne.mpr c25
                                        have c25b1 : (t166 != 3) = true := bne_iff_ne.mpr c25
                                        have H' := Aside0.mk H
                                        clear H
                                        have p161 : 0 ≤ (x8_1 : Int) := of_decide_eq_true (by first | (with_reducible assumption) | assumption)
                                        have q161 : x8_1 < (t149.length : Int) := of_decide_eq_true (by first | (with_reducible assumption) | assumption)
                                        obtain ⟨ad161, e161, hx161_0⟩ := Kd.at_int (Kd.R_reads' HO_4.out).2.2 x8_1 p161 q161
                                        obtain rfl : ad159 = ad161 := (by injection e161)
                                        replace p161 := eq_true p161
                                        replace q161 := eq_true q161
                                        go_wp2_with (first | (go_at_call 69; (with_reducible refine (spec_Class.calls k3 (rd t149 x8_1) t162 _ A18.out).mono ?_); rintro e w' ⟨rfl, ⟨nd, rfl⟩⟩; have p163 : 0 ≤ (x9_3 : Int) := of_decide_eq_true (by first | (with_reducible assumption) | assumption); have q163 : x9_3 < (t149.length : Int) := of_decide_eq_true (by first | (with_reducible assumption) | assumption); obtain ⟨ad163, e163, hx163_0⟩ := Kd.at_int (Kd.R_reads' HO_4.out).2.2 x9_3 p163 q163; obtain rfl : ad159 = ad163 := (by injection e163); replace p163 := eq_true p163; replace q163 := eq_true q163) | (go_at_call 70; (with_reducible refine (spec_l01Inner.calls k3 (rd t149 x9_3) false _ A21.out).mono ?_); rintro e w' ⟨rfl, ⟨nd, rfl⟩⟩; have p165 : 0 ≤ (x9_3 : Int) := of_decide_eq_true (by first | (with_reducible assumption) | assumption); have q165 : x9_3 < (t149.length : Int) := of_decide_eq_true (by first | (with_reducible assumption) | assumption); obtain ⟨ad165, e165, hx165_0⟩ := Kd.at_int (Kd.R_reads' HO_4.out).2.2 x9_3 p165 q165; obtain rfl : ad159 = ad165 := (by injection e165); replace p165 := eq_true p165; replace q165 := eq_true q165) | (go_at_call 69; (with_reducible refine (spec_Class.calls k3 (rd t149 x9_3) t166 _ A24.out).mono ?_); rintro e w' ⟨rfl, ⟨nd, rfl⟩⟩))
                                        go_meet
                                        case rel => exact ⟨_, (x9_3), (by first | rfl | (simp; done) | (simp [*]; done)), H', ⟨by have := HK1.out; have := HJ9.out; have := HK3.out; first | omega | exact Nat.le_refl _⟩, ⟨by (with_reducible repeat (first | apply Kd.R_alloc | apply Kd.R_drewN | apply Kd.R_drew)); exact HO_4.out⟩, ⟨by (with_reducible repeat (first | apply Kd.R_alloc | apply Kd.R_drewN | apply Kd.R_drew)); exact HO_6.out⟩, ⟨by repeat (first | (with_reducible first | exact HB.out | apply below_alloc | apply pw_below_drewN | apply below_drew1) | exact HB.out)⟩⟩
                                    · rw [if_neg c23] at H
                                      have c23b0 : decide (x8_1 < x9_3) = false := decide_eq_false c23
                                      clear c23
                                      have H' := Aside0.mk H
                                      clear H
                                      have p161 : 0 ≤ (x8_1 : Int) := of_decide_eq_true (by first | (with_reducible assumption) | assumption)
                                      have q161 : x8_1 < (t149.length : Int) := of_decide_eq_true (by first | (with_reducible assumption) | assumption)
                                      obtain ⟨ad161, e161, hx161_0⟩ := Kd.at_int (Kd.R_reads' HO_4.out).2.2 x8_1 p161 q161
                                      obtain rfl : ad159 = ad161 := (by injection e161)
                                      replace p161 := eq_true p161
                                      replace q161 := eq_true q161
                                      go_wp2_with (first | (go_at_call 69; (with_reducible refine (spec_Class.calls k3 (rd t149 x8_1) t162 _ A18.out).mono ?_); rintro e w' ⟨rfl, ⟨nd, rfl⟩⟩; have p163 : 0 ≤ (x9_3 : Int) := of_decide_eq_true (by first | (with_reducible assumption) | assumption); have q163 : x9_3 < (t149.length : Int) := of_decide_eq_true (by first | (with_reducible assumption) | assumption); obtain ⟨ad163, e163, hx163_0⟩ := Kd.at_int (Kd.R_reads' HO_4.out).2.2 x9_3 p163 q163; obtain rfl : ad159 = ad163 := (by injection e163); replace p163 := eq_true p163; replace q163 := eq_true q163) | (go_at_call 70; (with_reducible refine (spec_l01Inner.calls k3 (rd t149 x9_3) false _ A21.out).mono ?_); rintro e w' ⟨rfl, ⟨nd, rfl⟩⟩))
                                      go_meet
                                      case rel => exact ⟨_, (x9_3), (by first | rfl | (simp; done) | (simp [*]; done)), H', ⟨by have := HK1.out; have := HJ9.out; have := HK3.out; first | omega | exact Nat.le_refl _⟩, ⟨by (with_reducible repeat (first | apply Kd.R_alloc | apply Kd.R_drewN | apply Kd.R_drew)); exact HO_4.out⟩, ⟨by (with_reducible repeat (first | apply Kd.R_alloc | apply Kd.R_drewN | apply Kd.R_drew)); exact HO_6.out⟩, ⟨by repeat (first | (with_reducible first | exact HB.out | apply below_alloc | apply pw_below_drewN | apply below_drew1) | exact HB.out)⟩⟩
                                · rw [if_neg c20] at H
                                  exact absurd H (by simp)
                            · rw [if_neg c17] at H
                              exact absurd H (by simp)
                          · rw [if_neg c16] at H
                            exact absurd H (by simp)
                        · rw [if_neg c15] at H
                          have c15b0 : decide (x8_1 ≤ x9_3) = false := decide_eq_false c15
                          clear c15
                          have H' := Aside0.mk H
                          clear H
                          go_wp2
                          go_meet
                          case rel => exact ⟨_, (x9_3), (by first | rfl | (simp; done) | (simp [*]; done)), H', ⟨by have := HK1.out; have := HJ9.out; have := HK3.out; first | omega | exact Nat.le_refl _⟩, ⟨by (with_reducible repeat (first | apply Kd.R_alloc | apply Kd.R_drewN | apply Kd.R_drew)); exact HO_4.out⟩, ⟨by (with_reducible repeat (first | apply Kd.R_alloc | apply Kd.R_drewN | apply Kd.R_drew)); exact HO_6.out⟩, ⟨by repeat (first | (with_reducible first | exact HB.out | apply below_alloc | apply pw_below_drewN | apply below_drew1) | exact HB.out)⟩⟩
                      · rw [if_neg c14] at H
                        have c14b0 : decide (x9_3 < (t149.length : Int)) = false := decide_eq_false c14
                        clear c14
                        (first | rw [c14b0] | (simp only [i64_w, i32_w]; rw [c14b0]) | skip)
                        have H' := Aside0.mk H
                        clear H
                        go_wp2
                        go_meet
                        case rel => exact ⟨_, (x9_3), (by first | rfl | (simp; done) | (simp [*]; done)), H', ⟨by have := HK1.out; have := HJ9.out; have := HK3.out; first | omega | exact Nat.le_refl _⟩, ⟨by (with_reducible repeat (first | apply Kd.R_alloc | apply Kd.R_drewN | apply Kd.R_drew)); exact HO_4.out⟩, ⟨by (with_reducible repeat (first | apply Kd.R_alloc | apply Kd.R_drewN | apply Kd.R_drew)); exact HO_6.out⟩, ⟨by repeat (first | (with_reducible first | exact HB.out | apply below_alloc | apply pw_below_drewN | apply below_drew1) | exact HB.out)⟩⟩
                case rest =>
                  clear HC13
                  try clear c1
                  try clear p1
                  try clear q1
                  try clear hx1
                  try clear c2
                  try clear p2
                  try clear c3
                  try clear c3b0
                  try clear c3b1
                  try clear c6
                  try clear p6
                  try clear c7
                  try clear c7b0
                  try clear c8
                  try clear c8b0
                  try clear c12
                  try clear c12b0
                  try clear c12b1
                  try clear c14
                  try clear c14b0
                  try clear c15
                  try clear c15b0
                  try clear p15
                  try clear q15
                  try clear hx15
                  try clear c16
                  try clear c16b0
                  try clear p16
                  try clear q16
                  try clear hx16
                  try clear c17
                  try clear c17b0
                  try clear c19
                  try clear c19b0
                  try clear c19b1
                  try clear c20
                  try clear c20b0
                  try clear c22
                  try clear c23
                  try clear c23b0
                  try clear c25
                  try clear c25b0
                  try clear c25b1
                  try clear c27
                  try clear c27b0
                  try clear c28
                  try clear c28b0
                  try clear c30
                  try clear c31
                  try clear c31b0
                  try clear c32
                  try clear c33
                  try clear c33b0
                  try clear c35
                  try clear hx159_0
                  try clear hx161_0
                  try clear hx163_0
                  try clear hx165_0
                  try clear hx167_0
                  try clear hx169_0
                  try clear p1
                  try clear p159
                  try clear p161
                  try clear p163
                  try clear p165
                  try clear p167
                  try clear p169
                  try clear p2
                  try clear p6
                  try clear q1
                  try clear q159
                  try clear q161
                  try clear q163
                  try clear q165
                  try clear q167
                  try clear q169
                  obtain ⟨kq, x9_12, rfl, HA, HJ12, HO_4, HO_6, HB⟩ := hcut
                  cases kq with
                  | zero => exact absurd HA.out (by simp [spec_Break.j3])
                  | succ kj12 =>
                    have H := HA.out
                    clear HA
                    simp only [spec_Break.j3] at H
                    by_cases c36 : x9_12 = x8_1
                    · rw [if_pos c36] at H
                      have c36b0 : (x9_12 == x8_1) = true := beq_iff_eq.mpr c36
                      have c36b1 : (x9_12 != x8_1) = false := bne_eq_false_iff_eq.mpr c36
                      clear c36
                      by_cases c37 : 0 ≤ x8_1
                      · rw [if_pos c37] at H
                        have c37b0 : decide (0 ≤ x8_1) = true := decide_eq_true c37
                        clear c37
                        by_cases c38 : x8_1 < (t149.length : Int)
                        · rw [if_pos c38] at H
                          have c38b0 : decide (x8_1 < (t149.length : Int)) = true := decide_eq_true c38
                          clear c38
                          replace H := Option.bind_eq_some_iff.mp H
                          obtain ⟨t172, A390, H⟩ := H
                          replace H : (spec_Break.l0 kj12 t149 x6_1 (wrap64 (x7_1 + (t172.length : Int))) (wrap64 (x8_1 + 1))) = some (r1, r2) := H
                          have A39 := Aside0.mk A390
                          clear A390
                          have H' := Aside0.mk H
                          clear H
                          have p171 : 0 ≤ (x8_1 : Int) := of_decide_eq_true (by first | (with_reducible assumption) | assumption)
                          have q171 : x8_1 < (t149.length : Int) := of_decide_eq_true (by first | (with_reducible assumption) | assumption)
                          obtain ⟨ad171, e171, hx171_0⟩ := Kd.at_int (Kd.R_reads' HO_4.out).2.2 x8_1 p171 q171
                          obtain rfl : ad159 = ad171 := (by injection e171)
                          replace p171 := eq_true p171
                          replace q171 := eq_true q171
                          go_wp2_with (first | ((with_reducible refine gate_callee (f := 71) rfl ?_); refine goesL_ (some 104) rfl rfl Tryd.func71 (by kernel_rfl) rfl #[.int .i64 (rd t149 x8_1)] rfl (by (try simp only [List.map_toArray, List.map_cons, List.map_nil]); first | done | rfl | (simp only [List.length_drop, List.length_take]; rfl)) ?_; (with_reducible refine (spec_l01Bytes.calls (rd t149 x8_1) t172 _ A39.out).mono ?_); rintro e w40 ⟨v173, rfl, ho0, hb⟩; refine ⟨_, rfl, ?_⟩; have n0_ := Aside0.mk (Kd.R_below (by (with_reducible repeat (first | apply Kd.R_alloc | apply Kd.R_drewN | apply Kd.R_drew)); exact HO_4.out) hb); have n1_ := Aside0.mk (Kd.R_below (by (with_reducible repeat (first | apply Kd.R_alloc | apply Kd.R_drewN | apply Kd.R_drew)); exact HO_6.out) hb); have n2_ := Aside0.mk (Kd.R_lower ho0 (below_size (by repeat (first | (with_reducible first | exact HB.out | apply below_alloc | apply pw_below_drewN | apply below_drew1) | exact HB.out)))); have n3_ := Aside0.mk (below_step (by repeat (first | (with_reducible first | exact HB.out | apply below_alloc | apply pw_below_drewN | apply below_drew1) | exact HB.out)) hb); clear HO_4; clear HO_6; clear HB; have HO_4 := n0_; have HO_6 := n1_; have HO174 := n2_; have HB := n3_; clear n0_ n1_ n2_ n3_; (try clear hb); (try clear hb2); (try clear hk); (try clear hi); (try clear ho0); obtain ⟨Ao41, co41, eo41⟩ := Kd.R_slice HO174.out; subst eo41))
                          go_roundg kj12
                          case measure => have := HK1.out; have := HJ9.out; have := HJ12.out; omega
                          case rel => exact ⟨(x6_1), (wrap64 (x7_1 + (t172.length : Int))), (wrap64 (x8_1 + 1)), (by first | rfl | (simp; done) | (simp [*]; done)), (by first | rfl | (simp; done) | (simp [*]; done)), H', ⟨by have := HK1.out; have := HJ9.out; have := HJ12.out; omega⟩, ⟨by (with_reducible repeat (first | apply Kd.R_alloc | apply Kd.R_drewN | apply Kd.R_drew)); exact HO_4.out⟩, ⟨by (with_reducible repeat (first | apply Kd.R_alloc | apply Kd.R_drewN | apply Kd.R_drew)); exact HO_6.out⟩, ⟨by repeat (first | (with_reducible first | exact HB.out | apply below_alloc | apply pw_below_drewN | apply below_drew1) | exact HB.out)⟩⟩
                        · rw [if_neg c38] at H
                          exact absurd H (by simp)
                      · rw [if_neg c37] at H
                        exact absurd H (by simp)
                    · rw [if_neg c36] at H
                      have c36b0 : (x9_12 == x8_1) = false := beq_eq_false_iff_ne.mpr c36
                      have c36b1 : (x9_12 != x8_1) = true := bne_iff_ne.mpr c36
                      by_cases c42 : 0 ≤ x8_1
                      · rw [if_pos c42] at H
                        have c42b0 := eq_true c42
                        have c42b1 : decide (0 ≤ x8_1) = true := decide_eq_true c42
                        clear c42
                        by_cases c43 : x8_1 ≤ x9_12
                        · rw [if_pos c43] at H
                          have c43b0 := eq_true c43
                          have c43b1 : decide (x8_1 ≤ x9_12) = true := decide_eq_true c43
                          clear c43
                          by_cases c44 : x9_12 ≤ (t149.length : Int)
                          · rw [if_pos c44] at H
                            have c44b0 := eq_true c44
                            have c44b1 : decide (x9_12 ≤ (t149.length : Int)) = true := decide_eq_true c44
                            clear c44
                            obtain ⟨y175, hy175⟩ : ∃ y_ : List Int, y_ = ((t149.take (x9_12 : Int).toNat).drop (x8_1 : Int).toNat) := ⟨_, rfl⟩
                            replace H : ((spec_l01Encode.f kj12 y175).bind fun t179 => (if x6_1.length < 3518437208883 then ((some (x6_1 ++ [(⟨t179, (x6_1.length : Int), x7_1, wrap64 (x7_1 + (t179.size : Int))⟩ : S53)] : List (S53))).bind fun y180 => (if (y180.length : Int) > 8192 then (some ((([] : List (S53))), 11)) else (spec_Break.l0 kj12 t149 y180 (wrap64 (x7_1 + (t179.size : Int))) x9_12))) else (none))) = some (r1, r2) := by first | (rw [hy175]; with_reducible exact H) | (have H2_ := (Option.bind_some _ _).symm.trans H; rw [hy175]; with_reducible exact H2_) | (have H2_ := (Option.bind_some _ _).symm.trans H; with_reducible exact H2_) | with_reducible exact H | (rw [hy175]; exact H) | exact H
                            have Ny175 := Aside0.mk hy175
                            clear hy175
                            replace H := Option.bind_eq_some_iff.mp H
                            obtain ⟨t179, A450, H⟩ := H
                            replace H : (if x6_1.length < 3518437208883 then ((some (x6_1 ++ [(⟨t179, (x6_1.length : Int), x7_1, wrap64 (x7_1 + (t179.size : Int))⟩ : S53)] : List (S53))).bind fun y180 => (if (y180.length : Int) > 8192 then (some ((([] : List (S53))), 11)) else (spec_Break.l0 kj12 t149 y180 (wrap64 (x7_1 + (t179.size : Int))) x9_12))) else (none)) = some (r1, r2) := H
                            have A45 := Aside0.mk A450
                            clear A450
                            by_cases c46 : x6_1.length < 3518437208883
                            · rw [if_pos c46] at H
                              have LMc46 := Aside0.mk c46
                              clear c46
                              obtain ⟨y180, hy180⟩ : ∃ y_ : List (S53), y_ = (x6_1 ++ [(⟨t179, (x6_1.length : Int), x7_1, wrap64 (x7_1 + (t179.size : Int))⟩ : S53)]) := ⟨_, rfl⟩
                              replace H : (if (y180.length : Int) > 8192 then (some ((([] : List (S53))), 11)) else (spec_Break.l0 kj12 t149 y180 (wrap64 (x7_1 + (t179.size : Int))) x9_12)) = some (r1, r2) := by first | (rw [hy180]; with_reducible exact H) | (have H2_ := (Option.bind_some _ _).symm.trans H; rw [hy180]; with_reducible exact H2_) | (have H2_ := (Option.bind_some _ _).symm.trans H; with_reducible exact H2_) | with_reducible exact H | (rw [hy180]; exact H) | exact H
                              have Ny180 := Aside0.mk hy180
                              clear hy180
                              by_cases c47 : (y180.length : Int) > 8192
                              · rw [if_pos c47] at H
                                have c47b0 : decide (8192 < (y180.length : Int)) = true := decide_eq_true c47
                                have c47b1 : decide (8192 < y180.length) = true := decide_eq_true (by omega)
                                clear c47
                                obtain ⟨y183, hy183⟩ : ∃ y_ : List (S53), y_ = (([] : List (S53))) := ⟨_, rfl⟩
                                replace H : (some (y183, 11)) = some (r1, r2) := by first | (rw [hy183]; with_reducible exact H) | (have H2_ := (Option.bind_some _ _).symm.trans H; rw [hy183]; with_reducible exact H2_) | (have H2_ := (Option.bind_some _ _).symm.trans H; with_reducible exact H2_) | with_reducible exact H | (rw [hy183]; exact H) | exact H
                                have Ny183 := Aside0.mk hy183
                                clear hy183
                                simp only [Option.some.injEq, Prod.mk.injEq] at H
                                obtain ⟨rfl, rfl⟩ := H
                                have q48 : (x9_12 : Int) ≤ ((t149.length : Int) : Int) := of_decide_eq_true (by first | (with_reducible assumption) | assumption)
                                obtain ⟨i048, hi048, _, hsz48, _⟩ := info_parts info3
                                have hroom48 : t149.length ≤ co11 := (Kd.R_reads' HO_4.out).2.1
                                have hC48 : Kd.C (Kd.int .i64) _ (some ad159) t149.length t149 := (Kd.R_reads' HO_4.out).2.2
                                have ql48 : (x8_1 : Int) ≤ (x9_12 : Int) := of_decide_eq_true (by first | (with_reducible assumption) | assumption)
                                have q048 : (0 : Int) ≤ (x8_1 : Int) := of_decide_eq_true (by first | (with_reducible assumption) | assumption)
                                have hcut48 := cut_mid (P := Tryd.prog) 22 3 .i64 .i64 Tryd.underlying22 hi048 1 hsz48 (some ad159) t149.length co11 x8_1 x9_12 q048 ql48 q48 hroom48
                                have hr48 := Kd.C_mid (lo := (x8_1 : Int).toNat) (hi := (x9_12 : Int).toNat) (c := co11) hC48 (by omega) (by omega) hroom48
                                obtain ⟨A48, hA48⟩ : ∃ A1, A1 = (if co11 = (x8_1 : Int).toNat then (some ad159) else ((some ad159) : Option Addr).map (·.add ((x8_1 : Int).toNat * 1))) := ⟨_, rfl⟩
                                obtain ⟨c48, hc48⟩ : ∃ c1, c1 = co11 - (x8_1 : Int).toNat := ⟨_, rfl⟩
                                have hy48 : y175.length = (x9_12 : Int).toNat - (x8_1 : Int).toNat := (by rw [Ny175.out, List.length_drop, List.length_take] <;> omega)
                                rw [show ((t149).take (x9_12 : Int).toNat).drop (x8_1 : Int).toNat = y175 from Ny175.out.symm] at hr48
                                replace hr48 : Kd.C (Kd.int .i64) _ A48 y175.length y175 := (by rw [hA48]; exact hr48)
                                rw [← hy48, ← hA48, ← hc48] at hcut48
                                have HR178 := Aside0.mk hr48
                                have HC178 := Aside0.mk (show y175.length ≤ c48 from by rw [hy48, hc48]; exact Nat.sub_le_sub_right (Nat.le_trans (by omega) hroom48) _)
                                clear hr48 hC48 hroom48 hi048 hsz48 hc48
                                have KY48 := Aside0.mk hy48
                                have KA48 := Aside0.mk hA48
                                clear hy48 hA48
                                have KL48 := Aside0.mk (show (x9_12 : Int).toNat ≤ t149.length from by omega)
                                have KM48 := Aside0.mk (show (x8_1 : Int).toNat ≤ (x9_12 : Int).toNat from by omega)
                                replace q48 := eq_true q48
                                go_wp2_with (first | ((with_reducible refine gate_callee (f := 66) rfl ?_); refine goesL_ (some 113) rfl rfl Tryd.func66 (by kernel_rfl) rfl #[.slice A48 y175.length c48] rfl (by (try simp only [List.map_toArray, List.map_cons, List.map_nil]); first | done | rfl | (simp only [List.length_drop, List.length_take]; rfl)) ?_; (with_reducible refine (spec_l01Encode.calls kj12 _ _ y175 t179 _ ?side1 ?side2 A45.out).mono ?_); (case side1 => repeat (first | exact (by repeat (first | (with_reducible exact HR178.out) | (with_reducible refine Kd.C_alloc ?_ _) | (with_reducible refine Kd.C_drewN ?_ _) | (with_reducible refine Kd.C_drew ?_) | exact HR178.out)) | (with_reducible refine Kd.C_alloc ?_ _) | (with_reducible refine Kd.C_drewN ?_ _) | (with_reducible refine Kd.C_drew ?_))); (case side2 => exact HC178.out); rintro e w49 ⟨rfl, hb⟩; refine ⟨_, rfl, ?_⟩; have n0_ := Aside0.mk (Kd.R_below (by (with_reducible repeat (first | apply Kd.R_alloc | apply Kd.R_drewN | apply Kd.R_drew)); exact HO_4.out) hb); have n1_ := Aside0.mk (Kd.R_below (by (with_reducible repeat (first | apply Kd.R_alloc | apply Kd.R_drewN | apply Kd.R_drew)); exact HO_6.out) hb); have n2_ := Aside0.mk (Kd.C_below (by repeat (first | (with_reducible exact HR178.out) | (with_reducible refine Kd.C_alloc ?_ _) | (with_reducible refine Kd.C_drewN ?_ _) | (with_reducible refine Kd.C_drew ?_) | exact HR178.out)) hb); have n3_ := Aside0.mk (below_step (by repeat (first | (with_reducible first | exact HB.out | apply below_alloc | apply pw_below_drewN | apply below_drew1) | exact HB.out)) hb); clear HO_4; clear HO_6; clear HR178; clear HB; have HO_4 := n0_; have HO_6 := n1_; have HR178 := n2_; have HB := n3_; clear n0_ n1_ n2_ n3_; (try clear hb); (try clear hb2); (try clear hk); (try clear hi); obtain ⟨Ao50, co50, eo50⟩ := Kd.R_slice HO_6.out; subst eo50) | ((with_reducible refine gate_builtin (b := .append) (xs := #[.tmp 114, .tmp 124]) rfl ?_); (try (refine gate_guard (by rfl) ?_; dsimp only)); at_builtin; refine Kd.R_append k53 (w0 := w) w.heap.size rfl (.tmp 114) (.tmp 124) 45 53 (.agg #[(.string ⟨#[]⟩), (.int .i64 0), (.int .i64 0), (.int .i64 0)]) 40 rfl Tryd.underlying45 info53 rfl (by decide) (by omega) (.slice Ao50 x6_1.length co50) x6_1 (⟨t179, (x6_1.length : Int), x7_1, wrap64 (x7_1 + (t179.size : Int))⟩ : S53) [.string t179, .int .i64 (x6_1.length : Int), .int .i64 x7_1, .int .i64 (wrap64 (x7_1 + (t179.size : Int)))] (fun _ => True) (fun _ => False) rfl rfl ?aP (fun _ hk => hk.elim) ?aF ?aO ?aB ?aS ?aL ?_; (case aP => exact k53_mkM _ _ _ (⟨t179, (x6_1.length : Int), x7_1, wrap64 (x7_1 + (t179.size : Int))⟩ : S53)); (case aB => exact (by repeat (first | (with_reducible first | exact HB.out | apply below_alloc | apply pw_below_drewN | apply below_drew1) | exact HB.out))); (case aF => exact (fun _ _ => trivial)); (case aO => exact (by (with_reducible repeat (first | apply Kd.R_alloc | apply Kd.R_drewN | apply Kd.R_drew)); exact HO_6.out)); (case aS => exact (below_size (by repeat (first | (with_reducible first | exact HB.out | apply below_alloc | apply pw_below_drewN | apply below_drew1) | exact HB.out)))); (case aL => have := LMc46.out; omega); intro v181 w51 ho hb hg hat; rw [← Ny180.out] at ho; have n0_ := Aside0.mk (Kd.R_over' (by (with_reducible repeat (first | apply Kd.R_alloc | apply Kd.R_drewN | apply Kd.R_drew)); exact HO_4.out) (Kd.R_typed (by (with_reducible repeat (first | apply Kd.R_alloc | apply Kd.R_drewN | apply Kd.R_drew)); exact HO_6.out)) (by decide) hg); have n1_ := Aside0.mk (hb); have n2_ := Aside0.mk ((show Kd.C (Kd.int .i64) w51 A48 y175.length y175 from by rw [Ny175.out, KA48.out]; exact Kd.C_mid (lo := (x8_1 : Int).toNat) (hi := (x9_12 : Int).toNat) (c := co11) ((Kd.R_reads' (Kd.R_over' (by (with_reducible repeat (first | apply Kd.R_alloc | apply Kd.R_drewN | apply Kd.R_drew)); exact HO_4.out) (Kd.R_typed (by (with_reducible repeat (first | apply Kd.R_alloc | apply Kd.R_drewN | apply Kd.R_drew)); exact HO_6.out)) (by decide) hg)).2.2) KM48.out KL48.out ((Kd.R_reads' (Kd.R_over' (by (with_reducible repeat (first | apply Kd.R_alloc | apply Kd.R_drewN | apply Kd.R_drew)); exact HO_4.out) (Kd.R_typed (by (with_reducible repeat (first | apply Kd.R_alloc | apply Kd.R_drewN | apply Kd.R_drew)); exact HO_6.out)) (by decide) hg)).2.1))); have n3_ := Aside0.mk (ho); clear HO_4; clear HB; clear HR178; clear HO_6; have HO_4 := n0_; have HB := n1_; have HR178 := n2_; have HO182 := n3_; clear n0_ n1_ n2_ n3_; clear ho hb hg hat; obtain ⟨Ao52, co52, eo52⟩ := Kd.R_slice HO182.out; subst eo52) | ((with_reducible refine gate_dst (N := 129) rfl ?_); (try (refine gate_guard (by rfl) ?_; dsimp only)); refine Kd.R_lit k53 _ 53 ?hg (N := 129) ?hd (xs := ([] : List (S53))) (inner := []) (ok := fun _ => True) (okp := fun _ => True) ?hr ?hp (fun _ hk => hk) trivial (Below.refl _ _) (Nat.le_refl _) (by simp) ?_; (case hd => rfl); (case hg => rfl); (case hr => first | (go_simp; done) | (go_simp; rfl)); (case hp => exact (Reps.none _ _)); intro v184 w53 ho54 hb hg_ hnew_; clear hg_ hnew_; (first | rw [← Ny183.out] at ho54 | (simp only [Int.reduceToNat] at ho54; rw [← Ny183.out] at ho54)); have n0_ := Aside0.mk (Kd.R_below (by (with_reducible repeat (first | apply Kd.R_alloc | apply Kd.R_drewN | apply Kd.R_drew)); exact HO_4.out) hb); have n1_ := Aside0.mk (Kd.R_elder' (by (with_reducible repeat (first | apply Kd.R_alloc | apply Kd.R_drewN | apply Kd.R_drew)); exact HO182.out) (Kd.R_base ho54) hb); have n2_ := Aside0.mk (Kd.R_lower (Kd.R_new' ho54 (Kd.R_lt (by (with_reducible repeat (first | apply Kd.R_alloc | apply Kd.R_drewN | apply Kd.R_drew)); exact HO182.out))) (below_size (by repeat (first | (with_reducible first | exact HB.out | apply below_alloc | apply pw_below_drewN | apply below_drew1) | exact HB.out)))); have n3_ := Aside0.mk (Kd.C_below (by repeat (first | (with_reducible exact HR178.out) | (with_reducible refine Kd.C_alloc ?_ _) | (with_reducible refine Kd.C_drewN ?_ _) | (with_reducible refine Kd.C_drew ?_) | exact HR178.out)) hb); have n4_ := Aside0.mk (below_step (by repeat (first | (with_reducible first | exact HB.out | apply below_alloc | apply pw_below_drewN | apply below_drew1) | exact HB.out)) hb); clear HO_4; clear HO182; clear HR178; clear HB; have HO_4 := n0_; have HO182 := n1_; have HO185 := n2_; have HR178 := n3_; have HB := n4_; clear n0_ n1_ n2_ n3_ n4_; clear hb ho54))
                                go_ret2
                                exact ⟨_, by first | rfl | (simp [errW_none, errW_some] <;> rfl) | (simp [*, errW_none, errW_some] <;> rfl), by (with_reducible repeat (first | apply Kd.R_alloc | apply Kd.R_drewN | apply Kd.R_drew)); exact Kd.R_mono HO185.out (fun _ hk => trivial), by repeat (first | (with_reducible first | exact HB.out | apply below_alloc | apply pw_below_drewN | apply below_drew1) | exact HB.out)⟩
                              · rw [if_neg c47] at H
                                have c47b0 : decide (8192 < (y180.length : Int)) = false := decide_eq_false c47
                                have c47b1 : decide (8192 < y180.length) = false := decide_eq_false (by omega)
                                clear c47
                                have H' := Aside0.mk H
                                clear H
                                have q55 : (x9_12 : Int) ≤ ((t149.length : Int) : Int) := of_decide_eq_true (by first | (with_reducible assumption) | assumption)
                                obtain ⟨i055, hi055, _, hsz55, _⟩ := info_parts info3
                                have hroom55 : t149.length ≤ co11 := (Kd.R_reads' HO_4.out).2.1
                                have hC55 : Kd.C (Kd.int .i64) _ (some ad159) t149.length t149 := (Kd.R_reads' HO_4.out).2.2
                                have ql55 : (x8_1 : Int) ≤ (x9_12 : Int) := of_decide_eq_true (by first | (with_reducible assumption) | assumption)
                                have q055 : (0 : Int) ≤ (x8_1 : Int) := of_decide_eq_true (by first | (with_reducible assumption) | assumption)
                                have hcut55 := cut_mid (P := Tryd.prog) 22 3 .i64 .i64 Tryd.underlying22 hi055 1 hsz55 (some ad159) t149.length co11 x8_1 x9_12 q055 ql55 q55 hroom55
                                have hr55 := Kd.C_mid (lo := (x8_1 : Int).toNat) (hi := (x9_12 : Int).toNat) (c := co11) hC55 (by omega) (by omega) hroom55
                                obtain ⟨A55, hA55⟩ : ∃ A1, A1 = (if co11 = (x8_1 : Int).toNat then (some ad159) else ((some ad159) : Option Addr).map (·.add ((x8_1 : Int).toNat * 1))) := ⟨_, rfl⟩
                                obtain ⟨c55, hc55⟩ : ∃ c1, c1 = co11 - (x8_1 : Int).toNat := ⟨_, rfl⟩
                                have hy55 : y175.length = (x9_12 : Int).toNat - (x8_1 : Int).toNat := (by rw [Ny175.out, List.length_drop, List.length_take] <;> omega)
                                rw [show ((t149).take (x9_12 : Int).toNat).drop (x8_1 : Int).toNat = y175 from Ny175.out.symm] at hr55
                                replace hr55 : Kd.C (Kd.int .i64) _ A55 y175.length y175 := (by rw [hA55]; exact hr55)
                                rw [← hy55, ← hA55, ← hc55] at hcut55
                                have HR178 := Aside0.mk hr55
                                have HC178 := Aside0.mk (show y175.length ≤ c55 from by rw [hy55, hc55]; exact Nat.sub_le_sub_right (Nat.le_trans (by omega) hroom55) _)
                                clear hr55 hC55 hroom55 hi055 hsz55 hc55
                                have KY55 := Aside0.mk hy55
                                have KA55 := Aside0.mk hA55
                                clear hy55 hA55
                                have KL55 := Aside0.mk (show (x9_12 : Int).toNat ≤ t149.length from by omega)
                                have KM55 := Aside0.mk (show (x8_1 : Int).toNat ≤ (x9_12 : Int).toNat from by omega)
                                replace q55 := eq_true q55
                                go_wp2_with (first | ((with_reducible refine gate_callee (f := 66) rfl ?_); refine goesL_ (some 113) rfl rfl Tryd.func66 (by kernel_rfl) rfl #[.slice A55 y175.length c55] rfl (by (try simp only [List.map_toArray, List.map_cons, List.map_nil]); first | done | rfl | (simp only [List.length_drop, List.length_take]; rfl)) ?_; (with_reducible refine (spec_l01Encode.calls kj12 _ _ y175 t179 _ ?side1 ?side2 A45.out).mono ?_); (case side1 => repeat (first | exact (by repeat (first | (with_reducible exact HR178.out) | (with_reducible refine Kd.C_alloc ?_ _) | (with_reducible refine Kd.C_drewN ?_ _) | (with_reducible refine Kd.C_drew ?_) | exact HR178.out)) | (with_reducible refine Kd.C_alloc ?_ _) | (with_reducible refine Kd.C_drewN ?_ _) | (with_reducible refine Kd.C_drew ?_))); (case side2 => exact HC178.out); rintro e w56 ⟨rfl, hb⟩; refine ⟨_, rfl, ?_⟩; have n0_ := Aside0.mk (Kd.R_below (by (with_reducible repeat (first | apply Kd.R_alloc | apply Kd.R_drewN | apply Kd.R_drew)); exact HO_4.out) hb); have n1_ := Aside0.mk (Kd.R_below (by (with_reducible repeat (first | apply Kd.R_alloc | apply Kd.R_drewN | apply Kd.R_drew)); exact HO_6.out) hb); have n2_ := Aside0.mk (Kd.C_below (by repeat (first | (with_reducible exact HR178.out) | (with_reducible refine Kd.C_alloc ?_ _) | (with_reducible refine Kd.C_drewN ?_ _) | (with_reducible refine Kd.C_drew ?_) | exact HR178.out)) hb); have n3_ := Aside0.mk (below_step (by repeat (first | (with_reducible first | exact HB.out | apply below_alloc | apply pw_below_drewN | apply below_drew1) | exact HB.out)) hb); clear HO_4; clear HO_6; clear HR178; clear HB; have HO_4 := n0_; have HO_6 := n1_; have HR178 := n2_; have HB := n3_; clear n0_ n1_ n2_ n3_; (try clear hb); (try clear hb2); (try clear hk); (try clear hi); obtain ⟨Ao57, co57, eo57⟩ := Kd.R_slice HO_6.out; subst eo57) | ((with_reducible refine gate_builtin (b := .append) (xs := #[.tmp 114, .tmp 124]) rfl ?_); (try (refine gate_guard (by rfl) ?_; dsimp only)); at_builtin; refine Kd.R_append k53 (w0 := w) w.heap.size rfl (.tmp 114) (.tmp 124) 45 53 (.agg #[(.string ⟨#[]⟩), (.int .i64 0), (.int .i64 0), (.int .i64 0)]) 40 rfl Tryd.underlying45 info53 rfl (by decide) (by omega) (.slice Ao57 x6_1.length co57) x6_1 (⟨t179, (x6_1.length : Int), x7_1, wrap64 (x7_1 + (t179.size : Int))⟩ : S53) [.string t179, .int .i64 (x6_1.length : Int), .int .i64 x7_1, .int .i64 (wrap64 (x7_1 + (t179.size : Int)))] (fun _ => True) (fun _ => False) rfl rfl ?aP (fun _ hk => hk.elim) ?aF ?aO ?aB ?aS ?aL ?_; (case aP => exact k53_mkM _ _ _ (⟨t179, (x6_1.length : Int), x7_1, wrap64 (x7_1 + (t179.size : Int))⟩ : S53)); (case aB => exact (by repeat (first | (with_reducible first | exact HB.out | apply below_alloc | apply pw_below_drewN | apply below_drew1) | exact HB.out))); (case aF => exact (fun _ _ => trivial)); (case aO => exact (by (with_reducible repeat (first | apply Kd.R_alloc | apply Kd.R_drewN | apply Kd.R_drew)); exact HO_6.out)); (case aS => exact (below_size (by repeat (first | (with_reducible first | exact HB.out | apply below_alloc | apply pw_below_drewN | apply below_drew1) | exact HB.out)))); (case aL => have := LMc46.out; omega); intro v181 w58 ho hb hg hat; rw [← Ny180.out] at ho; have n0_ := Aside0.mk (Kd.R_over' (by (with_reducible repeat (first | apply Kd.R_alloc | apply Kd.R_drewN | apply Kd.R_drew)); exact HO_4.out) (Kd.R_typed (by (with_reducible repeat (first | apply Kd.R_alloc | apply Kd.R_drewN | apply Kd.R_drew)); exact HO_6.out)) (by decide) hg); have n1_ := Aside0.mk (hb); have n2_ := Aside0.mk ((show Kd.C (Kd.int .i64) w58 A55 y175.length y175 from by rw [Ny175.out, KA55.out]; exact Kd.C_mid (lo := (x8_1 : Int).toNat) (hi := (x9_12 : Int).toNat) (c := co11) ((Kd.R_reads' (Kd.R_over' (by (with_reducible repeat (first | apply Kd.R_alloc | apply Kd.R_drewN | apply Kd.R_drew)); exact HO_4.out) (Kd.R_typed (by (with_reducible repeat (first | apply Kd.R_alloc | apply Kd.R_drewN | apply Kd.R_drew)); exact HO_6.out)) (by decide) hg)).2.2) KM55.out KL55.out ((Kd.R_reads' (Kd.R_over' (by (with_reducible repeat (first | apply Kd.R_alloc | apply Kd.R_drewN | apply Kd.R_drew)); exact HO_4.out) (Kd.R_typed (by (with_reducible repeat (first | apply Kd.R_alloc | apply Kd.R_drewN | apply Kd.R_drew)); exact HO_6.out)) (by decide) hg)).2.1))); have n3_ := Aside0.mk (ho); clear HO_4; clear HB; clear HR178; clear HO_6; have HO_4 := n0_; have HB := n1_; have HR178 := n2_; have HO182 := n3_; clear n0_ n1_ n2_ n3_; clear ho hb hg hat; obtain ⟨Ao59, co59, eo59⟩ := Kd.R_slice HO182.out; subst eo59))
                                go_roundg kj12
                                case measure => have := HK1.out; have := HJ9.out; have := HJ12.out; omega
                                case rel => exact ⟨(y180), (wrap64 (x7_1 + (t179.size : Int))), (x9_12), (by first | rfl | (simp; done) | (simp [*]; done)), (by first | rfl | (simp; done) | (simp [*]; done)), H', ⟨by have := HK1.out; have := HJ9.out; have := HJ12.out; omega⟩, ⟨by (with_reducible repeat (first | apply Kd.R_alloc | apply Kd.R_drewN | apply Kd.R_drew)); exact HO_4.out⟩, ⟨by (with_reducible repeat (first | apply Kd.R_alloc | apply Kd.R_drewN | apply Kd.R_drew)); exact HO182.out⟩, ⟨by repeat (first | (with_reducible first | exact HB.out | apply below_alloc | apply pw_below_drewN | apply below_drew1) | exact HB.out)⟩⟩
                            · rw [if_neg c46] at H
                              exact absurd H (by simp)
                          · rw [if_neg c44] at H
                            exact absurd H (by simp)
                        · rw [if_neg c43] at H
                          exact absurd H (by simp)
                      · rw [if_neg c42] at H
                        exact absurd H (by simp)
          · rw [if_neg c8] at H
            exact absurd H (by simp)
        · rw [if_neg c7] at H
          have c7b0 : decide (x8_1 < (t149.length : Int)) = false := decide_eq_false c7
          clear c7
          simp only [Option.some.injEq, Prod.mk.injEq] at H
          obtain ⟨rfl, rfl⟩ := H
          obtain ⟨Ao60, co60, eo60⟩ := Kd.R_slice HO_4.out
          subst eo60
          go_wp2
          go_ret2
          exact ⟨_, by first | rfl | (simp [errW_none, errW_some] <;> rfl) | (simp [*, errW_none, errW_some] <;> rfl), by (with_reducible repeat (first | apply Kd.R_alloc | apply Kd.R_drewN | apply Kd.R_drew)); exact HO_6.out, by repeat (first | (with_reducible first | exact HB.out | apply below_alloc | apply pw_below_drewN | apply below_drew1) | exact HB.out)⟩
  · rw [if_neg c3] at H
    have c3b0 : (t150 == 0) = false := beq_eq_false_iff_ne.mpr c3
    have c3b1 : (t150 != 0) = true := bne_iff_ne.mpr c3
    obtain ⟨y153, hy153⟩ : ∃ y_ : List (S53), y_ = (([] : List (S53))) := ⟨_, rfl⟩
    replace H : (some (y153, t150)) = some (r1, r2) := by first | (rw [hy153]; with_reducible exact H) | (have H2_ := (Option.bind_some _ _).symm.trans H; rw [hy153]; with_reducible exact H2_) | (have H2_ := (Option.bind_some _ _).symm.trans H; with_reducible exact H2_) | with_reducible exact H | (rw [hy153]; exact H) | exact H
    have Ny153 := Aside0.mk hy153
    clear hy153
    simp only [Option.some.injEq, Prod.mk.injEq] at H
    obtain ⟨rfl, rfl⟩ := H
    go_enter Tryd.func32, Tryd.ntmps32
    go_wp2_with (first | ((with_reducible refine gate_callee (f := 15) rfl ?_); refine goesL_ (some 13) rfl rfl Tryd.func15 (by kernel_rfl) rfl #[.string a0] rfl (by (try simp only [List.map_toArray, List.map_cons, List.map_nil]); first | done | rfl | (simp only [List.length_drop, List.length_take]; rfl)) ?_; (with_reducible refine (spec_Decode.calls k a0 t149 t150 _ A2.out).mono ?_); rintro e w61 ⟨v151, rfl, ho0, hb⟩; refine ⟨_, rfl, ?_⟩; have n0_ := Aside0.mk (Kd.R_lower ho0 (below_size (by repeat (first | (with_reducible first | exact HB.out | apply below_alloc | apply pw_below_drewN | apply below_drew1) | exact HB.out)))); have n1_ := Aside0.mk (below_step (by repeat (first | (with_reducible first | exact HB.out | apply below_alloc | apply pw_below_drewN | apply below_drew1) | exact HB.out)) hb); clear HB; have HO152 := n0_; have HB := n1_; clear n0_ n1_; (try clear hb); (try clear hb2); (try clear hk); (try clear hi); (try clear ho0)) | ((with_reducible refine gate_dst (N := 18) rfl ?_); (try (refine gate_guard (by rfl) ?_; dsimp only)); refine Kd.R_lit k53 _ 53 ?hg (N := 18) ?hd (xs := ([] : List (S53))) (inner := []) (ok := fun _ => True) (okp := fun _ => True) ?hr ?hp (fun _ hk => hk) trivial (Below.refl _ _) (Nat.le_refl _) (by simp) ?_; (case hd => rfl); (case hg => rfl); (case hr => first | (go_simp; done) | (go_simp; rfl)); (case hp => exact (Reps.none _ _)); intro v154 w62 ho63 hb hg_ hnew_; clear hg_ hnew_; (first | rw [← Ny153.out] at ho63 | (simp only [Int.reduceToNat] at ho63; rw [← Ny153.out] at ho63)); have n0_ := Aside0.mk (Kd.R_below (by (with_reducible repeat (first | apply Kd.R_alloc | apply Kd.R_drewN | apply Kd.R_drew)); exact HO152.out) hb); have n1_ := Aside0.mk (Kd.R_lower ho63 (below_size (by repeat (first | (with_reducible first | exact HB.out | apply below_alloc | apply pw_below_drewN | apply below_drew1) | exact HB.out)))); have n2_ := Aside0.mk (below_step (by repeat (first | (with_reducible first | exact HB.out | apply below_alloc | apply pw_below_drewN | apply below_drew1) | exact HB.out)) hb); clear HO152; clear HB; have HO152 := n0_; have HO155 := n1_; have HB := n2_; clear n0_ n1_ n2_; clear hb ho63))
    go_ret2
    exact ⟨_, by first | rfl | (simp [errW_none, errW_some] <;> rfl) | (simp [*, errW_none, errW_some] <;> rfl), by (with_reducible repeat (first | apply Kd.R_alloc | apply Kd.R_drewN | apply Kd.R_drew)); exact HO155.out, by repeat (first | (with_reducible first | exact HB.out | apply below_alloc | apply pw_below_drewN | apply below_drew1) | exact HB.out)⟩

end Go.Proofs.YtcokeankiedfcaaDoor.XFnExactBreak
