-- A text of this session: written by its own program (wip/x/xprint.py), which runs the kit's printer with contracts of its own.
import Derived.Test.YtfkejcakklpecaaXFnPackedx0
import Derived.Test.YtfkejcakklpecaaXFnPackedx2
namespace Go.Proofs.Ytfkejcakklpecaa.XFnPacked
open Go.RowKit Go.Proofs.YtfkejcakklpecaaW.PrintWords Go.Proofs.YtfkejcakklpecaaW.PrintLast Go.Proofs.YtfkejcakklpecaaW.PrintMore
attribute [local go_sem] max2_int min2_int max_two min_two max_three min_three max_four min_four   -- for this text's walks alone
set_option linter.unusedVariables false
set_option linter.unusedSimpArgs false

/-! ### impl_PackInts: function 16 -/
mutual
def impl_PackInts.l0 : Nat → List Int → List Int → Int → Int → Option (List Int × Int)
 | 0, _, _, _, _ => none
 | k + 1, x0, x20, x21, x22 => if x22 < x21 then (if 0 ≤ x22 then (if x22 < (x20.length : Int) then ((impl_within.f (rd x20 x22) 0 4611686018427387903).bind fun t151 => (if t151 = true then (impl_PackInts.l0 k x0 x20 x21 (wrap64 (x22 + 1))) else (some (([] : List Int), 12)))) else (none)) else (none)) else ((impl_putInt.f k ([] : List Int) (x0.length : Int)).bind fun t152 => (impl_PackInts.l1 k x0 t152 0))
def impl_PackInts.l1 : Nat → List Int → List Int → Int → Option (List Int × Int)
 | 0, _, _, _ => none
 | k + 1, x0, x6, x7 => if x7 < (x0.length : Int) then (if 0 ≤ x7 then (if x7 ≤ (mn (wrap64 (x7 + 128)) (x0.length : Int)) then (if (mn (wrap64 (x7 + 128)) (x0.length : Int)) ≤ (x0.length : Int) then (impl_PackInts.l2 k x0 x6 x7 ((x0.take ((mn (wrap64 (x7 + 128)) (x0.length : Int)) : Int).toNat).drop (x7 : Int).toNat) 0 ((x0.take ((mn (wrap64 (x7 + 128)) (x0.length : Int)) : Int).toNat).drop (x7 : Int).toNat) (((x0.take ((mn (wrap64 (x7 + 128)) (x0.length : Int)) : Int).toNat).drop (x7 : Int).toNat).length : Int) 0) else (none)) else (none)) else (none)) else (some (x6, 0))
def impl_PackInts.l2 : Nat → List Int → List Int → Int → List Int → Int → List Int → Int → Int → Option (List Int × Int)
 | 0, _, _, _, _, _, _, _, _ => none
 | k + 1, x0, x6, x7, x8, x9, x47, x48, x49 => if x49 < x48 then (if 0 ≤ x49 then (if x49 < (x47.length : Int) then ((bits_Len.f (IntKind.u64.wrap (rd x47 x49))).bind fun t157 => (impl_PackInts.l2 k x0 x6 x7 x8 (mx x9 t157) x47 x48 (wrap64 (x49 + 1)))) else (none)) else (none)) else (if x6.length < 140737488355328 then ((some (x6 ++ [(x9) % 256] : List Int)).bind fun y158 => (if 0 ≤ (wrap64 (Int.tdiv (wrap64 ((wrap64 (x9 * (x8.length : Int))) + 7)) 8)) then (if y158.length + (wrap64 (Int.tdiv (wrap64 ((wrap64 (x9 * (x8.length : Int))) + 7)) 8) : Int).toNat < 140737488355328 then (impl_PackInts.l3 k x0 (y158 ++ List.replicate (wrap64 (Int.tdiv (wrap64 ((wrap64 (x9 * (x8.length : Int))) + 7)) 8) : Int).toNat 0) x7 x9 (y158.length : Int) 0 x8 (x8.length : Int) 0) else (none)) else (none))) else (none))
def impl_PackInts.l3 : Nat → List Int → List Int → Int → Int → Int → Int → List Int → Int → Int → Option (List Int × Int)
 | 0, _, _, _, _, _, _, _, _, _ => none
 | k + 1, x0, x6, x7, x9, x12, x13, x74, x75, x76 => if x76 < x75 then (if 0 ≤ x76 then (if x76 < (x74.length : Int) then (impl_PackInts.l4 k x0 x6 x7 x9 x12 x13 (rd x74 x76) x74 x75 x76 x9 0) else (none)) else (none)) else (impl_PackInts.l1 k x0 x6 (wrap64 (x7 + 128)))
def impl_PackInts.l4 : Nat → List Int → List Int → Int → Int → Int → Int → Int → List Int → Int → Int → Int → Int → Option (List Int × Int)
 | 0, _, _, _, _, _, _, _, _, _, _, _, _ => none
 | k + 1, x0, x6, x7, x9, x12, x13, x15, x74, x75, x76, x80, x81 => if x81 < x80 then (if 0 ≤ (wrap64 (x12 + (wrap64 (Int.tdiv x13 8)))) then (if (wrap64 (x12 + (wrap64 (Int.tdiv x13 8)))) < (x6.length : Int) then (if 0 ≤ x81 then (if 0 ≤ (Int.tmod x13 8) then (impl_PackInts.l4 k x0 (x6.set ((wrap64 (x12 + (wrap64 (Int.tdiv x13 8)))) : Int).toNat (Go.bits .or .u8 (rd x6 (wrap64 (x12 + (wrap64 (Int.tdiv x13 8))))) (shl .u8 ((Go.bits .and .i64 (shr .i64 x15 x81) 1) % 256) (Int.tmod x13 8)))) x7 x9 x12 (wrap64 (x13 + 1)) x15 x74 x75 x76 x80 (wrap64 (x81 + 1))) else (none)) else (none)) else (none)) else (none)) else (impl_PackInts.l3 k x0 x6 x7 x9 x12 x13 x74 x75 (wrap64 (x76 + 1)))
end
def impl_PackInts.f (k : Nat) (l0 : List Int) : Option (List Int × Int) := if (l0.length : Int) > 4096 then (some (([] : List Int), 2)) else (impl_PackInts.l0 k l0 l0 (l0.length : Int) 0)
theorem impl_PackInts.mono_l : ∀ k, (∀ y0 y1 y2 y3, LeO (impl_PackInts.l0 k y0 y1 y2 y3) (impl_PackInts.l0 (k + 1) y0 y1 y2 y3)) ∧ (∀ y0 y1 y2, LeO (impl_PackInts.l1 k y0 y1 y2) (impl_PackInts.l1 (k + 1) y0 y1 y2)) ∧ (∀ y0 y1 y2 y3 y4 y5 y6 y7, LeO (impl_PackInts.l2 k y0 y1 y2 y3 y4 y5 y6 y7) (impl_PackInts.l2 (k + 1) y0 y1 y2 y3 y4 y5 y6 y7)) ∧ (∀ y0 y1 y2 y3 y4 y5 y6 y7 y8, LeO (impl_PackInts.l3 k y0 y1 y2 y3 y4 y5 y6 y7 y8) (impl_PackInts.l3 (k + 1) y0 y1 y2 y3 y4 y5 y6 y7 y8)) ∧ (∀ y0 y1 y2 y3 y4 y5 y6 y7 y8 y9 y10 y11, LeO (impl_PackInts.l4 k y0 y1 y2 y3 y4 y5 y6 y7 y8 y9 y10 y11) (impl_PackInts.l4 (k + 1) y0 y1 y2 y3 y4 y5 y6 y7 y8 y9 y10 y11))
 | 0 => ⟨fun _ _ _ _ r h => by simp [impl_PackInts.l0] at h, fun _ _ _ r h => by simp [impl_PackInts.l1] at h, fun _ _ _ _ _ _ _ _ r h => by simp [impl_PackInts.l2] at h, fun _ _ _ _ _ _ _ _ _ r h => by simp [impl_PackInts.l3] at h, fun _ _ _ _ _ _ _ _ _ _ _ _ r h => by simp [impl_PackInts.l4] at h⟩
 | k + 1 => by
  obtain ⟨ih0, ih1, ih2, ih3, ih4⟩ := impl_PackInts.mono_l k
  refine ⟨?_, ?_, ?_, ?_, ?_⟩
  ·intro y0 y1 y2 y3
   unfold impl_PackInts.l0
   repeat' first
   | (with_reducible exact ih0 _ _ _ _)
   | (with_reducible exact ih1 _ _ _)
   | (with_reducible exact ih2 _ _ _ _ _ _ _ _)
   | (with_reducible exact ih3 _ _ _ _ _ _ _ _ _)
   | (with_reducible exact ih4 _ _ _ _ _ _ _ _ _ _ _ _)
   | (with_reducible exact impl_putInt.mono _ _ _)
   | (with_reducible exact LeO.refl _)
   | (with_reducible exact LeO.none _)
   | (with_reducible refine LeO.ite ?_ ?_)
   | (with_reducible refine LeO.bind ?_ (fun _ => ?_))
   | exact ih0 _ _ _ _
   | exact ih1 _ _ _
   | exact ih2 _ _ _ _ _ _ _ _
   | exact ih3 _ _ _ _ _ _ _ _ _
   | exact ih4 _ _ _ _ _ _ _ _ _ _ _ _
   | exact impl_putInt.mono _ _ _
   | exact LeO.none _
   | refine LeO.ite ?_ ?_
   | refine LeO.bind ?_ (fun _ => ?_)
  ·intro y0 y1 y2
   unfold impl_PackInts.l1
   repeat' first
   | (with_reducible exact ih0 _ _ _ _)
   | (with_reducible exact ih1 _ _ _)
   | (with_reducible exact ih2 _ _ _ _ _ _ _ _)
   | (with_reducible exact ih3 _ _ _ _ _ _ _ _ _)
   | (with_reducible exact ih4 _ _ _ _ _ _ _ _ _ _ _ _)
   | (with_reducible exact impl_putInt.mono _ _ _)
   | (with_reducible exact LeO.refl _)
   | (with_reducible exact LeO.none _)
   | (with_reducible refine LeO.ite ?_ ?_)
   | (with_reducible refine LeO.bind ?_ (fun _ => ?_))
   | exact ih0 _ _ _ _
   | exact ih1 _ _ _
   | exact ih2 _ _ _ _ _ _ _ _
   | exact ih3 _ _ _ _ _ _ _ _ _
   | exact ih4 _ _ _ _ _ _ _ _ _ _ _ _
   | exact impl_putInt.mono _ _ _
   | exact LeO.none _
   | refine LeO.ite ?_ ?_
   | refine LeO.bind ?_ (fun _ => ?_)
  ·intro y0 y1 y2 y3 y4 y5 y6 y7
   unfold impl_PackInts.l2
   repeat' first
   | (with_reducible exact ih0 _ _ _ _)
   | (with_reducible exact ih1 _ _ _)
   | (with_reducible exact ih2 _ _ _ _ _ _ _ _)
   | (with_reducible exact ih3 _ _ _ _ _ _ _ _ _)
   | (with_reducible exact ih4 _ _ _ _ _ _ _ _ _ _ _ _)
   | (with_reducible exact impl_putInt.mono _ _ _)
   | (with_reducible exact LeO.refl _)
   | (with_reducible exact LeO.none _)
   | (with_reducible refine LeO.ite ?_ ?_)
   | (with_reducible refine LeO.bind ?_ (fun _ => ?_))
   | exact ih0 _ _ _ _
   | exact ih1 _ _ _
   | exact ih2 _ _ _ _ _ _ _ _
   | exact ih3 _ _ _ _ _ _ _ _ _
   | exact ih4 _ _ _ _ _ _ _ _ _ _ _ _
   | exact impl_putInt.mono _ _ _
   | exact LeO.none _
   | refine LeO.ite ?_ ?_
   | refine LeO.bind ?_ (fun _ => ?_)
  ·intro y0 y1 y2 y3 y4 y5 y6 y7 y8
   unfold impl_PackInts.l3
   repeat' first
   | (with_reducible exact ih0 _ _ _ _)
   | (with_reducible exact ih1 _ _ _)
   | (with_reducible exact ih2 _ _ _ _ _ _ _ _)
   | (with_reducible exact ih3 _ _ _ _ _ _ _ _ _)
   | (with_reducible exact ih4 _ _ _ _ _ _ _ _ _ _ _ _)
   | (with_reducible exact impl_putInt.mono _ _ _)
   | (with_reducible exact LeO.refl _)
   | (with_reducible exact LeO.none _)
   | (with_reducible refine LeO.ite ?_ ?_)
   | (with_reducible refine LeO.bind ?_ (fun _ => ?_))
   | exact ih0 _ _ _ _
   | exact ih1 _ _ _
   | exact ih2 _ _ _ _ _ _ _ _
   | exact ih3 _ _ _ _ _ _ _ _ _
   | exact ih4 _ _ _ _ _ _ _ _ _ _ _ _
   | exact impl_putInt.mono _ _ _
   | exact LeO.none _
   | refine LeO.ite ?_ ?_
   | refine LeO.bind ?_ (fun _ => ?_)
  ·intro y0 y1 y2 y3 y4 y5 y6 y7 y8 y9 y10 y11
   unfold impl_PackInts.l4
   repeat' first
   | (with_reducible exact ih0 _ _ _ _)
   | (with_reducible exact ih1 _ _ _)
   | (with_reducible exact ih2 _ _ _ _ _ _ _ _)
   | (with_reducible exact ih3 _ _ _ _ _ _ _ _ _)
   | (with_reducible exact ih4 _ _ _ _ _ _ _ _ _ _ _ _)
   | (with_reducible exact impl_putInt.mono _ _ _)
   | (with_reducible exact LeO.refl _)
   | (with_reducible exact LeO.none _)
   | (with_reducible refine LeO.ite ?_ ?_)
   | (with_reducible refine LeO.bind ?_ (fun _ => ?_))
   | exact ih0 _ _ _ _
   | exact ih1 _ _ _
   | exact ih2 _ _ _ _ _ _ _ _
   | exact ih3 _ _ _ _ _ _ _ _ _
   | exact ih4 _ _ _ _ _ _ _ _ _ _ _ _
   | exact impl_putInt.mono _ _ _
   | exact LeO.none _
   | refine LeO.ite ?_ ?_
   | refine LeO.bind ?_ (fun _ => ?_)
theorem impl_PackInts.mono : ∀ a0 k, LeO (impl_PackInts.f k a0) (impl_PackInts.f (k + 1) a0) := by
 intro a0 k
 obtain ⟨ih0, ih1, ih2, ih3, ih4⟩ := impl_PackInts.mono_l k
 unfold impl_PackInts.f
 repeat' first
   | (with_reducible exact ih0 _ _ _ _)
   | (with_reducible exact ih1 _ _ _)
   | (with_reducible exact ih2 _ _ _ _ _ _ _ _)
   | (with_reducible exact ih3 _ _ _ _ _ _ _ _ _)
   | (with_reducible exact ih4 _ _ _ _ _ _ _ _ _ _ _ _)
   | (with_reducible exact impl_putInt.mono _ _ _)
   | (with_reducible exact LeO.refl _)
   | (with_reducible exact LeO.none _)
   | (with_reducible refine LeO.ite ?_ ?_)
   | (with_reducible refine LeO.bind ?_ (fun _ => ?_))
   | exact ih0 _ _ _ _
   | exact ih1 _ _ _
   | exact ih2 _ _ _ _ _ _ _ _
   | exact ih3 _ _ _ _ _ _ _ _ _
   | exact ih4 _ _ _ _ _ _ _ _ _ _ _ _
   | exact impl_putInt.mono _ _ _
   | exact LeO.none _
   | refine LeO.ite ?_ ?_
   | refine LeO.bind ?_ (fun _ => ?_)
def impl_PackInts.T30 : Bool × List (List Nat × List Nat) := (true, [([], []), ([], []), ([], []), ([2], [2]), ([1, 3], [1, 3]), ([0, 4], [0, 4]), ([5], [5]), ([], []), ([], []), ([7, 8], [7, 8]), ([9], [9]), ([10], [10]), ([], []), ([12], [12]), ([11, 13], [11, 13]), ([6, 14], [6, 14]), ([0, 4, 0, 1, 2, 3, 4, 5, 6, 7, 8, 9, 10, 11, 12, 13, 14, 15], [0, 4]), ([16, 15, 0, 1, 2, 3, 4, 5, 6, 7, 8, 9, 10, 11, 12, 13, 14, 15], [15, 16])])
def impl_PackInts.B30 : List Nat := [0, 0, 0, 4, 14, 31, 63, 0, 0, 384, 896, 1920, 0, 4096, 16256, 32767, 65535, 131071]
theorem impl_PackInts.tab30 : rtab .any (opsOf Try.f16 30) = impl_PackInts.T30 := by kernel_rfl
theorem impl_PackInts.bits30 : waitsOk impl_PackInts.T30.2 impl_PackInts.B30 = true := by kernel_rfl
set_option maxHeartbeats 8000000 in
set_option maxRecDepth 100000 in
theorem impl_PackInts.calls (k : Nat) (A0 : Option Addr) (c0 : Nat) (l0 : List Int) (r1 : List Int) (r2 : Int) (w : World) (hr0 : Kd.C (Kd.int .i64) w A0 l0.length l0) (hc0 : l0.length ≤ c0) (h : impl_PackInts.f k l0 = some (r1, r2)) :
  Calls Try.prog 16 #[.slice A0 l0.length c0] w fun e w' => ∃ v0_ : Value, e = .returned (.tuple #[v0_, .int .i64 r2]) ∧ Kd.R (Kd.int .u8) 5 w' w.heap.size (fun _ => True) v0_ r1 ∧ Below w.heap.size w w' := by
 have HR0 := Aside0.mk hr0
 have HC0 := Aside0.mk hc0
 clear hr0 hc0
 have HB := Aside0.mk (Below.refl w.heap.size w)
 have H : (if (l0.length : Int) > 4096 then (some (([] : List Int), 2)) else (impl_PackInts.l0 k l0 l0 (l0.length : Int) 0)) = some (r1, r2) := h
 clear h
 by_cases c2 : (l0.length : Int) > 4096
 ·rw [if_pos c2] at H
  have c2b0 : decide (4096 < (l0.length : Int)) = true := decide_eq_true c2
  have c2b1 : decide (4096 < l0.length) = true := decide_eq_true (by omega)
  clear c2
  simp only [Option.some.injEq, Prod.mk.injEq] at H
  obtain ⟨rfl, rfl⟩ := H
  go_enter Try.func16, Try.ntmps16
  go_wp2
  go_ret2
  exact ⟨_, by first | rfl | (simp [errW_none, errW_some] <;> rfl) | (simp [*, errW_none, errW_some] <;> rfl), by first | exact Kd.R_nil _ _ _ _ _ | exact Kd.N_nil _ _ _ _ _ | exact Kd.V_nil _ _ _ _ _ | exact Kd.Q_nil _ _ _ _ _ | exact Kd.S_nil _ _ _ _ _, by repeat (first | (with_reducible first | exact HB.out | apply below_alloc | apply pw_below_drewN | apply below_drew1) | exact HB.out)⟩
 ·rw [if_neg c2] at H
  have c2b0 : decide (4096 < (l0.length : Int)) = false := decide_eq_false c2
  have c2b1 : decide (4096 < l0.length) = false := decide_eq_false (by omega)
  clear c2
  have H' := Aside0.mk H
  clear H
  go_enter Try.func16, Try.ntmps16
  go_wp2
  go_loopg [22] k (fun kq v22 w' => ∃ (x22_1 : Int), v22 = .int .i64 x22_1 ∧ Aside0 (impl_PackInts.l0 kq l0 l0 (l0.length : Int) x22_1 = some (r1, r2)) ∧ Aside0 (kq ≤ k) ∧ Aside0 (Below w.heap.size w w'))
  case atStart => exact ⟨(0), (by first | rfl | (simp; done) | (simp [*]; done)), H', ⟨Nat.le_refl _⟩, ⟨by repeat (first | (with_reducible first | exact HB.out | apply below_alloc | apply pw_below_drewN | apply below_drew1) | exact HB.out)⟩⟩
  case round =>
   clear H'
   try clear c1
   try clear c2
   try clear c2b0
   try clear c2b1
   try clear p2
   obtain ⟨x22_1, rfl, HA, HK1, HB⟩ := hrel
   cases gk with
   | zero => exact absurd HA.out (by simp [impl_PackInts.l0])
   | succ k1 =>
    have H := HA.out
    clear HA
    simp only [impl_PackInts.l0] at H
    by_cases c3 : x22_1 < (l0.length : Int)
    ·rw [if_pos c3] at H
     have c3b0 : decide (x22_1 < (l0.length : Int)) = true := decide_eq_true c3
     clear c3
     by_cases c4 : 0 ≤ x22_1
     ·rw [if_pos c4] at H
      have c4b0 : decide (0 ≤ x22_1) = true := decide_eq_true c4
      clear c4
      by_cases c5 : x22_1 < (l0.length : Int)
      ·rw [if_pos c5] at H
       have c5b0 : decide (x22_1 < (l0.length : Int)) = true := decide_eq_true c5
       clear c5
       replace H := Option.bind_eq_some_iff.mp H
       obtain ⟨t151, A60, H⟩ := H
       replace H : (if t151 = true then (impl_PackInts.l0 k1 l0 l0 (l0.length : Int) (wrap64 (x22_1 + 1))) else (some (([] : List Int), 12))) = some (r1, r2) := H
       have A6 := Aside0.mk A60
       clear A60
       by_cases c7 : t151 = true
       ·subst c7
        have H1 : (impl_PackInts.l0 k1 l0 l0 (l0.length : Int) (wrap64 (x22_1 + 1))) = some (r1, r2) := by rw [if_pos rfl] at H; exact H
        clear H
        have H := H1
        clear H1
        have H' := Aside0.mk H
        clear H
        have p150 : 0 ≤ (x22_1 : Int) := of_decide_eq_true (by first | (with_reducible assumption) | assumption)
        have q150 : x22_1 < (l0.length : Int) := of_decide_eq_true (by first | (with_reducible assumption) | assumption)
        obtain ⟨ad150, e150, hx150_0⟩ := Kd.at_int HR0.out x22_1 p150 q150
        cases e150
        replace hx150_0 := (HB.out.cell (World.block_lt_of_cell? w _ hx150_0)).trans hx150_0
        replace p150 := eq_true p150
        replace q150 := eq_true q150
        go_wp2_with (first | ((with_reducible refine gate_callee (f := 60) rfl ?_); refine goesL_ (some 27) rfl rfl Try.func60 (by kernel_rfl) rfl #[.int .i64 (rd l0 x22_1), .int .i64 0, .int .i64 4611686018427387903] rfl (by (try simp only [List.map_toArray, List.map_cons, List.map_nil]); first | done | rfl | (simp only [List.length_drop, List.length_take]; rfl)) ?_; (with_reducible refine (impl_within.calls (rd l0 x22_1) 0 4611686018427387903 true _ A6.out).mono ?_); rintro e w' ⟨rfl, ⟨nd, rfl⟩⟩; refine ⟨_, rfl, ?_⟩))
        go_roundg k1
        case measure => have := HK1.out; omega
        case rel => exact ⟨(wrap64 (x22_1 + 1)), (by first | rfl | (simp; done) | (simp [*]; done)), H', ⟨by have := HK1.out; omega⟩, ⟨by repeat (first | (with_reducible first | exact HB.out | apply below_alloc | apply pw_below_drewN | apply below_drew1) | exact HB.out)⟩⟩
       ·replace c7 := Bool.eq_false_iff.mpr c7
        subst c7
        have H1 : (some (([] : List Int), 12)) = some (r1, r2) := by rw [if_neg (show ¬ (false = true) by decide)] at H; exact H
        clear H
        have H := H1
        clear H1
        simp only [Option.some.injEq, Prod.mk.injEq] at H
        obtain ⟨rfl, rfl⟩ := H
        have p150 : 0 ≤ (x22_1 : Int) := of_decide_eq_true (by first | (with_reducible assumption) | assumption)
        have q150 : x22_1 < (l0.length : Int) := of_decide_eq_true (by first | (with_reducible assumption) | assumption)
        obtain ⟨ad150, e150, hx150_0⟩ := Kd.at_int HR0.out x22_1 p150 q150
        cases e150
        replace hx150_0 := (HB.out.cell (World.block_lt_of_cell? w _ hx150_0)).trans hx150_0
        replace p150 := eq_true p150
        replace q150 := eq_true q150
        go_wp2_with (first | ((with_reducible refine gate_callee (f := 60) rfl ?_); refine goesL_ (some 27) rfl rfl Try.func60 (by kernel_rfl) rfl #[.int .i64 (rd l0 x22_1), .int .i64 0, .int .i64 4611686018427387903] rfl (by (try simp only [List.map_toArray, List.map_cons, List.map_nil]); first | done | rfl | (simp only [List.length_drop, List.length_take]; rfl)) ?_; (with_reducible refine (impl_within.calls (rd l0 x22_1) 0 4611686018427387903 false _ A6.out).mono ?_); rintro e w' ⟨rfl, ⟨nd, rfl⟩⟩; refine ⟨_, rfl, ?_⟩))
        go_ret2
        exact ⟨_, by first | rfl | (simp [errW_none, errW_some] <;> rfl) | (simp [*, errW_none, errW_some] <;> rfl), by first | exact Kd.R_nil _ _ _ _ _ | exact Kd.N_nil _ _ _ _ _ | exact Kd.V_nil _ _ _ _ _ | exact Kd.Q_nil _ _ _ _ _ | exact Kd.S_nil _ _ _ _ _, by repeat (first | (with_reducible first | exact HB.out | apply below_alloc | apply pw_below_drewN | apply below_drew1) | exact HB.out)⟩
      ·rw [if_neg c5] at H
       exact absurd H (by simp)
     ·rw [if_neg c4] at H
      exact absurd H (by simp)
    ·rw [if_neg c3] at H
     have c3b0 : decide (x22_1 < (l0.length : Int)) = false := decide_eq_false c3
     clear c3
     replace H := Option.bind_eq_some_iff.mp H
     obtain ⟨t152, A80, H⟩ := H
     replace H : (impl_PackInts.l1 k1 l0 t152 0) = some (r1, r2) := H
     have A8 := Aside0.mk A80
     clear A80
     have H' := Aside0.mk H
     clear H
     go_wp2_with (first | ((with_reducible refine gate_callee (f := 61) rfl ?_); refine goesL_ (some 32) rfl rfl Try.func61 (by kernel_rfl) rfl #[.slice none 0 0, .int .i64 (l0.length : Int)] rfl (by (try simp only [List.map_toArray, List.map_cons, List.map_nil]); first | done | rfl | (simp only [List.length_drop, List.length_take]; rfl)) ?_; (refine (impl_putInt.calls k1 (fun k_ => some k_ = (.slice none 0 0 : Value).ownBlock) (.slice none 0 0) ([] : List Int) (l0.length : Int) t152 w _ ?side1 ?side2 A8.out).mono ?_); (case side1 => repeat (first | (with_reducible first | exact HB.out | apply below_alloc | apply pw_below_drewN | apply below_drew1) | exact HB.out)); (case side2 => exact Kd.R_nil _ _ _ _ _); rintro e w9 ⟨v153, rfl, ho0, hb, hkp⟩; refine ⟨_, rfl, ?_⟩; have n0_ := Aside0.mk (Kd.R_mono (ok' := fun k_ => True) ho0 (fun k_ hk_ => trivial)); have n1_ := Aside0.mk (hb); clear HB; have HO154 := n0_; have HB := n1_; clear n0_ n1_; (try clear hb); (try clear hkp); (try clear ho0)))
     go_loopg [6, 7] k1 (fun kq v6 v7 w' => ∃ (x6_2 : List Int) (x7_2 : Int), v7 = .int .i64 x7_2 ∧ Aside0 (impl_PackInts.l1 kq l0 x6_2 x7_2 = some (r1, r2)) ∧ Aside0 (kq ≤ k1) ∧ Aside0 (Kd.R (Kd.int .u8) 5 w' w.heap.size (fun _ => True) v6 x6_2) ∧ Aside0 (Below w.heap.size w w'))
     case atStart => exact ⟨(t152), (0), (by first | rfl | (simp; done) | (simp [*]; done)), H', ⟨Nat.le_refl _⟩, ⟨by (with_reducible repeat (first | apply Kd.R_alloc | apply Kd.R_drewN | apply Kd.R_drew)); exact HO154.out⟩, ⟨by repeat (first | (with_reducible first | exact HB.out | apply below_alloc | apply pw_below_drewN | apply below_drew1) | exact HB.out)⟩⟩
     case round =>
      clear H'
      try clear c1
      try clear p1
      try clear q1
      try clear hx1
      try clear c2
      try clear c2b0
      try clear c2b1
      try clear p2
      try clear c3
      try clear c3b0
      try clear c4
      try clear c4b0
      try clear c5
      try clear c5b0
      try clear c6
      try clear p6
      try clear c7
      try clear hx150_0
      try clear p150
      try clear p2
      try clear q150
      obtain ⟨x6_2, x7_2, rfl, HA, HK2, HO_6, HB⟩ := hrel
      cases gk with
      | zero => exact absurd HA.out (by simp [impl_PackInts.l1])
      | succ k2 =>
       have H := HA.out
       clear HA
       simp only [impl_PackInts.l1] at H
       by_cases c10 : x7_2 < (l0.length : Int)
       ·rw [if_pos c10] at H
        have c10b0 : decide (x7_2 < (l0.length : Int)) = true := decide_eq_true c10
        clear c10
        obtain ⟨ji11, hji11⟩ : ∃ j_ : Int, (mn (wrap64 (x7_2 + 128)) (l0.length : Int)) = j_ := ⟨_, rfl⟩
        replace H : (if 0 ≤ x7_2 then (if x7_2 ≤ (ji11) then (if (ji11) ≤ (l0.length : Int) then (impl_PackInts.l2 k2 l0 x6_2 x7_2 ((l0.take ((ji11) : Int).toNat).drop (x7_2 : Int).toNat) 0 ((l0.take ((ji11) : Int).toNat).drop (x7_2 : Int).toNat) (((l0.take ((ji11) : Int).toNat).drop (x7_2 : Int).toNat).length : Int) 0) else (none)) else (none)) else (none)) = some (r1, r2) := by first | (rw [hji11] at H; exact H) | (simp only [hji11] at H ⊢; exact H)
        have hji11_ : (if (l0.length : Int) < (wrap64 (x7_2 + 128)) then (l0.length : Int) else (wrap64 (x7_2 + 128))) = ji11 := hji11
        by_cases c12 : 0 ≤ x7_2
        ·rw [if_pos c12] at H
         have c12b0 := eq_true c12
         have c12b1 : decide (0 ≤ x7_2) = true := decide_eq_true c12
         clear c12
         by_cases c13 : x7_2 ≤ (ji11)
         ·rw [if_pos c13] at H
          have c13b0 := eq_true c13
          have c13b1 : decide (x7_2 ≤ (ji11)) = true := decide_eq_true c13
          clear c13
          by_cases c14 : (ji11) ≤ (l0.length : Int)
          ·rw [if_pos c14] at H
           have c14b0 := eq_true c14
           have c14b1 : decide ((ji11) ≤ (l0.length : Int)) = true := decide_eq_true c14
           clear c14
           have H' := Aside0.mk H
           clear H
           obtain ⟨i015, hi015, _, hsz15, _⟩ := info_parts info3
           obtain ⟨A15, hcut15, hA15, hC15⟩ := print_mid_of (P := Try.prog) (Value.int .i64) 0 22 3 .i64 .i64 Try.underlying22 hi015 hsz15 A0 c0 l0 x7_2 (ji11) (of_decide_eq_true (by first | (with_reducible assumption) | assumption)) (by first | omega | exact of_decide_eq_true (by first | (with_reducible assumption) | assumption)) (of_decide_eq_true (by first | (with_reducible assumption) | assumption)) HC0.out
           have hl_mid15 : ((l0.take ((ji11) : Int).toNat).drop (x7_2 : Int).toNat).length = (ji11).toNat - (x7_2).toNat := by rw [List.length_drop, List.length_take]; have h_ : ((ji11) : Int) ≤ (l0.length : Int) := of_decide_eq_true (by first | (with_reducible assumption) | assumption); omega
           have HL_mid15 := Aside0.mk hl_mid15
           clear hl_mid15
           have HR155 := Aside0.mk (Kd.C_of_reads (h1 := fun _ => rfl) (hA15 _ (Kd.reads_of_C HR0.out)))
           have HC155 := Aside0.mk hC15
           clear hA15 hC15 hi015 hsz15
           go_wp2
           go_loopg [9, 49] k2 (fun kq v9 v49 w' => ∃ (x9_3 : Int) (x49_3 : Int), v9 = .int .i64 x9_3 ∧ v49 = .int .i64 x49_3 ∧ Aside0 (impl_PackInts.l2 kq l0 x6_2 x7_2 ((l0.take ((ji11) : Int).toNat).drop (x7_2 : Int).toNat) x9_3 ((l0.take ((ji11) : Int).toNat).drop (x7_2 : Int).toNat) (((l0.take ((ji11) : Int).toNat).drop (x7_2 : Int).toNat).length : Int) x49_3 = some (r1, r2)) ∧ Aside0 (kq ≤ k2) ∧ Aside0 (Kd.R (Kd.int .u8) 5 w' w.heap.size (fun _ => True) u6 x6_2) ∧ Aside0 (Below w.heap.size w w'))
           case atStart => exact ⟨(0), (0), (by first | rfl | (simp; done) | (simp [*]; done)), (by first | rfl | (simp; done) | (simp [*]; done)), H', ⟨Nat.le_refl _⟩, ⟨by (with_reducible repeat (first | apply Kd.R_alloc | apply Kd.R_drewN | apply Kd.R_drew)); exact HO_6.out⟩, ⟨by repeat (first | (with_reducible first | exact HB.out | apply below_alloc | apply pw_below_drewN | apply below_drew1) | exact HB.out)⟩⟩
           case round =>
            clear H'
            try clear c1
            try clear p1
            try clear q1
            try clear hx1
            try clear c2
            try clear c2b0
            try clear c2b1
            try clear p2
            try clear c3
            try clear c3b0
            try clear c4
            try clear c4b0
            try clear c5
            try clear c5b0
            try clear c6
            try clear p6
            try clear c7
            try clear c10
            try clear c10b0
            try clear c12
            try clear c12b0
            try clear c12b1
            try clear c13
            try clear c13b0
            try clear c13b1
            try clear c14
            try clear c14b0
            try clear c14b1
            try clear p15
            try clear q15
            try clear hx15
            try clear hx150_0
            try clear p1
            try clear p150
            try clear p2
            try clear p6
            try clear q1
            try clear q150
            obtain ⟨x9_3, x49_3, rfl, rfl, HA, HK3, HO_6, HB⟩ := hrel
            cases gk with
            | zero => exact absurd HA.out (by simp [impl_PackInts.l2])
            | succ k3 =>
             have H := HA.out
             clear HA
             simp only [impl_PackInts.l2] at H
             by_cases c16 : x49_3 < (((l0.take ((ji11) : Int).toNat).drop (x7_2 : Int).toNat).length : Int)
             ·rw [if_pos c16] at H
              have c16b0 : decide (x49_3 < (((l0.take ((ji11) : Int).toNat).drop (x7_2 : Int).toNat).length : Int)) = true := decide_eq_true c16
              have c16b0l : decide (x49_3 < (((ji11).toNat - (x7_2).toNat : Nat) : Int)) = true := by rw [← HL_mid15.out]; exact c16b0
              clear c16
              by_cases c17 : 0 ≤ x49_3
              ·rw [if_pos c17] at H
               have c17b0 : decide (0 ≤ x49_3) = true := decide_eq_true c17
               clear c17
               by_cases c18 : x49_3 < (((l0.take ((ji11) : Int).toNat).drop (x7_2 : Int).toNat).length : Int)
               ·rw [if_pos c18] at H
                have c18b0 : decide (x49_3 < (((l0.take ((ji11) : Int).toNat).drop (x7_2 : Int).toNat).length : Int)) = true := decide_eq_true c18
                have c18b0l : decide (x49_3 < (((ji11).toNat - (x7_2).toNat : Nat) : Int)) = true := by rw [← HL_mid15.out]; exact c18b0
                clear c18
                replace H := Option.bind_eq_some_iff.mp H
                obtain ⟨t157, A190, H⟩ := H
                replace H : (impl_PackInts.l2 k3 l0 x6_2 x7_2 ((l0.take ((ji11) : Int).toNat).drop (x7_2 : Int).toNat) (mx x9_3 t157) ((l0.take ((ji11) : Int).toNat).drop (x7_2 : Int).toNat) (((l0.take ((ji11) : Int).toNat).drop (x7_2 : Int).toNat).length : Int) (wrap64 (x49_3 + 1))) = some (r1, r2) := H
                have A19 := Aside0.mk A190
                clear A190
                obtain ⟨ji20, hji20⟩ : ∃ j_ : Int, (mx x9_3 t157) = j_ := ⟨_, rfl⟩
                replace H : (impl_PackInts.l2 k3 l0 x6_2 x7_2 ((l0.take ((ji11) : Int).toNat).drop (x7_2 : Int).toNat) ji20 ((l0.take ((ji11) : Int).toNat).drop (x7_2 : Int).toNat) (((l0.take ((ji11) : Int).toNat).drop (x7_2 : Int).toNat).length : Int) (wrap64 (x49_3 + 1))) = some (r1, r2) := by first | (rw [hji20] at H; exact H) | (simp only [hji20] at H ⊢; exact H)
                (try rw [hji20] at A19)
                have hji20_ : (if x9_3 < t157 then t157 else x9_3) = ji20 := hji20
                have H' := Aside0.mk H
                clear H
                have p156 : 0 ≤ (x49_3 : Int) := of_decide_eq_true (by first | (with_reducible assumption) | assumption)
                have q156 : x49_3 < (((l0.take ((ji11) : Int).toNat).drop (x7_2 : Int).toNat).length : Int) := of_decide_eq_true (by first | (with_reducible assumption) | assumption)
                obtain ⟨ad156, e156, hx156_0⟩ := Kd.at_int HR155.out x49_3 p156 q156
                cases e156
                replace hx156_0 := (HB.out.cell (World.block_lt_of_cell? w _ hx156_0)).trans hx156_0
                replace p156 := eq_true p156
                replace q156 := eq_true q156
                have q156l : (x49_3 < (((ji11).toNat - (x7_2).toNat : Nat) : Int)) = True := by rw [← HL_mid15.out]; exact q156
                go_wp2_with (first | ((with_reducible refine gate_callee (f := 62) rfl ?_); refine goesL_ (some 56) rfl rfl Try.func62 (by kernel_rfl) rfl #[.int .u64 (IntKind.u64.wrap (rd ((l0.take ((ji11) : Int).toNat).drop (x7_2 : Int).toNat) x49_3))] rfl (by (try simp only [List.map_toArray, List.map_cons, List.map_nil]); first | done | (simp only [hji11]; rfl) | rfl | (simp only [List.length_drop, List.length_take]; rfl)) ?_; (with_reducible refine (bits_Len.calls (IntKind.u64.wrap (rd ((l0.take ((ji11) : Int).toNat).drop (x7_2 : Int).toNat) x49_3)) t157 _ A19.out).mono ?_); rintro e w' ⟨rfl, ⟨nd, rfl⟩⟩; refine ⟨_, rfl, ?_⟩))
                go_roundg k3
                case measure => have := HK1.out; have := HK2.out; have := HK3.out; omega
                case rel => exact ⟨(ji20), (wrap64 (x49_3 + 1)), (by first | rfl | (simp; done) | (simp only [← hji20] <;> (first | rfl | simp)) | (simp [*]; done)), (by first | rfl | (simp; done) | (simp [*]; done)), H', ⟨by have := HK1.out; have := HK2.out; have := HK3.out; omega⟩, ⟨by (with_reducible repeat (first | apply Kd.R_alloc | apply Kd.R_drewN | apply Kd.R_drew)); exact HO_6.out⟩, ⟨by repeat (first | (with_reducible first | exact HB.out | apply below_alloc | apply pw_below_drewN | apply below_drew1) | exact HB.out)⟩⟩
               ·rw [if_neg c18] at H
                exact absurd H (by simp)
              ·rw [if_neg c17] at H
               exact absurd H (by simp)
             ·rw [if_neg c16] at H
              have c16b0 : decide (x49_3 < (((l0.take ((ji11) : Int).toNat).drop (x7_2 : Int).toNat).length : Int)) = false := decide_eq_false c16
              have c16b0l : decide (x49_3 < (((ji11).toNat - (x7_2).toNat : Nat) : Int)) = false := by rw [← HL_mid15.out]; exact c16b0
              clear c16
              by_cases c21 : x6_2.length < 140737488355328
              ·rw [if_pos c21] at H
               have LMc21 := Aside0.mk c21
               clear c21
               obtain ⟨y158, hy158⟩ : ∃ y_ : List Int, y_ = (x6_2 ++ [(x9_3) % 256]) := ⟨_, rfl⟩
               replace H : (if 0 ≤ (wrap64 (Int.tdiv (wrap64 ((wrap64 (x9_3 * (((l0.take ((ji11) : Int).toNat).drop (x7_2 : Int).toNat).length : Int))) + 7)) 8)) then (if y158.length + (wrap64 (Int.tdiv (wrap64 ((wrap64 (x9_3 * (((l0.take ((ji11) : Int).toNat).drop (x7_2 : Int).toNat).length : Int))) + 7)) 8) : Int).toNat < 140737488355328 then (impl_PackInts.l3 k3 l0 (y158 ++ List.replicate (wrap64 (Int.tdiv (wrap64 ((wrap64 (x9_3 * (((l0.take ((ji11) : Int).toNat).drop (x7_2 : Int).toNat).length : Int))) + 7)) 8) : Int).toNat 0) x7_2 x9_3 (y158.length : Int) 0 ((l0.take ((ji11) : Int).toNat).drop (x7_2 : Int).toNat) (((l0.take ((ji11) : Int).toNat).drop (x7_2 : Int).toNat).length : Int) 0) else (none)) else (none)) = some (r1, r2) := by first | (rw [hy158]; with_reducible exact H) | (have H2_ := (Option.bind_some _ _).symm.trans H; rw [hy158]; with_reducible exact H2_) | (have H2_ := (Option.bind_some _ _).symm.trans H; with_reducible exact H2_) | with_reducible exact H | (rw [hy158]; exact H) | exact H
               have Ny158 := Aside0.mk hy158
               clear hy158
               obtain ⟨ji22, hji22⟩ : ∃ j_ : Int, (wrap64 (Int.tdiv (wrap64 ((wrap64 (x9_3 * (((l0.take ((ji11) : Int).toNat).drop (x7_2 : Int).toNat).length : Int))) + 7)) 8)) = j_ := ⟨_, rfl⟩
               replace H : (if 0 ≤ (ji22) then (if y158.length + (ji22 : Int).toNat < 140737488355328 then (impl_PackInts.l3 k3 l0 (y158 ++ List.replicate (ji22 : Int).toNat 0) x7_2 x9_3 (y158.length : Int) 0 ((l0.take ((ji11) : Int).toNat).drop (x7_2 : Int).toNat) (((l0.take ((ji11) : Int).toNat).drop (x7_2 : Int).toNat).length : Int) 0) else (none)) else (none)) = some (r1, r2) := by first | (rw [hji22] at H; exact H) | (simp only [hji22] at H ⊢; exact H)
               have hji22w : (IntKind.i64.wrap (Int.tdiv (wrap64 ((wrap64 (x9_3 * (((l0.take ((ji11) : Int).toNat).drop (x7_2 : Int).toNat).length : Int))) + 7)) 8)) = ji22 := (i64_w _).trans hji22
               have hji22a : wrap64 (Int.tdiv (wrap64 ((wrap64 (x9_3 * (((ji11).toNat - (x7_2).toNat : Nat) : Int))) + 7)) 8) = ji22 := by rw [← HL_mid15.out]; exact hji22
               have hji22b : IntKind.i64.wrap (Int.tdiv (wrap64 ((wrap64 (x9_3 * (((ji11).toNat - (x7_2).toNat : Nat) : Int))) + 7)) 8) = ji22 := (i64_w _).trans hji22a
               by_cases c23 : 0 ≤ (ji22)
               ·rw [if_pos c23] at H
                have c23b0 := eq_true c23
                have c23b1 : decide (0 ≤ (ji22)) = true := decide_eq_true c23
                clear c23
                by_cases c24 : y158.length + (ji22 : Int).toNat < 140737488355328
                ·rw [if_pos c24] at H
                 have LMc24 := Aside0.mk c24
                 clear c24
                 obtain ⟨y161, hy161⟩ : ∃ y_ : List Int, y_ = (y158 ++ List.replicate (ji22 : Int).toNat 0) := ⟨_, rfl⟩
                 replace H : (impl_PackInts.l3 k3 l0 y161 x7_2 x9_3 (y158.length : Int) 0 ((l0.take ((ji11) : Int).toNat).drop (x7_2 : Int).toNat) (((l0.take ((ji11) : Int).toNat).drop (x7_2 : Int).toNat).length : Int) 0) = some (r1, r2) := by first | (rw [hy161]; with_reducible exact H) | (have H2_ := (Option.bind_some _ _).symm.trans H; rw [hy161]; with_reducible exact H2_) | (have H2_ := (Option.bind_some _ _).symm.trans H; with_reducible exact H2_) | with_reducible exact H | (rw [hy161]; exact H) | exact H
                 have Ny161 := Aside0.mk hy161
                 clear hy161
                 have H' := Aside0.mk H
                 clear H
                 go_wp2_with (first | ((with_reducible refine gate_builtin (b := .append) (xs := #[.tmp 59, .tmp 62]) rfl ?_); at_builtin; refine Kd.R_append (Kd.int .u8) (w0 := w) w.heap.size rfl (.tmp 59) (.tmp 62) 23 5 (.int .u8 0) 1 rfl Try.underlying23 info5 rfl (by decide) (by omega) u6 x6_2 ((x9_3) % 256) [.int .u8 ((x9_3) % 256)] (fun _ => True) (fun _ => False) rfl rfl ?aP (fun _ hk => hk.elim) ?aF ?aO ?aB ?aS ?aL ?_; (case aP => exact rfl); (case aB => exact (by repeat (first | (with_reducible first | exact HB.out | apply below_alloc | apply pw_below_drewN | apply below_drew1) | exact HB.out))); (case aF => exact (fun _ _ => trivial)); (case aO => exact (by (with_reducible repeat (first | apply Kd.R_alloc | apply Kd.R_drewN | apply Kd.R_drew)); exact HO_6.out)); (case aS => exact (below_size (by repeat (first | (with_reducible first | exact HB.out | apply below_alloc | apply pw_below_drewN | apply below_drew1) | exact HB.out)))); (case aL => have := LMc21.out; omega); intro v159 w25 ho hb hg hat; rw [← Ny158.out] at ho; have n0_ := Aside0.mk (hb); have n1_ := Aside0.mk (ho); clear HB; clear HO_6; have HB := n0_; have HO160 := n1_; clear n0_ n1_; clear ho hb hg hat; obtain ⟨Ao26, co26, eo26⟩ := Kd.R_slice HO160.out; subst eo26) | (at_builtin; refine Kd.R_append_zeros (Kd.int .u8) (w0 := w) w.heap.size rfl (.tmp 66) (.tmp 72) 23 3 5 (.int .u8 0) 1 rfl Try.underlying23 Try.underlying3 info5 rfl (by decide) (by omega) (.slice Ao26 y158.length co26) y158 0 (ji22 : Int) (fun _ => True) rfl rfl rfl ?aF ?aO (of_decide_eq_true (by first | (with_reducible assumption) | assumption)) ?aB ?aS ?aL ?_; (case aB => exact (by repeat (first | (with_reducible first | exact HB.out | apply below_alloc | apply pw_below_drewN | apply below_drew1) | exact HB.out))); (case aF => exact (fun _ _ => trivial)); (case aO => exact (by (with_reducible repeat (first | apply Kd.R_alloc | apply Kd.R_drewN | apply Kd.R_drew)); exact HO160.out)); (case aS => exact (below_size (by repeat (first | (with_reducible first | exact HB.out | apply below_alloc | apply pw_below_drewN | apply below_drew1) | exact HB.out)))); (case aL => have := LMc24.out; omega); intro v162 w27 ho hb hg hat; rw [← Ny161.out] at ho; have n0_ := Aside0.mk (hb); have n1_ := Aside0.mk (ho); clear HB; clear HO160; have HB := n0_; have HO163 := n1_; clear n0_ n1_; clear ho hb hg hat))
                 go_loopg [13, 76] k3 (fun kq v13 v76 w' => ∃ (x6_4 : List Int) (x13_4 : Int) (x76_4 : Int), v13 = .int .i64 x13_4 ∧ v76 = .int .i64 x76_4 ∧ Aside0 (impl_PackInts.l3 kq l0 x6_4 x7_2 x9_3 (y158.length : Int) x13_4 ((l0.take ((ji11) : Int).toNat).drop (x7_2 : Int).toNat) (((l0.take ((ji11) : Int).toNat).drop (x7_2 : Int).toNat).length : Int) x76_4 = some (r1, r2)) ∧ Aside0 (kq ≤ k3) ∧ Aside0 (Kd.R (Kd.int .u8) 5 w' w.heap.size (fun _ => True) v162 x6_4) ∧ Aside0 (Below w.heap.size w w'))
                 case atStart => exact ⟨(y161), (0), (0), (by first | rfl | (simp; done) | (simp [*]; done)), (by first | rfl | (simp; done) | (simp [*]; done)), H', ⟨Nat.le_refl _⟩, ⟨by (with_reducible repeat (first | apply Kd.R_alloc | apply Kd.R_drewN | apply Kd.R_drew)); exact HO163.out⟩, ⟨by repeat (first | (with_reducible first | exact HB.out | apply below_alloc | apply pw_below_drewN | apply below_drew1) | exact HB.out)⟩⟩
                 case round =>
                  clear H'
                  try clear c1
                  try clear p1
                  try clear q1
                  try clear hx1
                  try clear c2
                  try clear c2b0
                  try clear c2b1
                  try clear p2
                  try clear c3
                  try clear c3b0
                  try clear c4
                  try clear c4b0
                  try clear c5
                  try clear c5b0
                  try clear c6
                  try clear p6
                  try clear c7
                  try clear c10
                  try clear c10b0
                  try clear c12
                  try clear c12b0
                  try clear c12b1
                  try clear c13
                  try clear c13b0
                  try clear c13b1
                  try clear c14
                  try clear c14b0
                  try clear c14b1
                  try clear p15
                  try clear q15
                  try clear hx15
                  try clear c16
                  try clear c16b0
                  try clear c17
                  try clear c17b0
                  try clear c18
                  try clear c18b0
                  try clear c21
                  try clear c23
                  try clear c23b0
                  try clear c23b1
                  try clear c24
                  try clear hx150_0
                  try clear hx156_0
                  try clear p1
                  try clear p15
                  try clear p150
                  try clear p156
                  try clear p2
                  try clear p6
                  try clear q1
                  try clear q15
                  try clear q150
                  try clear q156
                  obtain ⟨x6_4, x13_4, x76_4, rfl, rfl, HA, HK4, HO_6, HB⟩ := hrel
                  cases gk with
                  | zero => exact absurd HA.out (by simp [impl_PackInts.l3])
                  | succ k4 =>
                   have H := HA.out
                   clear HA
                   simp only [impl_PackInts.l3] at H
                   by_cases c28 : x76_4 < (((l0.take ((ji11) : Int).toNat).drop (x7_2 : Int).toNat).length : Int)
                   ·rw [if_pos c28] at H
                    have c28b0 : decide (x76_4 < (((l0.take ((ji11) : Int).toNat).drop (x7_2 : Int).toNat).length : Int)) = true := decide_eq_true c28
                    have c28b0l : decide (x76_4 < (((ji11).toNat - (x7_2).toNat : Nat) : Int)) = true := by rw [← HL_mid15.out]; exact c28b0
                    clear c28
                    by_cases c29 : 0 ≤ x76_4
                    ·rw [if_pos c29] at H
                     have c29b0 : decide (0 ≤ x76_4) = true := decide_eq_true c29
                     clear c29
                     by_cases c30 : x76_4 < (((l0.take ((ji11) : Int).toNat).drop (x7_2 : Int).toNat).length : Int)
                     ·rw [if_pos c30] at H
                      have c30b0 : decide (x76_4 < (((l0.take ((ji11) : Int).toNat).drop (x7_2 : Int).toNat).length : Int)) = true := decide_eq_true c30
                      have c30b0l : decide (x76_4 < (((ji11).toNat - (x7_2).toNat : Nat) : Int)) = true := by rw [← HL_mid15.out]; exact c30b0
                      clear c30
                      have H' := Aside0.mk H
                      clear H
                      have p164 : 0 ≤ (x76_4 : Int) := of_decide_eq_true (by first | (with_reducible assumption) | assumption)
                      have q164 : x76_4 < (((l0.take ((ji11) : Int).toNat).drop (x7_2 : Int).toNat).length : Int) := of_decide_eq_true (by first | (with_reducible assumption) | assumption)
                      obtain ⟨ad164, e164, hx164_0⟩ := Kd.at_int HR155.out x76_4 p164 q164
                      cases e164
                      replace hx164_0 := (HB.out.cell (World.block_lt_of_cell? w _ hx164_0)).trans hx164_0
                      replace p164 := eq_true p164
                      replace q164 := eq_true q164
                      have q164l : (x76_4 < (((ji11).toNat - (x7_2).toNat : Nat) : Int)) = True := by rw [← HL_mid15.out]; exact q164
                      go_wp2
                      go_loopg [13, 81] k4 (fun kq v13 v81 w' => ∃ (x6_5 : List Int) (x13_5 : Int) (x81_5 : Int), v13 = .int .i64 x13_5 ∧ v81 = .int .i64 x81_5 ∧ Aside0 (impl_PackInts.l4 kq l0 x6_5 x7_2 x9_3 (y158.length : Int) x13_5 (rd ((l0.take ((ji11) : Int).toNat).drop (x7_2 : Int).toNat) x76_4) ((l0.take ((ji11) : Int).toNat).drop (x7_2 : Int).toNat) (((l0.take ((ji11) : Int).toNat).drop (x7_2 : Int).toNat).length : Int) x76_4 x9_3 x81_5 = some (r1, r2)) ∧ Aside0 (kq ≤ k4) ∧ Aside0 (Kd.R (Kd.int .u8) 5 w' w.heap.size (fun _ => True) v162 x6_5) ∧ Aside0 (Below w.heap.size w w'))
                      case atStart => exact ⟨(x6_4), (x13_4), (0), (by first | rfl | (simp; done) | (simp [*]; done)), (by first | rfl | (simp; done) | (simp [*]; done)), H', ⟨Nat.le_refl _⟩, ⟨by (with_reducible repeat (first | apply Kd.R_alloc | apply Kd.R_drewN | apply Kd.R_drew)); exact HO_6.out⟩, ⟨by repeat (first | (with_reducible first | exact HB.out | apply below_alloc | apply pw_below_drewN | apply below_drew1) | exact HB.out)⟩⟩
                      case round =>
                       clear H'
                       try clear c1
                       try clear p1
                       try clear q1
                       try clear hx1
                       try clear c2
                       try clear c2b0
                       try clear c2b1
                       try clear p2
                       try clear c3
                       try clear c3b0
                       try clear c4
                       try clear c4b0
                       try clear c5
                       try clear c5b0
                       try clear c6
                       try clear p6
                       try clear c7
                       try clear c10
                       try clear c10b0
                       try clear c12
                       try clear c12b0
                       try clear c12b1
                       try clear c13
                       try clear c13b0
                       try clear c13b1
                       try clear c14
                       try clear c14b0
                       try clear c14b1
                       try clear p15
                       try clear q15
                       try clear hx15
                       try clear c16
                       try clear c16b0
                       try clear p16
                       try clear q16
                       try clear hx16
                       try clear c17
                       try clear c17b0
                       try clear c18
                       try clear c18b0
                       try clear c21
                       try clear c23
                       try clear c23b0
                       try clear c23b1
                       try clear c24
                       try clear c28
                       try clear c28b0
                       try clear c29
                       try clear c29b0
                       try clear c30
                       try clear c30b0
                       try clear hx150_0
                       try clear hx156_0
                       try clear hx164_0
                       try clear p1
                       try clear p15
                       try clear p150
                       try clear p156
                       try clear p164
                       try clear p2
                       try clear p6
                       try clear q1
                       try clear q15
                       try clear q150
                       try clear q156
                       try clear q164
                       obtain ⟨x6_5, x13_5, x81_5, rfl, rfl, HA, HK5, HO_6, HB⟩ := hrel
                       cases gk with
                       | zero => exact absurd HA.out (by simp [impl_PackInts.l4])
                       | succ k5 =>
                        have H := HA.out
                        clear HA
                        simp only [impl_PackInts.l4] at H
                        by_cases c31 : x81_5 < x9_3
                        ·rw [if_pos c31] at H
                         have c31b0 : decide (x81_5 < x9_3) = true := decide_eq_true c31
                         clear c31
                         obtain ⟨ji32, hji32⟩ : ∃ j_ : Int, (wrap64 ((y158.length : Int) + (wrap64 (Int.tdiv x13_5 8)))) = j_ := ⟨_, rfl⟩
                         replace H : (if 0 ≤ (ji32) then (if (ji32) < (x6_5.length : Int) then (if 0 ≤ x81_5 then (if 0 ≤ (Int.tmod x13_5 8) then (impl_PackInts.l4 k5 l0 (x6_5.set ((ji32) : Int).toNat (Go.bits .or .u8 (rd x6_5 (ji32)) (shl .u8 ((Go.bits .and .i64 (shr .i64 (rd ((l0.take ((ji11) : Int).toNat).drop (x7_2 : Int).toNat) x76_4) x81_5) 1) % 256) (Int.tmod x13_5 8)))) x7_2 x9_3 (y158.length : Int) (wrap64 (x13_5 + 1)) (rd ((l0.take ((ji11) : Int).toNat).drop (x7_2 : Int).toNat) x76_4) ((l0.take ((ji11) : Int).toNat).drop (x7_2 : Int).toNat) (((l0.take ((ji11) : Int).toNat).drop (x7_2 : Int).toNat).length : Int) x76_4 x9_3 (wrap64 (x81_5 + 1))) else (none)) else (none)) else (none)) else (none)) = some (r1, r2) := by first | (rw [hji32] at H; exact H) | (simp only [hji32] at H ⊢; exact H)
                         have hji32w : (IntKind.i64.wrap ((y158.length : Int) + (wrap64 (Int.tdiv x13_5 8)))) = ji32 := (i64_w _).trans hji32
                         by_cases c33 : 0 ≤ (ji32)
                         ·rw [if_pos c33] at H
                          have c33b0 : decide (0 ≤ (ji32)) = true := decide_eq_true c33
                          clear c33
                          by_cases c34 : (ji32) < (x6_5.length : Int)
                          ·rw [if_pos c34] at H
                           have c34b0 : decide ((ji32) < (x6_5.length : Int)) = true := decide_eq_true c34
                           clear c34
                           by_cases c35 : 0 ≤ x81_5
                           ·rw [if_pos c35] at H
                            have c35b0 := eq_true c35
                            have c35b1 : decide (0 ≤ x81_5) = true := decide_eq_true c35
                            clear c35
                            obtain ⟨ji36, hji36⟩ : ∃ j_ : Int, (shr .i64 (rd ((l0.take ((ji11) : Int).toNat).drop (x7_2 : Int).toNat) x76_4) x81_5) = j_ := ⟨_, rfl⟩
                            replace H : (if 0 ≤ (Int.tmod x13_5 8) then (impl_PackInts.l4 k5 l0 (x6_5.set ((ji32) : Int).toNat (Go.bits .or .u8 (rd x6_5 (ji32)) (shl .u8 ((Go.bits .and .i64 (ji36) 1) % 256) (Int.tmod x13_5 8)))) x7_2 x9_3 (y158.length : Int) (wrap64 (x13_5 + 1)) (rd ((l0.take ((ji11) : Int).toNat).drop (x7_2 : Int).toNat) x76_4) ((l0.take ((ji11) : Int).toNat).drop (x7_2 : Int).toNat) (((l0.take ((ji11) : Int).toNat).drop (x7_2 : Int).toNat).length : Int) x76_4 x9_3 (wrap64 (x81_5 + 1))) else (none)) = some (r1, r2) := by first | (rw [hji36] at H; exact H) | (simp only [hji36] at H ⊢; exact H)
                            have hji36_ : ((rd ((l0.take ((ji11) : Int).toNat).drop (x7_2 : Int).toNat) x76_4) / 2 ^ min x81_5.toNat 64) = ji36 := hji36
                            have hji36z : x81_5 ≤ 64 → ((rd ((l0.take ((ji11) : Int).toNat).drop (x7_2 : Int).toNat) x76_4) / 2 ^ x81_5.toNat) = ji36 := shr_small hji36
                            obtain ⟨ji37, hji37⟩ : ∃ j_ : Int, (Int.tmod x13_5 8) = j_ := ⟨_, rfl⟩
                            replace H : (if 0 ≤ (ji37) then (impl_PackInts.l4 k5 l0 (x6_5.set ((ji32) : Int).toNat (Go.bits .or .u8 (rd x6_5 (ji32)) (shl .u8 ((Go.bits .and .i64 (ji36) 1) % 256) (ji37)))) x7_2 x9_3 (y158.length : Int) (wrap64 (x13_5 + 1)) (rd ((l0.take ((ji11) : Int).toNat).drop (x7_2 : Int).toNat) x76_4) ((l0.take ((ji11) : Int).toNat).drop (x7_2 : Int).toNat) (((l0.take ((ji11) : Int).toNat).drop (x7_2 : Int).toNat).length : Int) x76_4 x9_3 (wrap64 (x81_5 + 1))) else (none)) = some (r1, r2) := by first | (rw [hji37] at H; exact H) | (simp only [hji37] at H ⊢; exact H)
                            by_cases c38 : 0 ≤ (ji37)
                            ·rw [if_pos c38] at H
                             have c38b0 := eq_true c38
                             have c38b1 : decide (0 ≤ (ji37)) = true := decide_eq_true c38
                             clear c38
                             obtain ⟨ji39, hji39⟩ : ∃ j_ : Int, (shl .u8 ((Go.bits .and .i64 (ji36) 1) % 256) (ji37)) = j_ := ⟨_, rfl⟩
                             replace H : (impl_PackInts.l4 k5 l0 (x6_5.set ((ji32) : Int).toNat (Go.bits .or .u8 (rd x6_5 (ji32)) (ji39))) x7_2 x9_3 (y158.length : Int) (wrap64 (x13_5 + 1)) (rd ((l0.take ((ji11) : Int).toNat).drop (x7_2 : Int).toNat) x76_4) ((l0.take ((ji11) : Int).toNat).drop (x7_2 : Int).toNat) (((l0.take ((ji11) : Int).toNat).drop (x7_2 : Int).toNat).length : Int) x76_4 x9_3 (wrap64 (x81_5 + 1))) = some (r1, r2) := by first | (rw [hji39] at H; exact H) | (simp only [hji39] at H ⊢; exact H)
                             have hji39_ : (IntKind.u8.wrap (((Go.bits .and .i64 (ji36) 1) % 256) * 2 ^ min (ji37).toNat 8)) = ji39 := hji39
                             have hji39c : (((Go.bits .and .i64 (ji36) 1) % 256) * 2 ^ min (ji37).toNat 8) % 256 = ji39 := (IntKind.wrap_u8 _).symm.trans hji39_
                             have hji39z : (ji37) ≤ 8 → (IntKind.u8.wrap (((Go.bits .and .i64 (ji36) 1) % 256) * 2 ^ (ji37).toNat)) = ji39 := shl_small hji39
                             obtain ⟨y166, hy166⟩ : ∃ y_ : List Int, y_ = (x6_5.set ((ji32) : Int).toNat (Go.bits .or .u8 (rd x6_5 (ji32)) (ji39))) := ⟨_, rfl⟩
                             replace H : (impl_PackInts.l4 k5 l0 y166 x7_2 x9_3 (y158.length : Int) (wrap64 (x13_5 + 1)) (rd ((l0.take ((ji11) : Int).toNat).drop (x7_2 : Int).toNat) x76_4) ((l0.take ((ji11) : Int).toNat).drop (x7_2 : Int).toNat) (((l0.take ((ji11) : Int).toNat).drop (x7_2 : Int).toNat).length : Int) x76_4 x9_3 (wrap64 (x81_5 + 1))) = some (r1, r2) := by first | (rw [hy166]; with_reducible exact H) | (have H2_ := (Option.bind_some _ _).symm.trans H; rw [hy166]; with_reducible exact H2_) | (have H2_ := (Option.bind_some _ _).symm.trans H; with_reducible exact H2_) | with_reducible exact H | (rw [hy166]; exact H) | exact H
                             have Ny166 := Aside0.mk hy166
                             clear hy166
                             have H' := Aside0.mk H
                             clear H
                             try go_wp2
                             have n0_ := Aside0.mk (Kd.R_drew HO_6.out)
                             have n1_ := Aside0.mk (below_drew1 HB.out)
                             clear HO_6
                             clear HB
                             have HO_6 := n0_
                             have HB := n1_
                             clear n0_ n1_
                             obtain ⟨Ao42, co42, eo42⟩ := Kd.R_slice HO_6.out
                             (first | subst eo42 | (injection eo42 with f1_ f2_ f3_; have f4_ := f1_.symm; have f5_ := f3_.symm; clear f1_ f2_ f3_; subst f4_; subst f5_))
                             have p165 : 0 ≤ ((ji32) : Int) := of_decide_eq_true (by first | (with_reducible assumption) | assumption)
                             have q165 : (ji32) < (x6_5.length : Int) := of_decide_eq_true (by first | (with_reducible assumption) | assumption)
                             obtain ⟨ad165, e165, hx165_0⟩ := Kd.at_int (Kd.R_reads' HO_6.out).2.2 (ji32) p165 q165
                             cases e165
                             replace p165 := eq_true p165
                             replace q165 := eq_true q165
                             have p40 : 0 ≤ ((ji32) : Int) := of_decide_eq_true (by first | (with_reducible assumption) | assumption)
                             have q40 : ((ji32) : Int) < ((x6_5.length : Int) : Int) := of_decide_eq_true (by first | (with_reducible assumption) | assumption)
                             obtain ⟨go40, co40, eo40, gb40, gl40, cl40, HG40⟩ := Kd.R_form HO_6.out (by omega)
                             (first | cases eo40 | (injection eo40 with ea_ en_ ec_; (first | subst ea_ | (injection ea_ with ea_; subst ea_)); subst ec_; clear en_))
                             have GB40 := Aside0.mk gb40
                             have GG40 := Aside0.mk HG40
                             clear gb40 gl40 HG40
                             (first | simp only [add_plain] at hx165_0 | skip)
                             obtain ⟨hx40_0, hf40_0⟩ := Kd.R_celln 0 HO_6.out ((ji32) : Int) p40 q40
                             replace p40 := eq_true p40
                             replace q40 := eq_true q40
                             have HP43 := Kd.R_putn HO_6.out ((ji32) : Int) (Go.bits .or .u8 (rd x6_5 (ji32)) (ji39))
                             rw [← Ny166.out] at HP43
                             have HQ43 := Aside0.mk HP43
                             clear HP43
                             refine start_ (n := 18) (S := fun w' => w'.cell? ⟨go40, ((ji32)).toNat, none⟩ = some (.int .u8 (rd x6_5 (ji32)))) (ds := [17]) #[false, false, false, false, false, false, false, false, false, false, false, false, false, false, false, false, false, false] (by kernel_rfl) rfl rfl (hx165_0) (fun hHeld => ?_); refine with_tabW impl_PackInts.tab30 impl_PackInts.bits30 (fun HT_ HW_ => ?_)
                             generalize wr.drew = w41 at HO_6 HB GG40 HQ43 hf40_0 hx165_0 hx40_0 hHeld ⊢
                             refine pure_ (i := 0) (N := some 84) (v := ?_) (a' := ?_) #[true, false, false, false, false, false, false, false, false, false, false, false, false, false, false, false, false, false] rfl rfl (any_of HT_.out (by kernel_rfl)) (fun _ _ _ h => h) (Or.inl ⟨by rfl, ?_⟩) ?_ ?_
                             rotate_left
                             ·intro w'
                              go_simp
                              with_reducible rfl
                             rotate_left
                             ·simp only [Act.put, List.setIfInBounds_toArray, List.set_cons_zero, List.set_cons_succ, i64_w, i32_w]
                              rfl
                             refine pure_ (i := 1) (N := some 85) (v := ?_) (a' := ?_) #[true, true, false, false, false, false, false, false, false, false, false, false, false, false, false, false, false, false] rfl rfl (any_of HT_.out (by kernel_rfl)) (fun _ _ _ h => h) (Or.inl ⟨by rfl, ?_⟩) ?_ ?_
                             rotate_left
                             ·intro w'
                              go_simp
                              with_reducible rfl
                             rotate_left
                             ·simp only [Act.put, List.setIfInBounds_toArray, List.set_cons_zero, List.set_cons_succ, i64_w, i32_w]
                              rfl
                             refine pure_ (i := 2) (N := some 86) (v := ?_) (a' := ?_) #[true, true, true, false, false, false, false, false, false, false, false, false, false, false, false, false, false, false] rfl rfl (any_of HT_.out (by kernel_rfl)) (fun _ _ _ h => h) (Or.inl ⟨by rfl, ?_⟩) ?_ ?_
                             rotate_left
                             ·intro w'
                              go_simp
                              with_reducible rfl
                             rotate_left
                             ·simp only [Act.put, List.setIfInBounds_toArray, List.set_cons_zero, List.set_cons_succ, i64_w, i32_w]
                              rfl
                             refine pure_ (i := 3) (N := some 87) (v := ?_) (a' := ?_) #[true, true, true, true, false, false, false, false, false, false, false, false, false, false, false, false, false, false] rfl rfl (any_of HT_.out (by kernel_rfl)) (fun _ _ _ h => h) (Or.inl ⟨by rfl, ?_⟩) ?_ ?_
                             rotate_left
                             ·intro w'
                              go_simp
                              with_reducible rfl
                             rotate_left
                             ·simp only [Act.put, List.setIfInBounds_toArray, List.set_cons_zero, List.set_cons_succ, i64_w, i32_w]
                              rfl
                             refine pure_ (i := 4) (N := some 88) (v := ?_) (a' := ?_) #[true, true, true, true, true, false, false, false, false, false, false, false, false, false, false, false, false, false] rfl rfl (any_of HT_.out (by kernel_rfl)) (fun _ _ _ h => h) (Or.inl ⟨by rfl, ?_⟩) ?_ ?_
                             rotate_left
                             ·intro w'
                              go_simp
                              with_reducible rfl
                             rotate_left
                             ·simp only [Act.put, List.setIfInBounds_toArray, List.set_cons_zero, List.set_cons_succ, i64_w, i32_w]
                              rfl
                             refine pure_ (i := 5) (N := some 89) (v := ?_) (a' := ?_) #[true, true, true, true, true, true, false, false, false, false, false, false, false, false, false, false, false, false] rfl rfl (any_of HT_.out (by kernel_rfl)) (fun _ _ _ h => h) (Or.inl ⟨by rfl, ?_⟩) ?_ ?_
                             rotate_left
                             ·intro w'
                              go_simp
                              with_reducible rfl
                             rotate_left
                             ·simp only [Act.put, List.setIfInBounds_toArray, List.set_cons_zero, List.set_cons_succ, i64_w, i32_w]
                              rfl
                             refine pure_ (i := 7) (N := some 91) (v := ?_) (a' := ?_) #[true, true, true, true, true, true, false, true, false, false, false, false, false, false, false, false, false, false] rfl rfl (any_of HT_.out (by kernel_rfl)) (fun _ _ _ h => h) (Or.inl ⟨by rfl, ?_⟩) ?_ ?_
                             rotate_left
                             ·intro w'
                              go_simp
                              with_reducible rfl
                             rotate_left
                             ·simp only [Act.put, List.setIfInBounds_toArray, List.set_cons_zero, List.set_cons_succ, i64_w, i32_w]
                              rfl
                             refine pure_ (i := 8) (N := some 92) (v := ?_) (a' := ?_) #[true, true, true, true, true, true, false, true, true, false, false, false, false, false, false, false, false, false] rfl rfl (any_of HT_.out (by kernel_rfl)) (fun _ _ _ h => h) (Or.inl ⟨by rfl, ?_⟩) ?_ ?_
                             rotate_left
                             ·intro w'
                              go_simp
                              with_reducible rfl
                             rotate_left
                             ·simp only [Act.put, List.setIfInBounds_toArray, List.set_cons_zero, List.set_cons_succ, i64_w, i32_w]
                              rfl
                             refine pure_ (i := 9) (N := some 93) (v := ?_) (a' := ?_) #[true, true, true, true, true, true, false, true, true, true, false, false, false, false, false, false, false, false] rfl rfl (any_of HT_.out (by kernel_rfl)) (fun _ _ _ h => h) (Or.inl ⟨by rfl, ?_⟩) ?_ ?_
                             rotate_left
                             ·intro w'
                              go_simp
                              with_reducible rfl
                             rotate_left
                             ·simp only [Act.put, List.setIfInBounds_toArray, List.set_cons_zero, List.set_cons_succ, i64_w, i32_w]
                              rfl
                             refine pure_ (i := 10) (N := some 94) (v := ?_) (a' := ?_) #[true, true, true, true, true, true, false, true, true, true, true, false, false, false, false, false, false, false] rfl rfl (any_of HT_.out (by kernel_rfl)) (fun _ _ _ h => h) (Or.inl ⟨by rfl, ?_⟩) ?_ ?_
                             rotate_left
                             ·intro w'
                              go_simp
                              with_reducible rfl
                             rotate_left
                             ·simp only [Act.put, List.setIfInBounds_toArray, List.set_cons_zero, List.set_cons_succ, i64_w, i32_w]
                              rfl
                             refine pure_ (i := 11) (N := some 95) (v := ?_) (a' := ?_) #[true, true, true, true, true, true, false, true, true, true, true, true, false, false, false, false, false, false] rfl rfl (any_of HT_.out (by kernel_rfl)) (fun _ _ _ h => h) (Or.inl ⟨by rfl, ?_⟩) ?_ ?_
                             rotate_left
                             ·intro w'
                              go_simp
                              with_reducible rfl
                             rotate_left
                             ·simp only [Act.put, List.setIfInBounds_toArray, List.set_cons_zero, List.set_cons_succ, i64_w, i32_w]
                              rfl
                             refine pure_ (i := 12) (N := some 96) (v := ?_) (a' := ?_) #[true, true, true, true, true, true, false, true, true, true, true, true, true, false, false, false, false, false] rfl rfl (any_of HT_.out (by kernel_rfl)) (fun _ _ _ h => h) (Or.inl ⟨by rfl, ?_⟩) ?_ ?_
                             rotate_left
                             ·intro w'
                              go_simp
                              with_reducible rfl
                             rotate_left
                             ·simp only [Act.put, List.setIfInBounds_toArray, List.set_cons_zero, List.set_cons_succ, i64_w, i32_w]
                              rfl
                             refine pure_ (i := 13) (N := some 97) (v := ?_) (a' := ?_) #[true, true, true, true, true, true, false, true, true, true, true, true, true, true, false, false, false, false] rfl rfl (any_of HT_.out (by kernel_rfl)) (fun _ _ _ h => h) (Or.inl ⟨by rfl, ?_⟩) ?_ ?_
                             rotate_left
                             ·intro w'
                              go_simp
                              with_reducible rfl
                             rotate_left
                             ·simp only [Act.put, List.setIfInBounds_toArray, List.set_cons_zero, List.set_cons_succ, i64_w, i32_w]
                              rfl
                             refine pure_ (i := 14) (N := some 98) (v := ?_) (a' := ?_) #[true, true, true, true, true, true, false, true, true, true, true, true, true, true, true, false, false, false] rfl rfl (any_of HT_.out (by kernel_rfl)) (fun _ _ _ h => h) (Or.inl ⟨by rfl, ?_⟩) ?_ ?_
                             rotate_left
                             ·intro w'
                              go_simp
                              with_reducible rfl
                             rotate_left
                             ·simp only [Act.put, List.setIfInBounds_toArray, List.set_cons_zero, List.set_cons_succ, i64_w, i32_w]
                              rfl
                             refine take_ (i := 6) (N := some 90) (v := ?_) (a' := ?_) #[true, true, true, true, true, true, true, true, true, true, true, true, true, true, true, false, false, false] rfl rfl (take_ofW HT_.out HW_.out (by kernel_rfl)) (fun _ _ _ h => h) (Or.inl ⟨by rfl, ?_⟩) hHeld ?_ ?_
                             rotate_left
                             ·intro w' s0
                              go_simp
                              with_reducible rfl
                             rotate_left
                             ·simp only [Act.put, List.setIfInBounds_toArray, List.set_cons_zero, List.set_cons_succ, i64_w, i32_w]
                              rfl
                             refine pure_ (i := 15) (N := some 99) (v := ?_) (a' := ?_) #[true, true, true, true, true, true, true, true, true, true, true, true, true, true, true, true, false, false] rfl rfl (any_of HT_.out (by kernel_rfl)) (fun _ _ _ h => h) (Or.inl ⟨by rfl, ?_⟩) ?_ ?_
                             rotate_left
                             ·intro w'
                              go_simp
                              with_reducible rfl
                             rotate_left
                             ·simp only [Act.put, List.setIfInBounds_toArray, List.set_cons_zero, List.set_cons_succ, i64_w, i32_w]
                              rfl
                             refine pure_ (i := 16) (N := some 100) (v := ?_) (a' := ?_) #[true, true, true, true, true, true, true, true, true, true, true, true, true, true, true, true, true, false] rfl rfl (any_of HT_.out (by kernel_rfl)) (fun _ _ _ h => h) (Or.inl ⟨by rfl, ?_⟩) ?_ ?_
                             rotate_left
                             ·intro w'
                              go_simp
                              with_reducible rfl
                             rotate_left
                             ·simp only [Act.put, List.setIfInBounds_toArray, List.set_cons_zero, List.set_cons_succ, i64_w, i32_w]
                              rfl
                             refine last_ (i := 17) (N := none) #[true, true, true, true, true, true, true, true, true, true, true, true, true, true, true, true, true, true] rfl rfl (one_of HT_.out (by kernel_rfl)) (by decide) (fun K hK => ?_)
                             refine skip_ (w1 := ?_) (by rfl) rfl ?_ ?_
                             rotate_left
                             ·go_simp
                              rfl
                             refine hK.out _ _ ?_
                             clear hK K
                             refine done_ (done_of HT_.out (by kernel_rfl)) ?_
                             try go_wp2
                             go_roundg k5
                             case measure => have := HK1.out; have := HK2.out; have := HK3.out; have := HK4.out; have := HK5.out; omega
                             case rel => exact ⟨(y166), (wrap64 (x13_5 + 1)), (wrap64 (x81_5 + 1)), (by first | rfl | (simp; done) | (simp [*]; done)), (by first | rfl | (simp; done) | (simp [*]; done)), H', ⟨by have := HK1.out; have := HK2.out; have := HK3.out; have := HK4.out; have := HK5.out; omega⟩, ⟨by (with_reducible repeat (first | apply Kd.R_alloc | apply Kd.R_drewN | apply Kd.R_drew)); exact HQ43.out⟩, ⟨by repeat (first | (with_reducible first | exact HB.out | apply below_alloc | apply pw_below_drewN | apply below_drew1 | refine below_set ?_ GB40.out) | exact HB.out)⟩⟩
                            ·rw [if_neg c38] at H
                             exact absurd H (by simp)
                           ·rw [if_neg c35] at H
                            exact absurd H (by simp)
                          ·rw [if_neg c34] at H
                           exact absurd H (by simp)
                         ·rw [if_neg c33] at H
                          exact absurd H (by simp)
                        ·rw [if_neg c31] at H
                         have c31b0 : decide (x81_5 < x9_3) = false := decide_eq_false c31
                         clear c31
                         have H' := Aside0.mk H
                         clear H
                         go_wp2
                         go_roundg k5
                         case measure => have := HK1.out; have := HK2.out; have := HK3.out; have := HK4.out; have := HK5.out; omega
                         case rel => exact ⟨(x6_5), (x13_5), (wrap64 (x76_4 + 1)), (by first | rfl | (simp; done) | (simp [*]; done)), (by first | rfl | (simp; done) | (simp [*]; done)), H', ⟨by have := HK1.out; have := HK2.out; have := HK3.out; have := HK4.out; have := HK5.out; omega⟩, ⟨by (with_reducible repeat (first | apply Kd.R_alloc | apply Kd.R_drewN | apply Kd.R_drew)); exact HO_6.out⟩, ⟨by repeat (first | (with_reducible first | exact HB.out | apply below_alloc | apply pw_below_drewN | apply below_drew1) | exact HB.out)⟩⟩
                     ·rw [if_neg c30] at H
                      exact absurd H (by simp)
                    ·rw [if_neg c29] at H
                     exact absurd H (by simp)
                   ·rw [if_neg c28] at H
                    have c28b0 : decide (x76_4 < (((l0.take ((ji11) : Int).toNat).drop (x7_2 : Int).toNat).length : Int)) = false := decide_eq_false c28
                    have c28b0l : decide (x76_4 < (((ji11).toNat - (x7_2).toNat : Nat) : Int)) = false := by rw [← HL_mid15.out]; exact c28b0
                    clear c28
                    have H' := Aside0.mk H
                    clear H
                    go_wp2
                    go_roundg k4
                    case measure => have := HK1.out; have := HK2.out; have := HK3.out; have := HK4.out; omega
                    case rel => exact ⟨(x6_4), (wrap64 (x7_2 + 128)), (by first | rfl | (simp; done) | (simp [*]; done)), H', ⟨by have := HK1.out; have := HK2.out; have := HK3.out; have := HK4.out; omega⟩, ⟨by (with_reducible repeat (first | apply Kd.R_alloc | apply Kd.R_drewN | apply Kd.R_drew)); exact HO_6.out⟩, ⟨by repeat (first | (with_reducible first | exact HB.out | apply below_alloc | apply pw_below_drewN | apply below_drew1) | exact HB.out)⟩⟩
                ·rw [if_neg c24] at H
                 exact absurd H (by simp)
               ·rw [if_neg c23] at H
                exact absurd H (by simp)
              ·rw [if_neg c21] at H
               exact absurd H (by simp)
          ·rw [if_neg c14] at H
           exact absurd H (by simp)
         ·rw [if_neg c13] at H
          exact absurd H (by simp)
        ·rw [if_neg c12] at H
         exact absurd H (by simp)
       ·rw [if_neg c10] at H
        have c10b0 : decide (x7_2 < (l0.length : Int)) = false := decide_eq_false c10
        clear c10
        simp only [Option.some.injEq, Prod.mk.injEq] at H
        obtain ⟨rfl, rfl⟩ := H
        go_wp2
        go_ret2
        exact ⟨_, by first | rfl | (simp [errW_none, errW_some] <;> rfl) | (simp [*, errW_none, errW_some] <;> rfl), by (with_reducible repeat (first | apply Kd.R_alloc | apply Kd.R_drewN | apply Kd.R_drew)); exact HO_6.out, by repeat (first | (with_reducible first | exact HB.out | apply below_alloc | apply pw_below_drewN | apply below_drew1) | exact HB.out)⟩

end Go.Proofs.Ytfkejcakklpecaa.XFnPacked
