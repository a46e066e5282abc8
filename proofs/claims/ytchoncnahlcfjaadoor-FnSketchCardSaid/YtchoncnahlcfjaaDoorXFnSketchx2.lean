-- A text of this session: written by its own program (wip/x/xprint.py), which runs the kit's printer with contracts of its own.
import Derived.Test.YtchoncnahlcfjaaDoorXFnSketchx0
import Derived.Test.YtchoncnahlcfjaaDoorXFnSketchx1
namespace Go.Proofs.YtchoncnahlcfjaaDoor.XFnSketch
open Go.RowKit Go.Proofs.YtchoncnahlcfjaaDoorW.PrintWords Go.Proofs.YtchoncnahlcfjaaDoorW.PrintLast Go.Proofs.YtchoncnahlcfjaaDoorW.PrintMore
attribute [local go_sem] max2_int min2_int max_two min_two max_three min_three max_four min_four   -- for this text's walks alone
set_option linter.unusedVariables false
set_option linter.unusedSimpArgs false

/-! ### impl_SketchOf: function 8 -/
mutual
def impl_SketchOf.j0 : Nat → List ByteArray → Bool → Option (List Int × Int)
  | 0, _, _ => none
  | k + 1, x0, x16 => if x16 = true then (some (([] : List Int), 2)) else (if 256 ≤ 35184372088832 then (impl_SketchOf.l0 k x0 (x0.length : Int) 0 (List.replicate 256 0)) else (none))
def impl_SketchOf.l0 : Nat → List ByteArray → Int → Int → List Int → Option (List Int × Int)
  | 0, _, _, _, _ => none
  | k + 1, x20, x21, x22, x125000 => if x22 < x21 then (if 0 ≤ x22 then (if x22 < (x20.length : Int) then (if (rdOf ByteArray.empty x20 x22).size ≤ 9223372036854775807 then ((impl_Sum32.f k (bytesOf (rdOf ByteArray.empty x20 x22))).bind fun t130 => (if ((Int.tdiv (Go.bits .xor .u32 (((Go.bits .xor .u32 ((t130) % 4294967296) (((t130) % 4294967296) / 65536)) * 2146121005) % 4294967296) ((((Go.bits .xor .u32 ((t130) % 4294967296) (((t130) % 4294967296) / 65536)) * 2146121005) % 4294967296) / 8192)) 256) % 4294967296) = 0 then (if 0 ≤ (Int.tmod (Go.bits .xor .u32 (((Go.bits .xor .u32 ((t130) % 4294967296) (((t130) % 4294967296) / 65536)) * 2146121005) % 4294967296) ((((Go.bits .xor .u32 ((t130) % 4294967296) (((t130) % 4294967296) / 65536)) * 2146121005) % 4294967296) / 8192)) 256) then (if (Int.tmod (Go.bits .xor .u32 (((Go.bits .xor .u32 ((t130) % 4294967296) (((t130) % 4294967296) / 65536)) * 2146121005) % 4294967296) ((((Go.bits .xor .u32 ((t130) % 4294967296) (((t130) % 4294967296) / 65536)) * 2146121005) % 4294967296) / 8192)) 256) < (x125000.length : Int) then (impl_SketchOf.l0 k x20 x21 (wrap64 (x22 + 1)) (x125000.set ((Int.tmod (Go.bits .xor .u32 (((Go.bits .xor .u32 ((t130) % 4294967296) (((t130) % 4294967296) / 65536)) * 2146121005) % 4294967296) ((((Go.bits .xor .u32 ((t130) % 4294967296) (((t130) % 4294967296) / 65536)) * 2146121005) % 4294967296) / 8192)) 256) : Int).toNat (mx (rd x125000 (Int.tmod (Go.bits .xor .u32 (((Go.bits .xor .u32 ((t130) % 4294967296) (((t130) % 4294967296) / 65536)) * 2146121005) % 4294967296) ((((Go.bits .xor .u32 ((t130) % 4294967296) (((t130) % 4294967296) / 65536)) * 2146121005) % 4294967296) / 8192)) 256)) 25))) else (none)) else (none)) else ((bits_TrailingZeros32.f ((Int.tdiv (Go.bits .xor .u32 (((Go.bits .xor .u32 ((t130) % 4294967296) (((t130) % 4294967296) / 65536)) * 2146121005) % 4294967296) ((((Go.bits .xor .u32 ((t130) % 4294967296) (((t130) % 4294967296) / 65536)) * 2146121005) % 4294967296) / 8192)) 256) % 4294967296)).bind fun t133 => (if 0 ≤ (Int.tmod (Go.bits .xor .u32 (((Go.bits .xor .u32 ((t130) % 4294967296) (((t130) % 4294967296) / 65536)) * 2146121005) % 4294967296) ((((Go.bits .xor .u32 ((t130) % 4294967296) (((t130) % 4294967296) / 65536)) * 2146121005) % 4294967296) / 8192)) 256) then (if (Int.tmod (Go.bits .xor .u32 (((Go.bits .xor .u32 ((t130) % 4294967296) (((t130) % 4294967296) / 65536)) * 2146121005) % 4294967296) ((((Go.bits .xor .u32 ((t130) % 4294967296) (((t130) % 4294967296) / 65536)) * 2146121005) % 4294967296) / 8192)) 256) < (x125000.length : Int) then (impl_SketchOf.l0 k x20 x21 (wrap64 (x22 + 1)) (x125000.set ((Int.tmod (Go.bits .xor .u32 (((Go.bits .xor .u32 ((t130) % 4294967296) (((t130) % 4294967296) / 65536)) * 2146121005) % 4294967296) ((((Go.bits .xor .u32 ((t130) % 4294967296) (((t130) % 4294967296) / 65536)) * 2146121005) % 4294967296) / 8192)) 256) : Int).toNat (mx (rd x125000 (Int.tmod (Go.bits .xor .u32 (((Go.bits .xor .u32 ((t130) % 4294967296) (((t130) % 4294967296) / 65536)) * 2146121005) % 4294967296) ((((Go.bits .xor .u32 ((t130) % 4294967296) (((t130) % 4294967296) / 65536)) * 2146121005) % 4294967296) / 8192)) 256)) (wrap64 (1 + t133))))) else (none)) else (none))))) else (none)) else (none)) else (none)) else (some (x125000, 0))
end
def impl_SketchOf.f (k : Nat) (l0 : List ByteArray) : Option (List Int × Int) := if (l0.length : Int) > 4096 then (impl_SketchOf.j0 k l0 true) else ((impl_SketchOf_1_contains.f l0).bind fun t120 => (impl_SketchOf.j0 k l0 t120))
theorem impl_SketchOf.mono_l : ∀ k, (∀ y0 y1, LeO (impl_SketchOf.j0 k y0 y1) (impl_SketchOf.j0 (k + 1) y0 y1)) ∧ (∀ y0 y1 y2 y3, LeO (impl_SketchOf.l0 k y0 y1 y2 y3) (impl_SketchOf.l0 (k + 1) y0 y1 y2 y3))
  | 0 => ⟨fun _ _ r h => by simp [impl_SketchOf.j0] at h, fun _ _ _ _ r h => by simp [impl_SketchOf.l0] at h⟩
  | k + 1 => by
    obtain ⟨ih0, ih1⟩ := impl_SketchOf.mono_l k
    refine ⟨?_, ?_⟩
    · intro y0 y1
      unfold impl_SketchOf.j0
      repeat' first
      | (with_reducible exact ih0 _ _)
      | (with_reducible exact ih1 _ _ _ _)
      | (with_reducible exact impl_Sum32.mono _ _)
      | (with_reducible exact LeO.refl _)
      | (with_reducible exact LeO.none _)
      | (with_reducible refine LeO.ite ?_ ?_)
      | (with_reducible refine LeO.bind ?_ (fun _ => ?_))
      | exact ih0 _ _
      | exact ih1 _ _ _ _
      | exact impl_Sum32.mono _ _
      | exact LeO.none _
      | refine LeO.ite ?_ ?_
      | refine LeO.bind ?_ (fun _ => ?_)
    · intro y0 y1 y2 y3
      unfold impl_SketchOf.l0
      repeat' first
      | (with_reducible exact ih0 _ _)
      | (with_reducible exact ih1 _ _ _ _)
      | (with_reducible exact impl_Sum32.mono _ _)
      | (with_reducible exact LeO.refl _)
      | (with_reducible exact LeO.none _)
      | (with_reducible refine LeO.ite ?_ ?_)
      | (with_reducible refine LeO.bind ?_ (fun _ => ?_))
      | exact ih0 _ _
      | exact ih1 _ _ _ _
      | exact impl_Sum32.mono _ _
      | exact LeO.none _
      | refine LeO.ite ?_ ?_
      | refine LeO.bind ?_ (fun _ => ?_)
theorem impl_SketchOf.mono : ∀ a0 k, LeO (impl_SketchOf.f k a0) (impl_SketchOf.f (k + 1) a0) := by
  intro a0 k
  obtain ⟨ih0, ih1⟩ := impl_SketchOf.mono_l k
  unfold impl_SketchOf.f
  repeat' first
      | (with_reducible exact ih0 _ _)
      | (with_reducible exact ih1 _ _ _ _)
      | (with_reducible exact impl_Sum32.mono _ _)
      | (with_reducible exact LeO.refl _)
      | (with_reducible exact LeO.none _)
      | (with_reducible refine LeO.ite ?_ ?_)
      | (with_reducible refine LeO.bind ?_ (fun _ => ?_))
      | exact ih0 _ _
      | exact ih1 _ _ _ _
      | exact impl_Sum32.mono _ _
      | exact LeO.none _
      | refine LeO.ite ?_ ?_
      | refine LeO.bind ?_ (fun _ => ?_)
def impl_SketchOf.T15 : Bool × List (List Nat × List Nat) := (true, [([], []), ([0], [0]), ([], []), ([2], [2]), ([], []), ([4], [4]), ([], []), ([6], [6]), ([5, 7], [5, 7]), ([8], [8]), ([], []), ([9, 10], [9, 10]), ([1, 3, 0, 1, 2, 3, 4, 5, 6, 7, 8, 9, 10, 11], [1, 3]), ([12, 11, 0, 1, 2, 3, 4, 5, 6, 7, 8, 9, 10, 11], [11, 12])])
def impl_SketchOf.B15 : List Nat := [0, 1, 0, 4, 0, 16, 0, 64, 240, 496, 0, 2032, 4095, 8191]
theorem impl_SketchOf.tab15 : rtab .any (opsOf Tryd.f8 15) = impl_SketchOf.T15 := by kernel_rfl
theorem impl_SketchOf.bits15 : waitsOk impl_SketchOf.T15.2 impl_SketchOf.B15 = true := by kernel_rfl
set_option maxHeartbeats 8000000 in
set_option maxRecDepth 100000 in
theorem impl_SketchOf.calls (k : Nat) (A0 : Option Addr) (c0 : Nat) (l0 : List ByteArray) (r1 : List Int) (r2 : Int) (w : World) (hr0 : Kd.C Kd.string w A0 l0.length l0) (hc0 : l0.length ≤ c0) (hT : TabW w) (h : impl_SketchOf.f k l0 = some (r1, r2)) :
    Calls Tryd.prog 8 #[.slice A0 l0.length c0] w fun e w' => ∃ v0_ : Value, e = .returned (.tuple #[.agg #[v0_], .int .i64 r2]) ∧ Kd.R (Kd.int .i64) 3 w' w.heap.size (fun _ => True) v0_ r1 ∧ Below w.heap.size w w' := by
  have hu26 := Tryd.underlying26
  have HR0 := Aside0.mk hr0
  have HC0 := Aside0.mk hc0
  clear hr0 hc0
  have HB := Aside0.mk (Below.refl w.heap.size w)
  have HT := Aside0.mk hT
  clear hT
  have H : (if (l0.length : Int) > 4096 then (impl_SketchOf.j0 k l0 true) else ((impl_SketchOf_1_contains.f l0).bind fun t120 => (impl_SketchOf.j0 k l0 t120))) = some (r1, r2) := h
  clear h
  have HC2 := Aside0.mk H
  clear H
  go_enter Tryd.func8, Tryd.ntmps8
  go_upto_region 1 with (first | ((with_reducible refine gate_dst (N := 2) rfl ?_); refine box_event ?hg (N := 2) ?hd (cs := #[.slice none 0 0]) (t := 26) ?hr ?_; (case hd => rfl); (case hg => rfl); (case hr => first | (go_simp; done) | (go_simp; rfl)); intro gb119 hg w3 hbox hb; have n0_ := Aside0.mk (below_step (zh HB) hb); have n1_ := Aside0.mk (hbox); have n2_ := Aside0.mk ((by rw [hg]; exact (below_size (zh HB)) : w.heap.size ≤ gb119)); have n3_ := Aside0.mk ((by rw [hg]; exact (below_size (zh HB)) : w.heap.size ≤ gb119)); clear HB; have HB := n0_; have BK119 := n1_; have GW119 := n2_; have GE119 := n3_; clear n0_ n1_ n2_ n3_; clear hb hbox hg))
  (try simp only [Act.put, List.setIfInBounds_toArray, List.set_cons_zero, List.set_cons_succ])
  go_cut [16] (fun v16 wc => ∃ (kq : Nat) (x16_1 : Bool), v16 = .bool x16_1 ∧ Aside0 (impl_SketchOf.j0 kq l0 x16_1 = some (r1, r2)) ∧ Aside0 (kq ≤ k) ∧ Aside0 (wc.heap[gb119]? = some (.cells #[(.slice none 0 0)] 26 (0, 0))) ∧ Aside0 (Below w.heap.size w wc))
  case first =>
    have H := HC2.out
    clear HC2
    by_cases c4 : (l0.length : Int) > 4096
    · rw [if_pos c4] at H
      have c4b0 : decide (4096 < (l0.length : Int)) = true := decide_eq_true c4
      have c4b1 : decide (4096 < l0.length) = true := decide_eq_true (by omega)
      clear c4
      (first | rw [c4b0] | (simp only [i64_w, i32_w]; rw [c4b0]) | skip)
      have H' := Aside0.mk H
      clear H
      go_wp2
      go_meet
      case rel => exact ⟨_, (true), (by first | rfl | (simp; done) | (simp [*]; done)), H', ⟨by first | omega | exact Nat.le_refl _⟩, ⟨zb BK119⟩, ⟨zg HB⟩⟩
    · rw [if_neg c4] at H
      have c4b0 : decide (4096 < (l0.length : Int)) = false := decide_eq_false c4
      have c4b1 : decide (4096 < l0.length) = false := decide_eq_false (by omega)
      clear c4
      (first | rw [c4b0] | (simp only [i64_w, i32_w]; rw [c4b0]) | skip)
      replace H := Option.bind_eq_some_iff.mp H
      obtain ⟨t120, A50, H⟩ := H
      replace H : (impl_SketchOf.j0 k l0 t120) = some (r1, r2) := H
      have A5 := Aside0.mk A50
      clear A50
      have H' := Aside0.mk H
      clear H
      go_wp2_with (first | (go_at_call 21; (with_reducible refine (impl_SketchOf_1_contains.calls _ _ l0 t120 _ ?side1 ?side2 A5.out).mono ?_); (case side1 => repeat (first | exact (Kd.C_below HR0.out HB.out) | (with_reducible refine Kd.C_alloc ?_ _) | (with_reducible refine Kd.C_drewN ?_ _) | (with_reducible refine Kd.C_drew ?_))); (case side2 => exact HC0.out); rintro e w' ⟨rfl, ⟨nd, rfl⟩⟩))
      go_meet
      case rel => exact ⟨_, (t120), (by first | rfl | (simp; done) | (simp [*]; done)), H', ⟨by first | omega | exact Nat.le_refl _⟩, ⟨zb BK119⟩, ⟨zg HB⟩⟩
  case rest =>
    clear HC2
    try clear p2
    try clear c4
    try clear c4b0
    try clear c4b1
    obtain ⟨kq, x16_1, rfl, HA, HJ1, BK119, HB⟩ := hcut
    cases kq with
    | zero => exact absurd HA.out (by simp [impl_SketchOf.j0])
    | succ kj1 =>
      have H := HA.out
      clear HA
      simp only [impl_SketchOf.j0] at H
      by_cases c6 : x16_1 = true
      · subst c6
        have H1 : (some (([] : List Int), 2)) = some (r1, r2) := by rw [if_pos rfl] at H; exact H
        clear H
        have H := H1
        clear H1
        simp only [Option.some.injEq, Prod.mk.injEq] at H
        obtain ⟨rfl, rfl⟩ := H
        have hcz7_0 : wc.cell? ⟨gb119, 0, none⟩ = some (.slice none 0 0) := (blk_cell BK119.out 0).trans rfl
        have hfz7_0 := blk_frozen BK119.out 0
        go_wp2
        refine bodyPost_ret (results_ct rfl _ _ gb119 26 #[.slice none 0 0] (0, 0) _ rfl (by (with_reducible repeat (first | refine blk_drewN ?_ _ | refine blk_drew ?_ | refine blk_alloc ?_ _)); refine blk_put (cs := #[.slice none 0 0]) ?_ 0 _ rfl; (with_reducible repeat (first | refine blk_drewN ?_ _ | refine blk_drew ?_ | refine blk_alloc ?_ _)); exact BK119.out) Tryd.underlying26 rfl (by kernel_rfl)) rfl ?_
        exact ⟨_, zre, by first | exact Kd.R_nil _ _ _ _ _ | exact Kd.N_nil _ _ _ _ _ | exact Kd.V_nil _ _ _ _ _ | exact Kd.Q_nil _ _ _ _ _ | exact Kd.S_nil _ _ _ _ _, zg HB⟩
      · replace c6 := Bool.eq_false_iff.mpr c6
        subst c6
        have H1 : (if 256 ≤ 35184372088832 then (impl_SketchOf.l0 kj1 l0 (l0.length : Int) 0 (List.replicate 256 0)) else (none)) = some (r1, r2) := by rw [if_neg (show ¬ (false = true) by decide)] at H; exact H
        clear H
        have H := H1
        clear H1
        by_cases c8 : 256 ≤ 35184372088832
        · rw [if_pos c8] at H
          have c8b0 := eq_true c8
          have c8b1 : decide (256 ≤ 35184372088832) = true := decide_eq_true c8
          clear c8
          obtain ⟨y121, hy121⟩ : ∃ y_ : List Int, y_ = (List.replicate 256 0) := ⟨_, rfl⟩
          replace H : (impl_SketchOf.l0 kj1 l0 (l0.length : Int) 0 y121) = some (r1, r2) := by first | (rw [hy121]; with_reducible exact H) | (have H2_ := (Option.bind_some _ _).symm.trans H; rw [hy121]; with_reducible exact H2_) | (have H2_ := (Option.bind_some _ _).symm.trans H; with_reducible exact H2_) | with_reducible exact H | (rw [hy121]; exact H) | exact H
          have Ny121 := Aside0.mk hy121
          clear hy121
          have H' := Aside0.mk H
          clear H
          go_wp2_with (first | ((with_reducible refine gate_dst (N := 18) rfl ?_); refine Kd.R_make (Kd.int .i64) _ 3 rfl (N := 18) rfl 24 _ _ rfl 256 rfl rfl Tryd.underlying24 (.int .i64 0) 8 info3 rfl (by decide) (by omega) 0 (ok := fun _ => True) (okp := fun _ => True) rfl (fun _ hk => hk) trivial (by omega) (by omega) (Below.refl _ _) (Nat.le_refl _) ?_; intro v122 w9 ho10 hb hg_ hnew_; clear hg_ hnew_; (first | rw [← Ny121.out] at ho10 | (simp only [Int.reduceToNat] at ho10; rw [← Ny121.out] at ho10)); have n0_ := Aside0.mk (Kd.R_lower ho10 (below_size (zg HB))); have n1_ := Aside0.mk (blk_below (zb BK119) hb); have n2_ := Aside0.mk (below_step (zg HB) hb); clear BK119; clear HB; have HO123 := n0_; have BK119 := n1_; have HB := n2_; clear n0_ n1_ n2_; clear hb ho10; obtain ⟨Ao11, co11, eo11⟩ := Kd.R_slice HO123.out; subst eo11) | ((with_reducible refine gate_dst (N := 4) rfl ?_); refine box_event ?hg (N := 4) ?hd (cs := #[.slice none 0 0]) (t := 26) ?hr ?_; (case hd => rfl); (case hg => rfl); (case hr => first | (go_simp; done) | (go_simp; rfl)); intro gb124 hg w12 hbox hb; have n0_ := Aside0.mk (Kd.R_below (zr HO123) hb); have n1_ := Aside0.mk (blk_below (zb BK119) hb); have n2_ := Aside0.mk (below_step (zg HB) hb); have n3_ := Aside0.mk (hbox); have n4_ := Aside0.mk ((by rw [hg]; exact (below_size (zg HB)) : w.heap.size ≤ gb124)); have n5_ := Aside0.mk ((by rw [hg]; exact (below_size (zg HB)) : w.heap.size ≤ gb124)); have n6_ := Aside0.mk ((by rw [hg]; exact Nat.ne_of_lt (blk_lt (zb BK119)) : gb119 ≠ gb124)); have n7_ := Aside0.mk ((by rw [hg]; exact Nat.ne_of_gt (blk_lt (zb BK119)) : gb124 ≠ gb119)); clear HO123; clear BK119; clear HB; have HO123 := n0_; have BK119 := n1_; have HB := n2_; have BK124 := n3_; have GW124 := n4_; have GE124 := n5_; have NB119_124 := n6_; have NB124_119 := n7_; clear n0_ n1_ n2_ n3_ n4_ n5_ n6_ n7_; clear hb hbox hg; have hnb13 := NB124_119.out; have hnc13 := NB119_124.out; have hcz14_0 : w12.cell? ⟨gb124, 0, none⟩ = some (.slice none 0 0) := (blk_cell BK124.out 0).trans rfl; have hfz14_0 := blk_frozen BK124.out 0))
          go_loopg [22] kj1 (fun kq v22 w' => ∃ (x22_2 : Int) (x125000_2 : List Int) (u125000 : Value), v22 = .int .i64 x22_2 ∧ Aside0 (impl_SketchOf.l0 kq l0 (l0.length : Int) x22_2 x125000_2 = some (r1, r2)) ∧ Aside0 (kq ≤ kj1) ∧ Aside0 (Kd.R (Kd.int .i64) 3 w' w.heap.size (fun _ => True) u125000 x125000_2) ∧ Aside0 (w'.heap[gb119]? = some (.cells #[(.slice none 0 0)] 26 (0, 0))) ∧ Aside0 (w'.heap[gb124]? = some (.cells #[u125000] 26 (0, 0))) ∧ Aside0 (Below w.heap.size w w'))
          case atStart => exact ⟨(0), (y121), (.slice Ao11 y121.length co11), (by first | rfl | (simp; done) | (simp [*]; done)), H', ⟨Nat.le_refl _⟩, ⟨by (with_reducible repeat (first | apply Kd.R_alloc | apply Kd.R_drewN | apply Kd.R_drew)); exact Kd.R_mono (Kd.R_far (p := ⟨gb124, 0, none⟩) (Kd.R_types HO123.out BK124.out (by decide)) (fun _ hk => hk.2) (.slice Ao11 y121.length co11)) (fun _ hk => trivial)⟩, ⟨by (with_reducible repeat (first | refine blk_drewN ?_ _ | refine blk_drew ?_ | refine blk_alloc ?_ _)); refine blk_far ?_ NB119_124.out _; (with_reducible repeat (first | refine blk_drewN ?_ _ | refine blk_drew ?_ | refine blk_alloc ?_ _)); exact BK119.out⟩, ⟨by (with_reducible repeat (first | refine blk_drewN ?_ _ | refine blk_drew ?_ | refine blk_alloc ?_ _)); refine blk_put (cs := #[.slice none 0 0]) ?_ 0 _ rfl; (with_reducible repeat (first | refine blk_drewN ?_ _ | refine blk_drew ?_ | refine blk_alloc ?_ _)); exact BK124.out⟩, ⟨zg HB⟩⟩
          case round =>
            clear H'
            try clear c1
            try clear p2
            try clear c4
            try clear c4b0
            try clear c4b1
            try clear c6
            try clear c8
            try clear c8b0
            try clear c8b1
            try clear c13
            try clear hcz14_0
            try clear hcz7_0
            try clear hfz14_0
            try clear hfz7_0
            try clear p2
            obtain ⟨x22_2, x125000_2, u125000, rfl, HA, HK2, HO_125000, BK119, BK124, HB⟩ := hrel
            cases gk with
            | zero => exact absurd HA.out (by simp [impl_SketchOf.l0])
            | succ k2 =>
              have H := HA.out
              clear HA
              simp only [impl_SketchOf.l0] at H
              by_cases c15 : x22_2 < (l0.length : Int)
              · rw [if_pos c15] at H
                have c15b0 : decide (x22_2 < (l0.length : Int)) = true := decide_eq_true c15
                clear c15
                by_cases c16 : 0 ≤ x22_2
                · rw [if_pos c16] at H
                  have c16b0 : decide (0 ≤ x22_2) = true := decide_eq_true c16
                  clear c16
                  by_cases c17 : x22_2 < (l0.length : Int)
                  · rw [if_pos c17] at H
                    have c17b0 : decide (x22_2 < (l0.length : Int)) = true := decide_eq_true c17
                    clear c17
                    by_cases c18 : (rdOf ByteArray.empty l0 x22_2).size ≤ 9223372036854775807
                    · rw [if_pos c18] at H
                      have c18b0 := eq_true c18
                      have c18b1 : decide ((rdOf ByteArray.empty l0 x22_2).size ≤ 9223372036854775807) = true := decide_eq_true c18
                      try have c18b2 : (9223372036854775807 < (rdOf ByteArray.empty l0 x22_2).size) = False := eq_false (Nat.not_lt.2 c18)
                      clear c18
                      obtain ⟨y126, hy126⟩ : ∃ y_ : List Int, y_ = (bytesOf (rdOf ByteArray.empty l0 x22_2)) := ⟨_, rfl⟩
                      replace H : ((impl_Sum32.f k2 y126).bind fun t130 => (if ((Int.tdiv (Go.bits .xor .u32 (((Go.bits .xor .u32 ((t130) % 4294967296) (((t130) % 4294967296) / 65536)) * 2146121005) % 4294967296) ((((Go.bits .xor .u32 ((t130) % 4294967296) (((t130) % 4294967296) / 65536)) * 2146121005) % 4294967296) / 8192)) 256) % 4294967296) = 0 then (if 0 ≤ (Int.tmod (Go.bits .xor .u32 (((Go.bits .xor .u32 ((t130) % 4294967296) (((t130) % 4294967296) / 65536)) * 2146121005) % 4294967296) ((((Go.bits .xor .u32 ((t130) % 4294967296) (((t130) % 4294967296) / 65536)) * 2146121005) % 4294967296) / 8192)) 256) then (if (Int.tmod (Go.bits .xor .u32 (((Go.bits .xor .u32 ((t130) % 4294967296) (((t130) % 4294967296) / 65536)) * 2146121005) % 4294967296) ((((Go.bits .xor .u32 ((t130) % 4294967296) (((t130) % 4294967296) / 65536)) * 2146121005) % 4294967296) / 8192)) 256) < (x125000_2.length : Int) then (impl_SketchOf.l0 k2 l0 (l0.length : Int) (wrap64 (x22_2 + 1)) (x125000_2.set ((Int.tmod (Go.bits .xor .u32 (((Go.bits .xor .u32 ((t130) % 4294967296) (((t130) % 4294967296) / 65536)) * 2146121005) % 4294967296) ((((Go.bits .xor .u32 ((t130) % 4294967296) (((t130) % 4294967296) / 65536)) * 2146121005) % 4294967296) / 8192)) 256) : Int).toNat (mx (rd x125000_2 (Int.tmod (Go.bits .xor .u32 (((Go.bits .xor .u32 ((t130) % 4294967296) (((t130) % 4294967296) / 65536)) * 2146121005) % 4294967296) ((((Go.bits .xor .u32 ((t130) % 4294967296) (((t130) % 4294967296) / 65536)) * 2146121005) % 4294967296) / 8192)) 256)) 25))) else (none)) else (none)) else ((bits_TrailingZeros32.f ((Int.tdiv (Go.bits .xor .u32 (((Go.bits .xor .u32 ((t130) % 4294967296) (((t130) % 4294967296) / 65536)) * 2146121005) % 4294967296) ((((Go.bits .xor .u32 ((t130) % 4294967296) (((t130) % 4294967296) / 65536)) * 2146121005) % 4294967296) / 8192)) 256) % 4294967296)).bind fun t133 => (if 0 ≤ (Int.tmod (Go.bits .xor .u32 (((Go.bits .xor .u32 ((t130) % 4294967296) (((t130) % 4294967296) / 65536)) * 2146121005) % 4294967296) ((((Go.bits .xor .u32 ((t130) % 4294967296) (((t130) % 4294967296) / 65536)) * 2146121005) % 4294967296) / 8192)) 256) then (if (Int.tmod (Go.bits .xor .u32 (((Go.bits .xor .u32 ((t130) % 4294967296) (((t130) % 4294967296) / 65536)) * 2146121005) % 4294967296) ((((Go.bits .xor .u32 ((t130) % 4294967296) (((t130) % 4294967296) / 65536)) * 2146121005) % 4294967296) / 8192)) 256) < (x125000_2.length : Int) then (impl_SketchOf.l0 k2 l0 (l0.length : Int) (wrap64 (x22_2 + 1)) (x125000_2.set ((Int.tmod (Go.bits .xor .u32 (((Go.bits .xor .u32 ((t130) % 4294967296) (((t130) % 4294967296) / 65536)) * 2146121005) % 4294967296) ((((Go.bits .xor .u32 ((t130) % 4294967296) (((t130) % 4294967296) / 65536)) * 2146121005) % 4294967296) / 8192)) 256) : Int).toNat (mx (rd x125000_2 (Int.tmod (Go.bits .xor .u32 (((Go.bits .xor .u32 ((t130) % 4294967296) (((t130) % 4294967296) / 65536)) * 2146121005) % 4294967296) ((((Go.bits .xor .u32 ((t130) % 4294967296) (((t130) % 4294967296) / 65536)) * 2146121005) % 4294967296) / 8192)) 256)) (wrap64 (1 + t133))))) else (none)) else (none))))) = some (r1, r2) := by first | (rw [hy126]; with_reducible exact H) | (have H2_ := (Option.bind_some _ _).symm.trans H; rw [hy126]; with_reducible exact H2_) | (have H2_ := (Option.bind_some _ _).symm.trans H; with_reducible exact H2_) | with_reducible exact H | (rw [hy126]; exact H) | exact H
                      have Ny126 := Aside0.mk hy126
                      clear hy126
                      replace H := Option.bind_eq_some_iff.mp H
                      obtain ⟨t130, A190, H⟩ := H
                      replace H : (if ((Int.tdiv (Go.bits .xor .u32 (((Go.bits .xor .u32 ((t130) % 4294967296) (((t130) % 4294967296) / 65536)) * 2146121005) % 4294967296) ((((Go.bits .xor .u32 ((t130) % 4294967296) (((t130) % 4294967296) / 65536)) * 2146121005) % 4294967296) / 8192)) 256) % 4294967296) = 0 then (if 0 ≤ (Int.tmod (Go.bits .xor .u32 (((Go.bits .xor .u32 ((t130) % 4294967296) (((t130) % 4294967296) / 65536)) * 2146121005) % 4294967296) ((((Go.bits .xor .u32 ((t130) % 4294967296) (((t130) % 4294967296) / 65536)) * 2146121005) % 4294967296) / 8192)) 256) then (if (Int.tmod (Go.bits .xor .u32 (((Go.bits .xor .u32 ((t130) % 4294967296) (((t130) % 4294967296) / 65536)) * 2146121005) % 4294967296) ((((Go.bits .xor .u32 ((t130) % 4294967296) (((t130) % 4294967296) / 65536)) * 2146121005) % 4294967296) / 8192)) 256) < (x125000_2.length : Int) then (impl_SketchOf.l0 k2 l0 (l0.length : Int) (wrap64 (x22_2 + 1)) (x125000_2.set ((Int.tmod (Go.bits .xor .u32 (((Go.bits .xor .u32 ((t130) % 4294967296) (((t130) % 4294967296) / 65536)) * 2146121005) % 4294967296) ((((Go.bits .xor .u32 ((t130) % 4294967296) (((t130) % 4294967296) / 65536)) * 2146121005) % 4294967296) / 8192)) 256) : Int).toNat (mx (rd x125000_2 (Int.tmod (Go.bits .xor .u32 (((Go.bits .xor .u32 ((t130) % 4294967296) (((t130) % 4294967296) / 65536)) * 2146121005) % 4294967296) ((((Go.bits .xor .u32 ((t130) % 4294967296) (((t130) % 4294967296) / 65536)) * 2146121005) % 4294967296) / 8192)) 256)) 25))) else (none)) else (none)) else ((bits_TrailingZeros32.f ((Int.tdiv (Go.bits .xor .u32 (((Go.bits .xor .u32 ((t130) % 4294967296) (((t130) % 4294967296) / 65536)) * 2146121005) % 4294967296) ((((Go.bits .xor .u32 ((t130) % 4294967296) (((t130) % 4294967296) / 65536)) * 2146121005) % 4294967296) / 8192)) 256) % 4294967296)).bind fun t133 => (if 0 ≤ (Int.tmod (Go.bits .xor .u32 (((Go.bits .xor .u32 ((t130) % 4294967296) (((t130) % 4294967296) / 65536)) * 2146121005) % 4294967296) ((((Go.bits .xor .u32 ((t130) % 4294967296) (((t130) % 4294967296) / 65536)) * 2146121005) % 4294967296) / 8192)) 256) then (if (Int.tmod (Go.bits .xor .u32 (((Go.bits .xor .u32 ((t130) % 4294967296) (((t130) % 4294967296) / 65536)) * 2146121005) % 4294967296) ((((Go.bits .xor .u32 ((t130) % 4294967296) (((t130) % 4294967296) / 65536)) * 2146121005) % 4294967296) / 8192)) 256) < (x125000_2.length : Int) then (impl_SketchOf.l0 k2 l0 (l0.length : Int) (wrap64 (x22_2 + 1)) (x125000_2.set ((Int.tmod (Go.bits .xor .u32 (((Go.bits .xor .u32 ((t130) % 4294967296) (((t130) % 4294967296) / 65536)) * 2146121005) % 4294967296) ((((Go.bits .xor .u32 ((t130) % 4294967296) (((t130) % 4294967296) / 65536)) * 2146121005) % 4294967296) / 8192)) 256) : Int).toNat (mx (rd x125000_2 (Int.tmod (Go.bits .xor .u32 (((Go.bits .xor .u32 ((t130) % 4294967296) (((t130) % 4294967296) / 65536)) * 2146121005) % 4294967296) ((((Go.bits .xor .u32 ((t130) % 4294967296) (((t130) % 4294967296) / 65536)) * 2146121005) % 4294967296) / 8192)) 256)) (wrap64 (1 + t133))))) else (none)) else (none)))) = some (r1, r2) := H
                      have A19 := Aside0.mk A190
                      clear A190
                      by_cases c20 : ((Int.tdiv (Go.bits .xor .u32 (((Go.bits .xor .u32 ((t130) % 4294967296) (((t130) % 4294967296) / 65536)) * 2146121005) % 4294967296) ((((Go.bits .xor .u32 ((t130) % 4294967296) (((t130) % 4294967296) / 65536)) * 2146121005) % 4294967296) / 8192)) 256) % 4294967296) = 0
                      · rw [if_pos c20] at H
                        have c20b0 : (((Int.tdiv (Go.bits .xor .u32 (((Go.bits .xor .u32 ((t130) % 4294967296) (((t130) % 4294967296) / 65536)) * 2146121005) % 4294967296) ((((Go.bits .xor .u32 ((t130) % 4294967296) (((t130) % 4294967296) / 65536)) * 2146121005) % 4294967296) / 8192)) 256) % 4294967296) == 0) = true := beq_iff_eq.mpr c20
                        have c20b1 : (((Int.tdiv (Go.bits .xor .u32 (((Go.bits .xor .u32 ((t130) % 4294967296) (((t130) % 4294967296) / 65536)) * 2146121005) % 4294967296) ((((Go.bits .xor .u32 ((t130) % 4294967296) (((t130) % 4294967296) / 65536)) * 2146121005) % 4294967296) / 8192)) 256) % 4294967296) != 0) = false := bne_eq_false_iff_eq.mpr c20
                        clear c20
                        obtain ⟨ji21, hji21⟩ : ∃ j_ : Int, (Int.tmod (Go.bits .xor .u32 (((Go.bits .xor .u32 ((t130) % 4294967296) (((t130) % 4294967296) / 65536)) * 2146121005) % 4294967296) ((((Go.bits .xor .u32 ((t130) % 4294967296) (((t130) % 4294967296) / 65536)) * 2146121005) % 4294967296) / 8192)) 256) = j_ := ⟨_, rfl⟩
                        replace H : (if 0 ≤ (ji21) then (if (ji21) < (x125000_2.length : Int) then (impl_SketchOf.l0 k2 l0 (l0.length : Int) (wrap64 (x22_2 + 1)) (x125000_2.set ((ji21) : Int).toNat (mx (rd x125000_2 (ji21)) 25))) else (none)) else (none)) = some (r1, r2) := by first | (rw [hji21] at H; exact H) | (simp only [hji21] at H ⊢; exact H)
                        (try rw [hji21] at A19)
                        by_cases c22 : 0 ≤ (ji21)
                        · rw [if_pos c22] at H
                          have c22b0 : decide (0 ≤ (ji21)) = true := decide_eq_true c22
                          clear c22
                          by_cases c23 : (ji21) < (x125000_2.length : Int)
                          · rw [if_pos c23] at H
                            have c23b0 : decide ((ji21) < (x125000_2.length : Int)) = true := decide_eq_true c23
                            clear c23
                            obtain ⟨ji24, hji24⟩ : ∃ j_ : Int, (mx (rd x125000_2 (ji21)) 25) = j_ := ⟨_, rfl⟩
                            replace H : (impl_SketchOf.l0 k2 l0 (l0.length : Int) (wrap64 (x22_2 + 1)) (x125000_2.set ((ji21) : Int).toNat (ji24))) = some (r1, r2) := by first | (rw [hji24] at H; exact H) | (simp only [hji24] at H ⊢; exact H)
                            (try rw [hji24] at A19)
                            have hji24_ : (if (rd x125000_2 (ji21)) < 25 then 25 else (rd x125000_2 (ji21))) = ji24 := hji24
                            obtain ⟨y132, hy132⟩ : ∃ y_ : List Int, y_ = (x125000_2.set ((ji21) : Int).toNat (ji24)) := ⟨_, rfl⟩
                            replace H : (impl_SketchOf.l0 k2 l0 (l0.length : Int) (wrap64 (x22_2 + 1)) y132) = some (r1, r2) := by first | (rw [hy132]; with_reducible exact H) | (have H2_ := (Option.bind_some _ _).symm.trans H; rw [hy132]; with_reducible exact H2_) | (have H2_ := (Option.bind_some _ _).symm.trans H; with_reducible exact H2_) | with_reducible exact H | (rw [hy132]; exact H) | exact H
                            have Ny132 := Aside0.mk hy132
                            clear hy132
                            have H' := Aside0.mk H
                            clear H
                            have p125 : 0 ≤ (x22_2 : Int) := of_decide_eq_true zas
                            have q125 : x22_2 < (l0.length : Int) := of_decide_eq_true zas
                            obtain ⟨ad125, e125, hx125_0⟩ := Kd.at_string HR0.out x22_2 p125 q125
                            cases e125
                            replace hx125_0 := (HB.out.cell (World.block_lt_of_cell? w _ hx125_0)).trans hx125_0
                            replace p125 := eq_true p125
                            replace q125 := eq_true q125
                            try go_wp2_with (first | ((with_reducible refine gate_dst (N := 27) rfl ?_); refine Kd.C_bytes _ rfl (N := 27) rfl 9 34 5 _ rfl (rdOf ByteArray.empty l0 x22_2) rfl Tryd.underlying9 Tryd.underlying34 Tryd.underlying5 (of_decide_eq_true zas) Ny126.out (Below.refl _ _) (Nat.le_refl _) ?_; intro A129 c129 w26 hr_ hc_ hb hg_; clear hg_; have n0_ := Aside0.mk (Kd.R_below (zr HO_125000) hb); have n1_ := Aside0.mk (blk_below (zb BK119) hb); have n2_ := Aside0.mk (blk_below (zb BK124) hb); have n3_ := Aside0.mk (below_step (zg HB) hb); have n4_ := Aside0.mk (hr_); have n5_ := Aside0.mk (hc_); clear HO_125000; clear BK119; clear BK124; clear HB; have HO_125000 := n0_; have BK119 := n1_; have BK124 := n2_; have HB := n3_; have HR129 := n4_; have HC129 := n5_; clear n0_ n1_ n2_ n3_ n4_ n5_; clear hb hr_ hc_) | ((with_reducible refine gate_callee (f := 23) rfl ?_); refine goesL_ (some 28) rfl rfl Tryd.func23 (by kernel_rfl) rfl #[.slice A129 y126.length c129] rfl zar ?_; (with_reducible refine (impl_Sum32.calls k2 _ _ y126 t130 _ ?side1 ?side2 A19.out).mono ?_); (case side1 => repeat (first | exact (by repeat (first | (with_reducible exact HR129.out) | (with_reducible refine Kd.C_alloc ?_ _) | (with_reducible refine Kd.C_drewN ?_ _) | (with_reducible refine Kd.C_drew ?_) | exact HR129.out)) | (with_reducible refine Kd.C_alloc ?_ _) | (with_reducible refine Kd.C_drewN ?_ _) | (with_reducible refine Kd.C_drew ?_))); (case side2 => exact HC129.out); rintro e w' ⟨rfl, ⟨nd, rfl⟩⟩; refine ⟨_, rfl, ?_⟩; (try (rw [drewN_self w26]; generalize hq_ : World.drewN w26 _ = w26; have n0_ : Aside0 (Kd.R (Kd.int .i64) 3 w26 w.heap.size (fun _ => True) u125000 x125000_2) := ⟨by rw [← hq_]; exact (zr HO_125000)⟩; have n1_ : Aside0 (w26.heap[gb119]? = some (.cells #[.slice none 0 0] 26 (0, 0))) := ⟨by rw [← hq_]; exact (zb BK119)⟩; have n2_ : Aside0 (w26.heap[gb124]? = some (.cells #[u125000] 26 (0, 0))) := ⟨by rw [← hq_]; exact (zb BK124)⟩; have n3_ : Aside0 (Below w.heap.size w w26) := ⟨by rw [← hq_]; exact (zg HB)⟩; have n4_ : Aside0 (Kd.C (Kd.int .u8) w26 A129 y126.length y126) := ⟨by rw [← hq_]; exact (by repeat (first | (with_reducible exact HR129.out) | (with_reducible refine Kd.C_alloc ?_ _) | (with_reducible refine Kd.C_drewN ?_ _) | (with_reducible refine Kd.C_drew ?_) | exact HR129.out))⟩; clear HO_125000 BK119 BK124 HB HR129 hq_; have HO_125000 := n0_; have BK119 := n1_; have BK124 := n2_; have HB := n3_; have HR129 := n4_; clear n0_ n1_ n2_ n3_ n4_))))
                            have n0_ := Aside0.mk (Kd.R_drew HO_125000.out)
                            have n1_ := Aside0.mk (blk_drew BK119.out)
                            have n2_ := Aside0.mk (blk_drew BK124.out)
                            have n3_ := Aside0.mk (Kd.C_drew HR129.out)
                            have n4_ := Aside0.mk (below_drew1 HB.out)
                            clear HO_125000
                            clear BK119
                            clear BK124
                            clear HR129
                            clear HB
                            have HO_125000 := n0_
                            have BK119 := n1_
                            have BK124 := n2_
                            have HR129 := n3_
                            have HB := n4_
                            clear n0_ n1_ n2_ n3_ n4_
                            obtain ⟨Ao28, co28, eo28⟩ := Kd.R_slice HO_125000.out
                            (first | subst eo28 | (injection eo28 with f1_ f2_ f3_; have f4_ := f1_.symm; have f5_ := f3_.symm; clear f1_ f2_ f3_; subst f4_; subst f5_))
                            have p131 : 0 ≤ ((ji21) : Int) := of_decide_eq_true zas
                            have q131 : (ji21) < (x125000_2.length : Int) := of_decide_eq_true zas
                            obtain ⟨ad131, e131, hx131_0⟩ := Kd.at_int (Kd.R_reads' HO_125000.out).2.2 (ji21) p131 q131
                            cases e131
                            replace p131 := eq_true p131
                            replace q131 := eq_true q131
                            have p25 : 0 ≤ ((ji21) : Int) := of_decide_eq_true zas
                            have q25 : ((ji21) : Int) < ((x125000_2.length : Int) : Int) := of_decide_eq_true zas
                            obtain ⟨go25, co25, eo25, gb25, gl25, cl25, HG25⟩ := Kd.R_form HO_125000.out (by omega)
                            (first | cases eo25 | (injection eo25 with ea_ en_ ec_; (first | subst ea_ | (injection ea_ with ea_; subst ea_)); subst ec_; clear en_))
                            have GB25 := Aside0.mk gb25
                            have GG25 := Aside0.mk HG25
                            clear gb25 gl25 HG25
                            (first | simp only [add_plain] at hx131_0 | skip)
                            obtain ⟨hx25_0, hf25_0⟩ := Kd.R_celln 0 HO_125000.out ((ji21) : Int) p25 q25
                            replace p25 := eq_true p25
                            replace q25 := eq_true q25
                            have HP29 := Kd.R_putn HO_125000.out ((ji21) : Int) ji24
                            rw [← Ny132.out] at HP29
                            have HQ29 := Aside0.mk HP29
                            clear HP29
                            refine start_ (n := 14) (S := fun w' => w'.cell? ⟨gb124, 0, none⟩ = some (.slice (some ⟨go25, 0, none⟩) x125000_2.length co28) ∧ w'.cell? ⟨go25, ((ji21)).toNat, none⟩ = some (.int .i64 (rd x125000_2 (ji21)))) (ds := [13]) #[false, false, false, false, false, false, false, false, false, false, false, false, false, false] (by kernel_rfl) rfl rfl ⟨(blk_cell BK124.out 0).trans rfl, hx131_0⟩ (fun hHeld => ?_); refine with_tabW impl_SketchOf.tab15 impl_SketchOf.bits15 (fun HT_ HW_ => ?_)
                            generalize w26.drew = w27 at HO_125000 BK119 BK124 HR129 HB GG25 HQ29 hf25_0 hx131_0 hx25_0 hHeld ⊢
                            refine pure_ (i := 0) (N := some 47) (v := ?_) (a' := ?_) #[true, false, false, false, false, false, false, false, false, false, false, false, false, false] rfl rfl (any_of HT_.out (by kernel_rfl)) (fun _ _ _ h => h) (Or.inl ⟨by rfl, ?_⟩) ?_ ?_
                            rotate_left
                            · intro w'
                              go_simp
                              with_reducible rfl
                            rotate_left
                            · simp only [Act.put, List.setIfInBounds_toArray, List.set_cons_zero, List.set_cons_succ, i64_w, i32_w]
                              rfl
                            refine pure_ (i := 2) (N := some 49) (v := ?_) (a' := ?_) #[true, false, true, false, false, false, false, false, false, false, false, false, false, false] rfl rfl (any_of HT_.out (by kernel_rfl)) (fun _ _ _ h => h) (Or.inl ⟨by rfl, ?_⟩) ?_ ?_
                            rotate_left
                            · intro w'
                              go_simp
                              with_reducible rfl
                            rotate_left
                            · simp only [Act.put, List.setIfInBounds_toArray, List.set_cons_zero, List.set_cons_succ, i64_w, i32_w]
                              rfl
                            refine pure_ (i := 3) (N := some 50) (v := ?_) (a' := ?_) #[true, false, true, true, false, false, false, false, false, false, false, false, false, false] rfl rfl (any_of HT_.out (by kernel_rfl)) (fun _ _ _ h => h) (Or.inl ⟨by rfl, ?_⟩) ?_ ?_
                            rotate_left
                            · intro w'
                              go_simp
                              with_reducible rfl
                            rotate_left
                            · simp only [Act.put, List.setIfInBounds_toArray, List.set_cons_zero, List.set_cons_succ, i64_w, i32_w]
                              rfl
                            refine pure_ (i := 4) (N := some 51) (v := ?_) (a' := ?_) #[true, false, true, true, true, false, false, false, false, false, false, false, false, false] rfl rfl (any_of HT_.out (by kernel_rfl)) (fun _ _ _ h => h) (Or.inl ⟨by rfl, ?_⟩) ?_ ?_
                            rotate_left
                            · intro w'
                              go_simp
                              with_reducible rfl
                            rotate_left
                            · simp only [Act.put, List.setIfInBounds_toArray, List.set_cons_zero, List.set_cons_succ, i64_w, i32_w]
                              rfl
                            refine pure_ (i := 6) (N := some 53) (v := ?_) (a' := ?_) #[true, false, true, true, true, false, true, false, false, false, false, false, false, false] rfl rfl (any_of HT_.out (by kernel_rfl)) (fun _ _ _ h => h) (Or.inl ⟨by rfl, ?_⟩) ?_ ?_
                            rotate_left
                            · intro w'
                              go_simp
                              with_reducible rfl
                            rotate_left
                            · simp only [Act.put, List.setIfInBounds_toArray, List.set_cons_zero, List.set_cons_succ, i64_w, i32_w]
                              rfl
                            refine pure_ (i := 7) (N := some 54) (v := ?_) (a' := ?_) #[true, false, true, true, true, false, true, true, false, false, false, false, false, false] rfl rfl (any_of HT_.out (by kernel_rfl)) (fun _ _ _ h => h) (Or.inl ⟨by rfl, ?_⟩) ?_ ?_
                            rotate_left
                            · intro w'
                              go_simp
                              with_reducible rfl
                            rotate_left
                            · simp only [Act.put, List.setIfInBounds_toArray, List.set_cons_zero, List.set_cons_succ, i64_w, i32_w]
                              rfl
                            refine pure_ (i := 10) (N := some 57) (v := ?_) (a' := ?_) #[true, false, true, true, true, false, true, true, false, false, true, false, false, false] rfl rfl (any_of HT_.out (by kernel_rfl)) (fun _ _ _ h => h) (Or.inl ⟨by rfl, ?_⟩) ?_ ?_
                            rotate_left
                            · intro w'
                              go_simp
                              with_reducible rfl
                            rotate_left
                            · simp only [Act.put, List.setIfInBounds_toArray, List.set_cons_zero, List.set_cons_succ, i64_w, i32_w]
                              rfl
                            refine take_ (i := 1) (N := some 48) (v := ?_) (a' := ?_) #[true, true, true, true, true, false, true, true, false, false, true, false, false, false] rfl rfl (take_ofW HT_.out HW_.out (by kernel_rfl)) (fun _ _ _ h => h) (Or.inl ⟨by rfl, ?_⟩) hHeld ?_ ?_
                            rotate_left
                            · rintro w' ⟨s0, s1⟩
                              go_simp
                              with_reducible rfl
                            rotate_left
                            · simp only [Act.put, List.setIfInBounds_toArray, List.set_cons_zero, List.set_cons_succ, i64_w, i32_w]
                              rfl
                            refine take_ (i := 5) (N := some 52) (v := ?_) (a' := ?_) #[true, true, true, true, true, true, true, true, false, false, true, false, false, false] rfl rfl (take_ofW HT_.out HW_.out (by kernel_rfl)) (fun _ _ _ h => h) (Or.inl ⟨by rfl, ?_⟩) hHeld ?_ ?_
                            rotate_left
                            · rintro w' ⟨s0, s1⟩
                              go_simp
                              with_reducible rfl
                            rotate_left
                            · simp only [Act.put, List.setIfInBounds_toArray, List.set_cons_zero, List.set_cons_succ, i64_w, i32_w]
                              rfl
                            refine pure_ (i := 8) (N := some 55) (v := ?_) (a' := ?_) #[true, true, true, true, true, true, true, true, true, false, true, false, false, false] rfl rfl (any_of HT_.out (by kernel_rfl)) (fun _ _ _ h => h) (Or.inl ⟨by rfl, ?_⟩) ?_ ?_
                            rotate_left
                            · intro w'
                              go_simp
                              with_reducible rfl
                            rotate_left
                            · simp only [Act.put, List.setIfInBounds_toArray, List.set_cons_zero, List.set_cons_succ, i64_w, i32_w]
                              rfl
                            refine take_ (i := 9) (N := some 56) (v := ?_) (a' := ?_) #[true, true, true, true, true, true, true, true, true, true, true, false, false, false] rfl rfl (take_ofW HT_.out HW_.out (by kernel_rfl)) (fun _ _ _ h => h) (Or.inl ⟨by rfl, ?_⟩) hHeld ?_ ?_
                            rotate_left
                            · rintro w' ⟨s0, s1⟩
                              go_simp
                              with_reducible rfl
                            rotate_left
                            · simp only [Act.put, List.setIfInBounds_toArray, List.set_cons_zero, List.set_cons_succ, i64_w, i32_w]
                              rfl
                            refine pure_ (i := 11) (N := some 58) (v := ?_) (a' := ?_) #[true, true, true, true, true, true, true, true, true, true, true, true, false, false] rfl rfl (any_of HT_.out (by kernel_rfl)) (fun _ _ _ h => h) (Or.inl ⟨by rfl, ?_⟩) ?_ ?_
                            rotate_left
                            · intro w'
                              go_simp
                              with_reducible rfl
                            rotate_left
                            · simp only [Act.put, List.setIfInBounds_toArray, List.set_cons_zero, List.set_cons_succ, i64_w, i32_w]
                              rfl
                            refine pure_ (i := 12) (N := some 59) (v := ?_) (a' := ?_) #[true, true, true, true, true, true, true, true, true, true, true, true, true, false] rfl rfl (any_of HT_.out (by kernel_rfl)) (fun _ _ _ h => h) (Or.inl ⟨by rfl, ?_⟩) ?_ ?_
                            rotate_left
                            · intro w'
                              go_simp
                              with_reducible rfl
                            rotate_left
                            · simp only [Act.put, List.setIfInBounds_toArray, List.set_cons_zero, List.set_cons_succ, i64_w, i32_w]
                              rfl
                            refine last_ (i := 13) (N := none) #[true, true, true, true, true, true, true, true, true, true, true, true, true, true] rfl rfl (one_of HT_.out (by kernel_rfl)) (by decide) (fun K hK => ?_)
                            refine skip_ (w1 := ?_) (by rfl) rfl ?_ ?_
                            rotate_left
                            · go_simp
                              rfl
                            refine hK.out _ _ ?_
                            clear hK K
                            refine done_ (done_of HT_.out (by kernel_rfl)) ?_
                            try go_wp2
                            go_roundg k2
                            case measure => have := HJ1.out; have := HK2.out; omega
                            case rel => exact ⟨(wrap64 (x22_2 + 1)), (y132), (.slice (some ⟨go25, 0, none⟩) x125000_2.length co28), (by first | rfl | (simp; done) | (simp [*]; done)), H', ⟨by have := HJ1.out; have := HK2.out; omega⟩, ⟨zr HQ29⟩, ⟨by (with_reducible repeat (first | refine blk_drewN ?_ _ | refine blk_drew ?_ | refine blk_alloc ?_ _)); refine blk_far ?_ (by have h_ := Kd.R_ne HO_125000.out BK119.out (by decide); intro e_; exact h_ (by rw [e_]; rfl)) _; (with_reducible repeat (first | refine blk_drewN ?_ _ | refine blk_drew ?_ | refine blk_alloc ?_ _)); exact BK119.out⟩, ⟨by (with_reducible repeat (first | refine blk_drewN ?_ _ | refine blk_drew ?_ | refine blk_alloc ?_ _)); refine blk_far ?_ (by have h_ := Kd.R_ne HO_125000.out BK124.out (by decide); intro e_; exact h_ (by rw [e_]; rfl)) _; (with_reducible repeat (first | refine blk_drewN ?_ _ | refine blk_drew ?_ | refine blk_alloc ?_ _)); exact BK124.out⟩, ⟨zg HB⟩⟩
                          · rw [if_neg c23] at H
                            exact absurd H (by simp)
                        · rw [if_neg c22] at H
                          exact absurd H (by simp)
                      · rw [if_neg c20] at H
                        have c20b0 : (((Int.tdiv (Go.bits .xor .u32 (((Go.bits .xor .u32 ((t130) % 4294967296) (((t130) % 4294967296) / 65536)) * 2146121005) % 4294967296) ((((Go.bits .xor .u32 ((t130) % 4294967296) (((t130) % 4294967296) / 65536)) * 2146121005) % 4294967296) / 8192)) 256) % 4294967296) == 0) = false := beq_eq_false_iff_ne.mpr c20
                        have c20b1 : (((Int.tdiv (Go.bits .xor .u32 (((Go.bits .xor .u32 ((t130) % 4294967296) (((t130) % 4294967296) / 65536)) * 2146121005) % 4294967296) ((((Go.bits .xor .u32 ((t130) % 4294967296) (((t130) % 4294967296) / 65536)) * 2146121005) % 4294967296) / 8192)) 256) % 4294967296) != 0) = true := bne_iff_ne.mpr c20
                        replace H := Option.bind_eq_some_iff.mp H
                        obtain ⟨t133, A300, H⟩ := H
                        replace H : (if 0 ≤ (Int.tmod (Go.bits .xor .u32 (((Go.bits .xor .u32 ((t130) % 4294967296) (((t130) % 4294967296) / 65536)) * 2146121005) % 4294967296) ((((Go.bits .xor .u32 ((t130) % 4294967296) (((t130) % 4294967296) / 65536)) * 2146121005) % 4294967296) / 8192)) 256) then (if (Int.tmod (Go.bits .xor .u32 (((Go.bits .xor .u32 ((t130) % 4294967296) (((t130) % 4294967296) / 65536)) * 2146121005) % 4294967296) ((((Go.bits .xor .u32 ((t130) % 4294967296) (((t130) % 4294967296) / 65536)) * 2146121005) % 4294967296) / 8192)) 256) < (x125000_2.length : Int) then (impl_SketchOf.l0 k2 l0 (l0.length : Int) (wrap64 (x22_2 + 1)) (x125000_2.set ((Int.tmod (Go.bits .xor .u32 (((Go.bits .xor .u32 ((t130) % 4294967296) (((t130) % 4294967296) / 65536)) * 2146121005) % 4294967296) ((((Go.bits .xor .u32 ((t130) % 4294967296) (((t130) % 4294967296) / 65536)) * 2146121005) % 4294967296) / 8192)) 256) : Int).toNat (mx (rd x125000_2 (Int.tmod (Go.bits .xor .u32 (((Go.bits .xor .u32 ((t130) % 4294967296) (((t130) % 4294967296) / 65536)) * 2146121005) % 4294967296) ((((Go.bits .xor .u32 ((t130) % 4294967296) (((t130) % 4294967296) / 65536)) * 2146121005) % 4294967296) / 8192)) 256)) (wrap64 (1 + t133))))) else (none)) else (none)) = some (r1, r2) := H
                        have A30 := Aside0.mk A300
                        clear A300
                        obtain ⟨ji31, hji31⟩ : ∃ j_ : Int, (Int.tmod (Go.bits .xor .u32 (((Go.bits .xor .u32 ((t130) % 4294967296) (((t130) % 4294967296) / 65536)) * 2146121005) % 4294967296) ((((Go.bits .xor .u32 ((t130) % 4294967296) (((t130) % 4294967296) / 65536)) * 2146121005) % 4294967296) / 8192)) 256) = j_ := ⟨_, rfl⟩
                        replace H : (if 0 ≤ (ji31) then (if (ji31) < (x125000_2.length : Int) then (impl_SketchOf.l0 k2 l0 (l0.length : Int) (wrap64 (x22_2 + 1)) (x125000_2.set ((ji31) : Int).toNat (mx (rd x125000_2 (ji31)) (wrap64 (1 + t133))))) else (none)) else (none)) = some (r1, r2) := by first | (rw [hji31] at H; exact H) | (simp only [hji31] at H ⊢; exact H)
                        (try rw [hji31] at A19)
                        (try rw [hji31] at A30)
                        by_cases c32 : 0 ≤ (ji31)
                        · rw [if_pos c32] at H
                          have c32b0 : decide (0 ≤ (ji31)) = true := decide_eq_true c32
                          clear c32
                          by_cases c33 : (ji31) < (x125000_2.length : Int)
                          · rw [if_pos c33] at H
                            have c33b0 : decide ((ji31) < (x125000_2.length : Int)) = true := decide_eq_true c33
                            clear c33
                            obtain ⟨ji34, hji34⟩ : ∃ j_ : Int, (mx (rd x125000_2 (ji31)) (wrap64 (1 + t133))) = j_ := ⟨_, rfl⟩
                            replace H : (impl_SketchOf.l0 k2 l0 (l0.length : Int) (wrap64 (x22_2 + 1)) (x125000_2.set ((ji31) : Int).toNat (ji34))) = some (r1, r2) := by first | (rw [hji34] at H; exact H) | (simp only [hji34] at H ⊢; exact H)
                            (try rw [hji34] at A19)
                            (try rw [hji34] at A30)
                            have hji34_ : (if (rd x125000_2 (ji31)) < (wrap64 (1 + t133)) then (wrap64 (1 + t133)) else (rd x125000_2 (ji31))) = ji34 := hji34
                            obtain ⟨y135, hy135⟩ : ∃ y_ : List Int, y_ = (x125000_2.set ((ji31) : Int).toNat (ji34)) := ⟨_, rfl⟩
                            replace H : (impl_SketchOf.l0 k2 l0 (l0.length : Int) (wrap64 (x22_2 + 1)) y135) = some (r1, r2) := by first | (rw [hy135]; with_reducible exact H) | (have H2_ := (Option.bind_some _ _).symm.trans H; rw [hy135]; with_reducible exact H2_) | (have H2_ := (Option.bind_some _ _).symm.trans H; with_reducible exact H2_) | with_reducible exact H | (rw [hy135]; exact H) | exact H
                            have Ny135 := Aside0.mk hy135
                            clear hy135
                            have H' := Aside0.mk H
                            clear H
                            have p125 : 0 ≤ (x22_2 : Int) := of_decide_eq_true zas
                            have q125 : x22_2 < (l0.length : Int) := of_decide_eq_true zas
                            obtain ⟨ad125, e125, hx125_0⟩ := Kd.at_string HR0.out x22_2 p125 q125
                            cases e125
                            replace hx125_0 := (HB.out.cell (World.block_lt_of_cell? w _ hx125_0)).trans hx125_0
                            replace p125 := eq_true p125
                            replace q125 := eq_true q125
                            try go_wp2_with (first | ((with_reducible refine gate_dst (N := 27) rfl ?_); refine Kd.C_bytes _ rfl (N := 27) rfl 9 34 5 _ rfl (rdOf ByteArray.empty l0 x22_2) rfl Tryd.underlying9 Tryd.underlying34 Tryd.underlying5 (of_decide_eq_true zas) Ny126.out (Below.refl _ _) (Nat.le_refl _) ?_; intro A129 c129 w36 hr_ hc_ hb hg_; clear hg_; have n0_ := Aside0.mk (Kd.R_below (zr HO_125000) hb); have n1_ := Aside0.mk (blk_below (zb BK119) hb); have n2_ := Aside0.mk (blk_below (zb BK124) hb); have n3_ := Aside0.mk (below_step (zg HB) hb); have n4_ := Aside0.mk (hr_); have n5_ := Aside0.mk (hc_); clear HO_125000; clear BK119; clear BK124; clear HB; have HO_125000 := n0_; have BK119 := n1_; have BK124 := n2_; have HB := n3_; have HR129 := n4_; have HC129 := n5_; clear n0_ n1_ n2_ n3_ n4_ n5_; clear hb hr_ hc_) | ((with_reducible refine gate_callee (f := 23) rfl ?_); refine goesL_ (some 28) rfl rfl Tryd.func23 (by kernel_rfl) rfl #[.slice A129 y126.length c129] rfl zar ?_; (with_reducible refine (impl_Sum32.calls k2 _ _ y126 t130 _ ?side1 ?side2 A19.out).mono ?_); (case side1 => repeat (first | exact (by repeat (first | (with_reducible exact HR129.out) | (with_reducible refine Kd.C_alloc ?_ _) | (with_reducible refine Kd.C_drewN ?_ _) | (with_reducible refine Kd.C_drew ?_) | exact HR129.out)) | (with_reducible refine Kd.C_alloc ?_ _) | (with_reducible refine Kd.C_drewN ?_ _) | (with_reducible refine Kd.C_drew ?_))); (case side2 => exact HC129.out); rintro e w' ⟨rfl, ⟨nd, rfl⟩⟩; refine ⟨_, rfl, ?_⟩; (try (rw [drewN_self w36]; generalize hq_ : World.drewN w36 _ = w36; have n0_ : Aside0 (Kd.R (Kd.int .i64) 3 w36 w.heap.size (fun _ => True) u125000 x125000_2) := ⟨by rw [← hq_]; exact (zr HO_125000)⟩; have n1_ : Aside0 (w36.heap[gb119]? = some (.cells #[.slice none 0 0] 26 (0, 0))) := ⟨by rw [← hq_]; exact (zb BK119)⟩; have n2_ : Aside0 (w36.heap[gb124]? = some (.cells #[u125000] 26 (0, 0))) := ⟨by rw [← hq_]; exact (zb BK124)⟩; have n3_ : Aside0 (Below w.heap.size w w36) := ⟨by rw [← hq_]; exact (zg HB)⟩; have n4_ : Aside0 (Kd.C (Kd.int .u8) w36 A129 y126.length y126) := ⟨by rw [← hq_]; exact (by repeat (first | (with_reducible exact HR129.out) | (with_reducible refine Kd.C_alloc ?_ _) | (with_reducible refine Kd.C_drewN ?_ _) | (with_reducible refine Kd.C_drew ?_) | exact HR129.out))⟩; clear HO_125000 BK119 BK124 HB HR129 hq_; have HO_125000 := n0_; have BK119 := n1_; have BK124 := n2_; have HB := n3_; have HR129 := n4_; clear n0_ n1_ n2_ n3_ n4_))) | ((with_reducible refine gate_callee (f := 24) rfl ?_); refine goesL_ (some 45) rfl rfl Tryd.func24 (by kernel_rfl) rfl #[.int .u32 ((Int.tdiv (Go.bits .xor .u32 (((Go.bits .xor .u32 ((t130) % 4294967296) (((t130) % 4294967296) / 65536)) * 2146121005) % 4294967296) ((((Go.bits .xor .u32 ((t130) % 4294967296) (((t130) % 4294967296) / 65536)) * 2146121005) % 4294967296) / 8192)) 256) % 4294967296)] rfl zar ?_; (with_reducible refine (bits_TrailingZeros32.calls ((Int.tdiv (Go.bits .xor .u32 (((Go.bits .xor .u32 ((t130) % 4294967296) (((t130) % 4294967296) / 65536)) * 2146121005) % 4294967296) ((((Go.bits .xor .u32 ((t130) % 4294967296) (((t130) % 4294967296) / 65536)) * 2146121005) % 4294967296) / 8192)) 256) % 4294967296) t133 _ ?side1 A30.out).mono ?_); (case side1 => exact TabW.below HT.out (zg HB)); rintro e w' ⟨rfl, ⟨nd, rfl⟩⟩; refine ⟨_, rfl, ?_⟩; (try (rw [drewN_self w36]; generalize hq_ : World.drewN w36 _ = w36; have n0_ : Aside0 (Kd.R (Kd.int .i64) 3 w36 w.heap.size (fun _ => True) u125000 x125000_2) := ⟨by rw [← hq_]; exact (zr HO_125000)⟩; have n1_ : Aside0 (w36.heap[gb119]? = some (.cells #[.slice none 0 0] 26 (0, 0))) := ⟨by rw [← hq_]; exact (zb BK119)⟩; have n2_ : Aside0 (w36.heap[gb124]? = some (.cells #[u125000] 26 (0, 0))) := ⟨by rw [← hq_]; exact (zb BK124)⟩; have n3_ : Aside0 (Below w.heap.size w w36) := ⟨by rw [← hq_]; exact (zg HB)⟩; have n4_ : Aside0 (Kd.C (Kd.int .u8) w36 A129 y126.length y126) := ⟨by rw [← hq_]; exact (by repeat (first | (with_reducible exact HR129.out) | (with_reducible refine Kd.C_alloc ?_ _) | (with_reducible refine Kd.C_drewN ?_ _) | (with_reducible refine Kd.C_drew ?_) | exact HR129.out))⟩; clear HO_125000 BK119 BK124 HB HR129 hq_; have HO_125000 := n0_; have BK119 := n1_; have BK124 := n2_; have HB := n3_; have HR129 := n4_; clear n0_ n1_ n2_ n3_ n4_))))
                            have n0_ := Aside0.mk (Kd.R_drew HO_125000.out)
                            have n1_ := Aside0.mk (blk_drew BK119.out)
                            have n2_ := Aside0.mk (blk_drew BK124.out)
                            have n3_ := Aside0.mk (Kd.C_drew HR129.out)
                            have n4_ := Aside0.mk (below_drew1 HB.out)
                            clear HO_125000
                            clear BK119
                            clear BK124
                            clear HR129
                            clear HB
                            have HO_125000 := n0_
                            have BK119 := n1_
                            have BK124 := n2_
                            have HR129 := n3_
                            have HB := n4_
                            clear n0_ n1_ n2_ n3_ n4_
                            obtain ⟨Ao38, co38, eo38⟩ := Kd.R_slice HO_125000.out
                            (first | subst eo38 | (injection eo38 with f1_ f2_ f3_; have f4_ := f1_.symm; have f5_ := f3_.symm; clear f1_ f2_ f3_; subst f4_; subst f5_))
                            have p134 : 0 ≤ ((ji31) : Int) := of_decide_eq_true zas
                            have q134 : (ji31) < (x125000_2.length : Int) := of_decide_eq_true zas
                            obtain ⟨ad134, e134, hx134_0⟩ := Kd.at_int (Kd.R_reads' HO_125000.out).2.2 (ji31) p134 q134
                            cases e134
                            replace p134 := eq_true p134
                            replace q134 := eq_true q134
                            have p35 : 0 ≤ ((ji31) : Int) := of_decide_eq_true zas
                            have q35 : ((ji31) : Int) < ((x125000_2.length : Int) : Int) := of_decide_eq_true zas
                            obtain ⟨go35, co35, eo35, gb35, gl35, cl35, HG35⟩ := Kd.R_form HO_125000.out (by omega)
                            (first | cases eo35 | (injection eo35 with ea_ en_ ec_; (first | subst ea_ | (injection ea_ with ea_; subst ea_)); subst ec_; clear en_))
                            have GB35 := Aside0.mk gb35
                            have GG35 := Aside0.mk HG35
                            clear gb35 gl35 HG35
                            (first | simp only [add_plain] at hx134_0 | skip)
                            obtain ⟨hx35_0, hf35_0⟩ := Kd.R_celln 0 HO_125000.out ((ji31) : Int) p35 q35
                            replace p35 := eq_true p35
                            replace q35 := eq_true q35
                            have HP39 := Kd.R_putn HO_125000.out ((ji31) : Int) ji34
                            rw [← Ny135.out] at HP39
                            have HQ39 := Aside0.mk HP39
                            clear HP39
                            refine start_ (n := 14) (S := fun w' => w'.cell? ⟨gb124, 0, none⟩ = some (.slice (some ⟨go35, 0, none⟩) x125000_2.length co38) ∧ w'.cell? ⟨go35, ((ji31)).toNat, none⟩ = some (.int .i64 (rd x125000_2 (ji31)))) (ds := [13]) #[false, false, false, false, false, false, false, false, false, false, false, false, false, false] (by kernel_rfl) rfl rfl ⟨(blk_cell BK124.out 0).trans rfl, hx134_0⟩ (fun hHeld => ?_); refine with_tabW impl_SketchOf.tab15 impl_SketchOf.bits15 (fun HT_ HW_ => ?_)
                            generalize w36.drew = w37 at HO_125000 BK119 BK124 HR129 HB GG35 HQ39 hf35_0 hx134_0 hx35_0 hHeld ⊢
                            refine pure_ (i := 0) (N := some 47) (v := ?_) (a' := ?_) #[true, false, false, false, false, false, false, false, false, false, false, false, false, false] rfl rfl (any_of HT_.out (by kernel_rfl)) (fun _ _ _ h => h) (Or.inl ⟨by rfl, ?_⟩) ?_ ?_
                            rotate_left
                            · intro w'
                              go_simp
                              with_reducible rfl
                            rotate_left
                            · simp only [Act.put, List.setIfInBounds_toArray, List.set_cons_zero, List.set_cons_succ, i64_w, i32_w]
                              rfl
                            refine pure_ (i := 2) (N := some 49) (v := ?_) (a' := ?_) #[true, false, true, false, false, false, false, false, false, false, false, false, false, false] rfl rfl (any_of HT_.out (by kernel_rfl)) (fun _ _ _ h => h) (Or.inl ⟨by rfl, ?_⟩) ?_ ?_
                            rotate_left
                            · intro w'
                              go_simp
                              with_reducible rfl
                            rotate_left
                            · simp only [Act.put, List.setIfInBounds_toArray, List.set_cons_zero, List.set_cons_succ, i64_w, i32_w]
                              rfl
                            refine pure_ (i := 3) (N := some 50) (v := ?_) (a' := ?_) #[true, false, true, true, false, false, false, false, false, false, false, false, false, false] rfl rfl (any_of HT_.out (by kernel_rfl)) (fun _ _ _ h => h) (Or.inl ⟨by rfl, ?_⟩) ?_ ?_
                            rotate_left
                            · intro w'
                              go_simp
                              with_reducible rfl
                            rotate_left
                            · simp only [Act.put, List.setIfInBounds_toArray, List.set_cons_zero, List.set_cons_succ, i64_w, i32_w]
                              rfl
                            refine pure_ (i := 4) (N := some 51) (v := ?_) (a' := ?_) #[true, false, true, true, true, false, false, false, false, false, false, false, false, false] rfl rfl (any_of HT_.out (by kernel_rfl)) (fun _ _ _ h => h) (Or.inl ⟨by rfl, ?_⟩) ?_ ?_
                            rotate_left
                            · intro w'
                              go_simp
                              with_reducible rfl
                            rotate_left
                            · simp only [Act.put, List.setIfInBounds_toArray, List.set_cons_zero, List.set_cons_succ, i64_w, i32_w]
                              rfl
                            refine pure_ (i := 6) (N := some 53) (v := ?_) (a' := ?_) #[true, false, true, true, true, false, true, false, false, false, false, false, false, false] rfl rfl (any_of HT_.out (by kernel_rfl)) (fun _ _ _ h => h) (Or.inl ⟨by rfl, ?_⟩) ?_ ?_
                            rotate_left
                            · intro w'
                              go_simp
                              with_reducible rfl
                            rotate_left
                            · simp only [Act.put, List.setIfInBounds_toArray, List.set_cons_zero, List.set_cons_succ, i64_w, i32_w]
                              rfl
                            refine pure_ (i := 7) (N := some 54) (v := ?_) (a' := ?_) #[true, false, true, true, true, false, true, true, false, false, false, false, false, false] rfl rfl (any_of HT_.out (by kernel_rfl)) (fun _ _ _ h => h) (Or.inl ⟨by rfl, ?_⟩) ?_ ?_
                            rotate_left
                            · intro w'
                              go_simp
                              with_reducible rfl
                            rotate_left
                            · simp only [Act.put, List.setIfInBounds_toArray, List.set_cons_zero, List.set_cons_succ, i64_w, i32_w]
                              rfl
                            refine pure_ (i := 10) (N := some 57) (v := ?_) (a' := ?_) #[true, false, true, true, true, false, true, true, false, false, true, false, false, false] rfl rfl (any_of HT_.out (by kernel_rfl)) (fun _ _ _ h => h) (Or.inl ⟨by rfl, ?_⟩) ?_ ?_
                            rotate_left
                            · intro w'
                              go_simp
                              with_reducible rfl
                            rotate_left
                            · simp only [Act.put, List.setIfInBounds_toArray, List.set_cons_zero, List.set_cons_succ, i64_w, i32_w]
                              rfl
                            refine take_ (i := 1) (N := some 48) (v := ?_) (a' := ?_) #[true, true, true, true, true, false, true, true, false, false, true, false, false, false] rfl rfl (take_ofW HT_.out HW_.out (by kernel_rfl)) (fun _ _ _ h => h) (Or.inl ⟨by rfl, ?_⟩) hHeld ?_ ?_
                            rotate_left
                            · rintro w' ⟨s0, s1⟩
                              go_simp
                              with_reducible rfl
                            rotate_left
                            · simp only [Act.put, List.setIfInBounds_toArray, List.set_cons_zero, List.set_cons_succ, i64_w, i32_w]
                              rfl
                            refine take_ (i := 5) (N := some 52) (v := ?_) (a' := ?_) #[true, true, true, true, true, true, true, true, false, false, true, false, false, false] rfl rfl (take_ofW HT_.out HW_.out (by kernel_rfl)) (fun _ _ _ h => h) (Or.inl ⟨by rfl, ?_⟩) hHeld ?_ ?_
                            rotate_left
                            · rintro w' ⟨s0, s1⟩
                              go_simp
                              with_reducible rfl
                            rotate_left
                            · simp only [Act.put, List.setIfInBounds_toArray, List.set_cons_zero, List.set_cons_succ, i64_w, i32_w]
                              rfl
                            refine pure_ (i := 8) (N := some 55) (v := ?_) (a' := ?_) #[true, true, true, true, true, true, true, true, true, false, true, false, false, false] rfl rfl (any_of HT_.out (by kernel_rfl)) (fun _ _ _ h => h) (Or.inl ⟨by rfl, ?_⟩) ?_ ?_
                            rotate_left
                            · intro w'
                              go_simp
                              with_reducible rfl
                            rotate_left
                            · simp only [Act.put, List.setIfInBounds_toArray, List.set_cons_zero, List.set_cons_succ, i64_w, i32_w]
                              rfl
                            refine take_ (i := 9) (N := some 56) (v := ?_) (a' := ?_) #[true, true, true, true, true, true, true, true, true, true, true, false, false, false] rfl rfl (take_ofW HT_.out HW_.out (by kernel_rfl)) (fun _ _ _ h => h) (Or.inl ⟨by rfl, ?_⟩) hHeld ?_ ?_
                            rotate_left
                            · rintro w' ⟨s0, s1⟩
                              go_simp
                              with_reducible rfl
                            rotate_left
                            · simp only [Act.put, List.setIfInBounds_toArray, List.set_cons_zero, List.set_cons_succ, i64_w, i32_w]
                              rfl
                            refine pure_ (i := 11) (N := some 58) (v := ?_) (a' := ?_) #[true, true, true, true, true, true, true, true, true, true, true, true, false, false] rfl rfl (any_of HT_.out (by kernel_rfl)) (fun _ _ _ h => h) (Or.inl ⟨by rfl, ?_⟩) ?_ ?_
                            rotate_left
                            · intro w'
                              go_simp
                              with_reducible rfl
                            rotate_left
                            · simp only [Act.put, List.setIfInBounds_toArray, List.set_cons_zero, List.set_cons_succ, i64_w, i32_w]
                              rfl
                            refine pure_ (i := 12) (N := some 59) (v := ?_) (a' := ?_) #[true, true, true, true, true, true, true, true, true, true, true, true, true, false] rfl rfl (any_of HT_.out (by kernel_rfl)) (fun _ _ _ h => h) (Or.inl ⟨by rfl, ?_⟩) ?_ ?_
                            rotate_left
                            · intro w'
                              go_simp
                              with_reducible rfl
                            rotate_left
                            · simp only [Act.put, List.setIfInBounds_toArray, List.set_cons_zero, List.set_cons_succ, i64_w, i32_w]
                              rfl
                            refine last_ (i := 13) (N := none) #[true, true, true, true, true, true, true, true, true, true, true, true, true, true] rfl rfl (one_of HT_.out (by kernel_rfl)) (by decide) (fun K hK => ?_)
                            refine skip_ (w1 := ?_) (by rfl) rfl ?_ ?_
                            rotate_left
                            · go_simp
                              rfl
                            refine hK.out _ _ ?_
                            clear hK K
                            refine done_ (done_of HT_.out (by kernel_rfl)) ?_
                            try go_wp2
                            go_roundg k2
                            case measure => have := HJ1.out; have := HK2.out; omega
                            case rel => exact ⟨(wrap64 (x22_2 + 1)), (y135), (.slice (some ⟨go35, 0, none⟩) x125000_2.length co38), (by first | rfl | (simp; done) | (simp [*]; done)), H', ⟨by have := HJ1.out; have := HK2.out; omega⟩, ⟨zr HQ39⟩, ⟨by (with_reducible repeat (first | refine blk_drewN ?_ _ | refine blk_drew ?_ | refine blk_alloc ?_ _)); refine blk_far ?_ (by have h_ := Kd.R_ne HO_125000.out BK119.out (by decide); intro e_; exact h_ (by rw [e_]; rfl)) _; (with_reducible repeat (first | refine blk_drewN ?_ _ | refine blk_drew ?_ | refine blk_alloc ?_ _)); exact BK119.out⟩, ⟨by (with_reducible repeat (first | refine blk_drewN ?_ _ | refine blk_drew ?_ | refine blk_alloc ?_ _)); refine blk_far ?_ (by have h_ := Kd.R_ne HO_125000.out BK124.out (by decide); intro e_; exact h_ (by rw [e_]; rfl)) _; (with_reducible repeat (first | refine blk_drewN ?_ _ | refine blk_drew ?_ | refine blk_alloc ?_ _)); exact BK124.out⟩, ⟨zg HB⟩⟩
                          · rw [if_neg c33] at H
                            exact absurd H (by simp)
                        · rw [if_neg c32] at H
                          exact absurd H (by simp)
                    · rw [if_neg c18] at H
                      exact absurd H (by simp)
                  · rw [if_neg c17] at H
                    exact absurd H (by simp)
                · rw [if_neg c16] at H
                  exact absurd H (by simp)
              · rw [if_neg c15] at H
                have c15b0 : decide (x22_2 < (l0.length : Int)) = false := decide_eq_false c15
                clear c15
                simp only [Option.some.injEq, Prod.mk.injEq] at H
                obtain ⟨rfl, rfl⟩ := H
                have hnb40 := NB124_119.out
                have hnc40 := NB119_124.out
                have hcz41_0 : wr.cell? ⟨gb124, 0, none⟩ = some (u125000) := (blk_cell BK124.out 0).trans rfl
                have hfz41_0 := blk_frozen BK124.out 0
                obtain ⟨Ao42, co42, eo42⟩ := Kd.R_slice HO_125000.out
                subst eo42
                have hcz43_0 : wr.cell? ⟨gb119, 0, none⟩ = some (.slice none 0 0) := (blk_cell BK119.out 0).trans rfl
                have hfz43_0 := blk_frozen BK119.out 0
                go_wp2
                refine bodyPost_ret (results_ct rfl _ _ gb119 26 #[.slice Ao42 x125000_2.length co42] (0, 0) _ rfl (by (with_reducible repeat (first | refine blk_drewN ?_ _ | refine blk_drew ?_ | refine blk_alloc ?_ _)); refine blk_put (cs := #[.slice none 0 0]) ?_ 0 _ rfl; (with_reducible repeat (first | refine blk_drewN ?_ _ | refine blk_drew ?_ | refine blk_alloc ?_ _)); exact BK119.out) Tryd.underlying26 rfl (by kernel_rfl)) rfl ?_
                exact ⟨_, zre, by (with_reducible repeat (first | apply Kd.R_alloc | apply Kd.R_drewN | apply Kd.R_drew)); exact Kd.R_mono (Kd.R_far (p := ⟨gb119, 0, none⟩) (Kd.R_types HO_125000.out BK119.out (by decide)) (fun _ hk => hk.2) (.slice Ao42 x125000_2.length co42)) (fun _ hk => trivial), zg HB⟩
        · rw [if_neg c8] at H
          exact absurd H (by simp)

/-- A state of type 60 at block g of W; what its slices lead to came in by w0. -/
def IsS60 (w0 W : World) (g : Nat) (f0 : List Int) (f1 : Int) (f2 : Int) : Prop := ∃ A0 c0, W.heap[g]? = some (.cells #[.slice A0 f0.length c0, .int .i64 f1, .int .i64 f2] 60 (0, 0)) ∧ w0.heap.size ≤ g ∧ Kd.C (Kd.int .u8) w0 A0 f0.length f0
theorem IsS60.grown {w0 W : World} {g : Nat} {f0 : List Int} {f1 : Int} {f2 : Int} {W1 : World} {row : Option Nat} (h : IsS60 w0 W g f0 f1 f2) (hw : W.grownBy W1 row) (hne : some g ≠ row) : IsS60 w0 W1 g f0 f1 f2 := by
  obtain ⟨A0, c0, hb, hg, hr0⟩ := h
  exact ⟨A0, c0, blk_grown hb hw hne, hg, hr0⟩
theorem IsS60.own_neN {w0 W : World} {g : Nat} {f0 : List Int} {f1 : Int} {f2 : Int} {α : Type} {d : Kd α} {e : Nat} {base : Nat} {ok : Nat → Prop} {v : Value} {xs : List α} (h : IsS60 w0 W g f0 f1 f2) (ho : Kd.N d e W base ok v xs) (ht : e ≠ 60) : some g ≠ v.ownBlock := by
  obtain ⟨A0, c0, hb, hg, hr0⟩ := h
  exact Kd.N_ne ho hb ht
theorem IsS60.fresh {w0 W : World} {g : Nat} {f0 : List Int} {f1 : Int} {f2 : Int} (h : IsS60 w0 W g f0 f1 f2) : ∀ k, W.heap.size ≤ k → k ≠ g := by
  obtain ⟨A0, c0, hb, hg, hr0⟩ := h
  exact Kd.freshB hb
theorem IsS60.kept {w0 W : World} {g : Nat} {f0 : List Int} {f1 : Int} {f2 : Int} {W1 : World} {S : Nat → Prop} (h : IsS60 w0 W g f0 f1 f2) (hk : Kept W W1 S) (hne : ¬ S g) : IsS60 w0 W1 g f0 f1 f2 := by
  obtain ⟨A0, c0, hb, hg, hr0⟩ := h
  exact ⟨A0, c0, blk_kept hb hk hne, hg, hr0⟩
theorem IsS60.below {w0 W : World} {g : Nat} {f0 : List Int} {f1 : Int} {f2 : Int} {W1 : World} (h : IsS60 w0 W g f0 f1 f2) (hw : Below W.heap.size W W1) : IsS60 w0 W1 g f0 f1 f2 := h.grown (grown_of_below hw none) (by simp)
theorem IsS60.alloc {w0 W : World} {g : Nat} {f0 : List Int} {f1 : Int} {f2 : Int} (h : IsS60 w0 W g f0 f1 f2) (o : Obj) : IsS60 w0 (W.alloc o) g f0 f1 f2 := h.below (below_alloc (Below.refl _ _) o)
theorem IsS60.drewN {w0 W : World} {g : Nat} {f0 : List Int} {f1 : Int} {f2 : Int} (h : IsS60 w0 W g f0 f1 f2) (m : Nat) : IsS60 w0 (W.drewN m) g f0 f1 f2 := h
theorem IsS60.drew {w0 W : World} {g : Nat} {f0 : List Int} {f1 : Int} {f2 : Int} (h : IsS60 w0 W g f0 f1 f2) : IsS60 w0 W.drew g f0 f1 f2 := h
theorem IsS60.at_ {w0 W : World} {g : Nat} {f0 : List Int} {f1 : Int} {f2 : Int} {w' : World} {m : Nat} (hq : W.drewN m = w') (h : IsS60 w0 W g f0 f1 f2) : IsS60 w0 w' g f0 f1 f2 := by subst hq; exact IsS60.drewN h m
theorem IsS60.apart {w0 W : World} {g : Nat} {f0 : List Int} {f1 : Int} {f2 : Int} {α : Type} {d : Kd α} {e : Nat} {base : Nat} {ok : Nat → Prop} {v : Value} {xs : List α} (h : IsS60 w0 W g f0 f1 f2) (ho : d.R e W base ok v xs) (ht : ∀ q, q ∈ e :: d.E → q ≠ 60) : d.R e W base (fun k => ok k ∧ k ≠ g) v xs := by
  obtain ⟨A0, c0, hb, hg, hr0⟩ := h
  exact Kd.R_types ho hb ht
theorem IsS60.own_ne {w0 W : World} {g : Nat} {f0 : List Int} {f1 : Int} {f2 : Int} {α : Type} {d : Kd α} {e : Nat} {base : Nat} {ok : Nat → Prop} {v : Value} {xs : List α} (h : IsS60 w0 W g f0 f1 f2) (ho : d.R e W base ok v xs) (ht : e ≠ 60) : some g ≠ v.ownBlock := by
  obtain ⟨A0, c0, hb, hg, hr0⟩ := h
  exact Kd.R_ne ho hb ht
theorem IsS60.apartQ {w0 W : World} {g : Nat} {f0 : List Int} {f1 : Int} {f2 : Int} {α : Type} {d : Kd α} {e : Nat} {base : Nat} {ok : Nat → Prop} {v : Value} {xs : List α} (h : IsS60 w0 W g f0 f1 f2) (ho : d.Q e W base ok v xs) (ht : ∀ q, q ∈ e :: d.E → q ≠ 60) : d.Q e W base (fun k => ok k ∧ k ≠ g) v xs := by
  obtain ⟨A0, c0, hb, hg, hr0⟩ := h
  exact Kd.Q_types ho hb ht
theorem IsS60.own_neQ {w0 W : World} {g : Nat} {f0 : List Int} {f1 : Int} {f2 : Int} {α : Type} {d : Kd α} {e : Nat} {base : Nat} {ok : Nat → Prop} {v : Value} {xs : List α} (h : IsS60 w0 W g f0 f1 f2) (ho : d.Q e W base ok v xs) (ht : e ≠ 60) : some g ≠ v.ownBlock := by
  obtain ⟨A0, c0, hb, hg, hr0⟩ := h
  exact Kd.Q_ne ho hb ht
theorem IsS60.apartS {w0 W : World} {g : Nat} {f0 : List Int} {f1 : Int} {f2 : Int} {α : Type} {d : Kd α} {e : Nat} {base : Nat} {ok : Nat → Prop} {v : Value} {xs : List α} (h : IsS60 w0 W g f0 f1 f2) (ho : d.S e W base ok v xs) (ht : ∀ q, q ∈ e :: d.E → q ≠ 60) : d.S e W base (fun k => ok k ∧ k ≠ g) v xs := by
  obtain ⟨A0, c0, hb, hg, hr0⟩ := h
  exact Kd.S_types ho hb ht
theorem IsS60.own_neS {w0 W : World} {g : Nat} {f0 : List Int} {f1 : Int} {f2 : Int} {α : Type} {d : Kd α} {e : Nat} {base : Nat} {ok : Nat → Prop} {v : Value} {xs : List α} (h : IsS60 w0 W g f0 f1 f2) (ho : d.S e W base ok v xs) (ht : e ≠ 60) : some g ≠ v.ownBlock := by
  obtain ⟨A0, c0, hb, hg, hr0⟩ := h
  exact Kd.S_ne ho hb ht
theorem IsS60.lt {w0 W : World} {g : Nat} {f0 : List Int} {f1 : Int} {f2 : Int} (h : IsS60 w0 W g f0 f1 f2) : g < W.heap.size := by
  obtain ⟨A0, c0, hb, hg, hr0⟩ := h
  exact blk_lt hb
theorem IsS60.ge {w0 W : World} {g : Nat} {f0 : List Int} {f1 : Int} {f2 : Int} (h : IsS60 w0 W g f0 f1 f2) : w0.heap.size ≤ g := by
  obtain ⟨A0, c0, hb, hg, hr0⟩ := h
  exact hg
theorem IsS60.ne_blk {w0 W : World} {g : Nat} {f0 : List Int} {f1 : Int} {f2 : Int} {a : Nat} {cs : Array Value} {t : TypeId} {fr : Nat × Nat} (h : IsS60 w0 W g f0 f1 f2) (hb2 : W.heap[a]? = some (.cells cs t fr)) (ht : t ≠ 60) : g ≠ a := by
  obtain ⟨A0, c0, hb, hg, hr0⟩ := h
  rintro rfl
  rw [hb] at hb2
  injection hb2 with hb2
  injection hb2 with _ ht2
  exact ht ht2.symm
theorem IsS60.far {w0 W : World} {g : Nat} {f0 : List Int} {f1 : Int} {f2 : Int} {p : Addr} (h : IsS60 w0 W g f0 f1 f2) (hne : g ≠ p.block) (u : Value) : IsS60 w0 (W.setCell p u) g f0 f1 f2 := by
  obtain ⟨A0, c0, hb, hg, hr0⟩ := h
  exact ⟨A0, c0, blk_far hb hne u, hg, hr0⟩
theorem cellS60_0 {W : World} {g : Nat} {A0 : Option Addr} {c0 : Nat} {f0 : List Int} {f1 : Int} {f2 : Int} (h : W.heap[g]? = some (.cells #[.slice A0 f0.length c0, .int .i64 f1, .int .i64 f2] 60 (0, 0))) : W.cell? ⟨g, 0, none⟩ = some (.slice A0 f0.length c0) := (blk_cell h 0).trans rfl
theorem cellS60_1 {W : World} {g : Nat} {A0 : Option Addr} {c0 : Nat} {f0 : List Int} {f1 : Int} {f2 : Int} (h : W.heap[g]? = some (.cells #[.slice A0 f0.length c0, .int .i64 f1, .int .i64 f2] 60 (0, 0))) : W.cell? ⟨g, 1, none⟩ = some (.int .i64 f1) := (blk_cell h 1).trans rfl
theorem IsS60.set_1 {w0 W : World} {g : Nat} {f0 : List Int} {f1 : Int} {f2 : Int} (h : IsS60 w0 W g f0 f1 f2) (x : Int) : IsS60 w0 (W.setCell ⟨g, 1, none⟩ (.int .i64 x)) g f0 x f2 := by
  obtain ⟨A0, c0, hb, hg, hr0⟩ := h
  exact ⟨A0, c0, by simpa using blk_set hb 1 (.int .i64 x), hg, hr0⟩
theorem cellS60_2 {W : World} {g : Nat} {A0 : Option Addr} {c0 : Nat} {f0 : List Int} {f1 : Int} {f2 : Int} (h : W.heap[g]? = some (.cells #[.slice A0 f0.length c0, .int .i64 f1, .int .i64 f2] 60 (0, 0))) : W.cell? ⟨g, 2, none⟩ = some (.int .i64 f2) := (blk_cell h 2).trans rfl
theorem IsS60.set_2 {w0 W : World} {g : Nat} {f0 : List Int} {f1 : Int} {f2 : Int} (h : IsS60 w0 W g f0 f1 f2) (x : Int) : IsS60 w0 (W.setCell ⟨g, 2, none⟩ (.int .i64 x)) g f0 f1 x := by
  obtain ⟨A0, c0, hb, hg, hr0⟩ := h
  exact ⟨A0, c0, by simpa using blk_set hb 2 (.int .i64 x), hg, hr0⟩
theorem IsS60.new (w0 W : World) (A0 : Option Addr) (c0 : Nat) (f0 : List Int) (f1 : Int) (f2 : Int) (hB : Below w0.heap.size w0 W) (hr0 : Kd.C (Kd.int .u8) w0 A0 f0.length f0) : IsS60 w0 (W.alloc (.cells #[.slice A0 f0.length c0, .int .i64 f1, .int .i64 f2] 60)) W.heap.size f0 f1 f2 := ⟨A0, c0, by simpa using heap_alloc_new W _, hB.size, hr0⟩

/-! ### spec_l01Source: function 29 -/
def spec_l01Source.f (l0 : List Int) : Option (List Int × Int × Int) := some (l0, 0, (l0.length : Int) % 1000)
set_option maxHeartbeats 8000000 in
set_option maxRecDepth 100000 in
theorem spec_l01Source.calls (A0 : Option Addr) (c0 : Nat) (l0 : List Int) (r1 : List Int) (r2 : Int) (r3 : Int) (w0 w : World) (hB : Below w0.heap.size w0 w) (hr0 : Kd.C (Kd.int .u8) w0 A0 l0.length l0) (hc0 : l0.length ≤ c0) (h : spec_l01Source.f l0 = some (r1, r2, r3)) :
    Calls Tryd.prog 29 #[.slice A0 l0.length c0] w fun e w' => ∃ g_ : Nat, e = .returned (.pointer (some ⟨g_, 0, none⟩)) ∧ IsS60 w0 w' g_ r1 r2 r3 ∧ Below w0.heap.size w0 w' ∧ Below w.heap.size w w' := by
  have hu60 := Tryd.underlying60
  have HR0 := Aside0.mk hr0
  have HC0 := Aside0.mk hc0
  clear hr0 hc0
  have HBW := Aside0.mk (Below.refl w.heap.size w)
  have HW0 := Aside0.mk hB.size
  have HB := Aside0.mk hB
  clear hB
  have H : (some (l0, 0, (l0.length : Int) % 1000)) = some (r1, r2, r3) := h
  clear h
  simp only [Option.some.injEq, Prod.mk.injEq] at H
  obtain ⟨rfl, rfl, rfl⟩ := H
  go_enter Tryd.func29, Tryd.ntmps29
  go_wp2_with (first | ((with_reducible refine gate_dst (N := 8) rfl ?_); refine box_event ?hg (N := 8) ?hd (cs := #[.slice A0 l0.length c0, .int .i64 0, .int .i64 ((l0.length : Int) % 1000)]) (t := 60) ?hr ?_; (case hd => rfl); (case hg => rfl); (case hr => first | (go_simp; done) | (go_simp; rfl)); intro gb136 hg w2 hbox hb; have n0_ := Aside0.mk (below_step HBW.out hb); have n1_ := Aside0.mk (below_step (zh HB) hb); have n2_ := Aside0.mk (hbox); have n3_ := Aside0.mk ((by rw [hg]; exact (below_size (zh HBW)) : w.heap.size ≤ gb136)); have n4_ := Aside0.mk ((Nat.le_trans HW0.out (by rw [hg]; exact (below_size (zh HBW)) : w.heap.size ≤ gb136) : w0.heap.size ≤ gb136)); clear HBW; clear HB; have HBW := n0_; have HB := n1_; have BK136 := n2_; have GW136 := n3_; have GE136 := n4_; clear n0_ n1_ n2_ n3_ n4_; clear hb hbox hg))
  go_ret
  exact ⟨_, rfl, (show IsS60 w0 _ gb136 l0 0 ((l0.length : Int) % 1000) from ⟨_, _, by (with_reducible repeat (first | refine blk_drewN ?_ _ | refine blk_drew ?_ | refine blk_alloc ?_ _)); exact BK136.out, GE136.out, HR0.out⟩), zg HB, zg HBW⟩

end Go.Proofs.YtchoncnahlcfjaaDoor.XFnSketch
