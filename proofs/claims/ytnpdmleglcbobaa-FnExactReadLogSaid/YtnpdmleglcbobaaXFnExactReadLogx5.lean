-- A printed text of this session (wip/x/xprint.py).
import Derived.Test.YtnpdmleglcbobaaXFnExactReadLogx0
import Derived.Test.YtnpdmleglcbobaaXFnExactReadLogx1
import Derived.Test.YtnpdmleglcbobaaXFnExactReadLogx4
namespace Go.Proofs.Ytnpdmleglcbobaa.XFnExactReadLog
open Go.RowKit Go.Proofs.YtnpdmleglcbobaaW.PrintWords Go.Proofs.YtnpdmleglcbobaaW.PrintLast Go.Proofs.YtnpdmleglcbobaaW.PrintMore
attribute [local go_sem] max2_int min2_int max_two min_two max_three min_three max_four min_four   -- for this text's walks alone
set_option linter.unusedVariables false
set_option linter.unusedSimpArgs false
def fl5_ (n m : Nat) : Array Bool := ((List.range n).map fun i => m.testBit i).toArray

/-! ### impl_DocBytes: function 11 -/
mutual
def impl_DocBytes.j0 : Nat → Bool → ByteArray → List (S66) → Option (List Int × Int)
 | 0, _, _, _ => none
 | k + 1, x26, x172000, x172001 => if x26 = true then (some (([] : List Int), 12)) else (impl_DocBytes.l0 k x172001 (x172001.length : Int) 0 x172000 x172001)
def impl_DocBytes.l0 : Nat → List (S66) → Int → Int → ByteArray → List (S66) → Option (List Int × Int)
 | 0, _, _, _, _, _ => none
 | k + 1, x28, x29, x30, x172000, x172001 => if x30 < x29 then (if 0 ≤ x30 then (if x30 < (x28.length : Int) then (if (((rd_T66 x28 x30).f0).size : Int) > 65536 then (impl_DocBytes.j2 k x28 x29 x30 true x172000 x172001 ((rd_T66 x28 x30).f0) ((rd_T66 x28 x30).f1) ((rd_T66 x28 x30).f2)) else (if (((rd_T66 x28 x30).f1).length : Int) > 4096 then (impl_DocBytes.j2 k x28 x29 x30 true x172000 x172001 ((rd_T66 x28 x30).f0) ((rd_T66 x28 x30).f1) ((rd_T66 x28 x30).f2)) else (impl_DocBytes.j2 k x28 x29 x30 (decide ((((rd_T66 x28 x30).f2).length : Int) > 4096)) x172000 x172001 ((rd_T66 x28 x30).f0) ((rd_T66 x28 x30).f1) ((rd_T66 x28 x30).f2)))) else (none)) else (none)) else ((impl_putText.f k ([] : List Int) x172000).bind fun t177 => ((impl_putInt.f k t177 (x172001.length : Int)).bind fun t180 => (impl_DocBytes.l3 k t180 x172001 (x172001.length : Int) 0)))
def impl_DocBytes.j2 : Nat → List (S66) → Int → Int → Bool → ByteArray → List (S66) → ByteArray → List ByteArray → List Int → Option (List Int × Int)
 | 0, _, _, _, _, _, _, _, _, _ => none
 | k + 1, x28, x29, x30, x49, x172000, x172001, x174000, x174001, x174002 => if x49 = true then (some (([] : List Int), 12)) else (impl_DocBytes.l1 k x28 x29 x30 x174001 (x174001.length : Int) 0 x172000 x172001 x174000 x174001 x174002)
def impl_DocBytes.l1 : Nat → List (S66) → Int → Int → List ByteArray → Int → Int → ByteArray → List (S66) → ByteArray → List ByteArray → List Int → Option (List Int × Int)
 | 0, _, _, _, _, _, _, _, _, _, _, _ => none
 | k + 1, x28, x29, x30, x51, x52, x53, x172000, x172001, x174000, x174001, x174002 => if x53 < x52 then (if 0 ≤ x53 then (if x53 < (x51.length : Int) then (if ((rdOf ByteArray.empty x51 x53).size : Int) > 65536 then (some (([] : List Int), 12)) else (impl_DocBytes.l1 k x28 x29 x30 x51 x52 (wrap64 (x53 + 1)) x172000 x172001 x174000 x174001 x174002)) else (none)) else (none)) else (impl_DocBytes.l2 k x28 x29 x30 x174002 (x174002.length : Int) 0 x172000 x172001)
def impl_DocBytes.l2 : Nat → List (S66) → Int → Int → List Int → Int → Int → ByteArray → List (S66) → Option (List Int × Int)
 | 0, _, _, _, _, _, _, _, _ => none
 | k + 1, x28, x29, x30, x62, x63, x64, x172000, x172001 => if x64 < x63 then (if 0 ≤ x64 then (if x64 < (x62.length : Int) then ((impl_within.f (rd x62 x64) (-1000000000000) 1000000000000).bind fun t176 => (if t176 = true then (impl_DocBytes.l2 k x28 x29 x30 x62 x63 (wrap64 (x64 + 1)) x172000 x172001) else (some (([] : List Int), 12)))) else (none)) else (none)) else (impl_DocBytes.l0 k x28 x29 (wrap64 (x30 + 1)) x172000 x172001)
def impl_DocBytes.l3 : Nat → List Int → List (S66) → Int → Int → Option (List Int × Int)
 | 0, _, _, _, _ => none
 | k + 1, x10, x81, x82, x83 => if x83 < x82 then (if 0 ≤ x83 then (if x83 < (x81.length : Int) then ((impl_putText.f k x10 ((rd_T66 x81 x83).f0)).bind fun t185 => ((impl_putInt.f k t185 (((rd_T66 x81 x83).f1).length : Int)).bind fun t188 => (impl_DocBytes.l4 k t188 x81 x82 x83 ((rd_T66 x81 x83).f1) (((rd_T66 x81 x83).f1).length : Int) 0 ((rd_T66 x81 x83).f0) ((rd_T66 x81 x83).f1) ((rd_T66 x81 x83).f2)))) else (none)) else (none)) else (some (x10, 0))
def impl_DocBytes.l4 : Nat → List Int → List (S66) → Int → Int → List ByteArray → Int → Int → ByteArray → List ByteArray → List Int → Option (List Int × Int)
 | 0, _, _, _, _, _, _, _, _, _, _ => none
 | k + 1, x10, x81, x82, x83, x96, x97, x98, x185000, x185001, x185002 => if x98 < x97 then (if 0 ≤ x98 then (if x98 < (x96.length : Int) then ((impl_putText.f k x10 (rdOf ByteArray.empty x96 x98)).bind fun t192 => (impl_DocBytes.l4 k t192 x81 x82 x83 x96 x97 (wrap64 (x98 + 1)) x185000 x185001 x185002)) else (none)) else (none)) else ((impl_putInt.f k x10 (x185002.length : Int)).bind fun t195 => (impl_DocBytes.l5 k t195 x81 x82 x83 x185002 (x185002.length : Int) 0))
def impl_DocBytes.l5 : Nat → List Int → List (S66) → Int → Int → List Int → Int → Int → Option (List Int × Int)
 | 0, _, _, _, _, _, _, _ => none
 | k + 1, x10, x81, x82, x83, x112, x113, x114 => if x114 < x113 then (if 0 ≤ x114 then (if x114 < (x112.length : Int) then (if (rd x112 x114) < 0 then ((impl_putInt.f k x10 (wrap64 ((wrap64 ((-2) * (rd x112 x114))) - 1))).bind fun t199 => (impl_DocBytes.l5 k t199 x81 x82 x83 x112 x113 (wrap64 (x114 + 1)))) else ((impl_putInt.f k x10 (wrap64 (2 * (rd x112 x114)))).bind fun t202 => (impl_DocBytes.l5 k t202 x81 x82 x83 x112 x113 (wrap64 (x114 + 1))))) else (none)) else (none)) else (impl_DocBytes.l3 k x10 x81 x82 (wrap64 (x83 + 1)))
end
def impl_DocBytes.f (k : Nat) (a0_0 : ByteArray) (l0_1 : List (S66)) : Option (List Int × Int) := if (a0_0.size : Int) > 65536 then (impl_DocBytes.j0 k true a0_0 l0_1) else (impl_DocBytes.j0 k (decide ((l0_1.length : Int) > 4096)) a0_0 l0_1)
theorem impl_DocBytes.mono_l : ∀ k, (∀ y0 y1 y2, LeO (impl_DocBytes.j0 k y0 y1 y2) (impl_DocBytes.j0 (k + 1) y0 y1 y2)) ∧ (∀ y0 y1 y2 y3 y4, LeO (impl_DocBytes.l0 k y0 y1 y2 y3 y4) (impl_DocBytes.l0 (k + 1) y0 y1 y2 y3 y4)) ∧ (∀ y0 y1 y2 y3 y4 y5 y6 y7 y8, LeO (impl_DocBytes.j2 k y0 y1 y2 y3 y4 y5 y6 y7 y8) (impl_DocBytes.j2 (k + 1) y0 y1 y2 y3 y4 y5 y6 y7 y8)) ∧ (∀ y0 y1 y2 y3 y4 y5 y6 y7 y8 y9 y10, LeO (impl_DocBytes.l1 k y0 y1 y2 y3 y4 y5 y6 y7 y8 y9 y10) (impl_DocBytes.l1 (k + 1) y0 y1 y2 y3 y4 y5 y6 y7 y8 y9 y10)) ∧ (∀ y0 y1 y2 y3 y4 y5 y6 y7, LeO (impl_DocBytes.l2 k y0 y1 y2 y3 y4 y5 y6 y7) (impl_DocBytes.l2 (k + 1) y0 y1 y2 y3 y4 y5 y6 y7)) ∧ (∀ y0 y1 y2 y3, LeO (impl_DocBytes.l3 k y0 y1 y2 y3) (impl_DocBytes.l3 (k + 1) y0 y1 y2 y3)) ∧ (∀ y0 y1 y2 y3 y4 y5 y6 y7 y8 y9, LeO (impl_DocBytes.l4 k y0 y1 y2 y3 y4 y5 y6 y7 y8 y9) (impl_DocBytes.l4 (k + 1) y0 y1 y2 y3 y4 y5 y6 y7 y8 y9)) ∧ (∀ y0 y1 y2 y3 y4 y5 y6, LeO (impl_DocBytes.l5 k y0 y1 y2 y3 y4 y5 y6) (impl_DocBytes.l5 (k + 1) y0 y1 y2 y3 y4 y5 y6))
 | 0 => ⟨fun _ _ _ r h => by simp [impl_DocBytes.j0] at h, fun _ _ _ _ _ r h => by simp [impl_DocBytes.l0] at h, fun _ _ _ _ _ _ _ _ _ r h => by simp [impl_DocBytes.j2] at h, fun _ _ _ _ _ _ _ _ _ _ _ r h => by simp [impl_DocBytes.l1] at h, fun _ _ _ _ _ _ _ _ r h => by simp [impl_DocBytes.l2] at h, fun _ _ _ _ r h => by simp [impl_DocBytes.l3] at h, fun _ _ _ _ _ _ _ _ _ _ r h => by simp [impl_DocBytes.l4] at h, fun _ _ _ _ _ _ _ r h => by simp [impl_DocBytes.l5] at h⟩
 | k + 1 => by
  obtain ⟨ih0, ih1, ih2, ih3, ih4, ih5, ih6, ih7⟩ := impl_DocBytes.mono_l k
  refine ⟨?_, ?_, ?_, ?_, ?_, ?_, ?_, ?_⟩
  all_goals intros
  all_goals first | unfold impl_DocBytes.j0 | unfold impl_DocBytes.l0 | unfold impl_DocBytes.j2 | unfold impl_DocBytes.l1 | unfold impl_DocBytes.l2 | unfold impl_DocBytes.l3 | unfold impl_DocBytes.l4 | unfold impl_DocBytes.l5
  all_goals
   repeat' first
   | (with_reducible exact ih0 _ _ _)
   | (with_reducible exact ih1 _ _ _ _ _)
   | (with_reducible exact ih2 _ _ _ _ _ _ _ _ _)
   | (with_reducible exact ih3 _ _ _ _ _ _ _ _ _ _ _)
   | (with_reducible exact ih4 _ _ _ _ _ _ _ _)
   | (with_reducible exact ih5 _ _ _ _)
   | (with_reducible exact ih6 _ _ _ _ _ _ _ _ _ _)
   | (with_reducible exact ih7 _ _ _ _ _ _ _)
   | (with_reducible exact impl_putInt.mono _ _ _)
   | (with_reducible exact impl_putText.mono _ _ _)
   | (with_reducible exact LeO.refl _)
   | (with_reducible exact LeO.none _)
   | (with_reducible refine LeO.ite ?_ ?_)
   | (with_reducible refine LeO.bind ?_ (fun _ => ?_))
theorem impl_DocBytes.mono : ∀ a0 a1 k, LeO (impl_DocBytes.f k a0 a1) (impl_DocBytes.f (k + 1) a0 a1) := by
 intro a0 a1 k
 obtain ⟨ih0, ih1, ih2, ih3, ih4, ih5, ih6, ih7⟩ := impl_DocBytes.mono_l k
 unfold impl_DocBytes.f
 repeat' first
  | (with_reducible exact ih0 _ _ _)
  | (with_reducible exact ih1 _ _ _ _ _)
  | (with_reducible exact ih2 _ _ _ _ _ _ _ _ _)
  | (with_reducible exact ih3 _ _ _ _ _ _ _ _ _ _ _)
  | (with_reducible exact ih4 _ _ _ _ _ _ _ _)
  | (with_reducible exact ih5 _ _ _ _)
  | (with_reducible exact ih6 _ _ _ _ _ _ _ _ _ _)
  | (with_reducible exact ih7 _ _ _ _ _ _ _)
  | (with_reducible exact impl_putInt.mono _ _ _)
  | (with_reducible exact impl_putText.mono _ _ _)
  | (with_reducible exact LeO.refl _)
  | (with_reducible exact LeO.none _)
  | (with_reducible refine LeO.ite ?_ ?_)
  | (with_reducible refine LeO.bind ?_ (fun _ => ?_))
def impl_DocBytes.T21 : Bool × List (List Nat × List Nat) := (true, [([], []), ([0], [0]), ([1], [1]), ([], []), ([3], [3]), ([4], [4]), ([2, 5, 2], [2, 5]), ([6, 6, 0, 1, 2, 3, 4, 5, 6], [6])])
def impl_DocBytes.B21 : List Nat := [0, 1, 3, 0, 8, 24, 63, 127]
theorem impl_DocBytes.tab21 : rtab .any (opsOf Try.f11 21) = impl_DocBytes.T21 := by kernel_rfl
theorem impl_DocBytes.bits21 : waitsOk impl_DocBytes.T21.2 impl_DocBytes.B21 = true := by kernel_rfl
def impl_DocBytes.T25 : Bool × List (List Nat × List Nat) := (true, [([], []), ([], []), ([1], [1]), ([0, 2], [0, 2]), ([], []), ([4], [4]), ([5], [5]), ([3, 6, 3], [3, 6]), ([7, 7, 0, 1, 2, 3, 4, 5, 6, 7], [0, 7])])
def impl_DocBytes.B25 : List Nat := [0, 0, 2, 7, 0, 16, 48, 127, 255]
theorem impl_DocBytes.tab25 : rtab .any (opsOf Try.f11 25) = impl_DocBytes.T25 := by kernel_rfl
theorem impl_DocBytes.bits25 : waitsOk impl_DocBytes.T25.2 impl_DocBytes.B25 = true := by kernel_rfl
set_option maxHeartbeats 8000000 in
set_option maxRecDepth 100000 in
theorem impl_DocBytes.calls (k : Nat) (a0_0 : ByteArray) (A0_1 : Option Addr) (c0_1 : Nat) (l0_1 : List (S66)) (r1 : List Int) (r2 : Int) (w : World) (hr0_1 : Kd.C k66 w A0_1 l0_1.length l0_1) (hc0_1 : l0_1.length ≤ c0_1) (h : impl_DocBytes.f k a0_0 l0_1 = some (r1, r2)) :
 Calls Try.prog 11 #[.agg #[.string a0_0, .slice A0_1 l0_1.length c0_1]] w fun e w' => ∃ v0_ : Value, e = .returned (.tuple #[v0_, .int .i64 r2]) ∧ Kd.R (Kd.int .u8) 5 w' w.heap.size (fun _ => True) v0_ r1 ∧ Below w.heap.size w w' := by
 have hu31 := Try.underlying31
 have hu66 := Try.underlying66
 have HR0_1 := Aside0.mk hr0_1
 have HC0_1 := Aside0.mk hc0_1
 clear hr0_1 hc0_1
 have HB := Aside0.mk (Below.refl w.heap.size w)
 have H := h
 unfold impl_DocBytes.f at H
 clear h
 have HC2 := Aside0.mk H
 clear H
 go_enter Try.func11, Try.ntmps11
 go_upto_region 1 with (first | ((with_reducible refine gate_dst (N := 1) rfl ?_); (try (refine gate_guard (by rfl) ?_; dsimp only)); refine box_event (by rfl) (N := 1) (by rfl) (cs := #[.string a0_0, .slice A0_1 l0_1.length c0_1]) (t := 31) zgs ?_; intro gb171 hg w3 hbox hb; have BK171 := Aside0.mk (hbox); have GW171 := zge hg (below_size (zh HB)); have GE171 := zge hg (below_size (zh HB)); replace HB := Aside0.mk (below_step (zh HB) hb); clear hb hbox hg))
 (try simp only [Act.put, List.setIfInBounds_toArray, List.set_cons_zero, List.set_cons_succ])
 go_cut [26] (fun v26 wc => ∃ (kq : Nat) (x26_1 : Bool), v26 = .bool x26_1 ∧ Aside0 (impl_DocBytes.j0 kq x26_1 a0_0 l0_1 = some (r1, r2)) ∧ Aside0 (kq ≤ k) ∧ Aside0 (wc.heap[gb171]? = some (.cells #[.string a0_0, (.slice A0_1 l0_1.length c0_1)] 31 (0, 0))) ∧ Aside0 (Below w.heap.size w wc))
 case first =>
  have H := HC2.out
  clear HC2
  by_cases c4 : (a0_0.size : Int) > 65536
  ·rw [if_pos c4] at H
   have c4b0 : decide (65536 < (a0_0.size : Int)) = true := decide_eq_true c4
   have c4b1 : decide (65536 < a0_0.size) = true := decide_eq_true (by omega)
   clear c4
   (first | rw [c4b0] | (simp only [i64_w, i32_w]; rw [c4b0]) | skip)
   have H' := Aside0.mk H
   clear H
   obtain ⟨⟨hcz5_0, hcz5_1⟩, hfz5_0, hfz5_1⟩ := zc2 BK171
   go_wp2
   go_meet
   case rel => exact ⟨_, (true), zrs, H', ⟨by first | omega | exact Nat.le_refl _⟩, ⟨zb BK171⟩, ⟨zg HB⟩⟩
  rw [if_neg c4] at H
  have c4b0 : decide (65536 < (a0_0.size : Int)) = false := decide_eq_false c4
  have c4b1 : decide (65536 < a0_0.size) = false := decide_eq_false (by omega)
  clear c4
  (first | rw [c4b0] | (simp only [i64_w, i32_w]; rw [c4b0]) | skip)
  have H' := Aside0.mk H
  clear H
  obtain ⟨⟨hcz6_0, hcz6_1⟩, hfz6_0, hfz6_1⟩ := zc2 BK171
  go_wp2
  go_meet
  case rel => exact ⟨_, (decide ((l0_1.length : Int) > 4096)), zrs, H', ⟨by first | omega | exact Nat.le_refl _⟩, ⟨zb BK171⟩, ⟨zg HB⟩⟩
 case rest =>
  clear HC2
  obtain ⟨kq, x26_1, rfl, HA, HJ1, BK171, HB⟩ := hcut
  cases kq with
  | zero => exact absurd HA.out (by simp [impl_DocBytes.j0])
  | succ kj1 =>
   have H := HA.out
   clear HA
   simp only [impl_DocBytes.j0] at H
   by_cases c7 : x26_1 = true
   ·subst c7
    rw [if_pos rfl] at H
    simp only [Option.some.injEq, Prod.mk.injEq] at H
    obtain ⟨rfl, rfl⟩ := H
    go_wp2
    go_ret2
    exact ⟨_, zre, by first | exact Kd.R_nil _ _ _ _ _ | exact Kd.N_nil _ _ _ _ _ | exact Kd.V_nil _ _ _ _ _ | exact Kd.Q_nil _ _ _ _ _ | exact Kd.S_nil _ _ _ _ _, zg HB⟩
   replace c7 := Bool.eq_false_iff.mpr c7
   subst c7
   rw [if_neg (show ¬ (false = true) by decide)] at H
   have H' := Aside0.mk H
   clear H
   obtain ⟨⟨hcz8_0, hcz8_1⟩, hfz8_0, hfz8_1⟩ := zc2 BK171
   go_wp2
   go_loopg [30] kj1 (fun kq v30 w' => ∃ (x30_2 : Int), v30 = .int .i64 x30_2 ∧ Aside0 (impl_DocBytes.l0 kq l0_1 (l0_1.length : Int) x30_2 a0_0 l0_1 = some (r1, r2)) ∧ Aside0 (kq ≤ kj1) ∧ Aside0 (w'.heap[gb171]? = some (.cells #[.string a0_0, (.slice A0_1 l0_1.length c0_1)] 31 (0, 0))) ∧ Aside0 (Below w.heap.size w w'))
   case atStart => exact ⟨(0), zrs, H', ⟨Nat.le_refl _⟩, ⟨zb BK171⟩, ⟨zg HB⟩⟩
   case round =>
    clear H'
    try clear c7
    try clear hcz8_0 hcz8_1
    try clear hfz8_0 hfz8_1
    obtain ⟨x30_2, rfl, HA, HK2, BK171, HB⟩ := hrel
    cases gk with
    | zero => exact absurd HA.out (by simp [impl_DocBytes.l0])
    | succ k2 =>
     have H := HA.out
     clear HA
     simp only [impl_DocBytes.l0] at H
     by_cases c9 : x30_2 < (l0_1.length : Int)
     ·rw [if_pos c9] at H
      have c9b0 : decide (x30_2 < (l0_1.length : Int)) = true := decide_eq_true c9
      clear c9
      by_cases c10 : 0 ≤ x30_2
      rotate_left
      ·rw [if_neg c10] at H
       exact absurd H (by simp)
      rw [if_pos c10] at H
      have c10b0 : decide (0 ≤ x30_2) = true := decide_eq_true c10
      clear c10
      by_cases c11 : x30_2 < (l0_1.length : Int)
      rotate_left
      ·rw [if_neg c11] at H
       exact absurd H (by simp)
      rw [if_pos c11] at H
      have c11b0 : decide (x30_2 < (l0_1.length : Int)) = true := decide_eq_true c11
      clear c11
      have HC12 := Aside0.mk H
      clear H
      have p172 : 0 ≤ (x30_2 : Int) := of_decide_eq_true zas
      have q172 : x30_2 < (l0_1.length : Int) := of_decide_eq_true zas
      obtain ⟨ad172, A172_1, c172_1, A172_2, c172_2, e172, hx172_0, hx172_1, hx172_2, hl172_1, hi172_1, hl172_2, hi172_2⟩ := at_T66 HR0_1.out x30_2 p172 q172
      cases e172
      replace hx172_0 := zx HB hx172_0
      replace hx172_1 := zx HB hx172_1
      replace hx172_2 := zx HB hx172_2
      have HR172_1 := Aside0.mk hi172_1
      have HC172_1 := Aside0.mk hl172_1
      clear hi172_1 hl172_1
      have HR172_2 := Aside0.mk hi172_2
      have HC172_2 := Aside0.mk hl172_2
      clear hi172_2 hl172_2
      replace p172 := eq_true p172
      replace q172 := eq_true q172
      go_upto_region 6 with (first | ((with_reducible refine gate_dst (N := 5) rfl ?_); (try (refine gate_guard (by rfl) ?_; dsimp only)); refine box_event (by rfl) (N := 5) (by rfl) (cs := #[.string (⟨#[]⟩ : ByteArray), .slice none 0 0, .slice none 0 0]) (t := 66) zgs ?_; intro gb173 hg w13 hbox hb; have BK173 := Aside0.mk (hbox); have GW173 := zge hg (below_size (zg HB)); have GE173 := zge hg (below_size (zg HB)); replace HB := Aside0.mk (below_step (zg HB) hb); have NB171_173 := znl hg (blk_lt (zb BK171)); have NB173_171 := zng hg (blk_lt (zb BK171)); replace BK171 := Aside0.mk (blk_below (zb BK171) hb); clear hb hbox hg; have hnb14 := NB173_171.out; have hnc14 := NB171_173.out; obtain ⟨⟨hcz15_0, hcz15_1, hcz15_2⟩, hfz15_0, hfz15_1, hfz15_2⟩ := zc3 BK173))
      (try simp only [Act.put, List.setIfInBounds_toArray, List.set_cons_zero, List.set_cons_succ])
      go_cut [49] (fun v49 wc => ∃ (kq : Nat) (x49_11 : Bool), v49 = .bool x49_11 ∧ Aside0 (impl_DocBytes.j2 kq l0_1 (l0_1.length : Int) x30_2 x49_11 a0_0 l0_1 ((rd_T66 l0_1 x30_2).f0) ((rd_T66 l0_1 x30_2).f1) ((rd_T66 l0_1 x30_2).f2) = some (r1, r2)) ∧ Aside0 (kq ≤ k2) ∧ Aside0 (wc.heap[gb171]? = some (.cells #[.string a0_0, (.slice (some ad172) l0_1.length c0_1)] 31 (0, 0))) ∧ Aside0 (wc.heap[gb173]? = some (.cells #[.string ((rd_T66 l0_1 x30_2).f0), (.slice A172_1 ((rd_T66 l0_1 x30_2).f1).length c172_1), (.slice A172_2 ((rd_T66 l0_1 x30_2).f2).length c172_2)] 66 (0, 0))) ∧ Aside0 (Below w.heap.size w wc))
      case first =>
       have H := HC12.out
       clear HC12
       by_cases c16 : (((rd_T66 l0_1 x30_2).f0).size : Int) > 65536
       ·rw [if_pos c16] at H
        have c16b0 : decide (65536 < (((rd_T66 l0_1 x30_2).f0).size : Int)) = true := decide_eq_true c16
        have c16b1 : decide (65536 < ((rd_T66 l0_1 x30_2).f0).size) = true := decide_eq_true (by omega)
        clear c16
        (first | rw [c16b0] | (simp only [i64_w, i32_w]; rw [c16b0]) | skip)
        have H' := Aside0.mk H
        clear H
        have hnb17 := NB173_171.out
        have hnc17 := NB171_173.out
        obtain ⟨⟨hcz18_0, hcz18_1, hcz18_2⟩, hfz18_0, hfz18_1, hfz18_2⟩ := zc3 BK173
        go_wp2
        go_meet
        case rel => exact ⟨_, (true), zrs, H', ⟨by have := HJ1.out; have := HK2.out; first | omega | exact Nat.le_refl _⟩, ⟨zp BK171⟩, ⟨zp BK173⟩, ⟨zg HB⟩⟩
       rw [if_neg c16] at H
       have c16b0 : decide (65536 < (((rd_T66 l0_1 x30_2).f0).size : Int)) = false := decide_eq_false c16
       have c16b1 : decide (65536 < ((rd_T66 l0_1 x30_2).f0).size) = false := decide_eq_false (by omega)
       clear c16
       (first | rw [c16b0] | (simp only [i64_w, i32_w]; rw [c16b0]) | skip)
       by_cases c19 : (((rd_T66 l0_1 x30_2).f1).length : Int) > 4096
       ·rw [if_pos c19] at H
        have c19b0 : decide (4096 < (((rd_T66 l0_1 x30_2).f1).length : Int)) = true := decide_eq_true c19
        have c19b1 : decide (4096 < ((rd_T66 l0_1 x30_2).f1).length) = true := decide_eq_true (by omega)
        clear c19
        have H' := Aside0.mk H
        clear H
        have hnb20 := NB173_171.out
        have hnc20 := NB171_173.out
        obtain ⟨⟨hcz21_0, hcz21_1, hcz21_2⟩, hfz21_0, hfz21_1, hfz21_2⟩ := zc3 BK173
        go_wp2
        go_meet
        case rel => exact ⟨_, (true), zrs, H', ⟨by have := HJ1.out; have := HK2.out; first | omega | exact Nat.le_refl _⟩, ⟨zp BK171⟩, ⟨zp BK173⟩, ⟨zg HB⟩⟩
       rw [if_neg c19] at H
       have c19b0 : decide (4096 < (((rd_T66 l0_1 x30_2).f1).length : Int)) = false := decide_eq_false c19
       have c19b1 : decide (4096 < ((rd_T66 l0_1 x30_2).f1).length) = false := decide_eq_false (by omega)
       clear c19
       have H' := Aside0.mk H
       clear H
       have hnb22 := NB173_171.out
       have hnc22 := NB171_173.out
       obtain ⟨⟨hcz23_0, hcz23_1, hcz23_2⟩, hfz23_0, hfz23_1, hfz23_2⟩ := zc3 BK173
       go_wp2
       go_meet
       case rel => exact ⟨_, (decide ((((rd_T66 l0_1 x30_2).f2).length : Int) > 4096)), zrs, H', ⟨by have := HJ1.out; have := HK2.out; first | omega | exact Nat.le_refl _⟩, ⟨zp BK171⟩, ⟨zp BK173⟩, ⟨zg HB⟩⟩
      case rest =>
       clear HC12
       try clear c7
       try clear c9
       try clear c9b0
       try clear c10
       try clear c10b0
       try clear c11
       try clear c11b0
       try clear hcz15_0 hcz15_1 hcz15_2
       try clear hcz8_0 hcz8_1
       try clear hfz15_0 hfz15_1 hfz15_2
       try clear hfz8_0 hfz8_1
       try clear hx172_0
       try clear hx172_1
       try clear hx172_2
       try clear p172
       try clear q172
       obtain ⟨kq, x49_11, rfl, HA, HJ11, BK171, BK173, HB⟩ := hcut
       cases kq with
       | zero => exact absurd HA.out (by simp [impl_DocBytes.j2])
       | succ kj11 =>
        have H := HA.out
        clear HA
        simp only [impl_DocBytes.j2] at H
        by_cases c24 : x49_11 = true
        ·subst c24
         rw [if_pos rfl] at H
         simp only [Option.some.injEq, Prod.mk.injEq] at H
         obtain ⟨rfl, rfl⟩ := H
         go_wp2
         go_ret2
         exact ⟨_, zre, by first | exact Kd.R_nil _ _ _ _ _ | exact Kd.N_nil _ _ _ _ _ | exact Kd.V_nil _ _ _ _ _ | exact Kd.Q_nil _ _ _ _ _ | exact Kd.S_nil _ _ _ _ _, zg HB⟩
        replace c24 := Bool.eq_false_iff.mpr c24
        subst c24
        rw [if_neg (show ¬ (false = true) by decide)] at H
        have H' := Aside0.mk H
        clear H
        have hnb25 := NB173_171.out
        have hnc25 := NB171_173.out
        obtain ⟨⟨hcz26_0, hcz26_1, hcz26_2⟩, hfz26_0, hfz26_1, hfz26_2⟩ := zc3 BK173
        go_wp2
        go_loopg [53] kj11 (fun kq v53 w' => ∃ (x53_4 : Int), v53 = .int .i64 x53_4 ∧ Aside0 (impl_DocBytes.l1 kq l0_1 (l0_1.length : Int) x30_2 ((rd_T66 l0_1 x30_2).f1) (((rd_T66 l0_1 x30_2).f1).length : Int) x53_4 a0_0 l0_1 ((rd_T66 l0_1 x30_2).f0) ((rd_T66 l0_1 x30_2).f1) ((rd_T66 l0_1 x30_2).f2) = some (r1, r2)) ∧ Aside0 (kq ≤ kj11) ∧ Aside0 (w'.heap[gb171]? = some (.cells #[.string a0_0, (.slice (some ad172) l0_1.length c0_1)] 31 (0, 0))) ∧ Aside0 (w'.heap[gb173]? = some (.cells #[.string ((rd_T66 l0_1 x30_2).f0), (.slice A172_1 ((rd_T66 l0_1 x30_2).f1).length c172_1), (.slice A172_2 ((rd_T66 l0_1 x30_2).f2).length c172_2)] 66 (0, 0))) ∧ Aside0 (Below w.heap.size w w'))
        case atStart => exact ⟨(0), zrs, H', ⟨Nat.le_refl _⟩, ⟨zb BK171⟩, ⟨zb BK173⟩, ⟨zg HB⟩⟩
        case round =>
         clear H'
         try clear c7
         try clear c9
         try clear c9b0
         try clear c10
         try clear c10b0
         try clear c11
         try clear c11b0
         try clear c24
         try clear hcz15_0 hcz15_1 hcz15_2
         try clear hcz26_0 hcz26_1 hcz26_2
         try clear hcz8_0 hcz8_1
         try clear hfz15_0 hfz15_1 hfz15_2
         try clear hfz26_0 hfz26_1 hfz26_2
         try clear hfz8_0 hfz8_1
         try clear hx172_0
         try clear hx172_1
         try clear hx172_2
         try clear p172
         try clear q172
         obtain ⟨x53_4, rfl, HA, HK4, BK171, BK173, HB⟩ := hrel
         cases gk with
         | zero => exact absurd HA.out (by simp [impl_DocBytes.l1])
         | succ k4 =>
          have H := HA.out
          clear HA
          simp only [impl_DocBytes.l1] at H
          by_cases c27 : x53_4 < (((rd_T66 l0_1 x30_2).f1).length : Int)
          ·rw [if_pos c27] at H
           have c27b0 : decide (x53_4 < (((rd_T66 l0_1 x30_2).f1).length : Int)) = true := decide_eq_true c27
           clear c27
           by_cases c28 : 0 ≤ x53_4
           rotate_left
           ·rw [if_neg c28] at H
            exact absurd H (by simp)
           rw [if_pos c28] at H
           have c28b0 : decide (0 ≤ x53_4) = true := decide_eq_true c28
           clear c28
           by_cases c29 : x53_4 < (((rd_T66 l0_1 x30_2).f1).length : Int)
           rotate_left
           ·rw [if_neg c29] at H
            exact absurd H (by simp)
           rw [if_pos c29] at H
           have c29b0 : decide (x53_4 < (((rd_T66 l0_1 x30_2).f1).length : Int)) = true := decide_eq_true c29
           clear c29
           by_cases c30 : ((rdOf ByteArray.empty ((rd_T66 l0_1 x30_2).f1) x53_4).size : Int) > 65536
           ·rw [if_pos c30] at H
            have c30b0 : decide (65536 < ((rdOf ByteArray.empty ((rd_T66 l0_1 x30_2).f1) x53_4).size : Int)) = true := decide_eq_true c30
            have c30b1 : decide (65536 < (rdOf ByteArray.empty ((rd_T66 l0_1 x30_2).f1) x53_4).size) = true := decide_eq_true (by omega)
            clear c30
            simp only [Option.some.injEq, Prod.mk.injEq] at H
            obtain ⟨rfl, rfl⟩ := H
            have p174 : 0 ≤ (x53_4 : Int) := of_decide_eq_true zas
            have q174 : x53_4 < (((rd_T66 l0_1 x30_2).f1).length : Int) := of_decide_eq_true zas
            obtain ⟨ad174, e174, hx174_0⟩ := Kd.at_string HR172_1.out x53_4 p174 q174
            cases e174
            replace hx174_0 := zx HB hx174_0
            replace p174 := eq_true p174
            replace q174 := eq_true q174
            go_wp2
            go_ret2
            exact ⟨_, zre, by first | exact Kd.R_nil _ _ _ _ _ | exact Kd.N_nil _ _ _ _ _ | exact Kd.V_nil _ _ _ _ _ | exact Kd.Q_nil _ _ _ _ _ | exact Kd.S_nil _ _ _ _ _, zg HB⟩
           rw [if_neg c30] at H
           have c30b0 : decide (65536 < ((rdOf ByteArray.empty ((rd_T66 l0_1 x30_2).f1) x53_4).size : Int)) = false := decide_eq_false c30
           have c30b1 : decide (65536 < (rdOf ByteArray.empty ((rd_T66 l0_1 x30_2).f1) x53_4).size) = false := decide_eq_false (by omega)
           clear c30
           have H' := Aside0.mk H
           clear H
           have p174 : 0 ≤ (x53_4 : Int) := of_decide_eq_true zas
           have q174 : x53_4 < (((rd_T66 l0_1 x30_2).f1).length : Int) := of_decide_eq_true zas
           obtain ⟨ad174, e174, hx174_0⟩ := Kd.at_string HR172_1.out x53_4 p174 q174
           cases e174
           replace hx174_0 := zx HB hx174_0
           replace p174 := eq_true p174
           replace q174 := eq_true q174
           go_wp2
           go_roundg k4
           case measure => have := HJ1.out; have := HK2.out; have := HJ11.out; have := HK4.out; omega
           case rel => exact ⟨(wrap64 (x53_4 + 1)), zrs, H', ⟨by have := HJ1.out; have := HK2.out; have := HJ11.out; have := HK4.out; omega⟩, ⟨zb BK171⟩, ⟨zb BK173⟩, ⟨zg HB⟩⟩
          rw [if_neg c27] at H
          have c27b0 : decide (x53_4 < (((rd_T66 l0_1 x30_2).f1).length : Int)) = false := decide_eq_false c27
          clear c27
          have H' := Aside0.mk H
          clear H
          have hnb31 := NB173_171.out
          have hnc31 := NB171_173.out
          obtain ⟨⟨hcz32_0, hcz32_1, hcz32_2⟩, hfz32_0, hfz32_1, hfz32_2⟩ := zc3 BK173
          go_wp2
          go_loopg [64] k4 (fun kq v64 w' => ∃ (x64_5 : Int), v64 = .int .i64 x64_5 ∧ Aside0 (impl_DocBytes.l2 kq l0_1 (l0_1.length : Int) x30_2 ((rd_T66 l0_1 x30_2).f2) (((rd_T66 l0_1 x30_2).f2).length : Int) x64_5 a0_0 l0_1 = some (r1, r2)) ∧ Aside0 (kq ≤ k4) ∧ Aside0 (w'.heap[gb171]? = some (.cells #[.string a0_0, (.slice (some ad172) l0_1.length c0_1)] 31 (0, 0))) ∧ Aside0 (w'.heap[gb173]? = some (.cells #[.string ((rd_T66 l0_1 x30_2).f0), (.slice A172_1 ((rd_T66 l0_1 x30_2).f1).length c172_1), (.slice A172_2 ((rd_T66 l0_1 x30_2).f2).length c172_2)] 66 (0, 0))) ∧ Aside0 (Below w.heap.size w w'))
          case atStart => exact ⟨(0), zrs, H', ⟨Nat.le_refl _⟩, ⟨zb BK171⟩, ⟨zb BK173⟩, ⟨zg HB⟩⟩
          case round =>
           clear H'
           try clear c7
           try clear c9
           try clear c9b0
           try clear c10
           try clear c10b0
           try clear c11
           try clear c11b0
           try clear c24
           try clear c27
           try clear c27b0
           try clear hcz15_0 hcz15_1 hcz15_2
           try clear hcz26_0 hcz26_1 hcz26_2
           try clear hcz32_0 hcz32_1 hcz32_2
           try clear hcz8_0 hcz8_1
           try clear hfz15_0 hfz15_1 hfz15_2
           try clear hfz26_0 hfz26_1 hfz26_2
           try clear hfz32_0 hfz32_1 hfz32_2
           try clear hfz8_0 hfz8_1
           try clear hx172_0
           try clear hx172_1
           try clear hx172_2
           try clear p172
           try clear q172
           obtain ⟨x64_5, rfl, HA, HK5, BK171, BK173, HB⟩ := hrel
           cases gk with
           | zero => exact absurd HA.out (by simp [impl_DocBytes.l2])
           | succ k5 =>
            have H := HA.out
            clear HA
            simp only [impl_DocBytes.l2] at H
            by_cases c33 : x64_5 < (((rd_T66 l0_1 x30_2).f2).length : Int)
            rotate_left
            ·rw [if_neg c33] at H
             have c33b0 : decide (x64_5 < (((rd_T66 l0_1 x30_2).f2).length : Int)) = false := decide_eq_false c33
             clear c33
             have H' := Aside0.mk H
             clear H
             go_wp2
             go_roundg k5
             case measure => have := HJ1.out; have := HK2.out; have := HJ11.out; have := HK4.out; have := HK5.out; omega
             case rel => exact ⟨(wrap64 (x30_2 + 1)), zrs, H', ⟨by have := HJ1.out; have := HK2.out; have := HJ11.out; have := HK4.out; have := HK5.out; omega⟩, ⟨zb BK171⟩, ⟨zg HB⟩⟩
            rw [if_pos c33] at H
            have c33b0 : decide (x64_5 < (((rd_T66 l0_1 x30_2).f2).length : Int)) = true := decide_eq_true c33
            clear c33
            by_cases c34 : 0 ≤ x64_5
            rotate_left
            ·rw [if_neg c34] at H
             exact absurd H (by simp)
            rw [if_pos c34] at H
            have c34b0 : decide (0 ≤ x64_5) = true := decide_eq_true c34
            clear c34
            by_cases c35 : x64_5 < (((rd_T66 l0_1 x30_2).f2).length : Int)
            rotate_left
            ·rw [if_neg c35] at H
             exact absurd H (by simp)
            rw [if_pos c35] at H
            have c35b0 : decide (x64_5 < (((rd_T66 l0_1 x30_2).f2).length : Int)) = true := decide_eq_true c35
            clear c35
            replace H := Option.bind_eq_some_iff.mp H
            obtain ⟨t176, A360, H⟩ := H
            try dsimp only at H
            have A36 := Aside0.mk A360
            clear A360
            by_cases c37 : t176 = true
            rotate_left
            ·replace c37 := Bool.eq_false_iff.mpr c37
             subst c37
             rw [if_neg (show ¬ (false = true) by decide)] at H
             simp only [Option.some.injEq, Prod.mk.injEq] at H
             obtain ⟨rfl, rfl⟩ := H
             have p175 : 0 ≤ (x64_5 : Int) := of_decide_eq_true zas
             have q175 : x64_5 < (((rd_T66 l0_1 x30_2).f2).length : Int) := of_decide_eq_true zas
             obtain ⟨ad175, e175, hx175_0⟩ := Kd.at_int HR172_2.out x64_5 p175 q175
             cases e175
             replace hx175_0 := zx HB hx175_0
             replace p175 := eq_true p175
             replace q175 := eq_true q175
             go_wp2_with (first | ((with_reducible refine gate_callee (f := 38) rfl ?_); refine goesL_ (some 69) rfl rfl Try.func38 (by kernel_rfl) rfl #[.int .i64 (rd ((rd_T66 l0_1 x30_2).f2) x64_5), .int .i64 (-1000000000000), .int .i64 1000000000000] rfl zar ?_; (with_reducible refine (impl_within.calls (rd ((rd_T66 l0_1 x30_2).f2) x64_5) (-1000000000000) 1000000000000 false _ A36.out).mono ?_); rintro e w' ⟨rfl, ⟨nd, rfl⟩⟩; refine ⟨_, rfl, ?_⟩))
             go_ret2
             exact ⟨_, zre, by first | exact Kd.R_nil _ _ _ _ _ | exact Kd.N_nil _ _ _ _ _ | exact Kd.V_nil _ _ _ _ _ | exact Kd.Q_nil _ _ _ _ _ | exact Kd.S_nil _ _ _ _ _, zg HB⟩
            subst c37
            rw [if_pos rfl] at H
            have H' := Aside0.mk H
            clear H
            have p175 : 0 ≤ (x64_5 : Int) := of_decide_eq_true zas
            have q175 : x64_5 < (((rd_T66 l0_1 x30_2).f2).length : Int) := of_decide_eq_true zas
            obtain ⟨ad175, e175, hx175_0⟩ := Kd.at_int HR172_2.out x64_5 p175 q175
            cases e175
            replace hx175_0 := zx HB hx175_0
            replace p175 := eq_true p175
            replace q175 := eq_true q175
            go_wp2_with (first | ((with_reducible refine gate_callee (f := 38) rfl ?_); refine goesL_ (some 69) rfl rfl Try.func38 (by kernel_rfl) rfl #[.int .i64 (rd ((rd_T66 l0_1 x30_2).f2) x64_5), .int .i64 (-1000000000000), .int .i64 1000000000000] rfl zar ?_; (with_reducible refine (impl_within.calls (rd ((rd_T66 l0_1 x30_2).f2) x64_5) (-1000000000000) 1000000000000 true _ A36.out).mono ?_); rintro e w' ⟨rfl, ⟨nd, rfl⟩⟩; refine ⟨_, rfl, ?_⟩))
            go_roundg k5
            case measure => have := HJ1.out; have := HK2.out; have := HJ11.out; have := HK4.out; have := HK5.out; omega
            case rel => exact ⟨(wrap64 (x64_5 + 1)), zrs, H', ⟨by have := HJ1.out; have := HK2.out; have := HJ11.out; have := HK4.out; have := HK5.out; omega⟩, ⟨zb BK171⟩, ⟨zb BK173⟩, ⟨zg HB⟩⟩
     rw [if_neg c9] at H
     have c9b0 : decide (x30_2 < (l0_1.length : Int)) = false := decide_eq_false c9
     clear c9
     replace H := Option.bind_eq_some_iff.mp H
     obtain ⟨t177, A380, H⟩ := H
     try dsimp only at H
     have A38 := Aside0.mk A380
     clear A380
     replace H := Option.bind_eq_some_iff.mp H
     obtain ⟨t180, A390, H⟩ := H
     try dsimp only at H
     have A39 := Aside0.mk A390
     clear A390
     have H' := Aside0.mk H
     clear H
     try go_wp2
     replace BK171 := Aside0.mk (blk_drew BK171.out)
     replace HB := Aside0.mk (below_drew1 HB.out)
     refine start_ (n := 8) (S := fun w' => w'.cell? ⟨gb171, 0, none⟩ = some (.string a0_0) ∧ w'.cell? ⟨gb171, 1, none⟩ = some (.slice A0_1 l0_1.length c0_1)) (ds := []) (fl5_ 8 0) (by kernel_rfl) rfl rfl ⟨(blk_cell BK171.out 0).trans rfl, (blk_cell BK171.out 1).trans rfl⟩ (fun hHeld => ?_); refine with_tabW impl_DocBytes.tab21 impl_DocBytes.bits21 (fun HT_ HW_ => ?_)
     generalize wr.drew = w40 at BK171 HB hHeld ⊢
     refine zpu HT_ 0 73 (fl5_ 8 1) ?_
     refine zpu HT_ 3 76 (fl5_ 8 9) ?_
     refine take_ (i := 1) (N := some 74) (v := ?_) (a' := ?_) (fl5_ 8 11) rfl rfl (take_ofW HT_.out HW_.out (by kernel_rfl)) (fun _ _ _ h => h) (Or.inl ⟨by rfl, ?_⟩) hHeld ?_ ?_
     rotate_left
     ·rintro w' ⟨s0, s1⟩
      go_simp
      with_reducible rfl
     rotate_left
     ·simp only [Act.put, List.setIfInBounds_toArray, List.set_cons_zero, List.set_cons_succ, i64_w, i32_w]
      rfl
     refine take_ (i := 4) (N := some 77) (v := ?_) (a' := ?_) (fl5_ 8 27) rfl rfl (take_ofW HT_.out HW_.out (by kernel_rfl)) (fun _ _ _ h => h) (Or.inl ⟨by rfl, ?_⟩) hHeld ?_ ?_
     rotate_left
     ·rintro w' ⟨s0, s1⟩
      go_simp
      with_reducible rfl
     rotate_left
     ·simp only [Act.put, List.setIfInBounds_toArray, List.set_cons_zero, List.set_cons_succ, i64_w, i32_w]
      rfl
     refine zpu HT_ 5 78 (fl5_ 8 59) ?_
     refine one_ (i := 2) (N := some 75) (fl5_ 8 63) rfl rfl (one_of HT_.out (by kernel_rfl)) (by decide) (fun K hK => ?_)
     refine goes_ Try.func40 (by kernel_rfl) rfl #[.slice none 0 0, .string a0_0] (by rfl) rfl rfl zar ?_
     refine (impl_putText.calls k2 (fun k_ => some k_ = (.slice none 0 0 : Value).ownBlock) (.slice none 0 0) ([] : List Int) a0_0 t177 w _ ?side1 ?side2 A38.out).mono ?_
     (case side1 => exact zg HB)
     (case side2 => exact Kd.R_nil _ _ _ _ _)
     rintro e w41 ⟨v178, rfl, ho0, hb, hkp⟩
     refine ⟨_, rfl, ?_⟩
     replace BK171 := Aside0.mk (blk_kept (zb BK171) hkp (fun hs_ => (fun e_ => by simp [Value.ownBlock] at e_) hs_))
     have HO179 := Aside0.mk (Kd.R_mono (ok' := fun k_ => True) ho0 (fun k_ hk_ => trivial))
     replace HB := Aside0.mk (hb)
     (try clear hb)
     (try clear hkp)
     (try clear ho0)
     obtain ⟨Ao42, co42, eo42⟩ := Kd.R_slice HO179.out
     (first | subst eo42 | (injection eo42 with f1_ f2_ f3_; have f4_ := f1_.symm; have f5_ := f3_.symm; clear f1_ f2_ f3_; subst f4_; subst f5_))
     refine hK.out _ _ ⟨(blk_cell BK171.out 0).trans rfl, (blk_cell BK171.out 1).trans rfl⟩ (fun hHeld => ?_)
     clear hK K
     refine norm_ (a' := ?_) ?_ ?_
     rotate_left
     ·show Act.put _ (some 75) _ = _
      simp only [Act.put, List.setIfInBounds_toArray, List.set_cons_zero, List.set_cons_succ, i64_w, i32_w]
      rfl
     refine one_ (i := 6) (N := some 79) (fl5_ 8 127) rfl rfl (one_of HT_.out (by kernel_rfl)) (by decide) (fun K hK => ?_)
     refine goes_ Try.func39 (by kernel_rfl) rfl #[.slice Ao42 t177.length co42, .int .i64 (l0_1.length : Int)] (by rfl) rfl rfl zar ?_
     with_reducible refine (impl_putInt.calls k2 (fun k_ => some k_ = (.slice Ao42 t177.length co42 : Value).ownBlock) (.slice Ao42 t177.length co42) t177 (l0_1.length : Int) t180 w _ ?side1 ?side2 A39.out).mono ?_
     (case side1 => exact zg HB)
     (case side2 => exact Kd.R_tight rfl HO179.out)
     rintro e w43 ⟨v181, rfl, ho0, hb, hkp⟩
     refine ⟨_, rfl, ?_⟩
     replace BK171 := Aside0.mk (blk_kept (zb BK171) hkp (fun hs_ => (fun e_ => (Kd.R_ne HO179.out BK171.out (by decide)) e_) hs_))
     have HO182 := Aside0.mk (Kd.R_mono (ok' := fun k_ => True) ho0 (fun k_ hk_ => trivial))
     replace HB := Aside0.mk (hb)
     clear HO179
     (try clear hb)
     (try clear hkp)
     (try clear ho0)
     refine hK.out _ _ ⟨(blk_cell BK171.out 0).trans rfl, (blk_cell BK171.out 1).trans rfl⟩ (fun hHeld => ?_)
     clear hK K
     refine norm_ (a' := ?_) ?_ ?_
     rotate_left
     ·show Act.put _ (some 79) _ = _
      simp only [Act.put, List.setIfInBounds_toArray, List.set_cons_zero, List.set_cons_succ, i64_w, i32_w]
      rfl
     refine zpu HT_ 7 10 (fl5_ 8 255) ?_
     refine done_ (done_of HT_.out (by kernel_rfl)) ?_
     obtain ⟨⟨hcz44_0, hcz44_1⟩, hfz44_0, hfz44_1⟩ := zc2 BK171
     try go_wp2
     go_loopg [10, 83] k2 (fun kq v10 v83 w' => ∃ (x10_3 : List Int) (x83_3 : Int), v83 = .int .i64 x83_3 ∧ Aside0 (impl_DocBytes.l3 kq x10_3 l0_1 (l0_1.length : Int) x83_3 = some (r1, r2)) ∧ Aside0 (kq ≤ k2) ∧ Aside0 (Kd.R (Kd.int .u8) 5 w' w.heap.size (fun _ => True) v10 x10_3) ∧ Aside0 (w'.heap[gb171]? = some (.cells #[.string a0_0, (.slice A0_1 l0_1.length c0_1)] 31 (0, 0))) ∧ Aside0 (Below w.heap.size w w'))
     case atStart => exact ⟨(t180), (0), zrs, H', ⟨Nat.le_refl _⟩, ⟨zr HO182⟩, ⟨zb BK171⟩, ⟨zg HB⟩⟩
     case round =>
      clear H'
      try clear c7
      try clear c9
      try clear c9b0
      try clear hcz44_0 hcz44_1
      try clear hcz8_0 hcz8_1
      try clear hfz44_0 hfz44_1
      try clear hfz8_0 hfz8_1
      obtain ⟨x10_3, x83_3, rfl, HA, HK3, HO_10, BK171, HB⟩ := hrel
      cases gk with
      | zero => exact absurd HA.out (by simp [impl_DocBytes.l3])
      | succ k3 =>
       have H := HA.out
       clear HA
       simp only [impl_DocBytes.l3] at H
       by_cases c45 : x83_3 < (l0_1.length : Int)
       rotate_left
       ·rw [if_neg c45] at H
        have c45b0 : decide (x83_3 < (l0_1.length : Int)) = false := decide_eq_false c45
        clear c45
        simp only [Option.some.injEq, Prod.mk.injEq] at H
        obtain ⟨rfl, rfl⟩ := H
        go_wp2
        go_ret2
        exact ⟨_, zre, by (with_reducible repeat (first | apply Kd.R_alloc | apply Kd.R_drewN | apply Kd.R_drew)); exact HO_10.out, zg HB⟩

       rw [if_pos c45] at H
       have c45b0 : decide (x83_3 < (l0_1.length : Int)) = true := decide_eq_true c45
       clear c45
       by_cases c46 : 0 ≤ x83_3
       rotate_left
       ·rw [if_neg c46] at H
        exact absurd H (by simp)
       rw [if_pos c46] at H
       have c46b0 : decide (0 ≤ x83_3) = true := decide_eq_true c46
       clear c46
       by_cases c47 : x83_3 < (l0_1.length : Int)
       rotate_left
       ·rw [if_neg c47] at H
        exact absurd H (by simp)
       rw [if_pos c47] at H
       have c47b0 : decide (x83_3 < (l0_1.length : Int)) = true := decide_eq_true c47
       clear c47
       replace H := Option.bind_eq_some_iff.mp H
       obtain ⟨t185, A480, H⟩ := H
       try dsimp only at H
       have A48 := Aside0.mk A480
       clear A480
       replace H := Option.bind_eq_some_iff.mp H
       obtain ⟨t188, A490, H⟩ := H
       try dsimp only at H
       have A49 := Aside0.mk A490
       clear A490
       have H' := Aside0.mk H
       clear H
       have p183 : 0 ≤ (x83_3 : Int) := of_decide_eq_true zas
       have q183 : x83_3 < (l0_1.length : Int) := of_decide_eq_true zas
       obtain ⟨ad183, A183_1, c183_1, A183_2, c183_2, e183, hx183_0, hx183_1, hx183_2, hl183_1, hi183_1, hl183_2, hi183_2⟩ := at_T66 HR0_1.out x83_3 p183 q183
       cases e183
       replace hx183_0 := zx HB hx183_0
       replace hx183_1 := zx HB hx183_1
       replace hx183_2 := zx HB hx183_2
       have HR183_1 := Aside0.mk hi183_1
       have HC183_1 := Aside0.mk hl183_1
       clear hi183_1 hl183_1
       have HR183_2 := Aside0.mk hi183_2
       have HC183_2 := Aside0.mk hl183_2
       clear hi183_2 hl183_2
       replace p183 := eq_true p183
       replace q183 := eq_true q183
       try go_wp2_with (first | ((with_reducible refine gate_dst (N := 12) rfl ?_); (try (refine gate_guard (by rfl) ?_; dsimp only)); refine box_event (by rfl) (N := 12) (by rfl) (cs := #[.string (⟨#[]⟩ : ByteArray), .slice none 0 0, .slice none 0 0]) (t := 66) zgs ?_; intro gb184 hg w50 hbox hb; replace HO_10 := Aside0.mk (Kd.R_below (zr HO_10) hb); have BK184 := Aside0.mk (hbox); have GW184 := zge hg (below_size (zg HB)); have GE184 := zge hg (below_size (zg HB)); replace HB := Aside0.mk (below_step (zg HB) hb); have NB171_184 := znl hg (blk_lt (zb BK171)); have NB184_171 := zng hg (blk_lt (zb BK171)); replace BK171 := Aside0.mk (blk_below (zb BK171) hb); clear hb hbox hg; have hnb51 := NB184_171.out; have hnc51 := NB171_184.out; obtain ⟨⟨hcz52_0, hcz52_1, hcz52_2⟩, hfz52_0, hfz52_1, hfz52_2⟩ := zc3 BK184))
       have n0_ : Aside0 (Kd.R (Kd.int .u8) 5 (((w50.setCell ⟨gb184, 0, none⟩ (.string ((rd_T66 l0_1 x83_3).f0))).setCell ⟨gb184, 1, none⟩ (.slice A183_1 ((rd_T66 l0_1 x83_3).f1).length c183_1)).setCell ⟨gb184, 2, none⟩ (.slice A183_2 ((rd_T66 l0_1 x83_3).f2).length c183_2)) w.heap.size (fun _ => True) u10 x10_3) := ⟨by (with_reducible repeat (first | apply Kd.R_alloc | apply Kd.R_drewN | apply Kd.R_drew)); exact Kd.R_mono (Kd.R_far (p := ⟨gb184, 2, none⟩) (Kd.R_far (p := ⟨gb184, 1, none⟩) (Kd.R_far (p := ⟨gb184, 0, none⟩) (Kd.R_types HO_10.out BK184.out (by decide)) (fun _ hk => hk.2) (.string ((rd_T66 l0_1 x83_3).f0))) (fun _ hk => hk.2) (.slice A183_1 ((rd_T66 l0_1 x83_3).f1).length c183_1)) (fun _ hk => hk.2) (.slice A183_2 ((rd_T66 l0_1 x83_3).f2).length c183_2)) (fun _ hk => trivial)⟩
       have n1_ : Aside0 ((((w50.setCell ⟨gb184, 0, none⟩ (.string ((rd_T66 l0_1 x83_3).f0))).setCell ⟨gb184, 1, none⟩ (.slice A183_1 ((rd_T66 l0_1 x83_3).f1).length c183_1)).setCell ⟨gb184, 2, none⟩ (.slice A183_2 ((rd_T66 l0_1 x83_3).f2).length c183_2)).heap[gb171]? = some (.cells #[.string a0_0, .slice (some ad183) l0_1.length c0_1] 31 (0, 0))) := ⟨zp BK171⟩
       have n2_ : Aside0 ((((w50.setCell ⟨gb184, 0, none⟩ (.string ((rd_T66 l0_1 x83_3).f0))).setCell ⟨gb184, 1, none⟩ (.slice A183_1 ((rd_T66 l0_1 x83_3).f1).length c183_1)).setCell ⟨gb184, 2, none⟩ (.slice A183_2 ((rd_T66 l0_1 x83_3).f2).length c183_2)).heap[gb184]? = some (.cells #[.string ((rd_T66 l0_1 x83_3).f0), .slice A183_1 ((rd_T66 l0_1 x83_3).f1).length c183_1, .slice A183_2 ((rd_T66 l0_1 x83_3).f2).length c183_2] 66 (0, 0))) := ⟨zp BK184⟩
       have n3_ : Aside0 (Below w.heap.size w (((w50.setCell ⟨gb184, 0, none⟩ (.string ((rd_T66 l0_1 x83_3).f0))).setCell ⟨gb184, 1, none⟩ (.slice A183_1 ((rd_T66 l0_1 x83_3).f1).length c183_1)).setCell ⟨gb184, 2, none⟩ (.slice A183_2 ((rd_T66 l0_1 x83_3).f2).length c183_2))) := ⟨zg HB⟩
       (try clear HO_10)
       (try clear BK171)
       (try clear BK184)
       (try clear HB)
       generalize (((w50.setCell ⟨gb184, 0, none⟩ (.string ((rd_T66 l0_1 x83_3).f0))).setCell ⟨gb184, 1, none⟩ (.slice A183_1 ((rd_T66 l0_1 x83_3).f1).length c183_1)).setCell ⟨gb184, 2, none⟩ (.slice A183_2 ((rd_T66 l0_1 x83_3).f2).length c183_2)) = w53 at n0_ n1_ n2_ n3_ ⊢
       have HO_10 := n0_
       have BK171 := n1_
       have BK184 := n2_
       have HB := n3_
       clear n0_ n1_ n2_ n3_
       replace HO_10 := Aside0.mk (Kd.R_drew HO_10.out)
       replace BK171 := Aside0.mk (blk_drew BK171.out)
       replace BK184 := Aside0.mk (blk_drew BK184.out)
       replace HB := Aside0.mk (below_drew1 HB.out)
       obtain ⟨Ao55, co55, eo55⟩ := Kd.R_slice HO_10.out
       (first | subst eo55 | (injection eo55 with f1_ f2_ f3_; have f4_ := f1_.symm; have f5_ := f3_.symm; clear f1_ f2_ f3_; subst f4_; subst f5_))
       refine start_ (n := 9) (S := fun w' => w'.cell? ⟨gb184, 0, none⟩ = some (.string ((rd_T66 l0_1 x83_3).f0)) ∧ w'.cell? ⟨gb184, 1, none⟩ = some (.slice A183_1 ((rd_T66 l0_1 x83_3).f1).length c183_1) ∧ w'.cell? ⟨gb184, 2, none⟩ = some (.slice A183_2 ((rd_T66 l0_1 x83_3).f2).length c183_2)) (ds := []) (fl5_ 9 0) (by kernel_rfl) rfl rfl ⟨(blk_cell BK184.out 0).trans rfl, (blk_cell BK184.out 1).trans rfl, (blk_cell BK184.out 2).trans rfl⟩ (fun hHeld => ?_); refine with_tabW impl_DocBytes.tab25 impl_DocBytes.bits25 (fun HT_ HW_ => ?_)
       generalize w53.drew = w54 at HO_10 BK171 BK184 HB hHeld ⊢
       refine zpu HT_ 0 87 (fl5_ 9 1) ?_
       refine zpu HT_ 1 88 (fl5_ 9 3) ?_
       refine zpu HT_ 4 91 (fl5_ 9 19) ?_
       refine take_ (i := 2) (N := some 89) (v := ?_) (a' := ?_) (fl5_ 9 23) rfl rfl (take_ofW HT_.out HW_.out (by kernel_rfl)) (fun _ _ _ h => h) (Or.inl ⟨by rfl, ?_⟩) hHeld ?_ ?_
       rotate_left
       ·rintro w' ⟨s0, s1, s2⟩
        go_simp
        with_reducible rfl
       rotate_left
       ·simp only [Act.put, List.setIfInBounds_toArray, List.set_cons_zero, List.set_cons_succ, i64_w, i32_w]
        rfl
       refine take_ (i := 5) (N := some 92) (v := ?_) (a' := ?_) (fl5_ 9 55) rfl rfl (take_ofW HT_.out HW_.out (by kernel_rfl)) (fun _ _ _ h => h) (Or.inl ⟨by rfl, ?_⟩) hHeld ?_ ?_
       rotate_left
       ·rintro w' ⟨s0, s1, s2⟩
        go_simp
        with_reducible rfl
       rotate_left
       ·simp only [Act.put, List.setIfInBounds_toArray, List.set_cons_zero, List.set_cons_succ, i64_w, i32_w]
        rfl
       refine zpu HT_ 6 93 (fl5_ 9 119) ?_
       refine one_ (i := 3) (N := some 90) (fl5_ 9 127) rfl rfl (one_of HT_.out (by kernel_rfl)) (by decide) (fun K hK => ?_)
       refine goes_ Try.func40 (by kernel_rfl) rfl #[.slice Ao55 x10_3.length co55, .string ((rd_T66 l0_1 x83_3).f0)] (by rfl) rfl rfl zar ?_
       with_reducible refine (impl_putText.calls k3 (fun k_ => some k_ = (.slice Ao55 x10_3.length co55 : Value).ownBlock) (.slice Ao55 x10_3.length co55) x10_3 ((rd_T66 l0_1 x83_3).f0) t185 w _ ?side1 ?side2 A48.out).mono ?_
       (case side1 => exact zg HB)
       (case side2 => exact Kd.R_tight rfl HO_10.out)
       rintro e w56 ⟨v186, rfl, ho0, hb, hkp⟩
       refine ⟨_, rfl, ?_⟩
       replace BK171 := Aside0.mk (blk_kept (zb BK171) hkp (fun hs_ => (fun e_ => (Kd.R_ne HO_10.out BK171.out (by decide)) e_) hs_))
       replace BK184 := Aside0.mk (blk_kept (zb BK184) hkp (fun hs_ => (fun e_ => (Kd.R_ne HO_10.out BK184.out (by decide)) e_) hs_))
       have HO187 := Aside0.mk (Kd.R_mono (ok' := fun k_ => True) ho0 (fun k_ hk_ => trivial))
       replace HB := Aside0.mk (hb)
       clear HO_10
       (try clear hb)
       (try clear hkp)
       (try clear ho0)
       obtain ⟨Ao57, co57, eo57⟩ := Kd.R_slice HO187.out
       (first | subst eo57 | (injection eo57 with f1_ f2_ f3_; have f4_ := f1_.symm; have f5_ := f3_.symm; clear f1_ f2_ f3_; subst f4_; subst f5_))
       refine hK.out _ _ ⟨(blk_cell BK184.out 0).trans rfl, (blk_cell BK184.out 1).trans rfl, (blk_cell BK184.out 2).trans rfl⟩ (fun hHeld => ?_)
       clear hK K
       refine norm_ (a' := ?_) ?_ ?_
       rotate_left
       ·show Act.put _ (some 90) _ = _
        simp only [Act.put, List.setIfInBounds_toArray, List.set_cons_zero, List.set_cons_succ, i64_w, i32_w]
        rfl
       refine one_ (i := 7) (N := some 94) (fl5_ 9 255) rfl rfl (one_of HT_.out (by kernel_rfl)) (by decide) (fun K hK => ?_)
       refine goes_ Try.func39 (by kernel_rfl) rfl #[.slice Ao57 t185.length co57, .int .i64 (((rd_T66 l0_1 x83_3).f1).length : Int)] (by rfl) rfl rfl zar ?_
       with_reducible refine (impl_putInt.calls k3 (fun k_ => some k_ = (.slice Ao57 t185.length co57 : Value).ownBlock) (.slice Ao57 t185.length co57) t185 (((rd_T66 l0_1 x83_3).f1).length : Int) t188 w _ ?side1 ?side2 A49.out).mono ?_
       (case side1 => exact zg HB)
       (case side2 => exact Kd.R_tight rfl HO187.out)
       rintro e w58 ⟨v189, rfl, ho0, hb, hkp⟩
       refine ⟨_, rfl, ?_⟩
       replace BK171 := Aside0.mk (blk_kept (zb BK171) hkp (fun hs_ => (fun e_ => (Kd.R_ne HO187.out BK171.out (by decide)) e_) hs_))
       replace BK184 := Aside0.mk (blk_kept (zb BK184) hkp (fun hs_ => (fun e_ => (Kd.R_ne HO187.out BK184.out (by decide)) e_) hs_))
       have HO190 := Aside0.mk (Kd.R_mono (ok' := fun k_ => True) ho0 (fun k_ hk_ => trivial))
       replace HB := Aside0.mk (hb)
       clear HO187
       (try clear hb)
       (try clear hkp)
       (try clear ho0)
       refine hK.out _ _ ⟨(blk_cell BK184.out 0).trans rfl, (blk_cell BK184.out 1).trans rfl, (blk_cell BK184.out 2).trans rfl⟩ (fun hHeld => ?_)
       clear hK K
       refine norm_ (a' := ?_) ?_ ?_
       rotate_left
       ·show Act.put _ (some 94) _ = _
        simp only [Act.put, List.setIfInBounds_toArray, List.set_cons_zero, List.set_cons_succ, i64_w, i32_w]
        rfl
       refine zpu HT_ 8 10 (fl5_ 9 511) ?_
       refine done_ (done_of HT_.out (by kernel_rfl)) ?_
       obtain ⟨⟨hcz59_0, hcz59_1, hcz59_2⟩, hfz59_0, hfz59_1, hfz59_2⟩ := zc3 BK184
       try go_wp2
       go_loopg [10, 98] k3 (fun kq v10 v98 w' => ∃ (x10_4 : List Int) (x98_4 : Int), v98 = .int .i64 x98_4 ∧ Aside0 (impl_DocBytes.l4 kq x10_4 l0_1 (l0_1.length : Int) x83_3 ((rd_T66 l0_1 x83_3).f1) (((rd_T66 l0_1 x83_3).f1).length : Int) x98_4 ((rd_T66 l0_1 x83_3).f0) ((rd_T66 l0_1 x83_3).f1) ((rd_T66 l0_1 x83_3).f2) = some (r1, r2)) ∧ Aside0 (kq ≤ k3) ∧ Aside0 (Kd.R (Kd.int .u8) 5 w' w.heap.size (fun _ => True) v10 x10_4) ∧ Aside0 (w'.heap[gb171]? = some (.cells #[.string a0_0, (.slice (some ad183) l0_1.length c0_1)] 31 (0, 0))) ∧ Aside0 (w'.heap[gb184]? = some (.cells #[.string ((rd_T66 l0_1 x83_3).f0), (.slice A183_1 ((rd_T66 l0_1 x83_3).f1).length c183_1), (.slice A183_2 ((rd_T66 l0_1 x83_3).f2).length c183_2)] 66 (0, 0))) ∧ Aside0 (Below w.heap.size w w'))
       case atStart => exact ⟨(t188), (0), zrs, H', ⟨Nat.le_refl _⟩, ⟨zr HO190⟩, ⟨zb BK171⟩, ⟨zb BK184⟩, ⟨zg HB⟩⟩
       case round =>
        clear H'
        try clear c7
        try clear c9
        try clear c9b0
        try clear c45
        try clear c45b0
        try clear c46
        try clear c46b0
        try clear c47
        try clear c47b0
        try clear hcz44_0 hcz44_1
        try clear hcz52_0 hcz52_1 hcz52_2
        try clear hcz59_0 hcz59_1 hcz59_2
        try clear hcz8_0 hcz8_1
        try clear hfz44_0 hfz44_1
        try clear hfz52_0 hfz52_1 hfz52_2
        try clear hfz59_0 hfz59_1 hfz59_2
        try clear hfz8_0 hfz8_1
        try clear hx183_0
        try clear hx183_1
        try clear hx183_2
        try clear p183
        try clear q183
        obtain ⟨x10_4, x98_4, rfl, HA, HK4, HO_10, BK171, BK184, HB⟩ := hrel
        cases gk with
        | zero => exact absurd HA.out (by simp [impl_DocBytes.l4])
        | succ k4 =>
         have H := HA.out
         clear HA
         simp only [impl_DocBytes.l4] at H
         by_cases c60 : x98_4 < (((rd_T66 l0_1 x83_3).f1).length : Int)
         ·rw [if_pos c60] at H
          have c60b0 : decide (x98_4 < (((rd_T66 l0_1 x83_3).f1).length : Int)) = true := decide_eq_true c60
          clear c60
          by_cases c61 : 0 ≤ x98_4
          rotate_left
          ·rw [if_neg c61] at H
           exact absurd H (by simp)
          rw [if_pos c61] at H
          have c61b0 : decide (0 ≤ x98_4) = true := decide_eq_true c61
          clear c61
          by_cases c62 : x98_4 < (((rd_T66 l0_1 x83_3).f1).length : Int)
          rotate_left
          ·rw [if_neg c62] at H
           exact absurd H (by simp)
          rw [if_pos c62] at H
          have c62b0 : decide (x98_4 < (((rd_T66 l0_1 x83_3).f1).length : Int)) = true := decide_eq_true c62
          clear c62
          replace H := Option.bind_eq_some_iff.mp H
          obtain ⟨t192, A630, H⟩ := H
          try dsimp only at H
          have A63 := Aside0.mk A630
          clear A630
          have H' := Aside0.mk H
          clear H
          have p191 : 0 ≤ (x98_4 : Int) := of_decide_eq_true zas
          have q191 : x98_4 < (((rd_T66 l0_1 x83_3).f1).length : Int) := of_decide_eq_true zas
          obtain ⟨ad191, e191, hx191_0⟩ := Kd.at_string HR183_1.out x98_4 p191 q191
          cases e191
          replace hx191_0 := zx HB hx191_0
          replace p191 := eq_true p191
          replace q191 := eq_true q191
          obtain ⟨Ao64, co64, eo64⟩ := Kd.R_slice HO_10.out
          subst eo64
          go_wp2_with (first | ((with_reducible refine gate_callee (f := 40) rfl ?_); refine goesL_ (some 104) rfl rfl Try.func40 (by kernel_rfl) rfl #[.slice Ao64 x10_4.length co64, .string (rdOf ByteArray.empty ((rd_T66 l0_1 x83_3).f1) x98_4)] rfl zar ?_; (with_reducible refine (impl_putText.calls k4 (fun k_ => some k_ = (.slice Ao64 x10_4.length co64 : Value).ownBlock) (.slice Ao64 x10_4.length co64) x10_4 (rdOf ByteArray.empty ((rd_T66 l0_1 x83_3).f1) x98_4) t192 w _ ?side1 ?side2 A63.out).mono ?_); (case side1 => exact zg HB); (case side2 => exact Kd.R_tight rfl HO_10.out); rintro e w65 ⟨v193, rfl, ho0, hb, hkp⟩; refine ⟨_, rfl, ?_⟩; replace BK171 := Aside0.mk (blk_kept (zb BK171) hkp (fun hs_ => (fun e_ => (Kd.R_ne HO_10.out BK171.out (by decide)) e_) hs_)); replace BK184 := Aside0.mk (blk_kept (zb BK184) hkp (fun hs_ => (fun e_ => (Kd.R_ne HO_10.out BK184.out (by decide)) e_) hs_)); have HO194 := Aside0.mk (Kd.R_mono (ok' := fun k_ => True) ho0 (fun k_ hk_ => trivial)); replace HB := Aside0.mk (hb); clear HO_10; (try clear hb); (try clear hkp); (try clear ho0)))
          go_roundg k4
          case measure => have := HJ1.out; have := HK2.out; have := HK3.out; have := HK4.out; omega
          case rel => exact ⟨(t192), (wrap64 (x98_4 + 1)), zrs, H', ⟨by have := HJ1.out; have := HK2.out; have := HK3.out; have := HK4.out; omega⟩, ⟨zr HO194⟩, ⟨zb BK171⟩, ⟨zb BK184⟩, ⟨zg HB⟩⟩
         rw [if_neg c60] at H
         have c60b0 : decide (x98_4 < (((rd_T66 l0_1 x83_3).f1).length : Int)) = false := decide_eq_false c60
         clear c60
         replace H := Option.bind_eq_some_iff.mp H
         obtain ⟨t195, A660, H⟩ := H
         try dsimp only at H
         have A66 := Aside0.mk A660
         clear A660
         have H' := Aside0.mk H
         clear H
         have hnb67 := NB184_171.out
         have hnc67 := NB171_184.out
         obtain ⟨⟨hcz68_0, hcz68_1, hcz68_2⟩, hfz68_0, hfz68_1, hfz68_2⟩ := zc3 BK184
         obtain ⟨Ao69, co69, eo69⟩ := Kd.R_slice HO_10.out
         subst eo69
         go_wp2_with (first | ((with_reducible refine gate_callee (f := 39) rfl ?_); refine goesL_ (some 110) rfl rfl Try.func39 (by kernel_rfl) rfl #[.slice Ao69 x10_4.length co69, .int .i64 (((rd_T66 l0_1 x83_3).f2).length : Int)] rfl zar ?_; (with_reducible refine (impl_putInt.calls k4 (fun k_ => some k_ = (.slice Ao69 x10_4.length co69 : Value).ownBlock) (.slice Ao69 x10_4.length co69) x10_4 (((rd_T66 l0_1 x83_3).f2).length : Int) t195 w _ ?side1 ?side2 A66.out).mono ?_); (case side1 => exact zg HB); (case side2 => exact Kd.R_tight rfl HO_10.out); rintro e w70 ⟨v196, rfl, ho0, hb, hkp⟩; refine ⟨_, rfl, ?_⟩; replace BK171 := Aside0.mk (blk_kept (zb BK171) hkp (fun hs_ => (fun e_ => (Kd.R_ne HO_10.out BK171.out (by decide)) e_) hs_)); replace BK184 := Aside0.mk (blk_kept (zb BK184) hkp (fun hs_ => (fun e_ => (Kd.R_ne HO_10.out BK184.out (by decide)) e_) hs_)); have HO197 := Aside0.mk (Kd.R_mono (ok' := fun k_ => True) ho0 (fun k_ hk_ => trivial)); replace HB := Aside0.mk (hb); clear HO_10; (try clear hb); (try clear hkp); (try clear ho0); obtain ⟨⟨hcz71_0, hcz71_1, hcz71_2⟩, hfz71_0, hfz71_1, hfz71_2⟩ := zc3 BK184))
         go_loopg [10, 114] k4 (fun kq v10 v114 w' => ∃ (x10_5 : List Int) (x114_5 : Int), v114 = .int .i64 x114_5 ∧ Aside0 (impl_DocBytes.l5 kq x10_5 l0_1 (l0_1.length : Int) x83_3 ((rd_T66 l0_1 x83_3).f2) (((rd_T66 l0_1 x83_3).f2).length : Int) x114_5 = some (r1, r2)) ∧ Aside0 (kq ≤ k4) ∧ Aside0 (Kd.R (Kd.int .u8) 5 w' w.heap.size (fun _ => True) v10 x10_5) ∧ Aside0 (w'.heap[gb171]? = some (.cells #[.string a0_0, (.slice (some ad183) l0_1.length c0_1)] 31 (0, 0))) ∧ Aside0 (w'.heap[gb184]? = some (.cells #[.string ((rd_T66 l0_1 x83_3).f0), (.slice A183_1 ((rd_T66 l0_1 x83_3).f1).length c183_1), (.slice A183_2 ((rd_T66 l0_1 x83_3).f2).length c183_2)] 66 (0, 0))) ∧ Aside0 (Below w.heap.size w w'))
         case atStart => exact ⟨(t195), (0), zrs, H', ⟨Nat.le_refl _⟩, ⟨zr HO197⟩, ⟨zb BK171⟩, ⟨zb BK184⟩, ⟨zg HB⟩⟩
         case round =>
          clear H'
          try clear c7
          try clear c9
          try clear c9b0
          try clear c45
          try clear c45b0
          try clear c46
          try clear c46b0
          try clear c47
          try clear c47b0
          try clear c60
          try clear c60b0
          try clear hcz44_0 hcz44_1
          try clear hcz52_0 hcz52_1 hcz52_2
          try clear hcz59_0 hcz59_1 hcz59_2
          try clear hcz68_0 hcz68_1 hcz68_2
          try clear hcz71_0 hcz71_1 hcz71_2
          try clear hcz8_0 hcz8_1
          try clear hfz44_0 hfz44_1
          try clear hfz52_0 hfz52_1 hfz52_2
          try clear hfz59_0 hfz59_1 hfz59_2
          try clear hfz68_0 hfz68_1 hfz68_2
          try clear hfz71_0 hfz71_1 hfz71_2
          try clear hfz8_0 hfz8_1
          try clear hx183_0
          try clear hx183_1
          try clear hx183_2
          try clear p183
          try clear q183
          obtain ⟨x10_5, x114_5, rfl, HA, HK5, HO_10, BK171, BK184, HB⟩ := hrel
          cases gk with
          | zero => exact absurd HA.out (by simp [impl_DocBytes.l5])
          | succ k5 =>
           have H := HA.out
           clear HA
           simp only [impl_DocBytes.l5] at H
           by_cases c72 : x114_5 < (((rd_T66 l0_1 x83_3).f2).length : Int)
           rotate_left
           ·rw [if_neg c72] at H
            have c72b0 : decide (x114_5 < (((rd_T66 l0_1 x83_3).f2).length : Int)) = false := decide_eq_false c72
            clear c72
            have H' := Aside0.mk H
            clear H
            go_wp2
            go_roundg k5
            case measure => have := HJ1.out; have := HK2.out; have := HK3.out; have := HK4.out; have := HK5.out; omega
            case rel => exact ⟨(x10_5), (wrap64 (x83_3 + 1)), zrs, H', ⟨by have := HJ1.out; have := HK2.out; have := HK3.out; have := HK4.out; have := HK5.out; omega⟩, ⟨zr HO_10⟩, ⟨zb BK171⟩, ⟨zg HB⟩⟩
           rw [if_pos c72] at H
           have c72b0 : decide (x114_5 < (((rd_T66 l0_1 x83_3).f2).length : Int)) = true := decide_eq_true c72
           clear c72
           by_cases c73 : 0 ≤ x114_5
           rotate_left
           ·rw [if_neg c73] at H
            exact absurd H (by simp)
           rw [if_pos c73] at H
           have c73b0 : decide (0 ≤ x114_5) = true := decide_eq_true c73
           clear c73
           by_cases c74 : x114_5 < (((rd_T66 l0_1 x83_3).f2).length : Int)
           rotate_left
           ·rw [if_neg c74] at H
            exact absurd H (by simp)
           rw [if_pos c74] at H
           have c74b0 : decide (x114_5 < (((rd_T66 l0_1 x83_3).f2).length : Int)) = true := decide_eq_true c74
           clear c74
           by_cases c75 : (rd ((rd_T66 l0_1 x83_3).f2) x114_5) < 0
           rotate_left
           ·rw [if_neg c75] at H
            have c75b0 : decide ((rd ((rd_T66 l0_1 x83_3).f2) x114_5) < 0) = false := decide_eq_false c75
            clear c75
            replace H := Option.bind_eq_some_iff.mp H
            obtain ⟨t202, A790, H⟩ := H
            try dsimp only at H
            have A79 := Aside0.mk A790
            clear A790
            have H' := Aside0.mk H
            clear H
            have p198 : 0 ≤ (x114_5 : Int) := of_decide_eq_true zas
            have q198 : x114_5 < (((rd_T66 l0_1 x83_3).f2).length : Int) := of_decide_eq_true zas
            obtain ⟨ad198, e198, hx198_0⟩ := Kd.at_int HR183_2.out x114_5 p198 q198
            cases e198
            replace hx198_0 := zx HB hx198_0
            replace p198 := eq_true p198
            replace q198 := eq_true q198
            obtain ⟨Ao80, co80, eo80⟩ := Kd.R_slice HO_10.out
            subst eo80
            go_wp2_with (first | ((with_reducible refine gate_callee (f := 39) rfl ?_); refine goesL_ (some 128) rfl rfl Try.func39 (by kernel_rfl) rfl #[.slice Ao80 x10_5.length co80, .int .i64 (wrap64 (2 * (rd ((rd_T66 l0_1 x83_3).f2) x114_5)))] rfl zar ?_; (with_reducible refine (impl_putInt.calls k5 (fun k_ => some k_ = (.slice Ao80 x10_5.length co80 : Value).ownBlock) (.slice Ao80 x10_5.length co80) x10_5 (wrap64 (2 * (rd ((rd_T66 l0_1 x83_3).f2) x114_5))) t202 w _ ?side1 ?side2 A79.out).mono ?_); (case side1 => exact zg HB); (case side2 => exact Kd.R_tight rfl HO_10.out); rintro e w81 ⟨v203, rfl, ho0, hb, hkp⟩; refine ⟨_, rfl, ?_⟩; replace BK171 := Aside0.mk (blk_kept (zb BK171) hkp (fun hs_ => (fun e_ => (Kd.R_ne HO_10.out BK171.out (by decide)) e_) hs_)); replace BK184 := Aside0.mk (blk_kept (zb BK184) hkp (fun hs_ => (fun e_ => (Kd.R_ne HO_10.out BK184.out (by decide)) e_) hs_)); have HO204 := Aside0.mk (Kd.R_mono (ok' := fun k_ => True) ho0 (fun k_ hk_ => trivial)); replace HB := Aside0.mk (hb); clear HO_10; (try clear hb); (try clear hkp); (try clear ho0)))
            go_roundg k5
            case measure => have := HJ1.out; have := HK2.out; have := HK3.out; have := HK4.out; have := HK5.out; omega
            case rel => exact ⟨(t202), (wrap64 (x114_5 + 1)), zrs, H', ⟨by have := HJ1.out; have := HK2.out; have := HK3.out; have := HK4.out; have := HK5.out; omega⟩, ⟨zr HO204⟩, ⟨zb BK171⟩, ⟨zb BK184⟩, ⟨zg HB⟩⟩
           rw [if_pos c75] at H
           have c75b0 : decide ((rd ((rd_T66 l0_1 x83_3).f2) x114_5) < 0) = true := decide_eq_true c75
           clear c75
           replace H := Option.bind_eq_some_iff.mp H
           obtain ⟨t199, A760, H⟩ := H
           try dsimp only at H
           have A76 := Aside0.mk A760
           clear A760
           have H' := Aside0.mk H
           clear H
           have p198 : 0 ≤ (x114_5 : Int) := of_decide_eq_true zas
           have q198 : x114_5 < (((rd_T66 l0_1 x83_3).f2).length : Int) := of_decide_eq_true zas
           obtain ⟨ad198, e198, hx198_0⟩ := Kd.at_int HR183_2.out x114_5 p198 q198
           cases e198
           replace hx198_0 := zx HB hx198_0
           replace p198 := eq_true p198
           replace q198 := eq_true q198
           obtain ⟨Ao77, co77, eo77⟩ := Kd.R_slice HO_10.out
           subst eo77
           go_wp2_with (first | ((with_reducible refine gate_callee (f := 39) rfl ?_); refine goesL_ (some 124) rfl rfl Try.func39 (by kernel_rfl) rfl #[.slice Ao77 x10_5.length co77, .int .i64 (wrap64 ((wrap64 ((-2) * (rd ((rd_T66 l0_1 x83_3).f2) x114_5))) - 1))] rfl zar ?_; (with_reducible refine (impl_putInt.calls k5 (fun k_ => some k_ = (.slice Ao77 x10_5.length co77 : Value).ownBlock) (.slice Ao77 x10_5.length co77) x10_5 (wrap64 ((wrap64 ((-2) * (rd ((rd_T66 l0_1 x83_3).f2) x114_5))) - 1)) t199 w _ ?side1 ?side2 A76.out).mono ?_); (case side1 => exact zg HB); (case side2 => exact Kd.R_tight rfl HO_10.out); rintro e w78 ⟨v200, rfl, ho0, hb, hkp⟩; refine ⟨_, rfl, ?_⟩; replace BK171 := Aside0.mk (blk_kept (zb BK171) hkp (fun hs_ => (fun e_ => (Kd.R_ne HO_10.out BK171.out (by decide)) e_) hs_)); replace BK184 := Aside0.mk (blk_kept (zb BK184) hkp (fun hs_ => (fun e_ => (Kd.R_ne HO_10.out BK184.out (by decide)) e_) hs_)); have HO201 := Aside0.mk (Kd.R_mono (ok' := fun k_ => True) ho0 (fun k_ hk_ => trivial)); replace HB := Aside0.mk (hb); clear HO_10; (try clear hb); (try clear hkp); (try clear ho0)))
           go_roundg k5
           case measure => have := HJ1.out; have := HK2.out; have := HK3.out; have := HK4.out; have := HK5.out; omega
           case rel => exact ⟨(t199), (wrap64 (x114_5 + 1)), zrs, H', ⟨by have := HJ1.out; have := HK2.out; have := HK3.out; have := HK4.out; have := HK5.out; omega⟩, ⟨zr HO201⟩, ⟨zb BK171⟩, ⟨zb BK184⟩, ⟨zg HB⟩⟩
end Go.Proofs.Ytnpdmleglcbobaa.XFnExactReadLog
