-- A printed text of this session (wip/x/xprint.py).
import Derived.Test.YtmbgncgcddjomaaDoorXFnExactSchemaOKx0
import Derived.Test.YtmbgncgcddjomaaDoorXFnExactSchemaOKx2
import Derived.Test.YtmbgncgcddjomaaDoorXFnExactSchemaOKx4
import Derived.Test.YtmbgncgcddjomaaDoorXFnExactSchemaOKx5
namespace Go.Proofs.YtmbgncgcddjomaaDoor.XFnExactSchemaOK
open Go.RowKit Go.Proofs.YtmbgncgcddjomaaDoorW.PrintWords Go.Proofs.YtmbgncgcddjomaaDoorW.PrintLast Go.Proofs.YtmbgncgcddjomaaDoorW.PrintMore
attribute [local go_sem] leq_str max2_int min2_int max_two min_two max_three min_three max_four min_four   -- for this text's walks alone
set_option linter.unusedVariables false
set_option linter.unusedSimpArgs false
def fl6_ (n m : Nat) : Array Bool := ((List.range n).map fun i => m.testBit i).toArray

/-! ### spec_SchemaOK: function 5 -/
mutual
def spec_SchemaOK.j0 : Nat → Bool → List (S39) → Option (Bool)
 | 0, _, _ => none
 | k + 1, x14, x156000 => if x14 = true then (some false) else (spec_SchemaOK.l0 k 0 x156000)
def spec_SchemaOK.l0 : Nat → Int → List (S39) → Option (Bool)
 | 0, _, _ => none
 | k + 1, x3, x156000 => if x3 < (x156000.length : Int) then (if 0 ≤ x3 then ((spec_l06Name.f k ((rd_T39 x156000 x3).f0)).bind fun t158 => (if t158 = true then (if x3 > 0 then (if 0 ≤ (wrap64 (x3 - 1)) then (if (wrap64 (x3 - 1)) < (x156000.length : Int) then (if ((Op.bytesLess (((rd_T39 x156000 (wrap64 (x3 - 1))).f0).toList) (((rd_T39 x156000 x3).f0).toList)) = true) then (if ((rd_T39 x156000 x3).f1) < 1 then (spec_SchemaOK.j2 k x3 true x156000) else (if ((rd_T39 x156000 x3).f1) > 3 then (spec_SchemaOK.j2 k x3 true x156000) else ((spec_AnalyzerOK.f k ((rd_T39 x156000 x3).f2.f0) ((rd_T39 x156000 x3).f2.f1) ((rd_T39 x156000 x3).f2.f2) ((rd_T39 x156000 x3).f2.f3) ((rd_T39 x156000 x3).f2.f4) ((rd_T39 x156000 x3).f2.f5) ((rd_T39 x156000 x3).f2.f6)).bind fun t160 => (if t160 = true then (if ((rd_T39 x156000 x3).f1) = 1 then (spec_SchemaOK.j2 k x3 false x156000) else ((spec_l06Zero.f ((rd_T39 x156000 x3).f2.f0) ((rd_T39 x156000 x3).f2.f1) ((rd_T39 x156000 x3).f2.f2) ((rd_T39 x156000 x3).f2.f3) ((rd_T39 x156000 x3).f2.f4) ((rd_T39 x156000 x3).f2.f5) ((rd_T39 x156000 x3).f2.f6)).bind fun t161 => (spec_SchemaOK.j2 k x3 (!t161) x156000))) else (spec_SchemaOK.j2 k x3 true x156000))))) else (spec_SchemaOK.j2 k x3 true x156000)) else (none)) else (none)) else (if ((rd_T39 x156000 x3).f1) < 1 then (spec_SchemaOK.j2 k x3 true x156000) else (if ((rd_T39 x156000 x3).f1) > 3 then (spec_SchemaOK.j2 k x3 true x156000) else ((spec_AnalyzerOK.f k ((rd_T39 x156000 x3).f2.f0) ((rd_T39 x156000 x3).f2.f1) ((rd_T39 x156000 x3).f2.f2) ((rd_T39 x156000 x3).f2.f3) ((rd_T39 x156000 x3).f2.f4) ((rd_T39 x156000 x3).f2.f5) ((rd_T39 x156000 x3).f2.f6)).bind fun t162 => (if t162 = true then (if ((rd_T39 x156000 x3).f1) = 1 then (spec_SchemaOK.j2 k x3 false x156000) else ((spec_l06Zero.f ((rd_T39 x156000 x3).f2.f0) ((rd_T39 x156000 x3).f2.f1) ((rd_T39 x156000 x3).f2.f2) ((rd_T39 x156000 x3).f2.f3) ((rd_T39 x156000 x3).f2.f4) ((rd_T39 x156000 x3).f2.f5) ((rd_T39 x156000 x3).f2.f6)).bind fun t163 => (spec_SchemaOK.j2 k x3 (!t163) x156000))) else (spec_SchemaOK.j2 k x3 true x156000)))))) else (spec_SchemaOK.j2 k x3 true x156000))) else (none)) else (some true)
def spec_SchemaOK.j2 : Nat → Int → Bool → List (S39) → Option (Bool)
 | 0, _, _, _ => none
 | k + 1, x3, x73, x156000 => if x73 = true then (some false) else (spec_SchemaOK.l0 k (wrap64 (x3 + 1)) x156000)
end
def spec_SchemaOK.f (k : Nat) (l0_0 : List (S39)) : Option (Bool) := if (l0_0.length : Int) < 1 then (spec_SchemaOK.j0 k true l0_0) else (spec_SchemaOK.j0 k (decide ((l0_0.length : Int) > 16)) l0_0)
theorem spec_SchemaOK.mono_l : ∀ k, (∀ y0 y1, LeO (spec_SchemaOK.j0 k y0 y1) (spec_SchemaOK.j0 (k + 1) y0 y1)) ∧ (∀ y0 y1, LeO (spec_SchemaOK.l0 k y0 y1) (spec_SchemaOK.l0 (k + 1) y0 y1)) ∧ (∀ y0 y1 y2, LeO (spec_SchemaOK.j2 k y0 y1 y2) (spec_SchemaOK.j2 (k + 1) y0 y1 y2))
 | 0 => ⟨fun _ _ r h => by simp [spec_SchemaOK.j0] at h, fun _ _ r h => by simp [spec_SchemaOK.l0] at h, fun _ _ _ r h => by simp [spec_SchemaOK.j2] at h⟩
 | k + 1 => by
  obtain ⟨ih0, ih1, ih2⟩ := spec_SchemaOK.mono_l k
  refine ⟨?_, ?_, ?_⟩
  all_goals intros
  all_goals first | unfold spec_SchemaOK.j0 | unfold spec_SchemaOK.l0 | unfold spec_SchemaOK.j2
  all_goals
   repeat' first
   | (with_reducible exact ih0 _ _)
   | (with_reducible exact ih1 _ _)
   | (with_reducible exact ih2 _ _ _)
   | (with_reducible exact spec_AnalyzerOK.mono _ _ _ _ _ _ _ _)
   | (with_reducible exact spec_l06Name.mono _ _)
   | (with_reducible exact LeO.refl _)
   | (with_reducible exact LeO.none _)
   | (with_reducible refine LeO.ite ?_ ?_)
   | (with_reducible refine LeO.bind ?_ (fun _ => ?_))
theorem spec_SchemaOK.mono : ∀ a0 k, LeO (spec_SchemaOK.f k a0) (spec_SchemaOK.f (k + 1) a0) := by
 intro a0 k
 obtain ⟨ih0, ih1, ih2⟩ := spec_SchemaOK.mono_l k
 unfold spec_SchemaOK.f
 repeat' first
  | (with_reducible exact ih0 _ _)
  | (with_reducible exact ih1 _ _)
  | (with_reducible exact ih2 _ _ _)
  | (with_reducible exact spec_AnalyzerOK.mono _ _ _ _ _ _ _ _)
  | (with_reducible exact spec_l06Name.mono _ _)
  | (with_reducible exact LeO.refl _)
  | (with_reducible exact LeO.none _)
  | (with_reducible refine LeO.ite ?_ ?_)
  | (with_reducible refine LeO.bind ?_ (fun _ => ?_))
def spec_SchemaOK.T7 : Bool × List (List Nat × List Nat) := (true, [([], []), ([0], [0]), ([1], [1]), ([2], [2]), ([3, 2], [3]), ([4], [4]), ([5, 4], [4, 5]), ([6, 4, 4], [4, 6]), ([7], [7]), ([8, 7], [7, 8]), ([7], [7]), ([10, 7], [7, 10]), ([7], [7]), ([12, 7], [7, 12]), ([11, 13, 7], [7, 11, 13]), ([14, 7], [7, 14]), ([15, 7], [7, 15]), ([9, 16, 7], [7, 9, 16]), ([7, 17, 4], [4, 7, 17]), ([4, 18], [4, 18]), ([19, 7], [19]), ([20], [20]), ([21, 20], [20, 21]), ([22, 20], [20, 22]), ([20, 23], [20, 23]), ([24, 20], [24]), ([25], [25]), ([26, 25], [25, 26]), ([27, 25], [25, 27]), ([25, 28], [25, 28]), ([29, 25], [29]), ([30], [30]), ([31, 30], [30, 31]), ([32, 30, 30], [30, 32]), ([33, 30], [30, 33]), ([30, 34], [30, 34]), ([35, 33], [35]), ([36], [36]), ([37, 36], [36, 37]), ([38, 36], [36, 38]), ([39, 36, 36], [36, 39]), ([40], [40]), ([41, 40], [40, 41]), ([42, 40, 40], [40, 42]), ([43, 40], [40, 43]), ([40, 44, 36], [36, 40, 44]), ([36, 45], [36, 45])])
def spec_SchemaOK.B7 : List Nat := [0, 1, 3, 7, 15, 31, 63, 127, 255, 511, 255, 1279, 255, 4351, 15615, 31999, 64767, 131071, 262143, 524287, 1048575, 2097151, 4194303, 8388607, 16777215, 33554431, 67108863, 134217727, 268435455, 536870911, 1073741823, 2147483647, 4294967295, 8589934591, 17179869183, 34359738367, 68719476735, 137438953471, 274877906943, 549755813887, 1099511627775, 2199023255551, 4398046511103, 8796093022207, 17592186044415, 35184372088831, 70368744177663]
theorem spec_SchemaOK.tab7 : rtab .any (opsOf Tryd.f5 7) = spec_SchemaOK.T7 := by kernel_rfl
theorem spec_SchemaOK.bits7 : waitsOk spec_SchemaOK.T7.2 spec_SchemaOK.B7 = true := by kernel_rfl
set_option maxHeartbeats 60000000 in
set_option maxRecDepth 100000 in
theorem spec_SchemaOK.calls (k : Nat) (A0_0 : Option Addr) (c0_0 : Nat) (l0_0 : List (S39)) (r : Bool) (w : World) (hr0_0 : Kd.C k39 w A0_0 l0_0.length l0_0) (hc0_0 : l0_0.length ≤ c0_0) (h : spec_SchemaOK.f k l0_0 = some r) :
 Calls Tryd.prog 5 #[.agg #[.slice A0_0 l0_0.length c0_0]] w fun e w' => e = .returned (.bool r) ∧ Below w.heap.size w w' := by
 have hu29 := Tryd.underlying29
 have hu39 := Tryd.underlying39
 have hu37 := Tryd.underlying37
 have HR0_0 := Aside0.mk hr0_0
 have HC0_0 := Aside0.mk hc0_0
 clear hr0_0 hc0_0
 have HB := Aside0.mk (Below.refl w.heap.size w)
 have H := h
 unfold spec_SchemaOK.f at H
 clear h
 have HC2 := Aside0.mk H
 clear H
 go_enter Tryd.func5, Tryd.ntmps5
 go_upto_region 1 with (first | ((with_reducible refine gate_dst (N := 1) rfl ?_); (try (refine gate_guard (by rfl) ?_; dsimp only)); refine box_event (by rfl) (N := 1) (by rfl) (cs := #[.slice A0_0 l0_0.length c0_0]) (t := 29) zgs ?_; intro gb155 hg w3 hbox hb; have BK155 := Aside0.mk (hbox); have GW155 := zge hg (below_size (zh HB)); have GE155 := zge hg (below_size (zh HB)); replace HB := Aside0.mk (below_step (zh HB) hb); clear hb hbox hg))
 (try simp only [Act.put, List.setIfInBounds_toArray, List.set_cons_zero, List.set_cons_succ])
 go_cut [14] (fun v14 wc => ∃ (kq : Nat) (x14_1 : Bool), v14 = .bool x14_1 ∧ Aside0 (spec_SchemaOK.j0 kq x14_1 l0_0 = some r) ∧ Aside0 (kq ≤ k) ∧ Aside0 (wc.heap[gb155]? = some (.cells #[(.slice A0_0 l0_0.length c0_0)] 29 (0, 0))) ∧ Aside0 (Below w.heap.size w wc))
 case first =>
  have H := HC2.out
  clear HC2
  by_cases c4 : (l0_0.length : Int) < 1
  ·rw [if_pos c4] at H
   have c4b0 : decide ((l0_0.length : Int) < 1) = true := decide_eq_true c4
   have c4b1 : decide (l0_0.length < 1) = true := decide_eq_true (by omega)
   clear c4
   (first | rw [c4b0] | (simp only [i64_w, i32_w]; rw [c4b0]) | skip)
   have H' := Aside0.mk H
   clear H
   obtain ⟨hcz5_0, hfz5_0⟩ := zc1 BK155
   go_wp2
   go_meet
   case rel => exact ⟨_, (true), zrs, H', ⟨by first | omega | exact Nat.le_refl _⟩, ⟨zb BK155⟩, ⟨zg HB⟩⟩
  rw [if_neg c4] at H
  have c4b0 : decide ((l0_0.length : Int) < 1) = false := decide_eq_false c4
  have c4b1 : decide (l0_0.length < 1) = false := decide_eq_false (by omega)
  clear c4
  (first | rw [c4b0] | (simp only [i64_w, i32_w]; rw [c4b0]) | skip)
  have H' := Aside0.mk H
  clear H
  obtain ⟨hcz6_0, hfz6_0⟩ := zc1 BK155
  go_wp2
  go_meet
  case rel => exact ⟨_, (decide ((l0_0.length : Int) > 16)), zrs, H', ⟨by first | omega | exact Nat.le_refl _⟩, ⟨zb BK155⟩, ⟨zg HB⟩⟩
 case rest =>
  clear HC2
  obtain ⟨kq, x14_1, rfl, HA, HJ1, BK155, HB⟩ := hcut
  cases kq with
  | zero => exact absurd HA.out (by simp [spec_SchemaOK.j0])
  | succ kj1 =>
   have H := HA.out
   clear HA
   simp only [spec_SchemaOK.j0] at H
   by_cases c7 : x14_1 = true
   ·subst c7
    rw [if_pos rfl] at H
    obtain rfl := Option.some.inj H
    go_wp2
    go_ret
    exact ⟨zre, zg HB⟩
   replace c7 := Bool.eq_false_iff.mpr c7
   subst c7
   rw [if_neg (show ¬ (false = true) by decide)] at H
   have H' := Aside0.mk H
   clear H
   go_wp2
   go_loopg [3] kj1 (fun kq v3 w' => ∃ (x3_2 : Int), v3 = .int .i64 x3_2 ∧ Aside0 (spec_SchemaOK.l0 kq x3_2 l0_0 = some r) ∧ Aside0 (kq ≤ kj1) ∧ Aside0 (w'.heap[gb155]? = some (.cells #[(.slice A0_0 l0_0.length c0_0)] 29 (0, 0))) ∧ Aside0 (Below w.heap.size w w'))
   case atStart => exact ⟨(0), zrs, H', ⟨Nat.le_refl _⟩, ⟨zb BK155⟩, ⟨zg HB⟩⟩
   case round =>
    clear H'
    try clear c7
    obtain ⟨x3_2, rfl, HA, HK2, BK155, HB⟩ := hrel
    cases gk with
    | zero => exact absurd HA.out (by simp [spec_SchemaOK.l0])
    | succ k2 =>
     have H := HA.out
     clear HA
     simp only [spec_SchemaOK.l0] at H
     by_cases c8 : x3_2 < (l0_0.length : Int)
     rotate_left
     ·rw [if_neg c8] at H
      have c8b0 : decide (x3_2 < (l0_0.length : Int)) = false := decide_eq_false c8
      clear c8
      obtain rfl := Option.some.inj H
      obtain ⟨hcz75_0, hfz75_0⟩ := zc1 BK155
      go_wp2
      go_ret
      exact ⟨zre, zg HB⟩

     rw [if_pos c8] at H
     have c8b0 : decide (x3_2 < (l0_0.length : Int)) = true := decide_eq_true c8
     clear c8
     by_cases c9 : 0 ≤ x3_2
     rotate_left
     ·rw [if_neg c9] at H
      exact absurd H (by simp)
     rw [if_pos c9] at H
     have c9b0 : decide (0 ≤ x3_2) = true := decide_eq_true c9
     clear c9
     have HC10 := Aside0.mk H
     clear H
     obtain ⟨hcz11_0, hfz11_0⟩ := zc1 BK155
     have p156 : 0 ≤ (x3_2 : Int) := of_decide_eq_true zas
     have q156 : x3_2 < (l0_0.length : Int) := of_decide_eq_true zas
     obtain ⟨ad156, A156_5, c156_5, A156_6, c156_6, e156, hx156_0, hx156_1, hx156_2, hx156_3, hx156_4, hx156_5, hx156_6, hx156_7, hx156_8, hl156_5, hi156_5, hl156_6, hi156_6⟩ := at_T39 HR0_0.out x3_2 p156 q156
     cases e156
     replace hx156_0 := zx HB hx156_0
     replace hx156_1 := zx HB hx156_1
     replace hx156_2 := zx HB hx156_2
     replace hx156_3 := zx HB hx156_3
     replace hx156_4 := zx HB hx156_4
     replace hx156_5 := zx HB hx156_5
     replace hx156_6 := zx HB hx156_6
     replace hx156_7 := zx HB hx156_7
     replace hx156_8 := zx HB hx156_8
     have HR156_5 := Aside0.mk hi156_5
     have HC156_5 := Aside0.mk hl156_5
     clear hi156_5 hl156_5
     have HR156_6 := Aside0.mk hi156_6
     have HC156_6 := Aside0.mk hl156_6
     clear hi156_6 hl156_6
     replace p156 := eq_true p156
     replace q156 := eq_true q156
     go_upto_region 7 with (first | ((with_reducible refine gate_dst (N := 4) rfl ?_); (try (refine gate_guard (by rfl) ?_; dsimp only)); refine box_event (by rfl) (N := 4) (by rfl) (cs := #[.string (⟨#[]⟩ : ByteArray), .int .i64 0, .bool false, .bool false, .bool false, .slice none 0 0, .slice none 0 0, .int .i64 0, .int .i64 0]) (t := 39) zgs ?_; intro gb157 hg w12 hbox hb; have BK157 := Aside0.mk (hbox); have GW157 := zge hg (below_size (zg HB)); have GE157 := zge hg (below_size (zg HB)); replace HB := Aside0.mk (below_step (zg HB) hb); have NB155_157 := znl hg (blk_lt (zb BK155)); have NB157_155 := zng hg (blk_lt (zb BK155)); replace BK155 := Aside0.mk (blk_below (zb BK155) hb); clear hb hbox hg; have hnb13 := NB157_155.out; have hnc13 := NB155_157.out; have hcz14_0 : w12.cell? ⟨gb157, 0, none⟩ = some (.string (⟨#[]⟩ : ByteArray)) := (blk_cell BK157.out 0).trans rfl; have hcz14_1 : w12.cell? ⟨gb157, 1, none⟩ = some (.int .i64 0) := (blk_cell BK157.out 1).trans rfl; have hcz14_2 : w12.cell? ⟨gb157, 2, none⟩ = some (.bool false) := (blk_cell BK157.out 2).trans rfl; have hcz14_3 : w12.cell? ⟨gb157, 3, none⟩ = some (.bool false) := (blk_cell BK157.out 3).trans rfl; have hcz14_4 : w12.cell? ⟨gb157, 4, none⟩ = some (.bool false) := (blk_cell BK157.out 4).trans rfl; have hcz14_5 : w12.cell? ⟨gb157, 5, none⟩ = some (.slice none 0 0) := (blk_cell BK157.out 5).trans rfl; have hcz14_6 : w12.cell? ⟨gb157, 6, none⟩ = some (.slice none 0 0) := (blk_cell BK157.out 6).trans rfl; have hcz14_7 : w12.cell? ⟨gb157, 7, none⟩ = some (.int .i64 0) := (blk_cell BK157.out 7).trans rfl; have hcz14_8 : w12.cell? ⟨gb157, 8, none⟩ = some (.int .i64 0) := (blk_cell BK157.out 8).trans rfl; have hfz14_0 := blk_frozen BK157.out 0; have hfz14_1 := blk_frozen BK157.out 1; have hfz14_2 := blk_frozen BK157.out 2; have hfz14_3 := blk_frozen BK157.out 3; have hfz14_4 := blk_frozen BK157.out 4; have hfz14_5 := blk_frozen BK157.out 5; have hfz14_6 := blk_frozen BK157.out 6; have hfz14_7 := blk_frozen BK157.out 7; have hfz14_8 := blk_frozen BK157.out 8))
     (try simp only [Act.put, List.setIfInBounds_toArray, List.set_cons_zero, List.set_cons_succ])
     go_cut [73] (fun v73 wc => ∃ (kq : Nat) (x73_9 : Bool), v73 = .bool x73_9 ∧ Aside0 (spec_SchemaOK.j2 kq x3_2 x73_9 l0_0 = some r) ∧ Aside0 (kq ≤ k2) ∧ Aside0 (wc.heap[gb155]? = some (.cells #[(.slice (some ad156) l0_0.length c0_0)] 29 (0, 0))) ∧ Aside0 (wc.heap[gb157]? = some (.cells #[.string ((rd_T39 l0_0 x3_2).f0), .int .i64 ((rd_T39 l0_0 x3_2).f1), .bool ((rd_T39 l0_0 x3_2).f2.f0), .bool ((rd_T39 l0_0 x3_2).f2.f1), .bool ((rd_T39 l0_0 x3_2).f2.f2), (.slice A156_5 ((rd_T39 l0_0 x3_2).f2.f3).length c156_5), (.slice A156_6 ((rd_T39 l0_0 x3_2).f2.f4).length c156_6), .int .i64 ((rd_T39 l0_0 x3_2).f2.f5), .int .i64 ((rd_T39 l0_0 x3_2).f2.f6)] 39 (0, 0))) ∧ Aside0 (Below w.heap.size w wc))
     case first =>
      have H := HC10.out
      clear HC10
      replace H := Option.bind_eq_some_iff.mp H
      obtain ⟨t158, A150, H⟩ := H
      try dsimp only at H
      have A15 := Aside0.mk A150
      clear A150
      by_cases c16 : t158 = true
      rotate_left
      ·replace c16 := Bool.eq_false_iff.mpr c16
       subst c16
       rw [if_neg (show ¬ (false = true) by decide)] at H
       have H' := Aside0.mk H
       clear H
       try go_wp2
       have n0_ : Aside0 ((((((((((w12.setCell ⟨gb157, 0, none⟩ (.string ((rd_T39 l0_0 x3_2).f0))).setCell ⟨gb157, 1, none⟩ (.int .i64 ((rd_T39 l0_0 x3_2).f1))).setCell ⟨gb157, 2, none⟩ (.bool ((rd_T39 l0_0 x3_2).f2.f0))).setCell ⟨gb157, 3, none⟩ (.bool ((rd_T39 l0_0 x3_2).f2.f1))).setCell ⟨gb157, 4, none⟩ (.bool ((rd_T39 l0_0 x3_2).f2.f2))).setCell ⟨gb157, 5, none⟩ (.slice A156_5 ((rd_T39 l0_0 x3_2).f2.f3).length c156_5)).setCell ⟨gb157, 6, none⟩ (.slice A156_6 ((rd_T39 l0_0 x3_2).f2.f4).length c156_6)).setCell ⟨gb157, 7, none⟩ (.int .i64 ((rd_T39 l0_0 x3_2).f2.f5))).setCell ⟨gb157, 8, none⟩ (.int .i64 ((rd_T39 l0_0 x3_2).f2.f6))).heap[gb155]? = some (.cells #[.slice (some ad156) l0_0.length c0_0] 29 (0, 0))) := ⟨zp BK155⟩
       have n1_ : Aside0 ((((((((((w12.setCell ⟨gb157, 0, none⟩ (.string ((rd_T39 l0_0 x3_2).f0))).setCell ⟨gb157, 1, none⟩ (.int .i64 ((rd_T39 l0_0 x3_2).f1))).setCell ⟨gb157, 2, none⟩ (.bool ((rd_T39 l0_0 x3_2).f2.f0))).setCell ⟨gb157, 3, none⟩ (.bool ((rd_T39 l0_0 x3_2).f2.f1))).setCell ⟨gb157, 4, none⟩ (.bool ((rd_T39 l0_0 x3_2).f2.f2))).setCell ⟨gb157, 5, none⟩ (.slice A156_5 ((rd_T39 l0_0 x3_2).f2.f3).length c156_5)).setCell ⟨gb157, 6, none⟩ (.slice A156_6 ((rd_T39 l0_0 x3_2).f2.f4).length c156_6)).setCell ⟨gb157, 7, none⟩ (.int .i64 ((rd_T39 l0_0 x3_2).f2.f5))).setCell ⟨gb157, 8, none⟩ (.int .i64 ((rd_T39 l0_0 x3_2).f2.f6))).heap[gb157]? = some (.cells #[.string ((rd_T39 l0_0 x3_2).f0), .int .i64 ((rd_T39 l0_0 x3_2).f1), .bool ((rd_T39 l0_0 x3_2).f2.f0), .bool ((rd_T39 l0_0 x3_2).f2.f1), .bool ((rd_T39 l0_0 x3_2).f2.f2), .slice A156_5 ((rd_T39 l0_0 x3_2).f2.f3).length c156_5, .slice A156_6 ((rd_T39 l0_0 x3_2).f2.f4).length c156_6, .int .i64 ((rd_T39 l0_0 x3_2).f2.f5), .int .i64 ((rd_T39 l0_0 x3_2).f2.f6)] 39 (0, 0))) := ⟨zp BK157⟩
       have n2_ : Aside0 (Below w.heap.size w (((((((((w12.setCell ⟨gb157, 0, none⟩ (.string ((rd_T39 l0_0 x3_2).f0))).setCell ⟨gb157, 1, none⟩ (.int .i64 ((rd_T39 l0_0 x3_2).f1))).setCell ⟨gb157, 2, none⟩ (.bool ((rd_T39 l0_0 x3_2).f2.f0))).setCell ⟨gb157, 3, none⟩ (.bool ((rd_T39 l0_0 x3_2).f2.f1))).setCell ⟨gb157, 4, none⟩ (.bool ((rd_T39 l0_0 x3_2).f2.f2))).setCell ⟨gb157, 5, none⟩ (.slice A156_5 ((rd_T39 l0_0 x3_2).f2.f3).length c156_5)).setCell ⟨gb157, 6, none⟩ (.slice A156_6 ((rd_T39 l0_0 x3_2).f2.f4).length c156_6)).setCell ⟨gb157, 7, none⟩ (.int .i64 ((rd_T39 l0_0 x3_2).f2.f5))).setCell ⟨gb157, 8, none⟩ (.int .i64 ((rd_T39 l0_0 x3_2).f2.f6)))) := ⟨zg HB⟩
       (try clear BK155)
       (try clear BK157)
       (try clear HB)
       generalize (((((((((w12.setCell ⟨gb157, 0, none⟩ (.string ((rd_T39 l0_0 x3_2).f0))).setCell ⟨gb157, 1, none⟩ (.int .i64 ((rd_T39 l0_0 x3_2).f1))).setCell ⟨gb157, 2, none⟩ (.bool ((rd_T39 l0_0 x3_2).f2.f0))).setCell ⟨gb157, 3, none⟩ (.bool ((rd_T39 l0_0 x3_2).f2.f1))).setCell ⟨gb157, 4, none⟩ (.bool ((rd_T39 l0_0 x3_2).f2.f2))).setCell ⟨gb157, 5, none⟩ (.slice A156_5 ((rd_T39 l0_0 x3_2).f2.f3).length c156_5)).setCell ⟨gb157, 6, none⟩ (.slice A156_6 ((rd_T39 l0_0 x3_2).f2.f4).length c156_6)).setCell ⟨gb157, 7, none⟩ (.int .i64 ((rd_T39 l0_0 x3_2).f2.f5))).setCell ⟨gb157, 8, none⟩ (.int .i64 ((rd_T39 l0_0 x3_2).f2.f6))) = w72 at n0_ n1_ n2_ ⊢
       have BK155 := n0_
       have BK157 := n1_
       have HB := n2_
       clear n0_ n1_ n2_
       replace BK155 := Aside0.mk (blk_drew BK155.out)
       replace BK157 := Aside0.mk (blk_drew BK157.out)
       replace HB := Aside0.mk (below_drew1 HB.out)
       refine start_ (n := 47) (S := fun w' => w'.cell? ⟨gb157, 0, none⟩ = some (.string ((rd_T39 l0_0 x3_2).f0)) ∧ w'.cell? ⟨gb157, 1, none⟩ = some (.int .i64 ((rd_T39 l0_0 x3_2).f1)) ∧ w'.cell? ⟨gb157, 2, none⟩ = some (.bool ((rd_T39 l0_0 x3_2).f2.f0)) ∧ w'.cell? ⟨gb157, 3, none⟩ = some (.bool ((rd_T39 l0_0 x3_2).f2.f1)) ∧ w'.cell? ⟨gb157, 4, none⟩ = some (.bool ((rd_T39 l0_0 x3_2).f2.f2)) ∧ w'.cell? ⟨gb157, 5, none⟩ = some (.slice A156_5 ((rd_T39 l0_0 x3_2).f2.f3).length c156_5) ∧ w'.cell? ⟨gb157, 6, none⟩ = some (.slice A156_6 ((rd_T39 l0_0 x3_2).f2.f4).length c156_6) ∧ w'.cell? ⟨gb157, 7, none⟩ = some (.int .i64 ((rd_T39 l0_0 x3_2).f2.f5)) ∧ w'.cell? ⟨gb157, 8, none⟩ = some (.int .i64 ((rd_T39 l0_0 x3_2).f2.f6))) (ds := []) (fl6_ 47 0) (by kernel_rfl) rfl rfl ⟨(blk_cell BK157.out 0).trans rfl, (blk_cell BK157.out 1).trans rfl, (blk_cell BK157.out 2).trans rfl, (blk_cell BK157.out 3).trans rfl, (blk_cell BK157.out 4).trans rfl, (blk_cell BK157.out 5).trans rfl, (blk_cell BK157.out 6).trans rfl, (blk_cell BK157.out 7).trans rfl, (blk_cell BK157.out 8).trans rfl⟩ (fun hHeld => ?_); refine with_tabW spec_SchemaOK.tab7 spec_SchemaOK.bits7 (fun HT_ HW_ => ?_)
       generalize w72.drew = w73 at BK155 BK157 HB hHeld ⊢
       refine zpu HT_ 0 27 (fl6_ 47 1) ?_
       refine take_ (i := 1) (N := some 28) (v := ?_) (a' := ?_) (fl6_ 47 3) rfl rfl (take_ofW HT_.out HW_.out (by kernel_rfl)) (fun _ _ _ h => h) (Or.inl ⟨by rfl, ?_⟩) hHeld ?_ ?_
       rotate_left
       ·rintro w' ⟨s0, s1, s2, s3, s4, s5, s6, s7, s8⟩
        go_simp
        with_reducible rfl
       rotate_left
       ·simp only [Act.put, List.setIfInBounds_toArray, List.set_cons_zero, List.set_cons_succ, i64_w, i32_w]
        rfl
       refine one_ (i := 2) (N := some 29) (fl6_ 47 7) rfl rfl (one_of HT_.out (by kernel_rfl)) (by decide) (fun K hK => ?_)
       refine goes_ Tryd.func10 (by kernel_rfl) rfl #[.string ((rd_T39 l0_0 x3_2).f0)] (by rfl) rfl rfl zar ?_
       with_reducible refine (spec_l06Name.calls k2 ((rd_T39 l0_0 x3_2).f0) false _ A15.out).mono ?_
       rintro e w' ⟨rfl, ⟨nd, rfl⟩⟩
       refine ⟨_, rfl, ?_⟩
       refine hK.out _ _ ⟨(blk_cell BK157.out 0).trans rfl, (blk_cell BK157.out 1).trans rfl, (blk_cell BK157.out 2).trans rfl, (blk_cell BK157.out 3).trans rfl, (blk_cell BK157.out 4).trans rfl, (blk_cell BK157.out 5).trans rfl, (blk_cell BK157.out 6).trans rfl, (blk_cell BK157.out 7).trans rfl, (blk_cell BK157.out 8).trans rfl⟩ (fun hHeld => ?_)
       clear hK K
       refine norm_ (a' := ?_) ?_ ?_
       rotate_left
       ·show Act.put _ (some 29) _ = _
        simp only [Act.put, List.setIfInBounds_toArray, List.set_cons_zero, List.set_cons_succ, i64_w, i32_w]
        rfl
       refine zpu HT_ 3 30 (fl6_ 47 15) ?_
       refine zpu HT_ 4 31 (fl6_ 47 31) ?_
       refine pure_ (i := 5) (N := some 32) (v := undef) (a' := ?_) (fl6_ 47 63) rfl rfl (any_of HT_.out (by kernel_rfl)) (fun _ _ _ h => h) (Or.inr ⟨by rfl, rfl⟩) ?_ ?_
       rotate_left
       ·simp only [Act.put, List.setIfInBounds_toArray, List.set_cons_zero, List.set_cons_succ, i64_w, i32_w]
        rfl
       refine pure_ (i := 6) (N := some 33) (v := undef) (a' := ?_) (fl6_ 47 127) rfl rfl (any_of HT_.out (by kernel_rfl)) (fun _ _ _ h => h) (Or.inr ⟨by rfl, rfl⟩) ?_ ?_
       rotate_left
       ·simp only [Act.put, List.setIfInBounds_toArray, List.set_cons_zero, List.set_cons_succ, i64_w, i32_w]
        rfl
       refine pure_ (i := 7) (N := some 34) (v := undef) (a' := ?_) (fl6_ 47 255) rfl rfl (any_of HT_.out (by kernel_rfl)) (fun _ _ _ h => h) (Or.inr ⟨by rfl, rfl⟩) ?_ ?_
       rotate_left
       ·simp only [Act.put, List.setIfInBounds_toArray, List.set_cons_zero, List.set_cons_succ, i64_w, i32_w]
        rfl
       refine pure_ (i := 8) (N := some 35) (v := undef) (a' := ?_) (fl6_ 47 511) rfl rfl (any_of HT_.out (by kernel_rfl)) (fun _ _ _ h => h) (Or.inr ⟨by rfl, rfl⟩) ?_ ?_
       rotate_left
       ·simp only [Act.put, List.setIfInBounds_toArray, List.set_cons_zero, List.set_cons_succ, i64_w, i32_w]
        rfl
       refine pure_ (i := 9) (N := some 36) (v := undef) (a' := ?_) (fl6_ 47 1023) rfl rfl (any_of HT_.out (by kernel_rfl)) (fun _ _ _ h => h) (Or.inr ⟨by rfl, rfl⟩) ?_ ?_
       rotate_left
       ·simp only [Act.put, List.setIfInBounds_toArray, List.set_cons_zero, List.set_cons_succ, i64_w, i32_w]
        rfl
       refine pure_ (i := 10) (N := some 37) (v := undef) (a' := ?_) (fl6_ 47 2047) rfl rfl (any_of HT_.out (by kernel_rfl)) (fun _ _ _ h => h) (Or.inr ⟨by rfl, rfl⟩) ?_ ?_
       rotate_left
       ·simp only [Act.put, List.setIfInBounds_toArray, List.set_cons_zero, List.set_cons_succ, i64_w, i32_w]
        rfl
       refine pure_ (i := 11) (N := some 38) (v := undef) (a' := ?_) (fl6_ 47 4095) rfl rfl (any_of HT_.out (by kernel_rfl)) (fun _ _ _ h => h) (Or.inr ⟨by rfl, rfl⟩) ?_ ?_
       rotate_left
       ·simp only [Act.put, List.setIfInBounds_toArray, List.set_cons_zero, List.set_cons_succ, i64_w, i32_w]
        rfl
       refine pure_ (i := 12) (N := some 39) (v := undef) (a' := ?_) (fl6_ 47 8191) rfl rfl (any_of HT_.out (by kernel_rfl)) (fun _ _ _ h => h) (Or.inr ⟨by rfl, rfl⟩) ?_ ?_
       rotate_left
       ·simp only [Act.put, List.setIfInBounds_toArray, List.set_cons_zero, List.set_cons_succ, i64_w, i32_w]
        rfl
       refine pure_ (i := 13) (N := some 40) (v := undef) (a' := ?_) (fl6_ 47 16383) rfl rfl (any_of HT_.out (by kernel_rfl)) (fun _ _ _ h => h) (Or.inr ⟨by rfl, rfl⟩) ?_ ?_
       rotate_left
       ·simp only [Act.put, List.setIfInBounds_toArray, List.set_cons_zero, List.set_cons_succ, i64_w, i32_w]
        rfl
       refine pure_ (i := 14) (N := some 41) (v := undef) (a' := ?_) (fl6_ 47 32767) rfl rfl (any_of HT_.out (by kernel_rfl)) (fun _ _ _ h => h) (Or.inr ⟨by rfl, rfl⟩) ?_ ?_
       rotate_left
       ·simp only [Act.put, List.setIfInBounds_toArray, List.set_cons_zero, List.set_cons_succ, i64_w, i32_w]
        rfl
       refine pure_ (i := 15) (N := some 42) (v := undef) (a' := ?_) (fl6_ 47 65535) rfl rfl (any_of HT_.out (by kernel_rfl)) (fun _ _ _ h => h) (Or.inr ⟨by rfl, rfl⟩) ?_ ?_
       rotate_left
       ·simp only [Act.put, List.setIfInBounds_toArray, List.set_cons_zero, List.set_cons_succ, i64_w, i32_w]
        rfl
       refine pure_ (i := 16) (N := some 43) (v := undef) (a' := ?_) (fl6_ 47 131071) rfl rfl (any_of HT_.out (by kernel_rfl)) (fun _ _ _ h => h) (Or.inr ⟨by rfl, rfl⟩) ?_ ?_
       rotate_left
       ·simp only [Act.put, List.setIfInBounds_toArray, List.set_cons_zero, List.set_cons_succ, i64_w, i32_w]
        rfl
       refine pure_ (i := 17) (N := some 44) (v := undef) (a' := ?_) (fl6_ 47 262143) rfl rfl (any_of HT_.out (by kernel_rfl)) (fun _ _ _ h => h) (Or.inr ⟨by rfl, rfl⟩) ?_ ?_
       rotate_left
       ·simp only [Act.put, List.setIfInBounds_toArray, List.set_cons_zero, List.set_cons_succ, i64_w, i32_w]
        rfl
       refine pure_ (i := 18) (N := some 45) (v := undef) (a' := ?_) (fl6_ 47 524287) rfl rfl (any_of HT_.out (by kernel_rfl)) (fun _ _ _ h => h) (Or.inr ⟨by rfl, rfl⟩) ?_ ?_
       rotate_left
       ·simp only [Act.put, List.setIfInBounds_toArray, List.set_cons_zero, List.set_cons_succ, i64_w, i32_w]
        rfl
       refine zpu HT_ 19 46 (fl6_ 47 1048575) ?_
       refine zpu HT_ 20 47 (fl6_ 47 2097151) ?_
       refine pure_ (i := 21) (N := some 48) (v := undef) (a' := ?_) (fl6_ 47 4194303) rfl rfl (any_of HT_.out (by kernel_rfl)) (fun _ _ _ h => h) (Or.inr ⟨by rfl, rfl⟩) ?_ ?_
       rotate_left
       ·simp only [Act.put, List.setIfInBounds_toArray, List.set_cons_zero, List.set_cons_succ, i64_w, i32_w]
        rfl
       refine pure_ (i := 22) (N := some 49) (v := undef) (a' := ?_) (fl6_ 47 8388607) rfl rfl (any_of HT_.out (by kernel_rfl)) (fun _ _ _ h => h) (Or.inr ⟨by rfl, rfl⟩) ?_ ?_
       rotate_left
       ·simp only [Act.put, List.setIfInBounds_toArray, List.set_cons_zero, List.set_cons_succ, i64_w, i32_w]
        rfl
       refine pure_ (i := 23) (N := some 50) (v := undef) (a' := ?_) (fl6_ 47 16777215) rfl rfl (any_of HT_.out (by kernel_rfl)) (fun _ _ _ h => h) (Or.inr ⟨by rfl, rfl⟩) ?_ ?_
       rotate_left
       ·simp only [Act.put, List.setIfInBounds_toArray, List.set_cons_zero, List.set_cons_succ, i64_w, i32_w]
        rfl
       refine zpu HT_ 24 51 (fl6_ 47 33554431) ?_
       refine zpu HT_ 25 52 (fl6_ 47 67108863) ?_
       refine pure_ (i := 26) (N := some 53) (v := undef) (a' := ?_) (fl6_ 47 134217727) rfl rfl (any_of HT_.out (by kernel_rfl)) (fun _ _ _ h => h) (Or.inr ⟨by rfl, rfl⟩) ?_ ?_
       rotate_left
       ·simp only [Act.put, List.setIfInBounds_toArray, List.set_cons_zero, List.set_cons_succ, i64_w, i32_w]
        rfl
       refine pure_ (i := 27) (N := some 54) (v := undef) (a' := ?_) (fl6_ 47 268435455) rfl rfl (any_of HT_.out (by kernel_rfl)) (fun _ _ _ h => h) (Or.inr ⟨by rfl, rfl⟩) ?_ ?_
       rotate_left
       ·simp only [Act.put, List.setIfInBounds_toArray, List.set_cons_zero, List.set_cons_succ, i64_w, i32_w]
        rfl
       refine pure_ (i := 28) (N := some 55) (v := undef) (a' := ?_) (fl6_ 47 536870911) rfl rfl (any_of HT_.out (by kernel_rfl)) (fun _ _ _ h => h) (Or.inr ⟨by rfl, rfl⟩) ?_ ?_
       rotate_left
       ·simp only [Act.put, List.setIfInBounds_toArray, List.set_cons_zero, List.set_cons_succ, i64_w, i32_w]
        rfl
       refine zpu HT_ 29 56 (fl6_ 47 1073741823) ?_
       refine zpu HT_ 30 57 (fl6_ 47 2147483647) ?_
       refine pure_ (i := 31) (N := some 58) (v := undef) (a' := ?_) (fl6_ 47 4294967295) rfl rfl (any_of HT_.out (by kernel_rfl)) (fun _ _ _ h => h) (Or.inr ⟨by rfl, rfl⟩) ?_ ?_
       rotate_left
       ·simp only [Act.put, List.setIfInBounds_toArray, List.set_cons_zero, List.set_cons_succ, i64_w, i32_w]
        rfl
       refine pure_ (i := 32) (N := some 59) (v := undef) (a' := ?_) (fl6_ 47 8589934591) rfl rfl (any_of HT_.out (by kernel_rfl)) (fun _ _ _ h => h) (Or.inr ⟨by rfl, rfl⟩) ?_ ?_
       rotate_left
       ·simp only [Act.put, List.setIfInBounds_toArray, List.set_cons_zero, List.set_cons_succ, i64_w, i32_w]
        rfl
       refine pure_ (i := 33) (N := some 60) (v := undef) (a' := ?_) (fl6_ 47 17179869183) rfl rfl (any_of HT_.out (by kernel_rfl)) (fun _ _ _ h => h) (Or.inr ⟨by rfl, rfl⟩) ?_ ?_
       rotate_left
       ·simp only [Act.put, List.setIfInBounds_toArray, List.set_cons_zero, List.set_cons_succ, i64_w, i32_w]
        rfl
       refine pure_ (i := 34) (N := some 61) (v := undef) (a' := ?_) (fl6_ 47 34359738367) rfl rfl (any_of HT_.out (by kernel_rfl)) (fun _ _ _ h => h) (Or.inr ⟨by rfl, rfl⟩) ?_ ?_
       rotate_left
       ·simp only [Act.put, List.setIfInBounds_toArray, List.set_cons_zero, List.set_cons_succ, i64_w, i32_w]
        rfl
       refine zpu HT_ 35 62 (fl6_ 47 68719476735) ?_
       refine zpu HT_ 36 63 (fl6_ 47 137438953471) ?_
       refine pure_ (i := 37) (N := some 64) (v := undef) (a' := ?_) (fl6_ 47 274877906943) rfl rfl (any_of HT_.out (by kernel_rfl)) (fun _ _ _ h => h) (Or.inr ⟨by rfl, rfl⟩) ?_ ?_
       rotate_left
       ·simp only [Act.put, List.setIfInBounds_toArray, List.set_cons_zero, List.set_cons_succ, i64_w, i32_w]
        rfl
       refine pure_ (i := 38) (N := some 65) (v := undef) (a' := ?_) (fl6_ 47 549755813887) rfl rfl (any_of HT_.out (by kernel_rfl)) (fun _ _ _ h => h) (Or.inr ⟨by rfl, rfl⟩) ?_ ?_
       rotate_left
       ·simp only [Act.put, List.setIfInBounds_toArray, List.set_cons_zero, List.set_cons_succ, i64_w, i32_w]
        rfl
       refine pure_ (i := 39) (N := some 66) (v := undef) (a' := ?_) (fl6_ 47 1099511627775) rfl rfl (any_of HT_.out (by kernel_rfl)) (fun _ _ _ h => h) (Or.inr ⟨by rfl, rfl⟩) ?_ ?_
       rotate_left
       ·simp only [Act.put, List.setIfInBounds_toArray, List.set_cons_zero, List.set_cons_succ, i64_w, i32_w]
        rfl
       refine pure_ (i := 40) (N := some 67) (v := undef) (a' := ?_) (fl6_ 47 2199023255551) rfl rfl (any_of HT_.out (by kernel_rfl)) (fun _ _ _ h => h) (Or.inr ⟨by rfl, rfl⟩) ?_ ?_
       rotate_left
       ·simp only [Act.put, List.setIfInBounds_toArray, List.set_cons_zero, List.set_cons_succ, i64_w, i32_w]
        rfl
       refine pure_ (i := 41) (N := some 68) (v := undef) (a' := ?_) (fl6_ 47 4398046511103) rfl rfl (any_of HT_.out (by kernel_rfl)) (fun _ _ _ h => h) (Or.inr ⟨by rfl, rfl⟩) ?_ ?_
       rotate_left
       ·simp only [Act.put, List.setIfInBounds_toArray, List.set_cons_zero, List.set_cons_succ, i64_w, i32_w]
        rfl
       refine pure_ (i := 42) (N := some 69) (v := undef) (a' := ?_) (fl6_ 47 8796093022207) rfl rfl (any_of HT_.out (by kernel_rfl)) (fun _ _ _ h => h) (Or.inr ⟨by rfl, rfl⟩) ?_ ?_
       rotate_left
       ·simp only [Act.put, List.setIfInBounds_toArray, List.set_cons_zero, List.set_cons_succ, i64_w, i32_w]
        rfl
       refine pure_ (i := 43) (N := some 70) (v := undef) (a' := ?_) (fl6_ 47 17592186044415) rfl rfl (any_of HT_.out (by kernel_rfl)) (fun _ _ _ h => h) (Or.inr ⟨by rfl, rfl⟩) ?_ ?_
       rotate_left
       ·simp only [Act.put, List.setIfInBounds_toArray, List.set_cons_zero, List.set_cons_succ, i64_w, i32_w]
        rfl
       refine pure_ (i := 44) (N := some 71) (v := undef) (a' := ?_) (fl6_ 47 35184372088831) rfl rfl (any_of HT_.out (by kernel_rfl)) (fun _ _ _ h => h) (Or.inr ⟨by rfl, rfl⟩) ?_ ?_
       rotate_left
       ·simp only [Act.put, List.setIfInBounds_toArray, List.set_cons_zero, List.set_cons_succ, i64_w, i32_w]
        rfl
       refine pure_ (i := 45) (N := some 72) (v := undef) (a' := ?_) (fl6_ 47 70368744177663) rfl rfl (any_of HT_.out (by kernel_rfl)) (fun _ _ _ h => h) (Or.inr ⟨by rfl, rfl⟩) ?_ ?_
       rotate_left
       ·simp only [Act.put, List.setIfInBounds_toArray, List.set_cons_zero, List.set_cons_succ, i64_w, i32_w]
        rfl
       refine zpu HT_ 46 73 (fl6_ 47 140737488355327) ?_
       refine done_ (done_of HT_.out (by kernel_rfl)) ?_
       try go_wp2
       go_meet
       case rel => exact ⟨_, (true), zrs, H', ⟨by have := HJ1.out; have := HK2.out; first | omega | exact Nat.le_refl _⟩, ⟨zb BK155⟩, ⟨zb BK157⟩, ⟨zg HB⟩⟩
      subst c16
      rw [if_pos rfl] at H
      by_cases c17 : x3_2 > 0
      rotate_left
      ·rw [if_neg c17] at H
       have c17b0 : decide (0 < x3_2) = false := decide_eq_false c17
       clear c17
       (first | rw [c17b0] | (simp only [i64_w, i32_w]; rw [c17b0]) | skip)
       by_cases c48 : ((rd_T39 l0_0 x3_2).f1) < 1
       ·rw [if_pos c48] at H
        have c48b0 : decide (((rd_T39 l0_0 x3_2).f1) < 1) = true := decide_eq_true c48
        clear c48
        have H' := Aside0.mk H
        clear H
        try go_wp2
        have n0_ : Aside0 ((((((((((w12.setCell ⟨gb157, 0, none⟩ (.string ((rd_T39 l0_0 x3_2).f0))).setCell ⟨gb157, 1, none⟩ (.int .i64 ((rd_T39 l0_0 x3_2).f1))).setCell ⟨gb157, 2, none⟩ (.bool ((rd_T39 l0_0 x3_2).f2.f0))).setCell ⟨gb157, 3, none⟩ (.bool ((rd_T39 l0_0 x3_2).f2.f1))).setCell ⟨gb157, 4, none⟩ (.bool ((rd_T39 l0_0 x3_2).f2.f2))).setCell ⟨gb157, 5, none⟩ (.slice A156_5 ((rd_T39 l0_0 x3_2).f2.f3).length c156_5)).setCell ⟨gb157, 6, none⟩ (.slice A156_6 ((rd_T39 l0_0 x3_2).f2.f4).length c156_6)).setCell ⟨gb157, 7, none⟩ (.int .i64 ((rd_T39 l0_0 x3_2).f2.f5))).setCell ⟨gb157, 8, none⟩ (.int .i64 ((rd_T39 l0_0 x3_2).f2.f6))).heap[gb155]? = some (.cells #[.slice (some ad156) l0_0.length c0_0] 29 (0, 0))) := ⟨zp BK155⟩
        have n1_ : Aside0 ((((((((((w12.setCell ⟨gb157, 0, none⟩ (.string ((rd_T39 l0_0 x3_2).f0))).setCell ⟨gb157, 1, none⟩ (.int .i64 ((rd_T39 l0_0 x3_2).f1))).setCell ⟨gb157, 2, none⟩ (.bool ((rd_T39 l0_0 x3_2).f2.f0))).setCell ⟨gb157, 3, none⟩ (.bool ((rd_T39 l0_0 x3_2).f2.f1))).setCell ⟨gb157, 4, none⟩ (.bool ((rd_T39 l0_0 x3_2).f2.f2))).setCell ⟨gb157, 5, none⟩ (.slice A156_5 ((rd_T39 l0_0 x3_2).f2.f3).length c156_5)).setCell ⟨gb157, 6, none⟩ (.slice A156_6 ((rd_T39 l0_0 x3_2).f2.f4).length c156_6)).setCell ⟨gb157, 7, none⟩ (.int .i64 ((rd_T39 l0_0 x3_2).f2.f5))).setCell ⟨gb157, 8, none⟩ (.int .i64 ((rd_T39 l0_0 x3_2).f2.f6))).heap[gb157]? = some (.cells #[.string ((rd_T39 l0_0 x3_2).f0), .int .i64 ((rd_T39 l0_0 x3_2).f1), .bool ((rd_T39 l0_0 x3_2).f2.f0), .bool ((rd_T39 l0_0 x3_2).f2.f1), .bool ((rd_T39 l0_0 x3_2).f2.f2), .slice A156_5 ((rd_T39 l0_0 x3_2).f2.f3).length c156_5, .slice A156_6 ((rd_T39 l0_0 x3_2).f2.f4).length c156_6, .int .i64 ((rd_T39 l0_0 x3_2).f2.f5), .int .i64 ((rd_T39 l0_0 x3_2).f2.f6)] 39 (0, 0))) := ⟨zp BK157⟩
        have n2_ : Aside0 (Below w.heap.size w (((((((((w12.setCell ⟨gb157, 0, none⟩ (.string ((rd_T39 l0_0 x3_2).f0))).setCell ⟨gb157, 1, none⟩ (.int .i64 ((rd_T39 l0_0 x3_2).f1))).setCell ⟨gb157, 2, none⟩ (.bool ((rd_T39 l0_0 x3_2).f2.f0))).setCell ⟨gb157, 3, none⟩ (.bool ((rd_T39 l0_0 x3_2).f2.f1))).setCell ⟨gb157, 4, none⟩ (.bool ((rd_T39 l0_0 x3_2).f2.f2))).setCell ⟨gb157, 5, none⟩ (.slice A156_5 ((rd_T39 l0_0 x3_2).f2.f3).length c156_5)).setCell ⟨gb157, 6, none⟩ (.slice A156_6 ((rd_T39 l0_0 x3_2).f2.f4).length c156_6)).setCell ⟨gb157, 7, none⟩ (.int .i64 ((rd_T39 l0_0 x3_2).f2.f5))).setCell ⟨gb157, 8, none⟩ (.int .i64 ((rd_T39 l0_0 x3_2).f2.f6)))) := ⟨zg HB⟩
        (try clear BK155)
        (try clear BK157)
        (try clear HB)
        generalize (((((((((w12.setCell ⟨gb157, 0, none⟩ (.string ((rd_T39 l0_0 x3_2).f0))).setCell ⟨gb157, 1, none⟩ (.int .i64 ((rd_T39 l0_0 x3_2).f1))).setCell ⟨gb157, 2, none⟩ (.bool ((rd_T39 l0_0 x3_2).f2.f0))).setCell ⟨gb157, 3, none⟩ (.bool ((rd_T39 l0_0 x3_2).f2.f1))).setCell ⟨gb157, 4, none⟩ (.bool ((rd_T39 l0_0 x3_2).f2.f2))).setCell ⟨gb157, 5, none⟩ (.slice A156_5 ((rd_T39 l0_0 x3_2).f2.f3).length c156_5)).setCell ⟨gb157, 6, none⟩ (.slice A156_6 ((rd_T39 l0_0 x3_2).f2.f4).length c156_6)).setCell ⟨gb157, 7, none⟩ (.int .i64 ((rd_T39 l0_0 x3_2).f2.f5))).setCell ⟨gb157, 8, none⟩ (.int .i64 ((rd_T39 l0_0 x3_2).f2.f6))) = w49 at n0_ n1_ n2_ ⊢
        have BK155 := n0_
        have BK157 := n1_
        have HB := n2_
        clear n0_ n1_ n2_
        replace BK155 := Aside0.mk (blk_drew BK155.out)
        replace BK157 := Aside0.mk (blk_drew BK157.out)
        replace HB := Aside0.mk (below_drew1 HB.out)
        refine start_ (n := 47) (S := fun w' => w'.cell? ⟨gb157, 0, none⟩ = some (.string ((rd_T39 l0_0 x3_2).f0)) ∧ w'.cell? ⟨gb157, 1, none⟩ = some (.int .i64 ((rd_T39 l0_0 x3_2).f1)) ∧ w'.cell? ⟨gb157, 2, none⟩ = some (.bool ((rd_T39 l0_0 x3_2).f2.f0)) ∧ w'.cell? ⟨gb157, 3, none⟩ = some (.bool ((rd_T39 l0_0 x3_2).f2.f1)) ∧ w'.cell? ⟨gb157, 4, none⟩ = some (.bool ((rd_T39 l0_0 x3_2).f2.f2)) ∧ w'.cell? ⟨gb157, 5, none⟩ = some (.slice A156_5 ((rd_T39 l0_0 x3_2).f2.f3).length c156_5) ∧ w'.cell? ⟨gb157, 6, none⟩ = some (.slice A156_6 ((rd_T39 l0_0 x3_2).f2.f4).length c156_6) ∧ w'.cell? ⟨gb157, 7, none⟩ = some (.int .i64 ((rd_T39 l0_0 x3_2).f2.f5)) ∧ w'.cell? ⟨gb157, 8, none⟩ = some (.int .i64 ((rd_T39 l0_0 x3_2).f2.f6))) (ds := []) (fl6_ 47 0) (by kernel_rfl) rfl rfl ⟨(blk_cell BK157.out 0).trans rfl, (blk_cell BK157.out 1).trans rfl, (blk_cell BK157.out 2).trans rfl, (blk_cell BK157.out 3).trans rfl, (blk_cell BK157.out 4).trans rfl, (blk_cell BK157.out 5).trans rfl, (blk_cell BK157.out 6).trans rfl, (blk_cell BK157.out 7).trans rfl, (blk_cell BK157.out 8).trans rfl⟩ (fun hHeld => ?_); refine with_tabW spec_SchemaOK.tab7 spec_SchemaOK.bits7 (fun HT_ HW_ => ?_)
        generalize w49.drew = w50 at BK155 BK157 HB hHeld ⊢
        refine zpu HT_ 0 27 (fl6_ 47 1) ?_
        refine take_ (i := 1) (N := some 28) (v := ?_) (a' := ?_) (fl6_ 47 3) rfl rfl (take_ofW HT_.out HW_.out (by kernel_rfl)) (fun _ _ _ h => h) (Or.inl ⟨by rfl, ?_⟩) hHeld ?_ ?_
        rotate_left
        ·rintro w' ⟨s0, s1, s2, s3, s4, s5, s6, s7, s8⟩
         go_simp
         with_reducible rfl
        rotate_left
        ·simp only [Act.put, List.setIfInBounds_toArray, List.set_cons_zero, List.set_cons_succ, i64_w, i32_w]
         rfl
        refine one_ (i := 2) (N := some 29) (fl6_ 47 7) rfl rfl (one_of HT_.out (by kernel_rfl)) (by decide) (fun K hK => ?_)
        refine goes_ Tryd.func10 (by kernel_rfl) rfl #[.string ((rd_T39 l0_0 x3_2).f0)] (by rfl) rfl rfl zar ?_
        with_reducible refine (spec_l06Name.calls k2 ((rd_T39 l0_0 x3_2).f0) true _ A15.out).mono ?_
        rintro e w' ⟨rfl, ⟨nd, rfl⟩⟩
        refine ⟨_, rfl, ?_⟩
        refine hK.out _ _ ⟨(blk_cell BK157.out 0).trans rfl, (blk_cell BK157.out 1).trans rfl, (blk_cell BK157.out 2).trans rfl, (blk_cell BK157.out 3).trans rfl, (blk_cell BK157.out 4).trans rfl, (blk_cell BK157.out 5).trans rfl, (blk_cell BK157.out 6).trans rfl, (blk_cell BK157.out 7).trans rfl, (blk_cell BK157.out 8).trans rfl⟩ (fun hHeld => ?_)
        clear hK K
        refine norm_ (a' := ?_) ?_ ?_
        rotate_left
        ·show Act.put _ (some 29) _ = _
         simp only [Act.put, List.setIfInBounds_toArray, List.set_cons_zero, List.set_cons_succ, i64_w, i32_w]
         rfl
        refine zpu HT_ 3 30 (fl6_ 47 15) ?_
        refine zpu HT_ 4 31 (fl6_ 47 31) ?_
        refine zpu HT_ 5 32 (fl6_ 47 63) ?_
        refine zpu HT_ 6 33 (fl6_ 47 127) ?_
        refine zpu HT_ 7 34 (fl6_ 47 255) ?_
        refine pure_ (i := 8) (N := some 35) (v := undef) (a' := ?_) (fl6_ 47 511) rfl rfl (any_of HT_.out (by kernel_rfl)) (fun _ _ _ h => h) (Or.inr ⟨by rfl, rfl⟩) ?_ ?_
        rotate_left
        ·simp only [Act.put, List.setIfInBounds_toArray, List.set_cons_zero, List.set_cons_succ, i64_w, i32_w]
         rfl
        refine pure_ (i := 9) (N := some 36) (v := undef) (a' := ?_) (fl6_ 47 1023) rfl rfl (any_of HT_.out (by kernel_rfl)) (fun _ _ _ h => h) (Or.inr ⟨by rfl, rfl⟩) ?_ ?_
        rotate_left
        ·simp only [Act.put, List.setIfInBounds_toArray, List.set_cons_zero, List.set_cons_succ, i64_w, i32_w]
         rfl
        refine pure_ (i := 10) (N := some 37) (v := undef) (a' := ?_) (fl6_ 47 2047) rfl rfl (any_of HT_.out (by kernel_rfl)) (fun _ _ _ h => h) (Or.inr ⟨by rfl, rfl⟩) ?_ ?_
        rotate_left
        ·simp only [Act.put, List.setIfInBounds_toArray, List.set_cons_zero, List.set_cons_succ, i64_w, i32_w]
         rfl
        refine pure_ (i := 11) (N := some 38) (v := undef) (a' := ?_) (fl6_ 47 4095) rfl rfl (any_of HT_.out (by kernel_rfl)) (fun _ _ _ h => h) (Or.inr ⟨by rfl, rfl⟩) ?_ ?_
        rotate_left
        ·simp only [Act.put, List.setIfInBounds_toArray, List.set_cons_zero, List.set_cons_succ, i64_w, i32_w]
         rfl
        refine pure_ (i := 12) (N := some 39) (v := undef) (a' := ?_) (fl6_ 47 8191) rfl rfl (any_of HT_.out (by kernel_rfl)) (fun _ _ _ h => h) (Or.inr ⟨by rfl, rfl⟩) ?_ ?_
        rotate_left
        ·simp only [Act.put, List.setIfInBounds_toArray, List.set_cons_zero, List.set_cons_succ, i64_w, i32_w]
         rfl
        refine pure_ (i := 13) (N := some 40) (v := undef) (a' := ?_) (fl6_ 47 16383) rfl rfl (any_of HT_.out (by kernel_rfl)) (fun _ _ _ h => h) (Or.inr ⟨by rfl, rfl⟩) ?_ ?_
        rotate_left
        ·simp only [Act.put, List.setIfInBounds_toArray, List.set_cons_zero, List.set_cons_succ, i64_w, i32_w]
         rfl
        refine pure_ (i := 14) (N := some 41) (v := undef) (a' := ?_) (fl6_ 47 32767) rfl rfl (any_of HT_.out (by kernel_rfl)) (fun _ _ _ h => h) (Or.inr ⟨by rfl, rfl⟩) ?_ ?_
        rotate_left
        ·simp only [Act.put, List.setIfInBounds_toArray, List.set_cons_zero, List.set_cons_succ, i64_w, i32_w]
         rfl
        refine pure_ (i := 15) (N := some 42) (v := undef) (a' := ?_) (fl6_ 47 65535) rfl rfl (any_of HT_.out (by kernel_rfl)) (fun _ _ _ h => h) (Or.inr ⟨by rfl, rfl⟩) ?_ ?_
        rotate_left
        ·simp only [Act.put, List.setIfInBounds_toArray, List.set_cons_zero, List.set_cons_succ, i64_w, i32_w]
         rfl
        refine pure_ (i := 16) (N := some 43) (v := undef) (a' := ?_) (fl6_ 47 131071) rfl rfl (any_of HT_.out (by kernel_rfl)) (fun _ _ _ h => h) (Or.inr ⟨by rfl, rfl⟩) ?_ ?_
        rotate_left
        ·simp only [Act.put, List.setIfInBounds_toArray, List.set_cons_zero, List.set_cons_succ, i64_w, i32_w]
         rfl
        refine pure_ (i := 17) (N := some 44) (v := undef) (a' := ?_) (fl6_ 47 262143) rfl rfl (any_of HT_.out (by kernel_rfl)) (fun _ _ _ h => h) (Or.inr ⟨by rfl, rfl⟩) ?_ ?_
        rotate_left
        ·simp only [Act.put, List.setIfInBounds_toArray, List.set_cons_zero, List.set_cons_succ, i64_w, i32_w]
         rfl
        refine zpu HT_ 18 45 (fl6_ 47 524287) ?_
        refine zpu HT_ 19 46 (fl6_ 47 1048575) ?_
        refine zpu HT_ 20 47 (fl6_ 47 2097151) ?_
        refine zpu HT_ 21 48 (fl6_ 47 4194303) ?_
        refine take_ (i := 22) (N := some 49) (v := ?_) (a' := ?_) (fl6_ 47 8388607) rfl rfl (take_ofW HT_.out HW_.out (by kernel_rfl)) (fun _ _ _ h => h) (Or.inl ⟨by rfl, ?_⟩) hHeld ?_ ?_
        rotate_left
        ·rintro w' ⟨s0, s1, s2, s3, s4, s5, s6, s7, s8⟩
         go_simp
         with_reducible rfl
        rotate_left
        ·simp only [Act.put, List.setIfInBounds_toArray, List.set_cons_zero, List.set_cons_succ, i64_w, i32_w]
         rfl
        refine zpu HT_ 23 50 (fl6_ 47 16777215) ?_
        refine zpu HT_ 24 51 (fl6_ 47 33554431) ?_
        refine zpu HT_ 25 52 (fl6_ 47 67108863) ?_
        refine pure_ (i := 26) (N := some 53) (v := undef) (a' := ?_) (fl6_ 47 134217727) rfl rfl (any_of HT_.out (by kernel_rfl)) (fun _ _ _ h => h) (Or.inr ⟨by rfl, rfl⟩) ?_ ?_
        rotate_left
        ·simp only [Act.put, List.setIfInBounds_toArray, List.set_cons_zero, List.set_cons_succ, i64_w, i32_w]
         rfl
        refine pure_ (i := 27) (N := some 54) (v := undef) (a' := ?_) (fl6_ 47 268435455) rfl rfl (any_of HT_.out (by kernel_rfl)) (fun _ _ _ h => h) (Or.inr ⟨by rfl, rfl⟩) ?_ ?_
        rotate_left
        ·simp only [Act.put, List.setIfInBounds_toArray, List.set_cons_zero, List.set_cons_succ, i64_w, i32_w]
         rfl
        refine pure_ (i := 28) (N := some 55) (v := undef) (a' := ?_) (fl6_ 47 536870911) rfl rfl (any_of HT_.out (by kernel_rfl)) (fun _ _ _ h => h) (Or.inr ⟨by rfl, rfl⟩) ?_ ?_
        rotate_left
        ·simp only [Act.put, List.setIfInBounds_toArray, List.set_cons_zero, List.set_cons_succ, i64_w, i32_w]
         rfl
        refine zpu HT_ 29 56 (fl6_ 47 1073741823) ?_
        refine zpu HT_ 30 57 (fl6_ 47 2147483647) ?_
        refine pure_ (i := 31) (N := some 58) (v := undef) (a' := ?_) (fl6_ 47 4294967295) rfl rfl (any_of HT_.out (by kernel_rfl)) (fun _ _ _ h => h) (Or.inr ⟨by rfl, rfl⟩) ?_ ?_
        rotate_left
        ·simp only [Act.put, List.setIfInBounds_toArray, List.set_cons_zero, List.set_cons_succ, i64_w, i32_w]
         rfl
        refine pure_ (i := 32) (N := some 59) (v := undef) (a' := ?_) (fl6_ 47 8589934591) rfl rfl (any_of HT_.out (by kernel_rfl)) (fun _ _ _ h => h) (Or.inr ⟨by rfl, rfl⟩) ?_ ?_
        rotate_left
        ·simp only [Act.put, List.setIfInBounds_toArray, List.set_cons_zero, List.set_cons_succ, i64_w, i32_w]
         rfl
        refine pure_ (i := 33) (N := some 60) (v := undef) (a' := ?_) (fl6_ 47 17179869183) rfl rfl (any_of HT_.out (by kernel_rfl)) (fun _ _ _ h => h) (Or.inr ⟨by rfl, rfl⟩) ?_ ?_
        rotate_left
        ·simp only [Act.put, List.setIfInBounds_toArray, List.set_cons_zero, List.set_cons_succ, i64_w, i32_w]
         rfl
        refine pure_ (i := 34) (N := some 61) (v := undef) (a' := ?_) (fl6_ 47 34359738367) rfl rfl (any_of HT_.out (by kernel_rfl)) (fun _ _ _ h => h) (Or.inr ⟨by rfl, rfl⟩) ?_ ?_
        rotate_left
        ·simp only [Act.put, List.setIfInBounds_toArray, List.set_cons_zero, List.set_cons_succ, i64_w, i32_w]
         rfl
        refine zpu HT_ 35 62 (fl6_ 47 68719476735) ?_
        refine zpu HT_ 36 63 (fl6_ 47 137438953471) ?_
        refine pure_ (i := 37) (N := some 64) (v := undef) (a' := ?_) (fl6_ 47 274877906943) rfl rfl (any_of HT_.out (by kernel_rfl)) (fun _ _ _ h => h) (Or.inr ⟨by rfl, rfl⟩) ?_ ?_
        rotate_left
        ·simp only [Act.put, List.setIfInBounds_toArray, List.set_cons_zero, List.set_cons_succ, i64_w, i32_w]
         rfl
        refine pure_ (i := 38) (N := some 65) (v := undef) (a' := ?_) (fl6_ 47 549755813887) rfl rfl (any_of HT_.out (by kernel_rfl)) (fun _ _ _ h => h) (Or.inr ⟨by rfl, rfl⟩) ?_ ?_
        rotate_left
        ·simp only [Act.put, List.setIfInBounds_toArray, List.set_cons_zero, List.set_cons_succ, i64_w, i32_w]
         rfl
        refine pure_ (i := 39) (N := some 66) (v := undef) (a' := ?_) (fl6_ 47 1099511627775) rfl rfl (any_of HT_.out (by kernel_rfl)) (fun _ _ _ h => h) (Or.inr ⟨by rfl, rfl⟩) ?_ ?_
        rotate_left
        ·simp only [Act.put, List.setIfInBounds_toArray, List.set_cons_zero, List.set_cons_succ, i64_w, i32_w]
         rfl
        refine pure_ (i := 40) (N := some 67) (v := undef) (a' := ?_) (fl6_ 47 2199023255551) rfl rfl (any_of HT_.out (by kernel_rfl)) (fun _ _ _ h => h) (Or.inr ⟨by rfl, rfl⟩) ?_ ?_
        rotate_left
        ·simp only [Act.put, List.setIfInBounds_toArray, List.set_cons_zero, List.set_cons_succ, i64_w, i32_w]
         rfl
        refine pure_ (i := 41) (N := some 68) (v := undef) (a' := ?_) (fl6_ 47 4398046511103) rfl rfl (any_of HT_.out (by kernel_rfl)) (fun _ _ _ h => h) (Or.inr ⟨by rfl, rfl⟩) ?_ ?_
        rotate_left
        ·simp only [Act.put, List.setIfInBounds_toArray, List.set_cons_zero, List.set_cons_succ, i64_w, i32_w]
         rfl
        refine pure_ (i := 42) (N := some 69) (v := undef) (a' := ?_) (fl6_ 47 8796093022207) rfl rfl (any_of HT_.out (by kernel_rfl)) (fun _ _ _ h => h) (Or.inr ⟨by rfl, rfl⟩) ?_ ?_
        rotate_left
        ·simp only [Act.put, List.setIfInBounds_toArray, List.set_cons_zero, List.set_cons_succ, i64_w, i32_w]
         rfl
        refine pure_ (i := 43) (N := some 70) (v := undef) (a' := ?_) (fl6_ 47 17592186044415) rfl rfl (any_of HT_.out (by kernel_rfl)) (fun _ _ _ h => h) (Or.inr ⟨by rfl, rfl⟩) ?_ ?_
        rotate_left
        ·simp only [Act.put, List.setIfInBounds_toArray, List.set_cons_zero, List.set_cons_succ, i64_w, i32_w]
         rfl
        refine pure_ (i := 44) (N := some 71) (v := undef) (a' := ?_) (fl6_ 47 35184372088831) rfl rfl (any_of HT_.out (by kernel_rfl)) (fun _ _ _ h => h) (Or.inr ⟨by rfl, rfl⟩) ?_ ?_
        rotate_left
        ·simp only [Act.put, List.setIfInBounds_toArray, List.set_cons_zero, List.set_cons_succ, i64_w, i32_w]
         rfl
        refine pure_ (i := 45) (N := some 72) (v := undef) (a' := ?_) (fl6_ 47 70368744177663) rfl rfl (any_of HT_.out (by kernel_rfl)) (fun _ _ _ h => h) (Or.inr ⟨by rfl, rfl⟩) ?_ ?_
        rotate_left
        ·simp only [Act.put, List.setIfInBounds_toArray, List.set_cons_zero, List.set_cons_succ, i64_w, i32_w]
         rfl
        refine zpu HT_ 46 73 (fl6_ 47 140737488355327) ?_
        refine done_ (done_of HT_.out (by kernel_rfl)) ?_
        try go_wp2
        go_meet
        case rel => exact ⟨_, (true), zrs, H', ⟨by have := HJ1.out; have := HK2.out; first | omega | exact Nat.le_refl _⟩, ⟨zb BK155⟩, ⟨zb BK157⟩, ⟨zg HB⟩⟩
       rw [if_neg c48] at H
       have c48b0 : decide (((rd_T39 l0_0 x3_2).f1) < 1) = false := decide_eq_false c48
       clear c48
       by_cases c51 : ((rd_T39 l0_0 x3_2).f1) > 3
       ·rw [if_pos c51] at H
        have c51b0 : decide (3 < ((rd_T39 l0_0 x3_2).f1)) = true := decide_eq_true c51
        clear c51
        have H' := Aside0.mk H
        clear H
        try go_wp2
        have n0_ : Aside0 ((((((((((w12.setCell ⟨gb157, 0, none⟩ (.string ((rd_T39 l0_0 x3_2).f0))).setCell ⟨gb157, 1, none⟩ (.int .i64 ((rd_T39 l0_0 x3_2).f1))).setCell ⟨gb157, 2, none⟩ (.bool ((rd_T39 l0_0 x3_2).f2.f0))).setCell ⟨gb157, 3, none⟩ (.bool ((rd_T39 l0_0 x3_2).f2.f1))).setCell ⟨gb157, 4, none⟩ (.bool ((rd_T39 l0_0 x3_2).f2.f2))).setCell ⟨gb157, 5, none⟩ (.slice A156_5 ((rd_T39 l0_0 x3_2).f2.f3).length c156_5)).setCell ⟨gb157, 6, none⟩ (.slice A156_6 ((rd_T39 l0_0 x3_2).f2.f4).length c156_6)).setCell ⟨gb157, 7, none⟩ (.int .i64 ((rd_T39 l0_0 x3_2).f2.f5))).setCell ⟨gb157, 8, none⟩ (.int .i64 ((rd_T39 l0_0 x3_2).f2.f6))).heap[gb155]? = some (.cells #[.slice (some ad156) l0_0.length c0_0] 29 (0, 0))) := ⟨zp BK155⟩
        have n1_ : Aside0 ((((((((((w12.setCell ⟨gb157, 0, none⟩ (.string ((rd_T39 l0_0 x3_2).f0))).setCell ⟨gb157, 1, none⟩ (.int .i64 ((rd_T39 l0_0 x3_2).f1))).setCell ⟨gb157, 2, none⟩ (.bool ((rd_T39 l0_0 x3_2).f2.f0))).setCell ⟨gb157, 3, none⟩ (.bool ((rd_T39 l0_0 x3_2).f2.f1))).setCell ⟨gb157, 4, none⟩ (.bool ((rd_T39 l0_0 x3_2).f2.f2))).setCell ⟨gb157, 5, none⟩ (.slice A156_5 ((rd_T39 l0_0 x3_2).f2.f3).length c156_5)).setCell ⟨gb157, 6, none⟩ (.slice A156_6 ((rd_T39 l0_0 x3_2).f2.f4).length c156_6)).setCell ⟨gb157, 7, none⟩ (.int .i64 ((rd_T39 l0_0 x3_2).f2.f5))).setCell ⟨gb157, 8, none⟩ (.int .i64 ((rd_T39 l0_0 x3_2).f2.f6))).heap[gb157]? = some (.cells #[.string ((rd_T39 l0_0 x3_2).f0), .int .i64 ((rd_T39 l0_0 x3_2).f1), .bool ((rd_T39 l0_0 x3_2).f2.f0), .bool ((rd_T39 l0_0 x3_2).f2.f1), .bool ((rd_T39 l0_0 x3_2).f2.f2), .slice A156_5 ((rd_T39 l0_0 x3_2).f2.f3).length c156_5, .slice A156_6 ((rd_T39 l0_0 x3_2).f2.f4).length c156_6, .int .i64 ((rd_T39 l0_0 x3_2).f2.f5), .int .i64 ((rd_T39 l0_0 x3_2).f2.f6)] 39 (0, 0))) := ⟨zp BK157⟩
        have n2_ : Aside0 (Below w.heap.size w (((((((((w12.setCell ⟨gb157, 0, none⟩ (.string ((rd_T39 l0_0 x3_2).f0))).setCell ⟨gb157, 1, none⟩ (.int .i64 ((rd_T39 l0_0 x3_2).f1))).setCell ⟨gb157, 2, none⟩ (.bool ((rd_T39 l0_0 x3_2).f2.f0))).setCell ⟨gb157, 3, none⟩ (.bool ((rd_T39 l0_0 x3_2).f2.f1))).setCell ⟨gb157, 4, none⟩ (.bool ((rd_T39 l0_0 x3_2).f2.f2))).setCell ⟨gb157, 5, none⟩ (.slice A156_5 ((rd_T39 l0_0 x3_2).f2.f3).length c156_5)).setCell ⟨gb157, 6, none⟩ (.slice A156_6 ((rd_T39 l0_0 x3_2).f2.f4).length c156_6)).setCell ⟨gb157, 7, none⟩ (.int .i64 ((rd_T39 l0_0 x3_2).f2.f5))).setCell ⟨gb157, 8, none⟩ (.int .i64 ((rd_T39 l0_0 x3_2).f2.f6)))) := ⟨zg HB⟩
        (try clear BK155)
        (try clear BK157)
        (try clear HB)
        generalize (((((((((w12.setCell ⟨gb157, 0, none⟩ (.string ((rd_T39 l0_0 x3_2).f0))).setCell ⟨gb157, 1, none⟩ (.int .i64 ((rd_T39 l0_0 x3_2).f1))).setCell ⟨gb157, 2, none⟩ (.bool ((rd_T39 l0_0 x3_2).f2.f0))).setCell ⟨gb157, 3, none⟩ (.bool ((rd_T39 l0_0 x3_2).f2.f1))).setCell ⟨gb157, 4, none⟩ (.bool ((rd_T39 l0_0 x3_2).f2.f2))).setCell ⟨gb157, 5, none⟩ (.slice A156_5 ((rd_T39 l0_0 x3_2).f2.f3).length c156_5)).setCell ⟨gb157, 6, none⟩ (.slice A156_6 ((rd_T39 l0_0 x3_2).f2.f4).length c156_6)).setCell ⟨gb157, 7, none⟩ (.int .i64 ((rd_T39 l0_0 x3_2).f2.f5))).setCell ⟨gb157, 8, none⟩ (.int .i64 ((rd_T39 l0_0 x3_2).f2.f6))) = w52 at n0_ n1_ n2_ ⊢
        have BK155 := n0_
        have BK157 := n1_
        have HB := n2_
        clear n0_ n1_ n2_
        replace BK155 := Aside0.mk (blk_drew BK155.out)
        replace BK157 := Aside0.mk (blk_drew BK157.out)
        replace HB := Aside0.mk (below_drew1 HB.out)
        refine start_ (n := 47) (S := fun w' => w'.cell? ⟨gb157, 0, none⟩ = some (.string ((rd_T39 l0_0 x3_2).f0)) ∧ w'.cell? ⟨gb157, 1, none⟩ = some (.int .i64 ((rd_T39 l0_0 x3_2).f1)) ∧ w'.cell? ⟨gb157, 2, none⟩ = some (.bool ((rd_T39 l0_0 x3_2).f2.f0)) ∧ w'.cell? ⟨gb157, 3, none⟩ = some (.bool ((rd_T39 l0_0 x3_2).f2.f1)) ∧ w'.cell? ⟨gb157, 4, none⟩ = some (.bool ((rd_T39 l0_0 x3_2).f2.f2)) ∧ w'.cell? ⟨gb157, 5, none⟩ = some (.slice A156_5 ((rd_T39 l0_0 x3_2).f2.f3).length c156_5) ∧ w'.cell? ⟨gb157, 6, none⟩ = some (.slice A156_6 ((rd_T39 l0_0 x3_2).f2.f4).length c156_6) ∧ w'.cell? ⟨gb157, 7, none⟩ = some (.int .i64 ((rd_T39 l0_0 x3_2).f2.f5)) ∧ w'.cell? ⟨gb157, 8, none⟩ = some (.int .i64 ((rd_T39 l0_0 x3_2).f2.f6))) (ds := []) (fl6_ 47 0) (by kernel_rfl) rfl rfl ⟨(blk_cell BK157.out 0).trans rfl, (blk_cell BK157.out 1).trans rfl, (blk_cell BK157.out 2).trans rfl, (blk_cell BK157.out 3).trans rfl, (blk_cell BK157.out 4).trans rfl, (blk_cell BK157.out 5).trans rfl, (blk_cell BK157.out 6).trans rfl, (blk_cell BK157.out 7).trans rfl, (blk_cell BK157.out 8).trans rfl⟩ (fun hHeld => ?_); refine with_tabW spec_SchemaOK.tab7 spec_SchemaOK.bits7 (fun HT_ HW_ => ?_)
        generalize w52.drew = w53 at BK155 BK157 HB hHeld ⊢
        refine zpu HT_ 0 27 (fl6_ 47 1) ?_
        refine take_ (i := 1) (N := some 28) (v := ?_) (a' := ?_) (fl6_ 47 3) rfl rfl (take_ofW HT_.out HW_.out (by kernel_rfl)) (fun _ _ _ h => h) (Or.inl ⟨by rfl, ?_⟩) hHeld ?_ ?_
        rotate_left
        ·rintro w' ⟨s0, s1, s2, s3, s4, s5, s6, s7, s8⟩
         go_simp
         with_reducible rfl
        rotate_left
        ·simp only [Act.put, List.setIfInBounds_toArray, List.set_cons_zero, List.set_cons_succ, i64_w, i32_w]
         rfl
        refine one_ (i := 2) (N := some 29) (fl6_ 47 7) rfl rfl (one_of HT_.out (by kernel_rfl)) (by decide) (fun K hK => ?_)
        refine goes_ Tryd.func10 (by kernel_rfl) rfl #[.string ((rd_T39 l0_0 x3_2).f0)] (by rfl) rfl rfl zar ?_
        with_reducible refine (spec_l06Name.calls k2 ((rd_T39 l0_0 x3_2).f0) true _ A15.out).mono ?_
        rintro e w' ⟨rfl, ⟨nd, rfl⟩⟩
        refine ⟨_, rfl, ?_⟩
        refine hK.out _ _ ⟨(blk_cell BK157.out 0).trans rfl, (blk_cell BK157.out 1).trans rfl, (blk_cell BK157.out 2).trans rfl, (blk_cell BK157.out 3).trans rfl, (blk_cell BK157.out 4).trans rfl, (blk_cell BK157.out 5).trans rfl, (blk_cell BK157.out 6).trans rfl, (blk_cell BK157.out 7).trans rfl, (blk_cell BK157.out 8).trans rfl⟩ (fun hHeld => ?_)
        clear hK K
        refine norm_ (a' := ?_) ?_ ?_
        rotate_left
        ·show Act.put _ (some 29) _ = _
         simp only [Act.put, List.setIfInBounds_toArray, List.set_cons_zero, List.set_cons_succ, i64_w, i32_w]
         rfl
        refine zpu HT_ 3 30 (fl6_ 47 15) ?_
        refine zpu HT_ 4 31 (fl6_ 47 31) ?_
        refine zpu HT_ 5 32 (fl6_ 47 63) ?_
        refine zpu HT_ 6 33 (fl6_ 47 127) ?_
        refine zpu HT_ 7 34 (fl6_ 47 255) ?_
        refine pure_ (i := 8) (N := some 35) (v := undef) (a' := ?_) (fl6_ 47 511) rfl rfl (any_of HT_.out (by kernel_rfl)) (fun _ _ _ h => h) (Or.inr ⟨by rfl, rfl⟩) ?_ ?_
        rotate_left
        ·simp only [Act.put, List.setIfInBounds_toArray, List.set_cons_zero, List.set_cons_succ, i64_w, i32_w]
         rfl
        refine pure_ (i := 9) (N := some 36) (v := undef) (a' := ?_) (fl6_ 47 1023) rfl rfl (any_of HT_.out (by kernel_rfl)) (fun _ _ _ h => h) (Or.inr ⟨by rfl, rfl⟩) ?_ ?_
        rotate_left
        ·simp only [Act.put, List.setIfInBounds_toArray, List.set_cons_zero, List.set_cons_succ, i64_w, i32_w]
         rfl
        refine pure_ (i := 10) (N := some 37) (v := undef) (a' := ?_) (fl6_ 47 2047) rfl rfl (any_of HT_.out (by kernel_rfl)) (fun _ _ _ h => h) (Or.inr ⟨by rfl, rfl⟩) ?_ ?_
        rotate_left
        ·simp only [Act.put, List.setIfInBounds_toArray, List.set_cons_zero, List.set_cons_succ, i64_w, i32_w]
         rfl
        refine pure_ (i := 11) (N := some 38) (v := undef) (a' := ?_) (fl6_ 47 4095) rfl rfl (any_of HT_.out (by kernel_rfl)) (fun _ _ _ h => h) (Or.inr ⟨by rfl, rfl⟩) ?_ ?_
        rotate_left
        ·simp only [Act.put, List.setIfInBounds_toArray, List.set_cons_zero, List.set_cons_succ, i64_w, i32_w]
         rfl
        refine pure_ (i := 12) (N := some 39) (v := undef) (a' := ?_) (fl6_ 47 8191) rfl rfl (any_of HT_.out (by kernel_rfl)) (fun _ _ _ h => h) (Or.inr ⟨by rfl, rfl⟩) ?_ ?_
        rotate_left
        ·simp only [Act.put, List.setIfInBounds_toArray, List.set_cons_zero, List.set_cons_succ, i64_w, i32_w]
         rfl
        refine pure_ (i := 13) (N := some 40) (v := undef) (a' := ?_) (fl6_ 47 16383) rfl rfl (any_of HT_.out (by kernel_rfl)) (fun _ _ _ h => h) (Or.inr ⟨by rfl, rfl⟩) ?_ ?_
        rotate_left
        ·simp only [Act.put, List.setIfInBounds_toArray, List.set_cons_zero, List.set_cons_succ, i64_w, i32_w]
         rfl
        refine pure_ (i := 14) (N := some 41) (v := undef) (a' := ?_) (fl6_ 47 32767) rfl rfl (any_of HT_.out (by kernel_rfl)) (fun _ _ _ h => h) (Or.inr ⟨by rfl, rfl⟩) ?_ ?_
        rotate_left
        ·simp only [Act.put, List.setIfInBounds_toArray, List.set_cons_zero, List.set_cons_succ, i64_w, i32_w]
         rfl
        refine pure_ (i := 15) (N := some 42) (v := undef) (a' := ?_) (fl6_ 47 65535) rfl rfl (any_of HT_.out (by kernel_rfl)) (fun _ _ _ h => h) (Or.inr ⟨by rfl, rfl⟩) ?_ ?_
        rotate_left
        ·simp only [Act.put, List.setIfInBounds_toArray, List.set_cons_zero, List.set_cons_succ, i64_w, i32_w]
         rfl
        refine pure_ (i := 16) (N := some 43) (v := undef) (a' := ?_) (fl6_ 47 131071) rfl rfl (any_of HT_.out (by kernel_rfl)) (fun _ _ _ h => h) (Or.inr ⟨by rfl, rfl⟩) ?_ ?_
        rotate_left
        ·simp only [Act.put, List.setIfInBounds_toArray, List.set_cons_zero, List.set_cons_succ, i64_w, i32_w]
         rfl
        refine pure_ (i := 17) (N := some 44) (v := undef) (a' := ?_) (fl6_ 47 262143) rfl rfl (any_of HT_.out (by kernel_rfl)) (fun _ _ _ h => h) (Or.inr ⟨by rfl, rfl⟩) ?_ ?_
        rotate_left
        ·simp only [Act.put, List.setIfInBounds_toArray, List.set_cons_zero, List.set_cons_succ, i64_w, i32_w]
         rfl
        refine zpu HT_ 18 45 (fl6_ 47 524287) ?_
        refine zpu HT_ 19 46 (fl6_ 47 1048575) ?_
        refine zpu HT_ 20 47 (fl6_ 47 2097151) ?_
        refine zpu HT_ 21 48 (fl6_ 47 4194303) ?_
        refine take_ (i := 22) (N := some 49) (v := ?_) (a' := ?_) (fl6_ 47 8388607) rfl rfl (take_ofW HT_.out HW_.out (by kernel_rfl)) (fun _ _ _ h => h) (Or.inl ⟨by rfl, ?_⟩) hHeld ?_ ?_
        rotate_left
        ·rintro w' ⟨s0, s1, s2, s3, s4, s5, s6, s7, s8⟩
         go_simp
         with_reducible rfl
        rotate_left
        ·simp only [Act.put, List.setIfInBounds_toArray, List.set_cons_zero, List.set_cons_succ, i64_w, i32_w]
         rfl
        refine zpu HT_ 23 50 (fl6_ 47 16777215) ?_
        refine zpu HT_ 24 51 (fl6_ 47 33554431) ?_
        refine zpu HT_ 25 52 (fl6_ 47 67108863) ?_
        refine zpu HT_ 26 53 (fl6_ 47 134217727) ?_
        refine take_ (i := 27) (N := some 54) (v := ?_) (a' := ?_) (fl6_ 47 268435455) rfl rfl (take_ofW HT_.out HW_.out (by kernel_rfl)) (fun _ _ _ h => h) (Or.inl ⟨by rfl, ?_⟩) hHeld ?_ ?_
        rotate_left
        ·rintro w' ⟨s0, s1, s2, s3, s4, s5, s6, s7, s8⟩
         go_simp
         with_reducible rfl
        rotate_left
        ·simp only [Act.put, List.setIfInBounds_toArray, List.set_cons_zero, List.set_cons_succ, i64_w, i32_w]
         rfl
        refine zpu HT_ 28 55 (fl6_ 47 536870911) ?_
        refine zpu HT_ 29 56 (fl6_ 47 1073741823) ?_
        refine zpu HT_ 30 57 (fl6_ 47 2147483647) ?_
        refine pure_ (i := 31) (N := some 58) (v := undef) (a' := ?_) (fl6_ 47 4294967295) rfl rfl (any_of HT_.out (by kernel_rfl)) (fun _ _ _ h => h) (Or.inr ⟨by rfl, rfl⟩) ?_ ?_
        rotate_left
        ·simp only [Act.put, List.setIfInBounds_toArray, List.set_cons_zero, List.set_cons_succ, i64_w, i32_w]
         rfl
        refine pure_ (i := 32) (N := some 59) (v := undef) (a' := ?_) (fl6_ 47 8589934591) rfl rfl (any_of HT_.out (by kernel_rfl)) (fun _ _ _ h => h) (Or.inr ⟨by rfl, rfl⟩) ?_ ?_
        rotate_left
        ·simp only [Act.put, List.setIfInBounds_toArray, List.set_cons_zero, List.set_cons_succ, i64_w, i32_w]
         rfl
        refine pure_ (i := 33) (N := some 60) (v := undef) (a' := ?_) (fl6_ 47 17179869183) rfl rfl (any_of HT_.out (by kernel_rfl)) (fun _ _ _ h => h) (Or.inr ⟨by rfl, rfl⟩) ?_ ?_
        rotate_left
        ·simp only [Act.put, List.setIfInBounds_toArray, List.set_cons_zero, List.set_cons_succ, i64_w, i32_w]
         rfl
        refine pure_ (i := 34) (N := some 61) (v := undef) (a' := ?_) (fl6_ 47 34359738367) rfl rfl (any_of HT_.out (by kernel_rfl)) (fun _ _ _ h => h) (Or.inr ⟨by rfl, rfl⟩) ?_ ?_
        rotate_left
        ·simp only [Act.put, List.setIfInBounds_toArray, List.set_cons_zero, List.set_cons_succ, i64_w, i32_w]
         rfl
        refine zpu HT_ 35 62 (fl6_ 47 68719476735) ?_
        refine zpu HT_ 36 63 (fl6_ 47 137438953471) ?_
        refine pure_ (i := 37) (N := some 64) (v := undef) (a' := ?_) (fl6_ 47 274877906943) rfl rfl (any_of HT_.out (by kernel_rfl)) (fun _ _ _ h => h) (Or.inr ⟨by rfl, rfl⟩) ?_ ?_
        rotate_left
        ·simp only [Act.put, List.setIfInBounds_toArray, List.set_cons_zero, List.set_cons_succ, i64_w, i32_w]
         rfl
        refine pure_ (i := 38) (N := some 65) (v := undef) (a' := ?_) (fl6_ 47 549755813887) rfl rfl (any_of HT_.out (by kernel_rfl)) (fun _ _ _ h => h) (Or.inr ⟨by rfl, rfl⟩) ?_ ?_
        rotate_left
        ·simp only [Act.put, List.setIfInBounds_toArray, List.set_cons_zero, List.set_cons_succ, i64_w, i32_w]
         rfl
        refine pure_ (i := 39) (N := some 66) (v := undef) (a' := ?_) (fl6_ 47 1099511627775) rfl rfl (any_of HT_.out (by kernel_rfl)) (fun _ _ _ h => h) (Or.inr ⟨by rfl, rfl⟩) ?_ ?_
        rotate_left
        ·simp only [Act.put, List.setIfInBounds_toArray, List.set_cons_zero, List.set_cons_succ, i64_w, i32_w]
         rfl
        refine pure_ (i := 40) (N := some 67) (v := undef) (a' := ?_) (fl6_ 47 2199023255551) rfl rfl (any_of HT_.out (by kernel_rfl)) (fun _ _ _ h => h) (Or.inr ⟨by rfl, rfl⟩) ?_ ?_
        rotate_left
        ·simp only [Act.put, List.setIfInBounds_toArray, List.set_cons_zero, List.set_cons_succ, i64_w, i32_w]
         rfl
        refine pure_ (i := 41) (N := some 68) (v := undef) (a' := ?_) (fl6_ 47 4398046511103) rfl rfl (any_of HT_.out (by kernel_rfl)) (fun _ _ _ h => h) (Or.inr ⟨by rfl, rfl⟩) ?_ ?_
        rotate_left
        ·simp only [Act.put, List.setIfInBounds_toArray, List.set_cons_zero, List.set_cons_succ, i64_w, i32_w]
         rfl
        refine pure_ (i := 42) (N := some 69) (v := undef) (a' := ?_) (fl6_ 47 8796093022207) rfl rfl (any_of HT_.out (by kernel_rfl)) (fun _ _ _ h => h) (Or.inr ⟨by rfl, rfl⟩) ?_ ?_
        rotate_left
        ·simp only [Act.put, List.setIfInBounds_toArray, List.set_cons_zero, List.set_cons_succ, i64_w, i32_w]
         rfl
        refine pure_ (i := 43) (N := some 70) (v := undef) (a' := ?_) (fl6_ 47 17592186044415) rfl rfl (any_of HT_.out (by kernel_rfl)) (fun _ _ _ h => h) (Or.inr ⟨by rfl, rfl⟩) ?_ ?_
        rotate_left
        ·simp only [Act.put, List.setIfInBounds_toArray, List.set_cons_zero, List.set_cons_succ, i64_w, i32_w]
         rfl
        refine pure_ (i := 44) (N := some 71) (v := undef) (a' := ?_) (fl6_ 47 35184372088831) rfl rfl (any_of HT_.out (by kernel_rfl)) (fun _ _ _ h => h) (Or.inr ⟨by rfl, rfl⟩) ?_ ?_
        rotate_left
        ·simp only [Act.put, List.setIfInBounds_toArray, List.set_cons_zero, List.set_cons_succ, i64_w, i32_w]
         rfl
        refine pure_ (i := 45) (N := some 72) (v := undef) (a' := ?_) (fl6_ 47 70368744177663) rfl rfl (any_of HT_.out (by kernel_rfl)) (fun _ _ _ h => h) (Or.inr ⟨by rfl, rfl⟩) ?_ ?_
        rotate_left
        ·simp only [Act.put, List.setIfInBounds_toArray, List.set_cons_zero, List.set_cons_succ, i64_w, i32_w]
         rfl
        refine zpu HT_ 46 73 (fl6_ 47 140737488355327) ?_
        refine done_ (done_of HT_.out (by kernel_rfl)) ?_
        try go_wp2
        go_meet
        case rel => exact ⟨_, (true), zrs, H', ⟨by have := HJ1.out; have := HK2.out; first | omega | exact Nat.le_refl _⟩, ⟨zb BK155⟩, ⟨zb BK157⟩, ⟨zg HB⟩⟩
       rw [if_neg c51] at H
       have c51b0 : decide (3 < ((rd_T39 l0_0 x3_2).f1)) = false := decide_eq_false c51
       clear c51
       replace H := Option.bind_eq_some_iff.mp H
       obtain ⟨t162, A540, H⟩ := H
       try dsimp only at H
       have A54 := Aside0.mk A540
       clear A540
       by_cases c55 : t162 = true
       rotate_left
       ·replace c55 := Bool.eq_false_iff.mpr c55
        subst c55
        rw [if_neg (show ¬ (false = true) by decide)] at H
        have H' := Aside0.mk H
        clear H
        try go_wp2
        have n0_ : Aside0 ((((((((((w12.setCell ⟨gb157, 0, none⟩ (.string ((rd_T39 l0_0 x3_2).f0))).setCell ⟨gb157, 1, none⟩ (.int .i64 ((rd_T39 l0_0 x3_2).f1))).setCell ⟨gb157, 2, none⟩ (.bool ((rd_T39 l0_0 x3_2).f2.f0))).setCell ⟨gb157, 3, none⟩ (.bool ((rd_T39 l0_0 x3_2).f2.f1))).setCell ⟨gb157, 4, none⟩ (.bool ((rd_T39 l0_0 x3_2).f2.f2))).setCell ⟨gb157, 5, none⟩ (.slice A156_5 ((rd_T39 l0_0 x3_2).f2.f3).length c156_5)).setCell ⟨gb157, 6, none⟩ (.slice A156_6 ((rd_T39 l0_0 x3_2).f2.f4).length c156_6)).setCell ⟨gb157, 7, none⟩ (.int .i64 ((rd_T39 l0_0 x3_2).f2.f5))).setCell ⟨gb157, 8, none⟩ (.int .i64 ((rd_T39 l0_0 x3_2).f2.f6))).heap[gb155]? = some (.cells #[.slice (some ad156) l0_0.length c0_0] 29 (0, 0))) := ⟨zp BK155⟩
        have n1_ : Aside0 ((((((((((w12.setCell ⟨gb157, 0, none⟩ (.string ((rd_T39 l0_0 x3_2).f0))).setCell ⟨gb157, 1, none⟩ (.int .i64 ((rd_T39 l0_0 x3_2).f1))).setCell ⟨gb157, 2, none⟩ (.bool ((rd_T39 l0_0 x3_2).f2.f0))).setCell ⟨gb157, 3, none⟩ (.bool ((rd_T39 l0_0 x3_2).f2.f1))).setCell ⟨gb157, 4, none⟩ (.bool ((rd_T39 l0_0 x3_2).f2.f2))).setCell ⟨gb157, 5, none⟩ (.slice A156_5 ((rd_T39 l0_0 x3_2).f2.f3).length c156_5)).setCell ⟨gb157, 6, none⟩ (.slice A156_6 ((rd_T39 l0_0 x3_2).f2.f4).length c156_6)).setCell ⟨gb157, 7, none⟩ (.int .i64 ((rd_T39 l0_0 x3_2).f2.f5))).setCell ⟨gb157, 8, none⟩ (.int .i64 ((rd_T39 l0_0 x3_2).f2.f6))).heap[gb157]? = some (.cells #[.string ((rd_T39 l0_0 x3_2).f0), .int .i64 ((rd_T39 l0_0 x3_2).f1), .bool ((rd_T39 l0_0 x3_2).f2.f0), .bool ((rd_T39 l0_0 x3_2).f2.f1), .bool ((rd_T39 l0_0 x3_2).f2.f2), .slice A156_5 ((rd_T39 l0_0 x3_2).f2.f3).length c156_5, .slice A156_6 ((rd_T39 l0_0 x3_2).f2.f4).length c156_6, .int .i64 ((rd_T39 l0_0 x3_2).f2.f5), .int .i64 ((rd_T39 l0_0 x3_2).f2.f6)] 39 (0, 0))) := ⟨zp BK157⟩
        have n2_ : Aside0 (Below w.heap.size w (((((((((w12.setCell ⟨gb157, 0, none⟩ (.string ((rd_T39 l0_0 x3_2).f0))).setCell ⟨gb157, 1, none⟩ (.int .i64 ((rd_T39 l0_0 x3_2).f1))).setCell ⟨gb157, 2, none⟩ (.bool ((rd_T39 l0_0 x3_2).f2.f0))).setCell ⟨gb157, 3, none⟩ (.bool ((rd_T39 l0_0 x3_2).f2.f1))).setCell ⟨gb157, 4, none⟩ (.bool ((rd_T39 l0_0 x3_2).f2.f2))).setCell ⟨gb157, 5, none⟩ (.slice A156_5 ((rd_T39 l0_0 x3_2).f2.f3).length c156_5)).setCell ⟨gb157, 6, none⟩ (.slice A156_6 ((rd_T39 l0_0 x3_2).f2.f4).length c156_6)).setCell ⟨gb157, 7, none⟩ (.int .i64 ((rd_T39 l0_0 x3_2).f2.f5))).setCell ⟨gb157, 8, none⟩ (.int .i64 ((rd_T39 l0_0 x3_2).f2.f6)))) := ⟨zg HB⟩
        (try clear BK155)
        (try clear BK157)
        (try clear HB)
        generalize (((((((((w12.setCell ⟨gb157, 0, none⟩ (.string ((rd_T39 l0_0 x3_2).f0))).setCell ⟨gb157, 1, none⟩ (.int .i64 ((rd_T39 l0_0 x3_2).f1))).setCell ⟨gb157, 2, none⟩ (.bool ((rd_T39 l0_0 x3_2).f2.f0))).setCell ⟨gb157, 3, none⟩ (.bool ((rd_T39 l0_0 x3_2).f2.f1))).setCell ⟨gb157, 4, none⟩ (.bool ((rd_T39 l0_0 x3_2).f2.f2))).setCell ⟨gb157, 5, none⟩ (.slice A156_5 ((rd_T39 l0_0 x3_2).f2.f3).length c156_5)).setCell ⟨gb157, 6, none⟩ (.slice A156_6 ((rd_T39 l0_0 x3_2).f2.f4).length c156_6)).setCell ⟨gb157, 7, none⟩ (.int .i64 ((rd_T39 l0_0 x3_2).f2.f5))).setCell ⟨gb157, 8, none⟩ (.int .i64 ((rd_T39 l0_0 x3_2).f2.f6))) = w68 at n0_ n1_ n2_ ⊢
        have BK155 := n0_
        have BK157 := n1_
        have HB := n2_
        clear n0_ n1_ n2_
        replace BK155 := Aside0.mk (blk_drew BK155.out)
        replace BK157 := Aside0.mk (blk_drew BK157.out)
        replace HB := Aside0.mk (below_drew1 HB.out)
        refine start_ (n := 47) (S := fun w' => w'.cell? ⟨gb157, 0, none⟩ = some (.string ((rd_T39 l0_0 x3_2).f0)) ∧ w'.cell? ⟨gb157, 1, none⟩ = some (.int .i64 ((rd_T39 l0_0 x3_2).f1)) ∧ w'.cell? ⟨gb157, 2, none⟩ = some (.bool ((rd_T39 l0_0 x3_2).f2.f0)) ∧ w'.cell? ⟨gb157, 3, none⟩ = some (.bool ((rd_T39 l0_0 x3_2).f2.f1)) ∧ w'.cell? ⟨gb157, 4, none⟩ = some (.bool ((rd_T39 l0_0 x3_2).f2.f2)) ∧ w'.cell? ⟨gb157, 5, none⟩ = some (.slice A156_5 ((rd_T39 l0_0 x3_2).f2.f3).length c156_5) ∧ w'.cell? ⟨gb157, 6, none⟩ = some (.slice A156_6 ((rd_T39 l0_0 x3_2).f2.f4).length c156_6) ∧ w'.cell? ⟨gb157, 7, none⟩ = some (.int .i64 ((rd_T39 l0_0 x3_2).f2.f5)) ∧ w'.cell? ⟨gb157, 8, none⟩ = some (.int .i64 ((rd_T39 l0_0 x3_2).f2.f6))) (ds := []) (fl6_ 47 0) (by kernel_rfl) rfl rfl ⟨(blk_cell BK157.out 0).trans rfl, (blk_cell BK157.out 1).trans rfl, (blk_cell BK157.out 2).trans rfl, (blk_cell BK157.out 3).trans rfl, (blk_cell BK157.out 4).trans rfl, (blk_cell BK157.out 5).trans rfl, (blk_cell BK157.out 6).trans rfl, (blk_cell BK157.out 7).trans rfl, (blk_cell BK157.out 8).trans rfl⟩ (fun hHeld => ?_); refine with_tabW spec_SchemaOK.tab7 spec_SchemaOK.bits7 (fun HT_ HW_ => ?_)
        generalize w68.drew = w69 at BK155 BK157 HB hHeld ⊢
        refine zpu HT_ 0 27 (fl6_ 47 1) ?_
        refine take_ (i := 1) (N := some 28) (v := ?_) (a' := ?_) (fl6_ 47 3) rfl rfl (take_ofW HT_.out HW_.out (by kernel_rfl)) (fun _ _ _ h => h) (Or.inl ⟨by rfl, ?_⟩) hHeld ?_ ?_
        rotate_left
        ·rintro w' ⟨s0, s1, s2, s3, s4, s5, s6, s7, s8⟩
         go_simp
         with_reducible rfl
        rotate_left
        ·simp only [Act.put, List.setIfInBounds_toArray, List.set_cons_zero, List.set_cons_succ, i64_w, i32_w]
         rfl
        refine one_ (i := 2) (N := some 29) (fl6_ 47 7) rfl rfl (one_of HT_.out (by kernel_rfl)) (by decide) (fun K hK => ?_)
        refine goes_ Tryd.func10 (by kernel_rfl) rfl #[.string ((rd_T39 l0_0 x3_2).f0)] (by rfl) rfl rfl zar ?_
        with_reducible refine (spec_l06Name.calls k2 ((rd_T39 l0_0 x3_2).f0) true _ A15.out).mono ?_
        rintro e w' ⟨rfl, ⟨nd, rfl⟩⟩
        refine ⟨_, rfl, ?_⟩
        refine hK.out _ _ ⟨(blk_cell BK157.out 0).trans rfl, (blk_cell BK157.out 1).trans rfl, (blk_cell BK157.out 2).trans rfl, (blk_cell BK157.out 3).trans rfl, (blk_cell BK157.out 4).trans rfl, (blk_cell BK157.out 5).trans rfl, (blk_cell BK157.out 6).trans rfl, (blk_cell BK157.out 7).trans rfl, (blk_cell BK157.out 8).trans rfl⟩ (fun hHeld => ?_)
        clear hK K
        refine norm_ (a' := ?_) ?_ ?_
        rotate_left
        ·show Act.put _ (some 29) _ = _
         simp only [Act.put, List.setIfInBounds_toArray, List.set_cons_zero, List.set_cons_succ, i64_w, i32_w]
         rfl
        refine zpu HT_ 3 30 (fl6_ 47 15) ?_
        refine zpu HT_ 4 31 (fl6_ 47 31) ?_
        refine zpu HT_ 5 32 (fl6_ 47 63) ?_
        refine zpu HT_ 6 33 (fl6_ 47 127) ?_
        refine zpu HT_ 7 34 (fl6_ 47 255) ?_
        refine pure_ (i := 8) (N := some 35) (v := undef) (a' := ?_) (fl6_ 47 511) rfl rfl (any_of HT_.out (by kernel_rfl)) (fun _ _ _ h => h) (Or.inr ⟨by rfl, rfl⟩) ?_ ?_
        rotate_left
        ·simp only [Act.put, List.setIfInBounds_toArray, List.set_cons_zero, List.set_cons_succ, i64_w, i32_w]
         rfl
        refine pure_ (i := 9) (N := some 36) (v := undef) (a' := ?_) (fl6_ 47 1023) rfl rfl (any_of HT_.out (by kernel_rfl)) (fun _ _ _ h => h) (Or.inr ⟨by rfl, rfl⟩) ?_ ?_
        rotate_left
        ·simp only [Act.put, List.setIfInBounds_toArray, List.set_cons_zero, List.set_cons_succ, i64_w, i32_w]
         rfl
        refine pure_ (i := 10) (N := some 37) (v := undef) (a' := ?_) (fl6_ 47 2047) rfl rfl (any_of HT_.out (by kernel_rfl)) (fun _ _ _ h => h) (Or.inr ⟨by rfl, rfl⟩) ?_ ?_
        rotate_left
        ·simp only [Act.put, List.setIfInBounds_toArray, List.set_cons_zero, List.set_cons_succ, i64_w, i32_w]
         rfl
        refine pure_ (i := 11) (N := some 38) (v := undef) (a' := ?_) (fl6_ 47 4095) rfl rfl (any_of HT_.out (by kernel_rfl)) (fun _ _ _ h => h) (Or.inr ⟨by rfl, rfl⟩) ?_ ?_
        rotate_left
        ·simp only [Act.put, List.setIfInBounds_toArray, List.set_cons_zero, List.set_cons_succ, i64_w, i32_w]
         rfl
        refine pure_ (i := 12) (N := some 39) (v := undef) (a' := ?_) (fl6_ 47 8191) rfl rfl (any_of HT_.out (by kernel_rfl)) (fun _ _ _ h => h) (Or.inr ⟨by rfl, rfl⟩) ?_ ?_
        rotate_left
        ·simp only [Act.put, List.setIfInBounds_toArray, List.set_cons_zero, List.set_cons_succ, i64_w, i32_w]
         rfl
        refine pure_ (i := 13) (N := some 40) (v := undef) (a' := ?_) (fl6_ 47 16383) rfl rfl (any_of HT_.out (by kernel_rfl)) (fun _ _ _ h => h) (Or.inr ⟨by rfl, rfl⟩) ?_ ?_
        rotate_left
        ·simp only [Act.put, List.setIfInBounds_toArray, List.set_cons_zero, List.set_cons_succ, i64_w, i32_w]
         rfl
        refine pure_ (i := 14) (N := some 41) (v := undef) (a' := ?_) (fl6_ 47 32767) rfl rfl (any_of HT_.out (by kernel_rfl)) (fun _ _ _ h => h) (Or.inr ⟨by rfl, rfl⟩) ?_ ?_
        rotate_left
        ·simp only [Act.put, List.setIfInBounds_toArray, List.set_cons_zero, List.set_cons_succ, i64_w, i32_w]
         rfl
        refine pure_ (i := 15) (N := some 42) (v := undef) (a' := ?_) (fl6_ 47 65535) rfl rfl (any_of HT_.out (by kernel_rfl)) (fun _ _ _ h => h) (Or.inr ⟨by rfl, rfl⟩) ?_ ?_
        rotate_left
        ·simp only [Act.put, List.setIfInBounds_toArray, List.set_cons_zero, List.set_cons_succ, i64_w, i32_w]
         rfl
        refine pure_ (i := 16) (N := some 43) (v := undef) (a' := ?_) (fl6_ 47 131071) rfl rfl (any_of HT_.out (by kernel_rfl)) (fun _ _ _ h => h) (Or.inr ⟨by rfl, rfl⟩) ?_ ?_
        rotate_left
        ·simp only [Act.put, List.setIfInBounds_toArray, List.set_cons_zero, List.set_cons_succ, i64_w, i32_w]
         rfl
        refine pure_ (i := 17) (N := some 44) (v := undef) (a' := ?_) (fl6_ 47 262143) rfl rfl (any_of HT_.out (by kernel_rfl)) (fun _ _ _ h => h) (Or.inr ⟨by rfl, rfl⟩) ?_ ?_
        rotate_left
        ·simp only [Act.put, List.setIfInBounds_toArray, List.set_cons_zero, List.set_cons_succ, i64_w, i32_w]
         rfl
        refine zpu HT_ 18 45 (fl6_ 47 524287) ?_
        refine zpu HT_ 19 46 (fl6_ 47 1048575) ?_
        refine zpu HT_ 20 47 (fl6_ 47 2097151) ?_
        refine zpu HT_ 21 48 (fl6_ 47 4194303) ?_
        refine take_ (i := 22) (N := some 49) (v := ?_) (a' := ?_) (fl6_ 47 8388607) rfl rfl (take_ofW HT_.out HW_.out (by kernel_rfl)) (fun _ _ _ h => h) (Or.inl ⟨by rfl, ?_⟩) hHeld ?_ ?_
        rotate_left
        ·rintro w' ⟨s0, s1, s2, s3, s4, s5, s6, s7, s8⟩
         go_simp
         with_reducible rfl
        rotate_left
        ·simp only [Act.put, List.setIfInBounds_toArray, List.set_cons_zero, List.set_cons_succ, i64_w, i32_w]
         rfl
        refine zpu HT_ 23 50 (fl6_ 47 16777215) ?_
        refine zpu HT_ 24 51 (fl6_ 47 33554431) ?_
        refine zpu HT_ 25 52 (fl6_ 47 67108863) ?_
        refine zpu HT_ 26 53 (fl6_ 47 134217727) ?_
        refine take_ (i := 27) (N := some 54) (v := ?_) (a' := ?_) (fl6_ 47 268435455) rfl rfl (take_ofW HT_.out HW_.out (by kernel_rfl)) (fun _ _ _ h => h) (Or.inl ⟨by rfl, ?_⟩) hHeld ?_ ?_
        rotate_left
        ·rintro w' ⟨s0, s1, s2, s3, s4, s5, s6, s7, s8⟩
         go_simp
         with_reducible rfl
        rotate_left
        ·simp only [Act.put, List.setIfInBounds_toArray, List.set_cons_zero, List.set_cons_succ, i64_w, i32_w]
         rfl
        refine zpu HT_ 28 55 (fl6_ 47 536870911) ?_
        refine zpu HT_ 29 56 (fl6_ 47 1073741823) ?_
        refine zpu HT_ 30 57 (fl6_ 47 2147483647) ?_
        refine zpu HT_ 31 58 (fl6_ 47 4294967295) ?_
        refine take_ (i := 32) (N := some 59) (v := ?_) (a' := ?_) (fl6_ 47 8589934591) rfl rfl (take_ofW HT_.out HW_.out (by kernel_rfl)) (fun _ _ _ h => h) (Or.inl ⟨by rfl, ?_⟩) hHeld ?_ ?_
        rotate_left
        ·rintro w' ⟨s0, s1, s2, s3, s4, s5, s6, s7, s8⟩
         go_simp
         with_reducible rfl
        rotate_left
        ·simp only [Act.put, List.setIfInBounds_toArray, List.set_cons_zero, List.set_cons_succ, i64_w, i32_w]
         rfl
        refine one_ (i := 33) (N := some 60) (fl6_ 47 17179869183) rfl rfl (one_of HT_.out (by kernel_rfl)) (by decide) (fun K hK => ?_)
        refine goes_ Tryd.func11 (by kernel_rfl) rfl #[.agg #[.bool ((rd_T39 l0_0 x3_2).f2.f0), .bool ((rd_T39 l0_0 x3_2).f2.f1), .bool ((rd_T39 l0_0 x3_2).f2.f2), .slice A156_5 ((rd_T39 l0_0 x3_2).f2.f3).length c156_5, .slice A156_6 ((rd_T39 l0_0 x3_2).f2.f4).length c156_6, .int .i64 ((rd_T39 l0_0 x3_2).f2.f5), .int .i64 ((rd_T39 l0_0 x3_2).f2.f6)]] (by rfl) rfl rfl zar ?_
        with_reducible refine (spec_AnalyzerOK.calls k2 ((rd_T39 l0_0 x3_2).f2.f0) ((rd_T39 l0_0 x3_2).f2.f1) ((rd_T39 l0_0 x3_2).f2.f2) _ _ ((rd_T39 l0_0 x3_2).f2.f3) _ _ ((rd_T39 l0_0 x3_2).f2.f4) ((rd_T39 l0_0 x3_2).f2.f5) ((rd_T39 l0_0 x3_2).f2.f6) false _ ?side1 ?side2 ?side3 ?side4 A54.out).mono ?_
        (case side1 => exact zC (Kd.C_below HR156_5.out (zg HB)))
        (case side2 => exact HC156_5.out)
        (case side3 => exact zC (Kd.C_below HR156_6.out (zg HB)))
        (case side4 => exact HC156_6.out)
        rintro e w70 ⟨rfl, hb⟩
        refine ⟨_, rfl, ?_⟩
        replace BK155 := Aside0.mk (blk_below (zb BK155) hb)
        replace BK157 := Aside0.mk (blk_below (zb BK157) hb)
        replace HB := Aside0.mk (below_step (zg HB) hb)
        (try clear hb)
        (try clear hb2)
        (try clear hk)
        (try clear hi)
        refine hK.out _ _ ⟨(blk_cell BK157.out 0).trans rfl, (blk_cell BK157.out 1).trans rfl, (blk_cell BK157.out 2).trans rfl, (blk_cell BK157.out 3).trans rfl, (blk_cell BK157.out 4).trans rfl, (blk_cell BK157.out 5).trans rfl, (blk_cell BK157.out 6).trans rfl, (blk_cell BK157.out 7).trans rfl, (blk_cell BK157.out 8).trans rfl⟩ (fun hHeld => ?_)
        clear hK K
        refine norm_ (a' := ?_) ?_ ?_
        rotate_left
        ·show Act.put _ (some 60) _ = _
         simp only [Act.put, List.setIfInBounds_toArray, List.set_cons_zero, List.set_cons_succ, i64_w, i32_w]
         rfl
        refine zpu HT_ 34 61 (fl6_ 47 34359738367) ?_
        refine zpu HT_ 35 62 (fl6_ 47 68719476735) ?_
        refine zpu HT_ 36 63 (fl6_ 47 137438953471) ?_
        refine pure_ (i := 37) (N := some 64) (v := undef) (a' := ?_) (fl6_ 47 274877906943) rfl rfl (any_of HT_.out (by kernel_rfl)) (fun _ _ _ h => h) (Or.inr ⟨by rfl, rfl⟩) ?_ ?_
        rotate_left
        ·simp only [Act.put, List.setIfInBounds_toArray, List.set_cons_zero, List.set_cons_succ, i64_w, i32_w]
         rfl
        refine pure_ (i := 38) (N := some 65) (v := undef) (a' := ?_) (fl6_ 47 549755813887) rfl rfl (any_of HT_.out (by kernel_rfl)) (fun _ _ _ h => h) (Or.inr ⟨by rfl, rfl⟩) ?_ ?_
        rotate_left
        ·simp only [Act.put, List.setIfInBounds_toArray, List.set_cons_zero, List.set_cons_succ, i64_w, i32_w]
         rfl
        refine pure_ (i := 39) (N := some 66) (v := undef) (a' := ?_) (fl6_ 47 1099511627775) rfl rfl (any_of HT_.out (by kernel_rfl)) (fun _ _ _ h => h) (Or.inr ⟨by rfl, rfl⟩) ?_ ?_
        rotate_left
        ·simp only [Act.put, List.setIfInBounds_toArray, List.set_cons_zero, List.set_cons_succ, i64_w, i32_w]
         rfl
        refine pure_ (i := 40) (N := some 67) (v := undef) (a' := ?_) (fl6_ 47 2199023255551) rfl rfl (any_of HT_.out (by kernel_rfl)) (fun _ _ _ h => h) (Or.inr ⟨by rfl, rfl⟩) ?_ ?_
        rotate_left
        ·simp only [Act.put, List.setIfInBounds_toArray, List.set_cons_zero, List.set_cons_succ, i64_w, i32_w]
         rfl
        refine pure_ (i := 41) (N := some 68) (v := undef) (a' := ?_) (fl6_ 47 4398046511103) rfl rfl (any_of HT_.out (by kernel_rfl)) (fun _ _ _ h => h) (Or.inr ⟨by rfl, rfl⟩) ?_ ?_
        rotate_left
        ·simp only [Act.put, List.setIfInBounds_toArray, List.set_cons_zero, List.set_cons_succ, i64_w, i32_w]
         rfl
        refine pure_ (i := 42) (N := some 69) (v := undef) (a' := ?_) (fl6_ 47 8796093022207) rfl rfl (any_of HT_.out (by kernel_rfl)) (fun _ _ _ h => h) (Or.inr ⟨by rfl, rfl⟩) ?_ ?_
        rotate_left
        ·simp only [Act.put, List.setIfInBounds_toArray, List.set_cons_zero, List.set_cons_succ, i64_w, i32_w]
         rfl
        refine pure_ (i := 43) (N := some 70) (v := undef) (a' := ?_) (fl6_ 47 17592186044415) rfl rfl (any_of HT_.out (by kernel_rfl)) (fun _ _ _ h => h) (Or.inr ⟨by rfl, rfl⟩) ?_ ?_
        rotate_left
        ·simp only [Act.put, List.setIfInBounds_toArray, List.set_cons_zero, List.set_cons_succ, i64_w, i32_w]
         rfl
        refine pure_ (i := 44) (N := some 71) (v := undef) (a' := ?_) (fl6_ 47 35184372088831) rfl rfl (any_of HT_.out (by kernel_rfl)) (fun _ _ _ h => h) (Or.inr ⟨by rfl, rfl⟩) ?_ ?_
        rotate_left
        ·simp only [Act.put, List.setIfInBounds_toArray, List.set_cons_zero, List.set_cons_succ, i64_w, i32_w]
         rfl
        refine pure_ (i := 45) (N := some 72) (v := undef) (a' := ?_) (fl6_ 47 70368744177663) rfl rfl (any_of HT_.out (by kernel_rfl)) (fun _ _ _ h => h) (Or.inr ⟨by rfl, rfl⟩) ?_ ?_
        rotate_left
        ·simp only [Act.put, List.setIfInBounds_toArray, List.set_cons_zero, List.set_cons_succ, i64_w, i32_w]
         rfl
        refine zpu HT_ 46 73 (fl6_ 47 140737488355327) ?_
        refine done_ (done_of HT_.out (by kernel_rfl)) ?_
        try go_wp2
        go_meet
        case rel => exact ⟨_, (true), zrs, H', ⟨by have := HJ1.out; have := HK2.out; first | omega | exact Nat.le_refl _⟩, ⟨zb BK155⟩, ⟨zb BK157⟩, ⟨zg HB⟩⟩
       subst c55
       rw [if_pos rfl] at H
       by_cases c56 : ((rd_T39 l0_0 x3_2).f1) = 1
       ·rw [if_pos c56] at H
        have c56b0 : (((rd_T39 l0_0 x3_2).f1) == 1) = true := beq_iff_eq.mpr c56
        have c56b1 : (((rd_T39 l0_0 x3_2).f1) != 1) = false := bne_eq_false_iff_eq.mpr c56
        clear c56
        have H' := Aside0.mk H
        clear H
        try go_wp2
        have n0_ : Aside0 ((((((((((w12.setCell ⟨gb157, 0, none⟩ (.string ((rd_T39 l0_0 x3_2).f0))).setCell ⟨gb157, 1, none⟩ (.int .i64 ((rd_T39 l0_0 x3_2).f1))).setCell ⟨gb157, 2, none⟩ (.bool ((rd_T39 l0_0 x3_2).f2.f0))).setCell ⟨gb157, 3, none⟩ (.bool ((rd_T39 l0_0 x3_2).f2.f1))).setCell ⟨gb157, 4, none⟩ (.bool ((rd_T39 l0_0 x3_2).f2.f2))).setCell ⟨gb157, 5, none⟩ (.slice A156_5 ((rd_T39 l0_0 x3_2).f2.f3).length c156_5)).setCell ⟨gb157, 6, none⟩ (.slice A156_6 ((rd_T39 l0_0 x3_2).f2.f4).length c156_6)).setCell ⟨gb157, 7, none⟩ (.int .i64 ((rd_T39 l0_0 x3_2).f2.f5))).setCell ⟨gb157, 8, none⟩ (.int .i64 ((rd_T39 l0_0 x3_2).f2.f6))).heap[gb155]? = some (.cells #[.slice (some ad156) l0_0.length c0_0] 29 (0, 0))) := ⟨zp BK155⟩
        have n1_ : Aside0 ((((((((((w12.setCell ⟨gb157, 0, none⟩ (.string ((rd_T39 l0_0 x3_2).f0))).setCell ⟨gb157, 1, none⟩ (.int .i64 ((rd_T39 l0_0 x3_2).f1))).setCell ⟨gb157, 2, none⟩ (.bool ((rd_T39 l0_0 x3_2).f2.f0))).setCell ⟨gb157, 3, none⟩ (.bool ((rd_T39 l0_0 x3_2).f2.f1))).setCell ⟨gb157, 4, none⟩ (.bool ((rd_T39 l0_0 x3_2).f2.f2))).setCell ⟨gb157, 5, none⟩ (.slice A156_5 ((rd_T39 l0_0 x3_2).f2.f3).length c156_5)).setCell ⟨gb157, 6, none⟩ (.slice A156_6 ((rd_T39 l0_0 x3_2).f2.f4).length c156_6)).setCell ⟨gb157, 7, none⟩ (.int .i64 ((rd_T39 l0_0 x3_2).f2.f5))).setCell ⟨gb157, 8, none⟩ (.int .i64 ((rd_T39 l0_0 x3_2).f2.f6))).heap[gb157]? = some (.cells #[.string ((rd_T39 l0_0 x3_2).f0), .int .i64 ((rd_T39 l0_0 x3_2).f1), .bool ((rd_T39 l0_0 x3_2).f2.f0), .bool ((rd_T39 l0_0 x3_2).f2.f1), .bool ((rd_T39 l0_0 x3_2).f2.f2), .slice A156_5 ((rd_T39 l0_0 x3_2).f2.f3).length c156_5, .slice A156_6 ((rd_T39 l0_0 x3_2).f2.f4).length c156_6, .int .i64 ((rd_T39 l0_0 x3_2).f2.f5), .int .i64 ((rd_T39 l0_0 x3_2).f2.f6)] 39 (0, 0))) := ⟨zp BK157⟩
        have n2_ : Aside0 (Below w.heap.size w (((((((((w12.setCell ⟨gb157, 0, none⟩ (.string ((rd_T39 l0_0 x3_2).f0))).setCell ⟨gb157, 1, none⟩ (.int .i64 ((rd_T39 l0_0 x3_2).f1))).setCell ⟨gb157, 2, none⟩ (.bool ((rd_T39 l0_0 x3_2).f2.f0))).setCell ⟨gb157, 3, none⟩ (.bool ((rd_T39 l0_0 x3_2).f2.f1))).setCell ⟨gb157, 4, none⟩ (.bool ((rd_T39 l0_0 x3_2).f2.f2))).setCell ⟨gb157, 5, none⟩ (.slice A156_5 ((rd_T39 l0_0 x3_2).f2.f3).length c156_5)).setCell ⟨gb157, 6, none⟩ (.slice A156_6 ((rd_T39 l0_0 x3_2).f2.f4).length c156_6)).setCell ⟨gb157, 7, none⟩ (.int .i64 ((rd_T39 l0_0 x3_2).f2.f5))).setCell ⟨gb157, 8, none⟩ (.int .i64 ((rd_T39 l0_0 x3_2).f2.f6)))) := ⟨zg HB⟩
        (try clear BK155)
        (try clear BK157)
        (try clear HB)
        generalize (((((((((w12.setCell ⟨gb157, 0, none⟩ (.string ((rd_T39 l0_0 x3_2).f0))).setCell ⟨gb157, 1, none⟩ (.int .i64 ((rd_T39 l0_0 x3_2).f1))).setCell ⟨gb157, 2, none⟩ (.bool ((rd_T39 l0_0 x3_2).f2.f0))).setCell ⟨gb157, 3, none⟩ (.bool ((rd_T39 l0_0 x3_2).f2.f1))).setCell ⟨gb157, 4, none⟩ (.bool ((rd_T39 l0_0 x3_2).f2.f2))).setCell ⟨gb157, 5, none⟩ (.slice A156_5 ((rd_T39 l0_0 x3_2).f2.f3).length c156_5)).setCell ⟨gb157, 6, none⟩ (.slice A156_6 ((rd_T39 l0_0 x3_2).f2.f4).length c156_6)).setCell ⟨gb157, 7, none⟩ (.int .i64 ((rd_T39 l0_0 x3_2).f2.f5))).setCell ⟨gb157, 8, none⟩ (.int .i64 ((rd_T39 l0_0 x3_2).f2.f6))) = w57 at n0_ n1_ n2_ ⊢
        have BK155 := n0_
        have BK157 := n1_
        have HB := n2_
        clear n0_ n1_ n2_
        replace BK155 := Aside0.mk (blk_drew BK155.out)
        replace BK157 := Aside0.mk (blk_drew BK157.out)
        replace HB := Aside0.mk (below_drew1 HB.out)
        refine start_ (n := 47) (S := fun w' => w'.cell? ⟨gb157, 0, none⟩ = some (.string ((rd_T39 l0_0 x3_2).f0)) ∧ w'.cell? ⟨gb157, 1, none⟩ = some (.int .i64 ((rd_T39 l0_0 x3_2).f1)) ∧ w'.cell? ⟨gb157, 2, none⟩ = some (.bool ((rd_T39 l0_0 x3_2).f2.f0)) ∧ w'.cell? ⟨gb157, 3, none⟩ = some (.bool ((rd_T39 l0_0 x3_2).f2.f1)) ∧ w'.cell? ⟨gb157, 4, none⟩ = some (.bool ((rd_T39 l0_0 x3_2).f2.f2)) ∧ w'.cell? ⟨gb157, 5, none⟩ = some (.slice A156_5 ((rd_T39 l0_0 x3_2).f2.f3).length c156_5) ∧ w'.cell? ⟨gb157, 6, none⟩ = some (.slice A156_6 ((rd_T39 l0_0 x3_2).f2.f4).length c156_6) ∧ w'.cell? ⟨gb157, 7, none⟩ = some (.int .i64 ((rd_T39 l0_0 x3_2).f2.f5)) ∧ w'.cell? ⟨gb157, 8, none⟩ = some (.int .i64 ((rd_T39 l0_0 x3_2).f2.f6))) (ds := []) (fl6_ 47 0) (by kernel_rfl) rfl rfl ⟨(blk_cell BK157.out 0).trans rfl, (blk_cell BK157.out 1).trans rfl, (blk_cell BK157.out 2).trans rfl, (blk_cell BK157.out 3).trans rfl, (blk_cell BK157.out 4).trans rfl, (blk_cell BK157.out 5).trans rfl, (blk_cell BK157.out 6).trans rfl, (blk_cell BK157.out 7).trans rfl, (blk_cell BK157.out 8).trans rfl⟩ (fun hHeld => ?_); refine with_tabW spec_SchemaOK.tab7 spec_SchemaOK.bits7 (fun HT_ HW_ => ?_)
        generalize w57.drew = w58 at BK155 BK157 HB hHeld ⊢
        refine zpu HT_ 0 27 (fl6_ 47 1) ?_
        refine take_ (i := 1) (N := some 28) (v := ?_) (a' := ?_) (fl6_ 47 3) rfl rfl (take_ofW HT_.out HW_.out (by kernel_rfl)) (fun _ _ _ h => h) (Or.inl ⟨by rfl, ?_⟩) hHeld ?_ ?_
        rotate_left
        ·rintro w' ⟨s0, s1, s2, s3, s4, s5, s6, s7, s8⟩
         go_simp
         with_reducible rfl
        rotate_left
        ·simp only [Act.put, List.setIfInBounds_toArray, List.set_cons_zero, List.set_cons_succ, i64_w, i32_w]
         rfl
        refine one_ (i := 2) (N := some 29) (fl6_ 47 7) rfl rfl (one_of HT_.out (by kernel_rfl)) (by decide) (fun K hK => ?_)
        refine goes_ Tryd.func10 (by kernel_rfl) rfl #[.string ((rd_T39 l0_0 x3_2).f0)] (by rfl) rfl rfl zar ?_
        with_reducible refine (spec_l06Name.calls k2 ((rd_T39 l0_0 x3_2).f0) true _ A15.out).mono ?_
        rintro e w' ⟨rfl, ⟨nd, rfl⟩⟩
        refine ⟨_, rfl, ?_⟩
        refine hK.out _ _ ⟨(blk_cell BK157.out 0).trans rfl, (blk_cell BK157.out 1).trans rfl, (blk_cell BK157.out 2).trans rfl, (blk_cell BK157.out 3).trans rfl, (blk_cell BK157.out 4).trans rfl, (blk_cell BK157.out 5).trans rfl, (blk_cell BK157.out 6).trans rfl, (blk_cell BK157.out 7).trans rfl, (blk_cell BK157.out 8).trans rfl⟩ (fun hHeld => ?_)
        clear hK K
        refine norm_ (a' := ?_) ?_ ?_
        rotate_left
        ·show Act.put _ (some 29) _ = _
         simp only [Act.put, List.setIfInBounds_toArray, List.set_cons_zero, List.set_cons_succ, i64_w, i32_w]
         rfl
        refine zpu HT_ 3 30 (fl6_ 47 15) ?_
        refine zpu HT_ 4 31 (fl6_ 47 31) ?_
        refine zpu HT_ 5 32 (fl6_ 47 63) ?_
        refine zpu HT_ 6 33 (fl6_ 47 127) ?_
        refine zpu HT_ 7 34 (fl6_ 47 255) ?_
        refine pure_ (i := 8) (N := some 35) (v := undef) (a' := ?_) (fl6_ 47 511) rfl rfl (any_of HT_.out (by kernel_rfl)) (fun _ _ _ h => h) (Or.inr ⟨by rfl, rfl⟩) ?_ ?_
        rotate_left
        ·simp only [Act.put, List.setIfInBounds_toArray, List.set_cons_zero, List.set_cons_succ, i64_w, i32_w]
         rfl
        refine pure_ (i := 9) (N := some 36) (v := undef) (a' := ?_) (fl6_ 47 1023) rfl rfl (any_of HT_.out (by kernel_rfl)) (fun _ _ _ h => h) (Or.inr ⟨by rfl, rfl⟩) ?_ ?_
        rotate_left
        ·simp only [Act.put, List.setIfInBounds_toArray, List.set_cons_zero, List.set_cons_succ, i64_w, i32_w]
         rfl
        refine pure_ (i := 10) (N := some 37) (v := undef) (a' := ?_) (fl6_ 47 2047) rfl rfl (any_of HT_.out (by kernel_rfl)) (fun _ _ _ h => h) (Or.inr ⟨by rfl, rfl⟩) ?_ ?_
        rotate_left
        ·simp only [Act.put, List.setIfInBounds_toArray, List.set_cons_zero, List.set_cons_succ, i64_w, i32_w]
         rfl
        refine pure_ (i := 11) (N := some 38) (v := undef) (a' := ?_) (fl6_ 47 4095) rfl rfl (any_of HT_.out (by kernel_rfl)) (fun _ _ _ h => h) (Or.inr ⟨by rfl, rfl⟩) ?_ ?_
        rotate_left
        ·simp only [Act.put, List.setIfInBounds_toArray, List.set_cons_zero, List.set_cons_succ, i64_w, i32_w]
         rfl
        refine pure_ (i := 12) (N := some 39) (v := undef) (a' := ?_) (fl6_ 47 8191) rfl rfl (any_of HT_.out (by kernel_rfl)) (fun _ _ _ h => h) (Or.inr ⟨by rfl, rfl⟩) ?_ ?_
        rotate_left
        ·simp only [Act.put, List.setIfInBounds_toArray, List.set_cons_zero, List.set_cons_succ, i64_w, i32_w]
         rfl
        refine pure_ (i := 13) (N := some 40) (v := undef) (a' := ?_) (fl6_ 47 16383) rfl rfl (any_of HT_.out (by kernel_rfl)) (fun _ _ _ h => h) (Or.inr ⟨by rfl, rfl⟩) ?_ ?_
        rotate_left
        ·simp only [Act.put, List.setIfInBounds_toArray, List.set_cons_zero, List.set_cons_succ, i64_w, i32_w]
         rfl
        refine pure_ (i := 14) (N := some 41) (v := undef) (a' := ?_) (fl6_ 47 32767) rfl rfl (any_of HT_.out (by kernel_rfl)) (fun _ _ _ h => h) (Or.inr ⟨by rfl, rfl⟩) ?_ ?_
        rotate_left
        ·simp only [Act.put, List.setIfInBounds_toArray, List.set_cons_zero, List.set_cons_succ, i64_w, i32_w]
         rfl
        refine pure_ (i := 15) (N := some 42) (v := undef) (a' := ?_) (fl6_ 47 65535) rfl rfl (any_of HT_.out (by kernel_rfl)) (fun _ _ _ h => h) (Or.inr ⟨by rfl, rfl⟩) ?_ ?_
        rotate_left
        ·simp only [Act.put, List.setIfInBounds_toArray, List.set_cons_zero, List.set_cons_succ, i64_w, i32_w]
         rfl
        refine pure_ (i := 16) (N := some 43) (v := undef) (a' := ?_) (fl6_ 47 131071) rfl rfl (any_of HT_.out (by kernel_rfl)) (fun _ _ _ h => h) (Or.inr ⟨by rfl, rfl⟩) ?_ ?_
        rotate_left
        ·simp only [Act.put, List.setIfInBounds_toArray, List.set_cons_zero, List.set_cons_succ, i64_w, i32_w]
         rfl
        refine pure_ (i := 17) (N := some 44) (v := undef) (a' := ?_) (fl6_ 47 262143) rfl rfl (any_of HT_.out (by kernel_rfl)) (fun _ _ _ h => h) (Or.inr ⟨by rfl, rfl⟩) ?_ ?_
        rotate_left
        ·simp only [Act.put, List.setIfInBounds_toArray, List.set_cons_zero, List.set_cons_succ, i64_w, i32_w]
         rfl
        refine zpu HT_ 18 45 (fl6_ 47 524287) ?_
        refine zpu HT_ 19 46 (fl6_ 47 1048575) ?_
        refine zpu HT_ 20 47 (fl6_ 47 2097151) ?_
        refine zpu HT_ 21 48 (fl6_ 47 4194303) ?_
        refine take_ (i := 22) (N := some 49) (v := ?_) (a' := ?_) (fl6_ 47 8388607) rfl rfl (take_ofW HT_.out HW_.out (by kernel_rfl)) (fun _ _ _ h => h) (Or.inl ⟨by rfl, ?_⟩) hHeld ?_ ?_
        rotate_left
        ·rintro w' ⟨s0, s1, s2, s3, s4, s5, s6, s7, s8⟩
         go_simp
         with_reducible rfl
        rotate_left
        ·simp only [Act.put, List.setIfInBounds_toArray, List.set_cons_zero, List.set_cons_succ, i64_w, i32_w]
         rfl
        refine zpu HT_ 23 50 (fl6_ 47 16777215) ?_
        refine zpu HT_ 24 51 (fl6_ 47 33554431) ?_
        refine zpu HT_ 25 52 (fl6_ 47 67108863) ?_
        refine zpu HT_ 26 53 (fl6_ 47 134217727) ?_
        refine take_ (i := 27) (N := some 54) (v := ?_) (a' := ?_) (fl6_ 47 268435455) rfl rfl (take_ofW HT_.out HW_.out (by kernel_rfl)) (fun _ _ _ h => h) (Or.inl ⟨by rfl, ?_⟩) hHeld ?_ ?_
        rotate_left
        ·rintro w' ⟨s0, s1, s2, s3, s4, s5, s6, s7, s8⟩
         go_simp
         with_reducible rfl
        rotate_left
        ·simp only [Act.put, List.setIfInBounds_toArray, List.set_cons_zero, List.set_cons_succ, i64_w, i32_w]
         rfl
        refine zpu HT_ 28 55 (fl6_ 47 536870911) ?_
        refine zpu HT_ 29 56 (fl6_ 47 1073741823) ?_
        refine zpu HT_ 30 57 (fl6_ 47 2147483647) ?_
        refine zpu HT_ 31 58 (fl6_ 47 4294967295) ?_
        refine take_ (i := 32) (N := some 59) (v := ?_) (a' := ?_) (fl6_ 47 8589934591) rfl rfl (take_ofW HT_.out HW_.out (by kernel_rfl)) (fun _ _ _ h => h) (Or.inl ⟨by rfl, ?_⟩) hHeld ?_ ?_
        rotate_left
        ·rintro w' ⟨s0, s1, s2, s3, s4, s5, s6, s7, s8⟩
         go_simp
         with_reducible rfl
        rotate_left
        ·simp only [Act.put, List.setIfInBounds_toArray, List.set_cons_zero, List.set_cons_succ, i64_w, i32_w]
         rfl
        refine one_ (i := 33) (N := some 60) (fl6_ 47 17179869183) rfl rfl (one_of HT_.out (by kernel_rfl)) (by decide) (fun K hK => ?_)
        refine goes_ Tryd.func11 (by kernel_rfl) rfl #[.agg #[.bool ((rd_T39 l0_0 x3_2).f2.f0), .bool ((rd_T39 l0_0 x3_2).f2.f1), .bool ((rd_T39 l0_0 x3_2).f2.f2), .slice A156_5 ((rd_T39 l0_0 x3_2).f2.f3).length c156_5, .slice A156_6 ((rd_T39 l0_0 x3_2).f2.f4).length c156_6, .int .i64 ((rd_T39 l0_0 x3_2).f2.f5), .int .i64 ((rd_T39 l0_0 x3_2).f2.f6)]] (by rfl) rfl rfl zar ?_
        with_reducible refine (spec_AnalyzerOK.calls k2 ((rd_T39 l0_0 x3_2).f2.f0) ((rd_T39 l0_0 x3_2).f2.f1) ((rd_T39 l0_0 x3_2).f2.f2) _ _ ((rd_T39 l0_0 x3_2).f2.f3) _ _ ((rd_T39 l0_0 x3_2).f2.f4) ((rd_T39 l0_0 x3_2).f2.f5) ((rd_T39 l0_0 x3_2).f2.f6) true _ ?side1 ?side2 ?side3 ?side4 A54.out).mono ?_
        (case side1 => exact zC (Kd.C_below HR156_5.out (zg HB)))
        (case side2 => exact HC156_5.out)
        (case side3 => exact zC (Kd.C_below HR156_6.out (zg HB)))
        (case side4 => exact HC156_6.out)
        rintro e w59 ⟨rfl, hb⟩
        refine ⟨_, rfl, ?_⟩
        replace BK155 := Aside0.mk (blk_below (zb BK155) hb)
        replace BK157 := Aside0.mk (blk_below (zb BK157) hb)
        replace HB := Aside0.mk (below_step (zg HB) hb)
        (try clear hb)
        (try clear hb2)
        (try clear hk)
        (try clear hi)
        refine hK.out _ _ ⟨(blk_cell BK157.out 0).trans rfl, (blk_cell BK157.out 1).trans rfl, (blk_cell BK157.out 2).trans rfl, (blk_cell BK157.out 3).trans rfl, (blk_cell BK157.out 4).trans rfl, (blk_cell BK157.out 5).trans rfl, (blk_cell BK157.out 6).trans rfl, (blk_cell BK157.out 7).trans rfl, (blk_cell BK157.out 8).trans rfl⟩ (fun hHeld => ?_)
        clear hK K
        refine norm_ (a' := ?_) ?_ ?_
        rotate_left
        ·show Act.put _ (some 60) _ = _
         simp only [Act.put, List.setIfInBounds_toArray, List.set_cons_zero, List.set_cons_succ, i64_w, i32_w]
         rfl
        refine zpu HT_ 34 61 (fl6_ 47 34359738367) ?_
        refine zpu HT_ 35 62 (fl6_ 47 68719476735) ?_
        refine zpu HT_ 36 63 (fl6_ 47 137438953471) ?_
        refine zpu HT_ 37 64 (fl6_ 47 274877906943) ?_
        refine take_ (i := 38) (N := some 65) (v := ?_) (a' := ?_) (fl6_ 47 549755813887) rfl rfl (take_ofW HT_.out HW_.out (by kernel_rfl)) (fun _ _ _ h => h) (Or.inl ⟨by rfl, ?_⟩) hHeld ?_ ?_
        rotate_left
        ·rintro w' ⟨s0, s1, s2, s3, s4, s5, s6, s7, s8⟩
         go_simp
         with_reducible rfl
        rotate_left
        ·simp only [Act.put, List.setIfInBounds_toArray, List.set_cons_zero, List.set_cons_succ, i64_w, i32_w]
         rfl
        refine zpu HT_ 39 66 (fl6_ 47 1099511627775) ?_
        refine zpu HT_ 40 67 (fl6_ 47 2199023255551) ?_
        refine pure_ (i := 41) (N := some 68) (v := undef) (a' := ?_) (fl6_ 47 4398046511103) rfl rfl (any_of HT_.out (by kernel_rfl)) (fun _ _ _ h => h) (Or.inr ⟨by rfl, rfl⟩) ?_ ?_
        rotate_left
        ·simp only [Act.put, List.setIfInBounds_toArray, List.set_cons_zero, List.set_cons_succ, i64_w, i32_w]
         rfl
        refine pure_ (i := 42) (N := some 69) (v := undef) (a' := ?_) (fl6_ 47 8796093022207) rfl rfl (any_of HT_.out (by kernel_rfl)) (fun _ _ _ h => h) (Or.inr ⟨by rfl, rfl⟩) ?_ ?_
        rotate_left
        ·simp only [Act.put, List.setIfInBounds_toArray, List.set_cons_zero, List.set_cons_succ, i64_w, i32_w]
         rfl
        refine pure_ (i := 43) (N := some 70) (v := undef) (a' := ?_) (fl6_ 47 17592186044415) rfl rfl (any_of HT_.out (by kernel_rfl)) (fun _ _ _ h => h) (Or.inr ⟨by rfl, rfl⟩) ?_ ?_
        rotate_left
        ·simp only [Act.put, List.setIfInBounds_toArray, List.set_cons_zero, List.set_cons_succ, i64_w, i32_w]
         rfl
        refine pure_ (i := 44) (N := some 71) (v := undef) (a' := ?_) (fl6_ 47 35184372088831) rfl rfl (any_of HT_.out (by kernel_rfl)) (fun _ _ _ h => h) (Or.inr ⟨by rfl, rfl⟩) ?_ ?_
        rotate_left
        ·simp only [Act.put, List.setIfInBounds_toArray, List.set_cons_zero, List.set_cons_succ, i64_w, i32_w]
         rfl
        refine zpu HT_ 45 72 (fl6_ 47 70368744177663) ?_
        refine zpu HT_ 46 73 (fl6_ 47 140737488355327) ?_
        refine done_ (done_of HT_.out (by kernel_rfl)) ?_
        try go_wp2
        go_meet
        case rel => exact ⟨_, (false), zrs, H', ⟨by have := HJ1.out; have := HK2.out; first | omega | exact Nat.le_refl _⟩, ⟨zb BK155⟩, ⟨zb BK157⟩, ⟨zg HB⟩⟩
       rw [if_neg c56] at H
       have c56b0 : (((rd_T39 l0_0 x3_2).f1) == 1) = false := beq_eq_false_iff_ne.mpr c56
       have c56b1 : (((rd_T39 l0_0 x3_2).f1) != 1) = true := bne_iff_ne.mpr c56
       replace H := Option.bind_eq_some_iff.mp H
       obtain ⟨t163, A610, H⟩ := H
       try dsimp only at H
       have A61 := Aside0.mk A610
       clear A610
       have H' := Aside0.mk H
       clear H
       try go_wp2
       have n0_ : Aside0 ((((((((((w12.setCell ⟨gb157, 0, none⟩ (.string ((rd_T39 l0_0 x3_2).f0))).setCell ⟨gb157, 1, none⟩ (.int .i64 ((rd_T39 l0_0 x3_2).f1))).setCell ⟨gb157, 2, none⟩ (.bool ((rd_T39 l0_0 x3_2).f2.f0))).setCell ⟨gb157, 3, none⟩ (.bool ((rd_T39 l0_0 x3_2).f2.f1))).setCell ⟨gb157, 4, none⟩ (.bool ((rd_T39 l0_0 x3_2).f2.f2))).setCell ⟨gb157, 5, none⟩ (.slice A156_5 ((rd_T39 l0_0 x3_2).f2.f3).length c156_5)).setCell ⟨gb157, 6, none⟩ (.slice A156_6 ((rd_T39 l0_0 x3_2).f2.f4).length c156_6)).setCell ⟨gb157, 7, none⟩ (.int .i64 ((rd_T39 l0_0 x3_2).f2.f5))).setCell ⟨gb157, 8, none⟩ (.int .i64 ((rd_T39 l0_0 x3_2).f2.f6))).heap[gb155]? = some (.cells #[.slice (some ad156) l0_0.length c0_0] 29 (0, 0))) := ⟨zp BK155⟩
       have n1_ : Aside0 ((((((((((w12.setCell ⟨gb157, 0, none⟩ (.string ((rd_T39 l0_0 x3_2).f0))).setCell ⟨gb157, 1, none⟩ (.int .i64 ((rd_T39 l0_0 x3_2).f1))).setCell ⟨gb157, 2, none⟩ (.bool ((rd_T39 l0_0 x3_2).f2.f0))).setCell ⟨gb157, 3, none⟩ (.bool ((rd_T39 l0_0 x3_2).f2.f1))).setCell ⟨gb157, 4, none⟩ (.bool ((rd_T39 l0_0 x3_2).f2.f2))).setCell ⟨gb157, 5, none⟩ (.slice A156_5 ((rd_T39 l0_0 x3_2).f2.f3).length c156_5)).setCell ⟨gb157, 6, none⟩ (.slice A156_6 ((rd_T39 l0_0 x3_2).f2.f4).length c156_6)).setCell ⟨gb157, 7, none⟩ (.int .i64 ((rd_T39 l0_0 x3_2).f2.f5))).setCell ⟨gb157, 8, none⟩ (.int .i64 ((rd_T39 l0_0 x3_2).f2.f6))).heap[gb157]? = some (.cells #[.string ((rd_T39 l0_0 x3_2).f0), .int .i64 ((rd_T39 l0_0 x3_2).f1), .bool ((rd_T39 l0_0 x3_2).f2.f0), .bool ((rd_T39 l0_0 x3_2).f2.f1), .bool ((rd_T39 l0_0 x3_2).f2.f2), .slice A156_5 ((rd_T39 l0_0 x3_2).f2.f3).length c156_5, .slice A156_6 ((rd_T39 l0_0 x3_2).f2.f4).length c156_6, .int .i64 ((rd_T39 l0_0 x3_2).f2.f5), .int .i64 ((rd_T39 l0_0 x3_2).f2.f6)] 39 (0, 0))) := ⟨zp BK157⟩
       have n2_ : Aside0 (Below w.heap.size w (((((((((w12.setCell ⟨gb157, 0, none⟩ (.string ((rd_T39 l0_0 x3_2).f0))).setCell ⟨gb157, 1, none⟩ (.int .i64 ((rd_T39 l0_0 x3_2).f1))).setCell ⟨gb157, 2, none⟩ (.bool ((rd_T39 l0_0 x3_2).f2.f0))).setCell ⟨gb157, 3, none⟩ (.bool ((rd_T39 l0_0 x3_2).f2.f1))).setCell ⟨gb157, 4, none⟩ (.bool ((rd_T39 l0_0 x3_2).f2.f2))).setCell ⟨gb157, 5, none⟩ (.slice A156_5 ((rd_T39 l0_0 x3_2).f2.f3).length c156_5)).setCell ⟨gb157, 6, none⟩ (.slice A156_6 ((rd_T39 l0_0 x3_2).f2.f4).length c156_6)).setCell ⟨gb157, 7, none⟩ (.int .i64 ((rd_T39 l0_0 x3_2).f2.f5))).setCell ⟨gb157, 8, none⟩ (.int .i64 ((rd_T39 l0_0 x3_2).f2.f6)))) := ⟨zg HB⟩
       (try clear BK155)
       (try clear BK157)
       (try clear HB)
       generalize (((((((((w12.setCell ⟨gb157, 0, none⟩ (.string ((rd_T39 l0_0 x3_2).f0))).setCell ⟨gb157, 1, none⟩ (.int .i64 ((rd_T39 l0_0 x3_2).f1))).setCell ⟨gb157, 2, none⟩ (.bool ((rd_T39 l0_0 x3_2).f2.f0))).setCell ⟨gb157, 3, none⟩ (.bool ((rd_T39 l0_0 x3_2).f2.f1))).setCell ⟨gb157, 4, none⟩ (.bool ((rd_T39 l0_0 x3_2).f2.f2))).setCell ⟨gb157, 5, none⟩ (.slice A156_5 ((rd_T39 l0_0 x3_2).f2.f3).length c156_5)).setCell ⟨gb157, 6, none⟩ (.slice A156_6 ((rd_T39 l0_0 x3_2).f2.f4).length c156_6)).setCell ⟨gb157, 7, none⟩ (.int .i64 ((rd_T39 l0_0 x3_2).f2.f5))).setCell ⟨gb157, 8, none⟩ (.int .i64 ((rd_T39 l0_0 x3_2).f2.f6))) = w62 at n0_ n1_ n2_ ⊢
       have BK155 := n0_
       have BK157 := n1_
       have HB := n2_
       clear n0_ n1_ n2_
       replace BK155 := Aside0.mk (blk_drew BK155.out)
       replace BK157 := Aside0.mk (blk_drew BK157.out)
       replace HB := Aside0.mk (below_drew1 HB.out)
       refine start_ (n := 47) (S := fun w' => w'.cell? ⟨gb157, 0, none⟩ = some (.string ((rd_T39 l0_0 x3_2).f0)) ∧ w'.cell? ⟨gb157, 1, none⟩ = some (.int .i64 ((rd_T39 l0_0 x3_2).f1)) ∧ w'.cell? ⟨gb157, 2, none⟩ = some (.bool ((rd_T39 l0_0 x3_2).f2.f0)) ∧ w'.cell? ⟨gb157, 3, none⟩ = some (.bool ((rd_T39 l0_0 x3_2).f2.f1)) ∧ w'.cell? ⟨gb157, 4, none⟩ = some (.bool ((rd_T39 l0_0 x3_2).f2.f2)) ∧ w'.cell? ⟨gb157, 5, none⟩ = some (.slice A156_5 ((rd_T39 l0_0 x3_2).f2.f3).length c156_5) ∧ w'.cell? ⟨gb157, 6, none⟩ = some (.slice A156_6 ((rd_T39 l0_0 x3_2).f2.f4).length c156_6) ∧ w'.cell? ⟨gb157, 7, none⟩ = some (.int .i64 ((rd_T39 l0_0 x3_2).f2.f5)) ∧ w'.cell? ⟨gb157, 8, none⟩ = some (.int .i64 ((rd_T39 l0_0 x3_2).f2.f6))) (ds := []) (fl6_ 47 0) (by kernel_rfl) rfl rfl ⟨(blk_cell BK157.out 0).trans rfl, (blk_cell BK157.out 1).trans rfl, (blk_cell BK157.out 2).trans rfl, (blk_cell BK157.out 3).trans rfl, (blk_cell BK157.out 4).trans rfl, (blk_cell BK157.out 5).trans rfl, (blk_cell BK157.out 6).trans rfl, (blk_cell BK157.out 7).trans rfl, (blk_cell BK157.out 8).trans rfl⟩ (fun hHeld => ?_); refine with_tabW spec_SchemaOK.tab7 spec_SchemaOK.bits7 (fun HT_ HW_ => ?_)
       generalize w62.drew = w63 at BK155 BK157 HB hHeld ⊢
       refine zpu HT_ 0 27 (fl6_ 47 1) ?_
       refine take_ (i := 1) (N := some 28) (v := ?_) (a' := ?_) (fl6_ 47 3) rfl rfl (take_ofW HT_.out HW_.out (by kernel_rfl)) (fun _ _ _ h => h) (Or.inl ⟨by rfl, ?_⟩) hHeld ?_ ?_
       rotate_left
       ·rintro w' ⟨s0, s1, s2, s3, s4, s5, s6, s7, s8⟩
        go_simp
        with_reducible rfl
       rotate_left
       ·simp only [Act.put, List.setIfInBounds_toArray, List.set_cons_zero, List.set_cons_succ, i64_w, i32_w]
        rfl
       refine one_ (i := 2) (N := some 29) (fl6_ 47 7) rfl rfl (one_of HT_.out (by kernel_rfl)) (by decide) (fun K hK => ?_)
       refine goes_ Tryd.func10 (by kernel_rfl) rfl #[.string ((rd_T39 l0_0 x3_2).f0)] (by rfl) rfl rfl zar ?_
       with_reducible refine (spec_l06Name.calls k2 ((rd_T39 l0_0 x3_2).f0) true _ A15.out).mono ?_
       rintro e w' ⟨rfl, ⟨nd, rfl⟩⟩
       refine ⟨_, rfl, ?_⟩
       refine hK.out _ _ ⟨(blk_cell BK157.out 0).trans rfl, (blk_cell BK157.out 1).trans rfl, (blk_cell BK157.out 2).trans rfl, (blk_cell BK157.out 3).trans rfl, (blk_cell BK157.out 4).trans rfl, (blk_cell BK157.out 5).trans rfl, (blk_cell BK157.out 6).trans rfl, (blk_cell BK157.out 7).trans rfl, (blk_cell BK157.out 8).trans rfl⟩ (fun hHeld => ?_)
       clear hK K
       refine norm_ (a' := ?_) ?_ ?_
       rotate_left
       ·show Act.put _ (some 29) _ = _
        simp only [Act.put, List.setIfInBounds_toArray, List.set_cons_zero, List.set_cons_succ, i64_w, i32_w]
        rfl
       refine zpu HT_ 3 30 (fl6_ 47 15) ?_
       refine zpu HT_ 4 31 (fl6_ 47 31) ?_
       refine zpu HT_ 5 32 (fl6_ 47 63) ?_
       refine zpu HT_ 6 33 (fl6_ 47 127) ?_
       refine zpu HT_ 7 34 (fl6_ 47 255) ?_
       refine pure_ (i := 8) (N := some 35) (v := undef) (a' := ?_) (fl6_ 47 511) rfl rfl (any_of HT_.out (by kernel_rfl)) (fun _ _ _ h => h) (Or.inr ⟨by rfl, rfl⟩) ?_ ?_
       rotate_left
       ·simp only [Act.put, List.setIfInBounds_toArray, List.set_cons_zero, List.set_cons_succ, i64_w, i32_w]
        rfl
       refine pure_ (i := 9) (N := some 36) (v := undef) (a' := ?_) (fl6_ 47 1023) rfl rfl (any_of HT_.out (by kernel_rfl)) (fun _ _ _ h => h) (Or.inr ⟨by rfl, rfl⟩) ?_ ?_
       rotate_left
       ·simp only [Act.put, List.setIfInBounds_toArray, List.set_cons_zero, List.set_cons_succ, i64_w, i32_w]
        rfl
       refine pure_ (i := 10) (N := some 37) (v := undef) (a' := ?_) (fl6_ 47 2047) rfl rfl (any_of HT_.out (by kernel_rfl)) (fun _ _ _ h => h) (Or.inr ⟨by rfl, rfl⟩) ?_ ?_
       rotate_left
       ·simp only [Act.put, List.setIfInBounds_toArray, List.set_cons_zero, List.set_cons_succ, i64_w, i32_w]
        rfl
       refine pure_ (i := 11) (N := some 38) (v := undef) (a' := ?_) (fl6_ 47 4095) rfl rfl (any_of HT_.out (by kernel_rfl)) (fun _ _ _ h => h) (Or.inr ⟨by rfl, rfl⟩) ?_ ?_
       rotate_left
       ·simp only [Act.put, List.setIfInBounds_toArray, List.set_cons_zero, List.set_cons_succ, i64_w, i32_w]
        rfl
       refine pure_ (i := 12) (N := some 39) (v := undef) (a' := ?_) (fl6_ 47 8191) rfl rfl (any_of HT_.out (by kernel_rfl)) (fun _ _ _ h => h) (Or.inr ⟨by rfl, rfl⟩) ?_ ?_
       rotate_left
       ·simp only [Act.put, List.setIfInBounds_toArray, List.set_cons_zero, List.set_cons_succ, i64_w, i32_w]
        rfl
       refine pure_ (i := 13) (N := some 40) (v := undef) (a' := ?_) (fl6_ 47 16383) rfl rfl (any_of HT_.out (by kernel_rfl)) (fun _ _ _ h => h) (Or.inr ⟨by rfl, rfl⟩) ?_ ?_
       rotate_left
       ·simp only [Act.put, List.setIfInBounds_toArray, List.set_cons_zero, List.set_cons_succ, i64_w, i32_w]
        rfl
       refine pure_ (i := 14) (N := some 41) (v := undef) (a' := ?_) (fl6_ 47 32767) rfl rfl (any_of HT_.out (by kernel_rfl)) (fun _ _ _ h => h) (Or.inr ⟨by rfl, rfl⟩) ?_ ?_
       rotate_left
       ·simp only [Act.put, List.setIfInBounds_toArray, List.set_cons_zero, List.set_cons_succ, i64_w, i32_w]
        rfl
       refine pure_ (i := 15) (N := some 42) (v := undef) (a' := ?_) (fl6_ 47 65535) rfl rfl (any_of HT_.out (by kernel_rfl)) (fun _ _ _ h => h) (Or.inr ⟨by rfl, rfl⟩) ?_ ?_
       rotate_left
       ·simp only [Act.put, List.setIfInBounds_toArray, List.set_cons_zero, List.set_cons_succ, i64_w, i32_w]
        rfl
       refine pure_ (i := 16) (N := some 43) (v := undef) (a' := ?_) (fl6_ 47 131071) rfl rfl (any_of HT_.out (by kernel_rfl)) (fun _ _ _ h => h) (Or.inr ⟨by rfl, rfl⟩) ?_ ?_
       rotate_left
       ·simp only [Act.put, List.setIfInBounds_toArray, List.set_cons_zero, List.set_cons_succ, i64_w, i32_w]
        rfl
       refine pure_ (i := 17) (N := some 44) (v := undef) (a' := ?_) (fl6_ 47 262143) rfl rfl (any_of HT_.out (by kernel_rfl)) (fun _ _ _ h => h) (Or.inr ⟨by rfl, rfl⟩) ?_ ?_
       rotate_left
       ·simp only [Act.put, List.setIfInBounds_toArray, List.set_cons_zero, List.set_cons_succ, i64_w, i32_w]
        rfl
       refine zpu HT_ 18 45 (fl6_ 47 524287) ?_
       refine zpu HT_ 19 46 (fl6_ 47 1048575) ?_
       refine zpu HT_ 20 47 (fl6_ 47 2097151) ?_
       refine zpu HT_ 21 48 (fl6_ 47 4194303) ?_
       refine take_ (i := 22) (N := some 49) (v := ?_) (a' := ?_) (fl6_ 47 8388607) rfl rfl (take_ofW HT_.out HW_.out (by kernel_rfl)) (fun _ _ _ h => h) (Or.inl ⟨by rfl, ?_⟩) hHeld ?_ ?_
       rotate_left
       ·rintro w' ⟨s0, s1, s2, s3, s4, s5, s6, s7, s8⟩
        go_simp
        with_reducible rfl
       rotate_left
       ·simp only [Act.put, List.setIfInBounds_toArray, List.set_cons_zero, List.set_cons_succ, i64_w, i32_w]
        rfl
       refine zpu HT_ 23 50 (fl6_ 47 16777215) ?_
       refine zpu HT_ 24 51 (fl6_ 47 33554431) ?_
       refine zpu HT_ 25 52 (fl6_ 47 67108863) ?_
       refine zpu HT_ 26 53 (fl6_ 47 134217727) ?_
       refine take_ (i := 27) (N := some 54) (v := ?_) (a' := ?_) (fl6_ 47 268435455) rfl rfl (take_ofW HT_.out HW_.out (by kernel_rfl)) (fun _ _ _ h => h) (Or.inl ⟨by rfl, ?_⟩) hHeld ?_ ?_
       rotate_left
       ·rintro w' ⟨s0, s1, s2, s3, s4, s5, s6, s7, s8⟩
        go_simp
        with_reducible rfl
       rotate_left
       ·simp only [Act.put, List.setIfInBounds_toArray, List.set_cons_zero, List.set_cons_succ, i64_w, i32_w]
        rfl
       refine zpu HT_ 28 55 (fl6_ 47 536870911) ?_
       refine zpu HT_ 29 56 (fl6_ 47 1073741823) ?_
       refine zpu HT_ 30 57 (fl6_ 47 2147483647) ?_
       refine zpu HT_ 31 58 (fl6_ 47 4294967295) ?_
       refine take_ (i := 32) (N := some 59) (v := ?_) (a' := ?_) (fl6_ 47 8589934591) rfl rfl (take_ofW HT_.out HW_.out (by kernel_rfl)) (fun _ _ _ h => h) (Or.inl ⟨by rfl, ?_⟩) hHeld ?_ ?_
       rotate_left
       ·rintro w' ⟨s0, s1, s2, s3, s4, s5, s6, s7, s8⟩
        go_simp
        with_reducible rfl
       rotate_left
       ·simp only [Act.put, List.setIfInBounds_toArray, List.set_cons_zero, List.set_cons_succ, i64_w, i32_w]
        rfl
       refine one_ (i := 33) (N := some 60) (fl6_ 47 17179869183) rfl rfl (one_of HT_.out (by kernel_rfl)) (by decide) (fun K hK => ?_)
       refine goes_ Tryd.func11 (by kernel_rfl) rfl #[.agg #[.bool ((rd_T39 l0_0 x3_2).f2.f0), .bool ((rd_T39 l0_0 x3_2).f2.f1), .bool ((rd_T39 l0_0 x3_2).f2.f2), .slice A156_5 ((rd_T39 l0_0 x3_2).f2.f3).length c156_5, .slice A156_6 ((rd_T39 l0_0 x3_2).f2.f4).length c156_6, .int .i64 ((rd_T39 l0_0 x3_2).f2.f5), .int .i64 ((rd_T39 l0_0 x3_2).f2.f6)]] (by rfl) rfl rfl zar ?_
       with_reducible refine (spec_AnalyzerOK.calls k2 ((rd_T39 l0_0 x3_2).f2.f0) ((rd_T39 l0_0 x3_2).f2.f1) ((rd_T39 l0_0 x3_2).f2.f2) _ _ ((rd_T39 l0_0 x3_2).f2.f3) _ _ ((rd_T39 l0_0 x3_2).f2.f4) ((rd_T39 l0_0 x3_2).f2.f5) ((rd_T39 l0_0 x3_2).f2.f6) true _ ?side1 ?side2 ?side3 ?side4 A54.out).mono ?_
       (case side1 => exact zC (Kd.C_below HR156_5.out (zg HB)))
       (case side2 => exact HC156_5.out)
       (case side3 => exact zC (Kd.C_below HR156_6.out (zg HB)))
       (case side4 => exact HC156_6.out)
       rintro e w64 ⟨rfl, hb⟩
       refine ⟨_, rfl, ?_⟩
       replace BK155 := Aside0.mk (blk_below (zb BK155) hb)
       replace BK157 := Aside0.mk (blk_below (zb BK157) hb)
       replace HB := Aside0.mk (below_step (zg HB) hb)
       (try clear hb)
       (try clear hb2)
       (try clear hk)
       (try clear hi)
       refine hK.out _ _ ⟨(blk_cell BK157.out 0).trans rfl, (blk_cell BK157.out 1).trans rfl, (blk_cell BK157.out 2).trans rfl, (blk_cell BK157.out 3).trans rfl, (blk_cell BK157.out 4).trans rfl, (blk_cell BK157.out 5).trans rfl, (blk_cell BK157.out 6).trans rfl, (blk_cell BK157.out 7).trans rfl, (blk_cell BK157.out 8).trans rfl⟩ (fun hHeld => ?_)
       clear hK K
       refine norm_ (a' := ?_) ?_ ?_
       rotate_left
       ·show Act.put _ (some 60) _ = _
        simp only [Act.put, List.setIfInBounds_toArray, List.set_cons_zero, List.set_cons_succ, i64_w, i32_w]
        rfl
       refine zpu HT_ 34 61 (fl6_ 47 34359738367) ?_
       refine zpu HT_ 35 62 (fl6_ 47 68719476735) ?_
       refine zpu HT_ 36 63 (fl6_ 47 137438953471) ?_
       refine zpu HT_ 37 64 (fl6_ 47 274877906943) ?_
       refine take_ (i := 38) (N := some 65) (v := ?_) (a' := ?_) (fl6_ 47 549755813887) rfl rfl (take_ofW HT_.out HW_.out (by kernel_rfl)) (fun _ _ _ h => h) (Or.inl ⟨by rfl, ?_⟩) hHeld ?_ ?_
       rotate_left
       ·rintro w' ⟨s0, s1, s2, s3, s4, s5, s6, s7, s8⟩
        go_simp
        with_reducible rfl
       rotate_left
       ·simp only [Act.put, List.setIfInBounds_toArray, List.set_cons_zero, List.set_cons_succ, i64_w, i32_w]
        rfl
       refine zpu HT_ 39 66 (fl6_ 47 1099511627775) ?_
       refine zpu HT_ 40 67 (fl6_ 47 2199023255551) ?_
       refine zpu HT_ 41 68 (fl6_ 47 4398046511103) ?_
       refine take_ (i := 42) (N := some 69) (v := ?_) (a' := ?_) (fl6_ 47 8796093022207) rfl rfl (take_ofW HT_.out HW_.out (by kernel_rfl)) (fun _ _ _ h => h) (Or.inl ⟨by rfl, ?_⟩) hHeld ?_ ?_
       rotate_left
       ·rintro w' ⟨s0, s1, s2, s3, s4, s5, s6, s7, s8⟩
        go_simp
        with_reducible rfl
       rotate_left
       ·simp only [Act.put, List.setIfInBounds_toArray, List.set_cons_zero, List.set_cons_succ, i64_w, i32_w]
        rfl
       refine one_ (i := 43) (N := some 70) (fl6_ 47 17592186044415) rfl rfl (one_of HT_.out (by kernel_rfl)) (by decide) (fun K hK => ?_)
       refine goes_ Tryd.func12 (by kernel_rfl) rfl #[.agg #[.bool ((rd_T39 l0_0 x3_2).f2.f0), .bool ((rd_T39 l0_0 x3_2).f2.f1), .bool ((rd_T39 l0_0 x3_2).f2.f2), .slice A156_5 ((rd_T39 l0_0 x3_2).f2.f3).length c156_5, .slice A156_6 ((rd_T39 l0_0 x3_2).f2.f4).length c156_6, .int .i64 ((rd_T39 l0_0 x3_2).f2.f5), .int .i64 ((rd_T39 l0_0 x3_2).f2.f6)]] (by rfl) rfl rfl zar ?_
       with_reducible refine (spec_l06Zero.calls ((rd_T39 l0_0 x3_2).f2.f0) ((rd_T39 l0_0 x3_2).f2.f1) ((rd_T39 l0_0 x3_2).f2.f2) _ _ ((rd_T39 l0_0 x3_2).f2.f3) _ _ ((rd_T39 l0_0 x3_2).f2.f4) ((rd_T39 l0_0 x3_2).f2.f5) ((rd_T39 l0_0 x3_2).f2.f6) t163 _ ?side1 ?side2 ?side3 ?side4 A61.out).mono ?_
       (case side1 => exact zC (Kd.C_below HR156_5.out HB.out))
       (case side2 => exact HC156_5.out)
       (case side3 => exact zC (Kd.C_below HR156_6.out HB.out))
       (case side4 => exact HC156_6.out)
       rintro e w66 ⟨rfl, hb⟩
       refine ⟨_, rfl, ?_⟩
       replace BK155 := Aside0.mk (blk_below (zb BK155) hb)
       replace BK157 := Aside0.mk (blk_below (zb BK157) hb)
       replace HB := Aside0.mk (below_step (zg HB) hb)
       (try clear hb)
       (try clear hb2)
       (try clear hk)
       (try clear hi)
       refine hK.out _ _ ⟨(blk_cell BK157.out 0).trans rfl, (blk_cell BK157.out 1).trans rfl, (blk_cell BK157.out 2).trans rfl, (blk_cell BK157.out 3).trans rfl, (blk_cell BK157.out 4).trans rfl, (blk_cell BK157.out 5).trans rfl, (blk_cell BK157.out 6).trans rfl, (blk_cell BK157.out 7).trans rfl, (blk_cell BK157.out 8).trans rfl⟩ (fun hHeld => ?_)
       clear hK K
       refine norm_ (a' := ?_) ?_ ?_
       rotate_left
       ·show Act.put _ (some 70) _ = _
        simp only [Act.put, List.setIfInBounds_toArray, List.set_cons_zero, List.set_cons_succ, i64_w, i32_w]
        rfl
       refine zpu HT_ 44 71 (fl6_ 47 35184372088831) ?_
       refine zpu HT_ 45 72 (fl6_ 47 70368744177663) ?_
       refine zpu HT_ 46 73 (fl6_ 47 140737488355327) ?_
       refine done_ (done_of HT_.out (by kernel_rfl)) ?_
       try go_wp2
       go_meet
       case rel => exact ⟨_, (!t163), zrs, H', ⟨by have := HJ1.out; have := HK2.out; first | omega | exact Nat.le_refl _⟩, ⟨zb BK155⟩, ⟨zb BK157⟩, ⟨zg HB⟩⟩
      rw [if_pos c17] at H
      have c17b0 : decide (0 < x3_2) = true := decide_eq_true c17
      clear c17
      (first | rw [c17b0] | (simp only [i64_w, i32_w]; rw [c17b0]) | skip)
      obtain ⟨ji18, hji18⟩ : ∃ j_ : Int, (wrap64 (x3_2 - 1)) = j_ := ⟨_, rfl⟩
      replace H : (if 0 ≤ (ji18) then (if (ji18) < (l0_0.length : Int) then (if ((Op.bytesLess (((rd_T39 l0_0 (ji18)).f0).toList) (((rd_T39 l0_0 x3_2).f0).toList)) = true) then (if ((rd_T39 l0_0 x3_2).f1) < 1 then (spec_SchemaOK.j2 k2 x3_2 true l0_0) else (if ((rd_T39 l0_0 x3_2).f1) > 3 then (spec_SchemaOK.j2 k2 x3_2 true l0_0) else ((spec_AnalyzerOK.f k2 ((rd_T39 l0_0 x3_2).f2.f0) ((rd_T39 l0_0 x3_2).f2.f1) ((rd_T39 l0_0 x3_2).f2.f2) ((rd_T39 l0_0 x3_2).f2.f3) ((rd_T39 l0_0 x3_2).f2.f4) ((rd_T39 l0_0 x3_2).f2.f5) ((rd_T39 l0_0 x3_2).f2.f6)).bind fun t160 => (if t160 = true then (if ((rd_T39 l0_0 x3_2).f1) = 1 then (spec_SchemaOK.j2 k2 x3_2 false l0_0) else ((spec_l06Zero.f ((rd_T39 l0_0 x3_2).f2.f0) ((rd_T39 l0_0 x3_2).f2.f1) ((rd_T39 l0_0 x3_2).f2.f2) ((rd_T39 l0_0 x3_2).f2.f3) ((rd_T39 l0_0 x3_2).f2.f4) ((rd_T39 l0_0 x3_2).f2.f5) ((rd_T39 l0_0 x3_2).f2.f6)).bind fun t161 => (spec_SchemaOK.j2 k2 x3_2 (!t161) l0_0))) else (spec_SchemaOK.j2 k2 x3_2 true l0_0))))) else (spec_SchemaOK.j2 k2 x3_2 true l0_0)) else (none)) else (none)) = some r := by first | (rw [hji18] at H; exact H) | (simp only [hji18] at H ⊢; exact H)
      (try rw [hji18] at A15)
      have hji18w : (IntKind.i64.wrap (x3_2 - 1)) = ji18 := (i64_w _).trans hji18
      by_cases c19 : 0 ≤ (ji18)
      rotate_left
      ·rw [if_neg c19] at H
       exact absurd H (by simp)
      rw [if_pos c19] at H
      have c19b0 : decide (0 ≤ (ji18)) = true := decide_eq_true c19
      clear c19
      by_cases c20 : (ji18) < (l0_0.length : Int)
      rotate_left
      ·rw [if_neg c20] at H
       exact absurd H (by simp)
      rw [if_pos c20] at H
      have c20b0 : decide ((ji18) < (l0_0.length : Int)) = true := decide_eq_true c20
      clear c20
      by_cases c21 : ((Op.bytesLess (((rd_T39 l0_0 (ji18)).f0).toList) (((rd_T39 l0_0 x3_2).f0).toList)) = true)
      rotate_left
      ·rw [if_neg c21] at H
       have c21b0 : (Op.bytesLess (((rd_T39 l0_0 (ji18)).f0).toList) (((rd_T39 l0_0 x3_2).f0).toList)) = false := by simpa using c21
       clear c21
       have H' := Aside0.mk H
       clear H
       try go_wp2
       have n0_ : Aside0 ((((((((((w12.setCell ⟨gb157, 0, none⟩ (.string ((rd_T39 l0_0 x3_2).f0))).setCell ⟨gb157, 1, none⟩ (.int .i64 ((rd_T39 l0_0 x3_2).f1))).setCell ⟨gb157, 2, none⟩ (.bool ((rd_T39 l0_0 x3_2).f2.f0))).setCell ⟨gb157, 3, none⟩ (.bool ((rd_T39 l0_0 x3_2).f2.f1))).setCell ⟨gb157, 4, none⟩ (.bool ((rd_T39 l0_0 x3_2).f2.f2))).setCell ⟨gb157, 5, none⟩ (.slice A156_5 ((rd_T39 l0_0 x3_2).f2.f3).length c156_5)).setCell ⟨gb157, 6, none⟩ (.slice A156_6 ((rd_T39 l0_0 x3_2).f2.f4).length c156_6)).setCell ⟨gb157, 7, none⟩ (.int .i64 ((rd_T39 l0_0 x3_2).f2.f5))).setCell ⟨gb157, 8, none⟩ (.int .i64 ((rd_T39 l0_0 x3_2).f2.f6))).heap[gb155]? = some (.cells #[.slice (some ad156) l0_0.length c0_0] 29 (0, 0))) := ⟨zp BK155⟩
       have n1_ : Aside0 ((((((((((w12.setCell ⟨gb157, 0, none⟩ (.string ((rd_T39 l0_0 x3_2).f0))).setCell ⟨gb157, 1, none⟩ (.int .i64 ((rd_T39 l0_0 x3_2).f1))).setCell ⟨gb157, 2, none⟩ (.bool ((rd_T39 l0_0 x3_2).f2.f0))).setCell ⟨gb157, 3, none⟩ (.bool ((rd_T39 l0_0 x3_2).f2.f1))).setCell ⟨gb157, 4, none⟩ (.bool ((rd_T39 l0_0 x3_2).f2.f2))).setCell ⟨gb157, 5, none⟩ (.slice A156_5 ((rd_T39 l0_0 x3_2).f2.f3).length c156_5)).setCell ⟨gb157, 6, none⟩ (.slice A156_6 ((rd_T39 l0_0 x3_2).f2.f4).length c156_6)).setCell ⟨gb157, 7, none⟩ (.int .i64 ((rd_T39 l0_0 x3_2).f2.f5))).setCell ⟨gb157, 8, none⟩ (.int .i64 ((rd_T39 l0_0 x3_2).f2.f6))).heap[gb157]? = some (.cells #[.string ((rd_T39 l0_0 x3_2).f0), .int .i64 ((rd_T39 l0_0 x3_2).f1), .bool ((rd_T39 l0_0 x3_2).f2.f0), .bool ((rd_T39 l0_0 x3_2).f2.f1), .bool ((rd_T39 l0_0 x3_2).f2.f2), .slice A156_5 ((rd_T39 l0_0 x3_2).f2.f3).length c156_5, .slice A156_6 ((rd_T39 l0_0 x3_2).f2.f4).length c156_6, .int .i64 ((rd_T39 l0_0 x3_2).f2.f5), .int .i64 ((rd_T39 l0_0 x3_2).f2.f6)] 39 (0, 0))) := ⟨zp BK157⟩
       have n2_ : Aside0 (Below w.heap.size w (((((((((w12.setCell ⟨gb157, 0, none⟩ (.string ((rd_T39 l0_0 x3_2).f0))).setCell ⟨gb157, 1, none⟩ (.int .i64 ((rd_T39 l0_0 x3_2).f1))).setCell ⟨gb157, 2, none⟩ (.bool ((rd_T39 l0_0 x3_2).f2.f0))).setCell ⟨gb157, 3, none⟩ (.bool ((rd_T39 l0_0 x3_2).f2.f1))).setCell ⟨gb157, 4, none⟩ (.bool ((rd_T39 l0_0 x3_2).f2.f2))).setCell ⟨gb157, 5, none⟩ (.slice A156_5 ((rd_T39 l0_0 x3_2).f2.f3).length c156_5)).setCell ⟨gb157, 6, none⟩ (.slice A156_6 ((rd_T39 l0_0 x3_2).f2.f4).length c156_6)).setCell ⟨gb157, 7, none⟩ (.int .i64 ((rd_T39 l0_0 x3_2).f2.f5))).setCell ⟨gb157, 8, none⟩ (.int .i64 ((rd_T39 l0_0 x3_2).f2.f6)))) := ⟨zg HB⟩
       (try clear BK155)
       (try clear BK157)
       (try clear HB)
       generalize (((((((((w12.setCell ⟨gb157, 0, none⟩ (.string ((rd_T39 l0_0 x3_2).f0))).setCell ⟨gb157, 1, none⟩ (.int .i64 ((rd_T39 l0_0 x3_2).f1))).setCell ⟨gb157, 2, none⟩ (.bool ((rd_T39 l0_0 x3_2).f2.f0))).setCell ⟨gb157, 3, none⟩ (.bool ((rd_T39 l0_0 x3_2).f2.f1))).setCell ⟨gb157, 4, none⟩ (.bool ((rd_T39 l0_0 x3_2).f2.f2))).setCell ⟨gb157, 5, none⟩ (.slice A156_5 ((rd_T39 l0_0 x3_2).f2.f3).length c156_5)).setCell ⟨gb157, 6, none⟩ (.slice A156_6 ((rd_T39 l0_0 x3_2).f2.f4).length c156_6)).setCell ⟨gb157, 7, none⟩ (.int .i64 ((rd_T39 l0_0 x3_2).f2.f5))).setCell ⟨gb157, 8, none⟩ (.int .i64 ((rd_T39 l0_0 x3_2).f2.f6))) = w46 at n0_ n1_ n2_ ⊢
       have BK155 := n0_
       have BK157 := n1_
       have HB := n2_
       clear n0_ n1_ n2_
       replace BK155 := Aside0.mk (blk_drew BK155.out)
       replace BK157 := Aside0.mk (blk_drew BK157.out)
       replace HB := Aside0.mk (below_drew1 HB.out)
       have p159 : 0 ≤ ((ji18) : Int) := of_decide_eq_true zas
       have q159 : (ji18) < (l0_0.length : Int) := of_decide_eq_true zas
       obtain ⟨ad159, A159_5, c159_5, A159_6, c159_6, e159, hx159_0, hx159_1, hx159_2, hx159_3, hx159_4, hx159_5, hx159_6, hx159_7, hx159_8, hl159_5, hi159_5, hl159_6, hi159_6⟩ := at_T39 HR0_0.out (ji18) p159 q159
       have hw159_8 := hx159_8
       have hw159_7 := hx159_7
       have hw159_6 := hx159_6
       have hw159_5 := hx159_5
       have hw159_4 := hx159_4
       have hw159_3 := hx159_3
       have hw159_2 := hx159_2
       have hw159_1 := hx159_1
       have hw159_0 := hx159_0
       obtain rfl : ad156 = ad159 := (by injection e159)
       replace hx159_0 := zx HB hx159_0
       replace hx159_1 := zx HB hx159_1
       replace hx159_2 := zx HB hx159_2
       replace hx159_3 := zx HB hx159_3
       replace hx159_4 := zx HB hx159_4
       replace hx159_5 := zx HB hx159_5
       replace hx159_6 := zx HB hx159_6
       replace hx159_7 := zx HB hx159_7
       replace hx159_8 := zx HB hx159_8
       have HR159_5 := Aside0.mk hi159_5
       have HC159_5 := Aside0.mk hl159_5
       clear hi159_5 hl159_5
       have HR159_6 := Aside0.mk hi159_6
       have HC159_6 := Aside0.mk hl159_6
       clear hi159_6 hl159_6
       replace p159 := eq_true p159
       replace q159 := eq_true q159
       refine start_ (n := 47) (S := fun w' => w'.cell? ⟨gb157, 0, none⟩ = some (.string ((rd_T39 l0_0 x3_2).f0)) ∧ w'.cell? ⟨gb157, 1, none⟩ = some (.int .i64 ((rd_T39 l0_0 x3_2).f1)) ∧ w'.cell? ⟨gb157, 2, none⟩ = some (.bool ((rd_T39 l0_0 x3_2).f2.f0)) ∧ w'.cell? ⟨gb157, 3, none⟩ = some (.bool ((rd_T39 l0_0 x3_2).f2.f1)) ∧ w'.cell? ⟨gb157, 4, none⟩ = some (.bool ((rd_T39 l0_0 x3_2).f2.f2)) ∧ w'.cell? ⟨gb157, 5, none⟩ = some (.slice A156_5 ((rd_T39 l0_0 x3_2).f2.f3).length c156_5) ∧ w'.cell? ⟨gb157, 6, none⟩ = some (.slice A156_6 ((rd_T39 l0_0 x3_2).f2.f4).length c156_6) ∧ w'.cell? ⟨gb157, 7, none⟩ = some (.int .i64 ((rd_T39 l0_0 x3_2).f2.f5)) ∧ w'.cell? ⟨gb157, 8, none⟩ = some (.int .i64 ((rd_T39 l0_0 x3_2).f2.f6)) ∧ w'.cell? ⟨gb155, 0, none⟩ = some (.slice (some ad156) l0_0.length c0_0) ∧ w'.cell? (ad156.add (((ji18)).toNat * 9)) = some (.string ((rd_T39 l0_0 (ji18)).f0)) ∧ w'.cell? ⟨(ad156.add (((ji18)).toNat * 9)).block, (ad156.add (((ji18)).toNat * 9)).off + 1, none⟩ = some (.int .i64 ((rd_T39 l0_0 (ji18)).f1)) ∧ w'.cell? ⟨(ad156.add (((ji18)).toNat * 9)).block, (ad156.add (((ji18)).toNat * 9)).off + 2, none⟩ = some (.bool ((rd_T39 l0_0 (ji18)).f2.f0)) ∧ w'.cell? ⟨(ad156.add (((ji18)).toNat * 9)).block, (ad156.add (((ji18)).toNat * 9)).off + 3, none⟩ = some (.bool ((rd_T39 l0_0 (ji18)).f2.f1)) ∧ w'.cell? ⟨(ad156.add (((ji18)).toNat * 9)).block, (ad156.add (((ji18)).toNat * 9)).off + 4, none⟩ = some (.bool ((rd_T39 l0_0 (ji18)).f2.f2)) ∧ w'.cell? ⟨(ad156.add (((ji18)).toNat * 9)).block, (ad156.add (((ji18)).toNat * 9)).off + 5, none⟩ = some (.slice A159_5 ((rd_T39 l0_0 (ji18)).f2.f3).length c159_5) ∧ w'.cell? ⟨(ad156.add (((ji18)).toNat * 9)).block, (ad156.add (((ji18)).toNat * 9)).off + 6, none⟩ = some (.slice A159_6 ((rd_T39 l0_0 (ji18)).f2.f4).length c159_6) ∧ w'.cell? ⟨(ad156.add (((ji18)).toNat * 9)).block, (ad156.add (((ji18)).toNat * 9)).off + 7, none⟩ = some (.int .i64 ((rd_T39 l0_0 (ji18)).f2.f5)) ∧ w'.cell? ⟨(ad156.add (((ji18)).toNat * 9)).block, (ad156.add (((ji18)).toNat * 9)).off + 8, none⟩ = some (.int .i64 ((rd_T39 l0_0 (ji18)).f2.f6))) (ds := []) (fl6_ 47 0) (by kernel_rfl) rfl rfl ⟨(blk_cell BK157.out 0).trans rfl, (blk_cell BK157.out 1).trans rfl, (blk_cell BK157.out 2).trans rfl, (blk_cell BK157.out 3).trans rfl, (blk_cell BK157.out 4).trans rfl, (blk_cell BK157.out 5).trans rfl, (blk_cell BK157.out 6).trans rfl, (blk_cell BK157.out 7).trans rfl, (blk_cell BK157.out 8).trans rfl, (blk_cell BK155.out 0).trans rfl, (zxx HB hw159_0), (zxx HB hw159_1), (zxx HB hw159_2), (zxx HB hw159_3), (zxx HB hw159_4), (zxx HB hw159_5), (zxx HB hw159_6), (zxx HB hw159_7), (zxx HB hw159_8)⟩ (fun hHeld => ?_); refine with_tabW spec_SchemaOK.tab7 spec_SchemaOK.bits7 (fun HT_ HW_ => ?_)
       generalize w46.drew = w47 at BK155 BK157 HB HR159_5 HR159_6 hx159_0 hx159_1 hx159_2 hx159_3 hx159_4 hx159_5 hx159_6 hx159_7 hx159_8 hHeld ⊢
       refine zpu HT_ 0 27 (fl6_ 47 1) ?_
       refine take_ (i := 1) (N := some 28) (v := ?_) (a' := ?_) (fl6_ 47 3) rfl rfl (take_ofW HT_.out HW_.out (by kernel_rfl)) (fun _ _ _ h => h) (Or.inl ⟨by rfl, ?_⟩) hHeld ?_ ?_
       rotate_left
       ·rintro w' ⟨s0, s1, s2, s3, s4, s5, s6, s7, s8, s9, s10, s11, s12, s13, s14, s15, s16, s17, s18⟩
        go_simp
        with_reducible rfl
       rotate_left
       ·simp only [Act.put, List.setIfInBounds_toArray, List.set_cons_zero, List.set_cons_succ, i64_w, i32_w]
        rfl
       refine one_ (i := 2) (N := some 29) (fl6_ 47 7) rfl rfl (one_of HT_.out (by kernel_rfl)) (by decide) (fun K hK => ?_)
       refine goes_ Tryd.func10 (by kernel_rfl) rfl #[.string ((rd_T39 l0_0 x3_2).f0)] (by rfl) rfl rfl zar ?_
       with_reducible refine (spec_l06Name.calls k2 ((rd_T39 l0_0 x3_2).f0) true _ A15.out).mono ?_
       rintro e w' ⟨rfl, ⟨nd, rfl⟩⟩
       refine ⟨_, rfl, ?_⟩
       refine hK.out _ _ ⟨(blk_cell BK157.out 0).trans rfl, (blk_cell BK157.out 1).trans rfl, (blk_cell BK157.out 2).trans rfl, (blk_cell BK157.out 3).trans rfl, (blk_cell BK157.out 4).trans rfl, (blk_cell BK157.out 5).trans rfl, (blk_cell BK157.out 6).trans rfl, (blk_cell BK157.out 7).trans rfl, (blk_cell BK157.out 8).trans rfl, (blk_cell BK155.out 0).trans rfl, (zxx HB hw159_0), (zxx HB hw159_1), (zxx HB hw159_2), (zxx HB hw159_3), (zxx HB hw159_4), (zxx HB hw159_5), (zxx HB hw159_6), (zxx HB hw159_7), (zxx HB hw159_8)⟩ (fun hHeld => ?_)
       clear hK K
       refine norm_ (a' := ?_) ?_ ?_
       rotate_left
       ·show Act.put _ (some 29) _ = _
        simp only [Act.put, List.setIfInBounds_toArray, List.set_cons_zero, List.set_cons_succ, i64_w, i32_w]
        rfl
       refine zpu HT_ 3 30 (fl6_ 47 15) ?_
       refine zpu HT_ 4 31 (fl6_ 47 31) ?_
       refine zpu HT_ 5 32 (fl6_ 47 63) ?_
       refine zpu HT_ 6 33 (fl6_ 47 127) ?_
       refine zpu HT_ 7 34 (fl6_ 47 255) ?_
       refine zpu HT_ 8 35 (fl6_ 47 511) ?_
       refine zpu HT_ 10 37 (fl6_ 47 1535) ?_
       refine zpu HT_ 12 39 (fl6_ 47 5631) ?_
       refine zpu HT_ 13 40 (fl6_ 47 13823) ?_
       refine take_ (i := 9) (N := some 36) (v := ?_) (a' := ?_) (fl6_ 47 14335) rfl rfl (take_ofW HT_.out HW_.out (by kernel_rfl)) (fun _ _ _ h => h) (Or.inl ⟨by rfl, ?_⟩) hHeld ?_ ?_
       rotate_left
       ·rintro w' ⟨s0, s1, s2, s3, s4, s5, s6, s7, s8, s9, s10, s11, s12, s13, s14, s15, s16, s17, s18⟩
        go_simp
        with_reducible rfl
       rotate_left
       ·simp only [Act.put, List.setIfInBounds_toArray, List.set_cons_zero, List.set_cons_succ, i64_w, i32_w]
        rfl
       refine take_ (i := 11) (N := some 38) (v := ?_) (a' := ?_) (fl6_ 47 16383) rfl rfl (take_ofW HT_.out HW_.out (by kernel_rfl)) (fun _ _ _ h => h) (Or.inl ⟨by rfl, ?_⟩) hHeld ?_ ?_
       rotate_left
       ·rintro w' ⟨s0, s1, s2, s3, s4, s5, s6, s7, s8, s9, s10, s11, s12, s13, s14, s15, s16, s17, s18⟩
        go_simp
        with_reducible rfl
       rotate_left
       ·simp only [Act.put, List.setIfInBounds_toArray, List.set_cons_zero, List.set_cons_succ, i64_w, i32_w]
        rfl
       refine zpu HT_ 14 41 (fl6_ 47 32767) ?_
       refine zpu HT_ 15 42 (fl6_ 47 65535) ?_
       refine take_ (i := 16) (N := some 43) (v := ?_) (a' := ?_) (fl6_ 47 131071) rfl rfl (take_ofW HT_.out HW_.out (by kernel_rfl)) (fun _ _ _ h => h) (Or.inl ⟨by rfl, ?_⟩) hHeld ?_ ?_
       rotate_left
       ·rintro w' ⟨s0, s1, s2, s3, s4, s5, s6, s7, s8, s9, s10, s11, s12, s13, s14, s15, s16, s17, s18⟩
        go_simp
        with_reducible rfl
       rotate_left
       ·simp only [Act.put, List.setIfInBounds_toArray, List.set_cons_zero, List.set_cons_succ, i64_w, i32_w]
        rfl
       refine zpu HT_ 17 44 (fl6_ 47 262143) ?_
       refine zpu HT_ 18 45 (fl6_ 47 524287) ?_
       refine zpu HT_ 19 46 (fl6_ 47 1048575) ?_
       refine zpu HT_ 20 47 (fl6_ 47 2097151) ?_
       refine pure_ (i := 21) (N := some 48) (v := undef) (a' := ?_) (fl6_ 47 4194303) rfl rfl (any_of HT_.out (by kernel_rfl)) (fun _ _ _ h => h) (Or.inr ⟨by rfl, rfl⟩) ?_ ?_
       rotate_left
       ·simp only [Act.put, List.setIfInBounds_toArray, List.set_cons_zero, List.set_cons_succ, i64_w, i32_w]
        rfl
       refine pure_ (i := 22) (N := some 49) (v := undef) (a' := ?_) (fl6_ 47 8388607) rfl rfl (any_of HT_.out (by kernel_rfl)) (fun _ _ _ h => h) (Or.inr ⟨by rfl, rfl⟩) ?_ ?_
       rotate_left
       ·simp only [Act.put, List.setIfInBounds_toArray, List.set_cons_zero, List.set_cons_succ, i64_w, i32_w]
        rfl
       refine pure_ (i := 23) (N := some 50) (v := undef) (a' := ?_) (fl6_ 47 16777215) rfl rfl (any_of HT_.out (by kernel_rfl)) (fun _ _ _ h => h) (Or.inr ⟨by rfl, rfl⟩) ?_ ?_
       rotate_left
       ·simp only [Act.put, List.setIfInBounds_toArray, List.set_cons_zero, List.set_cons_succ, i64_w, i32_w]
        rfl
       refine zpu HT_ 24 51 (fl6_ 47 33554431) ?_
       refine zpu HT_ 25 52 (fl6_ 47 67108863) ?_
       refine pure_ (i := 26) (N := some 53) (v := undef) (a' := ?_) (fl6_ 47 134217727) rfl rfl (any_of HT_.out (by kernel_rfl)) (fun _ _ _ h => h) (Or.inr ⟨by rfl, rfl⟩) ?_ ?_
       rotate_left
       ·simp only [Act.put, List.setIfInBounds_toArray, List.set_cons_zero, List.set_cons_succ, i64_w, i32_w]
        rfl
       refine pure_ (i := 27) (N := some 54) (v := undef) (a' := ?_) (fl6_ 47 268435455) rfl rfl (any_of HT_.out (by kernel_rfl)) (fun _ _ _ h => h) (Or.inr ⟨by rfl, rfl⟩) ?_ ?_
       rotate_left
       ·simp only [Act.put, List.setIfInBounds_toArray, List.set_cons_zero, List.set_cons_succ, i64_w, i32_w]
        rfl
       refine pure_ (i := 28) (N := some 55) (v := undef) (a' := ?_) (fl6_ 47 536870911) rfl rfl (any_of HT_.out (by kernel_rfl)) (fun _ _ _ h => h) (Or.inr ⟨by rfl, rfl⟩) ?_ ?_
       rotate_left
       ·simp only [Act.put, List.setIfInBounds_toArray, List.set_cons_zero, List.set_cons_succ, i64_w, i32_w]
        rfl
       refine zpu HT_ 29 56 (fl6_ 47 1073741823) ?_
       refine zpu HT_ 30 57 (fl6_ 47 2147483647) ?_
       refine pure_ (i := 31) (N := some 58) (v := undef) (a' := ?_) (fl6_ 47 4294967295) rfl rfl (any_of HT_.out (by kernel_rfl)) (fun _ _ _ h => h) (Or.inr ⟨by rfl, rfl⟩) ?_ ?_
       rotate_left
       ·simp only [Act.put, List.setIfInBounds_toArray, List.set_cons_zero, List.set_cons_succ, i64_w, i32_w]
        rfl
       refine pure_ (i := 32) (N := some 59) (v := undef) (a' := ?_) (fl6_ 47 8589934591) rfl rfl (any_of HT_.out (by kernel_rfl)) (fun _ _ _ h => h) (Or.inr ⟨by rfl, rfl⟩) ?_ ?_
       rotate_left
       ·simp only [Act.put, List.setIfInBounds_toArray, List.set_cons_zero, List.set_cons_succ, i64_w, i32_w]
        rfl
       refine pure_ (i := 33) (N := some 60) (v := undef) (a' := ?_) (fl6_ 47 17179869183) rfl rfl (any_of HT_.out (by kernel_rfl)) (fun _ _ _ h => h) (Or.inr ⟨by rfl, rfl⟩) ?_ ?_
       rotate_left
       ·simp only [Act.put, List.setIfInBounds_toArray, List.set_cons_zero, List.set_cons_succ, i64_w, i32_w]
        rfl
       refine pure_ (i := 34) (N := some 61) (v := undef) (a' := ?_) (fl6_ 47 34359738367) rfl rfl (any_of HT_.out (by kernel_rfl)) (fun _ _ _ h => h) (Or.inr ⟨by rfl, rfl⟩) ?_ ?_
       rotate_left
       ·simp only [Act.put, List.setIfInBounds_toArray, List.set_cons_zero, List.set_cons_succ, i64_w, i32_w]
        rfl
       refine zpu HT_ 35 62 (fl6_ 47 68719476735) ?_
       refine zpu HT_ 36 63 (fl6_ 47 137438953471) ?_
       refine pure_ (i := 37) (N := some 64) (v := undef) (a' := ?_) (fl6_ 47 274877906943) rfl rfl (any_of HT_.out (by kernel_rfl)) (fun _ _ _ h => h) (Or.inr ⟨by rfl, rfl⟩) ?_ ?_
       rotate_left
       ·simp only [Act.put, List.setIfInBounds_toArray, List.set_cons_zero, List.set_cons_succ, i64_w, i32_w]
        rfl
       refine pure_ (i := 38) (N := some 65) (v := undef) (a' := ?_) (fl6_ 47 549755813887) rfl rfl (any_of HT_.out (by kernel_rfl)) (fun _ _ _ h => h) (Or.inr ⟨by rfl, rfl⟩) ?_ ?_
       rotate_left
       ·simp only [Act.put, List.setIfInBounds_toArray, List.set_cons_zero, List.set_cons_succ, i64_w, i32_w]
        rfl
       refine pure_ (i := 39) (N := some 66) (v := undef) (a' := ?_) (fl6_ 47 1099511627775) rfl rfl (any_of HT_.out (by kernel_rfl)) (fun _ _ _ h => h) (Or.inr ⟨by rfl, rfl⟩) ?_ ?_
       rotate_left
       ·simp only [Act.put, List.setIfInBounds_toArray, List.set_cons_zero, List.set_cons_succ, i64_w, i32_w]
        rfl
       refine pure_ (i := 40) (N := some 67) (v := undef) (a' := ?_) (fl6_ 47 2199023255551) rfl rfl (any_of HT_.out (by kernel_rfl)) (fun _ _ _ h => h) (Or.inr ⟨by rfl, rfl⟩) ?_ ?_
       rotate_left
       ·simp only [Act.put, List.setIfInBounds_toArray, List.set_cons_zero, List.set_cons_succ, i64_w, i32_w]
        rfl
       refine pure_ (i := 41) (N := some 68) (v := undef) (a' := ?_) (fl6_ 47 4398046511103) rfl rfl (any_of HT_.out (by kernel_rfl)) (fun _ _ _ h => h) (Or.inr ⟨by rfl, rfl⟩) ?_ ?_
       rotate_left
       ·simp only [Act.put, List.setIfInBounds_toArray, List.set_cons_zero, List.set_cons_succ, i64_w, i32_w]
        rfl
       refine pure_ (i := 42) (N := some 69) (v := undef) (a' := ?_) (fl6_ 47 8796093022207) rfl rfl (any_of HT_.out (by kernel_rfl)) (fun _ _ _ h => h) (Or.inr ⟨by rfl, rfl⟩) ?_ ?_
       rotate_left
       ·simp only [Act.put, List.setIfInBounds_toArray, List.set_cons_zero, List.set_cons_succ, i64_w, i32_w]
        rfl
       refine pure_ (i := 43) (N := some 70) (v := undef) (a' := ?_) (fl6_ 47 17592186044415) rfl rfl (any_of HT_.out (by kernel_rfl)) (fun _ _ _ h => h) (Or.inr ⟨by rfl, rfl⟩) ?_ ?_
       rotate_left
       ·simp only [Act.put, List.setIfInBounds_toArray, List.set_cons_zero, List.set_cons_succ, i64_w, i32_w]
        rfl
       refine pure_ (i := 44) (N := some 71) (v := undef) (a' := ?_) (fl6_ 47 35184372088831) rfl rfl (any_of HT_.out (by kernel_rfl)) (fun _ _ _ h => h) (Or.inr ⟨by rfl, rfl⟩) ?_ ?_
       rotate_left
       ·simp only [Act.put, List.setIfInBounds_toArray, List.set_cons_zero, List.set_cons_succ, i64_w, i32_w]
        rfl
       refine pure_ (i := 45) (N := some 72) (v := undef) (a' := ?_) (fl6_ 47 70368744177663) rfl rfl (any_of HT_.out (by kernel_rfl)) (fun _ _ _ h => h) (Or.inr ⟨by rfl, rfl⟩) ?_ ?_
       rotate_left
       ·simp only [Act.put, List.setIfInBounds_toArray, List.set_cons_zero, List.set_cons_succ, i64_w, i32_w]
        rfl
       refine zpu HT_ 46 73 (fl6_ 47 140737488355327) ?_
       refine done_ (done_of HT_.out (by kernel_rfl)) ?_
       try go_wp2
       go_meet
       case rel => exact ⟨_, (true), zrs, H', ⟨by have := HJ1.out; have := HK2.out; first | omega | exact Nat.le_refl _⟩, ⟨zb BK155⟩, ⟨zb BK157⟩, ⟨zg HB⟩⟩
      rw [if_pos c21] at H
      have c21b0 : (Op.bytesLess (((rd_T39 l0_0 (ji18)).f0).toList) (((rd_T39 l0_0 x3_2).f0).toList)) = true := c21
      clear c21
      by_cases c22 : ((rd_T39 l0_0 x3_2).f1) < 1
      ·rw [if_pos c22] at H
       have c22b0 : decide (((rd_T39 l0_0 x3_2).f1) < 1) = true := decide_eq_true c22
       clear c22
       have H' := Aside0.mk H
       clear H
       try go_wp2
       have n0_ : Aside0 ((((((((((w12.setCell ⟨gb157, 0, none⟩ (.string ((rd_T39 l0_0 x3_2).f0))).setCell ⟨gb157, 1, none⟩ (.int .i64 ((rd_T39 l0_0 x3_2).f1))).setCell ⟨gb157, 2, none⟩ (.bool ((rd_T39 l0_0 x3_2).f2.f0))).setCell ⟨gb157, 3, none⟩ (.bool ((rd_T39 l0_0 x3_2).f2.f1))).setCell ⟨gb157, 4, none⟩ (.bool ((rd_T39 l0_0 x3_2).f2.f2))).setCell ⟨gb157, 5, none⟩ (.slice A156_5 ((rd_T39 l0_0 x3_2).f2.f3).length c156_5)).setCell ⟨gb157, 6, none⟩ (.slice A156_6 ((rd_T39 l0_0 x3_2).f2.f4).length c156_6)).setCell ⟨gb157, 7, none⟩ (.int .i64 ((rd_T39 l0_0 x3_2).f2.f5))).setCell ⟨gb157, 8, none⟩ (.int .i64 ((rd_T39 l0_0 x3_2).f2.f6))).heap[gb155]? = some (.cells #[.slice (some ad156) l0_0.length c0_0] 29 (0, 0))) := ⟨zp BK155⟩
       have n1_ : Aside0 ((((((((((w12.setCell ⟨gb157, 0, none⟩ (.string ((rd_T39 l0_0 x3_2).f0))).setCell ⟨gb157, 1, none⟩ (.int .i64 ((rd_T39 l0_0 x3_2).f1))).setCell ⟨gb157, 2, none⟩ (.bool ((rd_T39 l0_0 x3_2).f2.f0))).setCell ⟨gb157, 3, none⟩ (.bool ((rd_T39 l0_0 x3_2).f2.f1))).setCell ⟨gb157, 4, none⟩ (.bool ((rd_T39 l0_0 x3_2).f2.f2))).setCell ⟨gb157, 5, none⟩ (.slice A156_5 ((rd_T39 l0_0 x3_2).f2.f3).length c156_5)).setCell ⟨gb157, 6, none⟩ (.slice A156_6 ((rd_T39 l0_0 x3_2).f2.f4).length c156_6)).setCell ⟨gb157, 7, none⟩ (.int .i64 ((rd_T39 l0_0 x3_2).f2.f5))).setCell ⟨gb157, 8, none⟩ (.int .i64 ((rd_T39 l0_0 x3_2).f2.f6))).heap[gb157]? = some (.cells #[.string ((rd_T39 l0_0 x3_2).f0), .int .i64 ((rd_T39 l0_0 x3_2).f1), .bool ((rd_T39 l0_0 x3_2).f2.f0), .bool ((rd_T39 l0_0 x3_2).f2.f1), .bool ((rd_T39 l0_0 x3_2).f2.f2), .slice A156_5 ((rd_T39 l0_0 x3_2).f2.f3).length c156_5, .slice A156_6 ((rd_T39 l0_0 x3_2).f2.f4).length c156_6, .int .i64 ((rd_T39 l0_0 x3_2).f2.f5), .int .i64 ((rd_T39 l0_0 x3_2).f2.f6)] 39 (0, 0))) := ⟨zp BK157⟩
       have n2_ : Aside0 (Below w.heap.size w (((((((((w12.setCell ⟨gb157, 0, none⟩ (.string ((rd_T39 l0_0 x3_2).f0))).setCell ⟨gb157, 1, none⟩ (.int .i64 ((rd_T39 l0_0 x3_2).f1))).setCell ⟨gb157, 2, none⟩ (.bool ((rd_T39 l0_0 x3_2).f2.f0))).setCell ⟨gb157, 3, none⟩ (.bool ((rd_T39 l0_0 x3_2).f2.f1))).setCell ⟨gb157, 4, none⟩ (.bool ((rd_T39 l0_0 x3_2).f2.f2))).setCell ⟨gb157, 5, none⟩ (.slice A156_5 ((rd_T39 l0_0 x3_2).f2.f3).length c156_5)).setCell ⟨gb157, 6, none⟩ (.slice A156_6 ((rd_T39 l0_0 x3_2).f2.f4).length c156_6)).setCell ⟨gb157, 7, none⟩ (.int .i64 ((rd_T39 l0_0 x3_2).f2.f5))).setCell ⟨gb157, 8, none⟩ (.int .i64 ((rd_T39 l0_0 x3_2).f2.f6)))) := ⟨zg HB⟩
       (try clear BK155)
       (try clear BK157)
       (try clear HB)
       generalize (((((((((w12.setCell ⟨gb157, 0, none⟩ (.string ((rd_T39 l0_0 x3_2).f0))).setCell ⟨gb157, 1, none⟩ (.int .i64 ((rd_T39 l0_0 x3_2).f1))).setCell ⟨gb157, 2, none⟩ (.bool ((rd_T39 l0_0 x3_2).f2.f0))).setCell ⟨gb157, 3, none⟩ (.bool ((rd_T39 l0_0 x3_2).f2.f1))).setCell ⟨gb157, 4, none⟩ (.bool ((rd_T39 l0_0 x3_2).f2.f2))).setCell ⟨gb157, 5, none⟩ (.slice A156_5 ((rd_T39 l0_0 x3_2).f2.f3).length c156_5)).setCell ⟨gb157, 6, none⟩ (.slice A156_6 ((rd_T39 l0_0 x3_2).f2.f4).length c156_6)).setCell ⟨gb157, 7, none⟩ (.int .i64 ((rd_T39 l0_0 x3_2).f2.f5))).setCell ⟨gb157, 8, none⟩ (.int .i64 ((rd_T39 l0_0 x3_2).f2.f6))) = w23 at n0_ n1_ n2_ ⊢
       have BK155 := n0_
       have BK157 := n1_
       have HB := n2_
       clear n0_ n1_ n2_
       replace BK155 := Aside0.mk (blk_drew BK155.out)
       replace BK157 := Aside0.mk (blk_drew BK157.out)
       replace HB := Aside0.mk (below_drew1 HB.out)
       have p159 : 0 ≤ ((ji18) : Int) := of_decide_eq_true zas
       have q159 : (ji18) < (l0_0.length : Int) := of_decide_eq_true zas
       obtain ⟨ad159, A159_5, c159_5, A159_6, c159_6, e159, hx159_0, hx159_1, hx159_2, hx159_3, hx159_4, hx159_5, hx159_6, hx159_7, hx159_8, hl159_5, hi159_5, hl159_6, hi159_6⟩ := at_T39 HR0_0.out (ji18) p159 q159
       have hw159_8 := hx159_8
       have hw159_7 := hx159_7
       have hw159_6 := hx159_6
       have hw159_5 := hx159_5
       have hw159_4 := hx159_4
       have hw159_3 := hx159_3
       have hw159_2 := hx159_2
       have hw159_1 := hx159_1
       have hw159_0 := hx159_0
       obtain rfl : ad156 = ad159 := (by injection e159)
       replace hx159_0 := zx HB hx159_0
       replace hx159_1 := zx HB hx159_1
       replace hx159_2 := zx HB hx159_2
       replace hx159_3 := zx HB hx159_3
       replace hx159_4 := zx HB hx159_4
       replace hx159_5 := zx HB hx159_5
       replace hx159_6 := zx HB hx159_6
       replace hx159_7 := zx HB hx159_7
       replace hx159_8 := zx HB hx159_8
       have HR159_5 := Aside0.mk hi159_5
       have HC159_5 := Aside0.mk hl159_5
       clear hi159_5 hl159_5
       have HR159_6 := Aside0.mk hi159_6
       have HC159_6 := Aside0.mk hl159_6
       clear hi159_6 hl159_6
       replace p159 := eq_true p159
       replace q159 := eq_true q159
       refine start_ (n := 47) (S := fun w' => w'.cell? ⟨gb157, 0, none⟩ = some (.string ((rd_T39 l0_0 x3_2).f0)) ∧ w'.cell? ⟨gb157, 1, none⟩ = some (.int .i64 ((rd_T39 l0_0 x3_2).f1)) ∧ w'.cell? ⟨gb157, 2, none⟩ = some (.bool ((rd_T39 l0_0 x3_2).f2.f0)) ∧ w'.cell? ⟨gb157, 3, none⟩ = some (.bool ((rd_T39 l0_0 x3_2).f2.f1)) ∧ w'.cell? ⟨gb157, 4, none⟩ = some (.bool ((rd_T39 l0_0 x3_2).f2.f2)) ∧ w'.cell? ⟨gb157, 5, none⟩ = some (.slice A156_5 ((rd_T39 l0_0 x3_2).f2.f3).length c156_5) ∧ w'.cell? ⟨gb157, 6, none⟩ = some (.slice A156_6 ((rd_T39 l0_0 x3_2).f2.f4).length c156_6) ∧ w'.cell? ⟨gb157, 7, none⟩ = some (.int .i64 ((rd_T39 l0_0 x3_2).f2.f5)) ∧ w'.cell? ⟨gb157, 8, none⟩ = some (.int .i64 ((rd_T39 l0_0 x3_2).f2.f6)) ∧ w'.cell? ⟨gb155, 0, none⟩ = some (.slice (some ad156) l0_0.length c0_0) ∧ w'.cell? (ad156.add (((ji18)).toNat * 9)) = some (.string ((rd_T39 l0_0 (ji18)).f0)) ∧ w'.cell? ⟨(ad156.add (((ji18)).toNat * 9)).block, (ad156.add (((ji18)).toNat * 9)).off + 1, none⟩ = some (.int .i64 ((rd_T39 l0_0 (ji18)).f1)) ∧ w'.cell? ⟨(ad156.add (((ji18)).toNat * 9)).block, (ad156.add (((ji18)).toNat * 9)).off + 2, none⟩ = some (.bool ((rd_T39 l0_0 (ji18)).f2.f0)) ∧ w'.cell? ⟨(ad156.add (((ji18)).toNat * 9)).block, (ad156.add (((ji18)).toNat * 9)).off + 3, none⟩ = some (.bool ((rd_T39 l0_0 (ji18)).f2.f1)) ∧ w'.cell? ⟨(ad156.add (((ji18)).toNat * 9)).block, (ad156.add (((ji18)).toNat * 9)).off + 4, none⟩ = some (.bool ((rd_T39 l0_0 (ji18)).f2.f2)) ∧ w'.cell? ⟨(ad156.add (((ji18)).toNat * 9)).block, (ad156.add (((ji18)).toNat * 9)).off + 5, none⟩ = some (.slice A159_5 ((rd_T39 l0_0 (ji18)).f2.f3).length c159_5) ∧ w'.cell? ⟨(ad156.add (((ji18)).toNat * 9)).block, (ad156.add (((ji18)).toNat * 9)).off + 6, none⟩ = some (.slice A159_6 ((rd_T39 l0_0 (ji18)).f2.f4).length c159_6) ∧ w'.cell? ⟨(ad156.add (((ji18)).toNat * 9)).block, (ad156.add (((ji18)).toNat * 9)).off + 7, none⟩ = some (.int .i64 ((rd_T39 l0_0 (ji18)).f2.f5)) ∧ w'.cell? ⟨(ad156.add (((ji18)).toNat * 9)).block, (ad156.add (((ji18)).toNat * 9)).off + 8, none⟩ = some (.int .i64 ((rd_T39 l0_0 (ji18)).f2.f6))) (ds := []) (fl6_ 47 0) (by kernel_rfl) rfl rfl ⟨(blk_cell BK157.out 0).trans rfl, (blk_cell BK157.out 1).trans rfl, (blk_cell BK157.out 2).trans rfl, (blk_cell BK157.out 3).trans rfl, (blk_cell BK157.out 4).trans rfl, (blk_cell BK157.out 5).trans rfl, (blk_cell BK157.out 6).trans rfl, (blk_cell BK157.out 7).trans rfl, (blk_cell BK157.out 8).trans rfl, (blk_cell BK155.out 0).trans rfl, (zxx HB hw159_0), (zxx HB hw159_1), (zxx HB hw159_2), (zxx HB hw159_3), (zxx HB hw159_4), (zxx HB hw159_5), (zxx HB hw159_6), (zxx HB hw159_7), (zxx HB hw159_8)⟩ (fun hHeld => ?_); refine with_tabW spec_SchemaOK.tab7 spec_SchemaOK.bits7 (fun HT_ HW_ => ?_)
       generalize w23.drew = w24 at BK155 BK157 HB HR159_5 HR159_6 hx159_0 hx159_1 hx159_2 hx159_3 hx159_4 hx159_5 hx159_6 hx159_7 hx159_8 hHeld ⊢
       refine zpu HT_ 0 27 (fl6_ 47 1) ?_
       refine take_ (i := 1) (N := some 28) (v := ?_) (a' := ?_) (fl6_ 47 3) rfl rfl (take_ofW HT_.out HW_.out (by kernel_rfl)) (fun _ _ _ h => h) (Or.inl ⟨by rfl, ?_⟩) hHeld ?_ ?_
       rotate_left
       ·rintro w' ⟨s0, s1, s2, s3, s4, s5, s6, s7, s8, s9, s10, s11, s12, s13, s14, s15, s16, s17, s18⟩
        go_simp
        with_reducible rfl
       rotate_left
       ·simp only [Act.put, List.setIfInBounds_toArray, List.set_cons_zero, List.set_cons_succ, i64_w, i32_w]
        rfl
       refine one_ (i := 2) (N := some 29) (fl6_ 47 7) rfl rfl (one_of HT_.out (by kernel_rfl)) (by decide) (fun K hK => ?_)
       refine goes_ Tryd.func10 (by kernel_rfl) rfl #[.string ((rd_T39 l0_0 x3_2).f0)] (by rfl) rfl rfl zar ?_
       with_reducible refine (spec_l06Name.calls k2 ((rd_T39 l0_0 x3_2).f0) true _ A15.out).mono ?_
       rintro e w' ⟨rfl, ⟨nd, rfl⟩⟩
       refine ⟨_, rfl, ?_⟩
       refine hK.out _ _ ⟨(blk_cell BK157.out 0).trans rfl, (blk_cell BK157.out 1).trans rfl, (blk_cell BK157.out 2).trans rfl, (blk_cell BK157.out 3).trans rfl, (blk_cell BK157.out 4).trans rfl, (blk_cell BK157.out 5).trans rfl, (blk_cell BK157.out 6).trans rfl, (blk_cell BK157.out 7).trans rfl, (blk_cell BK157.out 8).trans rfl, (blk_cell BK155.out 0).trans rfl, (zxx HB hw159_0), (zxx HB hw159_1), (zxx HB hw159_2), (zxx HB hw159_3), (zxx HB hw159_4), (zxx HB hw159_5), (zxx HB hw159_6), (zxx HB hw159_7), (zxx HB hw159_8)⟩ (fun hHeld => ?_)
       clear hK K
       refine norm_ (a' := ?_) ?_ ?_
       rotate_left
       ·show Act.put _ (some 29) _ = _
        simp only [Act.put, List.setIfInBounds_toArray, List.set_cons_zero, List.set_cons_succ, i64_w, i32_w]
        rfl
       refine zpu HT_ 3 30 (fl6_ 47 15) ?_
       refine zpu HT_ 4 31 (fl6_ 47 31) ?_
       refine zpu HT_ 5 32 (fl6_ 47 63) ?_
       refine zpu HT_ 6 33 (fl6_ 47 127) ?_
       refine zpu HT_ 7 34 (fl6_ 47 255) ?_
       refine zpu HT_ 8 35 (fl6_ 47 511) ?_
       refine zpu HT_ 10 37 (fl6_ 47 1535) ?_
       refine zpu HT_ 12 39 (fl6_ 47 5631) ?_
       refine zpu HT_ 13 40 (fl6_ 47 13823) ?_
       refine take_ (i := 9) (N := some 36) (v := ?_) (a' := ?_) (fl6_ 47 14335) rfl rfl (take_ofW HT_.out HW_.out (by kernel_rfl)) (fun _ _ _ h => h) (Or.inl ⟨by rfl, ?_⟩) hHeld ?_ ?_
       rotate_left
       ·rintro w' ⟨s0, s1, s2, s3, s4, s5, s6, s7, s8, s9, s10, s11, s12, s13, s14, s15, s16, s17, s18⟩
        go_simp
        with_reducible rfl
       rotate_left
       ·simp only [Act.put, List.setIfInBounds_toArray, List.set_cons_zero, List.set_cons_succ, i64_w, i32_w]
        rfl
       refine take_ (i := 11) (N := some 38) (v := ?_) (a' := ?_) (fl6_ 47 16383) rfl rfl (take_ofW HT_.out HW_.out (by kernel_rfl)) (fun _ _ _ h => h) (Or.inl ⟨by rfl, ?_⟩) hHeld ?_ ?_
       rotate_left
       ·rintro w' ⟨s0, s1, s2, s3, s4, s5, s6, s7, s8, s9, s10, s11, s12, s13, s14, s15, s16, s17, s18⟩
        go_simp
        with_reducible rfl
       rotate_left
       ·simp only [Act.put, List.setIfInBounds_toArray, List.set_cons_zero, List.set_cons_succ, i64_w, i32_w]
        rfl
       refine zpu HT_ 14 41 (fl6_ 47 32767) ?_
       refine zpu HT_ 15 42 (fl6_ 47 65535) ?_
       refine take_ (i := 16) (N := some 43) (v := ?_) (a' := ?_) (fl6_ 47 131071) rfl rfl (take_ofW HT_.out HW_.out (by kernel_rfl)) (fun _ _ _ h => h) (Or.inl ⟨by rfl, ?_⟩) hHeld ?_ ?_
       rotate_left
       ·rintro w' ⟨s0, s1, s2, s3, s4, s5, s6, s7, s8, s9, s10, s11, s12, s13, s14, s15, s16, s17, s18⟩
        go_simp
        with_reducible rfl
       rotate_left
       ·simp only [Act.put, List.setIfInBounds_toArray, List.set_cons_zero, List.set_cons_succ, i64_w, i32_w]
        rfl
       refine zpu HT_ 17 44 (fl6_ 47 262143) ?_
       refine zpu HT_ 18 45 (fl6_ 47 524287) ?_
       refine zpu HT_ 19 46 (fl6_ 47 1048575) ?_
       refine zpu HT_ 20 47 (fl6_ 47 2097151) ?_
       refine zpu HT_ 21 48 (fl6_ 47 4194303) ?_
       refine take_ (i := 22) (N := some 49) (v := ?_) (a' := ?_) (fl6_ 47 8388607) rfl rfl (take_ofW HT_.out HW_.out (by kernel_rfl)) (fun _ _ _ h => h) (Or.inl ⟨by rfl, ?_⟩) hHeld ?_ ?_
       rotate_left
       ·rintro w' ⟨s0, s1, s2, s3, s4, s5, s6, s7, s8, s9, s10, s11, s12, s13, s14, s15, s16, s17, s18⟩
        go_simp
        with_reducible rfl
       rotate_left
       ·simp only [Act.put, List.setIfInBounds_toArray, List.set_cons_zero, List.set_cons_succ, i64_w, i32_w]
        rfl
       refine zpu HT_ 23 50 (fl6_ 47 16777215) ?_
       refine zpu HT_ 24 51 (fl6_ 47 33554431) ?_
       refine zpu HT_ 25 52 (fl6_ 47 67108863) ?_
       refine pure_ (i := 26) (N := some 53) (v := undef) (a' := ?_) (fl6_ 47 134217727) rfl rfl (any_of HT_.out (by kernel_rfl)) (fun _ _ _ h => h) (Or.inr ⟨by rfl, rfl⟩) ?_ ?_
       rotate_left
       ·simp only [Act.put, List.setIfInBounds_toArray, List.set_cons_zero, List.set_cons_succ, i64_w, i32_w]
        rfl
       refine pure_ (i := 27) (N := some 54) (v := undef) (a' := ?_) (fl6_ 47 268435455) rfl rfl (any_of HT_.out (by kernel_rfl)) (fun _ _ _ h => h) (Or.inr ⟨by rfl, rfl⟩) ?_ ?_
       rotate_left
       ·simp only [Act.put, List.setIfInBounds_toArray, List.set_cons_zero, List.set_cons_succ, i64_w, i32_w]
        rfl
       refine pure_ (i := 28) (N := some 55) (v := undef) (a' := ?_) (fl6_ 47 536870911) rfl rfl (any_of HT_.out (by kernel_rfl)) (fun _ _ _ h => h) (Or.inr ⟨by rfl, rfl⟩) ?_ ?_
       rotate_left
       ·simp only [Act.put, List.setIfInBounds_toArray, List.set_cons_zero, List.set_cons_succ, i64_w, i32_w]
        rfl
       refine zpu HT_ 29 56 (fl6_ 47 1073741823) ?_
       refine zpu HT_ 30 57 (fl6_ 47 2147483647) ?_
       refine pure_ (i := 31) (N := some 58) (v := undef) (a' := ?_) (fl6_ 47 4294967295) rfl rfl (any_of HT_.out (by kernel_rfl)) (fun _ _ _ h => h) (Or.inr ⟨by rfl, rfl⟩) ?_ ?_
       rotate_left
       ·simp only [Act.put, List.setIfInBounds_toArray, List.set_cons_zero, List.set_cons_succ, i64_w, i32_w]
        rfl
       refine pure_ (i := 32) (N := some 59) (v := undef) (a' := ?_) (fl6_ 47 8589934591) rfl rfl (any_of HT_.out (by kernel_rfl)) (fun _ _ _ h => h) (Or.inr ⟨by rfl, rfl⟩) ?_ ?_
       rotate_left
       ·simp only [Act.put, List.setIfInBounds_toArray, List.set_cons_zero, List.set_cons_succ, i64_w, i32_w]
        rfl
       refine pure_ (i := 33) (N := some 60) (v := undef) (a' := ?_) (fl6_ 47 17179869183) rfl rfl (any_of HT_.out (by kernel_rfl)) (fun _ _ _ h => h) (Or.inr ⟨by rfl, rfl⟩) ?_ ?_
       rotate_left
       ·simp only [Act.put, List.setIfInBounds_toArray, List.set_cons_zero, List.set_cons_succ, i64_w, i32_w]
        rfl
       refine pure_ (i := 34) (N := some 61) (v := undef) (a' := ?_) (fl6_ 47 34359738367) rfl rfl (any_of HT_.out (by kernel_rfl)) (fun _ _ _ h => h) (Or.inr ⟨by rfl, rfl⟩) ?_ ?_
       rotate_left
       ·simp only [Act.put, List.setIfInBounds_toArray, List.set_cons_zero, List.set_cons_succ, i64_w, i32_w]
        rfl
       refine zpu HT_ 35 62 (fl6_ 47 68719476735) ?_
       refine zpu HT_ 36 63 (fl6_ 47 137438953471) ?_
       refine pure_ (i := 37) (N := some 64) (v := undef) (a' := ?_) (fl6_ 47 274877906943) rfl rfl (any_of HT_.out (by kernel_rfl)) (fun _ _ _ h => h) (Or.inr ⟨by rfl, rfl⟩) ?_ ?_
       rotate_left
       ·simp only [Act.put, List.setIfInBounds_toArray, List.set_cons_zero, List.set_cons_succ, i64_w, i32_w]
        rfl
       refine pure_ (i := 38) (N := some 65) (v := undef) (a' := ?_) (fl6_ 47 549755813887) rfl rfl (any_of HT_.out (by kernel_rfl)) (fun _ _ _ h => h) (Or.inr ⟨by rfl, rfl⟩) ?_ ?_
       rotate_left
       ·simp only [Act.put, List.setIfInBounds_toArray, List.set_cons_zero, List.set_cons_succ, i64_w, i32_w]
        rfl
       refine pure_ (i := 39) (N := some 66) (v := undef) (a' := ?_) (fl6_ 47 1099511627775) rfl rfl (any_of HT_.out (by kernel_rfl)) (fun _ _ _ h => h) (Or.inr ⟨by rfl, rfl⟩) ?_ ?_
       rotate_left
       ·simp only [Act.put, List.setIfInBounds_toArray, List.set_cons_zero, List.set_cons_succ, i64_w, i32_w]
        rfl
       refine pure_ (i := 40) (N := some 67) (v := undef) (a' := ?_) (fl6_ 47 2199023255551) rfl rfl (any_of HT_.out (by kernel_rfl)) (fun _ _ _ h => h) (Or.inr ⟨by rfl, rfl⟩) ?_ ?_
       rotate_left
       ·simp only [Act.put, List.setIfInBounds_toArray, List.set_cons_zero, List.set_cons_succ, i64_w, i32_w]
        rfl
       refine pure_ (i := 41) (N := some 68) (v := undef) (a' := ?_) (fl6_ 47 4398046511103) rfl rfl (any_of HT_.out (by kernel_rfl)) (fun _ _ _ h => h) (Or.inr ⟨by rfl, rfl⟩) ?_ ?_
       rotate_left
       ·simp only [Act.put, List.setIfInBounds_toArray, List.set_cons_zero, List.set_cons_succ, i64_w, i32_w]
        rfl
       refine pure_ (i := 42) (N := some 69) (v := undef) (a' := ?_) (fl6_ 47 8796093022207) rfl rfl (any_of HT_.out (by kernel_rfl)) (fun _ _ _ h => h) (Or.inr ⟨by rfl, rfl⟩) ?_ ?_
       rotate_left
       ·simp only [Act.put, List.setIfInBounds_toArray, List.set_cons_zero, List.set_cons_succ, i64_w, i32_w]
        rfl
       refine pure_ (i := 43) (N := some 70) (v := undef) (a' := ?_) (fl6_ 47 17592186044415) rfl rfl (any_of HT_.out (by kernel_rfl)) (fun _ _ _ h => h) (Or.inr ⟨by rfl, rfl⟩) ?_ ?_
       rotate_left
       ·simp only [Act.put, List.setIfInBounds_toArray, List.set_cons_zero, List.set_cons_succ, i64_w, i32_w]
        rfl
       refine pure_ (i := 44) (N := some 71) (v := undef) (a' := ?_) (fl6_ 47 35184372088831) rfl rfl (any_of HT_.out (by kernel_rfl)) (fun _ _ _ h => h) (Or.inr ⟨by rfl, rfl⟩) ?_ ?_
       rotate_left
       ·simp only [Act.put, List.setIfInBounds_toArray, List.set_cons_zero, List.set_cons_succ, i64_w, i32_w]
        rfl
       refine pure_ (i := 45) (N := some 72) (v := undef) (a' := ?_) (fl6_ 47 70368744177663) rfl rfl (any_of HT_.out (by kernel_rfl)) (fun _ _ _ h => h) (Or.inr ⟨by rfl, rfl⟩) ?_ ?_
       rotate_left
       ·simp only [Act.put, List.setIfInBounds_toArray, List.set_cons_zero, List.set_cons_succ, i64_w, i32_w]
        rfl
       refine zpu HT_ 46 73 (fl6_ 47 140737488355327) ?_
       refine done_ (done_of HT_.out (by kernel_rfl)) ?_
       try go_wp2
       go_meet
       case rel => exact ⟨_, (true), zrs, H', ⟨by have := HJ1.out; have := HK2.out; first | omega | exact Nat.le_refl _⟩, ⟨zb BK155⟩, ⟨zb BK157⟩, ⟨zg HB⟩⟩
      rw [if_neg c22] at H
      have c22b0 : decide (((rd_T39 l0_0 x3_2).f1) < 1) = false := decide_eq_false c22
      clear c22
      by_cases c25 : ((rd_T39 l0_0 x3_2).f1) > 3
      ·rw [if_pos c25] at H
       have c25b0 : decide (3 < ((rd_T39 l0_0 x3_2).f1)) = true := decide_eq_true c25
       clear c25
       have H' := Aside0.mk H
       clear H
       try go_wp2
       have n0_ : Aside0 ((((((((((w12.setCell ⟨gb157, 0, none⟩ (.string ((rd_T39 l0_0 x3_2).f0))).setCell ⟨gb157, 1, none⟩ (.int .i64 ((rd_T39 l0_0 x3_2).f1))).setCell ⟨gb157, 2, none⟩ (.bool ((rd_T39 l0_0 x3_2).f2.f0))).setCell ⟨gb157, 3, none⟩ (.bool ((rd_T39 l0_0 x3_2).f2.f1))).setCell ⟨gb157, 4, none⟩ (.bool ((rd_T39 l0_0 x3_2).f2.f2))).setCell ⟨gb157, 5, none⟩ (.slice A156_5 ((rd_T39 l0_0 x3_2).f2.f3).length c156_5)).setCell ⟨gb157, 6, none⟩ (.slice A156_6 ((rd_T39 l0_0 x3_2).f2.f4).length c156_6)).setCell ⟨gb157, 7, none⟩ (.int .i64 ((rd_T39 l0_0 x3_2).f2.f5))).setCell ⟨gb157, 8, none⟩ (.int .i64 ((rd_T39 l0_0 x3_2).f2.f6))).heap[gb155]? = some (.cells #[.slice (some ad156) l0_0.length c0_0] 29 (0, 0))) := ⟨zp BK155⟩
       have n1_ : Aside0 ((((((((((w12.setCell ⟨gb157, 0, none⟩ (.string ((rd_T39 l0_0 x3_2).f0))).setCell ⟨gb157, 1, none⟩ (.int .i64 ((rd_T39 l0_0 x3_2).f1))).setCell ⟨gb157, 2, none⟩ (.bool ((rd_T39 l0_0 x3_2).f2.f0))).setCell ⟨gb157, 3, none⟩ (.bool ((rd_T39 l0_0 x3_2).f2.f1))).setCell ⟨gb157, 4, none⟩ (.bool ((rd_T39 l0_0 x3_2).f2.f2))).setCell ⟨gb157, 5, none⟩ (.slice A156_5 ((rd_T39 l0_0 x3_2).f2.f3).length c156_5)).setCell ⟨gb157, 6, none⟩ (.slice A156_6 ((rd_T39 l0_0 x3_2).f2.f4).length c156_6)).setCell ⟨gb157, 7, none⟩ (.int .i64 ((rd_T39 l0_0 x3_2).f2.f5))).setCell ⟨gb157, 8, none⟩ (.int .i64 ((rd_T39 l0_0 x3_2).f2.f6))).heap[gb157]? = some (.cells #[.string ((rd_T39 l0_0 x3_2).f0), .int .i64 ((rd_T39 l0_0 x3_2).f1), .bool ((rd_T39 l0_0 x3_2).f2.f0), .bool ((rd_T39 l0_0 x3_2).f2.f1), .bool ((rd_T39 l0_0 x3_2).f2.f2), .slice A156_5 ((rd_T39 l0_0 x3_2).f2.f3).length c156_5, .slice A156_6 ((rd_T39 l0_0 x3_2).f2.f4).length c156_6, .int .i64 ((rd_T39 l0_0 x3_2).f2.f5), .int .i64 ((rd_T39 l0_0 x3_2).f2.f6)] 39 (0, 0))) := ⟨zp BK157⟩
       have n2_ : Aside0 (Below w.heap.size w (((((((((w12.setCell ⟨gb157, 0, none⟩ (.string ((rd_T39 l0_0 x3_2).f0))).setCell ⟨gb157, 1, none⟩ (.int .i64 ((rd_T39 l0_0 x3_2).f1))).setCell ⟨gb157, 2, none⟩ (.bool ((rd_T39 l0_0 x3_2).f2.f0))).setCell ⟨gb157, 3, none⟩ (.bool ((rd_T39 l0_0 x3_2).f2.f1))).setCell ⟨gb157, 4, none⟩ (.bool ((rd_T39 l0_0 x3_2).f2.f2))).setCell ⟨gb157, 5, none⟩ (.slice A156_5 ((rd_T39 l0_0 x3_2).f2.f3).length c156_5)).setCell ⟨gb157, 6, none⟩ (.slice A156_6 ((rd_T39 l0_0 x3_2).f2.f4).length c156_6)).setCell ⟨gb157, 7, none⟩ (.int .i64 ((rd_T39 l0_0 x3_2).f2.f5))).setCell ⟨gb157, 8, none⟩ (.int .i64 ((rd_T39 l0_0 x3_2).f2.f6)))) := ⟨zg HB⟩
       (try clear BK155)
       (try clear BK157)
       (try clear HB)
       generalize (((((((((w12.setCell ⟨gb157, 0, none⟩ (.string ((rd_T39 l0_0 x3_2).f0))).setCell ⟨gb157, 1, none⟩ (.int .i64 ((rd_T39 l0_0 x3_2).f1))).setCell ⟨gb157, 2, none⟩ (.bool ((rd_T39 l0_0 x3_2).f2.f0))).setCell ⟨gb157, 3, none⟩ (.bool ((rd_T39 l0_0 x3_2).f2.f1))).setCell ⟨gb157, 4, none⟩ (.bool ((rd_T39 l0_0 x3_2).f2.f2))).setCell ⟨gb157, 5, none⟩ (.slice A156_5 ((rd_T39 l0_0 x3_2).f2.f3).length c156_5)).setCell ⟨gb157, 6, none⟩ (.slice A156_6 ((rd_T39 l0_0 x3_2).f2.f4).length c156_6)).setCell ⟨gb157, 7, none⟩ (.int .i64 ((rd_T39 l0_0 x3_2).f2.f5))).setCell ⟨gb157, 8, none⟩ (.int .i64 ((rd_T39 l0_0 x3_2).f2.f6))) = w26 at n0_ n1_ n2_ ⊢
       have BK155 := n0_
       have BK157 := n1_
       have HB := n2_
       clear n0_ n1_ n2_
       replace BK155 := Aside0.mk (blk_drew BK155.out)
       replace BK157 := Aside0.mk (blk_drew BK157.out)
       replace HB := Aside0.mk (below_drew1 HB.out)
       have p159 : 0 ≤ ((ji18) : Int) := of_decide_eq_true zas
       have q159 : (ji18) < (l0_0.length : Int) := of_decide_eq_true zas
       obtain ⟨ad159, A159_5, c159_5, A159_6, c159_6, e159, hx159_0, hx159_1, hx159_2, hx159_3, hx159_4, hx159_5, hx159_6, hx159_7, hx159_8, hl159_5, hi159_5, hl159_6, hi159_6⟩ := at_T39 HR0_0.out (ji18) p159 q159
       have hw159_8 := hx159_8
       have hw159_7 := hx159_7
       have hw159_6 := hx159_6
       have hw159_5 := hx159_5
       have hw159_4 := hx159_4
       have hw159_3 := hx159_3
       have hw159_2 := hx159_2
       have hw159_1 := hx159_1
       have hw159_0 := hx159_0
       obtain rfl : ad156 = ad159 := (by injection e159)
       replace hx159_0 := zx HB hx159_0
       replace hx159_1 := zx HB hx159_1
       replace hx159_2 := zx HB hx159_2
       replace hx159_3 := zx HB hx159_3
       replace hx159_4 := zx HB hx159_4
       replace hx159_5 := zx HB hx159_5
       replace hx159_6 := zx HB hx159_6
       replace hx159_7 := zx HB hx159_7
       replace hx159_8 := zx HB hx159_8
       have HR159_5 := Aside0.mk hi159_5
       have HC159_5 := Aside0.mk hl159_5
       clear hi159_5 hl159_5
       have HR159_6 := Aside0.mk hi159_6
       have HC159_6 := Aside0.mk hl159_6
       clear hi159_6 hl159_6
       replace p159 := eq_true p159
       replace q159 := eq_true q159
       refine start_ (n := 47) (S := fun w' => w'.cell? ⟨gb157, 0, none⟩ = some (.string ((rd_T39 l0_0 x3_2).f0)) ∧ w'.cell? ⟨gb157, 1, none⟩ = some (.int .i64 ((rd_T39 l0_0 x3_2).f1)) ∧ w'.cell? ⟨gb157, 2, none⟩ = some (.bool ((rd_T39 l0_0 x3_2).f2.f0)) ∧ w'.cell? ⟨gb157, 3, none⟩ = some (.bool ((rd_T39 l0_0 x3_2).f2.f1)) ∧ w'.cell? ⟨gb157, 4, none⟩ = some (.bool ((rd_T39 l0_0 x3_2).f2.f2)) ∧ w'.cell? ⟨gb157, 5, none⟩ = some (.slice A156_5 ((rd_T39 l0_0 x3_2).f2.f3).length c156_5) ∧ w'.cell? ⟨gb157, 6, none⟩ = some (.slice A156_6 ((rd_T39 l0_0 x3_2).f2.f4).length c156_6) ∧ w'.cell? ⟨gb157, 7, none⟩ = some (.int .i64 ((rd_T39 l0_0 x3_2).f2.f5)) ∧ w'.cell? ⟨gb157, 8, none⟩ = some (.int .i64 ((rd_T39 l0_0 x3_2).f2.f6)) ∧ w'.cell? ⟨gb155, 0, none⟩ = some (.slice (some ad156) l0_0.length c0_0) ∧ w'.cell? (ad156.add (((ji18)).toNat * 9)) = some (.string ((rd_T39 l0_0 (ji18)).f0)) ∧ w'.cell? ⟨(ad156.add (((ji18)).toNat * 9)).block, (ad156.add (((ji18)).toNat * 9)).off + 1, none⟩ = some (.int .i64 ((rd_T39 l0_0 (ji18)).f1)) ∧ w'.cell? ⟨(ad156.add (((ji18)).toNat * 9)).block, (ad156.add (((ji18)).toNat * 9)).off + 2, none⟩ = some (.bool ((rd_T39 l0_0 (ji18)).f2.f0)) ∧ w'.cell? ⟨(ad156.add (((ji18)).toNat * 9)).block, (ad156.add (((ji18)).toNat * 9)).off + 3, none⟩ = some (.bool ((rd_T39 l0_0 (ji18)).f2.f1)) ∧ w'.cell? ⟨(ad156.add (((ji18)).toNat * 9)).block, (ad156.add (((ji18)).toNat * 9)).off + 4, none⟩ = some (.bool ((rd_T39 l0_0 (ji18)).f2.f2)) ∧ w'.cell? ⟨(ad156.add (((ji18)).toNat * 9)).block, (ad156.add (((ji18)).toNat * 9)).off + 5, none⟩ = some (.slice A159_5 ((rd_T39 l0_0 (ji18)).f2.f3).length c159_5) ∧ w'.cell? ⟨(ad156.add (((ji18)).toNat * 9)).block, (ad156.add (((ji18)).toNat * 9)).off + 6, none⟩ = some (.slice A159_6 ((rd_T39 l0_0 (ji18)).f2.f4).length c159_6) ∧ w'.cell? ⟨(ad156.add (((ji18)).toNat * 9)).block, (ad156.add (((ji18)).toNat * 9)).off + 7, none⟩ = some (.int .i64 ((rd_T39 l0_0 (ji18)).f2.f5)) ∧ w'.cell? ⟨(ad156.add (((ji18)).toNat * 9)).block, (ad156.add (((ji18)).toNat * 9)).off + 8, none⟩ = some (.int .i64 ((rd_T39 l0_0 (ji18)).f2.f6))) (ds := []) (fl6_ 47 0) (by kernel_rfl) rfl rfl ⟨(blk_cell BK157.out 0).trans rfl, (blk_cell BK157.out 1).trans rfl, (blk_cell BK157.out 2).trans rfl, (blk_cell BK157.out 3).trans rfl, (blk_cell BK157.out 4).trans rfl, (blk_cell BK157.out 5).trans rfl, (blk_cell BK157.out 6).trans rfl, (blk_cell BK157.out 7).trans rfl, (blk_cell BK157.out 8).trans rfl, (blk_cell BK155.out 0).trans rfl, (zxx HB hw159_0), (zxx HB hw159_1), (zxx HB hw159_2), (zxx HB hw159_3), (zxx HB hw159_4), (zxx HB hw159_5), (zxx HB hw159_6), (zxx HB hw159_7), (zxx HB hw159_8)⟩ (fun hHeld => ?_); refine with_tabW spec_SchemaOK.tab7 spec_SchemaOK.bits7 (fun HT_ HW_ => ?_)
       generalize w26.drew = w27 at BK155 BK157 HB HR159_5 HR159_6 hx159_0 hx159_1 hx159_2 hx159_3 hx159_4 hx159_5 hx159_6 hx159_7 hx159_8 hHeld ⊢
       refine zpu HT_ 0 27 (fl6_ 47 1) ?_
       refine take_ (i := 1) (N := some 28) (v := ?_) (a' := ?_) (fl6_ 47 3) rfl rfl (take_ofW HT_.out HW_.out (by kernel_rfl)) (fun _ _ _ h => h) (Or.inl ⟨by rfl, ?_⟩) hHeld ?_ ?_
       rotate_left
       ·rintro w' ⟨s0, s1, s2, s3, s4, s5, s6, s7, s8, s9, s10, s11, s12, s13, s14, s15, s16, s17, s18⟩
        go_simp
        with_reducible rfl
       rotate_left
       ·simp only [Act.put, List.setIfInBounds_toArray, List.set_cons_zero, List.set_cons_succ, i64_w, i32_w]
        rfl
       refine one_ (i := 2) (N := some 29) (fl6_ 47 7) rfl rfl (one_of HT_.out (by kernel_rfl)) (by decide) (fun K hK => ?_)
       refine goes_ Tryd.func10 (by kernel_rfl) rfl #[.string ((rd_T39 l0_0 x3_2).f0)] (by rfl) rfl rfl zar ?_
       with_reducible refine (spec_l06Name.calls k2 ((rd_T39 l0_0 x3_2).f0) true _ A15.out).mono ?_
       rintro e w' ⟨rfl, ⟨nd, rfl⟩⟩
       refine ⟨_, rfl, ?_⟩
       refine hK.out _ _ ⟨(blk_cell BK157.out 0).trans rfl, (blk_cell BK157.out 1).trans rfl, (blk_cell BK157.out 2).trans rfl, (blk_cell BK157.out 3).trans rfl, (blk_cell BK157.out 4).trans rfl, (blk_cell BK157.out 5).trans rfl, (blk_cell BK157.out 6).trans rfl, (blk_cell BK157.out 7).trans rfl, (blk_cell BK157.out 8).trans rfl, (blk_cell BK155.out 0).trans rfl, (zxx HB hw159_0), (zxx HB hw159_1), (zxx HB hw159_2), (zxx HB hw159_3), (zxx HB hw159_4), (zxx HB hw159_5), (zxx HB hw159_6), (zxx HB hw159_7), (zxx HB hw159_8)⟩ (fun hHeld => ?_)
       clear hK K
       refine norm_ (a' := ?_) ?_ ?_
       rotate_left
       ·show Act.put _ (some 29) _ = _
        simp only [Act.put, List.setIfInBounds_toArray, List.set_cons_zero, List.set_cons_succ, i64_w, i32_w]
        rfl
       refine zpu HT_ 3 30 (fl6_ 47 15) ?_
       refine zpu HT_ 4 31 (fl6_ 47 31) ?_
       refine zpu HT_ 5 32 (fl6_ 47 63) ?_
       refine zpu HT_ 6 33 (fl6_ 47 127) ?_
       refine zpu HT_ 7 34 (fl6_ 47 255) ?_
       refine zpu HT_ 8 35 (fl6_ 47 511) ?_
       refine zpu HT_ 10 37 (fl6_ 47 1535) ?_
       refine zpu HT_ 12 39 (fl6_ 47 5631) ?_
       refine zpu HT_ 13 40 (fl6_ 47 13823) ?_
       refine take_ (i := 9) (N := some 36) (v := ?_) (a' := ?_) (fl6_ 47 14335) rfl rfl (take_ofW HT_.out HW_.out (by kernel_rfl)) (fun _ _ _ h => h) (Or.inl ⟨by rfl, ?_⟩) hHeld ?_ ?_
       rotate_left
       ·rintro w' ⟨s0, s1, s2, s3, s4, s5, s6, s7, s8, s9, s10, s11, s12, s13, s14, s15, s16, s17, s18⟩
        go_simp
        with_reducible rfl
       rotate_left
       ·simp only [Act.put, List.setIfInBounds_toArray, List.set_cons_zero, List.set_cons_succ, i64_w, i32_w]
        rfl
       refine take_ (i := 11) (N := some 38) (v := ?_) (a' := ?_) (fl6_ 47 16383) rfl rfl (take_ofW HT_.out HW_.out (by kernel_rfl)) (fun _ _ _ h => h) (Or.inl ⟨by rfl, ?_⟩) hHeld ?_ ?_
       rotate_left
       ·rintro w' ⟨s0, s1, s2, s3, s4, s5, s6, s7, s8, s9, s10, s11, s12, s13, s14, s15, s16, s17, s18⟩
        go_simp
        with_reducible rfl
       rotate_left
       ·simp only [Act.put, List.setIfInBounds_toArray, List.set_cons_zero, List.set_cons_succ, i64_w, i32_w]
        rfl
       refine zpu HT_ 14 41 (fl6_ 47 32767) ?_
       refine zpu HT_ 15 42 (fl6_ 47 65535) ?_
       refine take_ (i := 16) (N := some 43) (v := ?_) (a' := ?_) (fl6_ 47 131071) rfl rfl (take_ofW HT_.out HW_.out (by kernel_rfl)) (fun _ _ _ h => h) (Or.inl ⟨by rfl, ?_⟩) hHeld ?_ ?_
       rotate_left
       ·rintro w' ⟨s0, s1, s2, s3, s4, s5, s6, s7, s8, s9, s10, s11, s12, s13, s14, s15, s16, s17, s18⟩
        go_simp
        with_reducible rfl
       rotate_left
       ·simp only [Act.put, List.setIfInBounds_toArray, List.set_cons_zero, List.set_cons_succ, i64_w, i32_w]
        rfl
       refine zpu HT_ 17 44 (fl6_ 47 262143) ?_
       refine zpu HT_ 18 45 (fl6_ 47 524287) ?_
       refine zpu HT_ 19 46 (fl6_ 47 1048575) ?_
       refine zpu HT_ 20 47 (fl6_ 47 2097151) ?_
       refine zpu HT_ 21 48 (fl6_ 47 4194303) ?_
       refine take_ (i := 22) (N := some 49) (v := ?_) (a' := ?_) (fl6_ 47 8388607) rfl rfl (take_ofW HT_.out HW_.out (by kernel_rfl)) (fun _ _ _ h => h) (Or.inl ⟨by rfl, ?_⟩) hHeld ?_ ?_
       rotate_left
       ·rintro w' ⟨s0, s1, s2, s3, s4, s5, s6, s7, s8, s9, s10, s11, s12, s13, s14, s15, s16, s17, s18⟩
        go_simp
        with_reducible rfl
       rotate_left
       ·simp only [Act.put, List.setIfInBounds_toArray, List.set_cons_zero, List.set_cons_succ, i64_w, i32_w]
        rfl
       refine zpu HT_ 23 50 (fl6_ 47 16777215) ?_
       refine zpu HT_ 24 51 (fl6_ 47 33554431) ?_
       refine zpu HT_ 25 52 (fl6_ 47 67108863) ?_
       refine zpu HT_ 26 53 (fl6_ 47 134217727) ?_
       refine take_ (i := 27) (N := some 54) (v := ?_) (a' := ?_) (fl6_ 47 268435455) rfl rfl (take_ofW HT_.out HW_.out (by kernel_rfl)) (fun _ _ _ h => h) (Or.inl ⟨by rfl, ?_⟩) hHeld ?_ ?_
       rotate_left
       ·rintro w' ⟨s0, s1, s2, s3, s4, s5, s6, s7, s8, s9, s10, s11, s12, s13, s14, s15, s16, s17, s18⟩
        go_simp
        with_reducible rfl
       rotate_left
       ·simp only [Act.put, List.setIfInBounds_toArray, List.set_cons_zero, List.set_cons_succ, i64_w, i32_w]
        rfl
       refine zpu HT_ 28 55 (fl6_ 47 536870911) ?_
       refine zpu HT_ 29 56 (fl6_ 47 1073741823) ?_
       refine zpu HT_ 30 57 (fl6_ 47 2147483647) ?_
       refine pure_ (i := 31) (N := some 58) (v := undef) (a' := ?_) (fl6_ 47 4294967295) rfl rfl (any_of HT_.out (by kernel_rfl)) (fun _ _ _ h => h) (Or.inr ⟨by rfl, rfl⟩) ?_ ?_
       rotate_left
       ·simp only [Act.put, List.setIfInBounds_toArray, List.set_cons_zero, List.set_cons_succ, i64_w, i32_w]
        rfl
       refine pure_ (i := 32) (N := some 59) (v := undef) (a' := ?_) (fl6_ 47 8589934591) rfl rfl (any_of HT_.out (by kernel_rfl)) (fun _ _ _ h => h) (Or.inr ⟨by rfl, rfl⟩) ?_ ?_
       rotate_left
       ·simp only [Act.put, List.setIfInBounds_toArray, List.set_cons_zero, List.set_cons_succ, i64_w, i32_w]
        rfl
       refine pure_ (i := 33) (N := some 60) (v := undef) (a' := ?_) (fl6_ 47 17179869183) rfl rfl (any_of HT_.out (by kernel_rfl)) (fun _ _ _ h => h) (Or.inr ⟨by rfl, rfl⟩) ?_ ?_
       rotate_left
       ·simp only [Act.put, List.setIfInBounds_toArray, List.set_cons_zero, List.set_cons_succ, i64_w, i32_w]
        rfl
       refine pure_ (i := 34) (N := some 61) (v := undef) (a' := ?_) (fl6_ 47 34359738367) rfl rfl (any_of HT_.out (by kernel_rfl)) (fun _ _ _ h => h) (Or.inr ⟨by rfl, rfl⟩) ?_ ?_
       rotate_left
       ·simp only [Act.put, List.setIfInBounds_toArray, List.set_cons_zero, List.set_cons_succ, i64_w, i32_w]
        rfl
       refine zpu HT_ 35 62 (fl6_ 47 68719476735) ?_
       refine zpu HT_ 36 63 (fl6_ 47 137438953471) ?_
       refine pure_ (i := 37) (N := some 64) (v := undef) (a' := ?_) (fl6_ 47 274877906943) rfl rfl (any_of HT_.out (by kernel_rfl)) (fun _ _ _ h => h) (Or.inr ⟨by rfl, rfl⟩) ?_ ?_
       rotate_left
       ·simp only [Act.put, List.setIfInBounds_toArray, List.set_cons_zero, List.set_cons_succ, i64_w, i32_w]
        rfl
       refine pure_ (i := 38) (N := some 65) (v := undef) (a' := ?_) (fl6_ 47 549755813887) rfl rfl (any_of HT_.out (by kernel_rfl)) (fun _ _ _ h => h) (Or.inr ⟨by rfl, rfl⟩) ?_ ?_
       rotate_left
       ·simp only [Act.put, List.setIfInBounds_toArray, List.set_cons_zero, List.set_cons_succ, i64_w, i32_w]
        rfl
       refine pure_ (i := 39) (N := some 66) (v := undef) (a' := ?_) (fl6_ 47 1099511627775) rfl rfl (any_of HT_.out (by kernel_rfl)) (fun _ _ _ h => h) (Or.inr ⟨by rfl, rfl⟩) ?_ ?_
       rotate_left
       ·simp only [Act.put, List.setIfInBounds_toArray, List.set_cons_zero, List.set_cons_succ, i64_w, i32_w]
        rfl
       refine pure_ (i := 40) (N := some 67) (v := undef) (a' := ?_) (fl6_ 47 2199023255551) rfl rfl (any_of HT_.out (by kernel_rfl)) (fun _ _ _ h => h) (Or.inr ⟨by rfl, rfl⟩) ?_ ?_
       rotate_left
       ·simp only [Act.put, List.setIfInBounds_toArray, List.set_cons_zero, List.set_cons_succ, i64_w, i32_w]
        rfl
       refine pure_ (i := 41) (N := some 68) (v := undef) (a' := ?_) (fl6_ 47 4398046511103) rfl rfl (any_of HT_.out (by kernel_rfl)) (fun _ _ _ h => h) (Or.inr ⟨by rfl, rfl⟩) ?_ ?_
       rotate_left
       ·simp only [Act.put, List.setIfInBounds_toArray, List.set_cons_zero, List.set_cons_succ, i64_w, i32_w]
        rfl
       refine pure_ (i := 42) (N := some 69) (v := undef) (a' := ?_) (fl6_ 47 8796093022207) rfl rfl (any_of HT_.out (by kernel_rfl)) (fun _ _ _ h => h) (Or.inr ⟨by rfl, rfl⟩) ?_ ?_
       rotate_left
       ·simp only [Act.put, List.setIfInBounds_toArray, List.set_cons_zero, List.set_cons_succ, i64_w, i32_w]
        rfl
       refine pure_ (i := 43) (N := some 70) (v := undef) (a' := ?_) (fl6_ 47 17592186044415) rfl rfl (any_of HT_.out (by kernel_rfl)) (fun _ _ _ h => h) (Or.inr ⟨by rfl, rfl⟩) ?_ ?_
       rotate_left
       ·simp only [Act.put, List.setIfInBounds_toArray, List.set_cons_zero, List.set_cons_succ, i64_w, i32_w]
        rfl
       refine pure_ (i := 44) (N := some 71) (v := undef) (a' := ?_) (fl6_ 47 35184372088831) rfl rfl (any_of HT_.out (by kernel_rfl)) (fun _ _ _ h => h) (Or.inr ⟨by rfl, rfl⟩) ?_ ?_
       rotate_left
       ·simp only [Act.put, List.setIfInBounds_toArray, List.set_cons_zero, List.set_cons_succ, i64_w, i32_w]
        rfl
       refine pure_ (i := 45) (N := some 72) (v := undef) (a' := ?_) (fl6_ 47 70368744177663) rfl rfl (any_of HT_.out (by kernel_rfl)) (fun _ _ _ h => h) (Or.inr ⟨by rfl, rfl⟩) ?_ ?_
       rotate_left
       ·simp only [Act.put, List.setIfInBounds_toArray, List.set_cons_zero, List.set_cons_succ, i64_w, i32_w]
        rfl
       refine zpu HT_ 46 73 (fl6_ 47 140737488355327) ?_
       refine done_ (done_of HT_.out (by kernel_rfl)) ?_
       try go_wp2
       go_meet
       case rel => exact ⟨_, (true), zrs, H', ⟨by have := HJ1.out; have := HK2.out; first | omega | exact Nat.le_refl _⟩, ⟨zb BK155⟩, ⟨zb BK157⟩, ⟨zg HB⟩⟩
      rw [if_neg c25] at H
      have c25b0 : decide (3 < ((rd_T39 l0_0 x3_2).f1)) = false := decide_eq_false c25
      clear c25
      replace H := Option.bind_eq_some_iff.mp H
      obtain ⟨t160, A280, H⟩ := H
      try dsimp only at H
      have A28 := Aside0.mk A280
      clear A280
      by_cases c29 : t160 = true
      rotate_left
      ·replace c29 := Bool.eq_false_iff.mpr c29
       subst c29
       rw [if_neg (show ¬ (false = true) by decide)] at H
       have H' := Aside0.mk H
       clear H
       try go_wp2
       have n0_ : Aside0 ((((((((((w12.setCell ⟨gb157, 0, none⟩ (.string ((rd_T39 l0_0 x3_2).f0))).setCell ⟨gb157, 1, none⟩ (.int .i64 ((rd_T39 l0_0 x3_2).f1))).setCell ⟨gb157, 2, none⟩ (.bool ((rd_T39 l0_0 x3_2).f2.f0))).setCell ⟨gb157, 3, none⟩ (.bool ((rd_T39 l0_0 x3_2).f2.f1))).setCell ⟨gb157, 4, none⟩ (.bool ((rd_T39 l0_0 x3_2).f2.f2))).setCell ⟨gb157, 5, none⟩ (.slice A156_5 ((rd_T39 l0_0 x3_2).f2.f3).length c156_5)).setCell ⟨gb157, 6, none⟩ (.slice A156_6 ((rd_T39 l0_0 x3_2).f2.f4).length c156_6)).setCell ⟨gb157, 7, none⟩ (.int .i64 ((rd_T39 l0_0 x3_2).f2.f5))).setCell ⟨gb157, 8, none⟩ (.int .i64 ((rd_T39 l0_0 x3_2).f2.f6))).heap[gb155]? = some (.cells #[.slice (some ad156) l0_0.length c0_0] 29 (0, 0))) := ⟨zp BK155⟩
       have n1_ : Aside0 ((((((((((w12.setCell ⟨gb157, 0, none⟩ (.string ((rd_T39 l0_0 x3_2).f0))).setCell ⟨gb157, 1, none⟩ (.int .i64 ((rd_T39 l0_0 x3_2).f1))).setCell ⟨gb157, 2, none⟩ (.bool ((rd_T39 l0_0 x3_2).f2.f0))).setCell ⟨gb157, 3, none⟩ (.bool ((rd_T39 l0_0 x3_2).f2.f1))).setCell ⟨gb157, 4, none⟩ (.bool ((rd_T39 l0_0 x3_2).f2.f2))).setCell ⟨gb157, 5, none⟩ (.slice A156_5 ((rd_T39 l0_0 x3_2).f2.f3).length c156_5)).setCell ⟨gb157, 6, none⟩ (.slice A156_6 ((rd_T39 l0_0 x3_2).f2.f4).length c156_6)).setCell ⟨gb157, 7, none⟩ (.int .i64 ((rd_T39 l0_0 x3_2).f2.f5))).setCell ⟨gb157, 8, none⟩ (.int .i64 ((rd_T39 l0_0 x3_2).f2.f6))).heap[gb157]? = some (.cells #[.string ((rd_T39 l0_0 x3_2).f0), .int .i64 ((rd_T39 l0_0 x3_2).f1), .bool ((rd_T39 l0_0 x3_2).f2.f0), .bool ((rd_T39 l0_0 x3_2).f2.f1), .bool ((rd_T39 l0_0 x3_2).f2.f2), .slice A156_5 ((rd_T39 l0_0 x3_2).f2.f3).length c156_5, .slice A156_6 ((rd_T39 l0_0 x3_2).f2.f4).length c156_6, .int .i64 ((rd_T39 l0_0 x3_2).f2.f5), .int .i64 ((rd_T39 l0_0 x3_2).f2.f6)] 39 (0, 0))) := ⟨zp BK157⟩
       have n2_ : Aside0 (Below w.heap.size w (((((((((w12.setCell ⟨gb157, 0, none⟩ (.string ((rd_T39 l0_0 x3_2).f0))).setCell ⟨gb157, 1, none⟩ (.int .i64 ((rd_T39 l0_0 x3_2).f1))).setCell ⟨gb157, 2, none⟩ (.bool ((rd_T39 l0_0 x3_2).f2.f0))).setCell ⟨gb157, 3, none⟩ (.bool ((rd_T39 l0_0 x3_2).f2.f1))).setCell ⟨gb157, 4, none⟩ (.bool ((rd_T39 l0_0 x3_2).f2.f2))).setCell ⟨gb157, 5, none⟩ (.slice A156_5 ((rd_T39 l0_0 x3_2).f2.f3).length c156_5)).setCell ⟨gb157, 6, none⟩ (.slice A156_6 ((rd_T39 l0_0 x3_2).f2.f4).length c156_6)).setCell ⟨gb157, 7, none⟩ (.int .i64 ((rd_T39 l0_0 x3_2).f2.f5))).setCell ⟨gb157, 8, none⟩ (.int .i64 ((rd_T39 l0_0 x3_2).f2.f6)))) := ⟨zg HB⟩
       (try clear BK155)
       (try clear BK157)
       (try clear HB)
       generalize (((((((((w12.setCell ⟨gb157, 0, none⟩ (.string ((rd_T39 l0_0 x3_2).f0))).setCell ⟨gb157, 1, none⟩ (.int .i64 ((rd_T39 l0_0 x3_2).f1))).setCell ⟨gb157, 2, none⟩ (.bool ((rd_T39 l0_0 x3_2).f2.f0))).setCell ⟨gb157, 3, none⟩ (.bool ((rd_T39 l0_0 x3_2).f2.f1))).setCell ⟨gb157, 4, none⟩ (.bool ((rd_T39 l0_0 x3_2).f2.f2))).setCell ⟨gb157, 5, none⟩ (.slice A156_5 ((rd_T39 l0_0 x3_2).f2.f3).length c156_5)).setCell ⟨gb157, 6, none⟩ (.slice A156_6 ((rd_T39 l0_0 x3_2).f2.f4).length c156_6)).setCell ⟨gb157, 7, none⟩ (.int .i64 ((rd_T39 l0_0 x3_2).f2.f5))).setCell ⟨gb157, 8, none⟩ (.int .i64 ((rd_T39 l0_0 x3_2).f2.f6))) = w42 at n0_ n1_ n2_ ⊢
       have BK155 := n0_
       have BK157 := n1_
       have HB := n2_
       clear n0_ n1_ n2_
       replace BK155 := Aside0.mk (blk_drew BK155.out)
       replace BK157 := Aside0.mk (blk_drew BK157.out)
       replace HB := Aside0.mk (below_drew1 HB.out)
       have p159 : 0 ≤ ((ji18) : Int) := of_decide_eq_true zas
       have q159 : (ji18) < (l0_0.length : Int) := of_decide_eq_true zas
       obtain ⟨ad159, A159_5, c159_5, A159_6, c159_6, e159, hx159_0, hx159_1, hx159_2, hx159_3, hx159_4, hx159_5, hx159_6, hx159_7, hx159_8, hl159_5, hi159_5, hl159_6, hi159_6⟩ := at_T39 HR0_0.out (ji18) p159 q159
       have hw159_8 := hx159_8
       have hw159_7 := hx159_7
       have hw159_6 := hx159_6
       have hw159_5 := hx159_5
       have hw159_4 := hx159_4
       have hw159_3 := hx159_3
       have hw159_2 := hx159_2
       have hw159_1 := hx159_1
       have hw159_0 := hx159_0
       obtain rfl : ad156 = ad159 := (by injection e159)
       replace hx159_0 := zx HB hx159_0
       replace hx159_1 := zx HB hx159_1
       replace hx159_2 := zx HB hx159_2
       replace hx159_3 := zx HB hx159_3
       replace hx159_4 := zx HB hx159_4
       replace hx159_5 := zx HB hx159_5
       replace hx159_6 := zx HB hx159_6
       replace hx159_7 := zx HB hx159_7
       replace hx159_8 := zx HB hx159_8
       have HR159_5 := Aside0.mk hi159_5
       have HC159_5 := Aside0.mk hl159_5
       clear hi159_5 hl159_5
       have HR159_6 := Aside0.mk hi159_6
       have HC159_6 := Aside0.mk hl159_6
       clear hi159_6 hl159_6
       replace p159 := eq_true p159
       replace q159 := eq_true q159
       refine start_ (n := 47) (S := fun w' => w'.cell? ⟨gb157, 0, none⟩ = some (.string ((rd_T39 l0_0 x3_2).f0)) ∧ w'.cell? ⟨gb157, 1, none⟩ = some (.int .i64 ((rd_T39 l0_0 x3_2).f1)) ∧ w'.cell? ⟨gb157, 2, none⟩ = some (.bool ((rd_T39 l0_0 x3_2).f2.f0)) ∧ w'.cell? ⟨gb157, 3, none⟩ = some (.bool ((rd_T39 l0_0 x3_2).f2.f1)) ∧ w'.cell? ⟨gb157, 4, none⟩ = some (.bool ((rd_T39 l0_0 x3_2).f2.f2)) ∧ w'.cell? ⟨gb157, 5, none⟩ = some (.slice A156_5 ((rd_T39 l0_0 x3_2).f2.f3).length c156_5) ∧ w'.cell? ⟨gb157, 6, none⟩ = some (.slice A156_6 ((rd_T39 l0_0 x3_2).f2.f4).length c156_6) ∧ w'.cell? ⟨gb157, 7, none⟩ = some (.int .i64 ((rd_T39 l0_0 x3_2).f2.f5)) ∧ w'.cell? ⟨gb157, 8, none⟩ = some (.int .i64 ((rd_T39 l0_0 x3_2).f2.f6)) ∧ w'.cell? ⟨gb155, 0, none⟩ = some (.slice (some ad156) l0_0.length c0_0) ∧ w'.cell? (ad156.add (((ji18)).toNat * 9)) = some (.string ((rd_T39 l0_0 (ji18)).f0)) ∧ w'.cell? ⟨(ad156.add (((ji18)).toNat * 9)).block, (ad156.add (((ji18)).toNat * 9)).off + 1, none⟩ = some (.int .i64 ((rd_T39 l0_0 (ji18)).f1)) ∧ w'.cell? ⟨(ad156.add (((ji18)).toNat * 9)).block, (ad156.add (((ji18)).toNat * 9)).off + 2, none⟩ = some (.bool ((rd_T39 l0_0 (ji18)).f2.f0)) ∧ w'.cell? ⟨(ad156.add (((ji18)).toNat * 9)).block, (ad156.add (((ji18)).toNat * 9)).off + 3, none⟩ = some (.bool ((rd_T39 l0_0 (ji18)).f2.f1)) ∧ w'.cell? ⟨(ad156.add (((ji18)).toNat * 9)).block, (ad156.add (((ji18)).toNat * 9)).off + 4, none⟩ = some (.bool ((rd_T39 l0_0 (ji18)).f2.f2)) ∧ w'.cell? ⟨(ad156.add (((ji18)).toNat * 9)).block, (ad156.add (((ji18)).toNat * 9)).off + 5, none⟩ = some (.slice A159_5 ((rd_T39 l0_0 (ji18)).f2.f3).length c159_5) ∧ w'.cell? ⟨(ad156.add (((ji18)).toNat * 9)).block, (ad156.add (((ji18)).toNat * 9)).off + 6, none⟩ = some (.slice A159_6 ((rd_T39 l0_0 (ji18)).f2.f4).length c159_6) ∧ w'.cell? ⟨(ad156.add (((ji18)).toNat * 9)).block, (ad156.add (((ji18)).toNat * 9)).off + 7, none⟩ = some (.int .i64 ((rd_T39 l0_0 (ji18)).f2.f5)) ∧ w'.cell? ⟨(ad156.add (((ji18)).toNat * 9)).block, (ad156.add (((ji18)).toNat * 9)).off + 8, none⟩ = some (.int .i64 ((rd_T39 l0_0 (ji18)).f2.f6))) (ds := []) (fl6_ 47 0) (by kernel_rfl) rfl rfl ⟨(blk_cell BK157.out 0).trans rfl, (blk_cell BK157.out 1).trans rfl, (blk_cell BK157.out 2).trans rfl, (blk_cell BK157.out 3).trans rfl, (blk_cell BK157.out 4).trans rfl, (blk_cell BK157.out 5).trans rfl, (blk_cell BK157.out 6).trans rfl, (blk_cell BK157.out 7).trans rfl, (blk_cell BK157.out 8).trans rfl, (blk_cell BK155.out 0).trans rfl, (zxx HB hw159_0), (zxx HB hw159_1), (zxx HB hw159_2), (zxx HB hw159_3), (zxx HB hw159_4), (zxx HB hw159_5), (zxx HB hw159_6), (zxx HB hw159_7), (zxx HB hw159_8)⟩ (fun hHeld => ?_); refine with_tabW spec_SchemaOK.tab7 spec_SchemaOK.bits7 (fun HT_ HW_ => ?_)
       generalize w42.drew = w43 at BK155 BK157 HB HR159_5 HR159_6 hx159_0 hx159_1 hx159_2 hx159_3 hx159_4 hx159_5 hx159_6 hx159_7 hx159_8 hHeld ⊢
       refine zpu HT_ 0 27 (fl6_ 47 1) ?_
       refine take_ (i := 1) (N := some 28) (v := ?_) (a' := ?_) (fl6_ 47 3) rfl rfl (take_ofW HT_.out HW_.out (by kernel_rfl)) (fun _ _ _ h => h) (Or.inl ⟨by rfl, ?_⟩) hHeld ?_ ?_
       rotate_left
       ·rintro w' ⟨s0, s1, s2, s3, s4, s5, s6, s7, s8, s9, s10, s11, s12, s13, s14, s15, s16, s17, s18⟩
        go_simp
        with_reducible rfl
       rotate_left
       ·simp only [Act.put, List.setIfInBounds_toArray, List.set_cons_zero, List.set_cons_succ, i64_w, i32_w]
        rfl
       refine one_ (i := 2) (N := some 29) (fl6_ 47 7) rfl rfl (one_of HT_.out (by kernel_rfl)) (by decide) (fun K hK => ?_)
       refine goes_ Tryd.func10 (by kernel_rfl) rfl #[.string ((rd_T39 l0_0 x3_2).f0)] (by rfl) rfl rfl zar ?_
       with_reducible refine (spec_l06Name.calls k2 ((rd_T39 l0_0 x3_2).f0) true _ A15.out).mono ?_
       rintro e w' ⟨rfl, ⟨nd, rfl⟩⟩
       refine ⟨_, rfl, ?_⟩
       refine hK.out _ _ ⟨(blk_cell BK157.out 0).trans rfl, (blk_cell BK157.out 1).trans rfl, (blk_cell BK157.out 2).trans rfl, (blk_cell BK157.out 3).trans rfl, (blk_cell BK157.out 4).trans rfl, (blk_cell BK157.out 5).trans rfl, (blk_cell BK157.out 6).trans rfl, (blk_cell BK157.out 7).trans rfl, (blk_cell BK157.out 8).trans rfl, (blk_cell BK155.out 0).trans rfl, (zxx HB hw159_0), (zxx HB hw159_1), (zxx HB hw159_2), (zxx HB hw159_3), (zxx HB hw159_4), (zxx HB hw159_5), (zxx HB hw159_6), (zxx HB hw159_7), (zxx HB hw159_8)⟩ (fun hHeld => ?_)
       clear hK K
       refine norm_ (a' := ?_) ?_ ?_
       rotate_left
       ·show Act.put _ (some 29) _ = _
        simp only [Act.put, List.setIfInBounds_toArray, List.set_cons_zero, List.set_cons_succ, i64_w, i32_w]
        rfl
       refine zpu HT_ 3 30 (fl6_ 47 15) ?_
       refine zpu HT_ 4 31 (fl6_ 47 31) ?_
       refine zpu HT_ 5 32 (fl6_ 47 63) ?_
       refine zpu HT_ 6 33 (fl6_ 47 127) ?_
       refine zpu HT_ 7 34 (fl6_ 47 255) ?_
       refine zpu HT_ 8 35 (fl6_ 47 511) ?_
       refine zpu HT_ 10 37 (fl6_ 47 1535) ?_
       refine zpu HT_ 12 39 (fl6_ 47 5631) ?_
       refine zpu HT_ 13 40 (fl6_ 47 13823) ?_
       refine take_ (i := 9) (N := some 36) (v := ?_) (a' := ?_) (fl6_ 47 14335) rfl rfl (take_ofW HT_.out HW_.out (by kernel_rfl)) (fun _ _ _ h => h) (Or.inl ⟨by rfl, ?_⟩) hHeld ?_ ?_
       rotate_left
       ·rintro w' ⟨s0, s1, s2, s3, s4, s5, s6, s7, s8, s9, s10, s11, s12, s13, s14, s15, s16, s17, s18⟩
        go_simp
        with_reducible rfl
       rotate_left
       ·simp only [Act.put, List.setIfInBounds_toArray, List.set_cons_zero, List.set_cons_succ, i64_w, i32_w]
        rfl
       refine take_ (i := 11) (N := some 38) (v := ?_) (a' := ?_) (fl6_ 47 16383) rfl rfl (take_ofW HT_.out HW_.out (by kernel_rfl)) (fun _ _ _ h => h) (Or.inl ⟨by rfl, ?_⟩) hHeld ?_ ?_
       rotate_left
       ·rintro w' ⟨s0, s1, s2, s3, s4, s5, s6, s7, s8, s9, s10, s11, s12, s13, s14, s15, s16, s17, s18⟩
        go_simp
        with_reducible rfl
       rotate_left
       ·simp only [Act.put, List.setIfInBounds_toArray, List.set_cons_zero, List.set_cons_succ, i64_w, i32_w]
        rfl
       refine zpu HT_ 14 41 (fl6_ 47 32767) ?_
       refine zpu HT_ 15 42 (fl6_ 47 65535) ?_
       refine take_ (i := 16) (N := some 43) (v := ?_) (a' := ?_) (fl6_ 47 131071) rfl rfl (take_ofW HT_.out HW_.out (by kernel_rfl)) (fun _ _ _ h => h) (Or.inl ⟨by rfl, ?_⟩) hHeld ?_ ?_
       rotate_left
       ·rintro w' ⟨s0, s1, s2, s3, s4, s5, s6, s7, s8, s9, s10, s11, s12, s13, s14, s15, s16, s17, s18⟩
        go_simp
        with_reducible rfl
       rotate_left
       ·simp only [Act.put, List.setIfInBounds_toArray, List.set_cons_zero, List.set_cons_succ, i64_w, i32_w]
        rfl
       refine zpu HT_ 17 44 (fl6_ 47 262143) ?_
       refine zpu HT_ 18 45 (fl6_ 47 524287) ?_
       refine zpu HT_ 19 46 (fl6_ 47 1048575) ?_
       refine zpu HT_ 20 47 (fl6_ 47 2097151) ?_
       refine zpu HT_ 21 48 (fl6_ 47 4194303) ?_
       refine take_ (i := 22) (N := some 49) (v := ?_) (a' := ?_) (fl6_ 47 8388607) rfl rfl (take_ofW HT_.out HW_.out (by kernel_rfl)) (fun _ _ _ h => h) (Or.inl ⟨by rfl, ?_⟩) hHeld ?_ ?_
       rotate_left
       ·rintro w' ⟨s0, s1, s2, s3, s4, s5, s6, s7, s8, s9, s10, s11, s12, s13, s14, s15, s16, s17, s18⟩
        go_simp
        with_reducible rfl
       rotate_left
       ·simp only [Act.put, List.setIfInBounds_toArray, List.set_cons_zero, List.set_cons_succ, i64_w, i32_w]
        rfl
       refine zpu HT_ 23 50 (fl6_ 47 16777215) ?_
       refine zpu HT_ 24 51 (fl6_ 47 33554431) ?_
       refine zpu HT_ 25 52 (fl6_ 47 67108863) ?_
       refine zpu HT_ 26 53 (fl6_ 47 134217727) ?_
       refine take_ (i := 27) (N := some 54) (v := ?_) (a' := ?_) (fl6_ 47 268435455) rfl rfl (take_ofW HT_.out HW_.out (by kernel_rfl)) (fun _ _ _ h => h) (Or.inl ⟨by rfl, ?_⟩) hHeld ?_ ?_
       rotate_left
       ·rintro w' ⟨s0, s1, s2, s3, s4, s5, s6, s7, s8, s9, s10, s11, s12, s13, s14, s15, s16, s17, s18⟩
        go_simp
        with_reducible rfl
       rotate_left
       ·simp only [Act.put, List.setIfInBounds_toArray, List.set_cons_zero, List.set_cons_succ, i64_w, i32_w]
        rfl
       refine zpu HT_ 28 55 (fl6_ 47 536870911) ?_
       refine zpu HT_ 29 56 (fl6_ 47 1073741823) ?_
       refine zpu HT_ 30 57 (fl6_ 47 2147483647) ?_
       refine zpu HT_ 31 58 (fl6_ 47 4294967295) ?_
       refine take_ (i := 32) (N := some 59) (v := ?_) (a' := ?_) (fl6_ 47 8589934591) rfl rfl (take_ofW HT_.out HW_.out (by kernel_rfl)) (fun _ _ _ h => h) (Or.inl ⟨by rfl, ?_⟩) hHeld ?_ ?_
       rotate_left
       ·rintro w' ⟨s0, s1, s2, s3, s4, s5, s6, s7, s8, s9, s10, s11, s12, s13, s14, s15, s16, s17, s18⟩
        go_simp
        with_reducible rfl
       rotate_left
       ·simp only [Act.put, List.setIfInBounds_toArray, List.set_cons_zero, List.set_cons_succ, i64_w, i32_w]
        rfl
       refine one_ (i := 33) (N := some 60) (fl6_ 47 17179869183) rfl rfl (one_of HT_.out (by kernel_rfl)) (by decide) (fun K hK => ?_)
       refine goes_ Tryd.func11 (by kernel_rfl) rfl #[.agg #[.bool ((rd_T39 l0_0 x3_2).f2.f0), .bool ((rd_T39 l0_0 x3_2).f2.f1), .bool ((rd_T39 l0_0 x3_2).f2.f2), .slice A156_5 ((rd_T39 l0_0 x3_2).f2.f3).length c156_5, .slice A156_6 ((rd_T39 l0_0 x3_2).f2.f4).length c156_6, .int .i64 ((rd_T39 l0_0 x3_2).f2.f5), .int .i64 ((rd_T39 l0_0 x3_2).f2.f6)]] (by rfl) rfl rfl zar ?_
       with_reducible refine (spec_AnalyzerOK.calls k2 ((rd_T39 l0_0 x3_2).f2.f0) ((rd_T39 l0_0 x3_2).f2.f1) ((rd_T39 l0_0 x3_2).f2.f2) _ _ ((rd_T39 l0_0 x3_2).f2.f3) _ _ ((rd_T39 l0_0 x3_2).f2.f4) ((rd_T39 l0_0 x3_2).f2.f5) ((rd_T39 l0_0 x3_2).f2.f6) false _ ?side1 ?side2 ?side3 ?side4 A28.out).mono ?_
       (case side1 => exact zC (Kd.C_below HR156_5.out (zg HB)))
       (case side2 => exact HC156_5.out)
       (case side3 => exact zC (Kd.C_below HR156_6.out (zg HB)))
       (case side4 => exact HC156_6.out)
       rintro e w44 ⟨rfl, hb⟩
       refine ⟨_, rfl, ?_⟩
       replace BK155 := Aside0.mk (blk_below (zb BK155) hb)
       replace BK157 := Aside0.mk (blk_below (zb BK157) hb)
       replace HB := Aside0.mk (below_step (zg HB) hb)
       (try clear hb)
       (try clear hb2)
       (try clear hk)
       (try clear hi)
       refine hK.out _ _ ⟨(blk_cell BK157.out 0).trans rfl, (blk_cell BK157.out 1).trans rfl, (blk_cell BK157.out 2).trans rfl, (blk_cell BK157.out 3).trans rfl, (blk_cell BK157.out 4).trans rfl, (blk_cell BK157.out 5).trans rfl, (blk_cell BK157.out 6).trans rfl, (blk_cell BK157.out 7).trans rfl, (blk_cell BK157.out 8).trans rfl, (blk_cell BK155.out 0).trans rfl, (zxx HB hw159_0), (zxx HB hw159_1), (zxx HB hw159_2), (zxx HB hw159_3), (zxx HB hw159_4), (zxx HB hw159_5), (zxx HB hw159_6), (zxx HB hw159_7), (zxx HB hw159_8)⟩ (fun hHeld => ?_)
       clear hK K
       refine norm_ (a' := ?_) ?_ ?_
       rotate_left
       ·show Act.put _ (some 60) _ = _
        simp only [Act.put, List.setIfInBounds_toArray, List.set_cons_zero, List.set_cons_succ, i64_w, i32_w]
        rfl
       refine zpu HT_ 34 61 (fl6_ 47 34359738367) ?_
       refine zpu HT_ 35 62 (fl6_ 47 68719476735) ?_
       refine zpu HT_ 36 63 (fl6_ 47 137438953471) ?_
       refine pure_ (i := 37) (N := some 64) (v := undef) (a' := ?_) (fl6_ 47 274877906943) rfl rfl (any_of HT_.out (by kernel_rfl)) (fun _ _ _ h => h) (Or.inr ⟨by rfl, rfl⟩) ?_ ?_
       rotate_left
       ·simp only [Act.put, List.setIfInBounds_toArray, List.set_cons_zero, List.set_cons_succ, i64_w, i32_w]
        rfl
       refine pure_ (i := 38) (N := some 65) (v := undef) (a' := ?_) (fl6_ 47 549755813887) rfl rfl (any_of HT_.out (by kernel_rfl)) (fun _ _ _ h => h) (Or.inr ⟨by rfl, rfl⟩) ?_ ?_
       rotate_left
       ·simp only [Act.put, List.setIfInBounds_toArray, List.set_cons_zero, List.set_cons_succ, i64_w, i32_w]
        rfl
       refine pure_ (i := 39) (N := some 66) (v := undef) (a' := ?_) (fl6_ 47 1099511627775) rfl rfl (any_of HT_.out (by kernel_rfl)) (fun _ _ _ h => h) (Or.inr ⟨by rfl, rfl⟩) ?_ ?_
       rotate_left
       ·simp only [Act.put, List.setIfInBounds_toArray, List.set_cons_zero, List.set_cons_succ, i64_w, i32_w]
        rfl
       refine pure_ (i := 40) (N := some 67) (v := undef) (a' := ?_) (fl6_ 47 2199023255551) rfl rfl (any_of HT_.out (by kernel_rfl)) (fun _ _ _ h => h) (Or.inr ⟨by rfl, rfl⟩) ?_ ?_
       rotate_left
       ·simp only [Act.put, List.setIfInBounds_toArray, List.set_cons_zero, List.set_cons_succ, i64_w, i32_w]
        rfl
       refine pure_ (i := 41) (N := some 68) (v := undef) (a' := ?_) (fl6_ 47 4398046511103) rfl rfl (any_of HT_.out (by kernel_rfl)) (fun _ _ _ h => h) (Or.inr ⟨by rfl, rfl⟩) ?_ ?_
       rotate_left
       ·simp only [Act.put, List.setIfInBounds_toArray, List.set_cons_zero, List.set_cons_succ, i64_w, i32_w]
        rfl
       refine pure_ (i := 42) (N := some 69) (v := undef) (a' := ?_) (fl6_ 47 8796093022207) rfl rfl (any_of HT_.out (by kernel_rfl)) (fun _ _ _ h => h) (Or.inr ⟨by rfl, rfl⟩) ?_ ?_
       rotate_left
       ·simp only [Act.put, List.setIfInBounds_toArray, List.set_cons_zero, List.set_cons_succ, i64_w, i32_w]
        rfl
       refine pure_ (i := 43) (N := some 70) (v := undef) (a' := ?_) (fl6_ 47 17592186044415) rfl rfl (any_of HT_.out (by kernel_rfl)) (fun _ _ _ h => h) (Or.inr ⟨by rfl, rfl⟩) ?_ ?_
       rotate_left
       ·simp only [Act.put, List.setIfInBounds_toArray, List.set_cons_zero, List.set_cons_succ, i64_w, i32_w]
        rfl
       refine pure_ (i := 44) (N := some 71) (v := undef) (a' := ?_) (fl6_ 47 35184372088831) rfl rfl (any_of HT_.out (by kernel_rfl)) (fun _ _ _ h => h) (Or.inr ⟨by rfl, rfl⟩) ?_ ?_
       rotate_left
       ·simp only [Act.put, List.setIfInBounds_toArray, List.set_cons_zero, List.set_cons_succ, i64_w, i32_w]
        rfl
       refine pure_ (i := 45) (N := some 72) (v := undef) (a' := ?_) (fl6_ 47 70368744177663) rfl rfl (any_of HT_.out (by kernel_rfl)) (fun _ _ _ h => h) (Or.inr ⟨by rfl, rfl⟩) ?_ ?_
       rotate_left
       ·simp only [Act.put, List.setIfInBounds_toArray, List.set_cons_zero, List.set_cons_succ, i64_w, i32_w]
        rfl
       refine zpu HT_ 46 73 (fl6_ 47 140737488355327) ?_
       refine done_ (done_of HT_.out (by kernel_rfl)) ?_
       try go_wp2
       go_meet
       case rel => exact ⟨_, (true), zrs, H', ⟨by have := HJ1.out; have := HK2.out; first | omega | exact Nat.le_refl _⟩, ⟨zb BK155⟩, ⟨zb BK157⟩, ⟨zg HB⟩⟩
      subst c29
      rw [if_pos rfl] at H
      by_cases c30 : ((rd_T39 l0_0 x3_2).f1) = 1
      ·rw [if_pos c30] at H
       have c30b0 : (((rd_T39 l0_0 x3_2).f1) == 1) = true := beq_iff_eq.mpr c30
       have c30b1 : (((rd_T39 l0_0 x3_2).f1) != 1) = false := bne_eq_false_iff_eq.mpr c30
       clear c30
       have H' := Aside0.mk H
       clear H
       try go_wp2
       have n0_ : Aside0 ((((((((((w12.setCell ⟨gb157, 0, none⟩ (.string ((rd_T39 l0_0 x3_2).f0))).setCell ⟨gb157, 1, none⟩ (.int .i64 ((rd_T39 l0_0 x3_2).f1))).setCell ⟨gb157, 2, none⟩ (.bool ((rd_T39 l0_0 x3_2).f2.f0))).setCell ⟨gb157, 3, none⟩ (.bool ((rd_T39 l0_0 x3_2).f2.f1))).setCell ⟨gb157, 4, none⟩ (.bool ((rd_T39 l0_0 x3_2).f2.f2))).setCell ⟨gb157, 5, none⟩ (.slice A156_5 ((rd_T39 l0_0 x3_2).f2.f3).length c156_5)).setCell ⟨gb157, 6, none⟩ (.slice A156_6 ((rd_T39 l0_0 x3_2).f2.f4).length c156_6)).setCell ⟨gb157, 7, none⟩ (.int .i64 ((rd_T39 l0_0 x3_2).f2.f5))).setCell ⟨gb157, 8, none⟩ (.int .i64 ((rd_T39 l0_0 x3_2).f2.f6))).heap[gb155]? = some (.cells #[.slice (some ad156) l0_0.length c0_0] 29 (0, 0))) := ⟨zp BK155⟩
       have n1_ : Aside0 ((((((((((w12.setCell ⟨gb157, 0, none⟩ (.string ((rd_T39 l0_0 x3_2).f0))).setCell ⟨gb157, 1, none⟩ (.int .i64 ((rd_T39 l0_0 x3_2).f1))).setCell ⟨gb157, 2, none⟩ (.bool ((rd_T39 l0_0 x3_2).f2.f0))).setCell ⟨gb157, 3, none⟩ (.bool ((rd_T39 l0_0 x3_2).f2.f1))).setCell ⟨gb157, 4, none⟩ (.bool ((rd_T39 l0_0 x3_2).f2.f2))).setCell ⟨gb157, 5, none⟩ (.slice A156_5 ((rd_T39 l0_0 x3_2).f2.f3).length c156_5)).setCell ⟨gb157, 6, none⟩ (.slice A156_6 ((rd_T39 l0_0 x3_2).f2.f4).length c156_6)).setCell ⟨gb157, 7, none⟩ (.int .i64 ((rd_T39 l0_0 x3_2).f2.f5))).setCell ⟨gb157, 8, none⟩ (.int .i64 ((rd_T39 l0_0 x3_2).f2.f6))).heap[gb157]? = some (.cells #[.string ((rd_T39 l0_0 x3_2).f0), .int .i64 ((rd_T39 l0_0 x3_2).f1), .bool ((rd_T39 l0_0 x3_2).f2.f0), .bool ((rd_T39 l0_0 x3_2).f2.f1), .bool ((rd_T39 l0_0 x3_2).f2.f2), .slice A156_5 ((rd_T39 l0_0 x3_2).f2.f3).length c156_5, .slice A156_6 ((rd_T39 l0_0 x3_2).f2.f4).length c156_6, .int .i64 ((rd_T39 l0_0 x3_2).f2.f5), .int .i64 ((rd_T39 l0_0 x3_2).f2.f6)] 39 (0, 0))) := ⟨zp BK157⟩
       have n2_ : Aside0 (Below w.heap.size w (((((((((w12.setCell ⟨gb157, 0, none⟩ (.string ((rd_T39 l0_0 x3_2).f0))).setCell ⟨gb157, 1, none⟩ (.int .i64 ((rd_T39 l0_0 x3_2).f1))).setCell ⟨gb157, 2, none⟩ (.bool ((rd_T39 l0_0 x3_2).f2.f0))).setCell ⟨gb157, 3, none⟩ (.bool ((rd_T39 l0_0 x3_2).f2.f1))).setCell ⟨gb157, 4, none⟩ (.bool ((rd_T39 l0_0 x3_2).f2.f2))).setCell ⟨gb157, 5, none⟩ (.slice A156_5 ((rd_T39 l0_0 x3_2).f2.f3).length c156_5)).setCell ⟨gb157, 6, none⟩ (.slice A156_6 ((rd_T39 l0_0 x3_2).f2.f4).length c156_6)).setCell ⟨gb157, 7, none⟩ (.int .i64 ((rd_T39 l0_0 x3_2).f2.f5))).setCell ⟨gb157, 8, none⟩ (.int .i64 ((rd_T39 l0_0 x3_2).f2.f6)))) := ⟨zg HB⟩
       (try clear BK155)
       (try clear BK157)
       (try clear HB)
       generalize (((((((((w12.setCell ⟨gb157, 0, none⟩ (.string ((rd_T39 l0_0 x3_2).f0))).setCell ⟨gb157, 1, none⟩ (.int .i64 ((rd_T39 l0_0 x3_2).f1))).setCell ⟨gb157, 2, none⟩ (.bool ((rd_T39 l0_0 x3_2).f2.f0))).setCell ⟨gb157, 3, none⟩ (.bool ((rd_T39 l0_0 x3_2).f2.f1))).setCell ⟨gb157, 4, none⟩ (.bool ((rd_T39 l0_0 x3_2).f2.f2))).setCell ⟨gb157, 5, none⟩ (.slice A156_5 ((rd_T39 l0_0 x3_2).f2.f3).length c156_5)).setCell ⟨gb157, 6, none⟩ (.slice A156_6 ((rd_T39 l0_0 x3_2).f2.f4).length c156_6)).setCell ⟨gb157, 7, none⟩ (.int .i64 ((rd_T39 l0_0 x3_2).f2.f5))).setCell ⟨gb157, 8, none⟩ (.int .i64 ((rd_T39 l0_0 x3_2).f2.f6))) = w31 at n0_ n1_ n2_ ⊢
       have BK155 := n0_
       have BK157 := n1_
       have HB := n2_
       clear n0_ n1_ n2_
       replace BK155 := Aside0.mk (blk_drew BK155.out)
       replace BK157 := Aside0.mk (blk_drew BK157.out)
       replace HB := Aside0.mk (below_drew1 HB.out)
       have p159 : 0 ≤ ((ji18) : Int) := of_decide_eq_true zas
       have q159 : (ji18) < (l0_0.length : Int) := of_decide_eq_true zas
       obtain ⟨ad159, A159_5, c159_5, A159_6, c159_6, e159, hx159_0, hx159_1, hx159_2, hx159_3, hx159_4, hx159_5, hx159_6, hx159_7, hx159_8, hl159_5, hi159_5, hl159_6, hi159_6⟩ := at_T39 HR0_0.out (ji18) p159 q159
       have hw159_8 := hx159_8
       have hw159_7 := hx159_7
       have hw159_6 := hx159_6
       have hw159_5 := hx159_5
       have hw159_4 := hx159_4
       have hw159_3 := hx159_3
       have hw159_2 := hx159_2
       have hw159_1 := hx159_1
       have hw159_0 := hx159_0
       obtain rfl : ad156 = ad159 := (by injection e159)
       replace hx159_0 := zx HB hx159_0
       replace hx159_1 := zx HB hx159_1
       replace hx159_2 := zx HB hx159_2
       replace hx159_3 := zx HB hx159_3
       replace hx159_4 := zx HB hx159_4
       replace hx159_5 := zx HB hx159_5
       replace hx159_6 := zx HB hx159_6
       replace hx159_7 := zx HB hx159_7
       replace hx159_8 := zx HB hx159_8
       have HR159_5 := Aside0.mk hi159_5
       have HC159_5 := Aside0.mk hl159_5
       clear hi159_5 hl159_5
       have HR159_6 := Aside0.mk hi159_6
       have HC159_6 := Aside0.mk hl159_6
       clear hi159_6 hl159_6
       replace p159 := eq_true p159
       replace q159 := eq_true q159
       refine start_ (n := 47) (S := fun w' => w'.cell? ⟨gb157, 0, none⟩ = some (.string ((rd_T39 l0_0 x3_2).f0)) ∧ w'.cell? ⟨gb157, 1, none⟩ = some (.int .i64 ((rd_T39 l0_0 x3_2).f1)) ∧ w'.cell? ⟨gb157, 2, none⟩ = some (.bool ((rd_T39 l0_0 x3_2).f2.f0)) ∧ w'.cell? ⟨gb157, 3, none⟩ = some (.bool ((rd_T39 l0_0 x3_2).f2.f1)) ∧ w'.cell? ⟨gb157, 4, none⟩ = some (.bool ((rd_T39 l0_0 x3_2).f2.f2)) ∧ w'.cell? ⟨gb157, 5, none⟩ = some (.slice A156_5 ((rd_T39 l0_0 x3_2).f2.f3).length c156_5) ∧ w'.cell? ⟨gb157, 6, none⟩ = some (.slice A156_6 ((rd_T39 l0_0 x3_2).f2.f4).length c156_6) ∧ w'.cell? ⟨gb157, 7, none⟩ = some (.int .i64 ((rd_T39 l0_0 x3_2).f2.f5)) ∧ w'.cell? ⟨gb157, 8, none⟩ = some (.int .i64 ((rd_T39 l0_0 x3_2).f2.f6)) ∧ w'.cell? ⟨gb155, 0, none⟩ = some (.slice (some ad156) l0_0.length c0_0) ∧ w'.cell? (ad156.add (((ji18)).toNat * 9)) = some (.string ((rd_T39 l0_0 (ji18)).f0)) ∧ w'.cell? ⟨(ad156.add (((ji18)).toNat * 9)).block, (ad156.add (((ji18)).toNat * 9)).off + 1, none⟩ = some (.int .i64 ((rd_T39 l0_0 (ji18)).f1)) ∧ w'.cell? ⟨(ad156.add (((ji18)).toNat * 9)).block, (ad156.add (((ji18)).toNat * 9)).off + 2, none⟩ = some (.bool ((rd_T39 l0_0 (ji18)).f2.f0)) ∧ w'.cell? ⟨(ad156.add (((ji18)).toNat * 9)).block, (ad156.add (((ji18)).toNat * 9)).off + 3, none⟩ = some (.bool ((rd_T39 l0_0 (ji18)).f2.f1)) ∧ w'.cell? ⟨(ad156.add (((ji18)).toNat * 9)).block, (ad156.add (((ji18)).toNat * 9)).off + 4, none⟩ = some (.bool ((rd_T39 l0_0 (ji18)).f2.f2)) ∧ w'.cell? ⟨(ad156.add (((ji18)).toNat * 9)).block, (ad156.add (((ji18)).toNat * 9)).off + 5, none⟩ = some (.slice A159_5 ((rd_T39 l0_0 (ji18)).f2.f3).length c159_5) ∧ w'.cell? ⟨(ad156.add (((ji18)).toNat * 9)).block, (ad156.add (((ji18)).toNat * 9)).off + 6, none⟩ = some (.slice A159_6 ((rd_T39 l0_0 (ji18)).f2.f4).length c159_6) ∧ w'.cell? ⟨(ad156.add (((ji18)).toNat * 9)).block, (ad156.add (((ji18)).toNat * 9)).off + 7, none⟩ = some (.int .i64 ((rd_T39 l0_0 (ji18)).f2.f5)) ∧ w'.cell? ⟨(ad156.add (((ji18)).toNat * 9)).block, (ad156.add (((ji18)).toNat * 9)).off + 8, none⟩ = some (.int .i64 ((rd_T39 l0_0 (ji18)).f2.f6))) (ds := []) (fl6_ 47 0) (by kernel_rfl) rfl rfl ⟨(blk_cell BK157.out 0).trans rfl, (blk_cell BK157.out 1).trans rfl, (blk_cell BK157.out 2).trans rfl, (blk_cell BK157.out 3).trans rfl, (blk_cell BK157.out 4).trans rfl, (blk_cell BK157.out 5).trans rfl, (blk_cell BK157.out 6).trans rfl, (blk_cell BK157.out 7).trans rfl, (blk_cell BK157.out 8).trans rfl, (blk_cell BK155.out 0).trans rfl, (zxx HB hw159_0), (zxx HB hw159_1), (zxx HB hw159_2), (zxx HB hw159_3), (zxx HB hw159_4), (zxx HB hw159_5), (zxx HB hw159_6), (zxx HB hw159_7), (zxx HB hw159_8)⟩ (fun hHeld => ?_); refine with_tabW spec_SchemaOK.tab7 spec_SchemaOK.bits7 (fun HT_ HW_ => ?_)
       generalize w31.drew = w32 at BK155 BK157 HB HR159_5 HR159_6 hx159_0 hx159_1 hx159_2 hx159_3 hx159_4 hx159_5 hx159_6 hx159_7 hx159_8 hHeld ⊢
       refine zpu HT_ 0 27 (fl6_ 47 1) ?_
       refine take_ (i := 1) (N := some 28) (v := ?_) (a' := ?_) (fl6_ 47 3) rfl rfl (take_ofW HT_.out HW_.out (by kernel_rfl)) (fun _ _ _ h => h) (Or.inl ⟨by rfl, ?_⟩) hHeld ?_ ?_
       rotate_left
       ·rintro w' ⟨s0, s1, s2, s3, s4, s5, s6, s7, s8, s9, s10, s11, s12, s13, s14, s15, s16, s17, s18⟩
        go_simp
        with_reducible rfl
       rotate_left
       ·simp only [Act.put, List.setIfInBounds_toArray, List.set_cons_zero, List.set_cons_succ, i64_w, i32_w]
        rfl
       refine one_ (i := 2) (N := some 29) (fl6_ 47 7) rfl rfl (one_of HT_.out (by kernel_rfl)) (by decide) (fun K hK => ?_)
       refine goes_ Tryd.func10 (by kernel_rfl) rfl #[.string ((rd_T39 l0_0 x3_2).f0)] (by rfl) rfl rfl zar ?_
       with_reducible refine (spec_l06Name.calls k2 ((rd_T39 l0_0 x3_2).f0) true _ A15.out).mono ?_
       rintro e w' ⟨rfl, ⟨nd, rfl⟩⟩
       refine ⟨_, rfl, ?_⟩
       refine hK.out _ _ ⟨(blk_cell BK157.out 0).trans rfl, (blk_cell BK157.out 1).trans rfl, (blk_cell BK157.out 2).trans rfl, (blk_cell BK157.out 3).trans rfl, (blk_cell BK157.out 4).trans rfl, (blk_cell BK157.out 5).trans rfl, (blk_cell BK157.out 6).trans rfl, (blk_cell BK157.out 7).trans rfl, (blk_cell BK157.out 8).trans rfl, (blk_cell BK155.out 0).trans rfl, (zxx HB hw159_0), (zxx HB hw159_1), (zxx HB hw159_2), (zxx HB hw159_3), (zxx HB hw159_4), (zxx HB hw159_5), (zxx HB hw159_6), (zxx HB hw159_7), (zxx HB hw159_8)⟩ (fun hHeld => ?_)
       clear hK K
       refine norm_ (a' := ?_) ?_ ?_
       rotate_left
       ·show Act.put _ (some 29) _ = _
        simp only [Act.put, List.setIfInBounds_toArray, List.set_cons_zero, List.set_cons_succ, i64_w, i32_w]
        rfl
       refine zpu HT_ 3 30 (fl6_ 47 15) ?_
       refine zpu HT_ 4 31 (fl6_ 47 31) ?_
       refine zpu HT_ 5 32 (fl6_ 47 63) ?_
       refine zpu HT_ 6 33 (fl6_ 47 127) ?_
       refine zpu HT_ 7 34 (fl6_ 47 255) ?_
       refine zpu HT_ 8 35 (fl6_ 47 511) ?_
       refine zpu HT_ 10 37 (fl6_ 47 1535) ?_
       refine zpu HT_ 12 39 (fl6_ 47 5631) ?_
       refine zpu HT_ 13 40 (fl6_ 47 13823) ?_
       refine take_ (i := 9) (N := some 36) (v := ?_) (a' := ?_) (fl6_ 47 14335) rfl rfl (take_ofW HT_.out HW_.out (by kernel_rfl)) (fun _ _ _ h => h) (Or.inl ⟨by rfl, ?_⟩) hHeld ?_ ?_
       rotate_left
       ·rintro w' ⟨s0, s1, s2, s3, s4, s5, s6, s7, s8, s9, s10, s11, s12, s13, s14, s15, s16, s17, s18⟩
        go_simp
        with_reducible rfl
       rotate_left
       ·simp only [Act.put, List.setIfInBounds_toArray, List.set_cons_zero, List.set_cons_succ, i64_w, i32_w]
        rfl
       refine take_ (i := 11) (N := some 38) (v := ?_) (a' := ?_) (fl6_ 47 16383) rfl rfl (take_ofW HT_.out HW_.out (by kernel_rfl)) (fun _ _ _ h => h) (Or.inl ⟨by rfl, ?_⟩) hHeld ?_ ?_
       rotate_left
       ·rintro w' ⟨s0, s1, s2, s3, s4, s5, s6, s7, s8, s9, s10, s11, s12, s13, s14, s15, s16, s17, s18⟩
        go_simp
        with_reducible rfl
       rotate_left
       ·simp only [Act.put, List.setIfInBounds_toArray, List.set_cons_zero, List.set_cons_succ, i64_w, i32_w]
        rfl
       refine zpu HT_ 14 41 (fl6_ 47 32767) ?_
       refine zpu HT_ 15 42 (fl6_ 47 65535) ?_
       refine take_ (i := 16) (N := some 43) (v := ?_) (a' := ?_) (fl6_ 47 131071) rfl rfl (take_ofW HT_.out HW_.out (by kernel_rfl)) (fun _ _ _ h => h) (Or.inl ⟨by rfl, ?_⟩) hHeld ?_ ?_
       rotate_left
       ·rintro w' ⟨s0, s1, s2, s3, s4, s5, s6, s7, s8, s9, s10, s11, s12, s13, s14, s15, s16, s17, s18⟩
        go_simp
        with_reducible rfl
       rotate_left
       ·simp only [Act.put, List.setIfInBounds_toArray, List.set_cons_zero, List.set_cons_succ, i64_w, i32_w]
        rfl
       refine zpu HT_ 17 44 (fl6_ 47 262143) ?_
       refine zpu HT_ 18 45 (fl6_ 47 524287) ?_
       refine zpu HT_ 19 46 (fl6_ 47 1048575) ?_
       refine zpu HT_ 20 47 (fl6_ 47 2097151) ?_
       refine zpu HT_ 21 48 (fl6_ 47 4194303) ?_
       refine take_ (i := 22) (N := some 49) (v := ?_) (a' := ?_) (fl6_ 47 8388607) rfl rfl (take_ofW HT_.out HW_.out (by kernel_rfl)) (fun _ _ _ h => h) (Or.inl ⟨by rfl, ?_⟩) hHeld ?_ ?_
       rotate_left
       ·rintro w' ⟨s0, s1, s2, s3, s4, s5, s6, s7, s8, s9, s10, s11, s12, s13, s14, s15, s16, s17, s18⟩
        go_simp
        with_reducible rfl
       rotate_left
       ·simp only [Act.put, List.setIfInBounds_toArray, List.set_cons_zero, List.set_cons_succ, i64_w, i32_w]
        rfl
       refine zpu HT_ 23 50 (fl6_ 47 16777215) ?_
       refine zpu HT_ 24 51 (fl6_ 47 33554431) ?_
       refine zpu HT_ 25 52 (fl6_ 47 67108863) ?_
       refine zpu HT_ 26 53 (fl6_ 47 134217727) ?_
       refine take_ (i := 27) (N := some 54) (v := ?_) (a' := ?_) (fl6_ 47 268435455) rfl rfl (take_ofW HT_.out HW_.out (by kernel_rfl)) (fun _ _ _ h => h) (Or.inl ⟨by rfl, ?_⟩) hHeld ?_ ?_
       rotate_left
       ·rintro w' ⟨s0, s1, s2, s3, s4, s5, s6, s7, s8, s9, s10, s11, s12, s13, s14, s15, s16, s17, s18⟩
        go_simp
        with_reducible rfl
       rotate_left
       ·simp only [Act.put, List.setIfInBounds_toArray, List.set_cons_zero, List.set_cons_succ, i64_w, i32_w]
        rfl
       refine zpu HT_ 28 55 (fl6_ 47 536870911) ?_
       refine zpu HT_ 29 56 (fl6_ 47 1073741823) ?_
       refine zpu HT_ 30 57 (fl6_ 47 2147483647) ?_
       refine zpu HT_ 31 58 (fl6_ 47 4294967295) ?_
       refine take_ (i := 32) (N := some 59) (v := ?_) (a' := ?_) (fl6_ 47 8589934591) rfl rfl (take_ofW HT_.out HW_.out (by kernel_rfl)) (fun _ _ _ h => h) (Or.inl ⟨by rfl, ?_⟩) hHeld ?_ ?_
       rotate_left
       ·rintro w' ⟨s0, s1, s2, s3, s4, s5, s6, s7, s8, s9, s10, s11, s12, s13, s14, s15, s16, s17, s18⟩
        go_simp
        with_reducible rfl
       rotate_left
       ·simp only [Act.put, List.setIfInBounds_toArray, List.set_cons_zero, List.set_cons_succ, i64_w, i32_w]
        rfl
       refine one_ (i := 33) (N := some 60) (fl6_ 47 17179869183) rfl rfl (one_of HT_.out (by kernel_rfl)) (by decide) (fun K hK => ?_)
       refine goes_ Tryd.func11 (by kernel_rfl) rfl #[.agg #[.bool ((rd_T39 l0_0 x3_2).f2.f0), .bool ((rd_T39 l0_0 x3_2).f2.f1), .bool ((rd_T39 l0_0 x3_2).f2.f2), .slice A156_5 ((rd_T39 l0_0 x3_2).f2.f3).length c156_5, .slice A156_6 ((rd_T39 l0_0 x3_2).f2.f4).length c156_6, .int .i64 ((rd_T39 l0_0 x3_2).f2.f5), .int .i64 ((rd_T39 l0_0 x3_2).f2.f6)]] (by rfl) rfl rfl zar ?_
       with_reducible refine (spec_AnalyzerOK.calls k2 ((rd_T39 l0_0 x3_2).f2.f0) ((rd_T39 l0_0 x3_2).f2.f1) ((rd_T39 l0_0 x3_2).f2.f2) _ _ ((rd_T39 l0_0 x3_2).f2.f3) _ _ ((rd_T39 l0_0 x3_2).f2.f4) ((rd_T39 l0_0 x3_2).f2.f5) ((rd_T39 l0_0 x3_2).f2.f6) true _ ?side1 ?side2 ?side3 ?side4 A28.out).mono ?_
       (case side1 => exact zC (Kd.C_below HR156_5.out (zg HB)))
       (case side2 => exact HC156_5.out)
       (case side3 => exact zC (Kd.C_below HR156_6.out (zg HB)))
       (case side4 => exact HC156_6.out)
       rintro e w33 ⟨rfl, hb⟩
       refine ⟨_, rfl, ?_⟩
       replace BK155 := Aside0.mk (blk_below (zb BK155) hb)
       replace BK157 := Aside0.mk (blk_below (zb BK157) hb)
       replace HB := Aside0.mk (below_step (zg HB) hb)
       (try clear hb)
       (try clear hb2)
       (try clear hk)
       (try clear hi)
       refine hK.out _ _ ⟨(blk_cell BK157.out 0).trans rfl, (blk_cell BK157.out 1).trans rfl, (blk_cell BK157.out 2).trans rfl, (blk_cell BK157.out 3).trans rfl, (blk_cell BK157.out 4).trans rfl, (blk_cell BK157.out 5).trans rfl, (blk_cell BK157.out 6).trans rfl, (blk_cell BK157.out 7).trans rfl, (blk_cell BK157.out 8).trans rfl, (blk_cell BK155.out 0).trans rfl, (zxx HB hw159_0), (zxx HB hw159_1), (zxx HB hw159_2), (zxx HB hw159_3), (zxx HB hw159_4), (zxx HB hw159_5), (zxx HB hw159_6), (zxx HB hw159_7), (zxx HB hw159_8)⟩ (fun hHeld => ?_)
       clear hK K
       refine norm_ (a' := ?_) ?_ ?_
       rotate_left
       ·show Act.put _ (some 60) _ = _
        simp only [Act.put, List.setIfInBounds_toArray, List.set_cons_zero, List.set_cons_succ, i64_w, i32_w]
        rfl
       refine zpu HT_ 34 61 (fl6_ 47 34359738367) ?_
       refine zpu HT_ 35 62 (fl6_ 47 68719476735) ?_
       refine zpu HT_ 36 63 (fl6_ 47 137438953471) ?_
       refine zpu HT_ 37 64 (fl6_ 47 274877906943) ?_
       refine take_ (i := 38) (N := some 65) (v := ?_) (a' := ?_) (fl6_ 47 549755813887) rfl rfl (take_ofW HT_.out HW_.out (by kernel_rfl)) (fun _ _ _ h => h) (Or.inl ⟨by rfl, ?_⟩) hHeld ?_ ?_
       rotate_left
       ·rintro w' ⟨s0, s1, s2, s3, s4, s5, s6, s7, s8, s9, s10, s11, s12, s13, s14, s15, s16, s17, s18⟩
        go_simp
        with_reducible rfl
       rotate_left
       ·simp only [Act.put, List.setIfInBounds_toArray, List.set_cons_zero, List.set_cons_succ, i64_w, i32_w]
        rfl
       refine zpu HT_ 39 66 (fl6_ 47 1099511627775) ?_
       refine zpu HT_ 40 67 (fl6_ 47 2199023255551) ?_
       refine pure_ (i := 41) (N := some 68) (v := undef) (a' := ?_) (fl6_ 47 4398046511103) rfl rfl (any_of HT_.out (by kernel_rfl)) (fun _ _ _ h => h) (Or.inr ⟨by rfl, rfl⟩) ?_ ?_
       rotate_left
       ·simp only [Act.put, List.setIfInBounds_toArray, List.set_cons_zero, List.set_cons_succ, i64_w, i32_w]
        rfl
       refine pure_ (i := 42) (N := some 69) (v := undef) (a' := ?_) (fl6_ 47 8796093022207) rfl rfl (any_of HT_.out (by kernel_rfl)) (fun _ _ _ h => h) (Or.inr ⟨by rfl, rfl⟩) ?_ ?_
       rotate_left
       ·simp only [Act.put, List.setIfInBounds_toArray, List.set_cons_zero, List.set_cons_succ, i64_w, i32_w]
        rfl
       refine pure_ (i := 43) (N := some 70) (v := undef) (a' := ?_) (fl6_ 47 17592186044415) rfl rfl (any_of HT_.out (by kernel_rfl)) (fun _ _ _ h => h) (Or.inr ⟨by rfl, rfl⟩) ?_ ?_
       rotate_left
       ·simp only [Act.put, List.setIfInBounds_toArray, List.set_cons_zero, List.set_cons_succ, i64_w, i32_w]
        rfl
       refine pure_ (i := 44) (N := some 71) (v := undef) (a' := ?_) (fl6_ 47 35184372088831) rfl rfl (any_of HT_.out (by kernel_rfl)) (fun _ _ _ h => h) (Or.inr ⟨by rfl, rfl⟩) ?_ ?_
       rotate_left
       ·simp only [Act.put, List.setIfInBounds_toArray, List.set_cons_zero, List.set_cons_succ, i64_w, i32_w]
        rfl
       refine zpu HT_ 45 72 (fl6_ 47 70368744177663) ?_
       refine zpu HT_ 46 73 (fl6_ 47 140737488355327) ?_
       refine done_ (done_of HT_.out (by kernel_rfl)) ?_
       try go_wp2
       go_meet
       case rel => exact ⟨_, (false), zrs, H', ⟨by have := HJ1.out; have := HK2.out; first | omega | exact Nat.le_refl _⟩, ⟨zb BK155⟩, ⟨zb BK157⟩, ⟨zg HB⟩⟩
      rw [if_neg c30] at H
      have c30b0 : (((rd_T39 l0_0 x3_2).f1) == 1) = false := beq_eq_false_iff_ne.mpr c30
      have c30b1 : (((rd_T39 l0_0 x3_2).f1) != 1) = true := bne_iff_ne.mpr c30
      replace H := Option.bind_eq_some_iff.mp H
      obtain ⟨t161, A350, H⟩ := H
      try dsimp only at H
      have A35 := Aside0.mk A350
      clear A350
      have H' := Aside0.mk H
      clear H
      try go_wp2
      have n0_ : Aside0 ((((((((((w12.setCell ⟨gb157, 0, none⟩ (.string ((rd_T39 l0_0 x3_2).f0))).setCell ⟨gb157, 1, none⟩ (.int .i64 ((rd_T39 l0_0 x3_2).f1))).setCell ⟨gb157, 2, none⟩ (.bool ((rd_T39 l0_0 x3_2).f2.f0))).setCell ⟨gb157, 3, none⟩ (.bool ((rd_T39 l0_0 x3_2).f2.f1))).setCell ⟨gb157, 4, none⟩ (.bool ((rd_T39 l0_0 x3_2).f2.f2))).setCell ⟨gb157, 5, none⟩ (.slice A156_5 ((rd_T39 l0_0 x3_2).f2.f3).length c156_5)).setCell ⟨gb157, 6, none⟩ (.slice A156_6 ((rd_T39 l0_0 x3_2).f2.f4).length c156_6)).setCell ⟨gb157, 7, none⟩ (.int .i64 ((rd_T39 l0_0 x3_2).f2.f5))).setCell ⟨gb157, 8, none⟩ (.int .i64 ((rd_T39 l0_0 x3_2).f2.f6))).heap[gb155]? = some (.cells #[.slice (some ad156) l0_0.length c0_0] 29 (0, 0))) := ⟨zp BK155⟩
      have n1_ : Aside0 ((((((((((w12.setCell ⟨gb157, 0, none⟩ (.string ((rd_T39 l0_0 x3_2).f0))).setCell ⟨gb157, 1, none⟩ (.int .i64 ((rd_T39 l0_0 x3_2).f1))).setCell ⟨gb157, 2, none⟩ (.bool ((rd_T39 l0_0 x3_2).f2.f0))).setCell ⟨gb157, 3, none⟩ (.bool ((rd_T39 l0_0 x3_2).f2.f1))).setCell ⟨gb157, 4, none⟩ (.bool ((rd_T39 l0_0 x3_2).f2.f2))).setCell ⟨gb157, 5, none⟩ (.slice A156_5 ((rd_T39 l0_0 x3_2).f2.f3).length c156_5)).setCell ⟨gb157, 6, none⟩ (.slice A156_6 ((rd_T39 l0_0 x3_2).f2.f4).length c156_6)).setCell ⟨gb157, 7, none⟩ (.int .i64 ((rd_T39 l0_0 x3_2).f2.f5))).setCell ⟨gb157, 8, none⟩ (.int .i64 ((rd_T39 l0_0 x3_2).f2.f6))).heap[gb157]? = some (.cells #[.string ((rd_T39 l0_0 x3_2).f0), .int .i64 ((rd_T39 l0_0 x3_2).f1), .bool ((rd_T39 l0_0 x3_2).f2.f0), .bool ((rd_T39 l0_0 x3_2).f2.f1), .bool ((rd_T39 l0_0 x3_2).f2.f2), .slice A156_5 ((rd_T39 l0_0 x3_2).f2.f3).length c156_5, .slice A156_6 ((rd_T39 l0_0 x3_2).f2.f4).length c156_6, .int .i64 ((rd_T39 l0_0 x3_2).f2.f5), .int .i64 ((rd_T39 l0_0 x3_2).f2.f6)] 39 (0, 0))) := ⟨zp BK157⟩
      have n2_ : Aside0 (Below w.heap.size w (((((((((w12.setCell ⟨gb157, 0, none⟩ (.string ((rd_T39 l0_0 x3_2).f0))).setCell ⟨gb157, 1, none⟩ (.int .i64 ((rd_T39 l0_0 x3_2).f1))).setCell ⟨gb157, 2, none⟩ (.bool ((rd_T39 l0_0 x3_2).f2.f0))).setCell ⟨gb157, 3, none⟩ (.bool ((rd_T39 l0_0 x3_2).f2.f1))).setCell ⟨gb157, 4, none⟩ (.bool ((rd_T39 l0_0 x3_2).f2.f2))).setCell ⟨gb157, 5, none⟩ (.slice A156_5 ((rd_T39 l0_0 x3_2).f2.f3).length c156_5)).setCell ⟨gb157, 6, none⟩ (.slice A156_6 ((rd_T39 l0_0 x3_2).f2.f4).length c156_6)).setCell ⟨gb157, 7, none⟩ (.int .i64 ((rd_T39 l0_0 x3_2).f2.f5))).setCell ⟨gb157, 8, none⟩ (.int .i64 ((rd_T39 l0_0 x3_2).f2.f6)))) := ⟨zg HB⟩
      (try clear BK155)
      (try clear BK157)
      (try clear HB)
      generalize (((((((((w12.setCell ⟨gb157, 0, none⟩ (.string ((rd_T39 l0_0 x3_2).f0))).setCell ⟨gb157, 1, none⟩ (.int .i64 ((rd_T39 l0_0 x3_2).f1))).setCell ⟨gb157, 2, none⟩ (.bool ((rd_T39 l0_0 x3_2).f2.f0))).setCell ⟨gb157, 3, none⟩ (.bool ((rd_T39 l0_0 x3_2).f2.f1))).setCell ⟨gb157, 4, none⟩ (.bool ((rd_T39 l0_0 x3_2).f2.f2))).setCell ⟨gb157, 5, none⟩ (.slice A156_5 ((rd_T39 l0_0 x3_2).f2.f3).length c156_5)).setCell ⟨gb157, 6, none⟩ (.slice A156_6 ((rd_T39 l0_0 x3_2).f2.f4).length c156_6)).setCell ⟨gb157, 7, none⟩ (.int .i64 ((rd_T39 l0_0 x3_2).f2.f5))).setCell ⟨gb157, 8, none⟩ (.int .i64 ((rd_T39 l0_0 x3_2).f2.f6))) = w36 at n0_ n1_ n2_ ⊢
      have BK155 := n0_
      have BK157 := n1_
      have HB := n2_
      clear n0_ n1_ n2_
      replace BK155 := Aside0.mk (blk_drew BK155.out)
      replace BK157 := Aside0.mk (blk_drew BK157.out)
      replace HB := Aside0.mk (below_drew1 HB.out)
      have p159 : 0 ≤ ((ji18) : Int) := of_decide_eq_true zas
      have q159 : (ji18) < (l0_0.length : Int) := of_decide_eq_true zas
      obtain ⟨ad159, A159_5, c159_5, A159_6, c159_6, e159, hx159_0, hx159_1, hx159_2, hx159_3, hx159_4, hx159_5, hx159_6, hx159_7, hx159_8, hl159_5, hi159_5, hl159_6, hi159_6⟩ := at_T39 HR0_0.out (ji18) p159 q159
      have hw159_8 := hx159_8
      have hw159_7 := hx159_7
      have hw159_6 := hx159_6
      have hw159_5 := hx159_5
      have hw159_4 := hx159_4
      have hw159_3 := hx159_3
      have hw159_2 := hx159_2
      have hw159_1 := hx159_1
      have hw159_0 := hx159_0
      obtain rfl : ad156 = ad159 := (by injection e159)
      replace hx159_0 := zx HB hx159_0
      replace hx159_1 := zx HB hx159_1
      replace hx159_2 := zx HB hx159_2
      replace hx159_3 := zx HB hx159_3
      replace hx159_4 := zx HB hx159_4
      replace hx159_5 := zx HB hx159_5
      replace hx159_6 := zx HB hx159_6
      replace hx159_7 := zx HB hx159_7
      replace hx159_8 := zx HB hx159_8
      have HR159_5 := Aside0.mk hi159_5
      have HC159_5 := Aside0.mk hl159_5
      clear hi159_5 hl159_5
      have HR159_6 := Aside0.mk hi159_6
      have HC159_6 := Aside0.mk hl159_6
      clear hi159_6 hl159_6
      replace p159 := eq_true p159
      replace q159 := eq_true q159
      refine start_ (n := 47) (S := fun w' => w'.cell? ⟨gb157, 0, none⟩ = some (.string ((rd_T39 l0_0 x3_2).f0)) ∧ w'.cell? ⟨gb157, 1, none⟩ = some (.int .i64 ((rd_T39 l0_0 x3_2).f1)) ∧ w'.cell? ⟨gb157, 2, none⟩ = some (.bool ((rd_T39 l0_0 x3_2).f2.f0)) ∧ w'.cell? ⟨gb157, 3, none⟩ = some (.bool ((rd_T39 l0_0 x3_2).f2.f1)) ∧ w'.cell? ⟨gb157, 4, none⟩ = some (.bool ((rd_T39 l0_0 x3_2).f2.f2)) ∧ w'.cell? ⟨gb157, 5, none⟩ = some (.slice A156_5 ((rd_T39 l0_0 x3_2).f2.f3).length c156_5) ∧ w'.cell? ⟨gb157, 6, none⟩ = some (.slice A156_6 ((rd_T39 l0_0 x3_2).f2.f4).length c156_6) ∧ w'.cell? ⟨gb157, 7, none⟩ = some (.int .i64 ((rd_T39 l0_0 x3_2).f2.f5)) ∧ w'.cell? ⟨gb157, 8, none⟩ = some (.int .i64 ((rd_T39 l0_0 x3_2).f2.f6)) ∧ w'.cell? ⟨gb155, 0, none⟩ = some (.slice (some ad156) l0_0.length c0_0) ∧ w'.cell? (ad156.add (((ji18)).toNat * 9)) = some (.string ((rd_T39 l0_0 (ji18)).f0)) ∧ w'.cell? ⟨(ad156.add (((ji18)).toNat * 9)).block, (ad156.add (((ji18)).toNat * 9)).off + 1, none⟩ = some (.int .i64 ((rd_T39 l0_0 (ji18)).f1)) ∧ w'.cell? ⟨(ad156.add (((ji18)).toNat * 9)).block, (ad156.add (((ji18)).toNat * 9)).off + 2, none⟩ = some (.bool ((rd_T39 l0_0 (ji18)).f2.f0)) ∧ w'.cell? ⟨(ad156.add (((ji18)).toNat * 9)).block, (ad156.add (((ji18)).toNat * 9)).off + 3, none⟩ = some (.bool ((rd_T39 l0_0 (ji18)).f2.f1)) ∧ w'.cell? ⟨(ad156.add (((ji18)).toNat * 9)).block, (ad156.add (((ji18)).toNat * 9)).off + 4, none⟩ = some (.bool ((rd_T39 l0_0 (ji18)).f2.f2)) ∧ w'.cell? ⟨(ad156.add (((ji18)).toNat * 9)).block, (ad156.add (((ji18)).toNat * 9)).off + 5, none⟩ = some (.slice A159_5 ((rd_T39 l0_0 (ji18)).f2.f3).length c159_5) ∧ w'.cell? ⟨(ad156.add (((ji18)).toNat * 9)).block, (ad156.add (((ji18)).toNat * 9)).off + 6, none⟩ = some (.slice A159_6 ((rd_T39 l0_0 (ji18)).f2.f4).length c159_6) ∧ w'.cell? ⟨(ad156.add (((ji18)).toNat * 9)).block, (ad156.add (((ji18)).toNat * 9)).off + 7, none⟩ = some (.int .i64 ((rd_T39 l0_0 (ji18)).f2.f5)) ∧ w'.cell? ⟨(ad156.add (((ji18)).toNat * 9)).block, (ad156.add (((ji18)).toNat * 9)).off + 8, none⟩ = some (.int .i64 ((rd_T39 l0_0 (ji18)).f2.f6))) (ds := []) (fl6_ 47 0) (by kernel_rfl) rfl rfl ⟨(blk_cell BK157.out 0).trans rfl, (blk_cell BK157.out 1).trans rfl, (blk_cell BK157.out 2).trans rfl, (blk_cell BK157.out 3).trans rfl, (blk_cell BK157.out 4).trans rfl, (blk_cell BK157.out 5).trans rfl, (blk_cell BK157.out 6).trans rfl, (blk_cell BK157.out 7).trans rfl, (blk_cell BK157.out 8).trans rfl, (blk_cell BK155.out 0).trans rfl, (zxx HB hw159_0), (zxx HB hw159_1), (zxx HB hw159_2), (zxx HB hw159_3), (zxx HB hw159_4), (zxx HB hw159_5), (zxx HB hw159_6), (zxx HB hw159_7), (zxx HB hw159_8)⟩ (fun hHeld => ?_); refine with_tabW spec_SchemaOK.tab7 spec_SchemaOK.bits7 (fun HT_ HW_ => ?_)
      generalize w36.drew = w37 at BK155 BK157 HB HR159_5 HR159_6 hx159_0 hx159_1 hx159_2 hx159_3 hx159_4 hx159_5 hx159_6 hx159_7 hx159_8 hHeld ⊢
      refine zpu HT_ 0 27 (fl6_ 47 1) ?_
      refine take_ (i := 1) (N := some 28) (v := ?_) (a' := ?_) (fl6_ 47 3) rfl rfl (take_ofW HT_.out HW_.out (by kernel_rfl)) (fun _ _ _ h => h) (Or.inl ⟨by rfl, ?_⟩) hHeld ?_ ?_
      rotate_left
      ·rintro w' ⟨s0, s1, s2, s3, s4, s5, s6, s7, s8, s9, s10, s11, s12, s13, s14, s15, s16, s17, s18⟩
       go_simp
       with_reducible rfl
      rotate_left
      ·simp only [Act.put, List.setIfInBounds_toArray, List.set_cons_zero, List.set_cons_succ, i64_w, i32_w]
       rfl
      refine one_ (i := 2) (N := some 29) (fl6_ 47 7) rfl rfl (one_of HT_.out (by kernel_rfl)) (by decide) (fun K hK => ?_)
      refine goes_ Tryd.func10 (by kernel_rfl) rfl #[.string ((rd_T39 l0_0 x3_2).f0)] (by rfl) rfl rfl zar ?_
      with_reducible refine (spec_l06Name.calls k2 ((rd_T39 l0_0 x3_2).f0) true _ A15.out).mono ?_
      rintro e w' ⟨rfl, ⟨nd, rfl⟩⟩
      refine ⟨_, rfl, ?_⟩
      refine hK.out _ _ ⟨(blk_cell BK157.out 0).trans rfl, (blk_cell BK157.out 1).trans rfl, (blk_cell BK157.out 2).trans rfl, (blk_cell BK157.out 3).trans rfl, (blk_cell BK157.out 4).trans rfl, (blk_cell BK157.out 5).trans rfl, (blk_cell BK157.out 6).trans rfl, (blk_cell BK157.out 7).trans rfl, (blk_cell BK157.out 8).trans rfl, (blk_cell BK155.out 0).trans rfl, (zxx HB hw159_0), (zxx HB hw159_1), (zxx HB hw159_2), (zxx HB hw159_3), (zxx HB hw159_4), (zxx HB hw159_5), (zxx HB hw159_6), (zxx HB hw159_7), (zxx HB hw159_8)⟩ (fun hHeld => ?_)
      clear hK K
      refine norm_ (a' := ?_) ?_ ?_
      rotate_left
      ·show Act.put _ (some 29) _ = _
       simp only [Act.put, List.setIfInBounds_toArray, List.set_cons_zero, List.set_cons_succ, i64_w, i32_w]
       rfl
      refine zpu HT_ 3 30 (fl6_ 47 15) ?_
      refine zpu HT_ 4 31 (fl6_ 47 31) ?_
      refine zpu HT_ 5 32 (fl6_ 47 63) ?_
      refine zpu HT_ 6 33 (fl6_ 47 127) ?_
      refine zpu HT_ 7 34 (fl6_ 47 255) ?_
      refine zpu HT_ 8 35 (fl6_ 47 511) ?_
      refine zpu HT_ 10 37 (fl6_ 47 1535) ?_
      refine zpu HT_ 12 39 (fl6_ 47 5631) ?_
      refine zpu HT_ 13 40 (fl6_ 47 13823) ?_
      refine take_ (i := 9) (N := some 36) (v := ?_) (a' := ?_) (fl6_ 47 14335) rfl rfl (take_ofW HT_.out HW_.out (by kernel_rfl)) (fun _ _ _ h => h) (Or.inl ⟨by rfl, ?_⟩) hHeld ?_ ?_
      rotate_left
      ·rintro w' ⟨s0, s1, s2, s3, s4, s5, s6, s7, s8, s9, s10, s11, s12, s13, s14, s15, s16, s17, s18⟩
       go_simp
       with_reducible rfl
      rotate_left
      ·simp only [Act.put, List.setIfInBounds_toArray, List.set_cons_zero, List.set_cons_succ, i64_w, i32_w]
       rfl
      refine take_ (i := 11) (N := some 38) (v := ?_) (a' := ?_) (fl6_ 47 16383) rfl rfl (take_ofW HT_.out HW_.out (by kernel_rfl)) (fun _ _ _ h => h) (Or.inl ⟨by rfl, ?_⟩) hHeld ?_ ?_
      rotate_left
      ·rintro w' ⟨s0, s1, s2, s3, s4, s5, s6, s7, s8, s9, s10, s11, s12, s13, s14, s15, s16, s17, s18⟩
       go_simp
       with_reducible rfl
      rotate_left
      ·simp only [Act.put, List.setIfInBounds_toArray, List.set_cons_zero, List.set_cons_succ, i64_w, i32_w]
       rfl
      refine zpu HT_ 14 41 (fl6_ 47 32767) ?_
      refine zpu HT_ 15 42 (fl6_ 47 65535) ?_
      refine take_ (i := 16) (N := some 43) (v := ?_) (a' := ?_) (fl6_ 47 131071) rfl rfl (take_ofW HT_.out HW_.out (by kernel_rfl)) (fun _ _ _ h => h) (Or.inl ⟨by rfl, ?_⟩) hHeld ?_ ?_
      rotate_left
      ·rintro w' ⟨s0, s1, s2, s3, s4, s5, s6, s7, s8, s9, s10, s11, s12, s13, s14, s15, s16, s17, s18⟩
       go_simp
       with_reducible rfl
      rotate_left
      ·simp only [Act.put, List.setIfInBounds_toArray, List.set_cons_zero, List.set_cons_succ, i64_w, i32_w]
       rfl
      refine zpu HT_ 17 44 (fl6_ 47 262143) ?_
      refine zpu HT_ 18 45 (fl6_ 47 524287) ?_
      refine zpu HT_ 19 46 (fl6_ 47 1048575) ?_
      refine zpu HT_ 20 47 (fl6_ 47 2097151) ?_
      refine zpu HT_ 21 48 (fl6_ 47 4194303) ?_
      refine take_ (i := 22) (N := some 49) (v := ?_) (a' := ?_) (fl6_ 47 8388607) rfl rfl (take_ofW HT_.out HW_.out (by kernel_rfl)) (fun _ _ _ h => h) (Or.inl ⟨by rfl, ?_⟩) hHeld ?_ ?_
      rotate_left
      ·rintro w' ⟨s0, s1, s2, s3, s4, s5, s6, s7, s8, s9, s10, s11, s12, s13, s14, s15, s16, s17, s18⟩
       go_simp
       with_reducible rfl
      rotate_left
      ·simp only [Act.put, List.setIfInBounds_toArray, List.set_cons_zero, List.set_cons_succ, i64_w, i32_w]
       rfl
      refine zpu HT_ 23 50 (fl6_ 47 16777215) ?_
      refine zpu HT_ 24 51 (fl6_ 47 33554431) ?_
      refine zpu HT_ 25 52 (fl6_ 47 67108863) ?_
      refine zpu HT_ 26 53 (fl6_ 47 134217727) ?_
      refine take_ (i := 27) (N := some 54) (v := ?_) (a' := ?_) (fl6_ 47 268435455) rfl rfl (take_ofW HT_.out HW_.out (by kernel_rfl)) (fun _ _ _ h => h) (Or.inl ⟨by rfl, ?_⟩) hHeld ?_ ?_
      rotate_left
      ·rintro w' ⟨s0, s1, s2, s3, s4, s5, s6, s7, s8, s9, s10, s11, s12, s13, s14, s15, s16, s17, s18⟩
       go_simp
       with_reducible rfl
      rotate_left
      ·simp only [Act.put, List.setIfInBounds_toArray, List.set_cons_zero, List.set_cons_succ, i64_w, i32_w]
       rfl
      refine zpu HT_ 28 55 (fl6_ 47 536870911) ?_
      refine zpu HT_ 29 56 (fl6_ 47 1073741823) ?_
      refine zpu HT_ 30 57 (fl6_ 47 2147483647) ?_
      refine zpu HT_ 31 58 (fl6_ 47 4294967295) ?_
      refine take_ (i := 32) (N := some 59) (v := ?_) (a' := ?_) (fl6_ 47 8589934591) rfl rfl (take_ofW HT_.out HW_.out (by kernel_rfl)) (fun _ _ _ h => h) (Or.inl ⟨by rfl, ?_⟩) hHeld ?_ ?_
      rotate_left
      ·rintro w' ⟨s0, s1, s2, s3, s4, s5, s6, s7, s8, s9, s10, s11, s12, s13, s14, s15, s16, s17, s18⟩
       go_simp
       with_reducible rfl
      rotate_left
      ·simp only [Act.put, List.setIfInBounds_toArray, List.set_cons_zero, List.set_cons_succ, i64_w, i32_w]
       rfl
      refine one_ (i := 33) (N := some 60) (fl6_ 47 17179869183) rfl rfl (one_of HT_.out (by kernel_rfl)) (by decide) (fun K hK => ?_)
      refine goes_ Tryd.func11 (by kernel_rfl) rfl #[.agg #[.bool ((rd_T39 l0_0 x3_2).f2.f0), .bool ((rd_T39 l0_0 x3_2).f2.f1), .bool ((rd_T39 l0_0 x3_2).f2.f2), .slice A156_5 ((rd_T39 l0_0 x3_2).f2.f3).length c156_5, .slice A156_6 ((rd_T39 l0_0 x3_2).f2.f4).length c156_6, .int .i64 ((rd_T39 l0_0 x3_2).f2.f5), .int .i64 ((rd_T39 l0_0 x3_2).f2.f6)]] (by rfl) rfl rfl zar ?_
      with_reducible refine (spec_AnalyzerOK.calls k2 ((rd_T39 l0_0 x3_2).f2.f0) ((rd_T39 l0_0 x3_2).f2.f1) ((rd_T39 l0_0 x3_2).f2.f2) _ _ ((rd_T39 l0_0 x3_2).f2.f3) _ _ ((rd_T39 l0_0 x3_2).f2.f4) ((rd_T39 l0_0 x3_2).f2.f5) ((rd_T39 l0_0 x3_2).f2.f6) true _ ?side1 ?side2 ?side3 ?side4 A28.out).mono ?_
      (case side1 => exact zC (Kd.C_below HR156_5.out (zg HB)))
      (case side2 => exact HC156_5.out)
      (case side3 => exact zC (Kd.C_below HR156_6.out (zg HB)))
      (case side4 => exact HC156_6.out)
      rintro e w38 ⟨rfl, hb⟩
      refine ⟨_, rfl, ?_⟩
      replace BK155 := Aside0.mk (blk_below (zb BK155) hb)
      replace BK157 := Aside0.mk (blk_below (zb BK157) hb)
      replace HB := Aside0.mk (below_step (zg HB) hb)
      (try clear hb)
      (try clear hb2)
      (try clear hk)
      (try clear hi)
      refine hK.out _ _ ⟨(blk_cell BK157.out 0).trans rfl, (blk_cell BK157.out 1).trans rfl, (blk_cell BK157.out 2).trans rfl, (blk_cell BK157.out 3).trans rfl, (blk_cell BK157.out 4).trans rfl, (blk_cell BK157.out 5).trans rfl, (blk_cell BK157.out 6).trans rfl, (blk_cell BK157.out 7).trans rfl, (blk_cell BK157.out 8).trans rfl, (blk_cell BK155.out 0).trans rfl, (zxx HB hw159_0), (zxx HB hw159_1), (zxx HB hw159_2), (zxx HB hw159_3), (zxx HB hw159_4), (zxx HB hw159_5), (zxx HB hw159_6), (zxx HB hw159_7), (zxx HB hw159_8)⟩ (fun hHeld => ?_)
      clear hK K
      refine norm_ (a' := ?_) ?_ ?_
      rotate_left
      ·show Act.put _ (some 60) _ = _
       simp only [Act.put, List.setIfInBounds_toArray, List.set_cons_zero, List.set_cons_succ, i64_w, i32_w]
       rfl
      refine zpu HT_ 34 61 (fl6_ 47 34359738367) ?_
      refine zpu HT_ 35 62 (fl6_ 47 68719476735) ?_
      refine zpu HT_ 36 63 (fl6_ 47 137438953471) ?_
      refine zpu HT_ 37 64 (fl6_ 47 274877906943) ?_
      refine take_ (i := 38) (N := some 65) (v := ?_) (a' := ?_) (fl6_ 47 549755813887) rfl rfl (take_ofW HT_.out HW_.out (by kernel_rfl)) (fun _ _ _ h => h) (Or.inl ⟨by rfl, ?_⟩) hHeld ?_ ?_
      rotate_left
      ·rintro w' ⟨s0, s1, s2, s3, s4, s5, s6, s7, s8, s9, s10, s11, s12, s13, s14, s15, s16, s17, s18⟩
       go_simp
       with_reducible rfl
      rotate_left
      ·simp only [Act.put, List.setIfInBounds_toArray, List.set_cons_zero, List.set_cons_succ, i64_w, i32_w]
       rfl
      refine zpu HT_ 39 66 (fl6_ 47 1099511627775) ?_
      refine zpu HT_ 40 67 (fl6_ 47 2199023255551) ?_
      refine zpu HT_ 41 68 (fl6_ 47 4398046511103) ?_
      refine take_ (i := 42) (N := some 69) (v := ?_) (a' := ?_) (fl6_ 47 8796093022207) rfl rfl (take_ofW HT_.out HW_.out (by kernel_rfl)) (fun _ _ _ h => h) (Or.inl ⟨by rfl, ?_⟩) hHeld ?_ ?_
      rotate_left
      ·rintro w' ⟨s0, s1, s2, s3, s4, s5, s6, s7, s8, s9, s10, s11, s12, s13, s14, s15, s16, s17, s18⟩
       go_simp
       with_reducible rfl
      rotate_left
      ·simp only [Act.put, List.setIfInBounds_toArray, List.set_cons_zero, List.set_cons_succ, i64_w, i32_w]
       rfl
      refine one_ (i := 43) (N := some 70) (fl6_ 47 17592186044415) rfl rfl (one_of HT_.out (by kernel_rfl)) (by decide) (fun K hK => ?_)
      refine goes_ Tryd.func12 (by kernel_rfl) rfl #[.agg #[.bool ((rd_T39 l0_0 x3_2).f2.f0), .bool ((rd_T39 l0_0 x3_2).f2.f1), .bool ((rd_T39 l0_0 x3_2).f2.f2), .slice A156_5 ((rd_T39 l0_0 x3_2).f2.f3).length c156_5, .slice A156_6 ((rd_T39 l0_0 x3_2).f2.f4).length c156_6, .int .i64 ((rd_T39 l0_0 x3_2).f2.f5), .int .i64 ((rd_T39 l0_0 x3_2).f2.f6)]] (by rfl) rfl rfl zar ?_
      with_reducible refine (spec_l06Zero.calls ((rd_T39 l0_0 x3_2).f2.f0) ((rd_T39 l0_0 x3_2).f2.f1) ((rd_T39 l0_0 x3_2).f2.f2) _ _ ((rd_T39 l0_0 x3_2).f2.f3) _ _ ((rd_T39 l0_0 x3_2).f2.f4) ((rd_T39 l0_0 x3_2).f2.f5) ((rd_T39 l0_0 x3_2).f2.f6) t161 _ ?side1 ?side2 ?side3 ?side4 A35.out).mono ?_
      (case side1 => exact zC (Kd.C_below HR156_5.out HB.out))
      (case side2 => exact HC156_5.out)
      (case side3 => exact zC (Kd.C_below HR156_6.out HB.out))
      (case side4 => exact HC156_6.out)
      rintro e w40 ⟨rfl, hb⟩
      refine ⟨_, rfl, ?_⟩
      replace BK155 := Aside0.mk (blk_below (zb BK155) hb)
      replace BK157 := Aside0.mk (blk_below (zb BK157) hb)
      replace HB := Aside0.mk (below_step (zg HB) hb)
      (try clear hb)
      (try clear hb2)
      (try clear hk)
      (try clear hi)
      refine hK.out _ _ ⟨(blk_cell BK157.out 0).trans rfl, (blk_cell BK157.out 1).trans rfl, (blk_cell BK157.out 2).trans rfl, (blk_cell BK157.out 3).trans rfl, (blk_cell BK157.out 4).trans rfl, (blk_cell BK157.out 5).trans rfl, (blk_cell BK157.out 6).trans rfl, (blk_cell BK157.out 7).trans rfl, (blk_cell BK157.out 8).trans rfl, (blk_cell BK155.out 0).trans rfl, (zxx HB hw159_0), (zxx HB hw159_1), (zxx HB hw159_2), (zxx HB hw159_3), (zxx HB hw159_4), (zxx HB hw159_5), (zxx HB hw159_6), (zxx HB hw159_7), (zxx HB hw159_8)⟩ (fun hHeld => ?_)
      clear hK K
      refine norm_ (a' := ?_) ?_ ?_
      rotate_left
      ·show Act.put _ (some 70) _ = _
       simp only [Act.put, List.setIfInBounds_toArray, List.set_cons_zero, List.set_cons_succ, i64_w, i32_w]
       rfl
      refine zpu HT_ 44 71 (fl6_ 47 35184372088831) ?_
      refine zpu HT_ 45 72 (fl6_ 47 70368744177663) ?_
      refine zpu HT_ 46 73 (fl6_ 47 140737488355327) ?_
      refine done_ (done_of HT_.out (by kernel_rfl)) ?_
      try go_wp2
      go_meet
      case rel => exact ⟨_, (!t161), zrs, H', ⟨by have := HJ1.out; have := HK2.out; first | omega | exact Nat.le_refl _⟩, ⟨zb BK155⟩, ⟨zb BK157⟩, ⟨zg HB⟩⟩
     case rest =>
      clear HC10
      obtain ⟨kq, x73_9, rfl, HA, HJ9, BK155, BK157, HB⟩ := hcut
      cases kq with
      | zero => exact absurd HA.out (by simp [spec_SchemaOK.j2])
      | succ kj9 =>
       have H := HA.out
       clear HA
       simp only [spec_SchemaOK.j2] at H
       by_cases c74 : x73_9 = true
       ·subst c74
        rw [if_pos rfl] at H
        obtain rfl := Option.some.inj H
        go_wp2
        go_ret
        exact ⟨zre, zg HB⟩
       replace c74 := Bool.eq_false_iff.mpr c74
       subst c74
       rw [if_neg (show ¬ (false = true) by decide)] at H
       have H' := Aside0.mk H
       clear H
       go_wp2
       go_roundg kj9
       case measure => have := HJ1.out; have := HK2.out; have := HJ9.out; omega
       case rel => exact ⟨(wrap64 (x3_2 + 1)), zrs, H', ⟨by have := HJ1.out; have := HK2.out; have := HJ9.out; omega⟩, ⟨zb BK155⟩, ⟨zg HB⟩⟩
end Go.Proofs.YtmbgncgcddjomaaDoor.XFnExactSchemaOK
