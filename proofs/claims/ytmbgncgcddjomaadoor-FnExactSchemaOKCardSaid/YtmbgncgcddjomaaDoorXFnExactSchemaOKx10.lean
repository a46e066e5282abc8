-- A printed text of this session (wip/x/xprint.py).
import Derived.Test.YtmbgncgcddjomaaDoorXFnExactSchemaOKx0
import Derived.Test.YtmbgncgcddjomaaDoorXFnExactSchemaOKx7
import Derived.Test.YtmbgncgcddjomaaDoorXFnExactSchemaOKx8
import Derived.Test.YtmbgncgcddjomaaDoorXFnExactSchemaOKx9
namespace Go.Proofs.YtmbgncgcddjomaaDoor.XFnExactSchemaOK
open Go.RowKit Go.Proofs.YtmbgncgcddjomaaDoorW.PrintWords Go.Proofs.YtmbgncgcddjomaaDoorW.PrintLast Go.Proofs.YtmbgncgcddjomaaDoorW.PrintMore
attribute [local go_sem] leq_str max2_int min2_int max_two min_two max_three min_three max_four min_four   -- for this text's walks alone
set_option linter.unusedVariables false
set_option linter.unusedSimpArgs false
def fl10_ (n m : Nat) : Array Bool := ((List.range n).map fun i => m.testBit i).toArray

/-! ### impl_SchemaOK: function 7 -/
mutual
def impl_SchemaOK.j0 : Nat → Bool → List (S39) → Option (Bool)
 | 0, _, _ => none
 | k + 1, x14, x239000 => if x14 = true then (some false) else (impl_SchemaOK.l0 k x239000 (x239000.length : Int) 0 x239000)
def impl_SchemaOK.l0 : Nat → List (S39) → Int → Int → List (S39) → Option (Bool)
 | 0, _, _, _, _ => none
 | k + 1, x16, x17, x18, x239000 => if x18 < x17 then (if 0 ≤ x18 then (if x18 < (x16.length : Int) then ((impl_nameOK.f k ((rd_T39 x16 x18).f0)).bind fun t241 => (if t241 = true then (if x18 > 0 then (if 0 ≤ (wrap64 (x18 - 1)) then (if (wrap64 (x18 - 1)) < (x239000.length : Int) then (if ((Op.bytesLess (((rd_T39 x239000 (wrap64 (x18 - 1))).f0).toList) (((rd_T39 x16 x18).f0).toList)) = true) then ((impl_within.f ((rd_T39 x16 x18).f1) 1 3).bind fun t243 => (if t243 = true then ((impl_AnalyzerOK.f k ((rd_T39 x16 x18).f2.f0) ((rd_T39 x16 x18).f2.f1) ((rd_T39 x16 x18).f2.f2) ((rd_T39 x16 x18).f2.f3) ((rd_T39 x16 x18).f2.f4) ((rd_T39 x16 x18).f2.f5) ((rd_T39 x16 x18).f2.f6)).bind fun t244 => (if t244 = true then (if ((rd_T39 x16 x18).f1) = 1 then (impl_SchemaOK.j2 k x16 x17 x18 false x239000) else ((impl_zeroAnalyzer.f ((rd_T39 x16 x18).f2.f0) ((rd_T39 x16 x18).f2.f1) ((rd_T39 x16 x18).f2.f2) ((rd_T39 x16 x18).f2.f3) ((rd_T39 x16 x18).f2.f4) ((rd_T39 x16 x18).f2.f5) ((rd_T39 x16 x18).f2.f6)).bind fun t245 => (impl_SchemaOK.j2 k x16 x17 x18 (!t245) x239000))) else (impl_SchemaOK.j2 k x16 x17 x18 true x239000))) else (impl_SchemaOK.j2 k x16 x17 x18 true x239000))) else (impl_SchemaOK.j2 k x16 x17 x18 true x239000)) else (none)) else (none)) else ((impl_within.f ((rd_T39 x16 x18).f1) 1 3).bind fun t246 => (if t246 = true then ((impl_AnalyzerOK.f k ((rd_T39 x16 x18).f2.f0) ((rd_T39 x16 x18).f2.f1) ((rd_T39 x16 x18).f2.f2) ((rd_T39 x16 x18).f2.f3) ((rd_T39 x16 x18).f2.f4) ((rd_T39 x16 x18).f2.f5) ((rd_T39 x16 x18).f2.f6)).bind fun t247 => (if t247 = true then (if ((rd_T39 x16 x18).f1) = 1 then (impl_SchemaOK.j2 k x16 x17 x18 false x239000) else ((impl_zeroAnalyzer.f ((rd_T39 x16 x18).f2.f0) ((rd_T39 x16 x18).f2.f1) ((rd_T39 x16 x18).f2.f2) ((rd_T39 x16 x18).f2.f3) ((rd_T39 x16 x18).f2.f4) ((rd_T39 x16 x18).f2.f5) ((rd_T39 x16 x18).f2.f6)).bind fun t248 => (impl_SchemaOK.j2 k x16 x17 x18 (!t248) x239000))) else (impl_SchemaOK.j2 k x16 x17 x18 true x239000))) else (impl_SchemaOK.j2 k x16 x17 x18 true x239000)))) else (impl_SchemaOK.j2 k x16 x17 x18 true x239000))) else (none)) else (none)) else (some true)
def impl_SchemaOK.j2 : Nat → List (S39) → Int → Int → Bool → List (S39) → Option (Bool)
 | 0, _, _, _, _, _ => none
 | k + 1, x16, x17, x18, x65, x239000 => if x65 = true then (some false) else (impl_SchemaOK.l0 k x16 x17 (wrap64 (x18 + 1)) x239000)
end
def impl_SchemaOK.f (k : Nat) (l0_0 : List (S39)) : Option (Bool) := if (l0_0.length : Int) < 1 then (impl_SchemaOK.j0 k true l0_0) else (impl_SchemaOK.j0 k (decide ((l0_0.length : Int) > 16)) l0_0)
theorem impl_SchemaOK.mono_l : ∀ k, (∀ y0 y1, LeO (impl_SchemaOK.j0 k y0 y1) (impl_SchemaOK.j0 (k + 1) y0 y1)) ∧ (∀ y0 y1 y2 y3, LeO (impl_SchemaOK.l0 k y0 y1 y2 y3) (impl_SchemaOK.l0 (k + 1) y0 y1 y2 y3)) ∧ (∀ y0 y1 y2 y3 y4, LeO (impl_SchemaOK.j2 k y0 y1 y2 y3 y4) (impl_SchemaOK.j2 (k + 1) y0 y1 y2 y3 y4))
 | 0 => ⟨fun _ _ r h => by simp [impl_SchemaOK.j0] at h, fun _ _ _ _ r h => by simp [impl_SchemaOK.l0] at h, fun _ _ _ _ _ r h => by simp [impl_SchemaOK.j2] at h⟩
 | k + 1 => by
  obtain ⟨ih0, ih1, ih2⟩ := impl_SchemaOK.mono_l k
  refine ⟨?_, ?_, ?_⟩
  all_goals intros
  all_goals first | unfold impl_SchemaOK.j0 | unfold impl_SchemaOK.l0 | unfold impl_SchemaOK.j2
  all_goals
   repeat' first
   | (with_reducible exact ih0 _ _)
   | (with_reducible exact ih1 _ _ _ _)
   | (with_reducible exact ih2 _ _ _ _ _)
   | (with_reducible exact impl_AnalyzerOK.mono _ _ _ _ _ _ _ _)
   | (with_reducible exact impl_nameOK.mono _ _)
   | (with_reducible exact LeO.refl _)
   | (with_reducible exact LeO.none _)
   | (with_reducible refine LeO.ite ?_ ?_)
   | (with_reducible refine LeO.bind ?_ (fun _ => ?_))
theorem impl_SchemaOK.mono : ∀ a0 k, LeO (impl_SchemaOK.f k a0) (impl_SchemaOK.f (k + 1) a0) := by
 intro a0 k
 obtain ⟨ih0, ih1, ih2⟩ := impl_SchemaOK.mono_l k
 unfold impl_SchemaOK.f
 repeat' first
  | (with_reducible exact ih0 _ _)
  | (with_reducible exact ih1 _ _ _ _)
  | (with_reducible exact ih2 _ _ _ _ _)
  | (with_reducible exact impl_AnalyzerOK.mono _ _ _ _ _ _ _ _)
  | (with_reducible exact impl_nameOK.mono _ _)
  | (with_reducible exact LeO.refl _)
  | (with_reducible exact LeO.none _)
  | (with_reducible refine LeO.ite ?_ ?_)
  | (with_reducible refine LeO.bind ?_ (fun _ => ?_))
def impl_SchemaOK.T6 : Bool × List (List Nat × List Nat) := (true, [([], []), ([0], [0]), ([1], [1]), ([2], [2]), ([3, 2], [3]), ([4], [4]), ([5, 4], [4, 5]), ([6, 4, 4], [4, 6]), ([7], [7]), ([8, 7], [7, 8]), ([7], [7]), ([10, 7], [7, 10]), ([7], [7]), ([12, 7], [7, 12]), ([11, 13, 7], [7, 11, 13]), ([14, 7], [7, 14]), ([15, 7], [7, 15]), ([9, 16, 7], [7, 9, 16]), ([7, 17, 4], [4, 7, 17]), ([4, 18], [4, 18]), ([19, 7], [19]), ([20], [20]), ([21, 20], [20, 21]), ([22, 20, 20], [20, 22]), ([23, 20], [20, 23]), ([20, 24], [20, 24]), ([25, 23], [25]), ([26], [26]), ([27, 26], [26, 27]), ([28, 26, 26], [26, 28]), ([29, 26], [26, 29]), ([26, 30], [26, 30]), ([31, 29], [31]), ([32], [32]), ([33, 32], [32, 33]), ([34, 32], [32, 34]), ([35, 32, 32], [32, 35]), ([36], [36]), ([37, 36], [36, 37]), ([38, 36, 36], [36, 38]), ([39, 36], [36, 39]), ([36, 40, 32], [32, 36, 40]), ([32, 41], [32, 41])])
def impl_SchemaOK.B6 : List Nat := [0, 1, 3, 7, 15, 31, 63, 127, 255, 511, 255, 1279, 255, 4351, 15615, 31999, 64767, 131071, 262143, 524287, 1048575, 2097151, 4194303, 8388607, 16777215, 33554431, 67108863, 134217727, 268435455, 536870911, 1073741823, 2147483647, 4294967295, 8589934591, 17179869183, 34359738367, 68719476735, 137438953471, 274877906943, 549755813887, 1099511627775, 2199023255551, 4398046511103]
theorem impl_SchemaOK.tab6 : rtab .any (opsOf Tryd.f7 6) = impl_SchemaOK.T6 := by kernel_rfl
theorem impl_SchemaOK.bits6 : waitsOk impl_SchemaOK.T6.2 impl_SchemaOK.B6 = true := by kernel_rfl
set_option maxHeartbeats 60000000 in
set_option maxRecDepth 100000 in
theorem impl_SchemaOK.calls (k : Nat) (A0_0 : Option Addr) (c0_0 : Nat) (l0_0 : List (S39)) (r : Bool) (w : World) (hr0_0 : Kd.C k39 w A0_0 l0_0.length l0_0) (hc0_0 : l0_0.length ≤ c0_0) (hT : TabW w) (h : impl_SchemaOK.f k l0_0 = some r) :
 Calls Tryd.prog 7 #[.agg #[.slice A0_0 l0_0.length c0_0]] w fun e w' => e = .returned (.bool r) ∧ Below w.heap.size w w' := by
 have hu29 := Tryd.underlying29
 have hu39 := Tryd.underlying39
 have hu37 := Tryd.underlying37
 have HR0_0 := Aside0.mk hr0_0
 have HC0_0 := Aside0.mk hc0_0
 clear hr0_0 hc0_0
 have HB := Aside0.mk (Below.refl w.heap.size w)
 have HT := Aside0.mk hT
 clear hT
 have H := h
 unfold impl_SchemaOK.f at H
 clear h
 have HC2 := Aside0.mk H
 clear H
 go_enter Tryd.func7, Tryd.ntmps7
 go_upto_region 1 with (first | ((with_reducible refine gate_dst (N := 1) rfl ?_); (try (refine gate_guard (by rfl) ?_; dsimp only)); refine box_event (by rfl) (N := 1) (by rfl) (cs := #[.slice A0_0 l0_0.length c0_0]) (t := 29) zgs ?_; intro gb238 hg w3 hbox hb; have BK238 := Aside0.mk (hbox); have GW238 := zge hg (below_size (zh HB)); have GE238 := zge hg (below_size (zh HB)); replace HB := Aside0.mk (below_step (zh HB) hb); clear hb hbox hg))
 (try simp only [Act.put, List.setIfInBounds_toArray, List.set_cons_zero, List.set_cons_succ])
 go_cut [14] (fun v14 wc => ∃ (kq : Nat) (x14_1 : Bool), v14 = .bool x14_1 ∧ Aside0 (impl_SchemaOK.j0 kq x14_1 l0_0 = some r) ∧ Aside0 (kq ≤ k) ∧ Aside0 (wc.heap[gb238]? = some (.cells #[(.slice A0_0 l0_0.length c0_0)] 29 (0, 0))) ∧ Aside0 (Below w.heap.size w wc))
 case first =>
  have H := HC2.out
  clear HC2
  by_cases c4 : (l0_0.length : Int) < 1
  ·rw [if_pos c4] at H
   have c4b0 : decide ((l0_0.length : Int) < 1) = true := decide_eq_true c4
   have c4b1 : decide (l0_0.length < 1) = true := decide_eq_true (by omega)
   clear c4
   (first | rw [c4b0] | (simp only [i64_w, i32_w]; rw [c4b0]) | skip)
   have H' := Aside0.mk H
   clear H
   obtain ⟨hcz5_0, hfz5_0⟩ := zc1 BK238
   go_wp2
   go_meet
   case rel => exact ⟨_, (true), zrs, H', ⟨by first | omega | exact Nat.le_refl _⟩, ⟨zb BK238⟩, ⟨zg HB⟩⟩
  rw [if_neg c4] at H
  have c4b0 : decide ((l0_0.length : Int) < 1) = false := decide_eq_false c4
  have c4b1 : decide (l0_0.length < 1) = false := decide_eq_false (by omega)
  clear c4
  (first | rw [c4b0] | (simp only [i64_w, i32_w]; rw [c4b0]) | skip)
  have H' := Aside0.mk H
  clear H
  obtain ⟨hcz6_0, hfz6_0⟩ := zc1 BK238
  go_wp2
  go_meet
  case rel => exact ⟨_, (decide ((l0_0.length : Int) > 16)), zrs, H', ⟨by first | omega | exact Nat.le_refl _⟩, ⟨zb BK238⟩, ⟨zg HB⟩⟩
 case rest =>
  clear HC2
  obtain ⟨kq, x14_1, rfl, HA, HJ1, BK238, HB⟩ := hcut
  cases kq with
  | zero => exact absurd HA.out (by simp [impl_SchemaOK.j0])
  | succ kj1 =>
   have H := HA.out
   clear HA
   simp only [impl_SchemaOK.j0] at H
   by_cases c7 : x14_1 = true
   ·subst c7
    rw [if_pos rfl] at H
    obtain rfl := Option.some.inj H
    go_wp2
    go_ret
    exact ⟨zre, zg HB⟩
   replace c7 := Bool.eq_false_iff.mpr c7
   subst c7
   rw [if_neg (show ¬ (false = true) by decide)] at H
   have H' := Aside0.mk H
   clear H
   obtain ⟨hcz8_0, hfz8_0⟩ := zc1 BK238
   go_wp2
   go_loopg [18] kj1 (fun kq v18 w' => ∃ (x18_2 : Int), v18 = .int .i64 x18_2 ∧ Aside0 (impl_SchemaOK.l0 kq l0_0 (l0_0.length : Int) x18_2 l0_0 = some r) ∧ Aside0 (kq ≤ kj1) ∧ Aside0 (w'.heap[gb238]? = some (.cells #[(.slice A0_0 l0_0.length c0_0)] 29 (0, 0))) ∧ Aside0 (Below w.heap.size w w'))
   case atStart => exact ⟨(0), zrs, H', ⟨Nat.le_refl _⟩, ⟨zb BK238⟩, ⟨zg HB⟩⟩
   case round =>
    clear H'
    try clear c7
    try clear hcz8_0
    try clear hfz8_0
    obtain ⟨x18_2, rfl, HA, HK2, BK238, HB⟩ := hrel
    cases gk with
    | zero => exact absurd HA.out (by simp [impl_SchemaOK.l0])
    | succ k2 =>
     have H := HA.out
     clear HA
     simp only [impl_SchemaOK.l0] at H
     by_cases c9 : x18_2 < (l0_0.length : Int)
     rotate_left
     ·rw [if_neg c9] at H
      have c9b0 : decide (x18_2 < (l0_0.length : Int)) = false := decide_eq_false c9
      clear c9
      obtain rfl := Option.some.inj H
      go_wp2
      go_ret
      exact ⟨zre, zg HB⟩

     rw [if_pos c9] at H
     have c9b0 : decide (x18_2 < (l0_0.length : Int)) = true := decide_eq_true c9
     clear c9
     by_cases c10 : 0 ≤ x18_2
     rotate_left
     ·rw [if_neg c10] at H
      exact absurd H (by simp)
     rw [if_pos c10] at H
     have c10b0 : decide (0 ≤ x18_2) = true := decide_eq_true c10
     clear c10
     by_cases c11 : x18_2 < (l0_0.length : Int)
     rotate_left
     ·rw [if_neg c11] at H
      exact absurd H (by simp)
     rw [if_pos c11] at H
     have c11b0 : decide (x18_2 < (l0_0.length : Int)) = true := decide_eq_true c11
     clear c11
     have HC12 := Aside0.mk H
     clear H
     have p239 : 0 ≤ (x18_2 : Int) := of_decide_eq_true zas
     have q239 : x18_2 < (l0_0.length : Int) := of_decide_eq_true zas
     obtain ⟨ad239, A239_5, c239_5, A239_6, c239_6, e239, hx239_0, hx239_1, hx239_2, hx239_3, hx239_4, hx239_5, hx239_6, hx239_7, hx239_8, hl239_5, hi239_5, hl239_6, hi239_6⟩ := at_T39 HR0_0.out x18_2 p239 q239
     cases e239
     replace hx239_0 := zx HB hx239_0
     replace hx239_1 := zx HB hx239_1
     replace hx239_2 := zx HB hx239_2
     replace hx239_3 := zx HB hx239_3
     replace hx239_4 := zx HB hx239_4
     replace hx239_5 := zx HB hx239_5
     replace hx239_6 := zx HB hx239_6
     replace hx239_7 := zx HB hx239_7
     replace hx239_8 := zx HB hx239_8
     have HR239_5 := Aside0.mk hi239_5
     have HC239_5 := Aside0.mk hl239_5
     clear hi239_5 hl239_5
     have HR239_6 := Aside0.mk hi239_6
     have HC239_6 := Aside0.mk hl239_6
     clear hi239_6 hl239_6
     replace p239 := eq_true p239
     replace q239 := eq_true q239
     go_upto_region 6 with (first | ((with_reducible refine gate_dst (N := 4) rfl ?_); (try (refine gate_guard (by rfl) ?_; dsimp only)); refine box_event (by rfl) (N := 4) (by rfl) (cs := #[.string (⟨#[]⟩ : ByteArray), .int .i64 0, .bool false, .bool false, .bool false, .slice none 0 0, .slice none 0 0, .int .i64 0, .int .i64 0]) (t := 39) zgs ?_; intro gb240 hg w13 hbox hb; have BK240 := Aside0.mk (hbox); have GW240 := zge hg (below_size (zg HB)); have GE240 := zge hg (below_size (zg HB)); replace HB := Aside0.mk (below_step (zg HB) hb); have NB238_240 := znl hg (blk_lt (zb BK238)); have NB240_238 := zng hg (blk_lt (zb BK238)); replace BK238 := Aside0.mk (blk_below (zb BK238) hb); clear hb hbox hg; have hnb14 := NB240_238.out; have hnc14 := NB238_240.out; have hcz15_0 : w13.cell? ⟨gb240, 0, none⟩ = some (.string (⟨#[]⟩ : ByteArray)) := (blk_cell BK240.out 0).trans rfl; have hcz15_1 : w13.cell? ⟨gb240, 1, none⟩ = some (.int .i64 0) := (blk_cell BK240.out 1).trans rfl; have hcz15_2 : w13.cell? ⟨gb240, 2, none⟩ = some (.bool false) := (blk_cell BK240.out 2).trans rfl; have hcz15_3 : w13.cell? ⟨gb240, 3, none⟩ = some (.bool false) := (blk_cell BK240.out 3).trans rfl; have hcz15_4 : w13.cell? ⟨gb240, 4, none⟩ = some (.bool false) := (blk_cell BK240.out 4).trans rfl; have hcz15_5 : w13.cell? ⟨gb240, 5, none⟩ = some (.slice none 0 0) := (blk_cell BK240.out 5).trans rfl; have hcz15_6 : w13.cell? ⟨gb240, 6, none⟩ = some (.slice none 0 0) := (blk_cell BK240.out 6).trans rfl; have hcz15_7 : w13.cell? ⟨gb240, 7, none⟩ = some (.int .i64 0) := (blk_cell BK240.out 7).trans rfl; have hcz15_8 : w13.cell? ⟨gb240, 8, none⟩ = some (.int .i64 0) := (blk_cell BK240.out 8).trans rfl; have hfz15_0 := blk_frozen BK240.out 0; have hfz15_1 := blk_frozen BK240.out 1; have hfz15_2 := blk_frozen BK240.out 2; have hfz15_3 := blk_frozen BK240.out 3; have hfz15_4 := blk_frozen BK240.out 4; have hfz15_5 := blk_frozen BK240.out 5; have hfz15_6 := blk_frozen BK240.out 6; have hfz15_7 := blk_frozen BK240.out 7; have hfz15_8 := blk_frozen BK240.out 8))
     (try simp only [Act.put, List.setIfInBounds_toArray, List.set_cons_zero, List.set_cons_succ])
     go_cut [65] (fun v65 wc => ∃ (kq : Nat) (x65_11 : Bool), v65 = .bool x65_11 ∧ Aside0 (impl_SchemaOK.j2 kq l0_0 (l0_0.length : Int) x18_2 x65_11 l0_0 = some r) ∧ Aside0 (kq ≤ k2) ∧ Aside0 (wc.heap[gb238]? = some (.cells #[(.slice (some ad239) l0_0.length c0_0)] 29 (0, 0))) ∧ Aside0 (wc.heap[gb240]? = some (.cells #[.string ((rd_T39 l0_0 x18_2).f0), .int .i64 ((rd_T39 l0_0 x18_2).f1), .bool ((rd_T39 l0_0 x18_2).f2.f0), .bool ((rd_T39 l0_0 x18_2).f2.f1), .bool ((rd_T39 l0_0 x18_2).f2.f2), (.slice A239_5 ((rd_T39 l0_0 x18_2).f2.f3).length c239_5), (.slice A239_6 ((rd_T39 l0_0 x18_2).f2.f4).length c239_6), .int .i64 ((rd_T39 l0_0 x18_2).f2.f5), .int .i64 ((rd_T39 l0_0 x18_2).f2.f6)] 39 (0, 0))) ∧ Aside0 (Below w.heap.size w wc))
     case first =>
      have H := HC12.out
      clear HC12
      replace H := Option.bind_eq_some_iff.mp H
      obtain ⟨t241, A160, H⟩ := H
      try dsimp only at H
      have A16 := Aside0.mk A160
      clear A160
      by_cases c17 : t241 = true
      rotate_left
      ·replace c17 := Bool.eq_false_iff.mpr c17
       subst c17
       rw [if_neg (show ¬ (false = true) by decide)] at H
       have H' := Aside0.mk H
       clear H
       try go_wp2
       have n0_ : Aside0 ((((((((((w13.setCell ⟨gb240, 0, none⟩ (.string ((rd_T39 l0_0 x18_2).f0))).setCell ⟨gb240, 1, none⟩ (.int .i64 ((rd_T39 l0_0 x18_2).f1))).setCell ⟨gb240, 2, none⟩ (.bool ((rd_T39 l0_0 x18_2).f2.f0))).setCell ⟨gb240, 3, none⟩ (.bool ((rd_T39 l0_0 x18_2).f2.f1))).setCell ⟨gb240, 4, none⟩ (.bool ((rd_T39 l0_0 x18_2).f2.f2))).setCell ⟨gb240, 5, none⟩ (.slice A239_5 ((rd_T39 l0_0 x18_2).f2.f3).length c239_5)).setCell ⟨gb240, 6, none⟩ (.slice A239_6 ((rd_T39 l0_0 x18_2).f2.f4).length c239_6)).setCell ⟨gb240, 7, none⟩ (.int .i64 ((rd_T39 l0_0 x18_2).f2.f5))).setCell ⟨gb240, 8, none⟩ (.int .i64 ((rd_T39 l0_0 x18_2).f2.f6))).heap[gb238]? = some (.cells #[.slice (some ad239) l0_0.length c0_0] 29 (0, 0))) := ⟨zp BK238⟩
       have n1_ : Aside0 ((((((((((w13.setCell ⟨gb240, 0, none⟩ (.string ((rd_T39 l0_0 x18_2).f0))).setCell ⟨gb240, 1, none⟩ (.int .i64 ((rd_T39 l0_0 x18_2).f1))).setCell ⟨gb240, 2, none⟩ (.bool ((rd_T39 l0_0 x18_2).f2.f0))).setCell ⟨gb240, 3, none⟩ (.bool ((rd_T39 l0_0 x18_2).f2.f1))).setCell ⟨gb240, 4, none⟩ (.bool ((rd_T39 l0_0 x18_2).f2.f2))).setCell ⟨gb240, 5, none⟩ (.slice A239_5 ((rd_T39 l0_0 x18_2).f2.f3).length c239_5)).setCell ⟨gb240, 6, none⟩ (.slice A239_6 ((rd_T39 l0_0 x18_2).f2.f4).length c239_6)).setCell ⟨gb240, 7, none⟩ (.int .i64 ((rd_T39 l0_0 x18_2).f2.f5))).setCell ⟨gb240, 8, none⟩ (.int .i64 ((rd_T39 l0_0 x18_2).f2.f6))).heap[gb240]? = some (.cells #[.string ((rd_T39 l0_0 x18_2).f0), .int .i64 ((rd_T39 l0_0 x18_2).f1), .bool ((rd_T39 l0_0 x18_2).f2.f0), .bool ((rd_T39 l0_0 x18_2).f2.f1), .bool ((rd_T39 l0_0 x18_2).f2.f2), .slice A239_5 ((rd_T39 l0_0 x18_2).f2.f3).length c239_5, .slice A239_6 ((rd_T39 l0_0 x18_2).f2.f4).length c239_6, .int .i64 ((rd_T39 l0_0 x18_2).f2.f5), .int .i64 ((rd_T39 l0_0 x18_2).f2.f6)] 39 (0, 0))) := ⟨zp BK240⟩
       have n2_ : Aside0 (Below w.heap.size w (((((((((w13.setCell ⟨gb240, 0, none⟩ (.string ((rd_T39 l0_0 x18_2).f0))).setCell ⟨gb240, 1, none⟩ (.int .i64 ((rd_T39 l0_0 x18_2).f1))).setCell ⟨gb240, 2, none⟩ (.bool ((rd_T39 l0_0 x18_2).f2.f0))).setCell ⟨gb240, 3, none⟩ (.bool ((rd_T39 l0_0 x18_2).f2.f1))).setCell ⟨gb240, 4, none⟩ (.bool ((rd_T39 l0_0 x18_2).f2.f2))).setCell ⟨gb240, 5, none⟩ (.slice A239_5 ((rd_T39 l0_0 x18_2).f2.f3).length c239_5)).setCell ⟨gb240, 6, none⟩ (.slice A239_6 ((rd_T39 l0_0 x18_2).f2.f4).length c239_6)).setCell ⟨gb240, 7, none⟩ (.int .i64 ((rd_T39 l0_0 x18_2).f2.f5))).setCell ⟨gb240, 8, none⟩ (.int .i64 ((rd_T39 l0_0 x18_2).f2.f6)))) := ⟨zg HB⟩
       (try clear BK238)
       (try clear BK240)
       (try clear HB)
       generalize (((((((((w13.setCell ⟨gb240, 0, none⟩ (.string ((rd_T39 l0_0 x18_2).f0))).setCell ⟨gb240, 1, none⟩ (.int .i64 ((rd_T39 l0_0 x18_2).f1))).setCell ⟨gb240, 2, none⟩ (.bool ((rd_T39 l0_0 x18_2).f2.f0))).setCell ⟨gb240, 3, none⟩ (.bool ((rd_T39 l0_0 x18_2).f2.f1))).setCell ⟨gb240, 4, none⟩ (.bool ((rd_T39 l0_0 x18_2).f2.f2))).setCell ⟨gb240, 5, none⟩ (.slice A239_5 ((rd_T39 l0_0 x18_2).f2.f3).length c239_5)).setCell ⟨gb240, 6, none⟩ (.slice A239_6 ((rd_T39 l0_0 x18_2).f2.f4).length c239_6)).setCell ⟨gb240, 7, none⟩ (.int .i64 ((rd_T39 l0_0 x18_2).f2.f5))).setCell ⟨gb240, 8, none⟩ (.int .i64 ((rd_T39 l0_0 x18_2).f2.f6))) = w87 at n0_ n1_ n2_ ⊢
       have BK238 := n0_
       have BK240 := n1_
       have HB := n2_
       clear n0_ n1_ n2_
       replace BK238 := Aside0.mk (blk_drew BK238.out)
       replace BK240 := Aside0.mk (blk_drew BK240.out)
       replace HB := Aside0.mk (below_drew1 HB.out)
       refine start_ (n := 43) (S := fun w' => w'.cell? ⟨gb240, 0, none⟩ = some (.string ((rd_T39 l0_0 x18_2).f0)) ∧ w'.cell? ⟨gb240, 1, none⟩ = some (.int .i64 ((rd_T39 l0_0 x18_2).f1)) ∧ w'.cell? ⟨gb240, 2, none⟩ = some (.bool ((rd_T39 l0_0 x18_2).f2.f0)) ∧ w'.cell? ⟨gb240, 3, none⟩ = some (.bool ((rd_T39 l0_0 x18_2).f2.f1)) ∧ w'.cell? ⟨gb240, 4, none⟩ = some (.bool ((rd_T39 l0_0 x18_2).f2.f2)) ∧ w'.cell? ⟨gb240, 5, none⟩ = some (.slice A239_5 ((rd_T39 l0_0 x18_2).f2.f3).length c239_5) ∧ w'.cell? ⟨gb240, 6, none⟩ = some (.slice A239_6 ((rd_T39 l0_0 x18_2).f2.f4).length c239_6) ∧ w'.cell? ⟨gb240, 7, none⟩ = some (.int .i64 ((rd_T39 l0_0 x18_2).f2.f5)) ∧ w'.cell? ⟨gb240, 8, none⟩ = some (.int .i64 ((rd_T39 l0_0 x18_2).f2.f6))) (ds := []) (fl10_ 43 0) (by kernel_rfl) rfl rfl ⟨(blk_cell BK240.out 0).trans rfl, (blk_cell BK240.out 1).trans rfl, (blk_cell BK240.out 2).trans rfl, (blk_cell BK240.out 3).trans rfl, (blk_cell BK240.out 4).trans rfl, (blk_cell BK240.out 5).trans rfl, (blk_cell BK240.out 6).trans rfl, (blk_cell BK240.out 7).trans rfl, (blk_cell BK240.out 8).trans rfl⟩ (fun hHeld => ?_); refine with_tabW impl_SchemaOK.tab6 impl_SchemaOK.bits6 (fun HT_ HW_ => ?_)
       generalize w87.drew = w88 at BK238 BK240 HB hHeld ⊢
       refine zpu HT_ 0 23 (fl10_ 43 1) ?_
       refine take_ (i := 1) (N := some 24) (v := ?_) (a' := ?_) (fl10_ 43 3) rfl rfl (take_ofW HT_.out HW_.out (by kernel_rfl)) (fun _ _ _ h => h) (Or.inl ⟨by rfl, ?_⟩) hHeld ?_ ?_
       rotate_left
       ·rintro w' ⟨s0, s1, s2, s3, s4, s5, s6, s7, s8⟩
        go_simp
        with_reducible rfl
       rotate_left
       ·simp only [Act.put, List.setIfInBounds_toArray, List.set_cons_zero, List.set_cons_succ, i64_w, i32_w]
        rfl
       refine one_ (i := 2) (N := some 25) (fl10_ 43 7) rfl rfl (one_of HT_.out (by kernel_rfl)) (by decide) (fun K hK => ?_)
       refine goes_ Tryd.func14 (by kernel_rfl) rfl #[.string ((rd_T39 l0_0 x18_2).f0)] (by rfl) rfl rfl zar ?_
       with_reducible refine (impl_nameOK.calls k2 ((rd_T39 l0_0 x18_2).f0) false _ A16.out).mono ?_
       rintro e w89 ⟨rfl, hb⟩
       refine ⟨_, rfl, ?_⟩
       replace BK238 := Aside0.mk (blk_below (zb BK238) hb)
       replace BK240 := Aside0.mk (blk_below (zb BK240) hb)
       replace HB := Aside0.mk (below_step (zg HB) hb)
       (try clear hb)
       (try clear hb2)
       (try clear hk)
       (try clear hi)
       refine hK.out _ _ ⟨(blk_cell BK240.out 0).trans rfl, (blk_cell BK240.out 1).trans rfl, (blk_cell BK240.out 2).trans rfl, (blk_cell BK240.out 3).trans rfl, (blk_cell BK240.out 4).trans rfl, (blk_cell BK240.out 5).trans rfl, (blk_cell BK240.out 6).trans rfl, (blk_cell BK240.out 7).trans rfl, (blk_cell BK240.out 8).trans rfl⟩ (fun hHeld => ?_)
       clear hK K
       refine norm_ (a' := ?_) ?_ ?_
       rotate_left
       ·show Act.put _ (some 25) _ = _
        simp only [Act.put, List.setIfInBounds_toArray, List.set_cons_zero, List.set_cons_succ, i64_w, i32_w]
        rfl
       refine zpu HT_ 3 26 (fl10_ 43 15) ?_
       refine zpu HT_ 4 27 (fl10_ 43 31) ?_
       refine pure_ (i := 5) (N := some 28) (v := undef) (a' := ?_) (fl10_ 43 63) rfl rfl (any_of HT_.out (by kernel_rfl)) (fun _ _ _ h => h) (Or.inr ⟨by rfl, rfl⟩) ?_ ?_
       rotate_left
       ·simp only [Act.put, List.setIfInBounds_toArray, List.set_cons_zero, List.set_cons_succ, i64_w, i32_w]
        rfl
       refine pure_ (i := 6) (N := some 29) (v := undef) (a' := ?_) (fl10_ 43 127) rfl rfl (any_of HT_.out (by kernel_rfl)) (fun _ _ _ h => h) (Or.inr ⟨by rfl, rfl⟩) ?_ ?_
       rotate_left
       ·simp only [Act.put, List.setIfInBounds_toArray, List.set_cons_zero, List.set_cons_succ, i64_w, i32_w]
        rfl
       refine pure_ (i := 7) (N := some 30) (v := undef) (a' := ?_) (fl10_ 43 255) rfl rfl (any_of HT_.out (by kernel_rfl)) (fun _ _ _ h => h) (Or.inr ⟨by rfl, rfl⟩) ?_ ?_
       rotate_left
       ·simp only [Act.put, List.setIfInBounds_toArray, List.set_cons_zero, List.set_cons_succ, i64_w, i32_w]
        rfl
       refine pure_ (i := 8) (N := some 31) (v := undef) (a' := ?_) (fl10_ 43 511) rfl rfl (any_of HT_.out (by kernel_rfl)) (fun _ _ _ h => h) (Or.inr ⟨by rfl, rfl⟩) ?_ ?_
       rotate_left
       ·simp only [Act.put, List.setIfInBounds_toArray, List.set_cons_zero, List.set_cons_succ, i64_w, i32_w]
        rfl
       refine pure_ (i := 9) (N := some 32) (v := undef) (a' := ?_) (fl10_ 43 1023) rfl rfl (any_of HT_.out (by kernel_rfl)) (fun _ _ _ h => h) (Or.inr ⟨by rfl, rfl⟩) ?_ ?_
       rotate_left
       ·simp only [Act.put, List.setIfInBounds_toArray, List.set_cons_zero, List.set_cons_succ, i64_w, i32_w]
        rfl
       refine pure_ (i := 10) (N := some 33) (v := undef) (a' := ?_) (fl10_ 43 2047) rfl rfl (any_of HT_.out (by kernel_rfl)) (fun _ _ _ h => h) (Or.inr ⟨by rfl, rfl⟩) ?_ ?_
       rotate_left
       ·simp only [Act.put, List.setIfInBounds_toArray, List.set_cons_zero, List.set_cons_succ, i64_w, i32_w]
        rfl
       refine pure_ (i := 11) (N := some 34) (v := undef) (a' := ?_) (fl10_ 43 4095) rfl rfl (any_of HT_.out (by kernel_rfl)) (fun _ _ _ h => h) (Or.inr ⟨by rfl, rfl⟩) ?_ ?_
       rotate_left
       ·simp only [Act.put, List.setIfInBounds_toArray, List.set_cons_zero, List.set_cons_succ, i64_w, i32_w]
        rfl
       refine pure_ (i := 12) (N := some 35) (v := undef) (a' := ?_) (fl10_ 43 8191) rfl rfl (any_of HT_.out (by kernel_rfl)) (fun _ _ _ h => h) (Or.inr ⟨by rfl, rfl⟩) ?_ ?_
       rotate_left
       ·simp only [Act.put, List.setIfInBounds_toArray, List.set_cons_zero, List.set_cons_succ, i64_w, i32_w]
        rfl
       refine pure_ (i := 13) (N := some 36) (v := undef) (a' := ?_) (fl10_ 43 16383) rfl rfl (any_of HT_.out (by kernel_rfl)) (fun _ _ _ h => h) (Or.inr ⟨by rfl, rfl⟩) ?_ ?_
       rotate_left
       ·simp only [Act.put, List.setIfInBounds_toArray, List.set_cons_zero, List.set_cons_succ, i64_w, i32_w]
        rfl
       refine pure_ (i := 14) (N := some 37) (v := undef) (a' := ?_) (fl10_ 43 32767) rfl rfl (any_of HT_.out (by kernel_rfl)) (fun _ _ _ h => h) (Or.inr ⟨by rfl, rfl⟩) ?_ ?_
       rotate_left
       ·simp only [Act.put, List.setIfInBounds_toArray, List.set_cons_zero, List.set_cons_succ, i64_w, i32_w]
        rfl
       refine pure_ (i := 15) (N := some 38) (v := undef) (a' := ?_) (fl10_ 43 65535) rfl rfl (any_of HT_.out (by kernel_rfl)) (fun _ _ _ h => h) (Or.inr ⟨by rfl, rfl⟩) ?_ ?_
       rotate_left
       ·simp only [Act.put, List.setIfInBounds_toArray, List.set_cons_zero, List.set_cons_succ, i64_w, i32_w]
        rfl
       refine pure_ (i := 16) (N := some 39) (v := undef) (a' := ?_) (fl10_ 43 131071) rfl rfl (any_of HT_.out (by kernel_rfl)) (fun _ _ _ h => h) (Or.inr ⟨by rfl, rfl⟩) ?_ ?_
       rotate_left
       ·simp only [Act.put, List.setIfInBounds_toArray, List.set_cons_zero, List.set_cons_succ, i64_w, i32_w]
        rfl
       refine pure_ (i := 17) (N := some 40) (v := undef) (a' := ?_) (fl10_ 43 262143) rfl rfl (any_of HT_.out (by kernel_rfl)) (fun _ _ _ h => h) (Or.inr ⟨by rfl, rfl⟩) ?_ ?_
       rotate_left
       ·simp only [Act.put, List.setIfInBounds_toArray, List.set_cons_zero, List.set_cons_succ, i64_w, i32_w]
        rfl
       refine pure_ (i := 18) (N := some 41) (v := undef) (a' := ?_) (fl10_ 43 524287) rfl rfl (any_of HT_.out (by kernel_rfl)) (fun _ _ _ h => h) (Or.inr ⟨by rfl, rfl⟩) ?_ ?_
       rotate_left
       ·simp only [Act.put, List.setIfInBounds_toArray, List.set_cons_zero, List.set_cons_succ, i64_w, i32_w]
        rfl
       refine zpu HT_ 19 42 (fl10_ 43 1048575) ?_
       refine zpu HT_ 20 43 (fl10_ 43 2097151) ?_
       refine pure_ (i := 21) (N := some 44) (v := undef) (a' := ?_) (fl10_ 43 4194303) rfl rfl (any_of HT_.out (by kernel_rfl)) (fun _ _ _ h => h) (Or.inr ⟨by rfl, rfl⟩) ?_ ?_
       rotate_left
       ·simp only [Act.put, List.setIfInBounds_toArray, List.set_cons_zero, List.set_cons_succ, i64_w, i32_w]
        rfl
       refine pure_ (i := 22) (N := some 45) (v := undef) (a' := ?_) (fl10_ 43 8388607) rfl rfl (any_of HT_.out (by kernel_rfl)) (fun _ _ _ h => h) (Or.inr ⟨by rfl, rfl⟩) ?_ ?_
       rotate_left
       ·simp only [Act.put, List.setIfInBounds_toArray, List.set_cons_zero, List.set_cons_succ, i64_w, i32_w]
        rfl
       refine pure_ (i := 23) (N := some 46) (v := undef) (a' := ?_) (fl10_ 43 16777215) rfl rfl (any_of HT_.out (by kernel_rfl)) (fun _ _ _ h => h) (Or.inr ⟨by rfl, rfl⟩) ?_ ?_
       rotate_left
       ·simp only [Act.put, List.setIfInBounds_toArray, List.set_cons_zero, List.set_cons_succ, i64_w, i32_w]
        rfl
       refine pure_ (i := 24) (N := some 47) (v := undef) (a' := ?_) (fl10_ 43 33554431) rfl rfl (any_of HT_.out (by kernel_rfl)) (fun _ _ _ h => h) (Or.inr ⟨by rfl, rfl⟩) ?_ ?_
       rotate_left
       ·simp only [Act.put, List.setIfInBounds_toArray, List.set_cons_zero, List.set_cons_succ, i64_w, i32_w]
        rfl
       refine zpu HT_ 25 48 (fl10_ 43 67108863) ?_
       refine zpu HT_ 26 49 (fl10_ 43 134217727) ?_
       refine pure_ (i := 27) (N := some 50) (v := undef) (a' := ?_) (fl10_ 43 268435455) rfl rfl (any_of HT_.out (by kernel_rfl)) (fun _ _ _ h => h) (Or.inr ⟨by rfl, rfl⟩) ?_ ?_
       rotate_left
       ·simp only [Act.put, List.setIfInBounds_toArray, List.set_cons_zero, List.set_cons_succ, i64_w, i32_w]
        rfl
       refine pure_ (i := 28) (N := some 51) (v := undef) (a' := ?_) (fl10_ 43 536870911) rfl rfl (any_of HT_.out (by kernel_rfl)) (fun _ _ _ h => h) (Or.inr ⟨by rfl, rfl⟩) ?_ ?_
       rotate_left
       ·simp only [Act.put, List.setIfInBounds_toArray, List.set_cons_zero, List.set_cons_succ, i64_w, i32_w]
        rfl
       refine pure_ (i := 29) (N := some 52) (v := undef) (a' := ?_) (fl10_ 43 1073741823) rfl rfl (any_of HT_.out (by kernel_rfl)) (fun _ _ _ h => h) (Or.inr ⟨by rfl, rfl⟩) ?_ ?_
       rotate_left
       ·simp only [Act.put, List.setIfInBounds_toArray, List.set_cons_zero, List.set_cons_succ, i64_w, i32_w]
        rfl
       refine pure_ (i := 30) (N := some 53) (v := undef) (a' := ?_) (fl10_ 43 2147483647) rfl rfl (any_of HT_.out (by kernel_rfl)) (fun _ _ _ h => h) (Or.inr ⟨by rfl, rfl⟩) ?_ ?_
       rotate_left
       ·simp only [Act.put, List.setIfInBounds_toArray, List.set_cons_zero, List.set_cons_succ, i64_w, i32_w]
        rfl
       refine zpu HT_ 31 54 (fl10_ 43 4294967295) ?_
       refine zpu HT_ 32 55 (fl10_ 43 8589934591) ?_
       refine pure_ (i := 33) (N := some 56) (v := undef) (a' := ?_) (fl10_ 43 17179869183) rfl rfl (any_of HT_.out (by kernel_rfl)) (fun _ _ _ h => h) (Or.inr ⟨by rfl, rfl⟩) ?_ ?_
       rotate_left
       ·simp only [Act.put, List.setIfInBounds_toArray, List.set_cons_zero, List.set_cons_succ, i64_w, i32_w]
        rfl
       refine pure_ (i := 34) (N := some 57) (v := undef) (a' := ?_) (fl10_ 43 34359738367) rfl rfl (any_of HT_.out (by kernel_rfl)) (fun _ _ _ h => h) (Or.inr ⟨by rfl, rfl⟩) ?_ ?_
       rotate_left
       ·simp only [Act.put, List.setIfInBounds_toArray, List.set_cons_zero, List.set_cons_succ, i64_w, i32_w]
        rfl
       refine pure_ (i := 35) (N := some 58) (v := undef) (a' := ?_) (fl10_ 43 68719476735) rfl rfl (any_of HT_.out (by kernel_rfl)) (fun _ _ _ h => h) (Or.inr ⟨by rfl, rfl⟩) ?_ ?_
       rotate_left
       ·simp only [Act.put, List.setIfInBounds_toArray, List.set_cons_zero, List.set_cons_succ, i64_w, i32_w]
        rfl
       refine pure_ (i := 36) (N := some 59) (v := undef) (a' := ?_) (fl10_ 43 137438953471) rfl rfl (any_of HT_.out (by kernel_rfl)) (fun _ _ _ h => h) (Or.inr ⟨by rfl, rfl⟩) ?_ ?_
       rotate_left
       ·simp only [Act.put, List.setIfInBounds_toArray, List.set_cons_zero, List.set_cons_succ, i64_w, i32_w]
        rfl
       refine pure_ (i := 37) (N := some 60) (v := undef) (a' := ?_) (fl10_ 43 274877906943) rfl rfl (any_of HT_.out (by kernel_rfl)) (fun _ _ _ h => h) (Or.inr ⟨by rfl, rfl⟩) ?_ ?_
       rotate_left
       ·simp only [Act.put, List.setIfInBounds_toArray, List.set_cons_zero, List.set_cons_succ, i64_w, i32_w]
        rfl
       refine pure_ (i := 38) (N := some 61) (v := undef) (a' := ?_) (fl10_ 43 549755813887) rfl rfl (any_of HT_.out (by kernel_rfl)) (fun _ _ _ h => h) (Or.inr ⟨by rfl, rfl⟩) ?_ ?_
       rotate_left
       ·simp only [Act.put, List.setIfInBounds_toArray, List.set_cons_zero, List.set_cons_succ, i64_w, i32_w]
        rfl
       refine pure_ (i := 39) (N := some 62) (v := undef) (a' := ?_) (fl10_ 43 1099511627775) rfl rfl (any_of HT_.out (by kernel_rfl)) (fun _ _ _ h => h) (Or.inr ⟨by rfl, rfl⟩) ?_ ?_
       rotate_left
       ·simp only [Act.put, List.setIfInBounds_toArray, List.set_cons_zero, List.set_cons_succ, i64_w, i32_w]
        rfl
       refine pure_ (i := 40) (N := some 63) (v := undef) (a' := ?_) (fl10_ 43 2199023255551) rfl rfl (any_of HT_.out (by kernel_rfl)) (fun _ _ _ h => h) (Or.inr ⟨by rfl, rfl⟩) ?_ ?_
       rotate_left
       ·simp only [Act.put, List.setIfInBounds_toArray, List.set_cons_zero, List.set_cons_succ, i64_w, i32_w]
        rfl
       refine pure_ (i := 41) (N := some 64) (v := undef) (a' := ?_) (fl10_ 43 4398046511103) rfl rfl (any_of HT_.out (by kernel_rfl)) (fun _ _ _ h => h) (Or.inr ⟨by rfl, rfl⟩) ?_ ?_
       rotate_left
       ·simp only [Act.put, List.setIfInBounds_toArray, List.set_cons_zero, List.set_cons_succ, i64_w, i32_w]
        rfl
       refine zpu HT_ 42 65 (fl10_ 43 8796093022207) ?_
       refine done_ (done_of HT_.out (by kernel_rfl)) ?_
       try go_wp2
       go_meet
       case rel => exact ⟨_, (true), zrs, H', ⟨by have := HJ1.out; have := HK2.out; first | omega | exact Nat.le_refl _⟩, ⟨zb BK238⟩, ⟨zb BK240⟩, ⟨zg HB⟩⟩
      subst c17
      rw [if_pos rfl] at H
      by_cases c18 : x18_2 > 0
      rotate_left
      ·rw [if_neg c18] at H
       have c18b0 : decide (0 < x18_2) = false := decide_eq_false c18
       clear c18
       (first | rw [c18b0] | (simp only [i64_w, i32_w]; rw [c18b0]) | skip)
       replace H := Option.bind_eq_some_iff.mp H
       obtain ⟨t246, A570, H⟩ := H
       try dsimp only at H
       have A57 := Aside0.mk A570
       clear A570
       by_cases c58 : t246 = true
       rotate_left
       ·replace c58 := Bool.eq_false_iff.mpr c58
        subst c58
        rw [if_neg (show ¬ (false = true) by decide)] at H
        have H' := Aside0.mk H
        clear H
        try go_wp2
        have n0_ : Aside0 ((((((((((w13.setCell ⟨gb240, 0, none⟩ (.string ((rd_T39 l0_0 x18_2).f0))).setCell ⟨gb240, 1, none⟩ (.int .i64 ((rd_T39 l0_0 x18_2).f1))).setCell ⟨gb240, 2, none⟩ (.bool ((rd_T39 l0_0 x18_2).f2.f0))).setCell ⟨gb240, 3, none⟩ (.bool ((rd_T39 l0_0 x18_2).f2.f1))).setCell ⟨gb240, 4, none⟩ (.bool ((rd_T39 l0_0 x18_2).f2.f2))).setCell ⟨gb240, 5, none⟩ (.slice A239_5 ((rd_T39 l0_0 x18_2).f2.f3).length c239_5)).setCell ⟨gb240, 6, none⟩ (.slice A239_6 ((rd_T39 l0_0 x18_2).f2.f4).length c239_6)).setCell ⟨gb240, 7, none⟩ (.int .i64 ((rd_T39 l0_0 x18_2).f2.f5))).setCell ⟨gb240, 8, none⟩ (.int .i64 ((rd_T39 l0_0 x18_2).f2.f6))).heap[gb238]? = some (.cells #[.slice (some ad239) l0_0.length c0_0] 29 (0, 0))) := ⟨zp BK238⟩
        have n1_ : Aside0 ((((((((((w13.setCell ⟨gb240, 0, none⟩ (.string ((rd_T39 l0_0 x18_2).f0))).setCell ⟨gb240, 1, none⟩ (.int .i64 ((rd_T39 l0_0 x18_2).f1))).setCell ⟨gb240, 2, none⟩ (.bool ((rd_T39 l0_0 x18_2).f2.f0))).setCell ⟨gb240, 3, none⟩ (.bool ((rd_T39 l0_0 x18_2).f2.f1))).setCell ⟨gb240, 4, none⟩ (.bool ((rd_T39 l0_0 x18_2).f2.f2))).setCell ⟨gb240, 5, none⟩ (.slice A239_5 ((rd_T39 l0_0 x18_2).f2.f3).length c239_5)).setCell ⟨gb240, 6, none⟩ (.slice A239_6 ((rd_T39 l0_0 x18_2).f2.f4).length c239_6)).setCell ⟨gb240, 7, none⟩ (.int .i64 ((rd_T39 l0_0 x18_2).f2.f5))).setCell ⟨gb240, 8, none⟩ (.int .i64 ((rd_T39 l0_0 x18_2).f2.f6))).heap[gb240]? = some (.cells #[.string ((rd_T39 l0_0 x18_2).f0), .int .i64 ((rd_T39 l0_0 x18_2).f1), .bool ((rd_T39 l0_0 x18_2).f2.f0), .bool ((rd_T39 l0_0 x18_2).f2.f1), .bool ((rd_T39 l0_0 x18_2).f2.f2), .slice A239_5 ((rd_T39 l0_0 x18_2).f2.f3).length c239_5, .slice A239_6 ((rd_T39 l0_0 x18_2).f2.f4).length c239_6, .int .i64 ((rd_T39 l0_0 x18_2).f2.f5), .int .i64 ((rd_T39 l0_0 x18_2).f2.f6)] 39 (0, 0))) := ⟨zp BK240⟩
        have n2_ : Aside0 (Below w.heap.size w (((((((((w13.setCell ⟨gb240, 0, none⟩ (.string ((rd_T39 l0_0 x18_2).f0))).setCell ⟨gb240, 1, none⟩ (.int .i64 ((rd_T39 l0_0 x18_2).f1))).setCell ⟨gb240, 2, none⟩ (.bool ((rd_T39 l0_0 x18_2).f2.f0))).setCell ⟨gb240, 3, none⟩ (.bool ((rd_T39 l0_0 x18_2).f2.f1))).setCell ⟨gb240, 4, none⟩ (.bool ((rd_T39 l0_0 x18_2).f2.f2))).setCell ⟨gb240, 5, none⟩ (.slice A239_5 ((rd_T39 l0_0 x18_2).f2.f3).length c239_5)).setCell ⟨gb240, 6, none⟩ (.slice A239_6 ((rd_T39 l0_0 x18_2).f2.f4).length c239_6)).setCell ⟨gb240, 7, none⟩ (.int .i64 ((rd_T39 l0_0 x18_2).f2.f5))).setCell ⟨gb240, 8, none⟩ (.int .i64 ((rd_T39 l0_0 x18_2).f2.f6)))) := ⟨zg HB⟩
        (try clear BK238)
        (try clear BK240)
        (try clear HB)
        generalize (((((((((w13.setCell ⟨gb240, 0, none⟩ (.string ((rd_T39 l0_0 x18_2).f0))).setCell ⟨gb240, 1, none⟩ (.int .i64 ((rd_T39 l0_0 x18_2).f1))).setCell ⟨gb240, 2, none⟩ (.bool ((rd_T39 l0_0 x18_2).f2.f0))).setCell ⟨gb240, 3, none⟩ (.bool ((rd_T39 l0_0 x18_2).f2.f1))).setCell ⟨gb240, 4, none⟩ (.bool ((rd_T39 l0_0 x18_2).f2.f2))).setCell ⟨gb240, 5, none⟩ (.slice A239_5 ((rd_T39 l0_0 x18_2).f2.f3).length c239_5)).setCell ⟨gb240, 6, none⟩ (.slice A239_6 ((rd_T39 l0_0 x18_2).f2.f4).length c239_6)).setCell ⟨gb240, 7, none⟩ (.int .i64 ((rd_T39 l0_0 x18_2).f2.f5))).setCell ⟨gb240, 8, none⟩ (.int .i64 ((rd_T39 l0_0 x18_2).f2.f6))) = w83 at n0_ n1_ n2_ ⊢
        have BK238 := n0_
        have BK240 := n1_
        have HB := n2_
        clear n0_ n1_ n2_
        replace BK238 := Aside0.mk (blk_drew BK238.out)
        replace BK240 := Aside0.mk (blk_drew BK240.out)
        replace HB := Aside0.mk (below_drew1 HB.out)
        refine start_ (n := 43) (S := fun w' => w'.cell? ⟨gb240, 0, none⟩ = some (.string ((rd_T39 l0_0 x18_2).f0)) ∧ w'.cell? ⟨gb240, 1, none⟩ = some (.int .i64 ((rd_T39 l0_0 x18_2).f1)) ∧ w'.cell? ⟨gb240, 2, none⟩ = some (.bool ((rd_T39 l0_0 x18_2).f2.f0)) ∧ w'.cell? ⟨gb240, 3, none⟩ = some (.bool ((rd_T39 l0_0 x18_2).f2.f1)) ∧ w'.cell? ⟨gb240, 4, none⟩ = some (.bool ((rd_T39 l0_0 x18_2).f2.f2)) ∧ w'.cell? ⟨gb240, 5, none⟩ = some (.slice A239_5 ((rd_T39 l0_0 x18_2).f2.f3).length c239_5) ∧ w'.cell? ⟨gb240, 6, none⟩ = some (.slice A239_6 ((rd_T39 l0_0 x18_2).f2.f4).length c239_6) ∧ w'.cell? ⟨gb240, 7, none⟩ = some (.int .i64 ((rd_T39 l0_0 x18_2).f2.f5)) ∧ w'.cell? ⟨gb240, 8, none⟩ = some (.int .i64 ((rd_T39 l0_0 x18_2).f2.f6))) (ds := []) (fl10_ 43 0) (by kernel_rfl) rfl rfl ⟨(blk_cell BK240.out 0).trans rfl, (blk_cell BK240.out 1).trans rfl, (blk_cell BK240.out 2).trans rfl, (blk_cell BK240.out 3).trans rfl, (blk_cell BK240.out 4).trans rfl, (blk_cell BK240.out 5).trans rfl, (blk_cell BK240.out 6).trans rfl, (blk_cell BK240.out 7).trans rfl, (blk_cell BK240.out 8).trans rfl⟩ (fun hHeld => ?_); refine with_tabW impl_SchemaOK.tab6 impl_SchemaOK.bits6 (fun HT_ HW_ => ?_)
        generalize w83.drew = w84 at BK238 BK240 HB hHeld ⊢
        refine zpu HT_ 0 23 (fl10_ 43 1) ?_
        refine take_ (i := 1) (N := some 24) (v := ?_) (a' := ?_) (fl10_ 43 3) rfl rfl (take_ofW HT_.out HW_.out (by kernel_rfl)) (fun _ _ _ h => h) (Or.inl ⟨by rfl, ?_⟩) hHeld ?_ ?_
        rotate_left
        ·rintro w' ⟨s0, s1, s2, s3, s4, s5, s6, s7, s8⟩
         go_simp
         with_reducible rfl
        rotate_left
        ·simp only [Act.put, List.setIfInBounds_toArray, List.set_cons_zero, List.set_cons_succ, i64_w, i32_w]
         rfl
        refine one_ (i := 2) (N := some 25) (fl10_ 43 7) rfl rfl (one_of HT_.out (by kernel_rfl)) (by decide) (fun K hK => ?_)
        refine goes_ Tryd.func14 (by kernel_rfl) rfl #[.string ((rd_T39 l0_0 x18_2).f0)] (by rfl) rfl rfl zar ?_
        with_reducible refine (impl_nameOK.calls k2 ((rd_T39 l0_0 x18_2).f0) true _ A16.out).mono ?_
        rintro e w85 ⟨rfl, hb⟩
        refine ⟨_, rfl, ?_⟩
        replace BK238 := Aside0.mk (blk_below (zb BK238) hb)
        replace BK240 := Aside0.mk (blk_below (zb BK240) hb)
        replace HB := Aside0.mk (below_step (zg HB) hb)
        (try clear hb)
        (try clear hb2)
        (try clear hk)
        (try clear hi)
        refine hK.out _ _ ⟨(blk_cell BK240.out 0).trans rfl, (blk_cell BK240.out 1).trans rfl, (blk_cell BK240.out 2).trans rfl, (blk_cell BK240.out 3).trans rfl, (blk_cell BK240.out 4).trans rfl, (blk_cell BK240.out 5).trans rfl, (blk_cell BK240.out 6).trans rfl, (blk_cell BK240.out 7).trans rfl, (blk_cell BK240.out 8).trans rfl⟩ (fun hHeld => ?_)
        clear hK K
        refine norm_ (a' := ?_) ?_ ?_
        rotate_left
        ·show Act.put _ (some 25) _ = _
         simp only [Act.put, List.setIfInBounds_toArray, List.set_cons_zero, List.set_cons_succ, i64_w, i32_w]
         rfl
        refine zpu HT_ 3 26 (fl10_ 43 15) ?_
        refine zpu HT_ 4 27 (fl10_ 43 31) ?_
        refine zpu HT_ 5 28 (fl10_ 43 63) ?_
        refine zpu HT_ 6 29 (fl10_ 43 127) ?_
        refine zpu HT_ 7 30 (fl10_ 43 255) ?_
        refine pure_ (i := 8) (N := some 31) (v := undef) (a' := ?_) (fl10_ 43 511) rfl rfl (any_of HT_.out (by kernel_rfl)) (fun _ _ _ h => h) (Or.inr ⟨by rfl, rfl⟩) ?_ ?_
        rotate_left
        ·simp only [Act.put, List.setIfInBounds_toArray, List.set_cons_zero, List.set_cons_succ, i64_w, i32_w]
         rfl
        refine pure_ (i := 9) (N := some 32) (v := undef) (a' := ?_) (fl10_ 43 1023) rfl rfl (any_of HT_.out (by kernel_rfl)) (fun _ _ _ h => h) (Or.inr ⟨by rfl, rfl⟩) ?_ ?_
        rotate_left
        ·simp only [Act.put, List.setIfInBounds_toArray, List.set_cons_zero, List.set_cons_succ, i64_w, i32_w]
         rfl
        refine pure_ (i := 10) (N := some 33) (v := undef) (a' := ?_) (fl10_ 43 2047) rfl rfl (any_of HT_.out (by kernel_rfl)) (fun _ _ _ h => h) (Or.inr ⟨by rfl, rfl⟩) ?_ ?_
        rotate_left
        ·simp only [Act.put, List.setIfInBounds_toArray, List.set_cons_zero, List.set_cons_succ, i64_w, i32_w]
         rfl
        refine pure_ (i := 11) (N := some 34) (v := undef) (a' := ?_) (fl10_ 43 4095) rfl rfl (any_of HT_.out (by kernel_rfl)) (fun _ _ _ h => h) (Or.inr ⟨by rfl, rfl⟩) ?_ ?_
        rotate_left
        ·simp only [Act.put, List.setIfInBounds_toArray, List.set_cons_zero, List.set_cons_succ, i64_w, i32_w]
         rfl
        refine pure_ (i := 12) (N := some 35) (v := undef) (a' := ?_) (fl10_ 43 8191) rfl rfl (any_of HT_.out (by kernel_rfl)) (fun _ _ _ h => h) (Or.inr ⟨by rfl, rfl⟩) ?_ ?_
        rotate_left
        ·simp only [Act.put, List.setIfInBounds_toArray, List.set_cons_zero, List.set_cons_succ, i64_w, i32_w]
         rfl
        refine pure_ (i := 13) (N := some 36) (v := undef) (a' := ?_) (fl10_ 43 16383) rfl rfl (any_of HT_.out (by kernel_rfl)) (fun _ _ _ h => h) (Or.inr ⟨by rfl, rfl⟩) ?_ ?_
        rotate_left
        ·simp only [Act.put, List.setIfInBounds_toArray, List.set_cons_zero, List.set_cons_succ, i64_w, i32_w]
         rfl
        refine pure_ (i := 14) (N := some 37) (v := undef) (a' := ?_) (fl10_ 43 32767) rfl rfl (any_of HT_.out (by kernel_rfl)) (fun _ _ _ h => h) (Or.inr ⟨by rfl, rfl⟩) ?_ ?_
        rotate_left
        ·simp only [Act.put, List.setIfInBounds_toArray, List.set_cons_zero, List.set_cons_succ, i64_w, i32_w]
         rfl
        refine pure_ (i := 15) (N := some 38) (v := undef) (a' := ?_) (fl10_ 43 65535) rfl rfl (any_of HT_.out (by kernel_rfl)) (fun _ _ _ h => h) (Or.inr ⟨by rfl, rfl⟩) ?_ ?_
        rotate_left
        ·simp only [Act.put, List.setIfInBounds_toArray, List.set_cons_zero, List.set_cons_succ, i64_w, i32_w]
         rfl
        refine pure_ (i := 16) (N := some 39) (v := undef) (a' := ?_) (fl10_ 43 131071) rfl rfl (any_of HT_.out (by kernel_rfl)) (fun _ _ _ h => h) (Or.inr ⟨by rfl, rfl⟩) ?_ ?_
        rotate_left
        ·simp only [Act.put, List.setIfInBounds_toArray, List.set_cons_zero, List.set_cons_succ, i64_w, i32_w]
         rfl
        refine pure_ (i := 17) (N := some 40) (v := undef) (a' := ?_) (fl10_ 43 262143) rfl rfl (any_of HT_.out (by kernel_rfl)) (fun _ _ _ h => h) (Or.inr ⟨by rfl, rfl⟩) ?_ ?_
        rotate_left
        ·simp only [Act.put, List.setIfInBounds_toArray, List.set_cons_zero, List.set_cons_succ, i64_w, i32_w]
         rfl
        refine zpu HT_ 18 41 (fl10_ 43 524287) ?_
        refine zpu HT_ 19 42 (fl10_ 43 1048575) ?_
        refine zpu HT_ 20 43 (fl10_ 43 2097151) ?_
        refine zpu HT_ 21 44 (fl10_ 43 4194303) ?_
        refine take_ (i := 22) (N := some 45) (v := ?_) (a' := ?_) (fl10_ 43 8388607) rfl rfl (take_ofW HT_.out HW_.out (by kernel_rfl)) (fun _ _ _ h => h) (Or.inl ⟨by rfl, ?_⟩) hHeld ?_ ?_
        rotate_left
        ·rintro w' ⟨s0, s1, s2, s3, s4, s5, s6, s7, s8⟩
         go_simp
         with_reducible rfl
        rotate_left
        ·simp only [Act.put, List.setIfInBounds_toArray, List.set_cons_zero, List.set_cons_succ, i64_w, i32_w]
         rfl
        refine one_ (i := 23) (N := some 46) (fl10_ 43 16777215) rfl rfl (one_of HT_.out (by kernel_rfl)) (by decide) (fun K hK => ?_)
        refine goes_ Tryd.func15 (by kernel_rfl) rfl #[.int .i64 ((rd_T39 l0_0 x18_2).f1), .int .i64 1, .int .i64 3] (by rfl) rfl rfl zar ?_
        with_reducible refine (impl_within.calls ((rd_T39 l0_0 x18_2).f1) 1 3 false _ A57.out).mono ?_
        rintro e w' ⟨rfl, ⟨nd, rfl⟩⟩
        refine ⟨_, rfl, ?_⟩
        refine hK.out _ _ ⟨(blk_cell BK240.out 0).trans rfl, (blk_cell BK240.out 1).trans rfl, (blk_cell BK240.out 2).trans rfl, (blk_cell BK240.out 3).trans rfl, (blk_cell BK240.out 4).trans rfl, (blk_cell BK240.out 5).trans rfl, (blk_cell BK240.out 6).trans rfl, (blk_cell BK240.out 7).trans rfl, (blk_cell BK240.out 8).trans rfl⟩ (fun hHeld => ?_)
        clear hK K
        refine norm_ (a' := ?_) ?_ ?_
        rotate_left
        ·show Act.put _ (some 46) _ = _
         simp only [Act.put, List.setIfInBounds_toArray, List.set_cons_zero, List.set_cons_succ, i64_w, i32_w]
         rfl
        refine zpu HT_ 24 47 (fl10_ 43 33554431) ?_
        refine zpu HT_ 25 48 (fl10_ 43 67108863) ?_
        refine zpu HT_ 26 49 (fl10_ 43 134217727) ?_
        refine pure_ (i := 27) (N := some 50) (v := undef) (a' := ?_) (fl10_ 43 268435455) rfl rfl (any_of HT_.out (by kernel_rfl)) (fun _ _ _ h => h) (Or.inr ⟨by rfl, rfl⟩) ?_ ?_
        rotate_left
        ·simp only [Act.put, List.setIfInBounds_toArray, List.set_cons_zero, List.set_cons_succ, i64_w, i32_w]
         rfl
        refine pure_ (i := 28) (N := some 51) (v := undef) (a' := ?_) (fl10_ 43 536870911) rfl rfl (any_of HT_.out (by kernel_rfl)) (fun _ _ _ h => h) (Or.inr ⟨by rfl, rfl⟩) ?_ ?_
        rotate_left
        ·simp only [Act.put, List.setIfInBounds_toArray, List.set_cons_zero, List.set_cons_succ, i64_w, i32_w]
         rfl
        refine pure_ (i := 29) (N := some 52) (v := undef) (a' := ?_) (fl10_ 43 1073741823) rfl rfl (any_of HT_.out (by kernel_rfl)) (fun _ _ _ h => h) (Or.inr ⟨by rfl, rfl⟩) ?_ ?_
        rotate_left
        ·simp only [Act.put, List.setIfInBounds_toArray, List.set_cons_zero, List.set_cons_succ, i64_w, i32_w]
         rfl
        refine pure_ (i := 30) (N := some 53) (v := undef) (a' := ?_) (fl10_ 43 2147483647) rfl rfl (any_of HT_.out (by kernel_rfl)) (fun _ _ _ h => h) (Or.inr ⟨by rfl, rfl⟩) ?_ ?_
        rotate_left
        ·simp only [Act.put, List.setIfInBounds_toArray, List.set_cons_zero, List.set_cons_succ, i64_w, i32_w]
         rfl
        refine zpu HT_ 31 54 (fl10_ 43 4294967295) ?_
        refine zpu HT_ 32 55 (fl10_ 43 8589934591) ?_
        refine pure_ (i := 33) (N := some 56) (v := undef) (a' := ?_) (fl10_ 43 17179869183) rfl rfl (any_of HT_.out (by kernel_rfl)) (fun _ _ _ h => h) (Or.inr ⟨by rfl, rfl⟩) ?_ ?_
        rotate_left
        ·simp only [Act.put, List.setIfInBounds_toArray, List.set_cons_zero, List.set_cons_succ, i64_w, i32_w]
         rfl
        refine pure_ (i := 34) (N := some 57) (v := undef) (a' := ?_) (fl10_ 43 34359738367) rfl rfl (any_of HT_.out (by kernel_rfl)) (fun _ _ _ h => h) (Or.inr ⟨by rfl, rfl⟩) ?_ ?_
        rotate_left
        ·simp only [Act.put, List.setIfInBounds_toArray, List.set_cons_zero, List.set_cons_succ, i64_w, i32_w]
         rfl
        refine pure_ (i := 35) (N := some 58) (v := undef) (a' := ?_) (fl10_ 43 68719476735) rfl rfl (any_of HT_.out (by kernel_rfl)) (fun _ _ _ h => h) (Or.inr ⟨by rfl, rfl⟩) ?_ ?_
        rotate_left
        ·simp only [Act.put, List.setIfInBounds_toArray, List.set_cons_zero, List.set_cons_succ, i64_w, i32_w]
         rfl
        refine pure_ (i := 36) (N := some 59) (v := undef) (a' := ?_) (fl10_ 43 137438953471) rfl rfl (any_of HT_.out (by kernel_rfl)) (fun _ _ _ h => h) (Or.inr ⟨by rfl, rfl⟩) ?_ ?_
        rotate_left
        ·simp only [Act.put, List.setIfInBounds_toArray, List.set_cons_zero, List.set_cons_succ, i64_w, i32_w]
         rfl
        refine pure_ (i := 37) (N := some 60) (v := undef) (a' := ?_) (fl10_ 43 274877906943) rfl rfl (any_of HT_.out (by kernel_rfl)) (fun _ _ _ h => h) (Or.inr ⟨by rfl, rfl⟩) ?_ ?_
        rotate_left
        ·simp only [Act.put, List.setIfInBounds_toArray, List.set_cons_zero, List.set_cons_succ, i64_w, i32_w]
         rfl
        refine pure_ (i := 38) (N := some 61) (v := undef) (a' := ?_) (fl10_ 43 549755813887) rfl rfl (any_of HT_.out (by kernel_rfl)) (fun _ _ _ h => h) (Or.inr ⟨by rfl, rfl⟩) ?_ ?_
        rotate_left
        ·simp only [Act.put, List.setIfInBounds_toArray, List.set_cons_zero, List.set_cons_succ, i64_w, i32_w]
         rfl
        refine pure_ (i := 39) (N := some 62) (v := undef) (a' := ?_) (fl10_ 43 1099511627775) rfl rfl (any_of HT_.out (by kernel_rfl)) (fun _ _ _ h => h) (Or.inr ⟨by rfl, rfl⟩) ?_ ?_
        rotate_left
        ·simp only [Act.put, List.setIfInBounds_toArray, List.set_cons_zero, List.set_cons_succ, i64_w, i32_w]
         rfl
        refine pure_ (i := 40) (N := some 63) (v := undef) (a' := ?_) (fl10_ 43 2199023255551) rfl rfl (any_of HT_.out (by kernel_rfl)) (fun _ _ _ h => h) (Or.inr ⟨by rfl, rfl⟩) ?_ ?_
        rotate_left
        ·simp only [Act.put, List.setIfInBounds_toArray, List.set_cons_zero, List.set_cons_succ, i64_w, i32_w]
         rfl
        refine pure_ (i := 41) (N := some 64) (v := undef) (a' := ?_) (fl10_ 43 4398046511103) rfl rfl (any_of HT_.out (by kernel_rfl)) (fun _ _ _ h => h) (Or.inr ⟨by rfl, rfl⟩) ?_ ?_
        rotate_left
        ·simp only [Act.put, List.setIfInBounds_toArray, List.set_cons_zero, List.set_cons_succ, i64_w, i32_w]
         rfl
        refine zpu HT_ 42 65 (fl10_ 43 8796093022207) ?_
        refine done_ (done_of HT_.out (by kernel_rfl)) ?_
        try go_wp2
        go_meet
        case rel => exact ⟨_, (true), zrs, H', ⟨by have := HJ1.out; have := HK2.out; first | omega | exact Nat.le_refl _⟩, ⟨zb BK238⟩, ⟨zb BK240⟩, ⟨zg HB⟩⟩
       subst c58
       rw [if_pos rfl] at H
       replace H := Option.bind_eq_some_iff.mp H
       obtain ⟨t247, A590, H⟩ := H
       try dsimp only at H
       have A59 := Aside0.mk A590
       clear A590
       by_cases c60 : t247 = true
       rotate_left
       ·replace c60 := Bool.eq_false_iff.mpr c60
        subst c60
        rw [if_neg (show ¬ (false = true) by decide)] at H
        have H' := Aside0.mk H
        clear H
        try go_wp2
        have n0_ : Aside0 ((((((((((w13.setCell ⟨gb240, 0, none⟩ (.string ((rd_T39 l0_0 x18_2).f0))).setCell ⟨gb240, 1, none⟩ (.int .i64 ((rd_T39 l0_0 x18_2).f1))).setCell ⟨gb240, 2, none⟩ (.bool ((rd_T39 l0_0 x18_2).f2.f0))).setCell ⟨gb240, 3, none⟩ (.bool ((rd_T39 l0_0 x18_2).f2.f1))).setCell ⟨gb240, 4, none⟩ (.bool ((rd_T39 l0_0 x18_2).f2.f2))).setCell ⟨gb240, 5, none⟩ (.slice A239_5 ((rd_T39 l0_0 x18_2).f2.f3).length c239_5)).setCell ⟨gb240, 6, none⟩ (.slice A239_6 ((rd_T39 l0_0 x18_2).f2.f4).length c239_6)).setCell ⟨gb240, 7, none⟩ (.int .i64 ((rd_T39 l0_0 x18_2).f2.f5))).setCell ⟨gb240, 8, none⟩ (.int .i64 ((rd_T39 l0_0 x18_2).f2.f6))).heap[gb238]? = some (.cells #[.slice (some ad239) l0_0.length c0_0] 29 (0, 0))) := ⟨zp BK238⟩
        have n1_ : Aside0 ((((((((((w13.setCell ⟨gb240, 0, none⟩ (.string ((rd_T39 l0_0 x18_2).f0))).setCell ⟨gb240, 1, none⟩ (.int .i64 ((rd_T39 l0_0 x18_2).f1))).setCell ⟨gb240, 2, none⟩ (.bool ((rd_T39 l0_0 x18_2).f2.f0))).setCell ⟨gb240, 3, none⟩ (.bool ((rd_T39 l0_0 x18_2).f2.f1))).setCell ⟨gb240, 4, none⟩ (.bool ((rd_T39 l0_0 x18_2).f2.f2))).setCell ⟨gb240, 5, none⟩ (.slice A239_5 ((rd_T39 l0_0 x18_2).f2.f3).length c239_5)).setCell ⟨gb240, 6, none⟩ (.slice A239_6 ((rd_T39 l0_0 x18_2).f2.f4).length c239_6)).setCell ⟨gb240, 7, none⟩ (.int .i64 ((rd_T39 l0_0 x18_2).f2.f5))).setCell ⟨gb240, 8, none⟩ (.int .i64 ((rd_T39 l0_0 x18_2).f2.f6))).heap[gb240]? = some (.cells #[.string ((rd_T39 l0_0 x18_2).f0), .int .i64 ((rd_T39 l0_0 x18_2).f1), .bool ((rd_T39 l0_0 x18_2).f2.f0), .bool ((rd_T39 l0_0 x18_2).f2.f1), .bool ((rd_T39 l0_0 x18_2).f2.f2), .slice A239_5 ((rd_T39 l0_0 x18_2).f2.f3).length c239_5, .slice A239_6 ((rd_T39 l0_0 x18_2).f2.f4).length c239_6, .int .i64 ((rd_T39 l0_0 x18_2).f2.f5), .int .i64 ((rd_T39 l0_0 x18_2).f2.f6)] 39 (0, 0))) := ⟨zp BK240⟩
        have n2_ : Aside0 (Below w.heap.size w (((((((((w13.setCell ⟨gb240, 0, none⟩ (.string ((rd_T39 l0_0 x18_2).f0))).setCell ⟨gb240, 1, none⟩ (.int .i64 ((rd_T39 l0_0 x18_2).f1))).setCell ⟨gb240, 2, none⟩ (.bool ((rd_T39 l0_0 x18_2).f2.f0))).setCell ⟨gb240, 3, none⟩ (.bool ((rd_T39 l0_0 x18_2).f2.f1))).setCell ⟨gb240, 4, none⟩ (.bool ((rd_T39 l0_0 x18_2).f2.f2))).setCell ⟨gb240, 5, none⟩ (.slice A239_5 ((rd_T39 l0_0 x18_2).f2.f3).length c239_5)).setCell ⟨gb240, 6, none⟩ (.slice A239_6 ((rd_T39 l0_0 x18_2).f2.f4).length c239_6)).setCell ⟨gb240, 7, none⟩ (.int .i64 ((rd_T39 l0_0 x18_2).f2.f5))).setCell ⟨gb240, 8, none⟩ (.int .i64 ((rd_T39 l0_0 x18_2).f2.f6)))) := ⟨zg HB⟩
        (try clear BK238)
        (try clear BK240)
        (try clear HB)
        generalize (((((((((w13.setCell ⟨gb240, 0, none⟩ (.string ((rd_T39 l0_0 x18_2).f0))).setCell ⟨gb240, 1, none⟩ (.int .i64 ((rd_T39 l0_0 x18_2).f1))).setCell ⟨gb240, 2, none⟩ (.bool ((rd_T39 l0_0 x18_2).f2.f0))).setCell ⟨gb240, 3, none⟩ (.bool ((rd_T39 l0_0 x18_2).f2.f1))).setCell ⟨gb240, 4, none⟩ (.bool ((rd_T39 l0_0 x18_2).f2.f2))).setCell ⟨gb240, 5, none⟩ (.slice A239_5 ((rd_T39 l0_0 x18_2).f2.f3).length c239_5)).setCell ⟨gb240, 6, none⟩ (.slice A239_6 ((rd_T39 l0_0 x18_2).f2.f4).length c239_6)).setCell ⟨gb240, 7, none⟩ (.int .i64 ((rd_T39 l0_0 x18_2).f2.f5))).setCell ⟨gb240, 8, none⟩ (.int .i64 ((rd_T39 l0_0 x18_2).f2.f6))) = w77 at n0_ n1_ n2_ ⊢
        have BK238 := n0_
        have BK240 := n1_
        have HB := n2_
        clear n0_ n1_ n2_
        replace BK238 := Aside0.mk (blk_drew BK238.out)
        replace BK240 := Aside0.mk (blk_drew BK240.out)
        replace HB := Aside0.mk (below_drew1 HB.out)
        refine start_ (n := 43) (S := fun w' => w'.cell? ⟨gb240, 0, none⟩ = some (.string ((rd_T39 l0_0 x18_2).f0)) ∧ w'.cell? ⟨gb240, 1, none⟩ = some (.int .i64 ((rd_T39 l0_0 x18_2).f1)) ∧ w'.cell? ⟨gb240, 2, none⟩ = some (.bool ((rd_T39 l0_0 x18_2).f2.f0)) ∧ w'.cell? ⟨gb240, 3, none⟩ = some (.bool ((rd_T39 l0_0 x18_2).f2.f1)) ∧ w'.cell? ⟨gb240, 4, none⟩ = some (.bool ((rd_T39 l0_0 x18_2).f2.f2)) ∧ w'.cell? ⟨gb240, 5, none⟩ = some (.slice A239_5 ((rd_T39 l0_0 x18_2).f2.f3).length c239_5) ∧ w'.cell? ⟨gb240, 6, none⟩ = some (.slice A239_6 ((rd_T39 l0_0 x18_2).f2.f4).length c239_6) ∧ w'.cell? ⟨gb240, 7, none⟩ = some (.int .i64 ((rd_T39 l0_0 x18_2).f2.f5)) ∧ w'.cell? ⟨gb240, 8, none⟩ = some (.int .i64 ((rd_T39 l0_0 x18_2).f2.f6))) (ds := []) (fl10_ 43 0) (by kernel_rfl) rfl rfl ⟨(blk_cell BK240.out 0).trans rfl, (blk_cell BK240.out 1).trans rfl, (blk_cell BK240.out 2).trans rfl, (blk_cell BK240.out 3).trans rfl, (blk_cell BK240.out 4).trans rfl, (blk_cell BK240.out 5).trans rfl, (blk_cell BK240.out 6).trans rfl, (blk_cell BK240.out 7).trans rfl, (blk_cell BK240.out 8).trans rfl⟩ (fun hHeld => ?_); refine with_tabW impl_SchemaOK.tab6 impl_SchemaOK.bits6 (fun HT_ HW_ => ?_)
        generalize w77.drew = w78 at BK238 BK240 HB hHeld ⊢
        refine zpu HT_ 0 23 (fl10_ 43 1) ?_
        refine take_ (i := 1) (N := some 24) (v := ?_) (a' := ?_) (fl10_ 43 3) rfl rfl (take_ofW HT_.out HW_.out (by kernel_rfl)) (fun _ _ _ h => h) (Or.inl ⟨by rfl, ?_⟩) hHeld ?_ ?_
        rotate_left
        ·rintro w' ⟨s0, s1, s2, s3, s4, s5, s6, s7, s8⟩
         go_simp
         with_reducible rfl
        rotate_left
        ·simp only [Act.put, List.setIfInBounds_toArray, List.set_cons_zero, List.set_cons_succ, i64_w, i32_w]
         rfl
        refine one_ (i := 2) (N := some 25) (fl10_ 43 7) rfl rfl (one_of HT_.out (by kernel_rfl)) (by decide) (fun K hK => ?_)
        refine goes_ Tryd.func14 (by kernel_rfl) rfl #[.string ((rd_T39 l0_0 x18_2).f0)] (by rfl) rfl rfl zar ?_
        with_reducible refine (impl_nameOK.calls k2 ((rd_T39 l0_0 x18_2).f0) true _ A16.out).mono ?_
        rintro e w79 ⟨rfl, hb⟩
        refine ⟨_, rfl, ?_⟩
        replace BK238 := Aside0.mk (blk_below (zb BK238) hb)
        replace BK240 := Aside0.mk (blk_below (zb BK240) hb)
        replace HB := Aside0.mk (below_step (zg HB) hb)
        (try clear hb)
        (try clear hb2)
        (try clear hk)
        (try clear hi)
        refine hK.out _ _ ⟨(blk_cell BK240.out 0).trans rfl, (blk_cell BK240.out 1).trans rfl, (blk_cell BK240.out 2).trans rfl, (blk_cell BK240.out 3).trans rfl, (blk_cell BK240.out 4).trans rfl, (blk_cell BK240.out 5).trans rfl, (blk_cell BK240.out 6).trans rfl, (blk_cell BK240.out 7).trans rfl, (blk_cell BK240.out 8).trans rfl⟩ (fun hHeld => ?_)
        clear hK K
        refine norm_ (a' := ?_) ?_ ?_
        rotate_left
        ·show Act.put _ (some 25) _ = _
         simp only [Act.put, List.setIfInBounds_toArray, List.set_cons_zero, List.set_cons_succ, i64_w, i32_w]
         rfl
        refine zpu HT_ 3 26 (fl10_ 43 15) ?_
        refine zpu HT_ 4 27 (fl10_ 43 31) ?_
        refine zpu HT_ 5 28 (fl10_ 43 63) ?_
        refine zpu HT_ 6 29 (fl10_ 43 127) ?_
        refine zpu HT_ 7 30 (fl10_ 43 255) ?_
        refine pure_ (i := 8) (N := some 31) (v := undef) (a' := ?_) (fl10_ 43 511) rfl rfl (any_of HT_.out (by kernel_rfl)) (fun _ _ _ h => h) (Or.inr ⟨by rfl, rfl⟩) ?_ ?_
        rotate_left
        ·simp only [Act.put, List.setIfInBounds_toArray, List.set_cons_zero, List.set_cons_succ, i64_w, i32_w]
         rfl
        refine pure_ (i := 9) (N := some 32) (v := undef) (a' := ?_) (fl10_ 43 1023) rfl rfl (any_of HT_.out (by kernel_rfl)) (fun _ _ _ h => h) (Or.inr ⟨by rfl, rfl⟩) ?_ ?_
        rotate_left
        ·simp only [Act.put, List.setIfInBounds_toArray, List.set_cons_zero, List.set_cons_succ, i64_w, i32_w]
         rfl
        refine pure_ (i := 10) (N := some 33) (v := undef) (a' := ?_) (fl10_ 43 2047) rfl rfl (any_of HT_.out (by kernel_rfl)) (fun _ _ _ h => h) (Or.inr ⟨by rfl, rfl⟩) ?_ ?_
        rotate_left
        ·simp only [Act.put, List.setIfInBounds_toArray, List.set_cons_zero, List.set_cons_succ, i64_w, i32_w]
         rfl
        refine pure_ (i := 11) (N := some 34) (v := undef) (a' := ?_) (fl10_ 43 4095) rfl rfl (any_of HT_.out (by kernel_rfl)) (fun _ _ _ h => h) (Or.inr ⟨by rfl, rfl⟩) ?_ ?_
        rotate_left
        ·simp only [Act.put, List.setIfInBounds_toArray, List.set_cons_zero, List.set_cons_succ, i64_w, i32_w]
         rfl
        refine pure_ (i := 12) (N := some 35) (v := undef) (a' := ?_) (fl10_ 43 8191) rfl rfl (any_of HT_.out (by kernel_rfl)) (fun _ _ _ h => h) (Or.inr ⟨by rfl, rfl⟩) ?_ ?_
        rotate_left
        ·simp only [Act.put, List.setIfInBounds_toArray, List.set_cons_zero, List.set_cons_succ, i64_w, i32_w]
         rfl
        refine pure_ (i := 13) (N := some 36) (v := undef) (a' := ?_) (fl10_ 43 16383) rfl rfl (any_of HT_.out (by kernel_rfl)) (fun _ _ _ h => h) (Or.inr ⟨by rfl, rfl⟩) ?_ ?_
        rotate_left
        ·simp only [Act.put, List.setIfInBounds_toArray, List.set_cons_zero, List.set_cons_succ, i64_w, i32_w]
         rfl
        refine pure_ (i := 14) (N := some 37) (v := undef) (a' := ?_) (fl10_ 43 32767) rfl rfl (any_of HT_.out (by kernel_rfl)) (fun _ _ _ h => h) (Or.inr ⟨by rfl, rfl⟩) ?_ ?_
        rotate_left
        ·simp only [Act.put, List.setIfInBounds_toArray, List.set_cons_zero, List.set_cons_succ, i64_w, i32_w]
         rfl
        refine pure_ (i := 15) (N := some 38) (v := undef) (a' := ?_) (fl10_ 43 65535) rfl rfl (any_of HT_.out (by kernel_rfl)) (fun _ _ _ h => h) (Or.inr ⟨by rfl, rfl⟩) ?_ ?_
        rotate_left
        ·simp only [Act.put, List.setIfInBounds_toArray, List.set_cons_zero, List.set_cons_succ, i64_w, i32_w]
         rfl
        refine pure_ (i := 16) (N := some 39) (v := undef) (a' := ?_) (fl10_ 43 131071) rfl rfl (any_of HT_.out (by kernel_rfl)) (fun _ _ _ h => h) (Or.inr ⟨by rfl, rfl⟩) ?_ ?_
        rotate_left
        ·simp only [Act.put, List.setIfInBounds_toArray, List.set_cons_zero, List.set_cons_succ, i64_w, i32_w]
         rfl
        refine pure_ (i := 17) (N := some 40) (v := undef) (a' := ?_) (fl10_ 43 262143) rfl rfl (any_of HT_.out (by kernel_rfl)) (fun _ _ _ h => h) (Or.inr ⟨by rfl, rfl⟩) ?_ ?_
        rotate_left
        ·simp only [Act.put, List.setIfInBounds_toArray, List.set_cons_zero, List.set_cons_succ, i64_w, i32_w]
         rfl
        refine zpu HT_ 18 41 (fl10_ 43 524287) ?_
        refine zpu HT_ 19 42 (fl10_ 43 1048575) ?_
        refine zpu HT_ 20 43 (fl10_ 43 2097151) ?_
        refine zpu HT_ 21 44 (fl10_ 43 4194303) ?_
        refine take_ (i := 22) (N := some 45) (v := ?_) (a' := ?_) (fl10_ 43 8388607) rfl rfl (take_ofW HT_.out HW_.out (by kernel_rfl)) (fun _ _ _ h => h) (Or.inl ⟨by rfl, ?_⟩) hHeld ?_ ?_
        rotate_left
        ·rintro w' ⟨s0, s1, s2, s3, s4, s5, s6, s7, s8⟩
         go_simp
         with_reducible rfl
        rotate_left
        ·simp only [Act.put, List.setIfInBounds_toArray, List.set_cons_zero, List.set_cons_succ, i64_w, i32_w]
         rfl
        refine one_ (i := 23) (N := some 46) (fl10_ 43 16777215) rfl rfl (one_of HT_.out (by kernel_rfl)) (by decide) (fun K hK => ?_)
        refine goes_ Tryd.func15 (by kernel_rfl) rfl #[.int .i64 ((rd_T39 l0_0 x18_2).f1), .int .i64 1, .int .i64 3] (by rfl) rfl rfl zar ?_
        with_reducible refine (impl_within.calls ((rd_T39 l0_0 x18_2).f1) 1 3 true _ A57.out).mono ?_
        rintro e w' ⟨rfl, ⟨nd, rfl⟩⟩
        refine ⟨_, rfl, ?_⟩
        refine hK.out _ _ ⟨(blk_cell BK240.out 0).trans rfl, (blk_cell BK240.out 1).trans rfl, (blk_cell BK240.out 2).trans rfl, (blk_cell BK240.out 3).trans rfl, (blk_cell BK240.out 4).trans rfl, (blk_cell BK240.out 5).trans rfl, (blk_cell BK240.out 6).trans rfl, (blk_cell BK240.out 7).trans rfl, (blk_cell BK240.out 8).trans rfl⟩ (fun hHeld => ?_)
        clear hK K
        refine norm_ (a' := ?_) ?_ ?_
        rotate_left
        ·show Act.put _ (some 46) _ = _
         simp only [Act.put, List.setIfInBounds_toArray, List.set_cons_zero, List.set_cons_succ, i64_w, i32_w]
         rfl
        refine zpu HT_ 24 47 (fl10_ 43 33554431) ?_
        refine zpu HT_ 25 48 (fl10_ 43 67108863) ?_
        refine zpu HT_ 26 49 (fl10_ 43 134217727) ?_
        refine zpu HT_ 27 50 (fl10_ 43 268435455) ?_
        refine take_ (i := 28) (N := some 51) (v := ?_) (a' := ?_) (fl10_ 43 536870911) rfl rfl (take_ofW HT_.out HW_.out (by kernel_rfl)) (fun _ _ _ h => h) (Or.inl ⟨by rfl, ?_⟩) hHeld ?_ ?_
        rotate_left
        ·rintro w' ⟨s0, s1, s2, s3, s4, s5, s6, s7, s8⟩
         go_simp
         with_reducible rfl
        rotate_left
        ·simp only [Act.put, List.setIfInBounds_toArray, List.set_cons_zero, List.set_cons_succ, i64_w, i32_w]
         rfl
        refine one_ (i := 29) (N := some 52) (fl10_ 43 1073741823) rfl rfl (one_of HT_.out (by kernel_rfl)) (by decide) (fun K hK => ?_)
        refine goes_ Tryd.func16 (by kernel_rfl) rfl #[.agg #[.bool ((rd_T39 l0_0 x18_2).f2.f0), .bool ((rd_T39 l0_0 x18_2).f2.f1), .bool ((rd_T39 l0_0 x18_2).f2.f2), .slice A239_5 ((rd_T39 l0_0 x18_2).f2.f3).length c239_5, .slice A239_6 ((rd_T39 l0_0 x18_2).f2.f4).length c239_6, .int .i64 ((rd_T39 l0_0 x18_2).f2.f5), .int .i64 ((rd_T39 l0_0 x18_2).f2.f6)]] (by rfl) rfl rfl zar ?_
        with_reducible refine (impl_AnalyzerOK.calls k2 ((rd_T39 l0_0 x18_2).f2.f0) ((rd_T39 l0_0 x18_2).f2.f1) ((rd_T39 l0_0 x18_2).f2.f2) _ _ ((rd_T39 l0_0 x18_2).f2.f3) _ _ ((rd_T39 l0_0 x18_2).f2.f4) ((rd_T39 l0_0 x18_2).f2.f5) ((rd_T39 l0_0 x18_2).f2.f6) false _ ?side1 ?side2 ?side3 ?side4 ?side5 A59.out).mono ?_
        (case side1 => exact zC (Kd.C_below HR239_5.out (zg HB)))
        (case side2 => exact HC239_5.out)
        (case side3 => exact zC (Kd.C_below HR239_6.out (zg HB)))
        (case side4 => exact HC239_6.out)
        (case side5 => exact TabW.below HT.out (zg HB))
        rintro e w81 ⟨rfl, hb⟩
        refine ⟨_, rfl, ?_⟩
        replace BK238 := Aside0.mk (blk_below (zb BK238) hb)
        replace BK240 := Aside0.mk (blk_below (zb BK240) hb)
        replace HB := Aside0.mk (below_step (zg HB) hb)
        (try clear hb)
        (try clear hb2)
        (try clear hk)
        (try clear hi)
        refine hK.out _ _ ⟨(blk_cell BK240.out 0).trans rfl, (blk_cell BK240.out 1).trans rfl, (blk_cell BK240.out 2).trans rfl, (blk_cell BK240.out 3).trans rfl, (blk_cell BK240.out 4).trans rfl, (blk_cell BK240.out 5).trans rfl, (blk_cell BK240.out 6).trans rfl, (blk_cell BK240.out 7).trans rfl, (blk_cell BK240.out 8).trans rfl⟩ (fun hHeld => ?_)
        clear hK K
        refine norm_ (a' := ?_) ?_ ?_
        rotate_left
        ·show Act.put _ (some 52) _ = _
         simp only [Act.put, List.setIfInBounds_toArray, List.set_cons_zero, List.set_cons_succ, i64_w, i32_w]
         rfl
        refine zpu HT_ 30 53 (fl10_ 43 2147483647) ?_
        refine zpu HT_ 31 54 (fl10_ 43 4294967295) ?_
        refine zpu HT_ 32 55 (fl10_ 43 8589934591) ?_
        refine pure_ (i := 33) (N := some 56) (v := undef) (a' := ?_) (fl10_ 43 17179869183) rfl rfl (any_of HT_.out (by kernel_rfl)) (fun _ _ _ h => h) (Or.inr ⟨by rfl, rfl⟩) ?_ ?_
        rotate_left
        ·simp only [Act.put, List.setIfInBounds_toArray, List.set_cons_zero, List.set_cons_succ, i64_w, i32_w]
         rfl
        refine pure_ (i := 34) (N := some 57) (v := undef) (a' := ?_) (fl10_ 43 34359738367) rfl rfl (any_of HT_.out (by kernel_rfl)) (fun _ _ _ h => h) (Or.inr ⟨by rfl, rfl⟩) ?_ ?_
        rotate_left
        ·simp only [Act.put, List.setIfInBounds_toArray, List.set_cons_zero, List.set_cons_succ, i64_w, i32_w]
         rfl
        refine pure_ (i := 35) (N := some 58) (v := undef) (a' := ?_) (fl10_ 43 68719476735) rfl rfl (any_of HT_.out (by kernel_rfl)) (fun _ _ _ h => h) (Or.inr ⟨by rfl, rfl⟩) ?_ ?_
        rotate_left
        ·simp only [Act.put, List.setIfInBounds_toArray, List.set_cons_zero, List.set_cons_succ, i64_w, i32_w]
         rfl
        refine pure_ (i := 36) (N := some 59) (v := undef) (a' := ?_) (fl10_ 43 137438953471) rfl rfl (any_of HT_.out (by kernel_rfl)) (fun _ _ _ h => h) (Or.inr ⟨by rfl, rfl⟩) ?_ ?_
        rotate_left
        ·simp only [Act.put, List.setIfInBounds_toArray, List.set_cons_zero, List.set_cons_succ, i64_w, i32_w]
         rfl
        refine pure_ (i := 37) (N := some 60) (v := undef) (a' := ?_) (fl10_ 43 274877906943) rfl rfl (any_of HT_.out (by kernel_rfl)) (fun _ _ _ h => h) (Or.inr ⟨by rfl, rfl⟩) ?_ ?_
        rotate_left
        ·simp only [Act.put, List.setIfInBounds_toArray, List.set_cons_zero, List.set_cons_succ, i64_w, i32_w]
         rfl
        refine pure_ (i := 38) (N := some 61) (v := undef) (a' := ?_) (fl10_ 43 549755813887) rfl rfl (any_of HT_.out (by kernel_rfl)) (fun _ _ _ h => h) (Or.inr ⟨by rfl, rfl⟩) ?_ ?_
        rotate_left
        ·simp only [Act.put, List.setIfInBounds_toArray, List.set_cons_zero, List.set_cons_succ, i64_w, i32_w]
         rfl
        refine pure_ (i := 39) (N := some 62) (v := undef) (a' := ?_) (fl10_ 43 1099511627775) rfl rfl (any_of HT_.out (by kernel_rfl)) (fun _ _ _ h => h) (Or.inr ⟨by rfl, rfl⟩) ?_ ?_
        rotate_left
        ·simp only [Act.put, List.setIfInBounds_toArray, List.set_cons_zero, List.set_cons_succ, i64_w, i32_w]
         rfl
        refine pure_ (i := 40) (N := some 63) (v := undef) (a' := ?_) (fl10_ 43 2199023255551) rfl rfl (any_of HT_.out (by kernel_rfl)) (fun _ _ _ h => h) (Or.inr ⟨by rfl, rfl⟩) ?_ ?_
        rotate_left
        ·simp only [Act.put, List.setIfInBounds_toArray, List.set_cons_zero, List.set_cons_succ, i64_w, i32_w]
         rfl
        refine pure_ (i := 41) (N := some 64) (v := undef) (a' := ?_) (fl10_ 43 4398046511103) rfl rfl (any_of HT_.out (by kernel_rfl)) (fun _ _ _ h => h) (Or.inr ⟨by rfl, rfl⟩) ?_ ?_
        rotate_left
        ·simp only [Act.put, List.setIfInBounds_toArray, List.set_cons_zero, List.set_cons_succ, i64_w, i32_w]
         rfl
        refine zpu HT_ 42 65 (fl10_ 43 8796093022207) ?_
        refine done_ (done_of HT_.out (by kernel_rfl)) ?_
        try go_wp2
        go_meet
        case rel => exact ⟨_, (true), zrs, H', ⟨by have := HJ1.out; have := HK2.out; first | omega | exact Nat.le_refl _⟩, ⟨zb BK238⟩, ⟨zb BK240⟩, ⟨zg HB⟩⟩
       subst c60
       rw [if_pos rfl] at H
       by_cases c61 : ((rd_T39 l0_0 x18_2).f1) = 1
       ·rw [if_pos c61] at H
        have c61b0 : (((rd_T39 l0_0 x18_2).f1) == 1) = true := beq_iff_eq.mpr c61
        have c61b1 : (((rd_T39 l0_0 x18_2).f1) != 1) = false := bne_eq_false_iff_eq.mpr c61
        clear c61
        have H' := Aside0.mk H
        clear H
        try go_wp2
        have n0_ : Aside0 ((((((((((w13.setCell ⟨gb240, 0, none⟩ (.string ((rd_T39 l0_0 x18_2).f0))).setCell ⟨gb240, 1, none⟩ (.int .i64 ((rd_T39 l0_0 x18_2).f1))).setCell ⟨gb240, 2, none⟩ (.bool ((rd_T39 l0_0 x18_2).f2.f0))).setCell ⟨gb240, 3, none⟩ (.bool ((rd_T39 l0_0 x18_2).f2.f1))).setCell ⟨gb240, 4, none⟩ (.bool ((rd_T39 l0_0 x18_2).f2.f2))).setCell ⟨gb240, 5, none⟩ (.slice A239_5 ((rd_T39 l0_0 x18_2).f2.f3).length c239_5)).setCell ⟨gb240, 6, none⟩ (.slice A239_6 ((rd_T39 l0_0 x18_2).f2.f4).length c239_6)).setCell ⟨gb240, 7, none⟩ (.int .i64 ((rd_T39 l0_0 x18_2).f2.f5))).setCell ⟨gb240, 8, none⟩ (.int .i64 ((rd_T39 l0_0 x18_2).f2.f6))).heap[gb238]? = some (.cells #[.slice (some ad239) l0_0.length c0_0] 29 (0, 0))) := ⟨zp BK238⟩
        have n1_ : Aside0 ((((((((((w13.setCell ⟨gb240, 0, none⟩ (.string ((rd_T39 l0_0 x18_2).f0))).setCell ⟨gb240, 1, none⟩ (.int .i64 ((rd_T39 l0_0 x18_2).f1))).setCell ⟨gb240, 2, none⟩ (.bool ((rd_T39 l0_0 x18_2).f2.f0))).setCell ⟨gb240, 3, none⟩ (.bool ((rd_T39 l0_0 x18_2).f2.f1))).setCell ⟨gb240, 4, none⟩ (.bool ((rd_T39 l0_0 x18_2).f2.f2))).setCell ⟨gb240, 5, none⟩ (.slice A239_5 ((rd_T39 l0_0 x18_2).f2.f3).length c239_5)).setCell ⟨gb240, 6, none⟩ (.slice A239_6 ((rd_T39 l0_0 x18_2).f2.f4).length c239_6)).setCell ⟨gb240, 7, none⟩ (.int .i64 ((rd_T39 l0_0 x18_2).f2.f5))).setCell ⟨gb240, 8, none⟩ (.int .i64 ((rd_T39 l0_0 x18_2).f2.f6))).heap[gb240]? = some (.cells #[.string ((rd_T39 l0_0 x18_2).f0), .int .i64 ((rd_T39 l0_0 x18_2).f1), .bool ((rd_T39 l0_0 x18_2).f2.f0), .bool ((rd_T39 l0_0 x18_2).f2.f1), .bool ((rd_T39 l0_0 x18_2).f2.f2), .slice A239_5 ((rd_T39 l0_0 x18_2).f2.f3).length c239_5, .slice A239_6 ((rd_T39 l0_0 x18_2).f2.f4).length c239_6, .int .i64 ((rd_T39 l0_0 x18_2).f2.f5), .int .i64 ((rd_T39 l0_0 x18_2).f2.f6)] 39 (0, 0))) := ⟨zp BK240⟩
        have n2_ : Aside0 (Below w.heap.size w (((((((((w13.setCell ⟨gb240, 0, none⟩ (.string ((rd_T39 l0_0 x18_2).f0))).setCell ⟨gb240, 1, none⟩ (.int .i64 ((rd_T39 l0_0 x18_2).f1))).setCell ⟨gb240, 2, none⟩ (.bool ((rd_T39 l0_0 x18_2).f2.f0))).setCell ⟨gb240, 3, none⟩ (.bool ((rd_T39 l0_0 x18_2).f2.f1))).setCell ⟨gb240, 4, none⟩ (.bool ((rd_T39 l0_0 x18_2).f2.f2))).setCell ⟨gb240, 5, none⟩ (.slice A239_5 ((rd_T39 l0_0 x18_2).f2.f3).length c239_5)).setCell ⟨gb240, 6, none⟩ (.slice A239_6 ((rd_T39 l0_0 x18_2).f2.f4).length c239_6)).setCell ⟨gb240, 7, none⟩ (.int .i64 ((rd_T39 l0_0 x18_2).f2.f5))).setCell ⟨gb240, 8, none⟩ (.int .i64 ((rd_T39 l0_0 x18_2).f2.f6)))) := ⟨zg HB⟩
        (try clear BK238)
        (try clear BK240)
        (try clear HB)
        generalize (((((((((w13.setCell ⟨gb240, 0, none⟩ (.string ((rd_T39 l0_0 x18_2).f0))).setCell ⟨gb240, 1, none⟩ (.int .i64 ((rd_T39 l0_0 x18_2).f1))).setCell ⟨gb240, 2, none⟩ (.bool ((rd_T39 l0_0 x18_2).f2.f0))).setCell ⟨gb240, 3, none⟩ (.bool ((rd_T39 l0_0 x18_2).f2.f1))).setCell ⟨gb240, 4, none⟩ (.bool ((rd_T39 l0_0 x18_2).f2.f2))).setCell ⟨gb240, 5, none⟩ (.slice A239_5 ((rd_T39 l0_0 x18_2).f2.f3).length c239_5)).setCell ⟨gb240, 6, none⟩ (.slice A239_6 ((rd_T39 l0_0 x18_2).f2.f4).length c239_6)).setCell ⟨gb240, 7, none⟩ (.int .i64 ((rd_T39 l0_0 x18_2).f2.f5))).setCell ⟨gb240, 8, none⟩ (.int .i64 ((rd_T39 l0_0 x18_2).f2.f6))) = w62 at n0_ n1_ n2_ ⊢
        have BK238 := n0_
        have BK240 := n1_
        have HB := n2_
        clear n0_ n1_ n2_
        replace BK238 := Aside0.mk (blk_drew BK238.out)
        replace BK240 := Aside0.mk (blk_drew BK240.out)
        replace HB := Aside0.mk (below_drew1 HB.out)
        refine start_ (n := 43) (S := fun w' => w'.cell? ⟨gb240, 0, none⟩ = some (.string ((rd_T39 l0_0 x18_2).f0)) ∧ w'.cell? ⟨gb240, 1, none⟩ = some (.int .i64 ((rd_T39 l0_0 x18_2).f1)) ∧ w'.cell? ⟨gb240, 2, none⟩ = some (.bool ((rd_T39 l0_0 x18_2).f2.f0)) ∧ w'.cell? ⟨gb240, 3, none⟩ = some (.bool ((rd_T39 l0_0 x18_2).f2.f1)) ∧ w'.cell? ⟨gb240, 4, none⟩ = some (.bool ((rd_T39 l0_0 x18_2).f2.f2)) ∧ w'.cell? ⟨gb240, 5, none⟩ = some (.slice A239_5 ((rd_T39 l0_0 x18_2).f2.f3).length c239_5) ∧ w'.cell? ⟨gb240, 6, none⟩ = some (.slice A239_6 ((rd_T39 l0_0 x18_2).f2.f4).length c239_6) ∧ w'.cell? ⟨gb240, 7, none⟩ = some (.int .i64 ((rd_T39 l0_0 x18_2).f2.f5)) ∧ w'.cell? ⟨gb240, 8, none⟩ = some (.int .i64 ((rd_T39 l0_0 x18_2).f2.f6))) (ds := []) (fl10_ 43 0) (by kernel_rfl) rfl rfl ⟨(blk_cell BK240.out 0).trans rfl, (blk_cell BK240.out 1).trans rfl, (blk_cell BK240.out 2).trans rfl, (blk_cell BK240.out 3).trans rfl, (blk_cell BK240.out 4).trans rfl, (blk_cell BK240.out 5).trans rfl, (blk_cell BK240.out 6).trans rfl, (blk_cell BK240.out 7).trans rfl, (blk_cell BK240.out 8).trans rfl⟩ (fun hHeld => ?_); refine with_tabW impl_SchemaOK.tab6 impl_SchemaOK.bits6 (fun HT_ HW_ => ?_)
        generalize w62.drew = w63 at BK238 BK240 HB hHeld ⊢
        refine zpu HT_ 0 23 (fl10_ 43 1) ?_
        refine take_ (i := 1) (N := some 24) (v := ?_) (a' := ?_) (fl10_ 43 3) rfl rfl (take_ofW HT_.out HW_.out (by kernel_rfl)) (fun _ _ _ h => h) (Or.inl ⟨by rfl, ?_⟩) hHeld ?_ ?_
        rotate_left
        ·rintro w' ⟨s0, s1, s2, s3, s4, s5, s6, s7, s8⟩
         go_simp
         with_reducible rfl
        rotate_left
        ·simp only [Act.put, List.setIfInBounds_toArray, List.set_cons_zero, List.set_cons_succ, i64_w, i32_w]
         rfl
        refine one_ (i := 2) (N := some 25) (fl10_ 43 7) rfl rfl (one_of HT_.out (by kernel_rfl)) (by decide) (fun K hK => ?_)
        refine goes_ Tryd.func14 (by kernel_rfl) rfl #[.string ((rd_T39 l0_0 x18_2).f0)] (by rfl) rfl rfl zar ?_
        with_reducible refine (impl_nameOK.calls k2 ((rd_T39 l0_0 x18_2).f0) true _ A16.out).mono ?_
        rintro e w64 ⟨rfl, hb⟩
        refine ⟨_, rfl, ?_⟩
        replace BK238 := Aside0.mk (blk_below (zb BK238) hb)
        replace BK240 := Aside0.mk (blk_below (zb BK240) hb)
        replace HB := Aside0.mk (below_step (zg HB) hb)
        (try clear hb)
        (try clear hb2)
        (try clear hk)
        (try clear hi)
        refine hK.out _ _ ⟨(blk_cell BK240.out 0).trans rfl, (blk_cell BK240.out 1).trans rfl, (blk_cell BK240.out 2).trans rfl, (blk_cell BK240.out 3).trans rfl, (blk_cell BK240.out 4).trans rfl, (blk_cell BK240.out 5).trans rfl, (blk_cell BK240.out 6).trans rfl, (blk_cell BK240.out 7).trans rfl, (blk_cell BK240.out 8).trans rfl⟩ (fun hHeld => ?_)
        clear hK K
        refine norm_ (a' := ?_) ?_ ?_
        rotate_left
        ·show Act.put _ (some 25) _ = _
         simp only [Act.put, List.setIfInBounds_toArray, List.set_cons_zero, List.set_cons_succ, i64_w, i32_w]
         rfl
        refine zpu HT_ 3 26 (fl10_ 43 15) ?_
        refine zpu HT_ 4 27 (fl10_ 43 31) ?_
        refine zpu HT_ 5 28 (fl10_ 43 63) ?_
        refine zpu HT_ 6 29 (fl10_ 43 127) ?_
        refine zpu HT_ 7 30 (fl10_ 43 255) ?_
        refine pure_ (i := 8) (N := some 31) (v := undef) (a' := ?_) (fl10_ 43 511) rfl rfl (any_of HT_.out (by kernel_rfl)) (fun _ _ _ h => h) (Or.inr ⟨by rfl, rfl⟩) ?_ ?_
        rotate_left
        ·simp only [Act.put, List.setIfInBounds_toArray, List.set_cons_zero, List.set_cons_succ, i64_w, i32_w]
         rfl
        refine pure_ (i := 9) (N := some 32) (v := undef) (a' := ?_) (fl10_ 43 1023) rfl rfl (any_of HT_.out (by kernel_rfl)) (fun _ _ _ h => h) (Or.inr ⟨by rfl, rfl⟩) ?_ ?_
        rotate_left
        ·simp only [Act.put, List.setIfInBounds_toArray, List.set_cons_zero, List.set_cons_succ, i64_w, i32_w]
         rfl
        refine pure_ (i := 10) (N := some 33) (v := undef) (a' := ?_) (fl10_ 43 2047) rfl rfl (any_of HT_.out (by kernel_rfl)) (fun _ _ _ h => h) (Or.inr ⟨by rfl, rfl⟩) ?_ ?_
        rotate_left
        ·simp only [Act.put, List.setIfInBounds_toArray, List.set_cons_zero, List.set_cons_succ, i64_w, i32_w]
         rfl
        refine pure_ (i := 11) (N := some 34) (v := undef) (a' := ?_) (fl10_ 43 4095) rfl rfl (any_of HT_.out (by kernel_rfl)) (fun _ _ _ h => h) (Or.inr ⟨by rfl, rfl⟩) ?_ ?_
        rotate_left
        ·simp only [Act.put, List.setIfInBounds_toArray, List.set_cons_zero, List.set_cons_succ, i64_w, i32_w]
         rfl
        refine pure_ (i := 12) (N := some 35) (v := undef) (a' := ?_) (fl10_ 43 8191) rfl rfl (any_of HT_.out (by kernel_rfl)) (fun _ _ _ h => h) (Or.inr ⟨by rfl, rfl⟩) ?_ ?_
        rotate_left
        ·simp only [Act.put, List.setIfInBounds_toArray, List.set_cons_zero, List.set_cons_succ, i64_w, i32_w]
         rfl
        refine pure_ (i := 13) (N := some 36) (v := undef) (a' := ?_) (fl10_ 43 16383) rfl rfl (any_of HT_.out (by kernel_rfl)) (fun _ _ _ h => h) (Or.inr ⟨by rfl, rfl⟩) ?_ ?_
        rotate_left
        ·simp only [Act.put, List.setIfInBounds_toArray, List.set_cons_zero, List.set_cons_succ, i64_w, i32_w]
         rfl
        refine pure_ (i := 14) (N := some 37) (v := undef) (a' := ?_) (fl10_ 43 32767) rfl rfl (any_of HT_.out (by kernel_rfl)) (fun _ _ _ h => h) (Or.inr ⟨by rfl, rfl⟩) ?_ ?_
        rotate_left
        ·simp only [Act.put, List.setIfInBounds_toArray, List.set_cons_zero, List.set_cons_succ, i64_w, i32_w]
         rfl
        refine pure_ (i := 15) (N := some 38) (v := undef) (a' := ?_) (fl10_ 43 65535) rfl rfl (any_of HT_.out (by kernel_rfl)) (fun _ _ _ h => h) (Or.inr ⟨by rfl, rfl⟩) ?_ ?_
        rotate_left
        ·simp only [Act.put, List.setIfInBounds_toArray, List.set_cons_zero, List.set_cons_succ, i64_w, i32_w]
         rfl
        refine pure_ (i := 16) (N := some 39) (v := undef) (a' := ?_) (fl10_ 43 131071) rfl rfl (any_of HT_.out (by kernel_rfl)) (fun _ _ _ h => h) (Or.inr ⟨by rfl, rfl⟩) ?_ ?_
        rotate_left
        ·simp only [Act.put, List.setIfInBounds_toArray, List.set_cons_zero, List.set_cons_succ, i64_w, i32_w]
         rfl
        refine pure_ (i := 17) (N := some 40) (v := undef) (a' := ?_) (fl10_ 43 262143) rfl rfl (any_of HT_.out (by kernel_rfl)) (fun _ _ _ h => h) (Or.inr ⟨by rfl, rfl⟩) ?_ ?_
        rotate_left
        ·simp only [Act.put, List.setIfInBounds_toArray, List.set_cons_zero, List.set_cons_succ, i64_w, i32_w]
         rfl
        refine zpu HT_ 18 41 (fl10_ 43 524287) ?_
        refine zpu HT_ 19 42 (fl10_ 43 1048575) ?_
        refine zpu HT_ 20 43 (fl10_ 43 2097151) ?_
        refine zpu HT_ 21 44 (fl10_ 43 4194303) ?_
        refine take_ (i := 22) (N := some 45) (v := ?_) (a' := ?_) (fl10_ 43 8388607) rfl rfl (take_ofW HT_.out HW_.out (by kernel_rfl)) (fun _ _ _ h => h) (Or.inl ⟨by rfl, ?_⟩) hHeld ?_ ?_
        rotate_left
        ·rintro w' ⟨s0, s1, s2, s3, s4, s5, s6, s7, s8⟩
         go_simp
         with_reducible rfl
        rotate_left
        ·simp only [Act.put, List.setIfInBounds_toArray, List.set_cons_zero, List.set_cons_succ, i64_w, i32_w]
         rfl
        refine one_ (i := 23) (N := some 46) (fl10_ 43 16777215) rfl rfl (one_of HT_.out (by kernel_rfl)) (by decide) (fun K hK => ?_)
        refine goes_ Tryd.func15 (by kernel_rfl) rfl #[.int .i64 ((rd_T39 l0_0 x18_2).f1), .int .i64 1, .int .i64 3] (by rfl) rfl rfl zar ?_
        with_reducible refine (impl_within.calls ((rd_T39 l0_0 x18_2).f1) 1 3 true _ A57.out).mono ?_
        rintro e w' ⟨rfl, ⟨nd, rfl⟩⟩
        refine ⟨_, rfl, ?_⟩
        refine hK.out _ _ ⟨(blk_cell BK240.out 0).trans rfl, (blk_cell BK240.out 1).trans rfl, (blk_cell BK240.out 2).trans rfl, (blk_cell BK240.out 3).trans rfl, (blk_cell BK240.out 4).trans rfl, (blk_cell BK240.out 5).trans rfl, (blk_cell BK240.out 6).trans rfl, (blk_cell BK240.out 7).trans rfl, (blk_cell BK240.out 8).trans rfl⟩ (fun hHeld => ?_)
        clear hK K
        refine norm_ (a' := ?_) ?_ ?_
        rotate_left
        ·show Act.put _ (some 46) _ = _
         simp only [Act.put, List.setIfInBounds_toArray, List.set_cons_zero, List.set_cons_succ, i64_w, i32_w]
         rfl
        refine zpu HT_ 24 47 (fl10_ 43 33554431) ?_
        refine zpu HT_ 25 48 (fl10_ 43 67108863) ?_
        refine zpu HT_ 26 49 (fl10_ 43 134217727) ?_
        refine zpu HT_ 27 50 (fl10_ 43 268435455) ?_
        refine take_ (i := 28) (N := some 51) (v := ?_) (a' := ?_) (fl10_ 43 536870911) rfl rfl (take_ofW HT_.out HW_.out (by kernel_rfl)) (fun _ _ _ h => h) (Or.inl ⟨by rfl, ?_⟩) hHeld ?_ ?_
        rotate_left
        ·rintro w' ⟨s0, s1, s2, s3, s4, s5, s6, s7, s8⟩
         go_simp
         with_reducible rfl
        rotate_left
        ·simp only [Act.put, List.setIfInBounds_toArray, List.set_cons_zero, List.set_cons_succ, i64_w, i32_w]
         rfl
        refine one_ (i := 29) (N := some 52) (fl10_ 43 1073741823) rfl rfl (one_of HT_.out (by kernel_rfl)) (by decide) (fun K hK => ?_)
        refine goes_ Tryd.func16 (by kernel_rfl) rfl #[.agg #[.bool ((rd_T39 l0_0 x18_2).f2.f0), .bool ((rd_T39 l0_0 x18_2).f2.f1), .bool ((rd_T39 l0_0 x18_2).f2.f2), .slice A239_5 ((rd_T39 l0_0 x18_2).f2.f3).length c239_5, .slice A239_6 ((rd_T39 l0_0 x18_2).f2.f4).length c239_6, .int .i64 ((rd_T39 l0_0 x18_2).f2.f5), .int .i64 ((rd_T39 l0_0 x18_2).f2.f6)]] (by rfl) rfl rfl zar ?_
        with_reducible refine (impl_AnalyzerOK.calls k2 ((rd_T39 l0_0 x18_2).f2.f0) ((rd_T39 l0_0 x18_2).f2.f1) ((rd_T39 l0_0 x18_2).f2.f2) _ _ ((rd_T39 l0_0 x18_2).f2.f3) _ _ ((rd_T39 l0_0 x18_2).f2.f4) ((rd_T39 l0_0 x18_2).f2.f5) ((rd_T39 l0_0 x18_2).f2.f6) true _ ?side1 ?side2 ?side3 ?side4 ?side5 A59.out).mono ?_
        (case side1 => exact zC (Kd.C_below HR239_5.out (zg HB)))
        (case side2 => exact HC239_5.out)
        (case side3 => exact zC (Kd.C_below HR239_6.out (zg HB)))
        (case side4 => exact HC239_6.out)
        (case side5 => exact TabW.below HT.out (zg HB))
        rintro e w66 ⟨rfl, hb⟩
        refine ⟨_, rfl, ?_⟩
        replace BK238 := Aside0.mk (blk_below (zb BK238) hb)
        replace BK240 := Aside0.mk (blk_below (zb BK240) hb)
        replace HB := Aside0.mk (below_step (zg HB) hb)
        (try clear hb)
        (try clear hb2)
        (try clear hk)
        (try clear hi)
        refine hK.out _ _ ⟨(blk_cell BK240.out 0).trans rfl, (blk_cell BK240.out 1).trans rfl, (blk_cell BK240.out 2).trans rfl, (blk_cell BK240.out 3).trans rfl, (blk_cell BK240.out 4).trans rfl, (blk_cell BK240.out 5).trans rfl, (blk_cell BK240.out 6).trans rfl, (blk_cell BK240.out 7).trans rfl, (blk_cell BK240.out 8).trans rfl⟩ (fun hHeld => ?_)
        clear hK K
        refine norm_ (a' := ?_) ?_ ?_
        rotate_left
        ·show Act.put _ (some 52) _ = _
         simp only [Act.put, List.setIfInBounds_toArray, List.set_cons_zero, List.set_cons_succ, i64_w, i32_w]
         rfl
        refine zpu HT_ 30 53 (fl10_ 43 2147483647) ?_
        refine zpu HT_ 31 54 (fl10_ 43 4294967295) ?_
        refine zpu HT_ 32 55 (fl10_ 43 8589934591) ?_
        refine zpu HT_ 33 56 (fl10_ 43 17179869183) ?_
        refine take_ (i := 34) (N := some 57) (v := ?_) (a' := ?_) (fl10_ 43 34359738367) rfl rfl (take_ofW HT_.out HW_.out (by kernel_rfl)) (fun _ _ _ h => h) (Or.inl ⟨by rfl, ?_⟩) hHeld ?_ ?_
        rotate_left
        ·rintro w' ⟨s0, s1, s2, s3, s4, s5, s6, s7, s8⟩
         go_simp
         with_reducible rfl
        rotate_left
        ·simp only [Act.put, List.setIfInBounds_toArray, List.set_cons_zero, List.set_cons_succ, i64_w, i32_w]
         rfl
        refine zpu HT_ 35 58 (fl10_ 43 68719476735) ?_
        refine zpu HT_ 36 59 (fl10_ 43 137438953471) ?_
        refine pure_ (i := 37) (N := some 60) (v := undef) (a' := ?_) (fl10_ 43 274877906943) rfl rfl (any_of HT_.out (by kernel_rfl)) (fun _ _ _ h => h) (Or.inr ⟨by rfl, rfl⟩) ?_ ?_
        rotate_left
        ·simp only [Act.put, List.setIfInBounds_toArray, List.set_cons_zero, List.set_cons_succ, i64_w, i32_w]
         rfl
        refine pure_ (i := 38) (N := some 61) (v := undef) (a' := ?_) (fl10_ 43 549755813887) rfl rfl (any_of HT_.out (by kernel_rfl)) (fun _ _ _ h => h) (Or.inr ⟨by rfl, rfl⟩) ?_ ?_
        rotate_left
        ·simp only [Act.put, List.setIfInBounds_toArray, List.set_cons_zero, List.set_cons_succ, i64_w, i32_w]
         rfl
        refine pure_ (i := 39) (N := some 62) (v := undef) (a' := ?_) (fl10_ 43 1099511627775) rfl rfl (any_of HT_.out (by kernel_rfl)) (fun _ _ _ h => h) (Or.inr ⟨by rfl, rfl⟩) ?_ ?_
        rotate_left
        ·simp only [Act.put, List.setIfInBounds_toArray, List.set_cons_zero, List.set_cons_succ, i64_w, i32_w]
         rfl
        refine pure_ (i := 40) (N := some 63) (v := undef) (a' := ?_) (fl10_ 43 2199023255551) rfl rfl (any_of HT_.out (by kernel_rfl)) (fun _ _ _ h => h) (Or.inr ⟨by rfl, rfl⟩) ?_ ?_
        rotate_left
        ·simp only [Act.put, List.setIfInBounds_toArray, List.set_cons_zero, List.set_cons_succ, i64_w, i32_w]
         rfl
        refine zpu HT_ 41 64 (fl10_ 43 4398046511103) ?_
        refine zpu HT_ 42 65 (fl10_ 43 8796093022207) ?_
        refine done_ (done_of HT_.out (by kernel_rfl)) ?_
        try go_wp2
        go_meet
        case rel => exact ⟨_, (false), zrs, H', ⟨by have := HJ1.out; have := HK2.out; first | omega | exact Nat.le_refl _⟩, ⟨zb BK238⟩, ⟨zb BK240⟩, ⟨zg HB⟩⟩
       rw [if_neg c61] at H
       have c61b0 : (((rd_T39 l0_0 x18_2).f1) == 1) = false := beq_eq_false_iff_ne.mpr c61
       have c61b1 : (((rd_T39 l0_0 x18_2).f1) != 1) = true := bne_iff_ne.mpr c61
       replace H := Option.bind_eq_some_iff.mp H
       obtain ⟨t248, A680, H⟩ := H
       try dsimp only at H
       have A68 := Aside0.mk A680
       clear A680
       have H' := Aside0.mk H
       clear H
       try go_wp2
       have n0_ : Aside0 ((((((((((w13.setCell ⟨gb240, 0, none⟩ (.string ((rd_T39 l0_0 x18_2).f0))).setCell ⟨gb240, 1, none⟩ (.int .i64 ((rd_T39 l0_0 x18_2).f1))).setCell ⟨gb240, 2, none⟩ (.bool ((rd_T39 l0_0 x18_2).f2.f0))).setCell ⟨gb240, 3, none⟩ (.bool ((rd_T39 l0_0 x18_2).f2.f1))).setCell ⟨gb240, 4, none⟩ (.bool ((rd_T39 l0_0 x18_2).f2.f2))).setCell ⟨gb240, 5, none⟩ (.slice A239_5 ((rd_T39 l0_0 x18_2).f2.f3).length c239_5)).setCell ⟨gb240, 6, none⟩ (.slice A239_6 ((rd_T39 l0_0 x18_2).f2.f4).length c239_6)).setCell ⟨gb240, 7, none⟩ (.int .i64 ((rd_T39 l0_0 x18_2).f2.f5))).setCell ⟨gb240, 8, none⟩ (.int .i64 ((rd_T39 l0_0 x18_2).f2.f6))).heap[gb238]? = some (.cells #[.slice (some ad239) l0_0.length c0_0] 29 (0, 0))) := ⟨zp BK238⟩
       have n1_ : Aside0 ((((((((((w13.setCell ⟨gb240, 0, none⟩ (.string ((rd_T39 l0_0 x18_2).f0))).setCell ⟨gb240, 1, none⟩ (.int .i64 ((rd_T39 l0_0 x18_2).f1))).setCell ⟨gb240, 2, none⟩ (.bool ((rd_T39 l0_0 x18_2).f2.f0))).setCell ⟨gb240, 3, none⟩ (.bool ((rd_T39 l0_0 x18_2).f2.f1))).setCell ⟨gb240, 4, none⟩ (.bool ((rd_T39 l0_0 x18_2).f2.f2))).setCell ⟨gb240, 5, none⟩ (.slice A239_5 ((rd_T39 l0_0 x18_2).f2.f3).length c239_5)).setCell ⟨gb240, 6, none⟩ (.slice A239_6 ((rd_T39 l0_0 x18_2).f2.f4).length c239_6)).setCell ⟨gb240, 7, none⟩ (.int .i64 ((rd_T39 l0_0 x18_2).f2.f5))).setCell ⟨gb240, 8, none⟩ (.int .i64 ((rd_T39 l0_0 x18_2).f2.f6))).heap[gb240]? = some (.cells #[.string ((rd_T39 l0_0 x18_2).f0), .int .i64 ((rd_T39 l0_0 x18_2).f1), .bool ((rd_T39 l0_0 x18_2).f2.f0), .bool ((rd_T39 l0_0 x18_2).f2.f1), .bool ((rd_T39 l0_0 x18_2).f2.f2), .slice A239_5 ((rd_T39 l0_0 x18_2).f2.f3).length c239_5, .slice A239_6 ((rd_T39 l0_0 x18_2).f2.f4).length c239_6, .int .i64 ((rd_T39 l0_0 x18_2).f2.f5), .int .i64 ((rd_T39 l0_0 x18_2).f2.f6)] 39 (0, 0))) := ⟨zp BK240⟩
       have n2_ : Aside0 (Below w.heap.size w (((((((((w13.setCell ⟨gb240, 0, none⟩ (.string ((rd_T39 l0_0 x18_2).f0))).setCell ⟨gb240, 1, none⟩ (.int .i64 ((rd_T39 l0_0 x18_2).f1))).setCell ⟨gb240, 2, none⟩ (.bool ((rd_T39 l0_0 x18_2).f2.f0))).setCell ⟨gb240, 3, none⟩ (.bool ((rd_T39 l0_0 x18_2).f2.f1))).setCell ⟨gb240, 4, none⟩ (.bool ((rd_T39 l0_0 x18_2).f2.f2))).setCell ⟨gb240, 5, none⟩ (.slice A239_5 ((rd_T39 l0_0 x18_2).f2.f3).length c239_5)).setCell ⟨gb240, 6, none⟩ (.slice A239_6 ((rd_T39 l0_0 x18_2).f2.f4).length c239_6)).setCell ⟨gb240, 7, none⟩ (.int .i64 ((rd_T39 l0_0 x18_2).f2.f5))).setCell ⟨gb240, 8, none⟩ (.int .i64 ((rd_T39 l0_0 x18_2).f2.f6)))) := ⟨zg HB⟩
       (try clear BK238)
       (try clear BK240)
       (try clear HB)
       generalize (((((((((w13.setCell ⟨gb240, 0, none⟩ (.string ((rd_T39 l0_0 x18_2).f0))).setCell ⟨gb240, 1, none⟩ (.int .i64 ((rd_T39 l0_0 x18_2).f1))).setCell ⟨gb240, 2, none⟩ (.bool ((rd_T39 l0_0 x18_2).f2.f0))).setCell ⟨gb240, 3, none⟩ (.bool ((rd_T39 l0_0 x18_2).f2.f1))).setCell ⟨gb240, 4, none⟩ (.bool ((rd_T39 l0_0 x18_2).f2.f2))).setCell ⟨gb240, 5, none⟩ (.slice A239_5 ((rd_T39 l0_0 x18_2).f2.f3).length c239_5)).setCell ⟨gb240, 6, none⟩ (.slice A239_6 ((rd_T39 l0_0 x18_2).f2.f4).length c239_6)).setCell ⟨gb240, 7, none⟩ (.int .i64 ((rd_T39 l0_0 x18_2).f2.f5))).setCell ⟨gb240, 8, none⟩ (.int .i64 ((rd_T39 l0_0 x18_2).f2.f6))) = w69 at n0_ n1_ n2_ ⊢
       have BK238 := n0_
       have BK240 := n1_
       have HB := n2_
       clear n0_ n1_ n2_
       replace BK238 := Aside0.mk (blk_drew BK238.out)
       replace BK240 := Aside0.mk (blk_drew BK240.out)
       replace HB := Aside0.mk (below_drew1 HB.out)
       refine start_ (n := 43) (S := fun w' => w'.cell? ⟨gb240, 0, none⟩ = some (.string ((rd_T39 l0_0 x18_2).f0)) ∧ w'.cell? ⟨gb240, 1, none⟩ = some (.int .i64 ((rd_T39 l0_0 x18_2).f1)) ∧ w'.cell? ⟨gb240, 2, none⟩ = some (.bool ((rd_T39 l0_0 x18_2).f2.f0)) ∧ w'.cell? ⟨gb240, 3, none⟩ = some (.bool ((rd_T39 l0_0 x18_2).f2.f1)) ∧ w'.cell? ⟨gb240, 4, none⟩ = some (.bool ((rd_T39 l0_0 x18_2).f2.f2)) ∧ w'.cell? ⟨gb240, 5, none⟩ = some (.slice A239_5 ((rd_T39 l0_0 x18_2).f2.f3).length c239_5) ∧ w'.cell? ⟨gb240, 6, none⟩ = some (.slice A239_6 ((rd_T39 l0_0 x18_2).f2.f4).length c239_6) ∧ w'.cell? ⟨gb240, 7, none⟩ = some (.int .i64 ((rd_T39 l0_0 x18_2).f2.f5)) ∧ w'.cell? ⟨gb240, 8, none⟩ = some (.int .i64 ((rd_T39 l0_0 x18_2).f2.f6))) (ds := []) (fl10_ 43 0) (by kernel_rfl) rfl rfl ⟨(blk_cell BK240.out 0).trans rfl, (blk_cell BK240.out 1).trans rfl, (blk_cell BK240.out 2).trans rfl, (blk_cell BK240.out 3).trans rfl, (blk_cell BK240.out 4).trans rfl, (blk_cell BK240.out 5).trans rfl, (blk_cell BK240.out 6).trans rfl, (blk_cell BK240.out 7).trans rfl, (blk_cell BK240.out 8).trans rfl⟩ (fun hHeld => ?_); refine with_tabW impl_SchemaOK.tab6 impl_SchemaOK.bits6 (fun HT_ HW_ => ?_)
       generalize w69.drew = w70 at BK238 BK240 HB hHeld ⊢
       refine zpu HT_ 0 23 (fl10_ 43 1) ?_
       refine take_ (i := 1) (N := some 24) (v := ?_) (a' := ?_) (fl10_ 43 3) rfl rfl (take_ofW HT_.out HW_.out (by kernel_rfl)) (fun _ _ _ h => h) (Or.inl ⟨by rfl, ?_⟩) hHeld ?_ ?_
       rotate_left
       ·rintro w' ⟨s0, s1, s2, s3, s4, s5, s6, s7, s8⟩
        go_simp
        with_reducible rfl
       rotate_left
       ·simp only [Act.put, List.setIfInBounds_toArray, List.set_cons_zero, List.set_cons_succ, i64_w, i32_w]
        rfl
       refine one_ (i := 2) (N := some 25) (fl10_ 43 7) rfl rfl (one_of HT_.out (by kernel_rfl)) (by decide) (fun K hK => ?_)
       refine goes_ Tryd.func14 (by kernel_rfl) rfl #[.string ((rd_T39 l0_0 x18_2).f0)] (by rfl) rfl rfl zar ?_
       with_reducible refine (impl_nameOK.calls k2 ((rd_T39 l0_0 x18_2).f0) true _ A16.out).mono ?_
       rintro e w71 ⟨rfl, hb⟩
       refine ⟨_, rfl, ?_⟩
       replace BK238 := Aside0.mk (blk_below (zb BK238) hb)
       replace BK240 := Aside0.mk (blk_below (zb BK240) hb)
       replace HB := Aside0.mk (below_step (zg HB) hb)
       (try clear hb)
       (try clear hb2)
       (try clear hk)
       (try clear hi)
       refine hK.out _ _ ⟨(blk_cell BK240.out 0).trans rfl, (blk_cell BK240.out 1).trans rfl, (blk_cell BK240.out 2).trans rfl, (blk_cell BK240.out 3).trans rfl, (blk_cell BK240.out 4).trans rfl, (blk_cell BK240.out 5).trans rfl, (blk_cell BK240.out 6).trans rfl, (blk_cell BK240.out 7).trans rfl, (blk_cell BK240.out 8).trans rfl⟩ (fun hHeld => ?_)
       clear hK K
       refine norm_ (a' := ?_) ?_ ?_
       rotate_left
       ·show Act.put _ (some 25) _ = _
        simp only [Act.put, List.setIfInBounds_toArray, List.set_cons_zero, List.set_cons_succ, i64_w, i32_w]
        rfl
       refine zpu HT_ 3 26 (fl10_ 43 15) ?_
       refine zpu HT_ 4 27 (fl10_ 43 31) ?_
       refine zpu HT_ 5 28 (fl10_ 43 63) ?_
       refine zpu HT_ 6 29 (fl10_ 43 127) ?_
       refine zpu HT_ 7 30 (fl10_ 43 255) ?_
       refine pure_ (i := 8) (N := some 31) (v := undef) (a' := ?_) (fl10_ 43 511) rfl rfl (any_of HT_.out (by kernel_rfl)) (fun _ _ _ h => h) (Or.inr ⟨by rfl, rfl⟩) ?_ ?_
       rotate_left
       ·simp only [Act.put, List.setIfInBounds_toArray, List.set_cons_zero, List.set_cons_succ, i64_w, i32_w]
        rfl
       refine pure_ (i := 9) (N := some 32) (v := undef) (a' := ?_) (fl10_ 43 1023) rfl rfl (any_of HT_.out (by kernel_rfl)) (fun _ _ _ h => h) (Or.inr ⟨by rfl, rfl⟩) ?_ ?_
       rotate_left
       ·simp only [Act.put, List.setIfInBounds_toArray, List.set_cons_zero, List.set_cons_succ, i64_w, i32_w]
        rfl
       refine pure_ (i := 10) (N := some 33) (v := undef) (a' := ?_) (fl10_ 43 2047) rfl rfl (any_of HT_.out (by kernel_rfl)) (fun _ _ _ h => h) (Or.inr ⟨by rfl, rfl⟩) ?_ ?_
       rotate_left
       ·simp only [Act.put, List.setIfInBounds_toArray, List.set_cons_zero, List.set_cons_succ, i64_w, i32_w]
        rfl
       refine pure_ (i := 11) (N := some 34) (v := undef) (a' := ?_) (fl10_ 43 4095) rfl rfl (any_of HT_.out (by kernel_rfl)) (fun _ _ _ h => h) (Or.inr ⟨by rfl, rfl⟩) ?_ ?_
       rotate_left
       ·simp only [Act.put, List.setIfInBounds_toArray, List.set_cons_zero, List.set_cons_succ, i64_w, i32_w]
        rfl
       refine pure_ (i := 12) (N := some 35) (v := undef) (a' := ?_) (fl10_ 43 8191) rfl rfl (any_of HT_.out (by kernel_rfl)) (fun _ _ _ h => h) (Or.inr ⟨by rfl, rfl⟩) ?_ ?_
       rotate_left
       ·simp only [Act.put, List.setIfInBounds_toArray, List.set_cons_zero, List.set_cons_succ, i64_w, i32_w]
        rfl
       refine pure_ (i := 13) (N := some 36) (v := undef) (a' := ?_) (fl10_ 43 16383) rfl rfl (any_of HT_.out (by kernel_rfl)) (fun _ _ _ h => h) (Or.inr ⟨by rfl, rfl⟩) ?_ ?_
       rotate_left
       ·simp only [Act.put, List.setIfInBounds_toArray, List.set_cons_zero, List.set_cons_succ, i64_w, i32_w]
        rfl
       refine pure_ (i := 14) (N := some 37) (v := undef) (a' := ?_) (fl10_ 43 32767) rfl rfl (any_of HT_.out (by kernel_rfl)) (fun _ _ _ h => h) (Or.inr ⟨by rfl, rfl⟩) ?_ ?_
       rotate_left
       ·simp only [Act.put, List.setIfInBounds_toArray, List.set_cons_zero, List.set_cons_succ, i64_w, i32_w]
        rfl
       refine pure_ (i := 15) (N := some 38) (v := undef) (a' := ?_) (fl10_ 43 65535) rfl rfl (any_of HT_.out (by kernel_rfl)) (fun _ _ _ h => h) (Or.inr ⟨by rfl, rfl⟩) ?_ ?_
       rotate_left
       ·simp only [Act.put, List.setIfInBounds_toArray, List.set_cons_zero, List.set_cons_succ, i64_w, i32_w]
        rfl
       refine pure_ (i := 16) (N := some 39) (v := undef) (a' := ?_) (fl10_ 43 131071) rfl rfl (any_of HT_.out (by kernel_rfl)) (fun _ _ _ h => h) (Or.inr ⟨by rfl, rfl⟩) ?_ ?_
       rotate_left
       ·simp only [Act.put, List.setIfInBounds_toArray, List.set_cons_zero, List.set_cons_succ, i64_w, i32_w]
        rfl
       refine pure_ (i := 17) (N := some 40) (v := undef) (a' := ?_) (fl10_ 43 262143) rfl rfl (any_of HT_.out (by kernel_rfl)) (fun _ _ _ h => h) (Or.inr ⟨by rfl, rfl⟩) ?_ ?_
       rotate_left
       ·simp only [Act.put, List.setIfInBounds_toArray, List.set_cons_zero, List.set_cons_succ, i64_w, i32_w]
        rfl
       refine zpu HT_ 18 41 (fl10_ 43 524287) ?_
       refine zpu HT_ 19 42 (fl10_ 43 1048575) ?_
       refine zpu HT_ 20 43 (fl10_ 43 2097151) ?_
       refine zpu HT_ 21 44 (fl10_ 43 4194303) ?_
       refine take_ (i := 22) (N := some 45) (v := ?_) (a' := ?_) (fl10_ 43 8388607) rfl rfl (take_ofW HT_.out HW_.out (by kernel_rfl)) (fun _ _ _ h => h) (Or.inl ⟨by rfl, ?_⟩) hHeld ?_ ?_
       rotate_left
       ·rintro w' ⟨s0, s1, s2, s3, s4, s5, s6, s7, s8⟩
        go_simp
        with_reducible rfl
       rotate_left
       ·simp only [Act.put, List.setIfInBounds_toArray, List.set_cons_zero, List.set_cons_succ, i64_w, i32_w]
        rfl
       refine one_ (i := 23) (N := some 46) (fl10_ 43 16777215) rfl rfl (one_of HT_.out (by kernel_rfl)) (by decide) (fun K hK => ?_)
       refine goes_ Tryd.func15 (by kernel_rfl) rfl #[.int .i64 ((rd_T39 l0_0 x18_2).f1), .int .i64 1, .int .i64 3] (by rfl) rfl rfl zar ?_
       with_reducible refine (impl_within.calls ((rd_T39 l0_0 x18_2).f1) 1 3 true _ A57.out).mono ?_
       rintro e w' ⟨rfl, ⟨nd, rfl⟩⟩
       refine ⟨_, rfl, ?_⟩
       refine hK.out _ _ ⟨(blk_cell BK240.out 0).trans rfl, (blk_cell BK240.out 1).trans rfl, (blk_cell BK240.out 2).trans rfl, (blk_cell BK240.out 3).trans rfl, (blk_cell BK240.out 4).trans rfl, (blk_cell BK240.out 5).trans rfl, (blk_cell BK240.out 6).trans rfl, (blk_cell BK240.out 7).trans rfl, (blk_cell BK240.out 8).trans rfl⟩ (fun hHeld => ?_)
       clear hK K
       refine norm_ (a' := ?_) ?_ ?_
       rotate_left
       ·show Act.put _ (some 46) _ = _
        simp only [Act.put, List.setIfInBounds_toArray, List.set_cons_zero, List.set_cons_succ, i64_w, i32_w]
        rfl
       refine zpu HT_ 24 47 (fl10_ 43 33554431) ?_
       refine zpu HT_ 25 48 (fl10_ 43 67108863) ?_
       refine zpu HT_ 26 49 (fl10_ 43 134217727) ?_
       refine zpu HT_ 27 50 (fl10_ 43 268435455) ?_
       refine take_ (i := 28) (N := some 51) (v := ?_) (a' := ?_) (fl10_ 43 536870911) rfl rfl (take_ofW HT_.out HW_.out (by kernel_rfl)) (fun _ _ _ h => h) (Or.inl ⟨by rfl, ?_⟩) hHeld ?_ ?_
       rotate_left
       ·rintro w' ⟨s0, s1, s2, s3, s4, s5, s6, s7, s8⟩
        go_simp
        with_reducible rfl
       rotate_left
       ·simp only [Act.put, List.setIfInBounds_toArray, List.set_cons_zero, List.set_cons_succ, i64_w, i32_w]
        rfl
       refine one_ (i := 29) (N := some 52) (fl10_ 43 1073741823) rfl rfl (one_of HT_.out (by kernel_rfl)) (by decide) (fun K hK => ?_)
       refine goes_ Tryd.func16 (by kernel_rfl) rfl #[.agg #[.bool ((rd_T39 l0_0 x18_2).f2.f0), .bool ((rd_T39 l0_0 x18_2).f2.f1), .bool ((rd_T39 l0_0 x18_2).f2.f2), .slice A239_5 ((rd_T39 l0_0 x18_2).f2.f3).length c239_5, .slice A239_6 ((rd_T39 l0_0 x18_2).f2.f4).length c239_6, .int .i64 ((rd_T39 l0_0 x18_2).f2.f5), .int .i64 ((rd_T39 l0_0 x18_2).f2.f6)]] (by rfl) rfl rfl zar ?_
       with_reducible refine (impl_AnalyzerOK.calls k2 ((rd_T39 l0_0 x18_2).f2.f0) ((rd_T39 l0_0 x18_2).f2.f1) ((rd_T39 l0_0 x18_2).f2.f2) _ _ ((rd_T39 l0_0 x18_2).f2.f3) _ _ ((rd_T39 l0_0 x18_2).f2.f4) ((rd_T39 l0_0 x18_2).f2.f5) ((rd_T39 l0_0 x18_2).f2.f6) true _ ?side1 ?side2 ?side3 ?side4 ?side5 A59.out).mono ?_
       (case side1 => exact zC (Kd.C_below HR239_5.out (zg HB)))
       (case side2 => exact HC239_5.out)
       (case side3 => exact zC (Kd.C_below HR239_6.out (zg HB)))
       (case side4 => exact HC239_6.out)
       (case side5 => exact TabW.below HT.out (zg HB))
       rintro e w73 ⟨rfl, hb⟩
       refine ⟨_, rfl, ?_⟩
       replace BK238 := Aside0.mk (blk_below (zb BK238) hb)
       replace BK240 := Aside0.mk (blk_below (zb BK240) hb)
       replace HB := Aside0.mk (below_step (zg HB) hb)
       (try clear hb)
       (try clear hb2)
       (try clear hk)
       (try clear hi)
       refine hK.out _ _ ⟨(blk_cell BK240.out 0).trans rfl, (blk_cell BK240.out 1).trans rfl, (blk_cell BK240.out 2).trans rfl, (blk_cell BK240.out 3).trans rfl, (blk_cell BK240.out 4).trans rfl, (blk_cell BK240.out 5).trans rfl, (blk_cell BK240.out 6).trans rfl, (blk_cell BK240.out 7).trans rfl, (blk_cell BK240.out 8).trans rfl⟩ (fun hHeld => ?_)
       clear hK K
       refine norm_ (a' := ?_) ?_ ?_
       rotate_left
       ·show Act.put _ (some 52) _ = _
        simp only [Act.put, List.setIfInBounds_toArray, List.set_cons_zero, List.set_cons_succ, i64_w, i32_w]
        rfl
       refine zpu HT_ 30 53 (fl10_ 43 2147483647) ?_
       refine zpu HT_ 31 54 (fl10_ 43 4294967295) ?_
       refine zpu HT_ 32 55 (fl10_ 43 8589934591) ?_
       refine zpu HT_ 33 56 (fl10_ 43 17179869183) ?_
       refine take_ (i := 34) (N := some 57) (v := ?_) (a' := ?_) (fl10_ 43 34359738367) rfl rfl (take_ofW HT_.out HW_.out (by kernel_rfl)) (fun _ _ _ h => h) (Or.inl ⟨by rfl, ?_⟩) hHeld ?_ ?_
       rotate_left
       ·rintro w' ⟨s0, s1, s2, s3, s4, s5, s6, s7, s8⟩
        go_simp
        with_reducible rfl
       rotate_left
       ·simp only [Act.put, List.setIfInBounds_toArray, List.set_cons_zero, List.set_cons_succ, i64_w, i32_w]
        rfl
       refine zpu HT_ 35 58 (fl10_ 43 68719476735) ?_
       refine zpu HT_ 36 59 (fl10_ 43 137438953471) ?_
       refine zpu HT_ 37 60 (fl10_ 43 274877906943) ?_
       refine take_ (i := 38) (N := some 61) (v := ?_) (a' := ?_) (fl10_ 43 549755813887) rfl rfl (take_ofW HT_.out HW_.out (by kernel_rfl)) (fun _ _ _ h => h) (Or.inl ⟨by rfl, ?_⟩) hHeld ?_ ?_
       rotate_left
       ·rintro w' ⟨s0, s1, s2, s3, s4, s5, s6, s7, s8⟩
        go_simp
        with_reducible rfl
       rotate_left
       ·simp only [Act.put, List.setIfInBounds_toArray, List.set_cons_zero, List.set_cons_succ, i64_w, i32_w]
        rfl
       refine one_ (i := 39) (N := some 62) (fl10_ 43 1099511627775) rfl rfl (one_of HT_.out (by kernel_rfl)) (by decide) (fun K hK => ?_)
       refine goes_ Tryd.func17 (by kernel_rfl) rfl #[.agg #[.bool ((rd_T39 l0_0 x18_2).f2.f0), .bool ((rd_T39 l0_0 x18_2).f2.f1), .bool ((rd_T39 l0_0 x18_2).f2.f2), .slice A239_5 ((rd_T39 l0_0 x18_2).f2.f3).length c239_5, .slice A239_6 ((rd_T39 l0_0 x18_2).f2.f4).length c239_6, .int .i64 ((rd_T39 l0_0 x18_2).f2.f5), .int .i64 ((rd_T39 l0_0 x18_2).f2.f6)]] (by rfl) rfl rfl zar ?_
       with_reducible refine (impl_zeroAnalyzer.calls ((rd_T39 l0_0 x18_2).f2.f0) ((rd_T39 l0_0 x18_2).f2.f1) ((rd_T39 l0_0 x18_2).f2.f2) _ _ ((rd_T39 l0_0 x18_2).f2.f3) _ _ ((rd_T39 l0_0 x18_2).f2.f4) ((rd_T39 l0_0 x18_2).f2.f5) ((rd_T39 l0_0 x18_2).f2.f6) t248 _ ?side1 ?side2 ?side3 ?side4 A68.out).mono ?_
       (case side1 => exact zC (Kd.C_below HR239_5.out HB.out))
       (case side2 => exact HC239_5.out)
       (case side3 => exact zC (Kd.C_below HR239_6.out HB.out))
       (case side4 => exact HC239_6.out)
       rintro e w75 ⟨rfl, hb⟩
       refine ⟨_, rfl, ?_⟩
       replace BK238 := Aside0.mk (blk_below (zb BK238) hb)
       replace BK240 := Aside0.mk (blk_below (zb BK240) hb)
       replace HB := Aside0.mk (below_step (zg HB) hb)
       (try clear hb)
       (try clear hb2)
       (try clear hk)
       (try clear hi)
       refine hK.out _ _ ⟨(blk_cell BK240.out 0).trans rfl, (blk_cell BK240.out 1).trans rfl, (blk_cell BK240.out 2).trans rfl, (blk_cell BK240.out 3).trans rfl, (blk_cell BK240.out 4).trans rfl, (blk_cell BK240.out 5).trans rfl, (blk_cell BK240.out 6).trans rfl, (blk_cell BK240.out 7).trans rfl, (blk_cell BK240.out 8).trans rfl⟩ (fun hHeld => ?_)
       clear hK K
       refine norm_ (a' := ?_) ?_ ?_
       rotate_left
       ·show Act.put _ (some 62) _ = _
        simp only [Act.put, List.setIfInBounds_toArray, List.set_cons_zero, List.set_cons_succ, i64_w, i32_w]
        rfl
       refine zpu HT_ 40 63 (fl10_ 43 2199023255551) ?_
       refine zpu HT_ 41 64 (fl10_ 43 4398046511103) ?_
       refine zpu HT_ 42 65 (fl10_ 43 8796093022207) ?_
       refine done_ (done_of HT_.out (by kernel_rfl)) ?_
       try go_wp2
       go_meet
       case rel => exact ⟨_, (!t248), zrs, H', ⟨by have := HJ1.out; have := HK2.out; first | omega | exact Nat.le_refl _⟩, ⟨zb BK238⟩, ⟨zb BK240⟩, ⟨zg HB⟩⟩
      rw [if_pos c18] at H
      have c18b0 : decide (0 < x18_2) = true := decide_eq_true c18
      clear c18
      (first | rw [c18b0] | (simp only [i64_w, i32_w]; rw [c18b0]) | skip)
      obtain ⟨ji19, hji19⟩ : ∃ j_ : Int, (wrap64 (x18_2 - 1)) = j_ := ⟨_, rfl⟩
      replace H : (if 0 ≤ (ji19) then (if (ji19) < (l0_0.length : Int) then (if ((Op.bytesLess (((rd_T39 l0_0 (ji19)).f0).toList) (((rd_T39 l0_0 x18_2).f0).toList)) = true) then ((impl_within.f ((rd_T39 l0_0 x18_2).f1) 1 3).bind fun t243 => (if t243 = true then ((impl_AnalyzerOK.f k2 ((rd_T39 l0_0 x18_2).f2.f0) ((rd_T39 l0_0 x18_2).f2.f1) ((rd_T39 l0_0 x18_2).f2.f2) ((rd_T39 l0_0 x18_2).f2.f3) ((rd_T39 l0_0 x18_2).f2.f4) ((rd_T39 l0_0 x18_2).f2.f5) ((rd_T39 l0_0 x18_2).f2.f6)).bind fun t244 => (if t244 = true then (if ((rd_T39 l0_0 x18_2).f1) = 1 then (impl_SchemaOK.j2 k2 l0_0 (l0_0.length : Int) x18_2 false l0_0) else ((impl_zeroAnalyzer.f ((rd_T39 l0_0 x18_2).f2.f0) ((rd_T39 l0_0 x18_2).f2.f1) ((rd_T39 l0_0 x18_2).f2.f2) ((rd_T39 l0_0 x18_2).f2.f3) ((rd_T39 l0_0 x18_2).f2.f4) ((rd_T39 l0_0 x18_2).f2.f5) ((rd_T39 l0_0 x18_2).f2.f6)).bind fun t245 => (impl_SchemaOK.j2 k2 l0_0 (l0_0.length : Int) x18_2 (!t245) l0_0))) else (impl_SchemaOK.j2 k2 l0_0 (l0_0.length : Int) x18_2 true l0_0))) else (impl_SchemaOK.j2 k2 l0_0 (l0_0.length : Int) x18_2 true l0_0))) else (impl_SchemaOK.j2 k2 l0_0 (l0_0.length : Int) x18_2 true l0_0)) else (none)) else (none)) = some r := by first | (rw [hji19] at H; exact H) | (simp only [hji19] at H ⊢; exact H)
      (try rw [hji19] at A16)
      have hji19w : (IntKind.i64.wrap (x18_2 - 1)) = ji19 := (i64_w _).trans hji19
      by_cases c20 : 0 ≤ (ji19)
      rotate_left
      ·rw [if_neg c20] at H
       exact absurd H (by simp)
      rw [if_pos c20] at H
      have c20b0 : decide (0 ≤ (ji19)) = true := decide_eq_true c20
      clear c20
      by_cases c21 : (ji19) < (l0_0.length : Int)
      rotate_left
      ·rw [if_neg c21] at H
       exact absurd H (by simp)
      rw [if_pos c21] at H
      have c21b0 : decide ((ji19) < (l0_0.length : Int)) = true := decide_eq_true c21
      clear c21
      by_cases c22 : ((Op.bytesLess (((rd_T39 l0_0 (ji19)).f0).toList) (((rd_T39 l0_0 x18_2).f0).toList)) = true)
      rotate_left
      ·rw [if_neg c22] at H
       have c22b0 : (Op.bytesLess (((rd_T39 l0_0 (ji19)).f0).toList) (((rd_T39 l0_0 x18_2).f0).toList)) = false := by simpa using c22
       clear c22
       have H' := Aside0.mk H
       clear H
       try go_wp2
       have n0_ : Aside0 ((((((((((w13.setCell ⟨gb240, 0, none⟩ (.string ((rd_T39 l0_0 x18_2).f0))).setCell ⟨gb240, 1, none⟩ (.int .i64 ((rd_T39 l0_0 x18_2).f1))).setCell ⟨gb240, 2, none⟩ (.bool ((rd_T39 l0_0 x18_2).f2.f0))).setCell ⟨gb240, 3, none⟩ (.bool ((rd_T39 l0_0 x18_2).f2.f1))).setCell ⟨gb240, 4, none⟩ (.bool ((rd_T39 l0_0 x18_2).f2.f2))).setCell ⟨gb240, 5, none⟩ (.slice A239_5 ((rd_T39 l0_0 x18_2).f2.f3).length c239_5)).setCell ⟨gb240, 6, none⟩ (.slice A239_6 ((rd_T39 l0_0 x18_2).f2.f4).length c239_6)).setCell ⟨gb240, 7, none⟩ (.int .i64 ((rd_T39 l0_0 x18_2).f2.f5))).setCell ⟨gb240, 8, none⟩ (.int .i64 ((rd_T39 l0_0 x18_2).f2.f6))).heap[gb238]? = some (.cells #[.slice (some ad239) l0_0.length c0_0] 29 (0, 0))) := ⟨zp BK238⟩
       have n1_ : Aside0 ((((((((((w13.setCell ⟨gb240, 0, none⟩ (.string ((rd_T39 l0_0 x18_2).f0))).setCell ⟨gb240, 1, none⟩ (.int .i64 ((rd_T39 l0_0 x18_2).f1))).setCell ⟨gb240, 2, none⟩ (.bool ((rd_T39 l0_0 x18_2).f2.f0))).setCell ⟨gb240, 3, none⟩ (.bool ((rd_T39 l0_0 x18_2).f2.f1))).setCell ⟨gb240, 4, none⟩ (.bool ((rd_T39 l0_0 x18_2).f2.f2))).setCell ⟨gb240, 5, none⟩ (.slice A239_5 ((rd_T39 l0_0 x18_2).f2.f3).length c239_5)).setCell ⟨gb240, 6, none⟩ (.slice A239_6 ((rd_T39 l0_0 x18_2).f2.f4).length c239_6)).setCell ⟨gb240, 7, none⟩ (.int .i64 ((rd_T39 l0_0 x18_2).f2.f5))).setCell ⟨gb240, 8, none⟩ (.int .i64 ((rd_T39 l0_0 x18_2).f2.f6))).heap[gb240]? = some (.cells #[.string ((rd_T39 l0_0 x18_2).f0), .int .i64 ((rd_T39 l0_0 x18_2).f1), .bool ((rd_T39 l0_0 x18_2).f2.f0), .bool ((rd_T39 l0_0 x18_2).f2.f1), .bool ((rd_T39 l0_0 x18_2).f2.f2), .slice A239_5 ((rd_T39 l0_0 x18_2).f2.f3).length c239_5, .slice A239_6 ((rd_T39 l0_0 x18_2).f2.f4).length c239_6, .int .i64 ((rd_T39 l0_0 x18_2).f2.f5), .int .i64 ((rd_T39 l0_0 x18_2).f2.f6)] 39 (0, 0))) := ⟨zp BK240⟩
       have n2_ : Aside0 (Below w.heap.size w (((((((((w13.setCell ⟨gb240, 0, none⟩ (.string ((rd_T39 l0_0 x18_2).f0))).setCell ⟨gb240, 1, none⟩ (.int .i64 ((rd_T39 l0_0 x18_2).f1))).setCell ⟨gb240, 2, none⟩ (.bool ((rd_T39 l0_0 x18_2).f2.f0))).setCell ⟨gb240, 3, none⟩ (.bool ((rd_T39 l0_0 x18_2).f2.f1))).setCell ⟨gb240, 4, none⟩ (.bool ((rd_T39 l0_0 x18_2).f2.f2))).setCell ⟨gb240, 5, none⟩ (.slice A239_5 ((rd_T39 l0_0 x18_2).f2.f3).length c239_5)).setCell ⟨gb240, 6, none⟩ (.slice A239_6 ((rd_T39 l0_0 x18_2).f2.f4).length c239_6)).setCell ⟨gb240, 7, none⟩ (.int .i64 ((rd_T39 l0_0 x18_2).f2.f5))).setCell ⟨gb240, 8, none⟩ (.int .i64 ((rd_T39 l0_0 x18_2).f2.f6)))) := ⟨zg HB⟩
       (try clear BK238)
       (try clear BK240)
       (try clear HB)
       generalize (((((((((w13.setCell ⟨gb240, 0, none⟩ (.string ((rd_T39 l0_0 x18_2).f0))).setCell ⟨gb240, 1, none⟩ (.int .i64 ((rd_T39 l0_0 x18_2).f1))).setCell ⟨gb240, 2, none⟩ (.bool ((rd_T39 l0_0 x18_2).f2.f0))).setCell ⟨gb240, 3, none⟩ (.bool ((rd_T39 l0_0 x18_2).f2.f1))).setCell ⟨gb240, 4, none⟩ (.bool ((rd_T39 l0_0 x18_2).f2.f2))).setCell ⟨gb240, 5, none⟩ (.slice A239_5 ((rd_T39 l0_0 x18_2).f2.f3).length c239_5)).setCell ⟨gb240, 6, none⟩ (.slice A239_6 ((rd_T39 l0_0 x18_2).f2.f4).length c239_6)).setCell ⟨gb240, 7, none⟩ (.int .i64 ((rd_T39 l0_0 x18_2).f2.f5))).setCell ⟨gb240, 8, none⟩ (.int .i64 ((rd_T39 l0_0 x18_2).f2.f6))) = w53 at n0_ n1_ n2_ ⊢
       have BK238 := n0_
       have BK240 := n1_
       have HB := n2_
       clear n0_ n1_ n2_
       replace BK238 := Aside0.mk (blk_drew BK238.out)
       replace BK240 := Aside0.mk (blk_drew BK240.out)
       replace HB := Aside0.mk (below_drew1 HB.out)
       have p242 : 0 ≤ ((ji19) : Int) := of_decide_eq_true zas
       have q242 : (ji19) < (l0_0.length : Int) := of_decide_eq_true zas
       obtain ⟨ad242, A242_5, c242_5, A242_6, c242_6, e242, hx242_0, hx242_1, hx242_2, hx242_3, hx242_4, hx242_5, hx242_6, hx242_7, hx242_8, hl242_5, hi242_5, hl242_6, hi242_6⟩ := at_T39 HR0_0.out (ji19) p242 q242
       have hw242_8 := hx242_8
       have hw242_7 := hx242_7
       have hw242_6 := hx242_6
       have hw242_5 := hx242_5
       have hw242_4 := hx242_4
       have hw242_3 := hx242_3
       have hw242_2 := hx242_2
       have hw242_1 := hx242_1
       have hw242_0 := hx242_0
       obtain rfl : ad239 = ad242 := (by injection e242)
       replace hx242_0 := zx HB hx242_0
       replace hx242_1 := zx HB hx242_1
       replace hx242_2 := zx HB hx242_2
       replace hx242_3 := zx HB hx242_3
       replace hx242_4 := zx HB hx242_4
       replace hx242_5 := zx HB hx242_5
       replace hx242_6 := zx HB hx242_6
       replace hx242_7 := zx HB hx242_7
       replace hx242_8 := zx HB hx242_8
       have HR242_5 := Aside0.mk hi242_5
       have HC242_5 := Aside0.mk hl242_5
       clear hi242_5 hl242_5
       have HR242_6 := Aside0.mk hi242_6
       have HC242_6 := Aside0.mk hl242_6
       clear hi242_6 hl242_6
       replace p242 := eq_true p242
       replace q242 := eq_true q242
       refine start_ (n := 43) (S := fun w' => w'.cell? ⟨gb240, 0, none⟩ = some (.string ((rd_T39 l0_0 x18_2).f0)) ∧ w'.cell? ⟨gb240, 1, none⟩ = some (.int .i64 ((rd_T39 l0_0 x18_2).f1)) ∧ w'.cell? ⟨gb240, 2, none⟩ = some (.bool ((rd_T39 l0_0 x18_2).f2.f0)) ∧ w'.cell? ⟨gb240, 3, none⟩ = some (.bool ((rd_T39 l0_0 x18_2).f2.f1)) ∧ w'.cell? ⟨gb240, 4, none⟩ = some (.bool ((rd_T39 l0_0 x18_2).f2.f2)) ∧ w'.cell? ⟨gb240, 5, none⟩ = some (.slice A239_5 ((rd_T39 l0_0 x18_2).f2.f3).length c239_5) ∧ w'.cell? ⟨gb240, 6, none⟩ = some (.slice A239_6 ((rd_T39 l0_0 x18_2).f2.f4).length c239_6) ∧ w'.cell? ⟨gb240, 7, none⟩ = some (.int .i64 ((rd_T39 l0_0 x18_2).f2.f5)) ∧ w'.cell? ⟨gb240, 8, none⟩ = some (.int .i64 ((rd_T39 l0_0 x18_2).f2.f6)) ∧ w'.cell? ⟨gb238, 0, none⟩ = some (.slice (some ad239) l0_0.length c0_0) ∧ w'.cell? (ad239.add (((ji19)).toNat * 9)) = some (.string ((rd_T39 l0_0 (ji19)).f0)) ∧ w'.cell? ⟨(ad239.add (((ji19)).toNat * 9)).block, (ad239.add (((ji19)).toNat * 9)).off + 1, none⟩ = some (.int .i64 ((rd_T39 l0_0 (ji19)).f1)) ∧ w'.cell? ⟨(ad239.add (((ji19)).toNat * 9)).block, (ad239.add (((ji19)).toNat * 9)).off + 2, none⟩ = some (.bool ((rd_T39 l0_0 (ji19)).f2.f0)) ∧ w'.cell? ⟨(ad239.add (((ji19)).toNat * 9)).block, (ad239.add (((ji19)).toNat * 9)).off + 3, none⟩ = some (.bool ((rd_T39 l0_0 (ji19)).f2.f1)) ∧ w'.cell? ⟨(ad239.add (((ji19)).toNat * 9)).block, (ad239.add (((ji19)).toNat * 9)).off + 4, none⟩ = some (.bool ((rd_T39 l0_0 (ji19)).f2.f2)) ∧ w'.cell? ⟨(ad239.add (((ji19)).toNat * 9)).block, (ad239.add (((ji19)).toNat * 9)).off + 5, none⟩ = some (.slice A242_5 ((rd_T39 l0_0 (ji19)).f2.f3).length c242_5) ∧ w'.cell? ⟨(ad239.add (((ji19)).toNat * 9)).block, (ad239.add (((ji19)).toNat * 9)).off + 6, none⟩ = some (.slice A242_6 ((rd_T39 l0_0 (ji19)).f2.f4).length c242_6) ∧ w'.cell? ⟨(ad239.add (((ji19)).toNat * 9)).block, (ad239.add (((ji19)).toNat * 9)).off + 7, none⟩ = some (.int .i64 ((rd_T39 l0_0 (ji19)).f2.f5)) ∧ w'.cell? ⟨(ad239.add (((ji19)).toNat * 9)).block, (ad239.add (((ji19)).toNat * 9)).off + 8, none⟩ = some (.int .i64 ((rd_T39 l0_0 (ji19)).f2.f6))) (ds := []) (fl10_ 43 0) (by kernel_rfl) rfl rfl ⟨(blk_cell BK240.out 0).trans rfl, (blk_cell BK240.out 1).trans rfl, (blk_cell BK240.out 2).trans rfl, (blk_cell BK240.out 3).trans rfl, (blk_cell BK240.out 4).trans rfl, (blk_cell BK240.out 5).trans rfl, (blk_cell BK240.out 6).trans rfl, (blk_cell BK240.out 7).trans rfl, (blk_cell BK240.out 8).trans rfl, (blk_cell BK238.out 0).trans rfl, (zxx HB hw242_0), (zxx HB hw242_1), (zxx HB hw242_2), (zxx HB hw242_3), (zxx HB hw242_4), (zxx HB hw242_5), (zxx HB hw242_6), (zxx HB hw242_7), (zxx HB hw242_8)⟩ (fun hHeld => ?_); refine with_tabW impl_SchemaOK.tab6 impl_SchemaOK.bits6 (fun HT_ HW_ => ?_)
       generalize w53.drew = w54 at BK238 BK240 HB HR242_5 HR242_6 hx242_0 hx242_1 hx242_2 hx242_3 hx242_4 hx242_5 hx242_6 hx242_7 hx242_8 hHeld ⊢
       refine zpu HT_ 0 23 (fl10_ 43 1) ?_
       refine take_ (i := 1) (N := some 24) (v := ?_) (a' := ?_) (fl10_ 43 3) rfl rfl (take_ofW HT_.out HW_.out (by kernel_rfl)) (fun _ _ _ h => h) (Or.inl ⟨by rfl, ?_⟩) hHeld ?_ ?_
       rotate_left
       ·rintro w' ⟨s0, s1, s2, s3, s4, s5, s6, s7, s8, s9, s10, s11, s12, s13, s14, s15, s16, s17, s18⟩
        go_simp
        with_reducible rfl
       rotate_left
       ·simp only [Act.put, List.setIfInBounds_toArray, List.set_cons_zero, List.set_cons_succ, i64_w, i32_w]
        rfl
       refine one_ (i := 2) (N := some 25) (fl10_ 43 7) rfl rfl (one_of HT_.out (by kernel_rfl)) (by decide) (fun K hK => ?_)
       refine goes_ Tryd.func14 (by kernel_rfl) rfl #[.string ((rd_T39 l0_0 x18_2).f0)] (by rfl) rfl rfl zar ?_
       with_reducible refine (impl_nameOK.calls k2 ((rd_T39 l0_0 x18_2).f0) true _ A16.out).mono ?_
       rintro e w55 ⟨rfl, hb⟩
       refine ⟨_, rfl, ?_⟩
       replace BK238 := Aside0.mk (blk_below (zb BK238) hb)
       replace BK240 := Aside0.mk (blk_below (zb BK240) hb)
       replace HB := Aside0.mk (below_step (zg HB) hb)
       (try clear hb)
       (try clear hb2)
       (try clear hk)
       (try clear hi)
       refine hK.out _ _ ⟨(blk_cell BK240.out 0).trans rfl, (blk_cell BK240.out 1).trans rfl, (blk_cell BK240.out 2).trans rfl, (blk_cell BK240.out 3).trans rfl, (blk_cell BK240.out 4).trans rfl, (blk_cell BK240.out 5).trans rfl, (blk_cell BK240.out 6).trans rfl, (blk_cell BK240.out 7).trans rfl, (blk_cell BK240.out 8).trans rfl, (blk_cell BK238.out 0).trans rfl, (zxx HB hw242_0), (zxx HB hw242_1), (zxx HB hw242_2), (zxx HB hw242_3), (zxx HB hw242_4), (zxx HB hw242_5), (zxx HB hw242_6), (zxx HB hw242_7), (zxx HB hw242_8)⟩ (fun hHeld => ?_)
       clear hK K
       refine norm_ (a' := ?_) ?_ ?_
       rotate_left
       ·show Act.put _ (some 25) _ = _
        simp only [Act.put, List.setIfInBounds_toArray, List.set_cons_zero, List.set_cons_succ, i64_w, i32_w]
        rfl
       refine zpu HT_ 3 26 (fl10_ 43 15) ?_
       refine zpu HT_ 4 27 (fl10_ 43 31) ?_
       refine zpu HT_ 5 28 (fl10_ 43 63) ?_
       refine zpu HT_ 6 29 (fl10_ 43 127) ?_
       refine zpu HT_ 7 30 (fl10_ 43 255) ?_
       refine zpu HT_ 8 31 (fl10_ 43 511) ?_
       refine zpu HT_ 10 33 (fl10_ 43 1535) ?_
       refine zpu HT_ 12 35 (fl10_ 43 5631) ?_
       refine zpu HT_ 13 36 (fl10_ 43 13823) ?_
       refine take_ (i := 9) (N := some 32) (v := ?_) (a' := ?_) (fl10_ 43 14335) rfl rfl (take_ofW HT_.out HW_.out (by kernel_rfl)) (fun _ _ _ h => h) (Or.inl ⟨by rfl, ?_⟩) hHeld ?_ ?_
       rotate_left
       ·rintro w' ⟨s0, s1, s2, s3, s4, s5, s6, s7, s8, s9, s10, s11, s12, s13, s14, s15, s16, s17, s18⟩
        go_simp
        with_reducible rfl
       rotate_left
       ·simp only [Act.put, List.setIfInBounds_toArray, List.set_cons_zero, List.set_cons_succ, i64_w, i32_w]
        rfl
       refine take_ (i := 11) (N := some 34) (v := ?_) (a' := ?_) (fl10_ 43 16383) rfl rfl (take_ofW HT_.out HW_.out (by kernel_rfl)) (fun _ _ _ h => h) (Or.inl ⟨by rfl, ?_⟩) hHeld ?_ ?_
       rotate_left
       ·rintro w' ⟨s0, s1, s2, s3, s4, s5, s6, s7, s8, s9, s10, s11, s12, s13, s14, s15, s16, s17, s18⟩
        go_simp
        with_reducible rfl
       rotate_left
       ·simp only [Act.put, List.setIfInBounds_toArray, List.set_cons_zero, List.set_cons_succ, i64_w, i32_w]
        rfl
       refine zpu HT_ 14 37 (fl10_ 43 32767) ?_
       refine zpu HT_ 15 38 (fl10_ 43 65535) ?_
       refine take_ (i := 16) (N := some 39) (v := ?_) (a' := ?_) (fl10_ 43 131071) rfl rfl (take_ofW HT_.out HW_.out (by kernel_rfl)) (fun _ _ _ h => h) (Or.inl ⟨by rfl, ?_⟩) hHeld ?_ ?_
       rotate_left
       ·rintro w' ⟨s0, s1, s2, s3, s4, s5, s6, s7, s8, s9, s10, s11, s12, s13, s14, s15, s16, s17, s18⟩
        go_simp
        with_reducible rfl
       rotate_left
       ·simp only [Act.put, List.setIfInBounds_toArray, List.set_cons_zero, List.set_cons_succ, i64_w, i32_w]
        rfl
       refine zpu HT_ 17 40 (fl10_ 43 262143) ?_
       refine zpu HT_ 18 41 (fl10_ 43 524287) ?_
       refine zpu HT_ 19 42 (fl10_ 43 1048575) ?_
       refine zpu HT_ 20 43 (fl10_ 43 2097151) ?_
       refine pure_ (i := 21) (N := some 44) (v := undef) (a' := ?_) (fl10_ 43 4194303) rfl rfl (any_of HT_.out (by kernel_rfl)) (fun _ _ _ h => h) (Or.inr ⟨by rfl, rfl⟩) ?_ ?_
       rotate_left
       ·simp only [Act.put, List.setIfInBounds_toArray, List.set_cons_zero, List.set_cons_succ, i64_w, i32_w]
        rfl
       refine pure_ (i := 22) (N := some 45) (v := undef) (a' := ?_) (fl10_ 43 8388607) rfl rfl (any_of HT_.out (by kernel_rfl)) (fun _ _ _ h => h) (Or.inr ⟨by rfl, rfl⟩) ?_ ?_
       rotate_left
       ·simp only [Act.put, List.setIfInBounds_toArray, List.set_cons_zero, List.set_cons_succ, i64_w, i32_w]
        rfl
       refine pure_ (i := 23) (N := some 46) (v := undef) (a' := ?_) (fl10_ 43 16777215) rfl rfl (any_of HT_.out (by kernel_rfl)) (fun _ _ _ h => h) (Or.inr ⟨by rfl, rfl⟩) ?_ ?_
       rotate_left
       ·simp only [Act.put, List.setIfInBounds_toArray, List.set_cons_zero, List.set_cons_succ, i64_w, i32_w]
        rfl
       refine pure_ (i := 24) (N := some 47) (v := undef) (a' := ?_) (fl10_ 43 33554431) rfl rfl (any_of HT_.out (by kernel_rfl)) (fun _ _ _ h => h) (Or.inr ⟨by rfl, rfl⟩) ?_ ?_
       rotate_left
       ·simp only [Act.put, List.setIfInBounds_toArray, List.set_cons_zero, List.set_cons_succ, i64_w, i32_w]
        rfl
       refine zpu HT_ 25 48 (fl10_ 43 67108863) ?_
       refine zpu HT_ 26 49 (fl10_ 43 134217727) ?_
       refine pure_ (i := 27) (N := some 50) (v := undef) (a' := ?_) (fl10_ 43 268435455) rfl rfl (any_of HT_.out (by kernel_rfl)) (fun _ _ _ h => h) (Or.inr ⟨by rfl, rfl⟩) ?_ ?_
       rotate_left
       ·simp only [Act.put, List.setIfInBounds_toArray, List.set_cons_zero, List.set_cons_succ, i64_w, i32_w]
        rfl
       refine pure_ (i := 28) (N := some 51) (v := undef) (a' := ?_) (fl10_ 43 536870911) rfl rfl (any_of HT_.out (by kernel_rfl)) (fun _ _ _ h => h) (Or.inr ⟨by rfl, rfl⟩) ?_ ?_
       rotate_left
       ·simp only [Act.put, List.setIfInBounds_toArray, List.set_cons_zero, List.set_cons_succ, i64_w, i32_w]
        rfl
       refine pure_ (i := 29) (N := some 52) (v := undef) (a' := ?_) (fl10_ 43 1073741823) rfl rfl (any_of HT_.out (by kernel_rfl)) (fun _ _ _ h => h) (Or.inr ⟨by rfl, rfl⟩) ?_ ?_
       rotate_left
       ·simp only [Act.put, List.setIfInBounds_toArray, List.set_cons_zero, List.set_cons_succ, i64_w, i32_w]
        rfl
       refine pure_ (i := 30) (N := some 53) (v := undef) (a' := ?_) (fl10_ 43 2147483647) rfl rfl (any_of HT_.out (by kernel_rfl)) (fun _ _ _ h => h) (Or.inr ⟨by rfl, rfl⟩) ?_ ?_
       rotate_left
       ·simp only [Act.put, List.setIfInBounds_toArray, List.set_cons_zero, List.set_cons_succ, i64_w, i32_w]
        rfl
       refine zpu HT_ 31 54 (fl10_ 43 4294967295) ?_
       refine zpu HT_ 32 55 (fl10_ 43 8589934591) ?_
       refine pure_ (i := 33) (N := some 56) (v := undef) (a' := ?_) (fl10_ 43 17179869183) rfl rfl (any_of HT_.out (by kernel_rfl)) (fun _ _ _ h => h) (Or.inr ⟨by rfl, rfl⟩) ?_ ?_
       rotate_left
       ·simp only [Act.put, List.setIfInBounds_toArray, List.set_cons_zero, List.set_cons_succ, i64_w, i32_w]
        rfl
       refine pure_ (i := 34) (N := some 57) (v := undef) (a' := ?_) (fl10_ 43 34359738367) rfl rfl (any_of HT_.out (by kernel_rfl)) (fun _ _ _ h => h) (Or.inr ⟨by rfl, rfl⟩) ?_ ?_
       rotate_left
       ·simp only [Act.put, List.setIfInBounds_toArray, List.set_cons_zero, List.set_cons_succ, i64_w, i32_w]
        rfl
       refine pure_ (i := 35) (N := some 58) (v := undef) (a' := ?_) (fl10_ 43 68719476735) rfl rfl (any_of HT_.out (by kernel_rfl)) (fun _ _ _ h => h) (Or.inr ⟨by rfl, rfl⟩) ?_ ?_
       rotate_left
       ·simp only [Act.put, List.setIfInBounds_toArray, List.set_cons_zero, List.set_cons_succ, i64_w, i32_w]
        rfl
       refine pure_ (i := 36) (N := some 59) (v := undef) (a' := ?_) (fl10_ 43 137438953471) rfl rfl (any_of HT_.out (by kernel_rfl)) (fun _ _ _ h => h) (Or.inr ⟨by rfl, rfl⟩) ?_ ?_
       rotate_left
       ·simp only [Act.put, List.setIfInBounds_toArray, List.set_cons_zero, List.set_cons_succ, i64_w, i32_w]
        rfl
       refine pure_ (i := 37) (N := some 60) (v := undef) (a' := ?_) (fl10_ 43 274877906943) rfl rfl (any_of HT_.out (by kernel_rfl)) (fun _ _ _ h => h) (Or.inr ⟨by rfl, rfl⟩) ?_ ?_
       rotate_left
       ·simp only [Act.put, List.setIfInBounds_toArray, List.set_cons_zero, List.set_cons_succ, i64_w, i32_w]
        rfl
       refine pure_ (i := 38) (N := some 61) (v := undef) (a' := ?_) (fl10_ 43 549755813887) rfl rfl (any_of HT_.out (by kernel_rfl)) (fun _ _ _ h => h) (Or.inr ⟨by rfl, rfl⟩) ?_ ?_
       rotate_left
       ·simp only [Act.put, List.setIfInBounds_toArray, List.set_cons_zero, List.set_cons_succ, i64_w, i32_w]
        rfl
       refine pure_ (i := 39) (N := some 62) (v := undef) (a' := ?_) (fl10_ 43 1099511627775) rfl rfl (any_of HT_.out (by kernel_rfl)) (fun _ _ _ h => h) (Or.inr ⟨by rfl, rfl⟩) ?_ ?_
       rotate_left
       ·simp only [Act.put, List.setIfInBounds_toArray, List.set_cons_zero, List.set_cons_succ, i64_w, i32_w]
        rfl
       refine pure_ (i := 40) (N := some 63) (v := undef) (a' := ?_) (fl10_ 43 2199023255551) rfl rfl (any_of HT_.out (by kernel_rfl)) (fun _ _ _ h => h) (Or.inr ⟨by rfl, rfl⟩) ?_ ?_
       rotate_left
       ·simp only [Act.put, List.setIfInBounds_toArray, List.set_cons_zero, List.set_cons_succ, i64_w, i32_w]
        rfl
       refine pure_ (i := 41) (N := some 64) (v := undef) (a' := ?_) (fl10_ 43 4398046511103) rfl rfl (any_of HT_.out (by kernel_rfl)) (fun _ _ _ h => h) (Or.inr ⟨by rfl, rfl⟩) ?_ ?_
       rotate_left
       ·simp only [Act.put, List.setIfInBounds_toArray, List.set_cons_zero, List.set_cons_succ, i64_w, i32_w]
        rfl
       refine zpu HT_ 42 65 (fl10_ 43 8796093022207) ?_
       refine done_ (done_of HT_.out (by kernel_rfl)) ?_
       try go_wp2
       go_meet
       case rel => exact ⟨_, (true), zrs, H', ⟨by have := HJ1.out; have := HK2.out; first | omega | exact Nat.le_refl _⟩, ⟨zb BK238⟩, ⟨zb BK240⟩, ⟨zg HB⟩⟩
      rw [if_pos c22] at H
      have c22b0 : (Op.bytesLess (((rd_T39 l0_0 (ji19)).f0).toList) (((rd_T39 l0_0 x18_2).f0).toList)) = true := c22
      clear c22
      replace H := Option.bind_eq_some_iff.mp H
      obtain ⟨t243, A230, H⟩ := H
      try dsimp only at H
      have A23 := Aside0.mk A230
      clear A230
      by_cases c24 : t243 = true
      rotate_left
      ·replace c24 := Bool.eq_false_iff.mpr c24
       subst c24
       rw [if_neg (show ¬ (false = true) by decide)] at H
       have H' := Aside0.mk H
       clear H
       try go_wp2
       have n0_ : Aside0 ((((((((((w13.setCell ⟨gb240, 0, none⟩ (.string ((rd_T39 l0_0 x18_2).f0))).setCell ⟨gb240, 1, none⟩ (.int .i64 ((rd_T39 l0_0 x18_2).f1))).setCell ⟨gb240, 2, none⟩ (.bool ((rd_T39 l0_0 x18_2).f2.f0))).setCell ⟨gb240, 3, none⟩ (.bool ((rd_T39 l0_0 x18_2).f2.f1))).setCell ⟨gb240, 4, none⟩ (.bool ((rd_T39 l0_0 x18_2).f2.f2))).setCell ⟨gb240, 5, none⟩ (.slice A239_5 ((rd_T39 l0_0 x18_2).f2.f3).length c239_5)).setCell ⟨gb240, 6, none⟩ (.slice A239_6 ((rd_T39 l0_0 x18_2).f2.f4).length c239_6)).setCell ⟨gb240, 7, none⟩ (.int .i64 ((rd_T39 l0_0 x18_2).f2.f5))).setCell ⟨gb240, 8, none⟩ (.int .i64 ((rd_T39 l0_0 x18_2).f2.f6))).heap[gb238]? = some (.cells #[.slice (some ad239) l0_0.length c0_0] 29 (0, 0))) := ⟨zp BK238⟩
       have n1_ : Aside0 ((((((((((w13.setCell ⟨gb240, 0, none⟩ (.string ((rd_T39 l0_0 x18_2).f0))).setCell ⟨gb240, 1, none⟩ (.int .i64 ((rd_T39 l0_0 x18_2).f1))).setCell ⟨gb240, 2, none⟩ (.bool ((rd_T39 l0_0 x18_2).f2.f0))).setCell ⟨gb240, 3, none⟩ (.bool ((rd_T39 l0_0 x18_2).f2.f1))).setCell ⟨gb240, 4, none⟩ (.bool ((rd_T39 l0_0 x18_2).f2.f2))).setCell ⟨gb240, 5, none⟩ (.slice A239_5 ((rd_T39 l0_0 x18_2).f2.f3).length c239_5)).setCell ⟨gb240, 6, none⟩ (.slice A239_6 ((rd_T39 l0_0 x18_2).f2.f4).length c239_6)).setCell ⟨gb240, 7, none⟩ (.int .i64 ((rd_T39 l0_0 x18_2).f2.f5))).setCell ⟨gb240, 8, none⟩ (.int .i64 ((rd_T39 l0_0 x18_2).f2.f6))).heap[gb240]? = some (.cells #[.string ((rd_T39 l0_0 x18_2).f0), .int .i64 ((rd_T39 l0_0 x18_2).f1), .bool ((rd_T39 l0_0 x18_2).f2.f0), .bool ((rd_T39 l0_0 x18_2).f2.f1), .bool ((rd_T39 l0_0 x18_2).f2.f2), .slice A239_5 ((rd_T39 l0_0 x18_2).f2.f3).length c239_5, .slice A239_6 ((rd_T39 l0_0 x18_2).f2.f4).length c239_6, .int .i64 ((rd_T39 l0_0 x18_2).f2.f5), .int .i64 ((rd_T39 l0_0 x18_2).f2.f6)] 39 (0, 0))) := ⟨zp BK240⟩
       have n2_ : Aside0 (Below w.heap.size w (((((((((w13.setCell ⟨gb240, 0, none⟩ (.string ((rd_T39 l0_0 x18_2).f0))).setCell ⟨gb240, 1, none⟩ (.int .i64 ((rd_T39 l0_0 x18_2).f1))).setCell ⟨gb240, 2, none⟩ (.bool ((rd_T39 l0_0 x18_2).f2.f0))).setCell ⟨gb240, 3, none⟩ (.bool ((rd_T39 l0_0 x18_2).f2.f1))).setCell ⟨gb240, 4, none⟩ (.bool ((rd_T39 l0_0 x18_2).f2.f2))).setCell ⟨gb240, 5, none⟩ (.slice A239_5 ((rd_T39 l0_0 x18_2).f2.f3).length c239_5)).setCell ⟨gb240, 6, none⟩ (.slice A239_6 ((rd_T39 l0_0 x18_2).f2.f4).length c239_6)).setCell ⟨gb240, 7, none⟩ (.int .i64 ((rd_T39 l0_0 x18_2).f2.f5))).setCell ⟨gb240, 8, none⟩ (.int .i64 ((rd_T39 l0_0 x18_2).f2.f6)))) := ⟨zg HB⟩
       (try clear BK238)
       (try clear BK240)
       (try clear HB)
       generalize (((((((((w13.setCell ⟨gb240, 0, none⟩ (.string ((rd_T39 l0_0 x18_2).f0))).setCell ⟨gb240, 1, none⟩ (.int .i64 ((rd_T39 l0_0 x18_2).f1))).setCell ⟨gb240, 2, none⟩ (.bool ((rd_T39 l0_0 x18_2).f2.f0))).setCell ⟨gb240, 3, none⟩ (.bool ((rd_T39 l0_0 x18_2).f2.f1))).setCell ⟨gb240, 4, none⟩ (.bool ((rd_T39 l0_0 x18_2).f2.f2))).setCell ⟨gb240, 5, none⟩ (.slice A239_5 ((rd_T39 l0_0 x18_2).f2.f3).length c239_5)).setCell ⟨gb240, 6, none⟩ (.slice A239_6 ((rd_T39 l0_0 x18_2).f2.f4).length c239_6)).setCell ⟨gb240, 7, none⟩ (.int .i64 ((rd_T39 l0_0 x18_2).f2.f5))).setCell ⟨gb240, 8, none⟩ (.int .i64 ((rd_T39 l0_0 x18_2).f2.f6))) = w49 at n0_ n1_ n2_ ⊢
       have BK238 := n0_
       have BK240 := n1_
       have HB := n2_
       clear n0_ n1_ n2_
       replace BK238 := Aside0.mk (blk_drew BK238.out)
       replace BK240 := Aside0.mk (blk_drew BK240.out)
       replace HB := Aside0.mk (below_drew1 HB.out)
       have p242 : 0 ≤ ((ji19) : Int) := of_decide_eq_true zas
       have q242 : (ji19) < (l0_0.length : Int) := of_decide_eq_true zas
       obtain ⟨ad242, A242_5, c242_5, A242_6, c242_6, e242, hx242_0, hx242_1, hx242_2, hx242_3, hx242_4, hx242_5, hx242_6, hx242_7, hx242_8, hl242_5, hi242_5, hl242_6, hi242_6⟩ := at_T39 HR0_0.out (ji19) p242 q242
       have hw242_8 := hx242_8
       have hw242_7 := hx242_7
       have hw242_6 := hx242_6
       have hw242_5 := hx242_5
       have hw242_4 := hx242_4
       have hw242_3 := hx242_3
       have hw242_2 := hx242_2
       have hw242_1 := hx242_1
       have hw242_0 := hx242_0
       obtain rfl : ad239 = ad242 := (by injection e242)
       replace hx242_0 := zx HB hx242_0
       replace hx242_1 := zx HB hx242_1
       replace hx242_2 := zx HB hx242_2
       replace hx242_3 := zx HB hx242_3
       replace hx242_4 := zx HB hx242_4
       replace hx242_5 := zx HB hx242_5
       replace hx242_6 := zx HB hx242_6
       replace hx242_7 := zx HB hx242_7
       replace hx242_8 := zx HB hx242_8
       have HR242_5 := Aside0.mk hi242_5
       have HC242_5 := Aside0.mk hl242_5
       clear hi242_5 hl242_5
       have HR242_6 := Aside0.mk hi242_6
       have HC242_6 := Aside0.mk hl242_6
       clear hi242_6 hl242_6
       replace p242 := eq_true p242
       replace q242 := eq_true q242
       refine start_ (n := 43) (S := fun w' => w'.cell? ⟨gb240, 0, none⟩ = some (.string ((rd_T39 l0_0 x18_2).f0)) ∧ w'.cell? ⟨gb240, 1, none⟩ = some (.int .i64 ((rd_T39 l0_0 x18_2).f1)) ∧ w'.cell? ⟨gb240, 2, none⟩ = some (.bool ((rd_T39 l0_0 x18_2).f2.f0)) ∧ w'.cell? ⟨gb240, 3, none⟩ = some (.bool ((rd_T39 l0_0 x18_2).f2.f1)) ∧ w'.cell? ⟨gb240, 4, none⟩ = some (.bool ((rd_T39 l0_0 x18_2).f2.f2)) ∧ w'.cell? ⟨gb240, 5, none⟩ = some (.slice A239_5 ((rd_T39 l0_0 x18_2).f2.f3).length c239_5) ∧ w'.cell? ⟨gb240, 6, none⟩ = some (.slice A239_6 ((rd_T39 l0_0 x18_2).f2.f4).length c239_6) ∧ w'.cell? ⟨gb240, 7, none⟩ = some (.int .i64 ((rd_T39 l0_0 x18_2).f2.f5)) ∧ w'.cell? ⟨gb240, 8, none⟩ = some (.int .i64 ((rd_T39 l0_0 x18_2).f2.f6)) ∧ w'.cell? ⟨gb238, 0, none⟩ = some (.slice (some ad239) l0_0.length c0_0) ∧ w'.cell? (ad239.add (((ji19)).toNat * 9)) = some (.string ((rd_T39 l0_0 (ji19)).f0)) ∧ w'.cell? ⟨(ad239.add (((ji19)).toNat * 9)).block, (ad239.add (((ji19)).toNat * 9)).off + 1, none⟩ = some (.int .i64 ((rd_T39 l0_0 (ji19)).f1)) ∧ w'.cell? ⟨(ad239.add (((ji19)).toNat * 9)).block, (ad239.add (((ji19)).toNat * 9)).off + 2, none⟩ = some (.bool ((rd_T39 l0_0 (ji19)).f2.f0)) ∧ w'.cell? ⟨(ad239.add (((ji19)).toNat * 9)).block, (ad239.add (((ji19)).toNat * 9)).off + 3, none⟩ = some (.bool ((rd_T39 l0_0 (ji19)).f2.f1)) ∧ w'.cell? ⟨(ad239.add (((ji19)).toNat * 9)).block, (ad239.add (((ji19)).toNat * 9)).off + 4, none⟩ = some (.bool ((rd_T39 l0_0 (ji19)).f2.f2)) ∧ w'.cell? ⟨(ad239.add (((ji19)).toNat * 9)).block, (ad239.add (((ji19)).toNat * 9)).off + 5, none⟩ = some (.slice A242_5 ((rd_T39 l0_0 (ji19)).f2.f3).length c242_5) ∧ w'.cell? ⟨(ad239.add (((ji19)).toNat * 9)).block, (ad239.add (((ji19)).toNat * 9)).off + 6, none⟩ = some (.slice A242_6 ((rd_T39 l0_0 (ji19)).f2.f4).length c242_6) ∧ w'.cell? ⟨(ad239.add (((ji19)).toNat * 9)).block, (ad239.add (((ji19)).toNat * 9)).off + 7, none⟩ = some (.int .i64 ((rd_T39 l0_0 (ji19)).f2.f5)) ∧ w'.cell? ⟨(ad239.add (((ji19)).toNat * 9)).block, (ad239.add (((ji19)).toNat * 9)).off + 8, none⟩ = some (.int .i64 ((rd_T39 l0_0 (ji19)).f2.f6))) (ds := []) (fl10_ 43 0) (by kernel_rfl) rfl rfl ⟨(blk_cell BK240.out 0).trans rfl, (blk_cell BK240.out 1).trans rfl, (blk_cell BK240.out 2).trans rfl, (blk_cell BK240.out 3).trans rfl, (blk_cell BK240.out 4).trans rfl, (blk_cell BK240.out 5).trans rfl, (blk_cell BK240.out 6).trans rfl, (blk_cell BK240.out 7).trans rfl, (blk_cell BK240.out 8).trans rfl, (blk_cell BK238.out 0).trans rfl, (zxx HB hw242_0), (zxx HB hw242_1), (zxx HB hw242_2), (zxx HB hw242_3), (zxx HB hw242_4), (zxx HB hw242_5), (zxx HB hw242_6), (zxx HB hw242_7), (zxx HB hw242_8)⟩ (fun hHeld => ?_); refine with_tabW impl_SchemaOK.tab6 impl_SchemaOK.bits6 (fun HT_ HW_ => ?_)
       generalize w49.drew = w50 at BK238 BK240 HB HR242_5 HR242_6 hx242_0 hx242_1 hx242_2 hx242_3 hx242_4 hx242_5 hx242_6 hx242_7 hx242_8 hHeld ⊢
       refine zpu HT_ 0 23 (fl10_ 43 1) ?_
       refine take_ (i := 1) (N := some 24) (v := ?_) (a' := ?_) (fl10_ 43 3) rfl rfl (take_ofW HT_.out HW_.out (by kernel_rfl)) (fun _ _ _ h => h) (Or.inl ⟨by rfl, ?_⟩) hHeld ?_ ?_
       rotate_left
       ·rintro w' ⟨s0, s1, s2, s3, s4, s5, s6, s7, s8, s9, s10, s11, s12, s13, s14, s15, s16, s17, s18⟩
        go_simp
        with_reducible rfl
       rotate_left
       ·simp only [Act.put, List.setIfInBounds_toArray, List.set_cons_zero, List.set_cons_succ, i64_w, i32_w]
        rfl
       refine one_ (i := 2) (N := some 25) (fl10_ 43 7) rfl rfl (one_of HT_.out (by kernel_rfl)) (by decide) (fun K hK => ?_)
       refine goes_ Tryd.func14 (by kernel_rfl) rfl #[.string ((rd_T39 l0_0 x18_2).f0)] (by rfl) rfl rfl zar ?_
       with_reducible refine (impl_nameOK.calls k2 ((rd_T39 l0_0 x18_2).f0) true _ A16.out).mono ?_
       rintro e w51 ⟨rfl, hb⟩
       refine ⟨_, rfl, ?_⟩
       replace BK238 := Aside0.mk (blk_below (zb BK238) hb)
       replace BK240 := Aside0.mk (blk_below (zb BK240) hb)
       replace HB := Aside0.mk (below_step (zg HB) hb)
       (try clear hb)
       (try clear hb2)
       (try clear hk)
       (try clear hi)
       refine hK.out _ _ ⟨(blk_cell BK240.out 0).trans rfl, (blk_cell BK240.out 1).trans rfl, (blk_cell BK240.out 2).trans rfl, (blk_cell BK240.out 3).trans rfl, (blk_cell BK240.out 4).trans rfl, (blk_cell BK240.out 5).trans rfl, (blk_cell BK240.out 6).trans rfl, (blk_cell BK240.out 7).trans rfl, (blk_cell BK240.out 8).trans rfl, (blk_cell BK238.out 0).trans rfl, (zxx HB hw242_0), (zxx HB hw242_1), (zxx HB hw242_2), (zxx HB hw242_3), (zxx HB hw242_4), (zxx HB hw242_5), (zxx HB hw242_6), (zxx HB hw242_7), (zxx HB hw242_8)⟩ (fun hHeld => ?_)
       clear hK K
       refine norm_ (a' := ?_) ?_ ?_
       rotate_left
       ·show Act.put _ (some 25) _ = _
        simp only [Act.put, List.setIfInBounds_toArray, List.set_cons_zero, List.set_cons_succ, i64_w, i32_w]
        rfl
       refine zpu HT_ 3 26 (fl10_ 43 15) ?_
       refine zpu HT_ 4 27 (fl10_ 43 31) ?_
       refine zpu HT_ 5 28 (fl10_ 43 63) ?_
       refine zpu HT_ 6 29 (fl10_ 43 127) ?_
       refine zpu HT_ 7 30 (fl10_ 43 255) ?_
       refine zpu HT_ 8 31 (fl10_ 43 511) ?_
       refine zpu HT_ 10 33 (fl10_ 43 1535) ?_
       refine zpu HT_ 12 35 (fl10_ 43 5631) ?_
       refine zpu HT_ 13 36 (fl10_ 43 13823) ?_
       refine take_ (i := 9) (N := some 32) (v := ?_) (a' := ?_) (fl10_ 43 14335) rfl rfl (take_ofW HT_.out HW_.out (by kernel_rfl)) (fun _ _ _ h => h) (Or.inl ⟨by rfl, ?_⟩) hHeld ?_ ?_
       rotate_left
       ·rintro w' ⟨s0, s1, s2, s3, s4, s5, s6, s7, s8, s9, s10, s11, s12, s13, s14, s15, s16, s17, s18⟩
        go_simp
        with_reducible rfl
       rotate_left
       ·simp only [Act.put, List.setIfInBounds_toArray, List.set_cons_zero, List.set_cons_succ, i64_w, i32_w]
        rfl
       refine take_ (i := 11) (N := some 34) (v := ?_) (a' := ?_) (fl10_ 43 16383) rfl rfl (take_ofW HT_.out HW_.out (by kernel_rfl)) (fun _ _ _ h => h) (Or.inl ⟨by rfl, ?_⟩) hHeld ?_ ?_
       rotate_left
       ·rintro w' ⟨s0, s1, s2, s3, s4, s5, s6, s7, s8, s9, s10, s11, s12, s13, s14, s15, s16, s17, s18⟩
        go_simp
        with_reducible rfl
       rotate_left
       ·simp only [Act.put, List.setIfInBounds_toArray, List.set_cons_zero, List.set_cons_succ, i64_w, i32_w]
        rfl
       refine zpu HT_ 14 37 (fl10_ 43 32767) ?_
       refine zpu HT_ 15 38 (fl10_ 43 65535) ?_
       refine take_ (i := 16) (N := some 39) (v := ?_) (a' := ?_) (fl10_ 43 131071) rfl rfl (take_ofW HT_.out HW_.out (by kernel_rfl)) (fun _ _ _ h => h) (Or.inl ⟨by rfl, ?_⟩) hHeld ?_ ?_
       rotate_left
       ·rintro w' ⟨s0, s1, s2, s3, s4, s5, s6, s7, s8, s9, s10, s11, s12, s13, s14, s15, s16, s17, s18⟩
        go_simp
        with_reducible rfl
       rotate_left
       ·simp only [Act.put, List.setIfInBounds_toArray, List.set_cons_zero, List.set_cons_succ, i64_w, i32_w]
        rfl
       refine zpu HT_ 17 40 (fl10_ 43 262143) ?_
       refine zpu HT_ 18 41 (fl10_ 43 524287) ?_
       refine zpu HT_ 19 42 (fl10_ 43 1048575) ?_
       refine zpu HT_ 20 43 (fl10_ 43 2097151) ?_
       refine zpu HT_ 21 44 (fl10_ 43 4194303) ?_
       refine take_ (i := 22) (N := some 45) (v := ?_) (a' := ?_) (fl10_ 43 8388607) rfl rfl (take_ofW HT_.out HW_.out (by kernel_rfl)) (fun _ _ _ h => h) (Or.inl ⟨by rfl, ?_⟩) hHeld ?_ ?_
       rotate_left
       ·rintro w' ⟨s0, s1, s2, s3, s4, s5, s6, s7, s8, s9, s10, s11, s12, s13, s14, s15, s16, s17, s18⟩
        go_simp
        with_reducible rfl
       rotate_left
       ·simp only [Act.put, List.setIfInBounds_toArray, List.set_cons_zero, List.set_cons_succ, i64_w, i32_w]
        rfl
       refine one_ (i := 23) (N := some 46) (fl10_ 43 16777215) rfl rfl (one_of HT_.out (by kernel_rfl)) (by decide) (fun K hK => ?_)
       refine goes_ Tryd.func15 (by kernel_rfl) rfl #[.int .i64 ((rd_T39 l0_0 x18_2).f1), .int .i64 1, .int .i64 3] (by rfl) rfl rfl zar ?_
       with_reducible refine (impl_within.calls ((rd_T39 l0_0 x18_2).f1) 1 3 false _ A23.out).mono ?_
       rintro e w' ⟨rfl, ⟨nd, rfl⟩⟩
       refine ⟨_, rfl, ?_⟩
       refine hK.out _ _ ⟨(blk_cell BK240.out 0).trans rfl, (blk_cell BK240.out 1).trans rfl, (blk_cell BK240.out 2).trans rfl, (blk_cell BK240.out 3).trans rfl, (blk_cell BK240.out 4).trans rfl, (blk_cell BK240.out 5).trans rfl, (blk_cell BK240.out 6).trans rfl, (blk_cell BK240.out 7).trans rfl, (blk_cell BK240.out 8).trans rfl, (blk_cell BK238.out 0).trans rfl, (zxx HB hw242_0), (zxx HB hw242_1), (zxx HB hw242_2), (zxx HB hw242_3), (zxx HB hw242_4), (zxx HB hw242_5), (zxx HB hw242_6), (zxx HB hw242_7), (zxx HB hw242_8)⟩ (fun hHeld => ?_)
       clear hK K
       refine norm_ (a' := ?_) ?_ ?_
       rotate_left
       ·show Act.put _ (some 46) _ = _
        simp only [Act.put, List.setIfInBounds_toArray, List.set_cons_zero, List.set_cons_succ, i64_w, i32_w]
        rfl
       refine zpu HT_ 24 47 (fl10_ 43 33554431) ?_
       refine zpu HT_ 25 48 (fl10_ 43 67108863) ?_
       refine zpu HT_ 26 49 (fl10_ 43 134217727) ?_
       refine pure_ (i := 27) (N := some 50) (v := undef) (a' := ?_) (fl10_ 43 268435455) rfl rfl (any_of HT_.out (by kernel_rfl)) (fun _ _ _ h => h) (Or.inr ⟨by rfl, rfl⟩) ?_ ?_
       rotate_left
       ·simp only [Act.put, List.setIfInBounds_toArray, List.set_cons_zero, List.set_cons_succ, i64_w, i32_w]
        rfl
       refine pure_ (i := 28) (N := some 51) (v := undef) (a' := ?_) (fl10_ 43 536870911) rfl rfl (any_of HT_.out (by kernel_rfl)) (fun _ _ _ h => h) (Or.inr ⟨by rfl, rfl⟩) ?_ ?_
       rotate_left
       ·simp only [Act.put, List.setIfInBounds_toArray, List.set_cons_zero, List.set_cons_succ, i64_w, i32_w]
        rfl
       refine pure_ (i := 29) (N := some 52) (v := undef) (a' := ?_) (fl10_ 43 1073741823) rfl rfl (any_of HT_.out (by kernel_rfl)) (fun _ _ _ h => h) (Or.inr ⟨by rfl, rfl⟩) ?_ ?_
       rotate_left
       ·simp only [Act.put, List.setIfInBounds_toArray, List.set_cons_zero, List.set_cons_succ, i64_w, i32_w]
        rfl
       refine pure_ (i := 30) (N := some 53) (v := undef) (a' := ?_) (fl10_ 43 2147483647) rfl rfl (any_of HT_.out (by kernel_rfl)) (fun _ _ _ h => h) (Or.inr ⟨by rfl, rfl⟩) ?_ ?_
       rotate_left
       ·simp only [Act.put, List.setIfInBounds_toArray, List.set_cons_zero, List.set_cons_succ, i64_w, i32_w]
        rfl
       refine zpu HT_ 31 54 (fl10_ 43 4294967295) ?_
       refine zpu HT_ 32 55 (fl10_ 43 8589934591) ?_
       refine pure_ (i := 33) (N := some 56) (v := undef) (a' := ?_) (fl10_ 43 17179869183) rfl rfl (any_of HT_.out (by kernel_rfl)) (fun _ _ _ h => h) (Or.inr ⟨by rfl, rfl⟩) ?_ ?_
       rotate_left
       ·simp only [Act.put, List.setIfInBounds_toArray, List.set_cons_zero, List.set_cons_succ, i64_w, i32_w]
        rfl
       refine pure_ (i := 34) (N := some 57) (v := undef) (a' := ?_) (fl10_ 43 34359738367) rfl rfl (any_of HT_.out (by kernel_rfl)) (fun _ _ _ h => h) (Or.inr ⟨by rfl, rfl⟩) ?_ ?_
       rotate_left
       ·simp only [Act.put, List.setIfInBounds_toArray, List.set_cons_zero, List.set_cons_succ, i64_w, i32_w]
        rfl
       refine pure_ (i := 35) (N := some 58) (v := undef) (a' := ?_) (fl10_ 43 68719476735) rfl rfl (any_of HT_.out (by kernel_rfl)) (fun _ _ _ h => h) (Or.inr ⟨by rfl, rfl⟩) ?_ ?_
       rotate_left
       ·simp only [Act.put, List.setIfInBounds_toArray, List.set_cons_zero, List.set_cons_succ, i64_w, i32_w]
        rfl
       refine pure_ (i := 36) (N := some 59) (v := undef) (a' := ?_) (fl10_ 43 137438953471) rfl rfl (any_of HT_.out (by kernel_rfl)) (fun _ _ _ h => h) (Or.inr ⟨by rfl, rfl⟩) ?_ ?_
       rotate_left
       ·simp only [Act.put, List.setIfInBounds_toArray, List.set_cons_zero, List.set_cons_succ, i64_w, i32_w]
        rfl
       refine pure_ (i := 37) (N := some 60) (v := undef) (a' := ?_) (fl10_ 43 274877906943) rfl rfl (any_of HT_.out (by kernel_rfl)) (fun _ _ _ h => h) (Or.inr ⟨by rfl, rfl⟩) ?_ ?_
       rotate_left
       ·simp only [Act.put, List.setIfInBounds_toArray, List.set_cons_zero, List.set_cons_succ, i64_w, i32_w]
        rfl
       refine pure_ (i := 38) (N := some 61) (v := undef) (a' := ?_) (fl10_ 43 549755813887) rfl rfl (any_of HT_.out (by kernel_rfl)) (fun _ _ _ h => h) (Or.inr ⟨by rfl, rfl⟩) ?_ ?_
       rotate_left
       ·simp only [Act.put, List.setIfInBounds_toArray, List.set_cons_zero, List.set_cons_succ, i64_w, i32_w]
        rfl
       refine pure_ (i := 39) (N := some 62) (v := undef) (a' := ?_) (fl10_ 43 1099511627775) rfl rfl (any_of HT_.out (by kernel_rfl)) (fun _ _ _ h => h) (Or.inr ⟨by rfl, rfl⟩) ?_ ?_
       rotate_left
       ·simp only [Act.put, List.setIfInBounds_toArray, List.set_cons_zero, List.set_cons_succ, i64_w, i32_w]
        rfl
       refine pure_ (i := 40) (N := some 63) (v := undef) (a' := ?_) (fl10_ 43 2199023255551) rfl rfl (any_of HT_.out (by kernel_rfl)) (fun _ _ _ h => h) (Or.inr ⟨by rfl, rfl⟩) ?_ ?_
       rotate_left
       ·simp only [Act.put, List.setIfInBounds_toArray, List.set_cons_zero, List.set_cons_succ, i64_w, i32_w]
        rfl
       refine pure_ (i := 41) (N := some 64) (v := undef) (a' := ?_) (fl10_ 43 4398046511103) rfl rfl (any_of HT_.out (by kernel_rfl)) (fun _ _ _ h => h) (Or.inr ⟨by rfl, rfl⟩) ?_ ?_
       rotate_left
       ·simp only [Act.put, List.setIfInBounds_toArray, List.set_cons_zero, List.set_cons_succ, i64_w, i32_w]
        rfl
       refine zpu HT_ 42 65 (fl10_ 43 8796093022207) ?_
       refine done_ (done_of HT_.out (by kernel_rfl)) ?_
       try go_wp2
       go_meet
       case rel => exact ⟨_, (true), zrs, H', ⟨by have := HJ1.out; have := HK2.out; first | omega | exact Nat.le_refl _⟩, ⟨zb BK238⟩, ⟨zb BK240⟩, ⟨zg HB⟩⟩
      subst c24
      rw [if_pos rfl] at H
      replace H := Option.bind_eq_some_iff.mp H
      obtain ⟨t244, A250, H⟩ := H
      try dsimp only at H
      have A25 := Aside0.mk A250
      clear A250
      by_cases c26 : t244 = true
      rotate_left
      ·replace c26 := Bool.eq_false_iff.mpr c26
       subst c26
       rw [if_neg (show ¬ (false = true) by decide)] at H
       have H' := Aside0.mk H
       clear H
       try go_wp2
       have n0_ : Aside0 ((((((((((w13.setCell ⟨gb240, 0, none⟩ (.string ((rd_T39 l0_0 x18_2).f0))).setCell ⟨gb240, 1, none⟩ (.int .i64 ((rd_T39 l0_0 x18_2).f1))).setCell ⟨gb240, 2, none⟩ (.bool ((rd_T39 l0_0 x18_2).f2.f0))).setCell ⟨gb240, 3, none⟩ (.bool ((rd_T39 l0_0 x18_2).f2.f1))).setCell ⟨gb240, 4, none⟩ (.bool ((rd_T39 l0_0 x18_2).f2.f2))).setCell ⟨gb240, 5, none⟩ (.slice A239_5 ((rd_T39 l0_0 x18_2).f2.f3).length c239_5)).setCell ⟨gb240, 6, none⟩ (.slice A239_6 ((rd_T39 l0_0 x18_2).f2.f4).length c239_6)).setCell ⟨gb240, 7, none⟩ (.int .i64 ((rd_T39 l0_0 x18_2).f2.f5))).setCell ⟨gb240, 8, none⟩ (.int .i64 ((rd_T39 l0_0 x18_2).f2.f6))).heap[gb238]? = some (.cells #[.slice (some ad239) l0_0.length c0_0] 29 (0, 0))) := ⟨zp BK238⟩
       have n1_ : Aside0 ((((((((((w13.setCell ⟨gb240, 0, none⟩ (.string ((rd_T39 l0_0 x18_2).f0))).setCell ⟨gb240, 1, none⟩ (.int .i64 ((rd_T39 l0_0 x18_2).f1))).setCell ⟨gb240, 2, none⟩ (.bool ((rd_T39 l0_0 x18_2).f2.f0))).setCell ⟨gb240, 3, none⟩ (.bool ((rd_T39 l0_0 x18_2).f2.f1))).setCell ⟨gb240, 4, none⟩ (.bool ((rd_T39 l0_0 x18_2).f2.f2))).setCell ⟨gb240, 5, none⟩ (.slice A239_5 ((rd_T39 l0_0 x18_2).f2.f3).length c239_5)).setCell ⟨gb240, 6, none⟩ (.slice A239_6 ((rd_T39 l0_0 x18_2).f2.f4).length c239_6)).setCell ⟨gb240, 7, none⟩ (.int .i64 ((rd_T39 l0_0 x18_2).f2.f5))).setCell ⟨gb240, 8, none⟩ (.int .i64 ((rd_T39 l0_0 x18_2).f2.f6))).heap[gb240]? = some (.cells #[.string ((rd_T39 l0_0 x18_2).f0), .int .i64 ((rd_T39 l0_0 x18_2).f1), .bool ((rd_T39 l0_0 x18_2).f2.f0), .bool ((rd_T39 l0_0 x18_2).f2.f1), .bool ((rd_T39 l0_0 x18_2).f2.f2), .slice A239_5 ((rd_T39 l0_0 x18_2).f2.f3).length c239_5, .slice A239_6 ((rd_T39 l0_0 x18_2).f2.f4).length c239_6, .int .i64 ((rd_T39 l0_0 x18_2).f2.f5), .int .i64 ((rd_T39 l0_0 x18_2).f2.f6)] 39 (0, 0))) := ⟨zp BK240⟩
       have n2_ : Aside0 (Below w.heap.size w (((((((((w13.setCell ⟨gb240, 0, none⟩ (.string ((rd_T39 l0_0 x18_2).f0))).setCell ⟨gb240, 1, none⟩ (.int .i64 ((rd_T39 l0_0 x18_2).f1))).setCell ⟨gb240, 2, none⟩ (.bool ((rd_T39 l0_0 x18_2).f2.f0))).setCell ⟨gb240, 3, none⟩ (.bool ((rd_T39 l0_0 x18_2).f2.f1))).setCell ⟨gb240, 4, none⟩ (.bool ((rd_T39 l0_0 x18_2).f2.f2))).setCell ⟨gb240, 5, none⟩ (.slice A239_5 ((rd_T39 l0_0 x18_2).f2.f3).length c239_5)).setCell ⟨gb240, 6, none⟩ (.slice A239_6 ((rd_T39 l0_0 x18_2).f2.f4).length c239_6)).setCell ⟨gb240, 7, none⟩ (.int .i64 ((rd_T39 l0_0 x18_2).f2.f5))).setCell ⟨gb240, 8, none⟩ (.int .i64 ((rd_T39 l0_0 x18_2).f2.f6)))) := ⟨zg HB⟩
       (try clear BK238)
       (try clear BK240)
       (try clear HB)
       generalize (((((((((w13.setCell ⟨gb240, 0, none⟩ (.string ((rd_T39 l0_0 x18_2).f0))).setCell ⟨gb240, 1, none⟩ (.int .i64 ((rd_T39 l0_0 x18_2).f1))).setCell ⟨gb240, 2, none⟩ (.bool ((rd_T39 l0_0 x18_2).f2.f0))).setCell ⟨gb240, 3, none⟩ (.bool ((rd_T39 l0_0 x18_2).f2.f1))).setCell ⟨gb240, 4, none⟩ (.bool ((rd_T39 l0_0 x18_2).f2.f2))).setCell ⟨gb240, 5, none⟩ (.slice A239_5 ((rd_T39 l0_0 x18_2).f2.f3).length c239_5)).setCell ⟨gb240, 6, none⟩ (.slice A239_6 ((rd_T39 l0_0 x18_2).f2.f4).length c239_6)).setCell ⟨gb240, 7, none⟩ (.int .i64 ((rd_T39 l0_0 x18_2).f2.f5))).setCell ⟨gb240, 8, none⟩ (.int .i64 ((rd_T39 l0_0 x18_2).f2.f6))) = w43 at n0_ n1_ n2_ ⊢
       have BK238 := n0_
       have BK240 := n1_
       have HB := n2_
       clear n0_ n1_ n2_
       replace BK238 := Aside0.mk (blk_drew BK238.out)
       replace BK240 := Aside0.mk (blk_drew BK240.out)
       replace HB := Aside0.mk (below_drew1 HB.out)
       have p242 : 0 ≤ ((ji19) : Int) := of_decide_eq_true zas
       have q242 : (ji19) < (l0_0.length : Int) := of_decide_eq_true zas
       obtain ⟨ad242, A242_5, c242_5, A242_6, c242_6, e242, hx242_0, hx242_1, hx242_2, hx242_3, hx242_4, hx242_5, hx242_6, hx242_7, hx242_8, hl242_5, hi242_5, hl242_6, hi242_6⟩ := at_T39 HR0_0.out (ji19) p242 q242
       have hw242_8 := hx242_8
       have hw242_7 := hx242_7
       have hw242_6 := hx242_6
       have hw242_5 := hx242_5
       have hw242_4 := hx242_4
       have hw242_3 := hx242_3
       have hw242_2 := hx242_2
       have hw242_1 := hx242_1
       have hw242_0 := hx242_0
       obtain rfl : ad239 = ad242 := (by injection e242)
       replace hx242_0 := zx HB hx242_0
       replace hx242_1 := zx HB hx242_1
       replace hx242_2 := zx HB hx242_2
       replace hx242_3 := zx HB hx242_3
       replace hx242_4 := zx HB hx242_4
       replace hx242_5 := zx HB hx242_5
       replace hx242_6 := zx HB hx242_6
       replace hx242_7 := zx HB hx242_7
       replace hx242_8 := zx HB hx242_8
       have HR242_5 := Aside0.mk hi242_5
       have HC242_5 := Aside0.mk hl242_5
       clear hi242_5 hl242_5
       have HR242_6 := Aside0.mk hi242_6
       have HC242_6 := Aside0.mk hl242_6
       clear hi242_6 hl242_6
       replace p242 := eq_true p242
       replace q242 := eq_true q242
       refine start_ (n := 43) (S := fun w' => w'.cell? ⟨gb240, 0, none⟩ = some (.string ((rd_T39 l0_0 x18_2).f0)) ∧ w'.cell? ⟨gb240, 1, none⟩ = some (.int .i64 ((rd_T39 l0_0 x18_2).f1)) ∧ w'.cell? ⟨gb240, 2, none⟩ = some (.bool ((rd_T39 l0_0 x18_2).f2.f0)) ∧ w'.cell? ⟨gb240, 3, none⟩ = some (.bool ((rd_T39 l0_0 x18_2).f2.f1)) ∧ w'.cell? ⟨gb240, 4, none⟩ = some (.bool ((rd_T39 l0_0 x18_2).f2.f2)) ∧ w'.cell? ⟨gb240, 5, none⟩ = some (.slice A239_5 ((rd_T39 l0_0 x18_2).f2.f3).length c239_5) ∧ w'.cell? ⟨gb240, 6, none⟩ = some (.slice A239_6 ((rd_T39 l0_0 x18_2).f2.f4).length c239_6) ∧ w'.cell? ⟨gb240, 7, none⟩ = some (.int .i64 ((rd_T39 l0_0 x18_2).f2.f5)) ∧ w'.cell? ⟨gb240, 8, none⟩ = some (.int .i64 ((rd_T39 l0_0 x18_2).f2.f6)) ∧ w'.cell? ⟨gb238, 0, none⟩ = some (.slice (some ad239) l0_0.length c0_0) ∧ w'.cell? (ad239.add (((ji19)).toNat * 9)) = some (.string ((rd_T39 l0_0 (ji19)).f0)) ∧ w'.cell? ⟨(ad239.add (((ji19)).toNat * 9)).block, (ad239.add (((ji19)).toNat * 9)).off + 1, none⟩ = some (.int .i64 ((rd_T39 l0_0 (ji19)).f1)) ∧ w'.cell? ⟨(ad239.add (((ji19)).toNat * 9)).block, (ad239.add (((ji19)).toNat * 9)).off + 2, none⟩ = some (.bool ((rd_T39 l0_0 (ji19)).f2.f0)) ∧ w'.cell? ⟨(ad239.add (((ji19)).toNat * 9)).block, (ad239.add (((ji19)).toNat * 9)).off + 3, none⟩ = some (.bool ((rd_T39 l0_0 (ji19)).f2.f1)) ∧ w'.cell? ⟨(ad239.add (((ji19)).toNat * 9)).block, (ad239.add (((ji19)).toNat * 9)).off + 4, none⟩ = some (.bool ((rd_T39 l0_0 (ji19)).f2.f2)) ∧ w'.cell? ⟨(ad239.add (((ji19)).toNat * 9)).block, (ad239.add (((ji19)).toNat * 9)).off + 5, none⟩ = some (.slice A242_5 ((rd_T39 l0_0 (ji19)).f2.f3).length c242_5) ∧ w'.cell? ⟨(ad239.add (((ji19)).toNat * 9)).block, (ad239.add (((ji19)).toNat * 9)).off + 6, none⟩ = some (.slice A242_6 ((rd_T39 l0_0 (ji19)).f2.f4).length c242_6) ∧ w'.cell? ⟨(ad239.add (((ji19)).toNat * 9)).block, (ad239.add (((ji19)).toNat * 9)).off + 7, none⟩ = some (.int .i64 ((rd_T39 l0_0 (ji19)).f2.f5)) ∧ w'.cell? ⟨(ad239.add (((ji19)).toNat * 9)).block, (ad239.add (((ji19)).toNat * 9)).off + 8, none⟩ = some (.int .i64 ((rd_T39 l0_0 (ji19)).f2.f6))) (ds := []) (fl10_ 43 0) (by kernel_rfl) rfl rfl ⟨(blk_cell BK240.out 0).trans rfl, (blk_cell BK240.out 1).trans rfl, (blk_cell BK240.out 2).trans rfl, (blk_cell BK240.out 3).trans rfl, (blk_cell BK240.out 4).trans rfl, (blk_cell BK240.out 5).trans rfl, (blk_cell BK240.out 6).trans rfl, (blk_cell BK240.out 7).trans rfl, (blk_cell BK240.out 8).trans rfl, (blk_cell BK238.out 0).trans rfl, (zxx HB hw242_0), (zxx HB hw242_1), (zxx HB hw242_2), (zxx HB hw242_3), (zxx HB hw242_4), (zxx HB hw242_5), (zxx HB hw242_6), (zxx HB hw242_7), (zxx HB hw242_8)⟩ (fun hHeld => ?_); refine with_tabW impl_SchemaOK.tab6 impl_SchemaOK.bits6 (fun HT_ HW_ => ?_)
       generalize w43.drew = w44 at BK238 BK240 HB HR242_5 HR242_6 hx242_0 hx242_1 hx242_2 hx242_3 hx242_4 hx242_5 hx242_6 hx242_7 hx242_8 hHeld ⊢
       refine zpu HT_ 0 23 (fl10_ 43 1) ?_
       refine take_ (i := 1) (N := some 24) (v := ?_) (a' := ?_) (fl10_ 43 3) rfl rfl (take_ofW HT_.out HW_.out (by kernel_rfl)) (fun _ _ _ h => h) (Or.inl ⟨by rfl, ?_⟩) hHeld ?_ ?_
       rotate_left
       ·rintro w' ⟨s0, s1, s2, s3, s4, s5, s6, s7, s8, s9, s10, s11, s12, s13, s14, s15, s16, s17, s18⟩
        go_simp
        with_reducible rfl
       rotate_left
       ·simp only [Act.put, List.setIfInBounds_toArray, List.set_cons_zero, List.set_cons_succ, i64_w, i32_w]
        rfl
       refine one_ (i := 2) (N := some 25) (fl10_ 43 7) rfl rfl (one_of HT_.out (by kernel_rfl)) (by decide) (fun K hK => ?_)
       refine goes_ Tryd.func14 (by kernel_rfl) rfl #[.string ((rd_T39 l0_0 x18_2).f0)] (by rfl) rfl rfl zar ?_
       with_reducible refine (impl_nameOK.calls k2 ((rd_T39 l0_0 x18_2).f0) true _ A16.out).mono ?_
       rintro e w45 ⟨rfl, hb⟩
       refine ⟨_, rfl, ?_⟩
       replace BK238 := Aside0.mk (blk_below (zb BK238) hb)
       replace BK240 := Aside0.mk (blk_below (zb BK240) hb)
       replace HB := Aside0.mk (below_step (zg HB) hb)
       (try clear hb)
       (try clear hb2)
       (try clear hk)
       (try clear hi)
       refine hK.out _ _ ⟨(blk_cell BK240.out 0).trans rfl, (blk_cell BK240.out 1).trans rfl, (blk_cell BK240.out 2).trans rfl, (blk_cell BK240.out 3).trans rfl, (blk_cell BK240.out 4).trans rfl, (blk_cell BK240.out 5).trans rfl, (blk_cell BK240.out 6).trans rfl, (blk_cell BK240.out 7).trans rfl, (blk_cell BK240.out 8).trans rfl, (blk_cell BK238.out 0).trans rfl, (zxx HB hw242_0), (zxx HB hw242_1), (zxx HB hw242_2), (zxx HB hw242_3), (zxx HB hw242_4), (zxx HB hw242_5), (zxx HB hw242_6), (zxx HB hw242_7), (zxx HB hw242_8)⟩ (fun hHeld => ?_)
       clear hK K
       refine norm_ (a' := ?_) ?_ ?_
       rotate_left
       ·show Act.put _ (some 25) _ = _
        simp only [Act.put, List.setIfInBounds_toArray, List.set_cons_zero, List.set_cons_succ, i64_w, i32_w]
        rfl
       refine zpu HT_ 3 26 (fl10_ 43 15) ?_
       refine zpu HT_ 4 27 (fl10_ 43 31) ?_
       refine zpu HT_ 5 28 (fl10_ 43 63) ?_
       refine zpu HT_ 6 29 (fl10_ 43 127) ?_
       refine zpu HT_ 7 30 (fl10_ 43 255) ?_
       refine zpu HT_ 8 31 (fl10_ 43 511) ?_
       refine zpu HT_ 10 33 (fl10_ 43 1535) ?_
       refine zpu HT_ 12 35 (fl10_ 43 5631) ?_
       refine zpu HT_ 13 36 (fl10_ 43 13823) ?_
       refine take_ (i := 9) (N := some 32) (v := ?_) (a' := ?_) (fl10_ 43 14335) rfl rfl (take_ofW HT_.out HW_.out (by kernel_rfl)) (fun _ _ _ h => h) (Or.inl ⟨by rfl, ?_⟩) hHeld ?_ ?_
       rotate_left
       ·rintro w' ⟨s0, s1, s2, s3, s4, s5, s6, s7, s8, s9, s10, s11, s12, s13, s14, s15, s16, s17, s18⟩
        go_simp
        with_reducible rfl
       rotate_left
       ·simp only [Act.put, List.setIfInBounds_toArray, List.set_cons_zero, List.set_cons_succ, i64_w, i32_w]
        rfl
       refine take_ (i := 11) (N := some 34) (v := ?_) (a' := ?_) (fl10_ 43 16383) rfl rfl (take_ofW HT_.out HW_.out (by kernel_rfl)) (fun _ _ _ h => h) (Or.inl ⟨by rfl, ?_⟩) hHeld ?_ ?_
       rotate_left
       ·rintro w' ⟨s0, s1, s2, s3, s4, s5, s6, s7, s8, s9, s10, s11, s12, s13, s14, s15, s16, s17, s18⟩
        go_simp
        with_reducible rfl
       rotate_left
       ·simp only [Act.put, List.setIfInBounds_toArray, List.set_cons_zero, List.set_cons_succ, i64_w, i32_w]
        rfl
       refine zpu HT_ 14 37 (fl10_ 43 32767) ?_
       refine zpu HT_ 15 38 (fl10_ 43 65535) ?_
       refine take_ (i := 16) (N := some 39) (v := ?_) (a' := ?_) (fl10_ 43 131071) rfl rfl (take_ofW HT_.out HW_.out (by kernel_rfl)) (fun _ _ _ h => h) (Or.inl ⟨by rfl, ?_⟩) hHeld ?_ ?_
       rotate_left
       ·rintro w' ⟨s0, s1, s2, s3, s4, s5, s6, s7, s8, s9, s10, s11, s12, s13, s14, s15, s16, s17, s18⟩
        go_simp
        with_reducible rfl
       rotate_left
       ·simp only [Act.put, List.setIfInBounds_toArray, List.set_cons_zero, List.set_cons_succ, i64_w, i32_w]
        rfl
       refine zpu HT_ 17 40 (fl10_ 43 262143) ?_
       refine zpu HT_ 18 41 (fl10_ 43 524287) ?_
       refine zpu HT_ 19 42 (fl10_ 43 1048575) ?_
       refine zpu HT_ 20 43 (fl10_ 43 2097151) ?_
       refine zpu HT_ 21 44 (fl10_ 43 4194303) ?_
       refine take_ (i := 22) (N := some 45) (v := ?_) (a' := ?_) (fl10_ 43 8388607) rfl rfl (take_ofW HT_.out HW_.out (by kernel_rfl)) (fun _ _ _ h => h) (Or.inl ⟨by rfl, ?_⟩) hHeld ?_ ?_
       rotate_left
       ·rintro w' ⟨s0, s1, s2, s3, s4, s5, s6, s7, s8, s9, s10, s11, s12, s13, s14, s15, s16, s17, s18⟩
        go_simp
        with_reducible rfl
       rotate_left
       ·simp only [Act.put, List.setIfInBounds_toArray, List.set_cons_zero, List.set_cons_succ, i64_w, i32_w]
        rfl
       refine one_ (i := 23) (N := some 46) (fl10_ 43 16777215) rfl rfl (one_of HT_.out (by kernel_rfl)) (by decide) (fun K hK => ?_)
       refine goes_ Tryd.func15 (by kernel_rfl) rfl #[.int .i64 ((rd_T39 l0_0 x18_2).f1), .int .i64 1, .int .i64 3] (by rfl) rfl rfl zar ?_
       with_reducible refine (impl_within.calls ((rd_T39 l0_0 x18_2).f1) 1 3 true _ A23.out).mono ?_
       rintro e w' ⟨rfl, ⟨nd, rfl⟩⟩
       refine ⟨_, rfl, ?_⟩
       refine hK.out _ _ ⟨(blk_cell BK240.out 0).trans rfl, (blk_cell BK240.out 1).trans rfl, (blk_cell BK240.out 2).trans rfl, (blk_cell BK240.out 3).trans rfl, (blk_cell BK240.out 4).trans rfl, (blk_cell BK240.out 5).trans rfl, (blk_cell BK240.out 6).trans rfl, (blk_cell BK240.out 7).trans rfl, (blk_cell BK240.out 8).trans rfl, (blk_cell BK238.out 0).trans rfl, (zxx HB hw242_0), (zxx HB hw242_1), (zxx HB hw242_2), (zxx HB hw242_3), (zxx HB hw242_4), (zxx HB hw242_5), (zxx HB hw242_6), (zxx HB hw242_7), (zxx HB hw242_8)⟩ (fun hHeld => ?_)
       clear hK K
       refine norm_ (a' := ?_) ?_ ?_
       rotate_left
       ·show Act.put _ (some 46) _ = _
        simp only [Act.put, List.setIfInBounds_toArray, List.set_cons_zero, List.set_cons_succ, i64_w, i32_w]
        rfl
       refine zpu HT_ 24 47 (fl10_ 43 33554431) ?_
       refine zpu HT_ 25 48 (fl10_ 43 67108863) ?_
       refine zpu HT_ 26 49 (fl10_ 43 134217727) ?_
       refine zpu HT_ 27 50 (fl10_ 43 268435455) ?_
       refine take_ (i := 28) (N := some 51) (v := ?_) (a' := ?_) (fl10_ 43 536870911) rfl rfl (take_ofW HT_.out HW_.out (by kernel_rfl)) (fun _ _ _ h => h) (Or.inl ⟨by rfl, ?_⟩) hHeld ?_ ?_
       rotate_left
       ·rintro w' ⟨s0, s1, s2, s3, s4, s5, s6, s7, s8, s9, s10, s11, s12, s13, s14, s15, s16, s17, s18⟩
        go_simp
        with_reducible rfl
       rotate_left
       ·simp only [Act.put, List.setIfInBounds_toArray, List.set_cons_zero, List.set_cons_succ, i64_w, i32_w]
        rfl
       refine one_ (i := 29) (N := some 52) (fl10_ 43 1073741823) rfl rfl (one_of HT_.out (by kernel_rfl)) (by decide) (fun K hK => ?_)
       refine goes_ Tryd.func16 (by kernel_rfl) rfl #[.agg #[.bool ((rd_T39 l0_0 x18_2).f2.f0), .bool ((rd_T39 l0_0 x18_2).f2.f1), .bool ((rd_T39 l0_0 x18_2).f2.f2), .slice A239_5 ((rd_T39 l0_0 x18_2).f2.f3).length c239_5, .slice A239_6 ((rd_T39 l0_0 x18_2).f2.f4).length c239_6, .int .i64 ((rd_T39 l0_0 x18_2).f2.f5), .int .i64 ((rd_T39 l0_0 x18_2).f2.f6)]] (by rfl) rfl rfl zar ?_
       with_reducible refine (impl_AnalyzerOK.calls k2 ((rd_T39 l0_0 x18_2).f2.f0) ((rd_T39 l0_0 x18_2).f2.f1) ((rd_T39 l0_0 x18_2).f2.f2) _ _ ((rd_T39 l0_0 x18_2).f2.f3) _ _ ((rd_T39 l0_0 x18_2).f2.f4) ((rd_T39 l0_0 x18_2).f2.f5) ((rd_T39 l0_0 x18_2).f2.f6) false _ ?side1 ?side2 ?side3 ?side4 ?side5 A25.out).mono ?_
       (case side1 => exact zC (Kd.C_below HR239_5.out (zg HB)))
       (case side2 => exact HC239_5.out)
       (case side3 => exact zC (Kd.C_below HR239_6.out (zg HB)))
       (case side4 => exact HC239_6.out)
       (case side5 => exact TabW.below HT.out (zg HB))
       rintro e w47 ⟨rfl, hb⟩
       refine ⟨_, rfl, ?_⟩
       replace BK238 := Aside0.mk (blk_below (zb BK238) hb)
       replace BK240 := Aside0.mk (blk_below (zb BK240) hb)
       replace HB := Aside0.mk (below_step (zg HB) hb)
       (try clear hb)
       (try clear hb2)
       (try clear hk)
       (try clear hi)
       refine hK.out _ _ ⟨(blk_cell BK240.out 0).trans rfl, (blk_cell BK240.out 1).trans rfl, (blk_cell BK240.out 2).trans rfl, (blk_cell BK240.out 3).trans rfl, (blk_cell BK240.out 4).trans rfl, (blk_cell BK240.out 5).trans rfl, (blk_cell BK240.out 6).trans rfl, (blk_cell BK240.out 7).trans rfl, (blk_cell BK240.out 8).trans rfl, (blk_cell BK238.out 0).trans rfl, (zxx HB hw242_0), (zxx HB hw242_1), (zxx HB hw242_2), (zxx HB hw242_3), (zxx HB hw242_4), (zxx HB hw242_5), (zxx HB hw242_6), (zxx HB hw242_7), (zxx HB hw242_8)⟩ (fun hHeld => ?_)
       clear hK K
       refine norm_ (a' := ?_) ?_ ?_
       rotate_left
       ·show Act.put _ (some 52) _ = _
        simp only [Act.put, List.setIfInBounds_toArray, List.set_cons_zero, List.set_cons_succ, i64_w, i32_w]
        rfl
       refine zpu HT_ 30 53 (fl10_ 43 2147483647) ?_
       refine zpu HT_ 31 54 (fl10_ 43 4294967295) ?_
       refine zpu HT_ 32 55 (fl10_ 43 8589934591) ?_
       refine pure_ (i := 33) (N := some 56) (v := undef) (a' := ?_) (fl10_ 43 17179869183) rfl rfl (any_of HT_.out (by kernel_rfl)) (fun _ _ _ h => h) (Or.inr ⟨by rfl, rfl⟩) ?_ ?_
       rotate_left
       ·simp only [Act.put, List.setIfInBounds_toArray, List.set_cons_zero, List.set_cons_succ, i64_w, i32_w]
        rfl
       refine pure_ (i := 34) (N := some 57) (v := undef) (a' := ?_) (fl10_ 43 34359738367) rfl rfl (any_of HT_.out (by kernel_rfl)) (fun _ _ _ h => h) (Or.inr ⟨by rfl, rfl⟩) ?_ ?_
       rotate_left
       ·simp only [Act.put, List.setIfInBounds_toArray, List.set_cons_zero, List.set_cons_succ, i64_w, i32_w]
        rfl
       refine pure_ (i := 35) (N := some 58) (v := undef) (a' := ?_) (fl10_ 43 68719476735) rfl rfl (any_of HT_.out (by kernel_rfl)) (fun _ _ _ h => h) (Or.inr ⟨by rfl, rfl⟩) ?_ ?_
       rotate_left
       ·simp only [Act.put, List.setIfInBounds_toArray, List.set_cons_zero, List.set_cons_succ, i64_w, i32_w]
        rfl
       refine pure_ (i := 36) (N := some 59) (v := undef) (a' := ?_) (fl10_ 43 137438953471) rfl rfl (any_of HT_.out (by kernel_rfl)) (fun _ _ _ h => h) (Or.inr ⟨by rfl, rfl⟩) ?_ ?_
       rotate_left
       ·simp only [Act.put, List.setIfInBounds_toArray, List.set_cons_zero, List.set_cons_succ, i64_w, i32_w]
        rfl
       refine pure_ (i := 37) (N := some 60) (v := undef) (a' := ?_) (fl10_ 43 274877906943) rfl rfl (any_of HT_.out (by kernel_rfl)) (fun _ _ _ h => h) (Or.inr ⟨by rfl, rfl⟩) ?_ ?_
       rotate_left
       ·simp only [Act.put, List.setIfInBounds_toArray, List.set_cons_zero, List.set_cons_succ, i64_w, i32_w]
        rfl
       refine pure_ (i := 38) (N := some 61) (v := undef) (a' := ?_) (fl10_ 43 549755813887) rfl rfl (any_of HT_.out (by kernel_rfl)) (fun _ _ _ h => h) (Or.inr ⟨by rfl, rfl⟩) ?_ ?_
       rotate_left
       ·simp only [Act.put, List.setIfInBounds_toArray, List.set_cons_zero, List.set_cons_succ, i64_w, i32_w]
        rfl
       refine pure_ (i := 39) (N := some 62) (v := undef) (a' := ?_) (fl10_ 43 1099511627775) rfl rfl (any_of HT_.out (by kernel_rfl)) (fun _ _ _ h => h) (Or.inr ⟨by rfl, rfl⟩) ?_ ?_
       rotate_left
       ·simp only [Act.put, List.setIfInBounds_toArray, List.set_cons_zero, List.set_cons_succ, i64_w, i32_w]
        rfl
       refine pure_ (i := 40) (N := some 63) (v := undef) (a' := ?_) (fl10_ 43 2199023255551) rfl rfl (any_of HT_.out (by kernel_rfl)) (fun _ _ _ h => h) (Or.inr ⟨by rfl, rfl⟩) ?_ ?_
       rotate_left
       ·simp only [Act.put, List.setIfInBounds_toArray, List.set_cons_zero, List.set_cons_succ, i64_w, i32_w]
        rfl
       refine pure_ (i := 41) (N := some 64) (v := undef) (a' := ?_) (fl10_ 43 4398046511103) rfl rfl (any_of HT_.out (by kernel_rfl)) (fun _ _ _ h => h) (Or.inr ⟨by rfl, rfl⟩) ?_ ?_
       rotate_left
       ·simp only [Act.put, List.setIfInBounds_toArray, List.set_cons_zero, List.set_cons_succ, i64_w, i32_w]
        rfl
       refine zpu HT_ 42 65 (fl10_ 43 8796093022207) ?_
       refine done_ (done_of HT_.out (by kernel_rfl)) ?_
       try go_wp2
       go_meet
       case rel => exact ⟨_, (true), zrs, H', ⟨by have := HJ1.out; have := HK2.out; first | omega | exact Nat.le_refl _⟩, ⟨zb BK238⟩, ⟨zb BK240⟩, ⟨zg HB⟩⟩
      subst c26
      rw [if_pos rfl] at H
      by_cases c27 : ((rd_T39 l0_0 x18_2).f1) = 1
      ·rw [if_pos c27] at H
       have c27b0 : (((rd_T39 l0_0 x18_2).f1) == 1) = true := beq_iff_eq.mpr c27
       have c27b1 : (((rd_T39 l0_0 x18_2).f1) != 1) = false := bne_eq_false_iff_eq.mpr c27
       clear c27
       have H' := Aside0.mk H
       clear H
       try go_wp2
       have n0_ : Aside0 ((((((((((w13.setCell ⟨gb240, 0, none⟩ (.string ((rd_T39 l0_0 x18_2).f0))).setCell ⟨gb240, 1, none⟩ (.int .i64 ((rd_T39 l0_0 x18_2).f1))).setCell ⟨gb240, 2, none⟩ (.bool ((rd_T39 l0_0 x18_2).f2.f0))).setCell ⟨gb240, 3, none⟩ (.bool ((rd_T39 l0_0 x18_2).f2.f1))).setCell ⟨gb240, 4, none⟩ (.bool ((rd_T39 l0_0 x18_2).f2.f2))).setCell ⟨gb240, 5, none⟩ (.slice A239_5 ((rd_T39 l0_0 x18_2).f2.f3).length c239_5)).setCell ⟨gb240, 6, none⟩ (.slice A239_6 ((rd_T39 l0_0 x18_2).f2.f4).length c239_6)).setCell ⟨gb240, 7, none⟩ (.int .i64 ((rd_T39 l0_0 x18_2).f2.f5))).setCell ⟨gb240, 8, none⟩ (.int .i64 ((rd_T39 l0_0 x18_2).f2.f6))).heap[gb238]? = some (.cells #[.slice (some ad239) l0_0.length c0_0] 29 (0, 0))) := ⟨zp BK238⟩
       have n1_ : Aside0 ((((((((((w13.setCell ⟨gb240, 0, none⟩ (.string ((rd_T39 l0_0 x18_2).f0))).setCell ⟨gb240, 1, none⟩ (.int .i64 ((rd_T39 l0_0 x18_2).f1))).setCell ⟨gb240, 2, none⟩ (.bool ((rd_T39 l0_0 x18_2).f2.f0))).setCell ⟨gb240, 3, none⟩ (.bool ((rd_T39 l0_0 x18_2).f2.f1))).setCell ⟨gb240, 4, none⟩ (.bool ((rd_T39 l0_0 x18_2).f2.f2))).setCell ⟨gb240, 5, none⟩ (.slice A239_5 ((rd_T39 l0_0 x18_2).f2.f3).length c239_5)).setCell ⟨gb240, 6, none⟩ (.slice A239_6 ((rd_T39 l0_0 x18_2).f2.f4).length c239_6)).setCell ⟨gb240, 7, none⟩ (.int .i64 ((rd_T39 l0_0 x18_2).f2.f5))).setCell ⟨gb240, 8, none⟩ (.int .i64 ((rd_T39 l0_0 x18_2).f2.f6))).heap[gb240]? = some (.cells #[.string ((rd_T39 l0_0 x18_2).f0), .int .i64 ((rd_T39 l0_0 x18_2).f1), .bool ((rd_T39 l0_0 x18_2).f2.f0), .bool ((rd_T39 l0_0 x18_2).f2.f1), .bool ((rd_T39 l0_0 x18_2).f2.f2), .slice A239_5 ((rd_T39 l0_0 x18_2).f2.f3).length c239_5, .slice A239_6 ((rd_T39 l0_0 x18_2).f2.f4).length c239_6, .int .i64 ((rd_T39 l0_0 x18_2).f2.f5), .int .i64 ((rd_T39 l0_0 x18_2).f2.f6)] 39 (0, 0))) := ⟨zp BK240⟩
       have n2_ : Aside0 (Below w.heap.size w (((((((((w13.setCell ⟨gb240, 0, none⟩ (.string ((rd_T39 l0_0 x18_2).f0))).setCell ⟨gb240, 1, none⟩ (.int .i64 ((rd_T39 l0_0 x18_2).f1))).setCell ⟨gb240, 2, none⟩ (.bool ((rd_T39 l0_0 x18_2).f2.f0))).setCell ⟨gb240, 3, none⟩ (.bool ((rd_T39 l0_0 x18_2).f2.f1))).setCell ⟨gb240, 4, none⟩ (.bool ((rd_T39 l0_0 x18_2).f2.f2))).setCell ⟨gb240, 5, none⟩ (.slice A239_5 ((rd_T39 l0_0 x18_2).f2.f3).length c239_5)).setCell ⟨gb240, 6, none⟩ (.slice A239_6 ((rd_T39 l0_0 x18_2).f2.f4).length c239_6)).setCell ⟨gb240, 7, none⟩ (.int .i64 ((rd_T39 l0_0 x18_2).f2.f5))).setCell ⟨gb240, 8, none⟩ (.int .i64 ((rd_T39 l0_0 x18_2).f2.f6)))) := ⟨zg HB⟩
       (try clear BK238)
       (try clear BK240)
       (try clear HB)
       generalize (((((((((w13.setCell ⟨gb240, 0, none⟩ (.string ((rd_T39 l0_0 x18_2).f0))).setCell ⟨gb240, 1, none⟩ (.int .i64 ((rd_T39 l0_0 x18_2).f1))).setCell ⟨gb240, 2, none⟩ (.bool ((rd_T39 l0_0 x18_2).f2.f0))).setCell ⟨gb240, 3, none⟩ (.bool ((rd_T39 l0_0 x18_2).f2.f1))).setCell ⟨gb240, 4, none⟩ (.bool ((rd_T39 l0_0 x18_2).f2.f2))).setCell ⟨gb240, 5, none⟩ (.slice A239_5 ((rd_T39 l0_0 x18_2).f2.f3).length c239_5)).setCell ⟨gb240, 6, none⟩ (.slice A239_6 ((rd_T39 l0_0 x18_2).f2.f4).length c239_6)).setCell ⟨gb240, 7, none⟩ (.int .i64 ((rd_T39 l0_0 x18_2).f2.f5))).setCell ⟨gb240, 8, none⟩ (.int .i64 ((rd_T39 l0_0 x18_2).f2.f6))) = w28 at n0_ n1_ n2_ ⊢
       have BK238 := n0_
       have BK240 := n1_
       have HB := n2_
       clear n0_ n1_ n2_
       replace BK238 := Aside0.mk (blk_drew BK238.out)
       replace BK240 := Aside0.mk (blk_drew BK240.out)
       replace HB := Aside0.mk (below_drew1 HB.out)
       have p242 : 0 ≤ ((ji19) : Int) := of_decide_eq_true zas
       have q242 : (ji19) < (l0_0.length : Int) := of_decide_eq_true zas
       obtain ⟨ad242, A242_5, c242_5, A242_6, c242_6, e242, hx242_0, hx242_1, hx242_2, hx242_3, hx242_4, hx242_5, hx242_6, hx242_7, hx242_8, hl242_5, hi242_5, hl242_6, hi242_6⟩ := at_T39 HR0_0.out (ji19) p242 q242
       have hw242_8 := hx242_8
       have hw242_7 := hx242_7
       have hw242_6 := hx242_6
       have hw242_5 := hx242_5
       have hw242_4 := hx242_4
       have hw242_3 := hx242_3
       have hw242_2 := hx242_2
       have hw242_1 := hx242_1
       have hw242_0 := hx242_0
       obtain rfl : ad239 = ad242 := (by injection e242)
       replace hx242_0 := zx HB hx242_0
       replace hx242_1 := zx HB hx242_1
       replace hx242_2 := zx HB hx242_2
       replace hx242_3 := zx HB hx242_3
       replace hx242_4 := zx HB hx242_4
       replace hx242_5 := zx HB hx242_5
       replace hx242_6 := zx HB hx242_6
       replace hx242_7 := zx HB hx242_7
       replace hx242_8 := zx HB hx242_8
       have HR242_5 := Aside0.mk hi242_5
       have HC242_5 := Aside0.mk hl242_5
       clear hi242_5 hl242_5
       have HR242_6 := Aside0.mk hi242_6
       have HC242_6 := Aside0.mk hl242_6
       clear hi242_6 hl242_6
       replace p242 := eq_true p242
       replace q242 := eq_true q242
       refine start_ (n := 43) (S := fun w' => w'.cell? ⟨gb240, 0, none⟩ = some (.string ((rd_T39 l0_0 x18_2).f0)) ∧ w'.cell? ⟨gb240, 1, none⟩ = some (.int .i64 ((rd_T39 l0_0 x18_2).f1)) ∧ w'.cell? ⟨gb240, 2, none⟩ = some (.bool ((rd_T39 l0_0 x18_2).f2.f0)) ∧ w'.cell? ⟨gb240, 3, none⟩ = some (.bool ((rd_T39 l0_0 x18_2).f2.f1)) ∧ w'.cell? ⟨gb240, 4, none⟩ = some (.bool ((rd_T39 l0_0 x18_2).f2.f2)) ∧ w'.cell? ⟨gb240, 5, none⟩ = some (.slice A239_5 ((rd_T39 l0_0 x18_2).f2.f3).length c239_5) ∧ w'.cell? ⟨gb240, 6, none⟩ = some (.slice A239_6 ((rd_T39 l0_0 x18_2).f2.f4).length c239_6) ∧ w'.cell? ⟨gb240, 7, none⟩ = some (.int .i64 ((rd_T39 l0_0 x18_2).f2.f5)) ∧ w'.cell? ⟨gb240, 8, none⟩ = some (.int .i64 ((rd_T39 l0_0 x18_2).f2.f6)) ∧ w'.cell? ⟨gb238, 0, none⟩ = some (.slice (some ad239) l0_0.length c0_0) ∧ w'.cell? (ad239.add (((ji19)).toNat * 9)) = some (.string ((rd_T39 l0_0 (ji19)).f0)) ∧ w'.cell? ⟨(ad239.add (((ji19)).toNat * 9)).block, (ad239.add (((ji19)).toNat * 9)).off + 1, none⟩ = some (.int .i64 ((rd_T39 l0_0 (ji19)).f1)) ∧ w'.cell? ⟨(ad239.add (((ji19)).toNat * 9)).block, (ad239.add (((ji19)).toNat * 9)).off + 2, none⟩ = some (.bool ((rd_T39 l0_0 (ji19)).f2.f0)) ∧ w'.cell? ⟨(ad239.add (((ji19)).toNat * 9)).block, (ad239.add (((ji19)).toNat * 9)).off + 3, none⟩ = some (.bool ((rd_T39 l0_0 (ji19)).f2.f1)) ∧ w'.cell? ⟨(ad239.add (((ji19)).toNat * 9)).block, (ad239.add (((ji19)).toNat * 9)).off + 4, none⟩ = some (.bool ((rd_T39 l0_0 (ji19)).f2.f2)) ∧ w'.cell? ⟨(ad239.add (((ji19)).toNat * 9)).block, (ad239.add (((ji19)).toNat * 9)).off + 5, none⟩ = some (.slice A242_5 ((rd_T39 l0_0 (ji19)).f2.f3).length c242_5) ∧ w'.cell? ⟨(ad239.add (((ji19)).toNat * 9)).block, (ad239.add (((ji19)).toNat * 9)).off + 6, none⟩ = some (.slice A242_6 ((rd_T39 l0_0 (ji19)).f2.f4).length c242_6) ∧ w'.cell? ⟨(ad239.add (((ji19)).toNat * 9)).block, (ad239.add (((ji19)).toNat * 9)).off + 7, none⟩ = some (.int .i64 ((rd_T39 l0_0 (ji19)).f2.f5)) ∧ w'.cell? ⟨(ad239.add (((ji19)).toNat * 9)).block, (ad239.add (((ji19)).toNat * 9)).off + 8, none⟩ = some (.int .i64 ((rd_T39 l0_0 (ji19)).f2.f6))) (ds := []) (fl10_ 43 0) (by kernel_rfl) rfl rfl ⟨(blk_cell BK240.out 0).trans rfl, (blk_cell BK240.out 1).trans rfl, (blk_cell BK240.out 2).trans rfl, (blk_cell BK240.out 3).trans rfl, (blk_cell BK240.out 4).trans rfl, (blk_cell BK240.out 5).trans rfl, (blk_cell BK240.out 6).trans rfl, (blk_cell BK240.out 7).trans rfl, (blk_cell BK240.out 8).trans rfl, (blk_cell BK238.out 0).trans rfl, (zxx HB hw242_0), (zxx HB hw242_1), (zxx HB hw242_2), (zxx HB hw242_3), (zxx HB hw242_4), (zxx HB hw242_5), (zxx HB hw242_6), (zxx HB hw242_7), (zxx HB hw242_8)⟩ (fun hHeld => ?_); refine with_tabW impl_SchemaOK.tab6 impl_SchemaOK.bits6 (fun HT_ HW_ => ?_)
       generalize w28.drew = w29 at BK238 BK240 HB HR242_5 HR242_6 hx242_0 hx242_1 hx242_2 hx242_3 hx242_4 hx242_5 hx242_6 hx242_7 hx242_8 hHeld ⊢
       refine zpu HT_ 0 23 (fl10_ 43 1) ?_
       refine take_ (i := 1) (N := some 24) (v := ?_) (a' := ?_) (fl10_ 43 3) rfl rfl (take_ofW HT_.out HW_.out (by kernel_rfl)) (fun _ _ _ h => h) (Or.inl ⟨by rfl, ?_⟩) hHeld ?_ ?_
       rotate_left
       ·rintro w' ⟨s0, s1, s2, s3, s4, s5, s6, s7, s8, s9, s10, s11, s12, s13, s14, s15, s16, s17, s18⟩
        go_simp
        with_reducible rfl
       rotate_left
       ·simp only [Act.put, List.setIfInBounds_toArray, List.set_cons_zero, List.set_cons_succ, i64_w, i32_w]
        rfl
       refine one_ (i := 2) (N := some 25) (fl10_ 43 7) rfl rfl (one_of HT_.out (by kernel_rfl)) (by decide) (fun K hK => ?_)
       refine goes_ Tryd.func14 (by kernel_rfl) rfl #[.string ((rd_T39 l0_0 x18_2).f0)] (by rfl) rfl rfl zar ?_
       with_reducible refine (impl_nameOK.calls k2 ((rd_T39 l0_0 x18_2).f0) true _ A16.out).mono ?_
       rintro e w30 ⟨rfl, hb⟩
       refine ⟨_, rfl, ?_⟩
       replace BK238 := Aside0.mk (blk_below (zb BK238) hb)
       replace BK240 := Aside0.mk (blk_below (zb BK240) hb)
       replace HB := Aside0.mk (below_step (zg HB) hb)
       (try clear hb)
       (try clear hb2)
       (try clear hk)
       (try clear hi)
       refine hK.out _ _ ⟨(blk_cell BK240.out 0).trans rfl, (blk_cell BK240.out 1).trans rfl, (blk_cell BK240.out 2).trans rfl, (blk_cell BK240.out 3).trans rfl, (blk_cell BK240.out 4).trans rfl, (blk_cell BK240.out 5).trans rfl, (blk_cell BK240.out 6).trans rfl, (blk_cell BK240.out 7).trans rfl, (blk_cell BK240.out 8).trans rfl, (blk_cell BK238.out 0).trans rfl, (zxx HB hw242_0), (zxx HB hw242_1), (zxx HB hw242_2), (zxx HB hw242_3), (zxx HB hw242_4), (zxx HB hw242_5), (zxx HB hw242_6), (zxx HB hw242_7), (zxx HB hw242_8)⟩ (fun hHeld => ?_)
       clear hK K
       refine norm_ (a' := ?_) ?_ ?_
       rotate_left
       ·show Act.put _ (some 25) _ = _
        simp only [Act.put, List.setIfInBounds_toArray, List.set_cons_zero, List.set_cons_succ, i64_w, i32_w]
        rfl
       refine zpu HT_ 3 26 (fl10_ 43 15) ?_
       refine zpu HT_ 4 27 (fl10_ 43 31) ?_
       refine zpu HT_ 5 28 (fl10_ 43 63) ?_
       refine zpu HT_ 6 29 (fl10_ 43 127) ?_
       refine zpu HT_ 7 30 (fl10_ 43 255) ?_
       refine zpu HT_ 8 31 (fl10_ 43 511) ?_
       refine zpu HT_ 10 33 (fl10_ 43 1535) ?_
       refine zpu HT_ 12 35 (fl10_ 43 5631) ?_
       refine zpu HT_ 13 36 (fl10_ 43 13823) ?_
       refine take_ (i := 9) (N := some 32) (v := ?_) (a' := ?_) (fl10_ 43 14335) rfl rfl (take_ofW HT_.out HW_.out (by kernel_rfl)) (fun _ _ _ h => h) (Or.inl ⟨by rfl, ?_⟩) hHeld ?_ ?_
       rotate_left
       ·rintro w' ⟨s0, s1, s2, s3, s4, s5, s6, s7, s8, s9, s10, s11, s12, s13, s14, s15, s16, s17, s18⟩
        go_simp
        with_reducible rfl
       rotate_left
       ·simp only [Act.put, List.setIfInBounds_toArray, List.set_cons_zero, List.set_cons_succ, i64_w, i32_w]
        rfl
       refine take_ (i := 11) (N := some 34) (v := ?_) (a' := ?_) (fl10_ 43 16383) rfl rfl (take_ofW HT_.out HW_.out (by kernel_rfl)) (fun _ _ _ h => h) (Or.inl ⟨by rfl, ?_⟩) hHeld ?_ ?_
       rotate_left
       ·rintro w' ⟨s0, s1, s2, s3, s4, s5, s6, s7, s8, s9, s10, s11, s12, s13, s14, s15, s16, s17, s18⟩
        go_simp
        with_reducible rfl
       rotate_left
       ·simp only [Act.put, List.setIfInBounds_toArray, List.set_cons_zero, List.set_cons_succ, i64_w, i32_w]
        rfl
       refine zpu HT_ 14 37 (fl10_ 43 32767) ?_
       refine zpu HT_ 15 38 (fl10_ 43 65535) ?_
       refine take_ (i := 16) (N := some 39) (v := ?_) (a' := ?_) (fl10_ 43 131071) rfl rfl (take_ofW HT_.out HW_.out (by kernel_rfl)) (fun _ _ _ h => h) (Or.inl ⟨by rfl, ?_⟩) hHeld ?_ ?_
       rotate_left
       ·rintro w' ⟨s0, s1, s2, s3, s4, s5, s6, s7, s8, s9, s10, s11, s12, s13, s14, s15, s16, s17, s18⟩
        go_simp
        with_reducible rfl
       rotate_left
       ·simp only [Act.put, List.setIfInBounds_toArray, List.set_cons_zero, List.set_cons_succ, i64_w, i32_w]
        rfl
       refine zpu HT_ 17 40 (fl10_ 43 262143) ?_
       refine zpu HT_ 18 41 (fl10_ 43 524287) ?_
       refine zpu HT_ 19 42 (fl10_ 43 1048575) ?_
       refine zpu HT_ 20 43 (fl10_ 43 2097151) ?_
       refine zpu HT_ 21 44 (fl10_ 43 4194303) ?_
       refine take_ (i := 22) (N := some 45) (v := ?_) (a' := ?_) (fl10_ 43 8388607) rfl rfl (take_ofW HT_.out HW_.out (by kernel_rfl)) (fun _ _ _ h => h) (Or.inl ⟨by rfl, ?_⟩) hHeld ?_ ?_
       rotate_left
       ·rintro w' ⟨s0, s1, s2, s3, s4, s5, s6, s7, s8, s9, s10, s11, s12, s13, s14, s15, s16, s17, s18⟩
        go_simp
        with_reducible rfl
       rotate_left
       ·simp only [Act.put, List.setIfInBounds_toArray, List.set_cons_zero, List.set_cons_succ, i64_w, i32_w]
        rfl
       refine one_ (i := 23) (N := some 46) (fl10_ 43 16777215) rfl rfl (one_of HT_.out (by kernel_rfl)) (by decide) (fun K hK => ?_)
       refine goes_ Tryd.func15 (by kernel_rfl) rfl #[.int .i64 ((rd_T39 l0_0 x18_2).f1), .int .i64 1, .int .i64 3] (by rfl) rfl rfl zar ?_
       with_reducible refine (impl_within.calls ((rd_T39 l0_0 x18_2).f1) 1 3 true _ A23.out).mono ?_
       rintro e w' ⟨rfl, ⟨nd, rfl⟩⟩
       refine ⟨_, rfl, ?_⟩
       refine hK.out _ _ ⟨(blk_cell BK240.out 0).trans rfl, (blk_cell BK240.out 1).trans rfl, (blk_cell BK240.out 2).trans rfl, (blk_cell BK240.out 3).trans rfl, (blk_cell BK240.out 4).trans rfl, (blk_cell BK240.out 5).trans rfl, (blk_cell BK240.out 6).trans rfl, (blk_cell BK240.out 7).trans rfl, (blk_cell BK240.out 8).trans rfl, (blk_cell BK238.out 0).trans rfl, (zxx HB hw242_0), (zxx HB hw242_1), (zxx HB hw242_2), (zxx HB hw242_3), (zxx HB hw242_4), (zxx HB hw242_5), (zxx HB hw242_6), (zxx HB hw242_7), (zxx HB hw242_8)⟩ (fun hHeld => ?_)
       clear hK K
       refine norm_ (a' := ?_) ?_ ?_
       rotate_left
       ·show Act.put _ (some 46) _ = _
        simp only [Act.put, List.setIfInBounds_toArray, List.set_cons_zero, List.set_cons_succ, i64_w, i32_w]
        rfl
       refine zpu HT_ 24 47 (fl10_ 43 33554431) ?_
       refine zpu HT_ 25 48 (fl10_ 43 67108863) ?_
       refine zpu HT_ 26 49 (fl10_ 43 134217727) ?_
       refine zpu HT_ 27 50 (fl10_ 43 268435455) ?_
       refine take_ (i := 28) (N := some 51) (v := ?_) (a' := ?_) (fl10_ 43 536870911) rfl rfl (take_ofW HT_.out HW_.out (by kernel_rfl)) (fun _ _ _ h => h) (Or.inl ⟨by rfl, ?_⟩) hHeld ?_ ?_
       rotate_left
       ·rintro w' ⟨s0, s1, s2, s3, s4, s5, s6, s7, s8, s9, s10, s11, s12, s13, s14, s15, s16, s17, s18⟩
        go_simp
        with_reducible rfl
       rotate_left
       ·simp only [Act.put, List.setIfInBounds_toArray, List.set_cons_zero, List.set_cons_succ, i64_w, i32_w]
        rfl
       refine one_ (i := 29) (N := some 52) (fl10_ 43 1073741823) rfl rfl (one_of HT_.out (by kernel_rfl)) (by decide) (fun K hK => ?_)
       refine goes_ Tryd.func16 (by kernel_rfl) rfl #[.agg #[.bool ((rd_T39 l0_0 x18_2).f2.f0), .bool ((rd_T39 l0_0 x18_2).f2.f1), .bool ((rd_T39 l0_0 x18_2).f2.f2), .slice A239_5 ((rd_T39 l0_0 x18_2).f2.f3).length c239_5, .slice A239_6 ((rd_T39 l0_0 x18_2).f2.f4).length c239_6, .int .i64 ((rd_T39 l0_0 x18_2).f2.f5), .int .i64 ((rd_T39 l0_0 x18_2).f2.f6)]] (by rfl) rfl rfl zar ?_
       with_reducible refine (impl_AnalyzerOK.calls k2 ((rd_T39 l0_0 x18_2).f2.f0) ((rd_T39 l0_0 x18_2).f2.f1) ((rd_T39 l0_0 x18_2).f2.f2) _ _ ((rd_T39 l0_0 x18_2).f2.f3) _ _ ((rd_T39 l0_0 x18_2).f2.f4) ((rd_T39 l0_0 x18_2).f2.f5) ((rd_T39 l0_0 x18_2).f2.f6) true _ ?side1 ?side2 ?side3 ?side4 ?side5 A25.out).mono ?_
       (case side1 => exact zC (Kd.C_below HR239_5.out (zg HB)))
       (case side2 => exact HC239_5.out)
       (case side3 => exact zC (Kd.C_below HR239_6.out (zg HB)))
       (case side4 => exact HC239_6.out)
       (case side5 => exact TabW.below HT.out (zg HB))
       rintro e w32 ⟨rfl, hb⟩
       refine ⟨_, rfl, ?_⟩
       replace BK238 := Aside0.mk (blk_below (zb BK238) hb)
       replace BK240 := Aside0.mk (blk_below (zb BK240) hb)
       replace HB := Aside0.mk (below_step (zg HB) hb)
       (try clear hb)
       (try clear hb2)
       (try clear hk)
       (try clear hi)
       refine hK.out _ _ ⟨(blk_cell BK240.out 0).trans rfl, (blk_cell BK240.out 1).trans rfl, (blk_cell BK240.out 2).trans rfl, (blk_cell BK240.out 3).trans rfl, (blk_cell BK240.out 4).trans rfl, (blk_cell BK240.out 5).trans rfl, (blk_cell BK240.out 6).trans rfl, (blk_cell BK240.out 7).trans rfl, (blk_cell BK240.out 8).trans rfl, (blk_cell BK238.out 0).trans rfl, (zxx HB hw242_0), (zxx HB hw242_1), (zxx HB hw242_2), (zxx HB hw242_3), (zxx HB hw242_4), (zxx HB hw242_5), (zxx HB hw242_6), (zxx HB hw242_7), (zxx HB hw242_8)⟩ (fun hHeld => ?_)
       clear hK K
       refine norm_ (a' := ?_) ?_ ?_
       rotate_left
       ·show Act.put _ (some 52) _ = _
        simp only [Act.put, List.setIfInBounds_toArray, List.set_cons_zero, List.set_cons_succ, i64_w, i32_w]
        rfl
       refine zpu HT_ 30 53 (fl10_ 43 2147483647) ?_
       refine zpu HT_ 31 54 (fl10_ 43 4294967295) ?_
       refine zpu HT_ 32 55 (fl10_ 43 8589934591) ?_
       refine zpu HT_ 33 56 (fl10_ 43 17179869183) ?_
       refine take_ (i := 34) (N := some 57) (v := ?_) (a' := ?_) (fl10_ 43 34359738367) rfl rfl (take_ofW HT_.out HW_.out (by kernel_rfl)) (fun _ _ _ h => h) (Or.inl ⟨by rfl, ?_⟩) hHeld ?_ ?_
       rotate_left
       ·rintro w' ⟨s0, s1, s2, s3, s4, s5, s6, s7, s8, s9, s10, s11, s12, s13, s14, s15, s16, s17, s18⟩
        go_simp
        with_reducible rfl
       rotate_left
       ·simp only [Act.put, List.setIfInBounds_toArray, List.set_cons_zero, List.set_cons_succ, i64_w, i32_w]
        rfl
       refine zpu HT_ 35 58 (fl10_ 43 68719476735) ?_
       refine zpu HT_ 36 59 (fl10_ 43 137438953471) ?_
       refine pure_ (i := 37) (N := some 60) (v := undef) (a' := ?_) (fl10_ 43 274877906943) rfl rfl (any_of HT_.out (by kernel_rfl)) (fun _ _ _ h => h) (Or.inr ⟨by rfl, rfl⟩) ?_ ?_
       rotate_left
       ·simp only [Act.put, List.setIfInBounds_toArray, List.set_cons_zero, List.set_cons_succ, i64_w, i32_w]
        rfl
       refine pure_ (i := 38) (N := some 61) (v := undef) (a' := ?_) (fl10_ 43 549755813887) rfl rfl (any_of HT_.out (by kernel_rfl)) (fun _ _ _ h => h) (Or.inr ⟨by rfl, rfl⟩) ?_ ?_
       rotate_left
       ·simp only [Act.put, List.setIfInBounds_toArray, List.set_cons_zero, List.set_cons_succ, i64_w, i32_w]
        rfl
       refine pure_ (i := 39) (N := some 62) (v := undef) (a' := ?_) (fl10_ 43 1099511627775) rfl rfl (any_of HT_.out (by kernel_rfl)) (fun _ _ _ h => h) (Or.inr ⟨by rfl, rfl⟩) ?_ ?_
       rotate_left
       ·simp only [Act.put, List.setIfInBounds_toArray, List.set_cons_zero, List.set_cons_succ, i64_w, i32_w]
        rfl
       refine pure_ (i := 40) (N := some 63) (v := undef) (a' := ?_) (fl10_ 43 2199023255551) rfl rfl (any_of HT_.out (by kernel_rfl)) (fun _ _ _ h => h) (Or.inr ⟨by rfl, rfl⟩) ?_ ?_
       rotate_left
       ·simp only [Act.put, List.setIfInBounds_toArray, List.set_cons_zero, List.set_cons_succ, i64_w, i32_w]
        rfl
       refine zpu HT_ 41 64 (fl10_ 43 4398046511103) ?_
       refine zpu HT_ 42 65 (fl10_ 43 8796093022207) ?_
       refine done_ (done_of HT_.out (by kernel_rfl)) ?_
       try go_wp2
       go_meet
       case rel => exact ⟨_, (false), zrs, H', ⟨by have := HJ1.out; have := HK2.out; first | omega | exact Nat.le_refl _⟩, ⟨zb BK238⟩, ⟨zb BK240⟩, ⟨zg HB⟩⟩
      rw [if_neg c27] at H
      have c27b0 : (((rd_T39 l0_0 x18_2).f1) == 1) = false := beq_eq_false_iff_ne.mpr c27
      have c27b1 : (((rd_T39 l0_0 x18_2).f1) != 1) = true := bne_iff_ne.mpr c27
      replace H := Option.bind_eq_some_iff.mp H
      obtain ⟨t245, A340, H⟩ := H
      try dsimp only at H
      have A34 := Aside0.mk A340
      clear A340
      have H' := Aside0.mk H
      clear H
      try go_wp2
      have n0_ : Aside0 ((((((((((w13.setCell ⟨gb240, 0, none⟩ (.string ((rd_T39 l0_0 x18_2).f0))).setCell ⟨gb240, 1, none⟩ (.int .i64 ((rd_T39 l0_0 x18_2).f1))).setCell ⟨gb240, 2, none⟩ (.bool ((rd_T39 l0_0 x18_2).f2.f0))).setCell ⟨gb240, 3, none⟩ (.bool ((rd_T39 l0_0 x18_2).f2.f1))).setCell ⟨gb240, 4, none⟩ (.bool ((rd_T39 l0_0 x18_2).f2.f2))).setCell ⟨gb240, 5, none⟩ (.slice A239_5 ((rd_T39 l0_0 x18_2).f2.f3).length c239_5)).setCell ⟨gb240, 6, none⟩ (.slice A239_6 ((rd_T39 l0_0 x18_2).f2.f4).length c239_6)).setCell ⟨gb240, 7, none⟩ (.int .i64 ((rd_T39 l0_0 x18_2).f2.f5))).setCell ⟨gb240, 8, none⟩ (.int .i64 ((rd_T39 l0_0 x18_2).f2.f6))).heap[gb238]? = some (.cells #[.slice (some ad239) l0_0.length c0_0] 29 (0, 0))) := ⟨zp BK238⟩
      have n1_ : Aside0 ((((((((((w13.setCell ⟨gb240, 0, none⟩ (.string ((rd_T39 l0_0 x18_2).f0))).setCell ⟨gb240, 1, none⟩ (.int .i64 ((rd_T39 l0_0 x18_2).f1))).setCell ⟨gb240, 2, none⟩ (.bool ((rd_T39 l0_0 x18_2).f2.f0))).setCell ⟨gb240, 3, none⟩ (.bool ((rd_T39 l0_0 x18_2).f2.f1))).setCell ⟨gb240, 4, none⟩ (.bool ((rd_T39 l0_0 x18_2).f2.f2))).setCell ⟨gb240, 5, none⟩ (.slice A239_5 ((rd_T39 l0_0 x18_2).f2.f3).length c239_5)).setCell ⟨gb240, 6, none⟩ (.slice A239_6 ((rd_T39 l0_0 x18_2).f2.f4).length c239_6)).setCell ⟨gb240, 7, none⟩ (.int .i64 ((rd_T39 l0_0 x18_2).f2.f5))).setCell ⟨gb240, 8, none⟩ (.int .i64 ((rd_T39 l0_0 x18_2).f2.f6))).heap[gb240]? = some (.cells #[.string ((rd_T39 l0_0 x18_2).f0), .int .i64 ((rd_T39 l0_0 x18_2).f1), .bool ((rd_T39 l0_0 x18_2).f2.f0), .bool ((rd_T39 l0_0 x18_2).f2.f1), .bool ((rd_T39 l0_0 x18_2).f2.f2), .slice A239_5 ((rd_T39 l0_0 x18_2).f2.f3).length c239_5, .slice A239_6 ((rd_T39 l0_0 x18_2).f2.f4).length c239_6, .int .i64 ((rd_T39 l0_0 x18_2).f2.f5), .int .i64 ((rd_T39 l0_0 x18_2).f2.f6)] 39 (0, 0))) := ⟨zp BK240⟩
      have n2_ : Aside0 (Below w.heap.size w (((((((((w13.setCell ⟨gb240, 0, none⟩ (.string ((rd_T39 l0_0 x18_2).f0))).setCell ⟨gb240, 1, none⟩ (.int .i64 ((rd_T39 l0_0 x18_2).f1))).setCell ⟨gb240, 2, none⟩ (.bool ((rd_T39 l0_0 x18_2).f2.f0))).setCell ⟨gb240, 3, none⟩ (.bool ((rd_T39 l0_0 x18_2).f2.f1))).setCell ⟨gb240, 4, none⟩ (.bool ((rd_T39 l0_0 x18_2).f2.f2))).setCell ⟨gb240, 5, none⟩ (.slice A239_5 ((rd_T39 l0_0 x18_2).f2.f3).length c239_5)).setCell ⟨gb240, 6, none⟩ (.slice A239_6 ((rd_T39 l0_0 x18_2).f2.f4).length c239_6)).setCell ⟨gb240, 7, none⟩ (.int .i64 ((rd_T39 l0_0 x18_2).f2.f5))).setCell ⟨gb240, 8, none⟩ (.int .i64 ((rd_T39 l0_0 x18_2).f2.f6)))) := ⟨zg HB⟩
      (try clear BK238)
      (try clear BK240)
      (try clear HB)
      generalize (((((((((w13.setCell ⟨gb240, 0, none⟩ (.string ((rd_T39 l0_0 x18_2).f0))).setCell ⟨gb240, 1, none⟩ (.int .i64 ((rd_T39 l0_0 x18_2).f1))).setCell ⟨gb240, 2, none⟩ (.bool ((rd_T39 l0_0 x18_2).f2.f0))).setCell ⟨gb240, 3, none⟩ (.bool ((rd_T39 l0_0 x18_2).f2.f1))).setCell ⟨gb240, 4, none⟩ (.bool ((rd_T39 l0_0 x18_2).f2.f2))).setCell ⟨gb240, 5, none⟩ (.slice A239_5 ((rd_T39 l0_0 x18_2).f2.f3).length c239_5)).setCell ⟨gb240, 6, none⟩ (.slice A239_6 ((rd_T39 l0_0 x18_2).f2.f4).length c239_6)).setCell ⟨gb240, 7, none⟩ (.int .i64 ((rd_T39 l0_0 x18_2).f2.f5))).setCell ⟨gb240, 8, none⟩ (.int .i64 ((rd_T39 l0_0 x18_2).f2.f6))) = w35 at n0_ n1_ n2_ ⊢
      have BK238 := n0_
      have BK240 := n1_
      have HB := n2_
      clear n0_ n1_ n2_
      replace BK238 := Aside0.mk (blk_drew BK238.out)
      replace BK240 := Aside0.mk (blk_drew BK240.out)
      replace HB := Aside0.mk (below_drew1 HB.out)
      have p242 : 0 ≤ ((ji19) : Int) := of_decide_eq_true zas
      have q242 : (ji19) < (l0_0.length : Int) := of_decide_eq_true zas
      obtain ⟨ad242, A242_5, c242_5, A242_6, c242_6, e242, hx242_0, hx242_1, hx242_2, hx242_3, hx242_4, hx242_5, hx242_6, hx242_7, hx242_8, hl242_5, hi242_5, hl242_6, hi242_6⟩ := at_T39 HR0_0.out (ji19) p242 q242
      have hw242_8 := hx242_8
      have hw242_7 := hx242_7
      have hw242_6 := hx242_6
      have hw242_5 := hx242_5
      have hw242_4 := hx242_4
      have hw242_3 := hx242_3
      have hw242_2 := hx242_2
      have hw242_1 := hx242_1
      have hw242_0 := hx242_0
      obtain rfl : ad239 = ad242 := (by injection e242)
      replace hx242_0 := zx HB hx242_0
      replace hx242_1 := zx HB hx242_1
      replace hx242_2 := zx HB hx242_2
      replace hx242_3 := zx HB hx242_3
      replace hx242_4 := zx HB hx242_4
      replace hx242_5 := zx HB hx242_5
      replace hx242_6 := zx HB hx242_6
      replace hx242_7 := zx HB hx242_7
      replace hx242_8 := zx HB hx242_8
      have HR242_5 := Aside0.mk hi242_5
      have HC242_5 := Aside0.mk hl242_5
      clear hi242_5 hl242_5
      have HR242_6 := Aside0.mk hi242_6
      have HC242_6 := Aside0.mk hl242_6
      clear hi242_6 hl242_6
      replace p242 := eq_true p242
      replace q242 := eq_true q242
      refine start_ (n := 43) (S := fun w' => w'.cell? ⟨gb240, 0, none⟩ = some (.string ((rd_T39 l0_0 x18_2).f0)) ∧ w'.cell? ⟨gb240, 1, none⟩ = some (.int .i64 ((rd_T39 l0_0 x18_2).f1)) ∧ w'.cell? ⟨gb240, 2, none⟩ = some (.bool ((rd_T39 l0_0 x18_2).f2.f0)) ∧ w'.cell? ⟨gb240, 3, none⟩ = some (.bool ((rd_T39 l0_0 x18_2).f2.f1)) ∧ w'.cell? ⟨gb240, 4, none⟩ = some (.bool ((rd_T39 l0_0 x18_2).f2.f2)) ∧ w'.cell? ⟨gb240, 5, none⟩ = some (.slice A239_5 ((rd_T39 l0_0 x18_2).f2.f3).length c239_5) ∧ w'.cell? ⟨gb240, 6, none⟩ = some (.slice A239_6 ((rd_T39 l0_0 x18_2).f2.f4).length c239_6) ∧ w'.cell? ⟨gb240, 7, none⟩ = some (.int .i64 ((rd_T39 l0_0 x18_2).f2.f5)) ∧ w'.cell? ⟨gb240, 8, none⟩ = some (.int .i64 ((rd_T39 l0_0 x18_2).f2.f6)) ∧ w'.cell? ⟨gb238, 0, none⟩ = some (.slice (some ad239) l0_0.length c0_0) ∧ w'.cell? (ad239.add (((ji19)).toNat * 9)) = some (.string ((rd_T39 l0_0 (ji19)).f0)) ∧ w'.cell? ⟨(ad239.add (((ji19)).toNat * 9)).block, (ad239.add (((ji19)).toNat * 9)).off + 1, none⟩ = some (.int .i64 ((rd_T39 l0_0 (ji19)).f1)) ∧ w'.cell? ⟨(ad239.add (((ji19)).toNat * 9)).block, (ad239.add (((ji19)).toNat * 9)).off + 2, none⟩ = some (.bool ((rd_T39 l0_0 (ji19)).f2.f0)) ∧ w'.cell? ⟨(ad239.add (((ji19)).toNat * 9)).block, (ad239.add (((ji19)).toNat * 9)).off + 3, none⟩ = some (.bool ((rd_T39 l0_0 (ji19)).f2.f1)) ∧ w'.cell? ⟨(ad239.add (((ji19)).toNat * 9)).block, (ad239.add (((ji19)).toNat * 9)).off + 4, none⟩ = some (.bool ((rd_T39 l0_0 (ji19)).f2.f2)) ∧ w'.cell? ⟨(ad239.add (((ji19)).toNat * 9)).block, (ad239.add (((ji19)).toNat * 9)).off + 5, none⟩ = some (.slice A242_5 ((rd_T39 l0_0 (ji19)).f2.f3).length c242_5) ∧ w'.cell? ⟨(ad239.add (((ji19)).toNat * 9)).block, (ad239.add (((ji19)).toNat * 9)).off + 6, none⟩ = some (.slice A242_6 ((rd_T39 l0_0 (ji19)).f2.f4).length c242_6) ∧ w'.cell? ⟨(ad239.add (((ji19)).toNat * 9)).block, (ad239.add (((ji19)).toNat * 9)).off + 7, none⟩ = some (.int .i64 ((rd_T39 l0_0 (ji19)).f2.f5)) ∧ w'.cell? ⟨(ad239.add (((ji19)).toNat * 9)).block, (ad239.add (((ji19)).toNat * 9)).off + 8, none⟩ = some (.int .i64 ((rd_T39 l0_0 (ji19)).f2.f6))) (ds := []) (fl10_ 43 0) (by kernel_rfl) rfl rfl ⟨(blk_cell BK240.out 0).trans rfl, (blk_cell BK240.out 1).trans rfl, (blk_cell BK240.out 2).trans rfl, (blk_cell BK240.out 3).trans rfl, (blk_cell BK240.out 4).trans rfl, (blk_cell BK240.out 5).trans rfl, (blk_cell BK240.out 6).trans rfl, (blk_cell BK240.out 7).trans rfl, (blk_cell BK240.out 8).trans rfl, (blk_cell BK238.out 0).trans rfl, (zxx HB hw242_0), (zxx HB hw242_1), (zxx HB hw242_2), (zxx HB hw242_3), (zxx HB hw242_4), (zxx HB hw242_5), (zxx HB hw242_6), (zxx HB hw242_7), (zxx HB hw242_8)⟩ (fun hHeld => ?_); refine with_tabW impl_SchemaOK.tab6 impl_SchemaOK.bits6 (fun HT_ HW_ => ?_)
      generalize w35.drew = w36 at BK238 BK240 HB HR242_5 HR242_6 hx242_0 hx242_1 hx242_2 hx242_3 hx242_4 hx242_5 hx242_6 hx242_7 hx242_8 hHeld ⊢
      refine zpu HT_ 0 23 (fl10_ 43 1) ?_
      refine take_ (i := 1) (N := some 24) (v := ?_) (a' := ?_) (fl10_ 43 3) rfl rfl (take_ofW HT_.out HW_.out (by kernel_rfl)) (fun _ _ _ h => h) (Or.inl ⟨by rfl, ?_⟩) hHeld ?_ ?_
      rotate_left
      ·rintro w' ⟨s0, s1, s2, s3, s4, s5, s6, s7, s8, s9, s10, s11, s12, s13, s14, s15, s16, s17, s18⟩
       go_simp
       with_reducible rfl
      rotate_left
      ·simp only [Act.put, List.setIfInBounds_toArray, List.set_cons_zero, List.set_cons_succ, i64_w, i32_w]
       rfl
      refine one_ (i := 2) (N := some 25) (fl10_ 43 7) rfl rfl (one_of HT_.out (by kernel_rfl)) (by decide) (fun K hK => ?_)
      refine goes_ Tryd.func14 (by kernel_rfl) rfl #[.string ((rd_T39 l0_0 x18_2).f0)] (by rfl) rfl rfl zar ?_
      with_reducible refine (impl_nameOK.calls k2 ((rd_T39 l0_0 x18_2).f0) true _ A16.out).mono ?_
      rintro e w37 ⟨rfl, hb⟩
      refine ⟨_, rfl, ?_⟩
      replace BK238 := Aside0.mk (blk_below (zb BK238) hb)
      replace BK240 := Aside0.mk (blk_below (zb BK240) hb)
      replace HB := Aside0.mk (below_step (zg HB) hb)
      (try clear hb)
      (try clear hb2)
      (try clear hk)
      (try clear hi)
      refine hK.out _ _ ⟨(blk_cell BK240.out 0).trans rfl, (blk_cell BK240.out 1).trans rfl, (blk_cell BK240.out 2).trans rfl, (blk_cell BK240.out 3).trans rfl, (blk_cell BK240.out 4).trans rfl, (blk_cell BK240.out 5).trans rfl, (blk_cell BK240.out 6).trans rfl, (blk_cell BK240.out 7).trans rfl, (blk_cell BK240.out 8).trans rfl, (blk_cell BK238.out 0).trans rfl, (zxx HB hw242_0), (zxx HB hw242_1), (zxx HB hw242_2), (zxx HB hw242_3), (zxx HB hw242_4), (zxx HB hw242_5), (zxx HB hw242_6), (zxx HB hw242_7), (zxx HB hw242_8)⟩ (fun hHeld => ?_)
      clear hK K
      refine norm_ (a' := ?_) ?_ ?_
      rotate_left
      ·show Act.put _ (some 25) _ = _
       simp only [Act.put, List.setIfInBounds_toArray, List.set_cons_zero, List.set_cons_succ, i64_w, i32_w]
       rfl
      refine zpu HT_ 3 26 (fl10_ 43 15) ?_
      refine zpu HT_ 4 27 (fl10_ 43 31) ?_
      refine zpu HT_ 5 28 (fl10_ 43 63) ?_
      refine zpu HT_ 6 29 (fl10_ 43 127) ?_
      refine zpu HT_ 7 30 (fl10_ 43 255) ?_
      refine zpu HT_ 8 31 (fl10_ 43 511) ?_
      refine zpu HT_ 10 33 (fl10_ 43 1535) ?_
      refine zpu HT_ 12 35 (fl10_ 43 5631) ?_
      refine zpu HT_ 13 36 (fl10_ 43 13823) ?_
      refine take_ (i := 9) (N := some 32) (v := ?_) (a' := ?_) (fl10_ 43 14335) rfl rfl (take_ofW HT_.out HW_.out (by kernel_rfl)) (fun _ _ _ h => h) (Or.inl ⟨by rfl, ?_⟩) hHeld ?_ ?_
      rotate_left
      ·rintro w' ⟨s0, s1, s2, s3, s4, s5, s6, s7, s8, s9, s10, s11, s12, s13, s14, s15, s16, s17, s18⟩
       go_simp
       with_reducible rfl
      rotate_left
      ·simp only [Act.put, List.setIfInBounds_toArray, List.set_cons_zero, List.set_cons_succ, i64_w, i32_w]
       rfl
      refine take_ (i := 11) (N := some 34) (v := ?_) (a' := ?_) (fl10_ 43 16383) rfl rfl (take_ofW HT_.out HW_.out (by kernel_rfl)) (fun _ _ _ h => h) (Or.inl ⟨by rfl, ?_⟩) hHeld ?_ ?_
      rotate_left
      ·rintro w' ⟨s0, s1, s2, s3, s4, s5, s6, s7, s8, s9, s10, s11, s12, s13, s14, s15, s16, s17, s18⟩
       go_simp
       with_reducible rfl
      rotate_left
      ·simp only [Act.put, List.setIfInBounds_toArray, List.set_cons_zero, List.set_cons_succ, i64_w, i32_w]
       rfl
      refine zpu HT_ 14 37 (fl10_ 43 32767) ?_
      refine zpu HT_ 15 38 (fl10_ 43 65535) ?_
      refine take_ (i := 16) (N := some 39) (v := ?_) (a' := ?_) (fl10_ 43 131071) rfl rfl (take_ofW HT_.out HW_.out (by kernel_rfl)) (fun _ _ _ h => h) (Or.inl ⟨by rfl, ?_⟩) hHeld ?_ ?_
      rotate_left
      ·rintro w' ⟨s0, s1, s2, s3, s4, s5, s6, s7, s8, s9, s10, s11, s12, s13, s14, s15, s16, s17, s18⟩
       go_simp
       with_reducible rfl
      rotate_left
      ·simp only [Act.put, List.setIfInBounds_toArray, List.set_cons_zero, List.set_cons_succ, i64_w, i32_w]
       rfl
      refine zpu HT_ 17 40 (fl10_ 43 262143) ?_
      refine zpu HT_ 18 41 (fl10_ 43 524287) ?_
      refine zpu HT_ 19 42 (fl10_ 43 1048575) ?_
      refine zpu HT_ 20 43 (fl10_ 43 2097151) ?_
      refine zpu HT_ 21 44 (fl10_ 43 4194303) ?_
      refine take_ (i := 22) (N := some 45) (v := ?_) (a' := ?_) (fl10_ 43 8388607) rfl rfl (take_ofW HT_.out HW_.out (by kernel_rfl)) (fun _ _ _ h => h) (Or.inl ⟨by rfl, ?_⟩) hHeld ?_ ?_
      rotate_left
      ·rintro w' ⟨s0, s1, s2, s3, s4, s5, s6, s7, s8, s9, s10, s11, s12, s13, s14, s15, s16, s17, s18⟩
       go_simp
       with_reducible rfl
      rotate_left
      ·simp only [Act.put, List.setIfInBounds_toArray, List.set_cons_zero, List.set_cons_succ, i64_w, i32_w]
       rfl
      refine one_ (i := 23) (N := some 46) (fl10_ 43 16777215) rfl rfl (one_of HT_.out (by kernel_rfl)) (by decide) (fun K hK => ?_)
      refine goes_ Tryd.func15 (by kernel_rfl) rfl #[.int .i64 ((rd_T39 l0_0 x18_2).f1), .int .i64 1, .int .i64 3] (by rfl) rfl rfl zar ?_
      with_reducible refine (impl_within.calls ((rd_T39 l0_0 x18_2).f1) 1 3 true _ A23.out).mono ?_
      rintro e w' ⟨rfl, ⟨nd, rfl⟩⟩
      refine ⟨_, rfl, ?_⟩
      refine hK.out _ _ ⟨(blk_cell BK240.out 0).trans rfl, (blk_cell BK240.out 1).trans rfl, (blk_cell BK240.out 2).trans rfl, (blk_cell BK240.out 3).trans rfl, (blk_cell BK240.out 4).trans rfl, (blk_cell BK240.out 5).trans rfl, (blk_cell BK240.out 6).trans rfl, (blk_cell BK240.out 7).trans rfl, (blk_cell BK240.out 8).trans rfl, (blk_cell BK238.out 0).trans rfl, (zxx HB hw242_0), (zxx HB hw242_1), (zxx HB hw242_2), (zxx HB hw242_3), (zxx HB hw242_4), (zxx HB hw242_5), (zxx HB hw242_6), (zxx HB hw242_7), (zxx HB hw242_8)⟩ (fun hHeld => ?_)
      clear hK K
      refine norm_ (a' := ?_) ?_ ?_
      rotate_left
      ·show Act.put _ (some 46) _ = _
       simp only [Act.put, List.setIfInBounds_toArray, List.set_cons_zero, List.set_cons_succ, i64_w, i32_w]
       rfl
      refine zpu HT_ 24 47 (fl10_ 43 33554431) ?_
      refine zpu HT_ 25 48 (fl10_ 43 67108863) ?_
      refine zpu HT_ 26 49 (fl10_ 43 134217727) ?_
      refine zpu HT_ 27 50 (fl10_ 43 268435455) ?_
      refine take_ (i := 28) (N := some 51) (v := ?_) (a' := ?_) (fl10_ 43 536870911) rfl rfl (take_ofW HT_.out HW_.out (by kernel_rfl)) (fun _ _ _ h => h) (Or.inl ⟨by rfl, ?_⟩) hHeld ?_ ?_
      rotate_left
      ·rintro w' ⟨s0, s1, s2, s3, s4, s5, s6, s7, s8, s9, s10, s11, s12, s13, s14, s15, s16, s17, s18⟩
       go_simp
       with_reducible rfl
      rotate_left
      ·simp only [Act.put, List.setIfInBounds_toArray, List.set_cons_zero, List.set_cons_succ, i64_w, i32_w]
       rfl
      refine one_ (i := 29) (N := some 52) (fl10_ 43 1073741823) rfl rfl (one_of HT_.out (by kernel_rfl)) (by decide) (fun K hK => ?_)
      refine goes_ Tryd.func16 (by kernel_rfl) rfl #[.agg #[.bool ((rd_T39 l0_0 x18_2).f2.f0), .bool ((rd_T39 l0_0 x18_2).f2.f1), .bool ((rd_T39 l0_0 x18_2).f2.f2), .slice A239_5 ((rd_T39 l0_0 x18_2).f2.f3).length c239_5, .slice A239_6 ((rd_T39 l0_0 x18_2).f2.f4).length c239_6, .int .i64 ((rd_T39 l0_0 x18_2).f2.f5), .int .i64 ((rd_T39 l0_0 x18_2).f2.f6)]] (by rfl) rfl rfl zar ?_
      with_reducible refine (impl_AnalyzerOK.calls k2 ((rd_T39 l0_0 x18_2).f2.f0) ((rd_T39 l0_0 x18_2).f2.f1) ((rd_T39 l0_0 x18_2).f2.f2) _ _ ((rd_T39 l0_0 x18_2).f2.f3) _ _ ((rd_T39 l0_0 x18_2).f2.f4) ((rd_T39 l0_0 x18_2).f2.f5) ((rd_T39 l0_0 x18_2).f2.f6) true _ ?side1 ?side2 ?side3 ?side4 ?side5 A25.out).mono ?_
      (case side1 => exact zC (Kd.C_below HR239_5.out (zg HB)))
      (case side2 => exact HC239_5.out)
      (case side3 => exact zC (Kd.C_below HR239_6.out (zg HB)))
      (case side4 => exact HC239_6.out)
      (case side5 => exact TabW.below HT.out (zg HB))
      rintro e w39 ⟨rfl, hb⟩
      refine ⟨_, rfl, ?_⟩
      replace BK238 := Aside0.mk (blk_below (zb BK238) hb)
      replace BK240 := Aside0.mk (blk_below (zb BK240) hb)
      replace HB := Aside0.mk (below_step (zg HB) hb)
      (try clear hb)
      (try clear hb2)
      (try clear hk)
      (try clear hi)
      refine hK.out _ _ ⟨(blk_cell BK240.out 0).trans rfl, (blk_cell BK240.out 1).trans rfl, (blk_cell BK240.out 2).trans rfl, (blk_cell BK240.out 3).trans rfl, (blk_cell BK240.out 4).trans rfl, (blk_cell BK240.out 5).trans rfl, (blk_cell BK240.out 6).trans rfl, (blk_cell BK240.out 7).trans rfl, (blk_cell BK240.out 8).trans rfl, (blk_cell BK238.out 0).trans rfl, (zxx HB hw242_0), (zxx HB hw242_1), (zxx HB hw242_2), (zxx HB hw242_3), (zxx HB hw242_4), (zxx HB hw242_5), (zxx HB hw242_6), (zxx HB hw242_7), (zxx HB hw242_8)⟩ (fun hHeld => ?_)
      clear hK K
      refine norm_ (a' := ?_) ?_ ?_
      rotate_left
      ·show Act.put _ (some 52) _ = _
       simp only [Act.put, List.setIfInBounds_toArray, List.set_cons_zero, List.set_cons_succ, i64_w, i32_w]
       rfl
      refine zpu HT_ 30 53 (fl10_ 43 2147483647) ?_
      refine zpu HT_ 31 54 (fl10_ 43 4294967295) ?_
      refine zpu HT_ 32 55 (fl10_ 43 8589934591) ?_
      refine zpu HT_ 33 56 (fl10_ 43 17179869183) ?_
      refine take_ (i := 34) (N := some 57) (v := ?_) (a' := ?_) (fl10_ 43 34359738367) rfl rfl (take_ofW HT_.out HW_.out (by kernel_rfl)) (fun _ _ _ h => h) (Or.inl ⟨by rfl, ?_⟩) hHeld ?_ ?_
      rotate_left
      ·rintro w' ⟨s0, s1, s2, s3, s4, s5, s6, s7, s8, s9, s10, s11, s12, s13, s14, s15, s16, s17, s18⟩
       go_simp
       with_reducible rfl
      rotate_left
      ·simp only [Act.put, List.setIfInBounds_toArray, List.set_cons_zero, List.set_cons_succ, i64_w, i32_w]
       rfl
      refine zpu HT_ 35 58 (fl10_ 43 68719476735) ?_
      refine zpu HT_ 36 59 (fl10_ 43 137438953471) ?_
      refine zpu HT_ 37 60 (fl10_ 43 274877906943) ?_
      refine take_ (i := 38) (N := some 61) (v := ?_) (a' := ?_) (fl10_ 43 549755813887) rfl rfl (take_ofW HT_.out HW_.out (by kernel_rfl)) (fun _ _ _ h => h) (Or.inl ⟨by rfl, ?_⟩) hHeld ?_ ?_
      rotate_left
      ·rintro w' ⟨s0, s1, s2, s3, s4, s5, s6, s7, s8, s9, s10, s11, s12, s13, s14, s15, s16, s17, s18⟩
       go_simp
       with_reducible rfl
      rotate_left
      ·simp only [Act.put, List.setIfInBounds_toArray, List.set_cons_zero, List.set_cons_succ, i64_w, i32_w]
       rfl
      refine one_ (i := 39) (N := some 62) (fl10_ 43 1099511627775) rfl rfl (one_of HT_.out (by kernel_rfl)) (by decide) (fun K hK => ?_)
      refine goes_ Tryd.func17 (by kernel_rfl) rfl #[.agg #[.bool ((rd_T39 l0_0 x18_2).f2.f0), .bool ((rd_T39 l0_0 x18_2).f2.f1), .bool ((rd_T39 l0_0 x18_2).f2.f2), .slice A239_5 ((rd_T39 l0_0 x18_2).f2.f3).length c239_5, .slice A239_6 ((rd_T39 l0_0 x18_2).f2.f4).length c239_6, .int .i64 ((rd_T39 l0_0 x18_2).f2.f5), .int .i64 ((rd_T39 l0_0 x18_2).f2.f6)]] (by rfl) rfl rfl zar ?_
      with_reducible refine (impl_zeroAnalyzer.calls ((rd_T39 l0_0 x18_2).f2.f0) ((rd_T39 l0_0 x18_2).f2.f1) ((rd_T39 l0_0 x18_2).f2.f2) _ _ ((rd_T39 l0_0 x18_2).f2.f3) _ _ ((rd_T39 l0_0 x18_2).f2.f4) ((rd_T39 l0_0 x18_2).f2.f5) ((rd_T39 l0_0 x18_2).f2.f6) t245 _ ?side1 ?side2 ?side3 ?side4 A34.out).mono ?_
      (case side1 => exact zC (Kd.C_below HR239_5.out HB.out))
      (case side2 => exact HC239_5.out)
      (case side3 => exact zC (Kd.C_below HR239_6.out HB.out))
      (case side4 => exact HC239_6.out)
      rintro e w41 ⟨rfl, hb⟩
      refine ⟨_, rfl, ?_⟩
      replace BK238 := Aside0.mk (blk_below (zb BK238) hb)
      replace BK240 := Aside0.mk (blk_below (zb BK240) hb)
      replace HB := Aside0.mk (below_step (zg HB) hb)
      (try clear hb)
      (try clear hb2)
      (try clear hk)
      (try clear hi)
      refine hK.out _ _ ⟨(blk_cell BK240.out 0).trans rfl, (blk_cell BK240.out 1).trans rfl, (blk_cell BK240.out 2).trans rfl, (blk_cell BK240.out 3).trans rfl, (blk_cell BK240.out 4).trans rfl, (blk_cell BK240.out 5).trans rfl, (blk_cell BK240.out 6).trans rfl, (blk_cell BK240.out 7).trans rfl, (blk_cell BK240.out 8).trans rfl, (blk_cell BK238.out 0).trans rfl, (zxx HB hw242_0), (zxx HB hw242_1), (zxx HB hw242_2), (zxx HB hw242_3), (zxx HB hw242_4), (zxx HB hw242_5), (zxx HB hw242_6), (zxx HB hw242_7), (zxx HB hw242_8)⟩ (fun hHeld => ?_)
      clear hK K
      refine norm_ (a' := ?_) ?_ ?_
      rotate_left
      ·show Act.put _ (some 62) _ = _
       simp only [Act.put, List.setIfInBounds_toArray, List.set_cons_zero, List.set_cons_succ, i64_w, i32_w]
       rfl
      refine zpu HT_ 40 63 (fl10_ 43 2199023255551) ?_
      refine zpu HT_ 41 64 (fl10_ 43 4398046511103) ?_
      refine zpu HT_ 42 65 (fl10_ 43 8796093022207) ?_
      refine done_ (done_of HT_.out (by kernel_rfl)) ?_
      try go_wp2
      go_meet
      case rel => exact ⟨_, (!t245), zrs, H', ⟨by have := HJ1.out; have := HK2.out; first | omega | exact Nat.le_refl _⟩, ⟨zb BK238⟩, ⟨zb BK240⟩, ⟨zg HB⟩⟩
     case rest =>
      clear HC12
      obtain ⟨kq, x65_11, rfl, HA, HJ11, BK238, BK240, HB⟩ := hcut
      cases kq with
      | zero => exact absurd HA.out (by simp [impl_SchemaOK.j2])
      | succ kj11 =>
       have H := HA.out
       clear HA
       simp only [impl_SchemaOK.j2] at H
       by_cases c91 : x65_11 = true
       ·subst c91
        rw [if_pos rfl] at H
        obtain rfl := Option.some.inj H
        go_wp2
        go_ret
        exact ⟨zre, zg HB⟩
       replace c91 := Bool.eq_false_iff.mpr c91
       subst c91
       rw [if_neg (show ¬ (false = true) by decide)] at H
       have H' := Aside0.mk H
       clear H
       go_wp2
       go_roundg kj11
       case measure => have := HJ1.out; have := HK2.out; have := HJ11.out; omega
       case rel => exact ⟨(wrap64 (x18_2 + 1)), zrs, H', ⟨by have := HJ1.out; have := HK2.out; have := HJ11.out; omega⟩, ⟨zb BK238⟩, ⟨zg HB⟩⟩
end Go.Proofs.YtmbgncgcddjomaaDoor.XFnExactSchemaOK
