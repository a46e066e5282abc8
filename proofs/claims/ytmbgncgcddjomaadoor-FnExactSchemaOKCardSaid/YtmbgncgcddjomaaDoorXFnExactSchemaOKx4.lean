-- A printed text of this session (wip/x/xprint.py).
import Derived.Test.YtmbgncgcddjomaaDoorXFnExactSchemaOKx0
import Derived.Test.YtmbgncgcddjomaaDoorXFnExactSchemaOKx3
namespace Go.Proofs.YtmbgncgcddjomaaDoor.XFnExactSchemaOK
open Go.RowKit Go.Proofs.YtmbgncgcddjomaaDoorW.PrintWords Go.Proofs.YtmbgncgcddjomaaDoorW.PrintLast Go.Proofs.YtmbgncgcddjomaaDoorW.PrintMore
attribute [local go_sem] max2_int min2_int max_two min_two max_three min_three max_four min_four   -- for this text's walks alone
set_option linter.unusedVariables false
set_option linter.unusedSimpArgs false
def fl4_ (n m : Nat) : Array Bool := ((List.range n).map fun i => m.testBit i).toArray

/-! ### spec_AnalyzerOK: function 11 -/
mutual
def spec_AnalyzerOK.j0 : Nat → Bool → Bool → Bool → Bool → List ByteArray → List (S52) → Int → Int → Option (Bool)
 | 0, _, _, _, _, _, _, _, _ => none
 | k + 1, x14, x146000, x146001, x146002, x146003, x146004, x146005, x146006 => if x14 = true then (some false) else (spec_AnalyzerOK.l0 k 0 x146000 x146001 x146002 x146003 x146004 x146005 x146006)
def spec_AnalyzerOK.l0 : Nat → Int → Bool → Bool → Bool → List ByteArray → List (S52) → Int → Int → Option (Bool)
 | 0, _, _, _, _, _, _, _, _ => none
 | k + 1, x3, x146000, x146001, x146002, x146003, x146004, x146005, x146006 => if x3 < (x146003.length : Int) then (if 0 ≤ x3 then ((spec_l02TermOK.f k (rdOf ByteArray.empty x146003 x3)).bind fun t147 => (if t147 = true then (spec_AnalyzerOK.l0 k (wrap64 (x3 + 1)) x146000 x146001 x146002 x146003 x146004 x146005 x146006) else (some false))) else (none)) else (spec_AnalyzerOK.l1 k 0 x146000 x146001 x146002 x146003 x146004 x146005 x146006)
def spec_AnalyzerOK.l1 : Nat → Int → Bool → Bool → Bool → List ByteArray → List (S52) → Int → Int → Option (Bool)
 | 0, _, _, _, _, _, _, _, _ => none
 | k + 1, x4, x146000, x146001, x146002, x146003, x146004, x146005, x146006 => if x4 < (x146004.length : Int) then (if 0 ≤ x4 then ((spec_l02TermOK.f k ((rd_T52 x146004 x4).f0)).bind fun t149 => (if t149 = true then ((spec_l02TermOK.f k ((rd_T52 x146004 x4).f1)).bind fun t151 => (if t151 = true then (spec_AnalyzerOK.j3 k x4 (((rd_T52 x146004 x4).f0).toList == ((rd_T52 x146004 x4).f1).toList) x146000 x146001 x146002 x146003 x146004 x146005 x146006) else (spec_AnalyzerOK.j3 k x4 true x146000 x146001 x146002 x146003 x146004 x146005 x146006))) else (spec_AnalyzerOK.j3 k x4 true x146000 x146001 x146002 x146003 x146004 x146005 x146006))) else (none)) else (if x146005 = 0 then (if x146006 = 0 then (some true) else (if x146005 ≥ 1 then (if x146005 ≤ x146006 then (some (decide (x146006 ≤ 8))) else (some false)) else (some false))) else (if x146005 ≥ 1 then (if x146005 ≤ x146006 then (some (decide (x146006 ≤ 8))) else (some false)) else (some false)))
def spec_AnalyzerOK.j3 : Nat → Int → Bool → Bool → Bool → Bool → List ByteArray → List (S52) → Int → Int → Option (Bool)
 | 0, _, _, _, _, _, _, _, _, _ => none
 | k + 1, x4, x68, x146000, x146001, x146002, x146003, x146004, x146005, x146006 => if x68 = true then (some false) else (spec_AnalyzerOK.l1 k (wrap64 (x4 + 1)) x146000 x146001 x146002 x146003 x146004 x146005 x146006)
end
def spec_AnalyzerOK.f (k : Nat) (a0_0 : Bool) (a0_1 : Bool) (a0_2 : Bool) (l0_3 : List ByteArray) (l0_4 : List (S52)) (a0_5 : Int) (a0_6 : Int) : Option (Bool) := if (l0_3.length : Int) > 64 then (spec_AnalyzerOK.j0 k true a0_0 a0_1 a0_2 l0_3 l0_4 a0_5 a0_6) else (spec_AnalyzerOK.j0 k (decide ((l0_4.length : Int) > 64)) a0_0 a0_1 a0_2 l0_3 l0_4 a0_5 a0_6)
theorem spec_AnalyzerOK.mono_l : ∀ k, (∀ y0 y1 y2 y3 y4 y5 y6 y7, LeO (spec_AnalyzerOK.j0 k y0 y1 y2 y3 y4 y5 y6 y7) (spec_AnalyzerOK.j0 (k + 1) y0 y1 y2 y3 y4 y5 y6 y7)) ∧ (∀ y0 y1 y2 y3 y4 y5 y6 y7, LeO (spec_AnalyzerOK.l0 k y0 y1 y2 y3 y4 y5 y6 y7) (spec_AnalyzerOK.l0 (k + 1) y0 y1 y2 y3 y4 y5 y6 y7)) ∧ (∀ y0 y1 y2 y3 y4 y5 y6 y7, LeO (spec_AnalyzerOK.l1 k y0 y1 y2 y3 y4 y5 y6 y7) (spec_AnalyzerOK.l1 (k + 1) y0 y1 y2 y3 y4 y5 y6 y7)) ∧ (∀ y0 y1 y2 y3 y4 y5 y6 y7 y8, LeO (spec_AnalyzerOK.j3 k y0 y1 y2 y3 y4 y5 y6 y7 y8) (spec_AnalyzerOK.j3 (k + 1) y0 y1 y2 y3 y4 y5 y6 y7 y8))
 | 0 => ⟨fun _ _ _ _ _ _ _ _ r h => by simp [spec_AnalyzerOK.j0] at h, fun _ _ _ _ _ _ _ _ r h => by simp [spec_AnalyzerOK.l0] at h, fun _ _ _ _ _ _ _ _ r h => by simp [spec_AnalyzerOK.l1] at h, fun _ _ _ _ _ _ _ _ _ r h => by simp [spec_AnalyzerOK.j3] at h⟩
 | k + 1 => by
  obtain ⟨ih0, ih1, ih2, ih3⟩ := spec_AnalyzerOK.mono_l k
  refine ⟨?_, ?_, ?_, ?_⟩
  all_goals intros
  all_goals first | unfold spec_AnalyzerOK.j0 | unfold spec_AnalyzerOK.l0 | unfold spec_AnalyzerOK.l1 | unfold spec_AnalyzerOK.j3
  all_goals
   repeat' first
   | (with_reducible exact ih0 _ _ _ _ _ _ _ _)
   | (with_reducible exact ih1 _ _ _ _ _ _ _ _)
   | (with_reducible exact ih2 _ _ _ _ _ _ _ _)
   | (with_reducible exact ih3 _ _ _ _ _ _ _ _ _)
   | (with_reducible exact spec_l02TermOK.mono _ _)
   | (with_reducible exact LeO.refl _)
   | (with_reducible exact LeO.none _)
   | (with_reducible refine LeO.ite ?_ ?_)
   | (with_reducible refine LeO.bind ?_ (fun _ => ?_))
theorem spec_AnalyzerOK.mono : ∀ a0 a1 a2 a3 a4 a5 a6 k, LeO (spec_AnalyzerOK.f k a0 a1 a2 a3 a4 a5 a6) (spec_AnalyzerOK.f (k + 1) a0 a1 a2 a3 a4 a5 a6) := by
 intro a0 a1 a2 a3 a4 a5 a6 k
 obtain ⟨ih0, ih1, ih2, ih3⟩ := spec_AnalyzerOK.mono_l k
 unfold spec_AnalyzerOK.f
 repeat' first
  | (with_reducible exact ih0 _ _ _ _ _ _ _ _)
  | (with_reducible exact ih1 _ _ _ _ _ _ _ _)
  | (with_reducible exact ih2 _ _ _ _ _ _ _ _)
  | (with_reducible exact ih3 _ _ _ _ _ _ _ _ _)
  | (with_reducible exact spec_l02TermOK.mono _ _)
  | (with_reducible exact LeO.refl _)
  | (with_reducible exact LeO.none _)
  | (with_reducible refine LeO.ite ?_ ?_)
  | (with_reducible refine LeO.bind ?_ (fun _ => ?_))
def spec_AnalyzerOK.T11 : Bool × List (List Nat × List Nat) := (true, [([], []), ([0], [0]), ([], []), ([1, 2], [1, 2]), ([3], [3]), ([4], [4]), ([5], [5]), ([6], [6]), ([7, 6], [7]), ([8], [8]), ([9, 8], [8, 9]), ([8], [8]), ([10, 11, 8], [8, 10, 11]), ([12, 8], [8, 12]), ([13, 8], [8, 13]), ([14, 8, 8], [8, 14]), ([15, 8], [8, 15]), ([8, 16], [8, 16]), ([17, 15], [17]), ([18], [18]), ([19, 18], [18, 19]), ([18], [18]), ([20, 21, 18], [18, 20, 21]), ([22, 18], [18, 22]), ([23, 18], [18, 23]), ([18], [18]), ([25, 18], [18, 25]), ([18], [18]), ([26, 27, 18], [18, 26, 27]), ([28, 18], [18, 28]), ([29, 18], [18, 29]), ([24, 30, 18], [18, 24, 30]), ([18, 31], [18, 31])])
def spec_AnalyzerOK.B11 : List Nat := [0, 1, 0, 7, 15, 31, 63, 127, 255, 511, 1023, 511, 4095, 8191, 16383, 32767, 65535, 131071, 262143, 524287, 1048575, 524287, 4194303, 8388607, 16777215, 524287, 34078719, 524287, 235405311, 503840767, 1040711679, 2147483647, 4294967295]
theorem spec_AnalyzerOK.tab11 : rtab .any (opsOf Tryd.f11 11) = spec_AnalyzerOK.T11 := by kernel_rfl
theorem spec_AnalyzerOK.bits11 : waitsOk spec_AnalyzerOK.T11.2 spec_AnalyzerOK.B11 = true := by kernel_rfl
set_option maxHeartbeats 8000000 in
set_option maxRecDepth 100000 in
theorem spec_AnalyzerOK.calls (k : Nat) (a0_0 : Bool) (a0_1 : Bool) (a0_2 : Bool) (A0_3 : Option Addr) (c0_3 : Nat) (l0_3 : List ByteArray) (A0_4 : Option Addr) (c0_4 : Nat) (l0_4 : List (S52)) (a0_5 : Int) (a0_6 : Int) (r : Bool) (w : World) (hr0_3 : Kd.C Kd.string w A0_3 l0_3.length l0_3) (hc0_3 : l0_3.length ≤ c0_3) (hr0_4 : Kd.C k52 w A0_4 l0_4.length l0_4) (hc0_4 : l0_4.length ≤ c0_4) (h : spec_AnalyzerOK.f k a0_0 a0_1 a0_2 l0_3 l0_4 a0_5 a0_6 = some r) :
 Calls Tryd.prog 11 #[.agg #[.bool a0_0, .bool a0_1, .bool a0_2, .slice A0_3 l0_3.length c0_3, .slice A0_4 l0_4.length c0_4, .int .i64 a0_5, .int .i64 a0_6]] w fun e w' => e = .returned (.bool r) ∧ Below w.heap.size w w' := by
 have hu37 := Tryd.underlying37
 have HR0_3 := Aside0.mk hr0_3
 have HC0_3 := Aside0.mk hc0_3
 clear hr0_3 hc0_3
 have HR0_4 := Aside0.mk hr0_4
 have HC0_4 := Aside0.mk hc0_4
 clear hr0_4 hc0_4
 have HB := Aside0.mk (Below.refl w.heap.size w)
 have H := h
 unfold spec_AnalyzerOK.f at H
 clear h
 have HC2 := Aside0.mk H
 clear H
 go_enter Tryd.func11, Tryd.ntmps11
 go_upto_region 1 with (first | ((with_reducible refine gate_dst (N := 1) rfl ?_); (try (refine gate_guard (by rfl) ?_; dsimp only)); refine box_event (by rfl) (N := 1) (by rfl) (cs := #[.bool a0_0, .bool a0_1, .bool a0_2, .slice A0_3 l0_3.length c0_3, .slice A0_4 l0_4.length c0_4, .int .i64 a0_5, .int .i64 a0_6]) (t := 37) zgs ?_; intro gb145 hg w3 hbox hb; have BK145 := Aside0.mk (hbox); have GW145 := zge hg (below_size (zh HB)); have GE145 := zge hg (below_size (zh HB)); replace HB := Aside0.mk (below_step (zh HB) hb); clear hb hbox hg))
 (try simp only [Act.put, List.setIfInBounds_toArray, List.set_cons_zero, List.set_cons_succ])
 go_cut [14] (fun v14 wc => ∃ (kq : Nat) (x14_1 : Bool), v14 = .bool x14_1 ∧ Aside0 (spec_AnalyzerOK.j0 kq x14_1 a0_0 a0_1 a0_2 l0_3 l0_4 a0_5 a0_6 = some r) ∧ Aside0 (kq ≤ k) ∧ Aside0 (wc.heap[gb145]? = some (.cells #[.bool a0_0, .bool a0_1, .bool a0_2, (.slice A0_3 l0_3.length c0_3), (.slice A0_4 l0_4.length c0_4), .int .i64 a0_5, .int .i64 a0_6] 37 (0, 0))) ∧ Aside0 (Below w.heap.size w wc))
 case first =>
  have H := HC2.out
  clear HC2
  by_cases c4 : (l0_3.length : Int) > 64
  ·rw [if_pos c4] at H
   have c4b0 : decide (64 < (l0_3.length : Int)) = true := decide_eq_true c4
   have c4b1 : decide (64 < l0_3.length) = true := decide_eq_true (by omega)
   clear c4
   (first | rw [c4b0] | (simp only [i64_w, i32_w]; rw [c4b0]) | skip)
   have H' := Aside0.mk H
   clear H
   have hcz5_0 : w3.cell? ⟨gb145, 0, none⟩ = some (.bool a0_0) := (blk_cell BK145.out 0).trans rfl
   have hcz5_1 : w3.cell? ⟨gb145, 1, none⟩ = some (.bool a0_1) := (blk_cell BK145.out 1).trans rfl
   have hcz5_2 : w3.cell? ⟨gb145, 2, none⟩ = some (.bool a0_2) := (blk_cell BK145.out 2).trans rfl
   have hcz5_3 : w3.cell? ⟨gb145, 3, none⟩ = some (.slice A0_3 l0_3.length c0_3) := (blk_cell BK145.out 3).trans rfl
   have hcz5_4 : w3.cell? ⟨gb145, 4, none⟩ = some (.slice A0_4 l0_4.length c0_4) := (blk_cell BK145.out 4).trans rfl
   have hcz5_5 : w3.cell? ⟨gb145, 5, none⟩ = some (.int .i64 a0_5) := (blk_cell BK145.out 5).trans rfl
   have hcz5_6 : w3.cell? ⟨gb145, 6, none⟩ = some (.int .i64 a0_6) := (blk_cell BK145.out 6).trans rfl
   have hfz5_0 := blk_frozen BK145.out 0
   have hfz5_1 := blk_frozen BK145.out 1
   have hfz5_2 := blk_frozen BK145.out 2
   have hfz5_3 := blk_frozen BK145.out 3
   have hfz5_4 := blk_frozen BK145.out 4
   have hfz5_5 := blk_frozen BK145.out 5
   have hfz5_6 := blk_frozen BK145.out 6
   go_wp2
   go_meet
   case rel => exact ⟨_, (true), zrs, H', ⟨by first | omega | exact Nat.le_refl _⟩, ⟨zb BK145⟩, ⟨zg HB⟩⟩
  rw [if_neg c4] at H
  have c4b0 : decide (64 < (l0_3.length : Int)) = false := decide_eq_false c4
  have c4b1 : decide (64 < l0_3.length) = false := decide_eq_false (by omega)
  clear c4
  (first | rw [c4b0] | (simp only [i64_w, i32_w]; rw [c4b0]) | skip)
  have H' := Aside0.mk H
  clear H
  have hcz6_0 : w3.cell? ⟨gb145, 0, none⟩ = some (.bool a0_0) := (blk_cell BK145.out 0).trans rfl
  have hcz6_1 : w3.cell? ⟨gb145, 1, none⟩ = some (.bool a0_1) := (blk_cell BK145.out 1).trans rfl
  have hcz6_2 : w3.cell? ⟨gb145, 2, none⟩ = some (.bool a0_2) := (blk_cell BK145.out 2).trans rfl
  have hcz6_3 : w3.cell? ⟨gb145, 3, none⟩ = some (.slice A0_3 l0_3.length c0_3) := (blk_cell BK145.out 3).trans rfl
  have hcz6_4 : w3.cell? ⟨gb145, 4, none⟩ = some (.slice A0_4 l0_4.length c0_4) := (blk_cell BK145.out 4).trans rfl
  have hcz6_5 : w3.cell? ⟨gb145, 5, none⟩ = some (.int .i64 a0_5) := (blk_cell BK145.out 5).trans rfl
  have hcz6_6 : w3.cell? ⟨gb145, 6, none⟩ = some (.int .i64 a0_6) := (blk_cell BK145.out 6).trans rfl
  have hfz6_0 := blk_frozen BK145.out 0
  have hfz6_1 := blk_frozen BK145.out 1
  have hfz6_2 := blk_frozen BK145.out 2
  have hfz6_3 := blk_frozen BK145.out 3
  have hfz6_4 := blk_frozen BK145.out 4
  have hfz6_5 := blk_frozen BK145.out 5
  have hfz6_6 := blk_frozen BK145.out 6
  go_wp2
  go_meet
  case rel => exact ⟨_, (decide ((l0_4.length : Int) > 64)), zrs, H', ⟨by first | omega | exact Nat.le_refl _⟩, ⟨zb BK145⟩, ⟨zg HB⟩⟩
 case rest =>
  clear HC2
  obtain ⟨kq, x14_1, rfl, HA, HJ1, BK145, HB⟩ := hcut
  cases kq with
  | zero => exact absurd HA.out (by simp [spec_AnalyzerOK.j0])
  | succ kj1 =>
   have H := HA.out
   clear HA
   simp only [spec_AnalyzerOK.j0] at H
   by_cases c7 : x14_1 = true
   ·subst c7
    rw [if_pos rfl] at H
    obtain rfl := Option.some.inj H
    go_wp2
    go_ret
    exact ⟨zre, zg HB⟩
   replace c7 := Bool.eq_false_iff.mpr c7
   subst c7
   rw [if_neg (show ¬ (false = true) by decide)] at H
   have H' := Aside0.mk H
   clear H
   go_wp2
   go_loopg [3] kj1 (fun kq v3 w' => ∃ (x3_2 : Int), v3 = .int .i64 x3_2 ∧ Aside0 (spec_AnalyzerOK.l0 kq x3_2 a0_0 a0_1 a0_2 l0_3 l0_4 a0_5 a0_6 = some r) ∧ Aside0 (kq ≤ kj1) ∧ Aside0 (w'.heap[gb145]? = some (.cells #[.bool a0_0, .bool a0_1, .bool a0_2, (.slice A0_3 l0_3.length c0_3), (.slice A0_4 l0_4.length c0_4), .int .i64 a0_5, .int .i64 a0_6] 37 (0, 0))) ∧ Aside0 (Below w.heap.size w w'))
   case atStart => exact ⟨(0), zrs, H', ⟨Nat.le_refl _⟩, ⟨zb BK145⟩, ⟨zg HB⟩⟩
   case round =>
    clear H'
    try clear c7
    obtain ⟨x3_2, rfl, HA, HK2, BK145, HB⟩ := hrel
    cases gk with
    | zero => exact absurd HA.out (by simp [spec_AnalyzerOK.l0])
    | succ k2 =>
     have H := HA.out
     clear HA
     simp only [spec_AnalyzerOK.l0] at H
     by_cases c8 : x3_2 < (l0_3.length : Int)
     ·rw [if_pos c8] at H
      have c8b0 : decide (x3_2 < (l0_3.length : Int)) = true := decide_eq_true c8
      clear c8
      by_cases c9 : 0 ≤ x3_2
      rotate_left
      ·rw [if_neg c9] at H
       exact absurd H (by simp)
      rw [if_pos c9] at H
      have c9b0 : decide (0 ≤ x3_2) = true := decide_eq_true c9
      clear c9
      replace H := Option.bind_eq_some_iff.mp H
      obtain ⟨t147, A100, H⟩ := H
      try dsimp only at H
      have A10 := Aside0.mk A100
      clear A100
      by_cases c11 : t147 = true
      rotate_left
      ·replace c11 := Bool.eq_false_iff.mpr c11
       subst c11
       rw [if_neg (show ¬ (false = true) by decide)] at H
       obtain rfl := Option.some.inj H
       have hcz15_0 : wr.cell? ⟨gb145, 0, none⟩ = some (.bool a0_0) := (blk_cell BK145.out 0).trans rfl
       have hcz15_1 : wr.cell? ⟨gb145, 1, none⟩ = some (.bool a0_1) := (blk_cell BK145.out 1).trans rfl
       have hcz15_2 : wr.cell? ⟨gb145, 2, none⟩ = some (.bool a0_2) := (blk_cell BK145.out 2).trans rfl
       have hcz15_3 : wr.cell? ⟨gb145, 3, none⟩ = some (.slice A0_3 l0_3.length c0_3) := (blk_cell BK145.out 3).trans rfl
       have hcz15_4 : wr.cell? ⟨gb145, 4, none⟩ = some (.slice A0_4 l0_4.length c0_4) := (blk_cell BK145.out 4).trans rfl
       have hcz15_5 : wr.cell? ⟨gb145, 5, none⟩ = some (.int .i64 a0_5) := (blk_cell BK145.out 5).trans rfl
       have hcz15_6 : wr.cell? ⟨gb145, 6, none⟩ = some (.int .i64 a0_6) := (blk_cell BK145.out 6).trans rfl
       have hfz15_0 := blk_frozen BK145.out 0
       have hfz15_1 := blk_frozen BK145.out 1
       have hfz15_2 := blk_frozen BK145.out 2
       have hfz15_3 := blk_frozen BK145.out 3
       have hfz15_4 := blk_frozen BK145.out 4
       have hfz15_5 := blk_frozen BK145.out 5
       have hfz15_6 := blk_frozen BK145.out 6
       have p146 : 0 ≤ (x3_2 : Int) := of_decide_eq_true zas
       have q146 : x3_2 < (l0_3.length : Int) := of_decide_eq_true zas
       obtain ⟨ad146, e146, hx146_0⟩ := Kd.at_string HR0_3.out x3_2 p146 q146
       cases e146
       replace hx146_0 := zx HB hx146_0
       replace p146 := eq_true p146
       replace q146 := eq_true q146
       go_wp2_with (first | ((with_reducible refine gate_callee (f := 20) rfl ?_); refine goesL_ (some 27) rfl rfl Tryd.func20 (by kernel_rfl) rfl #[.string (rdOf ByteArray.empty l0_3 x3_2)] rfl zar ?_; (with_reducible refine (spec_l02TermOK.calls k2 (rdOf ByteArray.empty l0_3 x3_2) false _ A10.out).mono ?_); rintro e w16 ⟨rfl, hb⟩; refine ⟨_, rfl, ?_⟩; replace BK145 := Aside0.mk (blk_below (zb BK145) hb); replace HB := Aside0.mk (below_step (zg HB) hb); (try clear hb); (try clear hb2); (try clear hk); (try clear hi)))
       go_ret
       exact ⟨zre, zg HB⟩
      subst c11
      rw [if_pos rfl] at H
      have H' := Aside0.mk H
      clear H
      have hcz12_0 : wr.cell? ⟨gb145, 0, none⟩ = some (.bool a0_0) := (blk_cell BK145.out 0).trans rfl
      have hcz12_1 : wr.cell? ⟨gb145, 1, none⟩ = some (.bool a0_1) := (blk_cell BK145.out 1).trans rfl
      have hcz12_2 : wr.cell? ⟨gb145, 2, none⟩ = some (.bool a0_2) := (blk_cell BK145.out 2).trans rfl
      have hcz12_3 : wr.cell? ⟨gb145, 3, none⟩ = some (.slice A0_3 l0_3.length c0_3) := (blk_cell BK145.out 3).trans rfl
      have hcz12_4 : wr.cell? ⟨gb145, 4, none⟩ = some (.slice A0_4 l0_4.length c0_4) := (blk_cell BK145.out 4).trans rfl
      have hcz12_5 : wr.cell? ⟨gb145, 5, none⟩ = some (.int .i64 a0_5) := (blk_cell BK145.out 5).trans rfl
      have hcz12_6 : wr.cell? ⟨gb145, 6, none⟩ = some (.int .i64 a0_6) := (blk_cell BK145.out 6).trans rfl
      have hfz12_0 := blk_frozen BK145.out 0
      have hfz12_1 := blk_frozen BK145.out 1
      have hfz12_2 := blk_frozen BK145.out 2
      have hfz12_3 := blk_frozen BK145.out 3
      have hfz12_4 := blk_frozen BK145.out 4
      have hfz12_5 := blk_frozen BK145.out 5
      have hfz12_6 := blk_frozen BK145.out 6
      have p146 : 0 ≤ (x3_2 : Int) := of_decide_eq_true zas
      have q146 : x3_2 < (l0_3.length : Int) := of_decide_eq_true zas
      obtain ⟨ad146, e146, hx146_0⟩ := Kd.at_string HR0_3.out x3_2 p146 q146
      cases e146
      replace hx146_0 := zx HB hx146_0
      replace p146 := eq_true p146
      replace q146 := eq_true q146
      go_wp2_with (first | ((with_reducible refine gate_callee (f := 20) rfl ?_); refine goesL_ (some 27) rfl rfl Tryd.func20 (by kernel_rfl) rfl #[.string (rdOf ByteArray.empty l0_3 x3_2)] rfl zar ?_; (with_reducible refine (spec_l02TermOK.calls k2 (rdOf ByteArray.empty l0_3 x3_2) true _ A10.out).mono ?_); rintro e w13 ⟨rfl, hb⟩; refine ⟨_, rfl, ?_⟩; replace BK145 := Aside0.mk (blk_below (zb BK145) hb); replace HB := Aside0.mk (below_step (zg HB) hb); (try clear hb); (try clear hb2); (try clear hk); (try clear hi)))
      go_roundg k2
      case measure => have := HJ1.out; have := HK2.out; omega
      case rel => exact ⟨(wrap64 (x3_2 + 1)), zrs, H', ⟨by have := HJ1.out; have := HK2.out; omega⟩, ⟨zb BK145⟩, ⟨zg HB⟩⟩
     rw [if_neg c8] at H
     have c8b0 : decide (x3_2 < (l0_3.length : Int)) = false := decide_eq_false c8
     clear c8
     have H' := Aside0.mk H
     clear H
     have hcz18_0 : wr.cell? ⟨gb145, 0, none⟩ = some (.bool a0_0) := (blk_cell BK145.out 0).trans rfl
     have hcz18_1 : wr.cell? ⟨gb145, 1, none⟩ = some (.bool a0_1) := (blk_cell BK145.out 1).trans rfl
     have hcz18_2 : wr.cell? ⟨gb145, 2, none⟩ = some (.bool a0_2) := (blk_cell BK145.out 2).trans rfl
     have hcz18_3 : wr.cell? ⟨gb145, 3, none⟩ = some (.slice A0_3 l0_3.length c0_3) := (blk_cell BK145.out 3).trans rfl
     have hcz18_4 : wr.cell? ⟨gb145, 4, none⟩ = some (.slice A0_4 l0_4.length c0_4) := (blk_cell BK145.out 4).trans rfl
     have hcz18_5 : wr.cell? ⟨gb145, 5, none⟩ = some (.int .i64 a0_5) := (blk_cell BK145.out 5).trans rfl
     have hcz18_6 : wr.cell? ⟨gb145, 6, none⟩ = some (.int .i64 a0_6) := (blk_cell BK145.out 6).trans rfl
     have hfz18_0 := blk_frozen BK145.out 0
     have hfz18_1 := blk_frozen BK145.out 1
     have hfz18_2 := blk_frozen BK145.out 2
     have hfz18_3 := blk_frozen BK145.out 3
     have hfz18_4 := blk_frozen BK145.out 4
     have hfz18_5 := blk_frozen BK145.out 5
     have hfz18_6 := blk_frozen BK145.out 6
     go_wp2
     go_loopg [4] k2 (fun kq v4 w' => ∃ (x4_3 : Int), v4 = .int .i64 x4_3 ∧ Aside0 (spec_AnalyzerOK.l1 kq x4_3 a0_0 a0_1 a0_2 l0_3 l0_4 a0_5 a0_6 = some r) ∧ Aside0 (kq ≤ k2) ∧ Aside0 (w'.heap[gb145]? = some (.cells #[.bool a0_0, .bool a0_1, .bool a0_2, (.slice A0_3 l0_3.length c0_3), (.slice A0_4 l0_4.length c0_4), .int .i64 a0_5, .int .i64 a0_6] 37 (0, 0))) ∧ Aside0 (Below w.heap.size w w'))
     case atStart => exact ⟨(0), zrs, H', ⟨Nat.le_refl _⟩, ⟨zb BK145⟩, ⟨zg HB⟩⟩
     case round =>
      clear H'
      try clear c7
      try clear c8
      try clear c8b0
      try clear hcz18_0 hcz18_1 hcz18_2 hcz18_3 hcz18_4 hcz18_5 hcz18_6
      try clear hfz18_0 hfz18_1 hfz18_2 hfz18_3 hfz18_4 hfz18_5 hfz18_6
      obtain ⟨x4_3, rfl, HA, HK3, BK145, HB⟩ := hrel
      cases gk with
      | zero => exact absurd HA.out (by simp [spec_AnalyzerOK.l1])
      | succ k3 =>
       have H := HA.out
       clear HA
       simp only [spec_AnalyzerOK.l1] at H
       by_cases c19 : x4_3 < (l0_4.length : Int)
       rotate_left
       ·rw [if_neg c19] at H
        have c19b0 : decide (x4_3 < (l0_4.length : Int)) = false := decide_eq_false c19
        clear c19
        by_cases c41 : a0_5 = 0
        rotate_left
        ·rw [if_neg c41] at H
         have c41b0 : (a0_5 == 0) = false := beq_eq_false_iff_ne.mpr c41
         have c41b1 : (a0_5 != 0) = true := bne_iff_ne.mpr c41
         by_cases c49 : a0_5 ≥ 1
         rotate_left
         ·rw [if_neg c49] at H
          have c49b0 : decide (1 ≤ a0_5) = false := decide_eq_false c49
          clear c49
          obtain rfl := Option.some.inj H
          have hcz53_0 : wr.cell? ⟨gb145, 0, none⟩ = some (.bool a0_0) := (blk_cell BK145.out 0).trans rfl
          have hcz53_1 : wr.cell? ⟨gb145, 1, none⟩ = some (.bool a0_1) := (blk_cell BK145.out 1).trans rfl
          have hcz53_2 : wr.cell? ⟨gb145, 2, none⟩ = some (.bool a0_2) := (blk_cell BK145.out 2).trans rfl
          have hcz53_3 : wr.cell? ⟨gb145, 3, none⟩ = some (.slice A0_3 l0_3.length c0_3) := (blk_cell BK145.out 3).trans rfl
          have hcz53_4 : wr.cell? ⟨gb145, 4, none⟩ = some (.slice A0_4 l0_4.length c0_4) := (blk_cell BK145.out 4).trans rfl
          have hcz53_5 : wr.cell? ⟨gb145, 5, none⟩ = some (.int .i64 a0_5) := (blk_cell BK145.out 5).trans rfl
          have hcz53_6 : wr.cell? ⟨gb145, 6, none⟩ = some (.int .i64 a0_6) := (blk_cell BK145.out 6).trans rfl
          have hfz53_0 := blk_frozen BK145.out 0
          have hfz53_1 := blk_frozen BK145.out 1
          have hfz53_2 := blk_frozen BK145.out 2
          have hfz53_3 := blk_frozen BK145.out 3
          have hfz53_4 := blk_frozen BK145.out 4
          have hfz53_5 := blk_frozen BK145.out 5
          have hfz53_6 := blk_frozen BK145.out 6
          go_wp2
          go_ret
          exact ⟨zre, zg HB⟩

         rw [if_pos c49] at H
         have c49b0 : decide (1 ≤ a0_5) = true := decide_eq_true c49
         clear c49
         by_cases c50 : a0_5 ≤ a0_6
         ·rw [if_pos c50] at H
          have c50b0 : decide (a0_5 ≤ a0_6) = true := decide_eq_true c50
          clear c50
          obtain rfl := Option.some.inj H
          have hcz51_0 : wr.cell? ⟨gb145, 0, none⟩ = some (.bool a0_0) := (blk_cell BK145.out 0).trans rfl
          have hcz51_1 : wr.cell? ⟨gb145, 1, none⟩ = some (.bool a0_1) := (blk_cell BK145.out 1).trans rfl
          have hcz51_2 : wr.cell? ⟨gb145, 2, none⟩ = some (.bool a0_2) := (blk_cell BK145.out 2).trans rfl
          have hcz51_3 : wr.cell? ⟨gb145, 3, none⟩ = some (.slice A0_3 l0_3.length c0_3) := (blk_cell BK145.out 3).trans rfl
          have hcz51_4 : wr.cell? ⟨gb145, 4, none⟩ = some (.slice A0_4 l0_4.length c0_4) := (blk_cell BK145.out 4).trans rfl
          have hcz51_5 : wr.cell? ⟨gb145, 5, none⟩ = some (.int .i64 a0_5) := (blk_cell BK145.out 5).trans rfl
          have hcz51_6 : wr.cell? ⟨gb145, 6, none⟩ = some (.int .i64 a0_6) := (blk_cell BK145.out 6).trans rfl
          have hfz51_0 := blk_frozen BK145.out 0
          have hfz51_1 := blk_frozen BK145.out 1
          have hfz51_2 := blk_frozen BK145.out 2
          have hfz51_3 := blk_frozen BK145.out 3
          have hfz51_4 := blk_frozen BK145.out 4
          have hfz51_5 := blk_frozen BK145.out 5
          have hfz51_6 := blk_frozen BK145.out 6
          go_wp2
          go_ret
          exact ⟨zre, zg HB⟩
         rw [if_neg c50] at H
         have c50b0 : decide (a0_5 ≤ a0_6) = false := decide_eq_false c50
         clear c50
         obtain rfl := Option.some.inj H
         have hcz52_0 : wr.cell? ⟨gb145, 0, none⟩ = some (.bool a0_0) := (blk_cell BK145.out 0).trans rfl
         have hcz52_1 : wr.cell? ⟨gb145, 1, none⟩ = some (.bool a0_1) := (blk_cell BK145.out 1).trans rfl
         have hcz52_2 : wr.cell? ⟨gb145, 2, none⟩ = some (.bool a0_2) := (blk_cell BK145.out 2).trans rfl
         have hcz52_3 : wr.cell? ⟨gb145, 3, none⟩ = some (.slice A0_3 l0_3.length c0_3) := (blk_cell BK145.out 3).trans rfl
         have hcz52_4 : wr.cell? ⟨gb145, 4, none⟩ = some (.slice A0_4 l0_4.length c0_4) := (blk_cell BK145.out 4).trans rfl
         have hcz52_5 : wr.cell? ⟨gb145, 5, none⟩ = some (.int .i64 a0_5) := (blk_cell BK145.out 5).trans rfl
         have hcz52_6 : wr.cell? ⟨gb145, 6, none⟩ = some (.int .i64 a0_6) := (blk_cell BK145.out 6).trans rfl
         have hfz52_0 := blk_frozen BK145.out 0
         have hfz52_1 := blk_frozen BK145.out 1
         have hfz52_2 := blk_frozen BK145.out 2
         have hfz52_3 := blk_frozen BK145.out 3
         have hfz52_4 := blk_frozen BK145.out 4
         have hfz52_5 := blk_frozen BK145.out 5
         have hfz52_6 := blk_frozen BK145.out 6
         go_wp2
         go_ret
         exact ⟨zre, zg HB⟩
        rw [if_pos c41] at H
        have c41b0 : (a0_5 == 0) = true := beq_iff_eq.mpr c41
        have c41b1 : (a0_5 != 0) = false := bne_eq_false_iff_eq.mpr c41
        clear c41
        by_cases c42 : a0_6 = 0
        ·rw [if_pos c42] at H
         have c42b0 : (a0_6 == 0) = true := beq_iff_eq.mpr c42
         have c42b1 : (a0_6 != 0) = false := bne_eq_false_iff_eq.mpr c42
         clear c42
         obtain rfl := Option.some.inj H
         have hcz43_0 : wr.cell? ⟨gb145, 0, none⟩ = some (.bool a0_0) := (blk_cell BK145.out 0).trans rfl
         have hcz43_1 : wr.cell? ⟨gb145, 1, none⟩ = some (.bool a0_1) := (blk_cell BK145.out 1).trans rfl
         have hcz43_2 : wr.cell? ⟨gb145, 2, none⟩ = some (.bool a0_2) := (blk_cell BK145.out 2).trans rfl
         have hcz43_3 : wr.cell? ⟨gb145, 3, none⟩ = some (.slice A0_3 l0_3.length c0_3) := (blk_cell BK145.out 3).trans rfl
         have hcz43_4 : wr.cell? ⟨gb145, 4, none⟩ = some (.slice A0_4 l0_4.length c0_4) := (blk_cell BK145.out 4).trans rfl
         have hcz43_5 : wr.cell? ⟨gb145, 5, none⟩ = some (.int .i64 a0_5) := (blk_cell BK145.out 5).trans rfl
         have hcz43_6 : wr.cell? ⟨gb145, 6, none⟩ = some (.int .i64 a0_6) := (blk_cell BK145.out 6).trans rfl
         have hfz43_0 := blk_frozen BK145.out 0
         have hfz43_1 := blk_frozen BK145.out 1
         have hfz43_2 := blk_frozen BK145.out 2
         have hfz43_3 := blk_frozen BK145.out 3
         have hfz43_4 := blk_frozen BK145.out 4
         have hfz43_5 := blk_frozen BK145.out 5
         have hfz43_6 := blk_frozen BK145.out 6
         go_wp2
         go_ret
         exact ⟨zre, zg HB⟩
        rw [if_neg c42] at H
        have c42b0 : (a0_6 == 0) = false := beq_eq_false_iff_ne.mpr c42
        have c42b1 : (a0_6 != 0) = true := bne_iff_ne.mpr c42
        by_cases c44 : a0_5 ≥ 1
        rotate_left
        ·rw [if_neg c44] at H
         have c44b0 : decide (1 ≤ a0_5) = false := decide_eq_false c44
         clear c44
         obtain rfl := Option.some.inj H
         have hcz48_0 : wr.cell? ⟨gb145, 0, none⟩ = some (.bool a0_0) := (blk_cell BK145.out 0).trans rfl
         have hcz48_1 : wr.cell? ⟨gb145, 1, none⟩ = some (.bool a0_1) := (blk_cell BK145.out 1).trans rfl
         have hcz48_2 : wr.cell? ⟨gb145, 2, none⟩ = some (.bool a0_2) := (blk_cell BK145.out 2).trans rfl
         have hcz48_3 : wr.cell? ⟨gb145, 3, none⟩ = some (.slice A0_3 l0_3.length c0_3) := (blk_cell BK145.out 3).trans rfl
         have hcz48_4 : wr.cell? ⟨gb145, 4, none⟩ = some (.slice A0_4 l0_4.length c0_4) := (blk_cell BK145.out 4).trans rfl
         have hcz48_5 : wr.cell? ⟨gb145, 5, none⟩ = some (.int .i64 a0_5) := (blk_cell BK145.out 5).trans rfl
         have hcz48_6 : wr.cell? ⟨gb145, 6, none⟩ = some (.int .i64 a0_6) := (blk_cell BK145.out 6).trans rfl
         have hfz48_0 := blk_frozen BK145.out 0
         have hfz48_1 := blk_frozen BK145.out 1
         have hfz48_2 := blk_frozen BK145.out 2
         have hfz48_3 := blk_frozen BK145.out 3
         have hfz48_4 := blk_frozen BK145.out 4
         have hfz48_5 := blk_frozen BK145.out 5
         have hfz48_6 := blk_frozen BK145.out 6
         go_wp2
         go_ret
         exact ⟨zre, zg HB⟩
        rw [if_pos c44] at H
        have c44b0 : decide (1 ≤ a0_5) = true := decide_eq_true c44
        clear c44
        by_cases c45 : a0_5 ≤ a0_6
        ·rw [if_pos c45] at H
         have c45b0 : decide (a0_5 ≤ a0_6) = true := decide_eq_true c45
         clear c45
         obtain rfl := Option.some.inj H
         have hcz46_0 : wr.cell? ⟨gb145, 0, none⟩ = some (.bool a0_0) := (blk_cell BK145.out 0).trans rfl
         have hcz46_1 : wr.cell? ⟨gb145, 1, none⟩ = some (.bool a0_1) := (blk_cell BK145.out 1).trans rfl
         have hcz46_2 : wr.cell? ⟨gb145, 2, none⟩ = some (.bool a0_2) := (blk_cell BK145.out 2).trans rfl
         have hcz46_3 : wr.cell? ⟨gb145, 3, none⟩ = some (.slice A0_3 l0_3.length c0_3) := (blk_cell BK145.out 3).trans rfl
         have hcz46_4 : wr.cell? ⟨gb145, 4, none⟩ = some (.slice A0_4 l0_4.length c0_4) := (blk_cell BK145.out 4).trans rfl
         have hcz46_5 : wr.cell? ⟨gb145, 5, none⟩ = some (.int .i64 a0_5) := (blk_cell BK145.out 5).trans rfl
         have hcz46_6 : wr.cell? ⟨gb145, 6, none⟩ = some (.int .i64 a0_6) := (blk_cell BK145.out 6).trans rfl
         have hfz46_0 := blk_frozen BK145.out 0
         have hfz46_1 := blk_frozen BK145.out 1
         have hfz46_2 := blk_frozen BK145.out 2
         have hfz46_3 := blk_frozen BK145.out 3
         have hfz46_4 := blk_frozen BK145.out 4
         have hfz46_5 := blk_frozen BK145.out 5
         have hfz46_6 := blk_frozen BK145.out 6
         go_wp2
         go_ret
         exact ⟨zre, zg HB⟩
        rw [if_neg c45] at H
        have c45b0 : decide (a0_5 ≤ a0_6) = false := decide_eq_false c45
        clear c45
        obtain rfl := Option.some.inj H
        have hcz47_0 : wr.cell? ⟨gb145, 0, none⟩ = some (.bool a0_0) := (blk_cell BK145.out 0).trans rfl
        have hcz47_1 : wr.cell? ⟨gb145, 1, none⟩ = some (.bool a0_1) := (blk_cell BK145.out 1).trans rfl
        have hcz47_2 : wr.cell? ⟨gb145, 2, none⟩ = some (.bool a0_2) := (blk_cell BK145.out 2).trans rfl
        have hcz47_3 : wr.cell? ⟨gb145, 3, none⟩ = some (.slice A0_3 l0_3.length c0_3) := (blk_cell BK145.out 3).trans rfl
        have hcz47_4 : wr.cell? ⟨gb145, 4, none⟩ = some (.slice A0_4 l0_4.length c0_4) := (blk_cell BK145.out 4).trans rfl
        have hcz47_5 : wr.cell? ⟨gb145, 5, none⟩ = some (.int .i64 a0_5) := (blk_cell BK145.out 5).trans rfl
        have hcz47_6 : wr.cell? ⟨gb145, 6, none⟩ = some (.int .i64 a0_6) := (blk_cell BK145.out 6).trans rfl
        have hfz47_0 := blk_frozen BK145.out 0
        have hfz47_1 := blk_frozen BK145.out 1
        have hfz47_2 := blk_frozen BK145.out 2
        have hfz47_3 := blk_frozen BK145.out 3
        have hfz47_4 := blk_frozen BK145.out 4
        have hfz47_5 := blk_frozen BK145.out 5
        have hfz47_6 := blk_frozen BK145.out 6
        go_wp2
        go_ret
        exact ⟨zre, zg HB⟩
       rw [if_pos c19] at H
       have c19b0 : decide (x4_3 < (l0_4.length : Int)) = true := decide_eq_true c19
       clear c19
       have HC20 := Aside0.mk H
       clear H
       have hcz21_0 : wr.cell? ⟨gb145, 0, none⟩ = some (.bool a0_0) := (blk_cell BK145.out 0).trans rfl
       have hcz21_1 : wr.cell? ⟨gb145, 1, none⟩ = some (.bool a0_1) := (blk_cell BK145.out 1).trans rfl
       have hcz21_2 : wr.cell? ⟨gb145, 2, none⟩ = some (.bool a0_2) := (blk_cell BK145.out 2).trans rfl
       have hcz21_3 : wr.cell? ⟨gb145, 3, none⟩ = some (.slice A0_3 l0_3.length c0_3) := (blk_cell BK145.out 3).trans rfl
       have hcz21_4 : wr.cell? ⟨gb145, 4, none⟩ = some (.slice A0_4 l0_4.length c0_4) := (blk_cell BK145.out 4).trans rfl
       have hcz21_5 : wr.cell? ⟨gb145, 5, none⟩ = some (.int .i64 a0_5) := (blk_cell BK145.out 5).trans rfl
       have hcz21_6 : wr.cell? ⟨gb145, 6, none⟩ = some (.int .i64 a0_6) := (blk_cell BK145.out 6).trans rfl
       have hfz21_0 := blk_frozen BK145.out 0
       have hfz21_1 := blk_frozen BK145.out 1
       have hfz21_2 := blk_frozen BK145.out 2
       have hfz21_3 := blk_frozen BK145.out 3
       have hfz21_4 := blk_frozen BK145.out 4
       have hfz21_5 := blk_frozen BK145.out 5
       have hfz21_6 := blk_frozen BK145.out 6
       go_upto_region 11 with (fail)
       go_cut [68] (fun v68 wc => ∃ (kq : Nat) (x68_19 : Bool), v68 = .bool x68_19 ∧ Aside0 (spec_AnalyzerOK.j3 kq x4_3 x68_19 a0_0 a0_1 a0_2 l0_3 l0_4 a0_5 a0_6 = some r) ∧ Aside0 (kq ≤ k3) ∧ Aside0 (wc.heap[gb145]? = some (.cells #[.bool a0_0, .bool a0_1, .bool a0_2, (.slice A0_3 l0_3.length c0_3), (.slice A0_4 l0_4.length c0_4), .int .i64 a0_5, .int .i64 a0_6] 37 (0, 0))) ∧ Aside0 (Below w.heap.size w wc))
       case first =>
        have H := HC20.out
        clear HC20
        by_cases c22 : 0 ≤ x4_3
        rotate_left
        ·rw [if_neg c22] at H
         exact absurd H (by simp)
        rw [if_pos c22] at H
        have c22b0 : decide (0 ≤ x4_3) = true := decide_eq_true c22
        clear c22
        (first | rw [c22b0] | (simp only [i64_w, i32_w]; rw [c22b0]) | skip)
        replace H := Option.bind_eq_some_iff.mp H
        obtain ⟨t149, A230, H⟩ := H
        try dsimp only at H
        have A23 := Aside0.mk A230
        clear A230
        by_cases c24 : t149 = true
        rotate_left
        ·replace c24 := Bool.eq_false_iff.mpr c24
         subst c24
         rw [if_neg (show ¬ (false = true) by decide)] at H
         have H' := Aside0.mk H
         clear H
         try go_wp2
         replace BK145 := Aside0.mk (blk_drew BK145.out)
         replace HB := Aside0.mk (below_drew1 HB.out)
         have p148 : 0 ≤ (x4_3 : Int) := of_decide_eq_true zas
         have q148 : x4_3 < (l0_4.length : Int) := of_decide_eq_true zas
         obtain ⟨ad148, e148, hx148_0, hx148_1⟩ := at_T52 HR0_4.out x4_3 p148 q148
         have hw148_1 := hx148_1
         have hw148_0 := hx148_0
         cases e148
         replace hx148_0 := zx HB hx148_0
         replace hx148_1 := zx HB hx148_1
         replace p148 := eq_true p148
         replace q148 := eq_true q148
         refine start_ (n := 33) (S := fun w' => w'.cell? ⟨gb145, 0, none⟩ = some (.bool a0_0) ∧ w'.cell? ⟨gb145, 1, none⟩ = some (.bool a0_1) ∧ w'.cell? ⟨gb145, 2, none⟩ = some (.bool a0_2) ∧ w'.cell? ⟨gb145, 3, none⟩ = some (.slice A0_3 l0_3.length c0_3) ∧ w'.cell? ⟨gb145, 4, none⟩ = some (.slice (some ad148) l0_4.length c0_4) ∧ w'.cell? ⟨gb145, 5, none⟩ = some (.int .i64 a0_5) ∧ w'.cell? ⟨gb145, 6, none⟩ = some (.int .i64 a0_6) ∧ w'.cell? (ad148.add ((x4_3).toNat * 2)) = some (.string ((rd_T52 l0_4 x4_3).f0)) ∧ w'.cell? ⟨(ad148.add ((x4_3).toNat * 2)).block, (ad148.add ((x4_3).toNat * 2)).off + 1, none⟩ = some (.string ((rd_T52 l0_4 x4_3).f1))) (ds := []) (fl4_ 33 0) (by kernel_rfl) rfl rfl ⟨(blk_cell BK145.out 0).trans rfl, (blk_cell BK145.out 1).trans rfl, (blk_cell BK145.out 2).trans rfl, (blk_cell BK145.out 3).trans rfl, (blk_cell BK145.out 4).trans rfl, (blk_cell BK145.out 5).trans rfl, (blk_cell BK145.out 6).trans rfl, (zxx HB hw148_0), (zxx HB hw148_1)⟩ (fun hHeld => ?_); refine with_tabW spec_AnalyzerOK.tab11 spec_AnalyzerOK.bits11 (fun HT_ HW_ => ?_)
         generalize wr.drew = w37 at BK145 HB hx148_0 hx148_1 hHeld ⊢
         refine zpu HT_ 0 36 (fl4_ 33 1) ?_
         refine zpu HT_ 2 38 (fl4_ 33 5) ?_
         refine take_ (i := 1) (N := some 37) (v := ?_) (a' := ?_) (fl4_ 33 7) rfl rfl (take_ofW HT_.out HW_.out (by kernel_rfl)) (fun _ _ _ h => h) (Or.inl ⟨by rfl, ?_⟩) hHeld ?_ ?_
         rotate_left
         ·rintro w' ⟨s0, s1, s2, s3, s4, s5, s6, s7, s8⟩
          go_simp
          with_reducible rfl
         rotate_left
         ·simp only [Act.put, List.setIfInBounds_toArray, List.set_cons_zero, List.set_cons_succ, i64_w, i32_w]
          rfl
         refine zpu HT_ 3 39 (fl4_ 33 15) ?_
         refine zpu HT_ 4 40 (fl4_ 33 31) ?_
         refine take_ (i := 5) (N := some 41) (v := ?_) (a' := ?_) (fl4_ 33 63) rfl rfl (take_ofW HT_.out HW_.out (by kernel_rfl)) (fun _ _ _ h => h) (Or.inl ⟨by rfl, ?_⟩) hHeld ?_ ?_
         rotate_left
         ·rintro w' ⟨s0, s1, s2, s3, s4, s5, s6, s7, s8⟩
          go_simp
          with_reducible rfl
         rotate_left
         ·simp only [Act.put, List.setIfInBounds_toArray, List.set_cons_zero, List.set_cons_succ, i64_w, i32_w]
          rfl
         refine one_ (i := 6) (N := some 42) (fl4_ 33 127) rfl rfl (one_of HT_.out (by kernel_rfl)) (by decide) (fun K hK => ?_)
         refine goes_ Tryd.func20 (by kernel_rfl) rfl #[.string ((rd_T52 l0_4 x4_3).f0)] (by rfl) rfl rfl zar ?_
         with_reducible refine (spec_l02TermOK.calls k3 ((rd_T52 l0_4 x4_3).f0) false _ A23.out).mono ?_
         rintro e w38 ⟨rfl, hb⟩
         refine ⟨_, rfl, ?_⟩
         replace BK145 := Aside0.mk (blk_below (zb BK145) hb)
         replace HB := Aside0.mk (below_step (zg HB) hb)
         (try clear hb)
         (try clear hb2)
         (try clear hk)
         (try clear hi)
         refine hK.out _ _ ⟨(blk_cell BK145.out 0).trans rfl, (blk_cell BK145.out 1).trans rfl, (blk_cell BK145.out 2).trans rfl, (blk_cell BK145.out 3).trans rfl, (blk_cell BK145.out 4).trans rfl, (blk_cell BK145.out 5).trans rfl, (blk_cell BK145.out 6).trans rfl, (zxx HB hw148_0), (zxx HB hw148_1)⟩ (fun hHeld => ?_)
         clear hK K
         refine norm_ (a' := ?_) ?_ ?_
         rotate_left
         ·show Act.put _ (some 42) _ = _
          simp only [Act.put, List.setIfInBounds_toArray, List.set_cons_zero, List.set_cons_succ, i64_w, i32_w]
          rfl
         refine zpu HT_ 7 43 (fl4_ 33 255) ?_
         refine zpu HT_ 8 44 (fl4_ 33 511) ?_
         refine pure_ (i := 9) (N := some 45) (v := undef) (a' := ?_) (fl4_ 33 1023) rfl rfl (any_of HT_.out (by kernel_rfl)) (fun _ _ _ h => h) (Or.inr ⟨by rfl, rfl⟩) ?_ ?_
         rotate_left
         ·simp only [Act.put, List.setIfInBounds_toArray, List.set_cons_zero, List.set_cons_succ, i64_w, i32_w]
          rfl
         refine pure_ (i := 10) (N := some 46) (v := undef) (a' := ?_) (fl4_ 33 2047) rfl rfl (any_of HT_.out (by kernel_rfl)) (fun _ _ _ h => h) (Or.inr ⟨by rfl, rfl⟩) ?_ ?_
         rotate_left
         ·simp only [Act.put, List.setIfInBounds_toArray, List.set_cons_zero, List.set_cons_succ, i64_w, i32_w]
          rfl
         refine pure_ (i := 11) (N := some 47) (v := undef) (a' := ?_) (fl4_ 33 4095) rfl rfl (any_of HT_.out (by kernel_rfl)) (fun _ _ _ h => h) (Or.inr ⟨by rfl, rfl⟩) ?_ ?_
         rotate_left
         ·simp only [Act.put, List.setIfInBounds_toArray, List.set_cons_zero, List.set_cons_succ, i64_w, i32_w]
          rfl
         refine pure_ (i := 12) (N := some 48) (v := undef) (a' := ?_) (fl4_ 33 8191) rfl rfl (any_of HT_.out (by kernel_rfl)) (fun _ _ _ h => h) (Or.inr ⟨by rfl, rfl⟩) ?_ ?_
         rotate_left
         ·simp only [Act.put, List.setIfInBounds_toArray, List.set_cons_zero, List.set_cons_succ, i64_w, i32_w]
          rfl
         refine pure_ (i := 13) (N := some 49) (v := undef) (a' := ?_) (fl4_ 33 16383) rfl rfl (any_of HT_.out (by kernel_rfl)) (fun _ _ _ h => h) (Or.inr ⟨by rfl, rfl⟩) ?_ ?_
         rotate_left
         ·simp only [Act.put, List.setIfInBounds_toArray, List.set_cons_zero, List.set_cons_succ, i64_w, i32_w]
          rfl
         refine pure_ (i := 14) (N := some 50) (v := undef) (a' := ?_) (fl4_ 33 32767) rfl rfl (any_of HT_.out (by kernel_rfl)) (fun _ _ _ h => h) (Or.inr ⟨by rfl, rfl⟩) ?_ ?_
         rotate_left
         ·simp only [Act.put, List.setIfInBounds_toArray, List.set_cons_zero, List.set_cons_succ, i64_w, i32_w]
          rfl
         refine pure_ (i := 15) (N := some 51) (v := undef) (a' := ?_) (fl4_ 33 65535) rfl rfl (any_of HT_.out (by kernel_rfl)) (fun _ _ _ h => h) (Or.inr ⟨by rfl, rfl⟩) ?_ ?_
         rotate_left
         ·simp only [Act.put, List.setIfInBounds_toArray, List.set_cons_zero, List.set_cons_succ, i64_w, i32_w]
          rfl
         refine pure_ (i := 16) (N := some 52) (v := undef) (a' := ?_) (fl4_ 33 131071) rfl rfl (any_of HT_.out (by kernel_rfl)) (fun _ _ _ h => h) (Or.inr ⟨by rfl, rfl⟩) ?_ ?_
         rotate_left
         ·simp only [Act.put, List.setIfInBounds_toArray, List.set_cons_zero, List.set_cons_succ, i64_w, i32_w]
          rfl
         refine zpu HT_ 17 53 (fl4_ 33 262143) ?_
         refine zpu HT_ 18 54 (fl4_ 33 524287) ?_
         refine pure_ (i := 19) (N := some 55) (v := undef) (a' := ?_) (fl4_ 33 1048575) rfl rfl (any_of HT_.out (by kernel_rfl)) (fun _ _ _ h => h) (Or.inr ⟨by rfl, rfl⟩) ?_ ?_
         rotate_left
         ·simp only [Act.put, List.setIfInBounds_toArray, List.set_cons_zero, List.set_cons_succ, i64_w, i32_w]
          rfl
         refine pure_ (i := 20) (N := some 56) (v := undef) (a' := ?_) (fl4_ 33 2097151) rfl rfl (any_of HT_.out (by kernel_rfl)) (fun _ _ _ h => h) (Or.inr ⟨by rfl, rfl⟩) ?_ ?_
         rotate_left
         ·simp only [Act.put, List.setIfInBounds_toArray, List.set_cons_zero, List.set_cons_succ, i64_w, i32_w]
          rfl
         refine pure_ (i := 21) (N := some 57) (v := undef) (a' := ?_) (fl4_ 33 4194303) rfl rfl (any_of HT_.out (by kernel_rfl)) (fun _ _ _ h => h) (Or.inr ⟨by rfl, rfl⟩) ?_ ?_
         rotate_left
         ·simp only [Act.put, List.setIfInBounds_toArray, List.set_cons_zero, List.set_cons_succ, i64_w, i32_w]
          rfl
         refine pure_ (i := 22) (N := some 58) (v := undef) (a' := ?_) (fl4_ 33 8388607) rfl rfl (any_of HT_.out (by kernel_rfl)) (fun _ _ _ h => h) (Or.inr ⟨by rfl, rfl⟩) ?_ ?_
         rotate_left
         ·simp only [Act.put, List.setIfInBounds_toArray, List.set_cons_zero, List.set_cons_succ, i64_w, i32_w]
          rfl
         refine pure_ (i := 23) (N := some 59) (v := undef) (a' := ?_) (fl4_ 33 16777215) rfl rfl (any_of HT_.out (by kernel_rfl)) (fun _ _ _ h => h) (Or.inr ⟨by rfl, rfl⟩) ?_ ?_
         rotate_left
         ·simp only [Act.put, List.setIfInBounds_toArray, List.set_cons_zero, List.set_cons_succ, i64_w, i32_w]
          rfl
         refine pure_ (i := 24) (N := some 60) (v := undef) (a' := ?_) (fl4_ 33 33554431) rfl rfl (any_of HT_.out (by kernel_rfl)) (fun _ _ _ h => h) (Or.inr ⟨by rfl, rfl⟩) ?_ ?_
         rotate_left
         ·simp only [Act.put, List.setIfInBounds_toArray, List.set_cons_zero, List.set_cons_succ, i64_w, i32_w]
          rfl
         refine pure_ (i := 25) (N := some 61) (v := undef) (a' := ?_) (fl4_ 33 67108863) rfl rfl (any_of HT_.out (by kernel_rfl)) (fun _ _ _ h => h) (Or.inr ⟨by rfl, rfl⟩) ?_ ?_
         rotate_left
         ·simp only [Act.put, List.setIfInBounds_toArray, List.set_cons_zero, List.set_cons_succ, i64_w, i32_w]
          rfl
         refine pure_ (i := 26) (N := some 62) (v := undef) (a' := ?_) (fl4_ 33 134217727) rfl rfl (any_of HT_.out (by kernel_rfl)) (fun _ _ _ h => h) (Or.inr ⟨by rfl, rfl⟩) ?_ ?_
         rotate_left
         ·simp only [Act.put, List.setIfInBounds_toArray, List.set_cons_zero, List.set_cons_succ, i64_w, i32_w]
          rfl
         refine pure_ (i := 27) (N := some 63) (v := undef) (a' := ?_) (fl4_ 33 268435455) rfl rfl (any_of HT_.out (by kernel_rfl)) (fun _ _ _ h => h) (Or.inr ⟨by rfl, rfl⟩) ?_ ?_
         rotate_left
         ·simp only [Act.put, List.setIfInBounds_toArray, List.set_cons_zero, List.set_cons_succ, i64_w, i32_w]
          rfl
         refine pure_ (i := 28) (N := some 64) (v := undef) (a' := ?_) (fl4_ 33 536870911) rfl rfl (any_of HT_.out (by kernel_rfl)) (fun _ _ _ h => h) (Or.inr ⟨by rfl, rfl⟩) ?_ ?_
         rotate_left
         ·simp only [Act.put, List.setIfInBounds_toArray, List.set_cons_zero, List.set_cons_succ, i64_w, i32_w]
          rfl
         refine pure_ (i := 29) (N := some 65) (v := undef) (a' := ?_) (fl4_ 33 1073741823) rfl rfl (any_of HT_.out (by kernel_rfl)) (fun _ _ _ h => h) (Or.inr ⟨by rfl, rfl⟩) ?_ ?_
         rotate_left
         ·simp only [Act.put, List.setIfInBounds_toArray, List.set_cons_zero, List.set_cons_succ, i64_w, i32_w]
          rfl
         refine pure_ (i := 30) (N := some 66) (v := undef) (a' := ?_) (fl4_ 33 2147483647) rfl rfl (any_of HT_.out (by kernel_rfl)) (fun _ _ _ h => h) (Or.inr ⟨by rfl, rfl⟩) ?_ ?_
         rotate_left
         ·simp only [Act.put, List.setIfInBounds_toArray, List.set_cons_zero, List.set_cons_succ, i64_w, i32_w]
          rfl
         refine pure_ (i := 31) (N := some 67) (v := undef) (a' := ?_) (fl4_ 33 4294967295) rfl rfl (any_of HT_.out (by kernel_rfl)) (fun _ _ _ h => h) (Or.inr ⟨by rfl, rfl⟩) ?_ ?_
         rotate_left
         ·simp only [Act.put, List.setIfInBounds_toArray, List.set_cons_zero, List.set_cons_succ, i64_w, i32_w]
          rfl
         refine zpu HT_ 32 68 (fl4_ 33 8589934591) ?_
         refine done_ (done_of HT_.out (by kernel_rfl)) ?_
         try go_wp2
         go_meet
         case rel => exact ⟨_, (true), zrs, H', ⟨by have := HJ1.out; have := HK2.out; have := HK3.out; first | omega | exact Nat.le_refl _⟩, ⟨zb BK145⟩, ⟨zg HB⟩⟩
        subst c24
        rw [if_pos rfl] at H
        replace H := Option.bind_eq_some_iff.mp H
        obtain ⟨t151, A250, H⟩ := H
        try dsimp only at H
        have A25 := Aside0.mk A250
        clear A250
        by_cases c26 : t151 = true
        rotate_left
        ·replace c26 := Bool.eq_false_iff.mpr c26
         subst c26
         rw [if_neg (show ¬ (false = true) by decide)] at H
         have H' := Aside0.mk H
         clear H
         try go_wp2
         replace BK145 := Aside0.mk (blk_drew BK145.out)
         replace HB := Aside0.mk (below_drew1 HB.out)
         have p148 : 0 ≤ (x4_3 : Int) := of_decide_eq_true zas
         have q148 : x4_3 < (l0_4.length : Int) := of_decide_eq_true zas
         obtain ⟨ad148, e148, hx148_0, hx148_1⟩ := at_T52 HR0_4.out x4_3 p148 q148
         have hw148_1 := hx148_1
         have hw148_0 := hx148_0
         cases e148
         replace hx148_0 := zx HB hx148_0
         replace hx148_1 := zx HB hx148_1
         replace p148 := eq_true p148
         replace q148 := eq_true q148
         have p150 : 0 ≤ (x4_3 : Int) := of_decide_eq_true zas
         have q150 : x4_3 < (l0_4.length : Int) := of_decide_eq_true zas
         obtain ⟨ad150, e150, hx150_0, hx150_1⟩ := at_T52 HR0_4.out x4_3 p150 q150
         have hw150_1 := hx150_1
         have hw150_0 := hx150_0
         obtain rfl : ad148 = ad150 := (by injection e150)
         replace hx150_0 := zx HB hx150_0
         replace hx150_1 := zx HB hx150_1
         replace p150 := eq_true p150
         replace q150 := eq_true q150
         refine start_ (n := 33) (S := fun w' => w'.cell? ⟨gb145, 0, none⟩ = some (.bool a0_0) ∧ w'.cell? ⟨gb145, 1, none⟩ = some (.bool a0_1) ∧ w'.cell? ⟨gb145, 2, none⟩ = some (.bool a0_2) ∧ w'.cell? ⟨gb145, 3, none⟩ = some (.slice A0_3 l0_3.length c0_3) ∧ w'.cell? ⟨gb145, 4, none⟩ = some (.slice (some ad148) l0_4.length c0_4) ∧ w'.cell? ⟨gb145, 5, none⟩ = some (.int .i64 a0_5) ∧ w'.cell? ⟨gb145, 6, none⟩ = some (.int .i64 a0_6) ∧ w'.cell? (ad148.add ((x4_3).toNat * 2)) = some (.string ((rd_T52 l0_4 x4_3).f0)) ∧ w'.cell? ⟨(ad148.add ((x4_3).toNat * 2)).block, (ad148.add ((x4_3).toNat * 2)).off + 1, none⟩ = some (.string ((rd_T52 l0_4 x4_3).f1)) ∧ w'.cell? (ad148.add ((x4_3).toNat * 2)) = some (.string ((rd_T52 l0_4 x4_3).f0)) ∧ w'.cell? ⟨(ad148.add ((x4_3).toNat * 2)).block, (ad148.add ((x4_3).toNat * 2)).off + 1, none⟩ = some (.string ((rd_T52 l0_4 x4_3).f1))) (ds := []) (fl4_ 33 0) (by kernel_rfl) rfl rfl ⟨(blk_cell BK145.out 0).trans rfl, (blk_cell BK145.out 1).trans rfl, (blk_cell BK145.out 2).trans rfl, (blk_cell BK145.out 3).trans rfl, (blk_cell BK145.out 4).trans rfl, (blk_cell BK145.out 5).trans rfl, (blk_cell BK145.out 6).trans rfl, (zxx HB hw148_0), (zxx HB hw148_1), (zxx HB hw150_0), (zxx HB hw150_1)⟩ (fun hHeld => ?_); refine with_tabW spec_AnalyzerOK.tab11 spec_AnalyzerOK.bits11 (fun HT_ HW_ => ?_)
         generalize wr.drew = w32 at BK145 HB hx148_0 hx148_1 hx150_0 hx150_1 hHeld ⊢
         refine zpu HT_ 0 36 (fl4_ 33 1) ?_
         refine zpu HT_ 2 38 (fl4_ 33 5) ?_
         refine take_ (i := 1) (N := some 37) (v := ?_) (a' := ?_) (fl4_ 33 7) rfl rfl (take_ofW HT_.out HW_.out (by kernel_rfl)) (fun _ _ _ h => h) (Or.inl ⟨by rfl, ?_⟩) hHeld ?_ ?_
         rotate_left
         ·rintro w' ⟨s0, s1, s2, s3, s4, s5, s6, s7, s8, s9, s10⟩
          go_simp
          with_reducible rfl
         rotate_left
         ·simp only [Act.put, List.setIfInBounds_toArray, List.set_cons_zero, List.set_cons_succ, i64_w, i32_w]
          rfl
         refine zpu HT_ 3 39 (fl4_ 33 15) ?_
         refine zpu HT_ 4 40 (fl4_ 33 31) ?_
         refine take_ (i := 5) (N := some 41) (v := ?_) (a' := ?_) (fl4_ 33 63) rfl rfl (take_ofW HT_.out HW_.out (by kernel_rfl)) (fun _ _ _ h => h) (Or.inl ⟨by rfl, ?_⟩) hHeld ?_ ?_
         rotate_left
         ·rintro w' ⟨s0, s1, s2, s3, s4, s5, s6, s7, s8, s9, s10⟩
          go_simp
          with_reducible rfl
         rotate_left
         ·simp only [Act.put, List.setIfInBounds_toArray, List.set_cons_zero, List.set_cons_succ, i64_w, i32_w]
          rfl
         refine one_ (i := 6) (N := some 42) (fl4_ 33 127) rfl rfl (one_of HT_.out (by kernel_rfl)) (by decide) (fun K hK => ?_)
         refine goes_ Tryd.func20 (by kernel_rfl) rfl #[.string ((rd_T52 l0_4 x4_3).f0)] (by rfl) rfl rfl zar ?_
         with_reducible refine (spec_l02TermOK.calls k3 ((rd_T52 l0_4 x4_3).f0) true _ A23.out).mono ?_
         rintro e w33 ⟨rfl, hb⟩
         refine ⟨_, rfl, ?_⟩
         replace BK145 := Aside0.mk (blk_below (zb BK145) hb)
         replace HB := Aside0.mk (below_step (zg HB) hb)
         (try clear hb)
         (try clear hb2)
         (try clear hk)
         (try clear hi)
         refine hK.out _ _ ⟨(blk_cell BK145.out 0).trans rfl, (blk_cell BK145.out 1).trans rfl, (blk_cell BK145.out 2).trans rfl, (blk_cell BK145.out 3).trans rfl, (blk_cell BK145.out 4).trans rfl, (blk_cell BK145.out 5).trans rfl, (blk_cell BK145.out 6).trans rfl, (zxx HB hw148_0), (zxx HB hw148_1), (zxx HB hw150_0), (zxx HB hw150_1)⟩ (fun hHeld => ?_)
         clear hK K
         refine norm_ (a' := ?_) ?_ ?_
         rotate_left
         ·show Act.put _ (some 42) _ = _
          simp only [Act.put, List.setIfInBounds_toArray, List.set_cons_zero, List.set_cons_succ, i64_w, i32_w]
          rfl
         refine zpu HT_ 7 43 (fl4_ 33 255) ?_
         refine zpu HT_ 8 44 (fl4_ 33 511) ?_
         refine zpu HT_ 9 45 (fl4_ 33 1023) ?_
         refine zpu HT_ 11 47 (fl4_ 33 3071) ?_
         refine take_ (i := 10) (N := some 46) (v := ?_) (a' := ?_) (fl4_ 33 4095) rfl rfl (take_ofW HT_.out HW_.out (by kernel_rfl)) (fun _ _ _ h => h) (Or.inl ⟨by rfl, ?_⟩) hHeld ?_ ?_
         rotate_left
         ·rintro w' ⟨s0, s1, s2, s3, s4, s5, s6, s7, s8, s9, s10⟩
          go_simp
          with_reducible rfl
         rotate_left
         ·simp only [Act.put, List.setIfInBounds_toArray, List.set_cons_zero, List.set_cons_succ, i64_w, i32_w]
          rfl
         refine zpu HT_ 12 48 (fl4_ 33 8191) ?_
         refine zpu HT_ 13 49 (fl4_ 33 16383) ?_
         refine take_ (i := 14) (N := some 50) (v := ?_) (a' := ?_) (fl4_ 33 32767) rfl rfl (take_ofW HT_.out HW_.out (by kernel_rfl)) (fun _ _ _ h => h) (Or.inl ⟨by rfl, ?_⟩) hHeld ?_ ?_
         rotate_left
         ·rintro w' ⟨s0, s1, s2, s3, s4, s5, s6, s7, s8, s9, s10⟩
          go_simp
          with_reducible rfl
         rotate_left
         ·simp only [Act.put, List.setIfInBounds_toArray, List.set_cons_zero, List.set_cons_succ, i64_w, i32_w]
          rfl
         refine one_ (i := 15) (N := some 51) (fl4_ 33 65535) rfl rfl (one_of HT_.out (by kernel_rfl)) (by decide) (fun K hK => ?_)
         refine goes_ Tryd.func20 (by kernel_rfl) rfl #[.string ((rd_T52 l0_4 x4_3).f1)] (by rfl) rfl rfl zar ?_
         with_reducible refine (spec_l02TermOK.calls k3 ((rd_T52 l0_4 x4_3).f1) false _ A25.out).mono ?_
         rintro e w35 ⟨rfl, hb⟩
         refine ⟨_, rfl, ?_⟩
         replace BK145 := Aside0.mk (blk_below (zb BK145) hb)
         replace HB := Aside0.mk (below_step (zg HB) hb)
         (try clear hb)
         (try clear hb2)
         (try clear hk)
         (try clear hi)
         refine hK.out _ _ ⟨(blk_cell BK145.out 0).trans rfl, (blk_cell BK145.out 1).trans rfl, (blk_cell BK145.out 2).trans rfl, (blk_cell BK145.out 3).trans rfl, (blk_cell BK145.out 4).trans rfl, (blk_cell BK145.out 5).trans rfl, (blk_cell BK145.out 6).trans rfl, (zxx HB hw148_0), (zxx HB hw148_1), (zxx HB hw150_0), (zxx HB hw150_1)⟩ (fun hHeld => ?_)
         clear hK K
         refine norm_ (a' := ?_) ?_ ?_
         rotate_left
         ·show Act.put _ (some 51) _ = _
          simp only [Act.put, List.setIfInBounds_toArray, List.set_cons_zero, List.set_cons_succ, i64_w, i32_w]
          rfl
         refine zpu HT_ 16 52 (fl4_ 33 131071) ?_
         refine zpu HT_ 17 53 (fl4_ 33 262143) ?_
         refine zpu HT_ 18 54 (fl4_ 33 524287) ?_
         refine pure_ (i := 19) (N := some 55) (v := undef) (a' := ?_) (fl4_ 33 1048575) rfl rfl (any_of HT_.out (by kernel_rfl)) (fun _ _ _ h => h) (Or.inr ⟨by rfl, rfl⟩) ?_ ?_
         rotate_left
         ·simp only [Act.put, List.setIfInBounds_toArray, List.set_cons_zero, List.set_cons_succ, i64_w, i32_w]
          rfl
         refine pure_ (i := 20) (N := some 56) (v := undef) (a' := ?_) (fl4_ 33 2097151) rfl rfl (any_of HT_.out (by kernel_rfl)) (fun _ _ _ h => h) (Or.inr ⟨by rfl, rfl⟩) ?_ ?_
         rotate_left
         ·simp only [Act.put, List.setIfInBounds_toArray, List.set_cons_zero, List.set_cons_succ, i64_w, i32_w]
          rfl
         refine pure_ (i := 21) (N := some 57) (v := undef) (a' := ?_) (fl4_ 33 4194303) rfl rfl (any_of HT_.out (by kernel_rfl)) (fun _ _ _ h => h) (Or.inr ⟨by rfl, rfl⟩) ?_ ?_
         rotate_left
         ·simp only [Act.put, List.setIfInBounds_toArray, List.set_cons_zero, List.set_cons_succ, i64_w, i32_w]
          rfl
         refine pure_ (i := 22) (N := some 58) (v := undef) (a' := ?_) (fl4_ 33 8388607) rfl rfl (any_of HT_.out (by kernel_rfl)) (fun _ _ _ h => h) (Or.inr ⟨by rfl, rfl⟩) ?_ ?_
         rotate_left
         ·simp only [Act.put, List.setIfInBounds_toArray, List.set_cons_zero, List.set_cons_succ, i64_w, i32_w]
          rfl
         refine pure_ (i := 23) (N := some 59) (v := undef) (a' := ?_) (fl4_ 33 16777215) rfl rfl (any_of HT_.out (by kernel_rfl)) (fun _ _ _ h => h) (Or.inr ⟨by rfl, rfl⟩) ?_ ?_
         rotate_left
         ·simp only [Act.put, List.setIfInBounds_toArray, List.set_cons_zero, List.set_cons_succ, i64_w, i32_w]
          rfl
         refine pure_ (i := 24) (N := some 60) (v := undef) (a' := ?_) (fl4_ 33 33554431) rfl rfl (any_of HT_.out (by kernel_rfl)) (fun _ _ _ h => h) (Or.inr ⟨by rfl, rfl⟩) ?_ ?_
         rotate_left
         ·simp only [Act.put, List.setIfInBounds_toArray, List.set_cons_zero, List.set_cons_succ, i64_w, i32_w]
          rfl
         refine pure_ (i := 25) (N := some 61) (v := undef) (a' := ?_) (fl4_ 33 67108863) rfl rfl (any_of HT_.out (by kernel_rfl)) (fun _ _ _ h => h) (Or.inr ⟨by rfl, rfl⟩) ?_ ?_
         rotate_left
         ·simp only [Act.put, List.setIfInBounds_toArray, List.set_cons_zero, List.set_cons_succ, i64_w, i32_w]
          rfl
         refine pure_ (i := 26) (N := some 62) (v := undef) (a' := ?_) (fl4_ 33 134217727) rfl rfl (any_of HT_.out (by kernel_rfl)) (fun _ _ _ h => h) (Or.inr ⟨by rfl, rfl⟩) ?_ ?_
         rotate_left
         ·simp only [Act.put, List.setIfInBounds_toArray, List.set_cons_zero, List.set_cons_succ, i64_w, i32_w]
          rfl
         refine pure_ (i := 27) (N := some 63) (v := undef) (a' := ?_) (fl4_ 33 268435455) rfl rfl (any_of HT_.out (by kernel_rfl)) (fun _ _ _ h => h) (Or.inr ⟨by rfl, rfl⟩) ?_ ?_
         rotate_left
         ·simp only [Act.put, List.setIfInBounds_toArray, List.set_cons_zero, List.set_cons_succ, i64_w, i32_w]
          rfl
         refine pure_ (i := 28) (N := some 64) (v := undef) (a' := ?_) (fl4_ 33 536870911) rfl rfl (any_of HT_.out (by kernel_rfl)) (fun _ _ _ h => h) (Or.inr ⟨by rfl, rfl⟩) ?_ ?_
         rotate_left
         ·simp only [Act.put, List.setIfInBounds_toArray, List.set_cons_zero, List.set_cons_succ, i64_w, i32_w]
          rfl
         refine pure_ (i := 29) (N := some 65) (v := undef) (a' := ?_) (fl4_ 33 1073741823) rfl rfl (any_of HT_.out (by kernel_rfl)) (fun _ _ _ h => h) (Or.inr ⟨by rfl, rfl⟩) ?_ ?_
         rotate_left
         ·simp only [Act.put, List.setIfInBounds_toArray, List.set_cons_zero, List.set_cons_succ, i64_w, i32_w]
          rfl
         refine pure_ (i := 30) (N := some 66) (v := undef) (a' := ?_) (fl4_ 33 2147483647) rfl rfl (any_of HT_.out (by kernel_rfl)) (fun _ _ _ h => h) (Or.inr ⟨by rfl, rfl⟩) ?_ ?_
         rotate_left
         ·simp only [Act.put, List.setIfInBounds_toArray, List.set_cons_zero, List.set_cons_succ, i64_w, i32_w]
          rfl
         refine pure_ (i := 31) (N := some 67) (v := undef) (a' := ?_) (fl4_ 33 4294967295) rfl rfl (any_of HT_.out (by kernel_rfl)) (fun _ _ _ h => h) (Or.inr ⟨by rfl, rfl⟩) ?_ ?_
         rotate_left
         ·simp only [Act.put, List.setIfInBounds_toArray, List.set_cons_zero, List.set_cons_succ, i64_w, i32_w]
          rfl
         refine zpu HT_ 32 68 (fl4_ 33 8589934591) ?_
         refine done_ (done_of HT_.out (by kernel_rfl)) ?_
         try go_wp2
         go_meet
         case rel => exact ⟨_, (true), zrs, H', ⟨by have := HJ1.out; have := HK2.out; have := HK3.out; first | omega | exact Nat.le_refl _⟩, ⟨zb BK145⟩, ⟨zg HB⟩⟩
        subst c26
        rw [if_pos rfl] at H
        have H' := Aside0.mk H
        clear H
        try go_wp2
        replace BK145 := Aside0.mk (blk_drew BK145.out)
        replace HB := Aside0.mk (below_drew1 HB.out)
        have p148 : 0 ≤ (x4_3 : Int) := of_decide_eq_true zas
        have q148 : x4_3 < (l0_4.length : Int) := of_decide_eq_true zas
        obtain ⟨ad148, e148, hx148_0, hx148_1⟩ := at_T52 HR0_4.out x4_3 p148 q148
        have hw148_1 := hx148_1
        have hw148_0 := hx148_0
        cases e148
        replace hx148_0 := zx HB hx148_0
        replace hx148_1 := zx HB hx148_1
        replace p148 := eq_true p148
        replace q148 := eq_true q148
        have p150 : 0 ≤ (x4_3 : Int) := of_decide_eq_true zas
        have q150 : x4_3 < (l0_4.length : Int) := of_decide_eq_true zas
        obtain ⟨ad150, e150, hx150_0, hx150_1⟩ := at_T52 HR0_4.out x4_3 p150 q150
        have hw150_1 := hx150_1
        have hw150_0 := hx150_0
        obtain rfl : ad148 = ad150 := (by injection e150)
        replace hx150_0 := zx HB hx150_0
        replace hx150_1 := zx HB hx150_1
        replace p150 := eq_true p150
        replace q150 := eq_true q150
        have p152 : 0 ≤ (x4_3 : Int) := of_decide_eq_true zas
        have q152 : x4_3 < (l0_4.length : Int) := of_decide_eq_true zas
        obtain ⟨ad152, e152, hx152_0, hx152_1⟩ := at_T52 HR0_4.out x4_3 p152 q152
        have hw152_1 := hx152_1
        have hw152_0 := hx152_0
        obtain rfl : ad148 = ad152 := (by injection e152)
        replace hx152_0 := zx HB hx152_0
        replace hx152_1 := zx HB hx152_1
        replace p152 := eq_true p152
        replace q152 := eq_true q152
        have p153 : 0 ≤ (x4_3 : Int) := of_decide_eq_true zas
        have q153 : x4_3 < (l0_4.length : Int) := of_decide_eq_true zas
        obtain ⟨ad153, e153, hx153_0, hx153_1⟩ := at_T52 HR0_4.out x4_3 p153 q153
        have hw153_1 := hx153_1
        have hw153_0 := hx153_0
        obtain rfl : ad148 = ad153 := (by injection e153)
        replace hx153_0 := zx HB hx153_0
        replace hx153_1 := zx HB hx153_1
        replace p153 := eq_true p153
        replace q153 := eq_true q153
        refine start_ (n := 33) (S := fun w' => w'.cell? ⟨gb145, 0, none⟩ = some (.bool a0_0) ∧ w'.cell? ⟨gb145, 1, none⟩ = some (.bool a0_1) ∧ w'.cell? ⟨gb145, 2, none⟩ = some (.bool a0_2) ∧ w'.cell? ⟨gb145, 3, none⟩ = some (.slice A0_3 l0_3.length c0_3) ∧ w'.cell? ⟨gb145, 4, none⟩ = some (.slice (some ad148) l0_4.length c0_4) ∧ w'.cell? ⟨gb145, 5, none⟩ = some (.int .i64 a0_5) ∧ w'.cell? ⟨gb145, 6, none⟩ = some (.int .i64 a0_6) ∧ w'.cell? (ad148.add ((x4_3).toNat * 2)) = some (.string ((rd_T52 l0_4 x4_3).f0)) ∧ w'.cell? ⟨(ad148.add ((x4_3).toNat * 2)).block, (ad148.add ((x4_3).toNat * 2)).off + 1, none⟩ = some (.string ((rd_T52 l0_4 x4_3).f1)) ∧ w'.cell? (ad148.add ((x4_3).toNat * 2)) = some (.string ((rd_T52 l0_4 x4_3).f0)) ∧ w'.cell? ⟨(ad148.add ((x4_3).toNat * 2)).block, (ad148.add ((x4_3).toNat * 2)).off + 1, none⟩ = some (.string ((rd_T52 l0_4 x4_3).f1)) ∧ w'.cell? (ad148.add ((x4_3).toNat * 2)) = some (.string ((rd_T52 l0_4 x4_3).f0)) ∧ w'.cell? ⟨(ad148.add ((x4_3).toNat * 2)).block, (ad148.add ((x4_3).toNat * 2)).off + 1, none⟩ = some (.string ((rd_T52 l0_4 x4_3).f1)) ∧ w'.cell? (ad148.add ((x4_3).toNat * 2)) = some (.string ((rd_T52 l0_4 x4_3).f0)) ∧ w'.cell? ⟨(ad148.add ((x4_3).toNat * 2)).block, (ad148.add ((x4_3).toNat * 2)).off + 1, none⟩ = some (.string ((rd_T52 l0_4 x4_3).f1))) (ds := []) (fl4_ 33 0) (by kernel_rfl) rfl rfl ⟨(blk_cell BK145.out 0).trans rfl, (blk_cell BK145.out 1).trans rfl, (blk_cell BK145.out 2).trans rfl, (blk_cell BK145.out 3).trans rfl, (blk_cell BK145.out 4).trans rfl, (blk_cell BK145.out 5).trans rfl, (blk_cell BK145.out 6).trans rfl, (zxx HB hw148_0), (zxx HB hw148_1), (zxx HB hw150_0), (zxx HB hw150_1), (zxx HB hw152_0), (zxx HB hw152_1), (zxx HB hw153_0), (zxx HB hw153_1)⟩ (fun hHeld => ?_); refine with_tabW spec_AnalyzerOK.tab11 spec_AnalyzerOK.bits11 (fun HT_ HW_ => ?_)
        generalize wr.drew = w27 at BK145 HB hx148_0 hx148_1 hx150_0 hx150_1 hx152_0 hx152_1 hx153_0 hx153_1 hHeld ⊢
        refine zpu HT_ 0 36 (fl4_ 33 1) ?_
        refine zpu HT_ 2 38 (fl4_ 33 5) ?_
        refine take_ (i := 1) (N := some 37) (v := ?_) (a' := ?_) (fl4_ 33 7) rfl rfl (take_ofW HT_.out HW_.out (by kernel_rfl)) (fun _ _ _ h => h) (Or.inl ⟨by rfl, ?_⟩) hHeld ?_ ?_
        rotate_left
        ·rintro w' ⟨s0, s1, s2, s3, s4, s5, s6, s7, s8, s9, s10, s11, s12, s13, s14⟩
         go_simp
         with_reducible rfl
        rotate_left
        ·simp only [Act.put, List.setIfInBounds_toArray, List.set_cons_zero, List.set_cons_succ, i64_w, i32_w]
         rfl
        refine zpu HT_ 3 39 (fl4_ 33 15) ?_
        refine zpu HT_ 4 40 (fl4_ 33 31) ?_
        refine take_ (i := 5) (N := some 41) (v := ?_) (a' := ?_) (fl4_ 33 63) rfl rfl (take_ofW HT_.out HW_.out (by kernel_rfl)) (fun _ _ _ h => h) (Or.inl ⟨by rfl, ?_⟩) hHeld ?_ ?_
        rotate_left
        ·rintro w' ⟨s0, s1, s2, s3, s4, s5, s6, s7, s8, s9, s10, s11, s12, s13, s14⟩
         go_simp
         with_reducible rfl
        rotate_left
        ·simp only [Act.put, List.setIfInBounds_toArray, List.set_cons_zero, List.set_cons_succ, i64_w, i32_w]
         rfl
        refine one_ (i := 6) (N := some 42) (fl4_ 33 127) rfl rfl (one_of HT_.out (by kernel_rfl)) (by decide) (fun K hK => ?_)
        refine goes_ Tryd.func20 (by kernel_rfl) rfl #[.string ((rd_T52 l0_4 x4_3).f0)] (by rfl) rfl rfl zar ?_
        with_reducible refine (spec_l02TermOK.calls k3 ((rd_T52 l0_4 x4_3).f0) true _ A23.out).mono ?_
        rintro e w28 ⟨rfl, hb⟩
        refine ⟨_, rfl, ?_⟩
        replace BK145 := Aside0.mk (blk_below (zb BK145) hb)
        replace HB := Aside0.mk (below_step (zg HB) hb)
        (try clear hb)
        (try clear hb2)
        (try clear hk)
        (try clear hi)
        refine hK.out _ _ ⟨(blk_cell BK145.out 0).trans rfl, (blk_cell BK145.out 1).trans rfl, (blk_cell BK145.out 2).trans rfl, (blk_cell BK145.out 3).trans rfl, (blk_cell BK145.out 4).trans rfl, (blk_cell BK145.out 5).trans rfl, (blk_cell BK145.out 6).trans rfl, (zxx HB hw148_0), (zxx HB hw148_1), (zxx HB hw150_0), (zxx HB hw150_1), (zxx HB hw152_0), (zxx HB hw152_1), (zxx HB hw153_0), (zxx HB hw153_1)⟩ (fun hHeld => ?_)
        clear hK K
        refine norm_ (a' := ?_) ?_ ?_
        rotate_left
        ·show Act.put _ (some 42) _ = _
         simp only [Act.put, List.setIfInBounds_toArray, List.set_cons_zero, List.set_cons_succ, i64_w, i32_w]
         rfl
        refine zpu HT_ 7 43 (fl4_ 33 255) ?_
        refine zpu HT_ 8 44 (fl4_ 33 511) ?_
        refine zpu HT_ 9 45 (fl4_ 33 1023) ?_
        refine zpu HT_ 11 47 (fl4_ 33 3071) ?_
        refine take_ (i := 10) (N := some 46) (v := ?_) (a' := ?_) (fl4_ 33 4095) rfl rfl (take_ofW HT_.out HW_.out (by kernel_rfl)) (fun _ _ _ h => h) (Or.inl ⟨by rfl, ?_⟩) hHeld ?_ ?_
        rotate_left
        ·rintro w' ⟨s0, s1, s2, s3, s4, s5, s6, s7, s8, s9, s10, s11, s12, s13, s14⟩
         go_simp
         with_reducible rfl
        rotate_left
        ·simp only [Act.put, List.setIfInBounds_toArray, List.set_cons_zero, List.set_cons_succ, i64_w, i32_w]
         rfl
        refine zpu HT_ 12 48 (fl4_ 33 8191) ?_
        refine zpu HT_ 13 49 (fl4_ 33 16383) ?_
        refine take_ (i := 14) (N := some 50) (v := ?_) (a' := ?_) (fl4_ 33 32767) rfl rfl (take_ofW HT_.out HW_.out (by kernel_rfl)) (fun _ _ _ h => h) (Or.inl ⟨by rfl, ?_⟩) hHeld ?_ ?_
        rotate_left
        ·rintro w' ⟨s0, s1, s2, s3, s4, s5, s6, s7, s8, s9, s10, s11, s12, s13, s14⟩
         go_simp
         with_reducible rfl
        rotate_left
        ·simp only [Act.put, List.setIfInBounds_toArray, List.set_cons_zero, List.set_cons_succ, i64_w, i32_w]
         rfl
        refine one_ (i := 15) (N := some 51) (fl4_ 33 65535) rfl rfl (one_of HT_.out (by kernel_rfl)) (by decide) (fun K hK => ?_)
        refine goes_ Tryd.func20 (by kernel_rfl) rfl #[.string ((rd_T52 l0_4 x4_3).f1)] (by rfl) rfl rfl zar ?_
        with_reducible refine (spec_l02TermOK.calls k3 ((rd_T52 l0_4 x4_3).f1) true _ A25.out).mono ?_
        rintro e w30 ⟨rfl, hb⟩
        refine ⟨_, rfl, ?_⟩
        replace BK145 := Aside0.mk (blk_below (zb BK145) hb)
        replace HB := Aside0.mk (below_step (zg HB) hb)
        (try clear hb)
        (try clear hb2)
        (try clear hk)
        (try clear hi)
        refine hK.out _ _ ⟨(blk_cell BK145.out 0).trans rfl, (blk_cell BK145.out 1).trans rfl, (blk_cell BK145.out 2).trans rfl, (blk_cell BK145.out 3).trans rfl, (blk_cell BK145.out 4).trans rfl, (blk_cell BK145.out 5).trans rfl, (blk_cell BK145.out 6).trans rfl, (zxx HB hw148_0), (zxx HB hw148_1), (zxx HB hw150_0), (zxx HB hw150_1), (zxx HB hw152_0), (zxx HB hw152_1), (zxx HB hw153_0), (zxx HB hw153_1)⟩ (fun hHeld => ?_)
        clear hK K
        refine norm_ (a' := ?_) ?_ ?_
        rotate_left
        ·show Act.put _ (some 51) _ = _
         simp only [Act.put, List.setIfInBounds_toArray, List.set_cons_zero, List.set_cons_succ, i64_w, i32_w]
         rfl
        refine zpu HT_ 16 52 (fl4_ 33 131071) ?_
        refine zpu HT_ 17 53 (fl4_ 33 262143) ?_
        refine zpu HT_ 18 54 (fl4_ 33 524287) ?_
        refine zpu HT_ 19 55 (fl4_ 33 1048575) ?_
        refine zpu HT_ 21 57 (fl4_ 33 3145727) ?_
        refine zpu HT_ 25 61 (fl4_ 33 36700159) ?_
        refine zpu HT_ 27 63 (fl4_ 33 170917887) ?_
        refine take_ (i := 20) (N := some 56) (v := ?_) (a' := ?_) (fl4_ 33 171966463) rfl rfl (take_ofW HT_.out HW_.out (by kernel_rfl)) (fun _ _ _ h => h) (Or.inl ⟨by rfl, ?_⟩) hHeld ?_ ?_
        rotate_left
        ·rintro w' ⟨s0, s1, s2, s3, s4, s5, s6, s7, s8, s9, s10, s11, s12, s13, s14⟩
         go_simp
         with_reducible rfl
        rotate_left
        ·simp only [Act.put, List.setIfInBounds_toArray, List.set_cons_zero, List.set_cons_succ, i64_w, i32_w]
         rfl
        refine zpu HT_ 22 58 (fl4_ 33 176160767) ?_
        refine zpu HT_ 23 59 (fl4_ 33 184549375) ?_
        refine take_ (i := 24) (N := some 60) (v := ?_) (a' := ?_) (fl4_ 33 201326591) rfl rfl (take_ofW HT_.out HW_.out (by kernel_rfl)) (fun _ _ _ h => h) (Or.inl ⟨by rfl, ?_⟩) hHeld ?_ ?_
        rotate_left
        ·rintro w' ⟨s0, s1, s2, s3, s4, s5, s6, s7, s8, s9, s10, s11, s12, s13, s14⟩
         go_simp
         with_reducible rfl
        rotate_left
        ·simp only [Act.put, List.setIfInBounds_toArray, List.set_cons_zero, List.set_cons_succ, i64_w, i32_w]
         rfl
        refine take_ (i := 26) (N := some 62) (v := ?_) (a' := ?_) (fl4_ 33 268435455) rfl rfl (take_ofW HT_.out HW_.out (by kernel_rfl)) (fun _ _ _ h => h) (Or.inl ⟨by rfl, ?_⟩) hHeld ?_ ?_
        rotate_left
        ·rintro w' ⟨s0, s1, s2, s3, s4, s5, s6, s7, s8, s9, s10, s11, s12, s13, s14⟩
         go_simp
         with_reducible rfl
        rotate_left
        ·simp only [Act.put, List.setIfInBounds_toArray, List.set_cons_zero, List.set_cons_succ, i64_w, i32_w]
         rfl
        refine zpu HT_ 28 64 (fl4_ 33 536870911) ?_
        refine zpu HT_ 29 65 (fl4_ 33 1073741823) ?_
        refine take_ (i := 30) (N := some 66) (v := ?_) (a' := ?_) (fl4_ 33 2147483647) rfl rfl (take_ofW HT_.out HW_.out (by kernel_rfl)) (fun _ _ _ h => h) (Or.inl ⟨by rfl, ?_⟩) hHeld ?_ ?_
        rotate_left
        ·rintro w' ⟨s0, s1, s2, s3, s4, s5, s6, s7, s8, s9, s10, s11, s12, s13, s14⟩
         go_simp
         with_reducible rfl
        rotate_left
        ·simp only [Act.put, List.setIfInBounds_toArray, List.set_cons_zero, List.set_cons_succ, i64_w, i32_w]
         rfl
        refine zpu HT_ 31 67 (fl4_ 33 4294967295) ?_
        refine zpu HT_ 32 68 (fl4_ 33 8589934591) ?_
        refine done_ (done_of HT_.out (by kernel_rfl)) ?_
        try go_wp2
        go_meet
        case rel => exact ⟨_, ((((rd_T52 l0_4 x4_3).f0).toList == ((rd_T52 l0_4 x4_3).f1).toList)), zrs, H', ⟨by have := HJ1.out; have := HK2.out; have := HK3.out; first | omega | exact Nat.le_refl _⟩, ⟨zb BK145⟩, ⟨zg HB⟩⟩
       case rest =>
        clear HC20
        obtain ⟨kq, x68_19, rfl, HA, HJ19, BK145, HB⟩ := hcut
        cases kq with
        | zero => exact absurd HA.out (by simp [spec_AnalyzerOK.j3])
        | succ kj19 =>
         have H := HA.out
         clear HA
         simp only [spec_AnalyzerOK.j3] at H
         by_cases c40 : x68_19 = true
         ·subst c40
          rw [if_pos rfl] at H
          obtain rfl := Option.some.inj H
          go_wp2
          go_ret
          exact ⟨zre, zg HB⟩
         replace c40 := Bool.eq_false_iff.mpr c40
         subst c40
         rw [if_neg (show ¬ (false = true) by decide)] at H
         have H' := Aside0.mk H
         clear H
         go_wp2
         go_roundg kj19
         case measure => have := HJ1.out; have := HK2.out; have := HK3.out; have := HJ19.out; omega
         case rel => exact ⟨(wrap64 (x4_3 + 1)), zrs, H', ⟨by have := HJ1.out; have := HK2.out; have := HK3.out; have := HJ19.out; omega⟩, ⟨zb BK145⟩, ⟨zg HB⟩⟩
end Go.Proofs.YtmbgncgcddjomaaDoor.XFnExactSchemaOK
