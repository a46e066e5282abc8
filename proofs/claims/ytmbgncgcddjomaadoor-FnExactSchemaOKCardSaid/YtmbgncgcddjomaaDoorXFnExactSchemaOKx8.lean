-- A printed text of this session (wip/x/xprint.py).
import Derived.Test.YtmbgncgcddjomaaDoorXFnExactSchemaOKx0
import Derived.Test.YtmbgncgcddjomaaDoorXFnExactSchemaOKx7
namespace Go.Proofs.YtmbgncgcddjomaaDoor.XFnExactSchemaOK
open Go.RowKit Go.Proofs.YtmbgncgcddjomaaDoorW.PrintWords Go.Proofs.YtmbgncgcddjomaaDoorW.PrintLast Go.Proofs.YtmbgncgcddjomaaDoorW.PrintMore
attribute [local go_sem] max2_int min2_int max_two min_two max_three min_three max_four min_four   -- for this text's walks alone
set_option linter.unusedVariables false
set_option linter.unusedSimpArgs false

/-! ### impl_AnalyzerOK: function 16 -/
mutual
def impl_AnalyzerOK.j0 : Nat → Bool → Bool → Bool → Bool → List ByteArray → List (S52) → Int → Int → Option (Bool)
 | 0, _, _, _, _, _, _, _, _ => none
 | k + 1, x16, x229000, x229001, x229002, x229003, x229004, x229005, x229006 => if x16 = true then (some false) else (impl_AnalyzerOK.l0 k x229003 (x229003.length : Int) 0 x229000 x229001 x229002 x229003 x229004 x229005 x229006)
def impl_AnalyzerOK.l0 : Nat → List ByteArray → Int → Int → Bool → Bool → Bool → List ByteArray → List (S52) → Int → Int → Option (Bool)
 | 0, _, _, _, _, _, _, _, _, _, _ => none
 | k + 1, x18, x19, x20, x229000, x229001, x229002, x229003, x229004, x229005, x229006 => if x20 < x19 then (if 0 ≤ x20 then (if x20 < (x18.length : Int) then ((impl_wordOK.f (rdOf ByteArray.empty x18 x20)).bind fun t230 => (if t230 = true then (impl_AnalyzerOK.l0 k x18 x19 (wrap64 (x20 + 1)) x229000 x229001 x229002 x229003 x229004 x229005 x229006) else (some false))) else (none)) else (none)) else (impl_AnalyzerOK.l1 k x229004 (x229004.length : Int) 0 x229000 x229001 x229002 x229003 x229004 x229005 x229006)
def impl_AnalyzerOK.l1 : Nat → List (S52) → Int → Int → Bool → Bool → Bool → List ByteArray → List (S52) → Int → Int → Option (Bool)
 | 0, _, _, _, _, _, _, _, _, _, _ => none
 | k + 1, x29, x30, x31, x229000, x229001, x229002, x229003, x229004, x229005, x229006 => if x31 < x30 then (if 0 ≤ x31 then (if x31 < (x29.length : Int) then ((impl_wordOK.f ((rd_T52 x29 x31).f0)).bind fun t235 => (if t235 = true then ((impl_wordOK.f ((rd_T52 x29 x31).f1)).bind fun t236 => (if t236 = true then (impl_AnalyzerOK.j3 k x29 x30 x31 (((rd_T52 x29 x31).f0).toList == ((rd_T52 x29 x31).f1).toList) x229000 x229001 x229002 x229003 x229004 x229005 x229006) else (impl_AnalyzerOK.j3 k x29 x30 x31 true x229000 x229001 x229002 x229003 x229004 x229005 x229006))) else (impl_AnalyzerOK.j3 k x29 x30 x31 true x229000 x229001 x229002 x229003 x229004 x229005 x229006))) else (none)) else (none)) else (if x229005 = 0 then (if x229006 = 0 then (some true) else ((impl_gramBounds.f x229005 x229006).bind fun t231 => (some t231))) else ((impl_gramBounds.f x229005 x229006).bind fun t232 => (some t232)))
def impl_AnalyzerOK.j3 : Nat → List (S52) → Int → Int → Bool → Bool → Bool → Bool → List ByteArray → List (S52) → Int → Int → Option (Bool)
 | 0, _, _, _, _, _, _, _, _, _, _, _ => none
 | k + 1, x29, x30, x31, x51, x229000, x229001, x229002, x229003, x229004, x229005, x229006 => if x51 = true then (some false) else (impl_AnalyzerOK.l1 k x29 x30 (wrap64 (x31 + 1)) x229000 x229001 x229002 x229003 x229004 x229005 x229006)
end
def impl_AnalyzerOK.f (k : Nat) (a0_0 : Bool) (a0_1 : Bool) (a0_2 : Bool) (l0_3 : List ByteArray) (l0_4 : List (S52)) (a0_5 : Int) (a0_6 : Int) : Option (Bool) := if (l0_3.length : Int) > 64 then (impl_AnalyzerOK.j0 k true a0_0 a0_1 a0_2 l0_3 l0_4 a0_5 a0_6) else (impl_AnalyzerOK.j0 k (decide ((l0_4.length : Int) > 64)) a0_0 a0_1 a0_2 l0_3 l0_4 a0_5 a0_6)
theorem impl_AnalyzerOK.mono_l : ∀ k, (∀ y0 y1 y2 y3 y4 y5 y6 y7, LeO (impl_AnalyzerOK.j0 k y0 y1 y2 y3 y4 y5 y6 y7) (impl_AnalyzerOK.j0 (k + 1) y0 y1 y2 y3 y4 y5 y6 y7)) ∧ (∀ y0 y1 y2 y3 y4 y5 y6 y7 y8 y9, LeO (impl_AnalyzerOK.l0 k y0 y1 y2 y3 y4 y5 y6 y7 y8 y9) (impl_AnalyzerOK.l0 (k + 1) y0 y1 y2 y3 y4 y5 y6 y7 y8 y9)) ∧ (∀ y0 y1 y2 y3 y4 y5 y6 y7 y8 y9, LeO (impl_AnalyzerOK.l1 k y0 y1 y2 y3 y4 y5 y6 y7 y8 y9) (impl_AnalyzerOK.l1 (k + 1) y0 y1 y2 y3 y4 y5 y6 y7 y8 y9)) ∧ (∀ y0 y1 y2 y3 y4 y5 y6 y7 y8 y9 y10, LeO (impl_AnalyzerOK.j3 k y0 y1 y2 y3 y4 y5 y6 y7 y8 y9 y10) (impl_AnalyzerOK.j3 (k + 1) y0 y1 y2 y3 y4 y5 y6 y7 y8 y9 y10))
 | 0 => ⟨fun _ _ _ _ _ _ _ _ r h => by simp [impl_AnalyzerOK.j0] at h, fun _ _ _ _ _ _ _ _ _ _ r h => by simp [impl_AnalyzerOK.l0] at h, fun _ _ _ _ _ _ _ _ _ _ r h => by simp [impl_AnalyzerOK.l1] at h, fun _ _ _ _ _ _ _ _ _ _ _ r h => by simp [impl_AnalyzerOK.j3] at h⟩
 | k + 1 => by
  obtain ⟨ih0, ih1, ih2, ih3⟩ := impl_AnalyzerOK.mono_l k
  refine ⟨?_, ?_, ?_, ?_⟩
  all_goals intros
  all_goals first | unfold impl_AnalyzerOK.j0 | unfold impl_AnalyzerOK.l0 | unfold impl_AnalyzerOK.l1 | unfold impl_AnalyzerOK.j3
  all_goals
   repeat' first
   | (with_reducible exact ih0 _ _ _ _ _ _ _ _)
   | (with_reducible exact ih1 _ _ _ _ _ _ _ _ _ _)
   | (with_reducible exact ih2 _ _ _ _ _ _ _ _ _ _)
   | (with_reducible exact ih3 _ _ _ _ _ _ _ _ _ _ _)
   | (with_reducible exact LeO.refl _)
   | (with_reducible exact LeO.none _)
   | (with_reducible refine LeO.ite ?_ ?_)
   | (with_reducible refine LeO.bind ?_ (fun _ => ?_))
theorem impl_AnalyzerOK.mono : ∀ a0 a1 a2 a3 a4 a5 a6 k, LeO (impl_AnalyzerOK.f k a0 a1 a2 a3 a4 a5 a6) (impl_AnalyzerOK.f (k + 1) a0 a1 a2 a3 a4 a5 a6) := by
 intro a0 a1 a2 a3 a4 a5 a6 k
 obtain ⟨ih0, ih1, ih2, ih3⟩ := impl_AnalyzerOK.mono_l k
 unfold impl_AnalyzerOK.f
 repeat' first
  | (with_reducible exact ih0 _ _ _ _ _ _ _ _)
  | (with_reducible exact ih1 _ _ _ _ _ _ _ _ _ _)
  | (with_reducible exact ih2 _ _ _ _ _ _ _ _ _ _)
  | (with_reducible exact ih3 _ _ _ _ _ _ _ _ _ _ _)
  | (with_reducible exact LeO.refl _)
  | (with_reducible exact LeO.none _)
  | (with_reducible refine LeO.ite ?_ ?_)
  | (with_reducible refine LeO.bind ?_ (fun _ => ?_))
set_option maxHeartbeats 8000000 in
set_option maxRecDepth 100000 in
theorem impl_AnalyzerOK.calls (k : Nat) (a0_0 : Bool) (a0_1 : Bool) (a0_2 : Bool) (A0_3 : Option Addr) (c0_3 : Nat) (l0_3 : List ByteArray) (A0_4 : Option Addr) (c0_4 : Nat) (l0_4 : List (S52)) (a0_5 : Int) (a0_6 : Int) (r : Bool) (w : World) (hr0_3 : Kd.C Kd.string w A0_3 l0_3.length l0_3) (hc0_3 : l0_3.length ≤ c0_3) (hr0_4 : Kd.C k52 w A0_4 l0_4.length l0_4) (hc0_4 : l0_4.length ≤ c0_4) (hT : TabW w) (h : impl_AnalyzerOK.f k a0_0 a0_1 a0_2 l0_3 l0_4 a0_5 a0_6 = some r) :
 Calls Tryd.prog 16 #[.agg #[.bool a0_0, .bool a0_1, .bool a0_2, .slice A0_3 l0_3.length c0_3, .slice A0_4 l0_4.length c0_4, .int .i64 a0_5, .int .i64 a0_6]] w fun e w' => e = .returned (.bool r) ∧ Below w.heap.size w w' := by
 have hu37 := Tryd.underlying37
 have hu52 := Tryd.underlying52
 have HR0_3 := Aside0.mk hr0_3
 have HC0_3 := Aside0.mk hc0_3
 clear hr0_3 hc0_3
 have HR0_4 := Aside0.mk hr0_4
 have HC0_4 := Aside0.mk hc0_4
 clear hr0_4 hc0_4
 have HB := Aside0.mk (Below.refl w.heap.size w)
 have HT := Aside0.mk hT
 clear hT
 have H := h
 unfold impl_AnalyzerOK.f at H
 clear h
 have HC2 := Aside0.mk H
 clear H
 go_enter Tryd.func16, Tryd.ntmps16
 go_upto_region 1 with (first | ((with_reducible refine gate_dst (N := 1) rfl ?_); (try (refine gate_guard (by rfl) ?_; dsimp only)); refine box_event (by rfl) (N := 1) (by rfl) (cs := #[.bool a0_0, .bool a0_1, .bool a0_2, .slice A0_3 l0_3.length c0_3, .slice A0_4 l0_4.length c0_4, .int .i64 a0_5, .int .i64 a0_6]) (t := 37) zgs ?_; intro gb228 hg w3 hbox hb; have BK228 := Aside0.mk (hbox); have GW228 := zge hg (below_size (zh HB)); have GE228 := zge hg (below_size (zh HB)); replace HB := Aside0.mk (below_step (zh HB) hb); clear hb hbox hg))
 (try simp only [Act.put, List.setIfInBounds_toArray, List.set_cons_zero, List.set_cons_succ])
 go_cut [16] (fun v16 wc => ∃ (kq : Nat) (x16_1 : Bool), v16 = .bool x16_1 ∧ Aside0 (impl_AnalyzerOK.j0 kq x16_1 a0_0 a0_1 a0_2 l0_3 l0_4 a0_5 a0_6 = some r) ∧ Aside0 (kq ≤ k) ∧ Aside0 (wc.heap[gb228]? = some (.cells #[.bool a0_0, .bool a0_1, .bool a0_2, (.slice A0_3 l0_3.length c0_3), (.slice A0_4 l0_4.length c0_4), .int .i64 a0_5, .int .i64 a0_6] 37 (0, 0))) ∧ Aside0 (Below w.heap.size w wc))
 case first =>
  have H := HC2.out
  clear HC2
  by_cases c4 : (l0_3.length : Int) > 64
  ·rw [if_pos c4] at H
   have c4b0 : decide (64 < (l0_3.length : Int)) = true := decide_eq_true c4
   have c4b1 : decide (64 < l0_3.length) = true := decide_eq_true (by omega)
   clear c4
   (first | rw [c4b0] | (simp only [i64_w, i32_w]; rw [c4b0]) | skip)
   have H' := Aside0.mk H
   clear H
   have hcz5_0 : w3.cell? ⟨gb228, 0, none⟩ = some (.bool a0_0) := (blk_cell BK228.out 0).trans rfl
   have hcz5_1 : w3.cell? ⟨gb228, 1, none⟩ = some (.bool a0_1) := (blk_cell BK228.out 1).trans rfl
   have hcz5_2 : w3.cell? ⟨gb228, 2, none⟩ = some (.bool a0_2) := (blk_cell BK228.out 2).trans rfl
   have hcz5_3 : w3.cell? ⟨gb228, 3, none⟩ = some (.slice A0_3 l0_3.length c0_3) := (blk_cell BK228.out 3).trans rfl
   have hcz5_4 : w3.cell? ⟨gb228, 4, none⟩ = some (.slice A0_4 l0_4.length c0_4) := (blk_cell BK228.out 4).trans rfl
   have hcz5_5 : w3.cell? ⟨gb228, 5, none⟩ = some (.int .i64 a0_5) := (blk_cell BK228.out 5).trans rfl
   have hcz5_6 : w3.cell? ⟨gb228, 6, none⟩ = some (.int .i64 a0_6) := (blk_cell BK228.out 6).trans rfl
   have hfz5_0 := blk_frozen BK228.out 0
   have hfz5_1 := blk_frozen BK228.out 1
   have hfz5_2 := blk_frozen BK228.out 2
   have hfz5_3 := blk_frozen BK228.out 3
   have hfz5_4 := blk_frozen BK228.out 4
   have hfz5_5 := blk_frozen BK228.out 5
   have hfz5_6 := blk_frozen BK228.out 6
   go_wp2
   go_meet
   case rel => exact ⟨_, (true), zrs, H', ⟨by first | omega | exact Nat.le_refl _⟩, ⟨zb BK228⟩, ⟨zg HB⟩⟩
  rw [if_neg c4] at H
  have c4b0 : decide (64 < (l0_3.length : Int)) = false := decide_eq_false c4
  have c4b1 : decide (64 < l0_3.length) = false := decide_eq_false (by omega)
  clear c4
  (first | rw [c4b0] | (simp only [i64_w, i32_w]; rw [c4b0]) | skip)
  have H' := Aside0.mk H
  clear H
  have hcz6_0 : w3.cell? ⟨gb228, 0, none⟩ = some (.bool a0_0) := (blk_cell BK228.out 0).trans rfl
  have hcz6_1 : w3.cell? ⟨gb228, 1, none⟩ = some (.bool a0_1) := (blk_cell BK228.out 1).trans rfl
  have hcz6_2 : w3.cell? ⟨gb228, 2, none⟩ = some (.bool a0_2) := (blk_cell BK228.out 2).trans rfl
  have hcz6_3 : w3.cell? ⟨gb228, 3, none⟩ = some (.slice A0_3 l0_3.length c0_3) := (blk_cell BK228.out 3).trans rfl
  have hcz6_4 : w3.cell? ⟨gb228, 4, none⟩ = some (.slice A0_4 l0_4.length c0_4) := (blk_cell BK228.out 4).trans rfl
  have hcz6_5 : w3.cell? ⟨gb228, 5, none⟩ = some (.int .i64 a0_5) := (blk_cell BK228.out 5).trans rfl
  have hcz6_6 : w3.cell? ⟨gb228, 6, none⟩ = some (.int .i64 a0_6) := (blk_cell BK228.out 6).trans rfl
  have hfz6_0 := blk_frozen BK228.out 0
  have hfz6_1 := blk_frozen BK228.out 1
  have hfz6_2 := blk_frozen BK228.out 2
  have hfz6_3 := blk_frozen BK228.out 3
  have hfz6_4 := blk_frozen BK228.out 4
  have hfz6_5 := blk_frozen BK228.out 5
  have hfz6_6 := blk_frozen BK228.out 6
  go_wp2
  go_meet
  case rel => exact ⟨_, (decide ((l0_4.length : Int) > 64)), zrs, H', ⟨by first | omega | exact Nat.le_refl _⟩, ⟨zb BK228⟩, ⟨zg HB⟩⟩
 case rest =>
  clear HC2
  obtain ⟨kq, x16_1, rfl, HA, HJ1, BK228, HB⟩ := hcut
  cases kq with
  | zero => exact absurd HA.out (by simp [impl_AnalyzerOK.j0])
  | succ kj1 =>
   have H := HA.out
   clear HA
   simp only [impl_AnalyzerOK.j0] at H
   by_cases c7 : x16_1 = true
   ·subst c7
    rw [if_pos rfl] at H
    obtain rfl := Option.some.inj H
    go_wp2
    go_ret
    exact ⟨zre, zg HB⟩
   replace c7 := Bool.eq_false_iff.mpr c7
   subst c7
   rw [if_neg (show ¬ (false = true) by decide)] at H
   have H' := Aside0.mk H
   clear H
   have hcz8_0 : wc.cell? ⟨gb228, 0, none⟩ = some (.bool a0_0) := (blk_cell BK228.out 0).trans rfl
   have hcz8_1 : wc.cell? ⟨gb228, 1, none⟩ = some (.bool a0_1) := (blk_cell BK228.out 1).trans rfl
   have hcz8_2 : wc.cell? ⟨gb228, 2, none⟩ = some (.bool a0_2) := (blk_cell BK228.out 2).trans rfl
   have hcz8_3 : wc.cell? ⟨gb228, 3, none⟩ = some (.slice A0_3 l0_3.length c0_3) := (blk_cell BK228.out 3).trans rfl
   have hcz8_4 : wc.cell? ⟨gb228, 4, none⟩ = some (.slice A0_4 l0_4.length c0_4) := (blk_cell BK228.out 4).trans rfl
   have hcz8_5 : wc.cell? ⟨gb228, 5, none⟩ = some (.int .i64 a0_5) := (blk_cell BK228.out 5).trans rfl
   have hcz8_6 : wc.cell? ⟨gb228, 6, none⟩ = some (.int .i64 a0_6) := (blk_cell BK228.out 6).trans rfl
   have hfz8_0 := blk_frozen BK228.out 0
   have hfz8_1 := blk_frozen BK228.out 1
   have hfz8_2 := blk_frozen BK228.out 2
   have hfz8_3 := blk_frozen BK228.out 3
   have hfz8_4 := blk_frozen BK228.out 4
   have hfz8_5 := blk_frozen BK228.out 5
   have hfz8_6 := blk_frozen BK228.out 6
   go_wp2
   go_loopg [20] kj1 (fun kq v20 w' => ∃ (x20_2 : Int), v20 = .int .i64 x20_2 ∧ Aside0 (impl_AnalyzerOK.l0 kq l0_3 (l0_3.length : Int) x20_2 a0_0 a0_1 a0_2 l0_3 l0_4 a0_5 a0_6 = some r) ∧ Aside0 (kq ≤ kj1) ∧ Aside0 (w'.heap[gb228]? = some (.cells #[.bool a0_0, .bool a0_1, .bool a0_2, (.slice A0_3 l0_3.length c0_3), (.slice A0_4 l0_4.length c0_4), .int .i64 a0_5, .int .i64 a0_6] 37 (0, 0))) ∧ Aside0 (Below w.heap.size w w'))
   case atStart => exact ⟨(0), zrs, H', ⟨Nat.le_refl _⟩, ⟨zb BK228⟩, ⟨zg HB⟩⟩
   case round =>
    clear H'
    try clear c7
    try clear hcz8_0 hcz8_1 hcz8_2 hcz8_3 hcz8_4 hcz8_5 hcz8_6
    try clear hfz8_0 hfz8_1 hfz8_2 hfz8_3 hfz8_4 hfz8_5 hfz8_6
    obtain ⟨x20_2, rfl, HA, HK2, BK228, HB⟩ := hrel
    cases gk with
    | zero => exact absurd HA.out (by simp [impl_AnalyzerOK.l0])
    | succ k2 =>
     have H := HA.out
     clear HA
     simp only [impl_AnalyzerOK.l0] at H
     by_cases c9 : x20_2 < (l0_3.length : Int)
     ·rw [if_pos c9] at H
      have c9b0 : decide (x20_2 < (l0_3.length : Int)) = true := decide_eq_true c9
      clear c9
      by_cases c10 : 0 ≤ x20_2
      rotate_left
      ·rw [if_neg c10] at H
       exact absurd H (by simp)
      rw [if_pos c10] at H
      have c10b0 : decide (0 ≤ x20_2) = true := decide_eq_true c10
      clear c10
      by_cases c11 : x20_2 < (l0_3.length : Int)
      rotate_left
      ·rw [if_neg c11] at H
       exact absurd H (by simp)
      rw [if_pos c11] at H
      have c11b0 : decide (x20_2 < (l0_3.length : Int)) = true := decide_eq_true c11
      clear c11
      replace H := Option.bind_eq_some_iff.mp H
      obtain ⟨t230, A120, H⟩ := H
      try dsimp only at H
      have A12 := Aside0.mk A120
      clear A120
      by_cases c13 : t230 = true
      rotate_left
      ·replace c13 := Bool.eq_false_iff.mpr c13
       subst c13
       rw [if_neg (show ¬ (false = true) by decide)] at H
       obtain rfl := Option.some.inj H
       have p229 : 0 ≤ (x20_2 : Int) := of_decide_eq_true zas
       have q229 : x20_2 < (l0_3.length : Int) := of_decide_eq_true zas
       obtain ⟨ad229, e229, hx229_0⟩ := Kd.at_string HR0_3.out x20_2 p229 q229
       cases e229
       replace hx229_0 := zx HB hx229_0
       replace p229 := eq_true p229
       replace q229 := eq_true q229
       go_wp2_with (first | ((with_reducible refine gate_callee (f := 23) rfl ?_); refine goesL_ (some 25) rfl rfl Tryd.func23 (by kernel_rfl) rfl #[.string (rdOf ByteArray.empty l0_3 x20_2)] rfl zar ?_; (with_reducible refine (impl_wordOK.calls (rdOf ByteArray.empty l0_3 x20_2) false _ ?side1 A12.out).mono ?_); (case side1 => exact TabW.below HT.out (zg HB)); rintro e w16 ⟨rfl, hb⟩; refine ⟨_, rfl, ?_⟩; replace BK228 := Aside0.mk (blk_below (zb BK228) hb); replace HB := Aside0.mk (below_step (zg HB) hb); (try clear hb); (try clear hb2); (try clear hk); (try clear hi)))
       go_ret
       exact ⟨zre, zg HB⟩
      subst c13
      rw [if_pos rfl] at H
      have H' := Aside0.mk H
      clear H
      have p229 : 0 ≤ (x20_2 : Int) := of_decide_eq_true zas
      have q229 : x20_2 < (l0_3.length : Int) := of_decide_eq_true zas
      obtain ⟨ad229, e229, hx229_0⟩ := Kd.at_string HR0_3.out x20_2 p229 q229
      cases e229
      replace hx229_0 := zx HB hx229_0
      replace p229 := eq_true p229
      replace q229 := eq_true q229
      go_wp2_with (first | ((with_reducible refine gate_callee (f := 23) rfl ?_); refine goesL_ (some 25) rfl rfl Tryd.func23 (by kernel_rfl) rfl #[.string (rdOf ByteArray.empty l0_3 x20_2)] rfl zar ?_; (with_reducible refine (impl_wordOK.calls (rdOf ByteArray.empty l0_3 x20_2) true _ ?side1 A12.out).mono ?_); (case side1 => exact TabW.below HT.out (zg HB)); rintro e w14 ⟨rfl, hb⟩; refine ⟨_, rfl, ?_⟩; replace BK228 := Aside0.mk (blk_below (zb BK228) hb); replace HB := Aside0.mk (below_step (zg HB) hb); (try clear hb); (try clear hb2); (try clear hk); (try clear hi)))
      go_roundg k2
      case measure => have := HJ1.out; have := HK2.out; omega
      case rel => exact ⟨(wrap64 (x20_2 + 1)), zrs, H', ⟨by have := HJ1.out; have := HK2.out; omega⟩, ⟨zb BK228⟩, ⟨zg HB⟩⟩
     rw [if_neg c9] at H
     have c9b0 : decide (x20_2 < (l0_3.length : Int)) = false := decide_eq_false c9
     clear c9
     have H' := Aside0.mk H
     clear H
     have hcz18_0 : wr.cell? ⟨gb228, 0, none⟩ = some (.bool a0_0) := (blk_cell BK228.out 0).trans rfl
     have hcz18_1 : wr.cell? ⟨gb228, 1, none⟩ = some (.bool a0_1) := (blk_cell BK228.out 1).trans rfl
     have hcz18_2 : wr.cell? ⟨gb228, 2, none⟩ = some (.bool a0_2) := (blk_cell BK228.out 2).trans rfl
     have hcz18_3 : wr.cell? ⟨gb228, 3, none⟩ = some (.slice A0_3 l0_3.length c0_3) := (blk_cell BK228.out 3).trans rfl
     have hcz18_4 : wr.cell? ⟨gb228, 4, none⟩ = some (.slice A0_4 l0_4.length c0_4) := (blk_cell BK228.out 4).trans rfl
     have hcz18_5 : wr.cell? ⟨gb228, 5, none⟩ = some (.int .i64 a0_5) := (blk_cell BK228.out 5).trans rfl
     have hcz18_6 : wr.cell? ⟨gb228, 6, none⟩ = some (.int .i64 a0_6) := (blk_cell BK228.out 6).trans rfl
     have hfz18_0 := blk_frozen BK228.out 0
     have hfz18_1 := blk_frozen BK228.out 1
     have hfz18_2 := blk_frozen BK228.out 2
     have hfz18_3 := blk_frozen BK228.out 3
     have hfz18_4 := blk_frozen BK228.out 4
     have hfz18_5 := blk_frozen BK228.out 5
     have hfz18_6 := blk_frozen BK228.out 6
     go_wp2
     go_loopg [31] k2 (fun kq v31 w' => ∃ (x31_3 : Int), v31 = .int .i64 x31_3 ∧ Aside0 (impl_AnalyzerOK.l1 kq l0_4 (l0_4.length : Int) x31_3 a0_0 a0_1 a0_2 l0_3 l0_4 a0_5 a0_6 = some r) ∧ Aside0 (kq ≤ k2) ∧ Aside0 (w'.heap[gb228]? = some (.cells #[.bool a0_0, .bool a0_1, .bool a0_2, (.slice A0_3 l0_3.length c0_3), (.slice A0_4 l0_4.length c0_4), .int .i64 a0_5, .int .i64 a0_6] 37 (0, 0))) ∧ Aside0 (Below w.heap.size w w'))
     case atStart => exact ⟨(0), zrs, H', ⟨Nat.le_refl _⟩, ⟨zb BK228⟩, ⟨zg HB⟩⟩
     case round =>
      clear H'
      try clear c7
      try clear c9
      try clear c9b0
      try clear hcz18_0 hcz18_1 hcz18_2 hcz18_3 hcz18_4 hcz18_5 hcz18_6
      try clear hcz8_0 hcz8_1 hcz8_2 hcz8_3 hcz8_4 hcz8_5 hcz8_6
      try clear hfz18_0 hfz18_1 hfz18_2 hfz18_3 hfz18_4 hfz18_5 hfz18_6
      try clear hfz8_0 hfz8_1 hfz8_2 hfz8_3 hfz8_4 hfz8_5 hfz8_6
      obtain ⟨x31_3, rfl, HA, HK3, BK228, HB⟩ := hrel
      cases gk with
      | zero => exact absurd HA.out (by simp [impl_AnalyzerOK.l1])
      | succ k3 =>
       have H := HA.out
       clear HA
       simp only [impl_AnalyzerOK.l1] at H
       by_cases c19 : x31_3 < (l0_4.length : Int)
       rotate_left
       ·rw [if_neg c19] at H
        have c19b0 : decide (x31_3 < (l0_4.length : Int)) = false := decide_eq_false c19
        clear c19
        by_cases c50 : a0_5 = 0
        rotate_left
        ·rw [if_neg c50] at H
         have c50b0 : (a0_5 == 0) = false := beq_eq_false_iff_ne.mpr c50
         have c50b1 : (a0_5 != 0) = true := bne_iff_ne.mpr c50
         replace H := Option.bind_eq_some_iff.mp H
         obtain ⟨t232, A550, H⟩ := H
         try dsimp only at H
         have A55 := Aside0.mk A550
         clear A550
         obtain rfl := Option.some.inj H
         have hcz56_0 : wr.cell? ⟨gb228, 0, none⟩ = some (.bool a0_0) := (blk_cell BK228.out 0).trans rfl
         have hcz56_1 : wr.cell? ⟨gb228, 1, none⟩ = some (.bool a0_1) := (blk_cell BK228.out 1).trans rfl
         have hcz56_2 : wr.cell? ⟨gb228, 2, none⟩ = some (.bool a0_2) := (blk_cell BK228.out 2).trans rfl
         have hcz56_3 : wr.cell? ⟨gb228, 3, none⟩ = some (.slice A0_3 l0_3.length c0_3) := (blk_cell BK228.out 3).trans rfl
         have hcz56_4 : wr.cell? ⟨gb228, 4, none⟩ = some (.slice A0_4 l0_4.length c0_4) := (blk_cell BK228.out 4).trans rfl
         have hcz56_5 : wr.cell? ⟨gb228, 5, none⟩ = some (.int .i64 a0_5) := (blk_cell BK228.out 5).trans rfl
         have hcz56_6 : wr.cell? ⟨gb228, 6, none⟩ = some (.int .i64 a0_6) := (blk_cell BK228.out 6).trans rfl
         have hfz56_0 := blk_frozen BK228.out 0
         have hfz56_1 := blk_frozen BK228.out 1
         have hfz56_2 := blk_frozen BK228.out 2
         have hfz56_3 := blk_frozen BK228.out 3
         have hfz56_4 := blk_frozen BK228.out 4
         have hfz56_5 := blk_frozen BK228.out 5
         have hfz56_6 := blk_frozen BK228.out 6
         go_wp2_with (first | (go_at_call 24; (with_reducible refine (impl_gramBounds.calls a0_5 a0_6 t232 _ A55.out).mono ?_); rintro e w' ⟨rfl, ⟨nd, rfl⟩⟩))
         go_ret
         exact ⟨zre, zg HB⟩

        rw [if_pos c50] at H
        have c50b0 : (a0_5 == 0) = true := beq_iff_eq.mpr c50
        have c50b1 : (a0_5 != 0) = false := bne_eq_false_iff_eq.mpr c50
        clear c50
        by_cases c51 : a0_6 = 0
        ·rw [if_pos c51] at H
         have c51b0 : (a0_6 == 0) = true := beq_iff_eq.mpr c51
         have c51b1 : (a0_6 != 0) = false := bne_eq_false_iff_eq.mpr c51
         clear c51
         obtain rfl := Option.some.inj H
         have hcz52_0 : wr.cell? ⟨gb228, 0, none⟩ = some (.bool a0_0) := (blk_cell BK228.out 0).trans rfl
         have hcz52_1 : wr.cell? ⟨gb228, 1, none⟩ = some (.bool a0_1) := (blk_cell BK228.out 1).trans rfl
         have hcz52_2 : wr.cell? ⟨gb228, 2, none⟩ = some (.bool a0_2) := (blk_cell BK228.out 2).trans rfl
         have hcz52_3 : wr.cell? ⟨gb228, 3, none⟩ = some (.slice A0_3 l0_3.length c0_3) := (blk_cell BK228.out 3).trans rfl
         have hcz52_4 : wr.cell? ⟨gb228, 4, none⟩ = some (.slice A0_4 l0_4.length c0_4) := (blk_cell BK228.out 4).trans rfl
         have hcz52_5 : wr.cell? ⟨gb228, 5, none⟩ = some (.int .i64 a0_5) := (blk_cell BK228.out 5).trans rfl
         have hcz52_6 : wr.cell? ⟨gb228, 6, none⟩ = some (.int .i64 a0_6) := (blk_cell BK228.out 6).trans rfl
         have hfz52_0 := blk_frozen BK228.out 0
         have hfz52_1 := blk_frozen BK228.out 1
         have hfz52_2 := blk_frozen BK228.out 2
         have hfz52_3 := blk_frozen BK228.out 3
         have hfz52_4 := blk_frozen BK228.out 4
         have hfz52_5 := blk_frozen BK228.out 5
         have hfz52_6 := blk_frozen BK228.out 6
         go_wp2
         go_ret
         exact ⟨zre, zg HB⟩
        rw [if_neg c51] at H
        have c51b0 : (a0_6 == 0) = false := beq_eq_false_iff_ne.mpr c51
        have c51b1 : (a0_6 != 0) = true := bne_iff_ne.mpr c51
        replace H := Option.bind_eq_some_iff.mp H
        obtain ⟨t231, A530, H⟩ := H
        try dsimp only at H
        have A53 := Aside0.mk A530
        clear A530
        obtain rfl := Option.some.inj H
        have hcz54_0 : wr.cell? ⟨gb228, 0, none⟩ = some (.bool a0_0) := (blk_cell BK228.out 0).trans rfl
        have hcz54_1 : wr.cell? ⟨gb228, 1, none⟩ = some (.bool a0_1) := (blk_cell BK228.out 1).trans rfl
        have hcz54_2 : wr.cell? ⟨gb228, 2, none⟩ = some (.bool a0_2) := (blk_cell BK228.out 2).trans rfl
        have hcz54_3 : wr.cell? ⟨gb228, 3, none⟩ = some (.slice A0_3 l0_3.length c0_3) := (blk_cell BK228.out 3).trans rfl
        have hcz54_4 : wr.cell? ⟨gb228, 4, none⟩ = some (.slice A0_4 l0_4.length c0_4) := (blk_cell BK228.out 4).trans rfl
        have hcz54_5 : wr.cell? ⟨gb228, 5, none⟩ = some (.int .i64 a0_5) := (blk_cell BK228.out 5).trans rfl
        have hcz54_6 : wr.cell? ⟨gb228, 6, none⟩ = some (.int .i64 a0_6) := (blk_cell BK228.out 6).trans rfl
        have hfz54_0 := blk_frozen BK228.out 0
        have hfz54_1 := blk_frozen BK228.out 1
        have hfz54_2 := blk_frozen BK228.out 2
        have hfz54_3 := blk_frozen BK228.out 3
        have hfz54_4 := blk_frozen BK228.out 4
        have hfz54_5 := blk_frozen BK228.out 5
        have hfz54_6 := blk_frozen BK228.out 6
        go_wp2_with (first | (go_at_call 24; (with_reducible refine (impl_gramBounds.calls a0_5 a0_6 t231 _ A53.out).mono ?_); rintro e w' ⟨rfl, ⟨nd, rfl⟩⟩))
        go_ret
        exact ⟨zre, zg HB⟩
       rw [if_pos c19] at H
       have c19b0 : decide (x31_3 < (l0_4.length : Int)) = true := decide_eq_true c19
       clear c19
       by_cases c20 : 0 ≤ x31_3
       rotate_left
       ·rw [if_neg c20] at H
        exact absurd H (by simp)
       rw [if_pos c20] at H
       have c20b0 : decide (0 ≤ x31_3) = true := decide_eq_true c20
       clear c20
       by_cases c21 : x31_3 < (l0_4.length : Int)
       rotate_left
       ·rw [if_neg c21] at H
        exact absurd H (by simp)
       rw [if_pos c21] at H
       have c21b0 : decide (x31_3 < (l0_4.length : Int)) = true := decide_eq_true c21
       clear c21
       have HC22 := Aside0.mk H
       clear H
       have p233 : 0 ≤ (x31_3 : Int) := of_decide_eq_true zas
       have q233 : x31_3 < (l0_4.length : Int) := of_decide_eq_true zas
       obtain ⟨ad233, e233, hx233_0, hx233_1⟩ := at_T52 HR0_4.out x31_3 p233 q233
       cases e233
       replace hx233_0 := zx HB hx233_0
       replace hx233_1 := zx HB hx233_1
       replace p233 := eq_true p233
       replace q233 := eq_true q233
       go_upto_region 12 with (first | ((with_reducible refine gate_dst (N := 6) rfl ?_); (try (refine gate_guard (by rfl) ?_; dsimp only)); refine box_event (by rfl) (N := 6) (by rfl) (cs := #[.string (⟨#[]⟩ : ByteArray), .string (⟨#[]⟩ : ByteArray)]) (t := 52) zgs ?_; intro gb234 hg w23 hbox hb; have BK234 := Aside0.mk (hbox); have GW234 := zge hg (below_size (zg HB)); have GE234 := zge hg (below_size (zg HB)); replace HB := Aside0.mk (below_step (zg HB) hb); have NB228_234 := znl hg (blk_lt (zb BK228)); have NB234_228 := zng hg (blk_lt (zb BK228)); replace BK228 := Aside0.mk (blk_below (zb BK228) hb); clear hb hbox hg; have hnb24 := NB234_228.out; have hnc24 := NB228_234.out; obtain ⟨⟨hcz25_0, hcz25_1⟩, hfz25_0, hfz25_1⟩ := zc2 BK234))
       (try simp only [Act.put, List.setIfInBounds_toArray, List.set_cons_zero, List.set_cons_succ])
       go_cut [51] (fun v51 wc => ∃ (kq : Nat) (x51_21 : Bool), v51 = .bool x51_21 ∧ Aside0 (impl_AnalyzerOK.j3 kq l0_4 (l0_4.length : Int) x31_3 x51_21 a0_0 a0_1 a0_2 l0_3 l0_4 a0_5 a0_6 = some r) ∧ Aside0 (kq ≤ k3) ∧ Aside0 (wc.heap[gb228]? = some (.cells #[.bool a0_0, .bool a0_1, .bool a0_2, (.slice A0_3 l0_3.length c0_3), (.slice (some ad233) l0_4.length c0_4), .int .i64 a0_5, .int .i64 a0_6] 37 (0, 0))) ∧ Aside0 (wc.heap[gb234]? = some (.cells #[.string ((rd_T52 l0_4 x31_3).f0), .string ((rd_T52 l0_4 x31_3).f1)] 52 (0, 0))) ∧ Aside0 (Below w.heap.size w wc))
       case first =>
        have H := HC22.out
        clear HC22
        replace H := Option.bind_eq_some_iff.mp H
        obtain ⟨t235, A260, H⟩ := H
        try dsimp only at H
        have A26 := Aside0.mk A260
        clear A260
        by_cases c27 : t235 = true
        rotate_left
        ·replace c27 := Bool.eq_false_iff.mpr c27
         subst c27
         rw [if_neg (show ¬ (false = true) by decide)] at H
         have H' := Aside0.mk H
         clear H
         have hnb45 := NB234_228.out
         have hnc45 := NB228_234.out
         obtain ⟨⟨hcz46_0, hcz46_1⟩, hfz46_0, hfz46_1⟩ := zc2 BK234
         go_wp2_with (first | ((with_reducible refine gate_callee (f := 23) rfl ?_); refine goesL_ (some 37) rfl rfl Tryd.func23 (by kernel_rfl) rfl #[.string ((rd_T52 l0_4 x31_3).f0)] rfl zar ?_; (with_reducible refine (impl_wordOK.calls ((rd_T52 l0_4 x31_3).f0) false _ ?side1 A26.out).mono ?_); (case side1 => exact TabW.below HT.out (zg HB)); rintro e w47 ⟨rfl, hb⟩; refine ⟨_, rfl, ?_⟩; replace BK228 := Aside0.mk (blk_below (g := gb228) (o := .cells #[.bool a0_0, .bool a0_1, .bool a0_2, .slice A0_3 l0_3.length c0_3, .slice (some ad233) l0_4.length c0_4, .int .i64 a0_5, .int .i64 a0_6] 37 (0, 0)) (zp BK228) hb); replace BK234 := Aside0.mk (blk_below (g := gb234) (o := .cells #[.string ((rd_T52 l0_4 x31_3).f0), .string ((rd_T52 l0_4 x31_3).f1)] 52 (0, 0)) (zp BK234) hb); replace HB := Aside0.mk (below_step (zg HB) hb); (try clear hb); (try clear hb2); (try clear hk); (try clear hi)))
         go_meet
         case rel => exact ⟨_, (true), zrs, H', ⟨by have := HJ1.out; have := HK2.out; have := HK3.out; first | omega | exact Nat.le_refl _⟩, ⟨zb BK228⟩, ⟨zb BK234⟩, ⟨zg HB⟩⟩
        subst c27
        rw [if_pos rfl] at H
        replace H := Option.bind_eq_some_iff.mp H
        obtain ⟨t236, A280, H⟩ := H
        try dsimp only at H
        have A28 := Aside0.mk A280
        clear A280
        by_cases c29 : t236 = true
        rotate_left
        ·replace c29 := Bool.eq_false_iff.mpr c29
         subst c29
         rw [if_neg (show ¬ (false = true) by decide)] at H
         have H' := Aside0.mk H
         clear H
         have hnb38 := NB234_228.out
         have hnc38 := NB228_234.out
         obtain ⟨⟨hcz39_0, hcz39_1⟩, hfz39_0, hfz39_1⟩ := zc2 BK234
         go_wp2_with (first | ((with_reducible refine gate_callee (f := 23) rfl ?_); refine goesL_ (some 37) rfl rfl Tryd.func23 (by kernel_rfl) rfl #[.string ((rd_T52 l0_4 x31_3).f0)] rfl zar ?_; (with_reducible refine (impl_wordOK.calls ((rd_T52 l0_4 x31_3).f0) true _ ?side1 A26.out).mono ?_); (case side1 => exact TabW.below HT.out (zg HB)); rintro e w40 ⟨rfl, hb⟩; refine ⟨_, rfl, ?_⟩; replace BK228 := Aside0.mk (blk_below (g := gb228) (o := .cells #[.bool a0_0, .bool a0_1, .bool a0_2, .slice A0_3 l0_3.length c0_3, .slice (some ad233) l0_4.length c0_4, .int .i64 a0_5, .int .i64 a0_6] 37 (0, 0)) (zp BK228) hb); replace BK234 := Aside0.mk (blk_below (g := gb234) (o := .cells #[.string ((rd_T52 l0_4 x31_3).f0), .string ((rd_T52 l0_4 x31_3).f1)] 52 (0, 0)) (zp BK234) hb); replace HB := Aside0.mk (below_step (zg HB) hb); (try clear hb); (try clear hb2); (try clear hk); (try clear hi); obtain ⟨⟨hcz42_0, hcz42_1⟩, hfz42_0, hfz42_1⟩ := zc2 BK234) | (go_at_call 23; (with_reducible refine (impl_wordOK.calls ((rd_T52 l0_4 x31_3).f1) false _ ?side1 A28.out).mono ?_); (case side1 => exact TabW.below HT.out (zg HB)); rintro e w43 ⟨rfl, hb⟩; replace BK228 := Aside0.mk (blk_below (zb BK228) hb); replace BK234 := Aside0.mk (blk_below (zb BK234) hb); replace HB := Aside0.mk (below_step (zg HB) hb); (try clear hb); (try clear hb2); (try clear hk); (try clear hi)))
         go_meet
         case rel => exact ⟨_, (true), zrs, H', ⟨by have := HJ1.out; have := HK2.out; have := HK3.out; first | omega | exact Nat.le_refl _⟩, ⟨zb BK228⟩, ⟨zb BK234⟩, ⟨zg HB⟩⟩
        subst c29
        rw [if_pos rfl] at H
        have H' := Aside0.mk H
        clear H
        have hnb30 := NB234_228.out
        have hnc30 := NB228_234.out
        obtain ⟨⟨hcz31_0, hcz31_1⟩, hfz31_0, hfz31_1⟩ := zc2 BK234
        go_wp2_with (first | ((with_reducible refine gate_callee (f := 23) rfl ?_); refine goesL_ (some 37) rfl rfl Tryd.func23 (by kernel_rfl) rfl #[.string ((rd_T52 l0_4 x31_3).f0)] rfl zar ?_; (with_reducible refine (impl_wordOK.calls ((rd_T52 l0_4 x31_3).f0) true _ ?side1 A26.out).mono ?_); (case side1 => exact TabW.below HT.out (zg HB)); rintro e w32 ⟨rfl, hb⟩; refine ⟨_, rfl, ?_⟩; replace BK228 := Aside0.mk (blk_below (g := gb228) (o := .cells #[.bool a0_0, .bool a0_1, .bool a0_2, .slice A0_3 l0_3.length c0_3, .slice (some ad233) l0_4.length c0_4, .int .i64 a0_5, .int .i64 a0_6] 37 (0, 0)) (zp BK228) hb); replace BK234 := Aside0.mk (blk_below (g := gb234) (o := .cells #[.string ((rd_T52 l0_4 x31_3).f0), .string ((rd_T52 l0_4 x31_3).f1)] 52 (0, 0)) (zp BK234) hb); replace HB := Aside0.mk (below_step (zg HB) hb); (try clear hb); (try clear hb2); (try clear hk); (try clear hi); obtain ⟨⟨hcz34_0, hcz34_1⟩, hfz34_0, hfz34_1⟩ := zc2 BK234) | (go_at_call 23; (with_reducible refine (impl_wordOK.calls ((rd_T52 l0_4 x31_3).f1) true _ ?side1 A28.out).mono ?_); (case side1 => exact TabW.below HT.out (zg HB)); rintro e w35 ⟨rfl, hb⟩; replace BK228 := Aside0.mk (blk_below (zb BK228) hb); replace BK234 := Aside0.mk (blk_below (zb BK234) hb); replace HB := Aside0.mk (below_step (zg HB) hb); (try clear hb); (try clear hb2); (try clear hk); (try clear hi); obtain ⟨⟨hcz37_0, hcz37_1⟩, hfz37_0, hfz37_1⟩ := zc2 BK234))
        go_meet
        case rel => exact ⟨_, ((((rd_T52 l0_4 x31_3).f0).toList == ((rd_T52 l0_4 x31_3).f1).toList)), zrs, H', ⟨by have := HJ1.out; have := HK2.out; have := HK3.out; first | omega | exact Nat.le_refl _⟩, ⟨zb BK228⟩, ⟨zb BK234⟩, ⟨zg HB⟩⟩
       case rest =>
        clear HC22
        try clear c7
        try clear c9
        try clear c9b0
        try clear c19
        try clear c19b0
        try clear c20
        try clear c20b0
        try clear c21
        try clear c21b0
        try clear hcz18_0 hcz18_1 hcz18_2 hcz18_3 hcz18_4 hcz18_5 hcz18_6
        try clear hcz25_0 hcz25_1
        try clear hcz8_0 hcz8_1 hcz8_2 hcz8_3 hcz8_4 hcz8_5 hcz8_6
        try clear hfz18_0 hfz18_1 hfz18_2 hfz18_3 hfz18_4 hfz18_5 hfz18_6
        try clear hfz25_0 hfz25_1
        try clear hfz8_0 hfz8_1 hfz8_2 hfz8_3 hfz8_4 hfz8_5 hfz8_6
        try clear hx233_0
        try clear hx233_1
        try clear p233
        try clear q233
        obtain ⟨kq, x51_21, rfl, HA, HJ21, BK228, BK234, HB⟩ := hcut
        cases kq with
        | zero => exact absurd HA.out (by simp [impl_AnalyzerOK.j3])
        | succ kj21 =>
         have H := HA.out
         clear HA
         simp only [impl_AnalyzerOK.j3] at H
         by_cases c49 : x51_21 = true
         ·subst c49
          rw [if_pos rfl] at H
          obtain rfl := Option.some.inj H
          go_wp2
          go_ret
          exact ⟨zre, zg HB⟩
         replace c49 := Bool.eq_false_iff.mpr c49
         subst c49
         rw [if_neg (show ¬ (false = true) by decide)] at H
         have H' := Aside0.mk H
         clear H
         go_wp2
         go_roundg kj21
         case measure => have := HJ1.out; have := HK2.out; have := HK3.out; have := HJ21.out; omega
         case rel => exact ⟨(wrap64 (x31_3 + 1)), zrs, H', ⟨by have := HJ1.out; have := HK2.out; have := HK3.out; have := HJ21.out; omega⟩, ⟨zb BK228⟩, ⟨zg HB⟩⟩
end Go.Proofs.YtmbgncgcddjomaaDoor.XFnExactSchemaOK
