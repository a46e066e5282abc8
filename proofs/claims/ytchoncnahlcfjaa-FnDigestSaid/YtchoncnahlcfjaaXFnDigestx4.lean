-- A text of this session: written by its own program (wip/x/xprint.py), which runs the kit's printer with contracts of its own.
import Derived.Test.YtchoncnahlcfjaaXFnDigestx0
import Derived.Test.YtchoncnahlcfjaaXFnDigestx2
namespace Go.Proofs.Ytchoncnahlcfjaa.XFnDigest
open Go.RowKit Go.Proofs.YtchoncnahlcfjaaW.PrintWords Go.Proofs.YtchoncnahlcfjaaW.PrintLast Go.Proofs.YtchoncnahlcfjaaW.PrintMore
attribute [local go_sem] max2_int min2_int max_two min_two max_three min_three max_four min_four   -- for this text's walks alone
set_option linter.unusedVariables false
set_option linter.unusedSimpArgs false

/-! ### impl_DigestOK: function 61 -/
mutual
def impl_DigestOK.j0 : Nat → Bool → Int → Int → Int → List Int → Option (Bool)
  | 0, _, _, _, _, _ => none
  | k + 1, x40, x170000, x170001, x170002, x170003 => if x40 = true then (some false) else (impl_DigestOK.l0 k x170003 (x170003.length : Int) 0 x170000 x170001 x170002 x170003)
def impl_DigestOK.l0 : Nat → List Int → Int → Int → Int → Int → Int → List Int → Option (Bool)
  | 0, _, _, _, _, _, _, _ => none
  | k + 1, x42, x43, x44, x170000, x170001, x170002, x170003 => if x44 < x43 then (if 0 ≤ x44 then (if x44 < (x42.length : Int) then ((impl_oOk.f (rd x42 x44)).bind fun t171 => (if t171 = true then (if x44 > 0 then (if 0 ≤ (wrap64 (x44 - 1)) then (if (wrap64 (x44 - 1)) < (x170003.length : Int) then (if (rd x42 x44) < (rd x170003 (wrap64 (x44 - 1))) then (some false) else (impl_DigestOK.l0 k x42 x43 (wrap64 (x44 + 1)) x170000 x170001 x170002 x170003)) else (none)) else (none)) else (impl_DigestOK.l0 k x42 x43 (wrap64 (x44 + 1)) x170000 x170001 x170002 x170003)) else (some false))) else (none)) else (none)) else (if x170000 = 0 then (none) else (if (Int.tmod x170002 x170000) > 0 then (if (x170003.length : Int) ≤ x170002 then (if (x170003.length : Int) ≥ (wrap64 ((wrap64 (Int.tdiv x170002 x170000)) + 1)) then (some (decide ((x170003.length : Int) ≤ (wrap64 (Int.tdiv (wrap64 (x170002 + (wrap64 (x170001 * (wrap64 (x170000 - 1)))))) x170000))))) else (some false)) else (some false)) else (if (x170003.length : Int) ≤ x170002 then (if (x170003.length : Int) ≥ (wrap64 (Int.tdiv x170002 x170000)) then (some (decide ((x170003.length : Int) ≤ (wrap64 (Int.tdiv (wrap64 (x170002 + (wrap64 (x170001 * (wrap64 (x170000 - 1)))))) x170000))))) else (some false)) else (some false))))
end
def impl_DigestOK.f (k : Nat) (a0_0 : Int) (a0_1 : Int) (a0_2 : Int) (l0_3 : List Int) : Option (Bool) := if a0_0 < 1 then (impl_DigestOK.j0 k true a0_0 a0_1 a0_2 l0_3) else (if a0_0 > 4096 then (impl_DigestOK.j0 k true a0_0 a0_1 a0_2 l0_3) else (if a0_1 < 1 then (impl_DigestOK.j0 k true a0_0 a0_1 a0_2 l0_3) else (if a0_1 > 4096 then (impl_DigestOK.j0 k true a0_0 a0_1 a0_2 l0_3) else (if a0_2 < 0 then (impl_DigestOK.j0 k true a0_0 a0_1 a0_2 l0_3) else (if a0_2 > 4611686018427387903 then (impl_DigestOK.j0 k true a0_0 a0_1 a0_2 l0_3) else (impl_DigestOK.j0 k (decide ((l0_3.length : Int) > 512)) a0_0 a0_1 a0_2 l0_3))))))
theorem impl_DigestOK.mono_l : ∀ k, (∀ y0 y1 y2 y3 y4, LeO (impl_DigestOK.j0 k y0 y1 y2 y3 y4) (impl_DigestOK.j0 (k + 1) y0 y1 y2 y3 y4)) ∧ (∀ y0 y1 y2 y3 y4 y5 y6, LeO (impl_DigestOK.l0 k y0 y1 y2 y3 y4 y5 y6) (impl_DigestOK.l0 (k + 1) y0 y1 y2 y3 y4 y5 y6))
  | 0 => ⟨fun _ _ _ _ _ r h => by simp [impl_DigestOK.j0] at h, fun _ _ _ _ _ _ _ r h => by simp [impl_DigestOK.l0] at h⟩
  | k + 1 => by
    obtain ⟨ih0, ih1⟩ := impl_DigestOK.mono_l k
    refine ⟨?_, ?_⟩
    · intro y0 y1 y2 y3 y4
      unfold impl_DigestOK.j0
      repeat' first
      | (with_reducible exact ih0 _ _ _ _ _)
      | (with_reducible exact ih1 _ _ _ _ _ _ _)
      | (with_reducible exact LeO.refl _)
      | (with_reducible exact LeO.none _)
      | (with_reducible refine LeO.ite ?_ ?_)
      | (with_reducible refine LeO.bind ?_ (fun _ => ?_))
      | exact ih0 _ _ _ _ _
      | exact ih1 _ _ _ _ _ _ _
      | exact LeO.none _
      | refine LeO.ite ?_ ?_
      | refine LeO.bind ?_ (fun _ => ?_)
    · intro y0 y1 y2 y3 y4 y5 y6
      unfold impl_DigestOK.l0
      repeat' first
      | (with_reducible exact ih0 _ _ _ _ _)
      | (with_reducible exact ih1 _ _ _ _ _ _ _)
      | (with_reducible exact LeO.refl _)
      | (with_reducible exact LeO.none _)
      | (with_reducible refine LeO.ite ?_ ?_)
      | (with_reducible refine LeO.bind ?_ (fun _ => ?_))
      | exact ih0 _ _ _ _ _
      | exact ih1 _ _ _ _ _ _ _
      | exact LeO.none _
      | refine LeO.ite ?_ ?_
      | refine LeO.bind ?_ (fun _ => ?_)
theorem impl_DigestOK.mono : ∀ a0 a1 a2 a3 k, LeO (impl_DigestOK.f k a0 a1 a2 a3) (impl_DigestOK.f (k + 1) a0 a1 a2 a3) := by
  intro a0 a1 a2 a3 k
  obtain ⟨ih0, ih1⟩ := impl_DigestOK.mono_l k
  unfold impl_DigestOK.f
  repeat' first
      | (with_reducible exact ih0 _ _ _ _ _)
      | (with_reducible exact ih1 _ _ _ _ _ _ _)
      | (with_reducible exact LeO.refl _)
      | (with_reducible exact LeO.none _)
      | (with_reducible refine LeO.ite ?_ ?_)
      | (with_reducible refine LeO.bind ?_ (fun _ => ?_))
      | exact ih0 _ _ _ _ _
      | exact ih1 _ _ _ _ _ _ _
      | exact LeO.none _
      | refine LeO.ite ?_ ?_
      | refine LeO.bind ?_ (fun _ => ?_)
set_option maxHeartbeats 8000000 in
set_option maxRecDepth 100000 in
theorem impl_DigestOK.calls (k : Nat) (a0_0 : Int) (a0_1 : Int) (a0_2 : Int) (A0_3 : Option Addr) (c0_3 : Nat) (l0_3 : List Int) (r : Bool) (w : World) (hr0_3 : Kd.C (Kd.int .i64) w A0_3 l0_3.length l0_3) (hc0_3 : l0_3.length ≤ c0_3) (h : impl_DigestOK.f k a0_0 a0_1 a0_2 l0_3 = some r) :
    Calls Try.prog 61 #[.agg #[.int .i64 a0_0, .int .i64 a0_1, .int .i64 a0_2, .slice A0_3 l0_3.length c0_3]] w fun e w' => e = .returned (.bool r) ∧ Below w.heap.size w w' := by
  have hu37 := Try.underlying37
  have HR0_3 := Aside0.mk hr0_3
  have HC0_3 := Aside0.mk hc0_3
  clear hr0_3 hc0_3
  have HB := Aside0.mk (Below.refl w.heap.size w)
  have H : (if a0_0 < 1 then (impl_DigestOK.j0 k true a0_0 a0_1 a0_2 l0_3) else (if a0_0 > 4096 then (impl_DigestOK.j0 k true a0_0 a0_1 a0_2 l0_3) else (if a0_1 < 1 then (impl_DigestOK.j0 k true a0_0 a0_1 a0_2 l0_3) else (if a0_1 > 4096 then (impl_DigestOK.j0 k true a0_0 a0_1 a0_2 l0_3) else (if a0_2 < 0 then (impl_DigestOK.j0 k true a0_0 a0_1 a0_2 l0_3) else (if a0_2 > 4611686018427387903 then (impl_DigestOK.j0 k true a0_0 a0_1 a0_2 l0_3) else (impl_DigestOK.j0 k (decide ((l0_3.length : Int) > 512)) a0_0 a0_1 a0_2 l0_3))))))) = some r := h
  clear h
  have HC2 := Aside0.mk H
  clear H
  go_enter Try.func61, Try.ntmps61
  go_upto_region 1 with (first | ((with_reducible refine gate_dst (N := 1) rfl ?_); (try (refine gate_guard (by rfl) ?_; dsimp only)); refine box_event ?hg (N := 1) ?hd (cs := #[.int .i64 a0_0, .int .i64 a0_1, .int .i64 a0_2, .slice A0_3 l0_3.length c0_3]) (t := 37) ?hr ?_; (case hd => rfl); (case hg => rfl); (case hr => first | (go_simp; done) | (go_simp; rfl)); intro gb169 hg w3 hbox hb; have n0_ := Aside0.mk (below_step (zh HB) hb); have n1_ := Aside0.mk (hbox); have n2_ := Aside0.mk ((by rw [hg]; exact (below_size (zh HB)) : w.heap.size ≤ gb169)); have n3_ := Aside0.mk ((by rw [hg]; exact (below_size (zh HB)) : w.heap.size ≤ gb169)); clear HB; have HB := n0_; have BK169 := n1_; have GW169 := n2_; have GE169 := n3_; clear n0_ n1_ n2_ n3_; clear hb hbox hg))
  (try simp only [Act.put, List.setIfInBounds_toArray, List.set_cons_zero, List.set_cons_succ])
  go_cut [40] (fun v40 wc => ∃ (kq : Nat) (x40_1 : Bool), v40 = .bool x40_1 ∧ Aside0 (impl_DigestOK.j0 kq x40_1 a0_0 a0_1 a0_2 l0_3 = some r) ∧ Aside0 (kq ≤ k) ∧ Aside0 (wc.heap[gb169]? = some (.cells #[.int .i64 a0_0, .int .i64 a0_1, .int .i64 a0_2, (.slice A0_3 l0_3.length c0_3)] 37 (0, 0))) ∧ Aside0 (Below w.heap.size w wc))
  case first =>
    have H := HC2.out
    clear HC2
    by_cases c4 : a0_0 < 1
    · rw [if_pos c4] at H
      have c4b0 : decide (a0_0 < 1) = true := decide_eq_true c4
      clear c4
      (first | rw [c4b0] | (simp only [i64_w, i32_w]; rw [c4b0]) | skip)
      have H' := Aside0.mk H
      clear H
      have hcz5_0 : w3.cell? ⟨gb169, 0, none⟩ = some (.int .i64 a0_0) := (blk_cell BK169.out 0).trans rfl
      have hcz5_1 : w3.cell? ⟨gb169, 1, none⟩ = some (.int .i64 a0_1) := (blk_cell BK169.out 1).trans rfl
      have hcz5_2 : w3.cell? ⟨gb169, 2, none⟩ = some (.int .i64 a0_2) := (blk_cell BK169.out 2).trans rfl
      have hcz5_3 : w3.cell? ⟨gb169, 3, none⟩ = some (.slice A0_3 l0_3.length c0_3) := (blk_cell BK169.out 3).trans rfl
      have hfz5_0 := blk_frozen BK169.out 0
      have hfz5_1 := blk_frozen BK169.out 1
      have hfz5_2 := blk_frozen BK169.out 2
      have hfz5_3 := blk_frozen BK169.out 3
      go_wp2
      go_meet
      case rel => exact ⟨_, (true), (by first | rfl | (simp; done) | (simp [*]; done)), H', ⟨by first | omega | exact Nat.le_refl _⟩, ⟨zb BK169⟩, ⟨zg HB⟩⟩
    · rw [if_neg c4] at H
      have c4b0 : decide (a0_0 < 1) = false := decide_eq_false c4
      clear c4
      (first | rw [c4b0] | (simp only [i64_w, i32_w]; rw [c4b0]) | skip)
      by_cases c6 : a0_0 > 4096
      · rw [if_pos c6] at H
        have c6b0 : decide (4096 < a0_0) = true := decide_eq_true c6
        clear c6
        have H' := Aside0.mk H
        clear H
        have hcz7_0 : w3.cell? ⟨gb169, 0, none⟩ = some (.int .i64 a0_0) := (blk_cell BK169.out 0).trans rfl
        have hcz7_1 : w3.cell? ⟨gb169, 1, none⟩ = some (.int .i64 a0_1) := (blk_cell BK169.out 1).trans rfl
        have hcz7_2 : w3.cell? ⟨gb169, 2, none⟩ = some (.int .i64 a0_2) := (blk_cell BK169.out 2).trans rfl
        have hcz7_3 : w3.cell? ⟨gb169, 3, none⟩ = some (.slice A0_3 l0_3.length c0_3) := (blk_cell BK169.out 3).trans rfl
        have hfz7_0 := blk_frozen BK169.out 0
        have hfz7_1 := blk_frozen BK169.out 1
        have hfz7_2 := blk_frozen BK169.out 2
        have hfz7_3 := blk_frozen BK169.out 3
        go_wp2
        go_meet
        case rel => exact ⟨_, (true), (by first | rfl | (simp; done) | (simp [*]; done)), H', ⟨by first | omega | exact Nat.le_refl _⟩, ⟨zb BK169⟩, ⟨zg HB⟩⟩
      · rw [if_neg c6] at H
        have c6b0 : decide (4096 < a0_0) = false := decide_eq_false c6
        clear c6
        by_cases c8 : a0_1 < 1
        · rw [if_pos c8] at H
          have c8b0 : decide (a0_1 < 1) = true := decide_eq_true c8
          clear c8
          have H' := Aside0.mk H
          clear H
          have hcz9_0 : w3.cell? ⟨gb169, 0, none⟩ = some (.int .i64 a0_0) := (blk_cell BK169.out 0).trans rfl
          have hcz9_1 : w3.cell? ⟨gb169, 1, none⟩ = some (.int .i64 a0_1) := (blk_cell BK169.out 1).trans rfl
          have hcz9_2 : w3.cell? ⟨gb169, 2, none⟩ = some (.int .i64 a0_2) := (blk_cell BK169.out 2).trans rfl
          have hcz9_3 : w3.cell? ⟨gb169, 3, none⟩ = some (.slice A0_3 l0_3.length c0_3) := (blk_cell BK169.out 3).trans rfl
          have hfz9_0 := blk_frozen BK169.out 0
          have hfz9_1 := blk_frozen BK169.out 1
          have hfz9_2 := blk_frozen BK169.out 2
          have hfz9_3 := blk_frozen BK169.out 3
          go_wp2
          go_meet
          case rel => exact ⟨_, (true), (by first | rfl | (simp; done) | (simp [*]; done)), H', ⟨by first | omega | exact Nat.le_refl _⟩, ⟨zb BK169⟩, ⟨zg HB⟩⟩
        · rw [if_neg c8] at H
          have c8b0 : decide (a0_1 < 1) = false := decide_eq_false c8
          clear c8
          by_cases c10 : a0_1 > 4096
          · rw [if_pos c10] at H
            have c10b0 : decide (4096 < a0_1) = true := decide_eq_true c10
            clear c10
            have H' := Aside0.mk H
            clear H
            have hcz11_0 : w3.cell? ⟨gb169, 0, none⟩ = some (.int .i64 a0_0) := (blk_cell BK169.out 0).trans rfl
            have hcz11_1 : w3.cell? ⟨gb169, 1, none⟩ = some (.int .i64 a0_1) := (blk_cell BK169.out 1).trans rfl
            have hcz11_2 : w3.cell? ⟨gb169, 2, none⟩ = some (.int .i64 a0_2) := (blk_cell BK169.out 2).trans rfl
            have hcz11_3 : w3.cell? ⟨gb169, 3, none⟩ = some (.slice A0_3 l0_3.length c0_3) := (blk_cell BK169.out 3).trans rfl
            have hfz11_0 := blk_frozen BK169.out 0
            have hfz11_1 := blk_frozen BK169.out 1
            have hfz11_2 := blk_frozen BK169.out 2
            have hfz11_3 := blk_frozen BK169.out 3
            go_wp2
            go_meet
            case rel => exact ⟨_, (true), (by first | rfl | (simp; done) | (simp [*]; done)), H', ⟨by first | omega | exact Nat.le_refl _⟩, ⟨zb BK169⟩, ⟨zg HB⟩⟩
          · rw [if_neg c10] at H
            have c10b0 : decide (4096 < a0_1) = false := decide_eq_false c10
            clear c10
            by_cases c12 : a0_2 < 0
            · rw [if_pos c12] at H
              have c12b0 : decide (a0_2 < 0) = true := decide_eq_true c12
              clear c12
              have H' := Aside0.mk H
              clear H
              have hcz13_0 : w3.cell? ⟨gb169, 0, none⟩ = some (.int .i64 a0_0) := (blk_cell BK169.out 0).trans rfl
              have hcz13_1 : w3.cell? ⟨gb169, 1, none⟩ = some (.int .i64 a0_1) := (blk_cell BK169.out 1).trans rfl
              have hcz13_2 : w3.cell? ⟨gb169, 2, none⟩ = some (.int .i64 a0_2) := (blk_cell BK169.out 2).trans rfl
              have hcz13_3 : w3.cell? ⟨gb169, 3, none⟩ = some (.slice A0_3 l0_3.length c0_3) := (blk_cell BK169.out 3).trans rfl
              have hfz13_0 := blk_frozen BK169.out 0
              have hfz13_1 := blk_frozen BK169.out 1
              have hfz13_2 := blk_frozen BK169.out 2
              have hfz13_3 := blk_frozen BK169.out 3
              go_wp2
              go_meet
              case rel => exact ⟨_, (true), (by first | rfl | (simp; done) | (simp [*]; done)), H', ⟨by first | omega | exact Nat.le_refl _⟩, ⟨zb BK169⟩, ⟨zg HB⟩⟩
            · rw [if_neg c12] at H
              have c12b0 : decide (a0_2 < 0) = false := decide_eq_false c12
              clear c12
              by_cases c14 : a0_2 > 4611686018427387903
              · rw [if_pos c14] at H
                have c14b0 : decide (4611686018427387903 < a0_2) = true := decide_eq_true c14
                clear c14
                have H' := Aside0.mk H
                clear H
                have hcz15_0 : w3.cell? ⟨gb169, 0, none⟩ = some (.int .i64 a0_0) := (blk_cell BK169.out 0).trans rfl
                have hcz15_1 : w3.cell? ⟨gb169, 1, none⟩ = some (.int .i64 a0_1) := (blk_cell BK169.out 1).trans rfl
                have hcz15_2 : w3.cell? ⟨gb169, 2, none⟩ = some (.int .i64 a0_2) := (blk_cell BK169.out 2).trans rfl
                have hcz15_3 : w3.cell? ⟨gb169, 3, none⟩ = some (.slice A0_3 l0_3.length c0_3) := (blk_cell BK169.out 3).trans rfl
                have hfz15_0 := blk_frozen BK169.out 0
                have hfz15_1 := blk_frozen BK169.out 1
                have hfz15_2 := blk_frozen BK169.out 2
                have hfz15_3 := blk_frozen BK169.out 3
                go_wp2
                go_meet
                case rel => exact ⟨_, (true), (by first | rfl | (simp; done) | (simp [*]; done)), H', ⟨by first | omega | exact Nat.le_refl _⟩, ⟨zb BK169⟩, ⟨zg HB⟩⟩
              · rw [if_neg c14] at H
                have c14b0 : decide (4611686018427387903 < a0_2) = false := decide_eq_false c14
                clear c14
                have H' := Aside0.mk H
                clear H
                have hcz16_0 : w3.cell? ⟨gb169, 0, none⟩ = some (.int .i64 a0_0) := (blk_cell BK169.out 0).trans rfl
                have hcz16_1 : w3.cell? ⟨gb169, 1, none⟩ = some (.int .i64 a0_1) := (blk_cell BK169.out 1).trans rfl
                have hcz16_2 : w3.cell? ⟨gb169, 2, none⟩ = some (.int .i64 a0_2) := (blk_cell BK169.out 2).trans rfl
                have hcz16_3 : w3.cell? ⟨gb169, 3, none⟩ = some (.slice A0_3 l0_3.length c0_3) := (blk_cell BK169.out 3).trans rfl
                have hfz16_0 := blk_frozen BK169.out 0
                have hfz16_1 := blk_frozen BK169.out 1
                have hfz16_2 := blk_frozen BK169.out 2
                have hfz16_3 := blk_frozen BK169.out 3
                go_wp2
                go_meet
                case rel => exact ⟨_, (decide ((l0_3.length : Int) > 512)), (by first | rfl | (simp; done) | (simp [*]; done)), H', ⟨by first | omega | exact Nat.le_refl _⟩, ⟨zb BK169⟩, ⟨zg HB⟩⟩
  case rest =>
    clear HC2
    try clear c1
    try clear p2
    try clear c4
    try clear c4b0
    try clear c6
    try clear c6b0
    try clear c8
    try clear c8b0
    try clear c10
    try clear c10b0
    try clear c12
    try clear c12b0
    try clear c14
    try clear c14b0
    try clear hcz11_0
    try clear hcz11_1
    try clear hcz11_2
    try clear hcz11_3
    try clear hcz13_0
    try clear hcz13_1
    try clear hcz13_2
    try clear hcz13_3
    try clear hcz15_0
    try clear hcz15_1
    try clear hcz15_2
    try clear hcz15_3
    try clear hcz16_0
    try clear hcz16_1
    try clear hcz16_2
    try clear hcz16_3
    try clear hcz5_0
    try clear hcz5_1
    try clear hcz5_2
    try clear hcz5_3
    try clear hcz7_0
    try clear hcz7_1
    try clear hcz7_2
    try clear hcz7_3
    try clear hcz9_0
    try clear hcz9_1
    try clear hcz9_2
    try clear hcz9_3
    try clear hfz11_0
    try clear hfz11_1
    try clear hfz11_2
    try clear hfz11_3
    try clear hfz13_0
    try clear hfz13_1
    try clear hfz13_2
    try clear hfz13_3
    try clear hfz15_0
    try clear hfz15_1
    try clear hfz15_2
    try clear hfz15_3
    try clear hfz16_0
    try clear hfz16_1
    try clear hfz16_2
    try clear hfz16_3
    try clear hfz5_0
    try clear hfz5_1
    try clear hfz5_2
    try clear hfz5_3
    try clear hfz7_0
    try clear hfz7_1
    try clear hfz7_2
    try clear hfz7_3
    try clear hfz9_0
    try clear hfz9_1
    try clear hfz9_2
    try clear hfz9_3
    obtain ⟨kq, x40_1, rfl, HA, HJ1, BK169, HB⟩ := hcut
    cases kq with
    | zero => exact absurd HA.out (by simp [impl_DigestOK.j0])
    | succ kj1 =>
      have H := HA.out
      clear HA
      simp only [impl_DigestOK.j0] at H
      by_cases c17 : x40_1 = true
      · subst c17
        have H1 : (some false) = some r := by rw [if_pos rfl] at H; exact H
        clear H
        have H := H1
        clear H1
        obtain rfl := Option.some.inj H
        go_wp2
        go_ret
        exact ⟨zre, zg HB⟩
      · replace c17 := Bool.eq_false_iff.mpr c17
        subst c17
        have H1 : (impl_DigestOK.l0 kj1 l0_3 (l0_3.length : Int) 0 a0_0 a0_1 a0_2 l0_3) = some r := by rw [if_neg (show ¬ (false = true) by decide)] at H; exact H
        clear H
        have H := H1
        clear H1
        have H' := Aside0.mk H
        clear H
        have hcz18_0 : wc.cell? ⟨gb169, 0, none⟩ = some (.int .i64 a0_0) := (blk_cell BK169.out 0).trans rfl
        have hcz18_1 : wc.cell? ⟨gb169, 1, none⟩ = some (.int .i64 a0_1) := (blk_cell BK169.out 1).trans rfl
        have hcz18_2 : wc.cell? ⟨gb169, 2, none⟩ = some (.int .i64 a0_2) := (blk_cell BK169.out 2).trans rfl
        have hcz18_3 : wc.cell? ⟨gb169, 3, none⟩ = some (.slice A0_3 l0_3.length c0_3) := (blk_cell BK169.out 3).trans rfl
        have hfz18_0 := blk_frozen BK169.out 0
        have hfz18_1 := blk_frozen BK169.out 1
        have hfz18_2 := blk_frozen BK169.out 2
        have hfz18_3 := blk_frozen BK169.out 3
        go_wp2
        go_loopg [44] kj1 (fun kq v44 w' => ∃ (x44_2 : Int), v44 = .int .i64 x44_2 ∧ Aside0 (impl_DigestOK.l0 kq l0_3 (l0_3.length : Int) x44_2 a0_0 a0_1 a0_2 l0_3 = some r) ∧ Aside0 (kq ≤ kj1) ∧ Aside0 (w'.heap[gb169]? = some (.cells #[.int .i64 a0_0, .int .i64 a0_1, .int .i64 a0_2, (.slice A0_3 l0_3.length c0_3)] 37 (0, 0))) ∧ Aside0 (Below w.heap.size w w'))
        case atStart => exact ⟨(0), (by first | rfl | (simp; done) | (simp [*]; done)), H', ⟨Nat.le_refl _⟩, ⟨zb BK169⟩, ⟨zg HB⟩⟩
        case round =>
          clear H'
          try clear c1
          try clear p2
          try clear c4
          try clear c4b0
          try clear c6
          try clear c6b0
          try clear c8
          try clear c8b0
          try clear c10
          try clear c10b0
          try clear c12
          try clear c12b0
          try clear c14
          try clear c14b0
          try clear c17
          try clear hcz11_0
          try clear hcz11_1
          try clear hcz11_2
          try clear hcz11_3
          try clear hcz13_0
          try clear hcz13_1
          try clear hcz13_2
          try clear hcz13_3
          try clear hcz15_0
          try clear hcz15_1
          try clear hcz15_2
          try clear hcz15_3
          try clear hcz16_0
          try clear hcz16_1
          try clear hcz16_2
          try clear hcz16_3
          try clear hcz18_0
          try clear hcz18_1
          try clear hcz18_2
          try clear hcz18_3
          try clear hcz5_0
          try clear hcz5_1
          try clear hcz5_2
          try clear hcz5_3
          try clear hcz7_0
          try clear hcz7_1
          try clear hcz7_2
          try clear hcz7_3
          try clear hcz9_0
          try clear hcz9_1
          try clear hcz9_2
          try clear hcz9_3
          try clear hfz11_0
          try clear hfz11_1
          try clear hfz11_2
          try clear hfz11_3
          try clear hfz13_0
          try clear hfz13_1
          try clear hfz13_2
          try clear hfz13_3
          try clear hfz15_0
          try clear hfz15_1
          try clear hfz15_2
          try clear hfz15_3
          try clear hfz16_0
          try clear hfz16_1
          try clear hfz16_2
          try clear hfz16_3
          try clear hfz18_0
          try clear hfz18_1
          try clear hfz18_2
          try clear hfz18_3
          try clear hfz5_0
          try clear hfz5_1
          try clear hfz5_2
          try clear hfz5_3
          try clear hfz7_0
          try clear hfz7_1
          try clear hfz7_2
          try clear hfz7_3
          try clear hfz9_0
          try clear hfz9_1
          try clear hfz9_2
          try clear hfz9_3
          try clear p2
          obtain ⟨x44_2, rfl, HA, HK2, BK169, HB⟩ := hrel
          cases gk with
          | zero => exact absurd HA.out (by simp [impl_DigestOK.l0])
          | succ k2 =>
            have H := HA.out
            clear HA
            simp only [impl_DigestOK.l0] at H
            by_cases c19 : x44_2 < (l0_3.length : Int)
            · rw [if_pos c19] at H
              have c19b0 : decide (x44_2 < (l0_3.length : Int)) = true := decide_eq_true c19
              clear c19
              by_cases c20 : 0 ≤ x44_2
              · rw [if_pos c20] at H
                have c20b0 : decide (0 ≤ x44_2) = true := decide_eq_true c20
                clear c20
                by_cases c21 : x44_2 < (l0_3.length : Int)
                · rw [if_pos c21] at H
                  have c21b0 : decide (x44_2 < (l0_3.length : Int)) = true := decide_eq_true c21
                  clear c21
                  replace H := Option.bind_eq_some_iff.mp H
                  obtain ⟨t171, A220, H⟩ := H
                  replace H : (if t171 = true then (if x44_2 > 0 then (if 0 ≤ (wrap64 (x44_2 - 1)) then (if (wrap64 (x44_2 - 1)) < (l0_3.length : Int) then (if (rd l0_3 x44_2) < (rd l0_3 (wrap64 (x44_2 - 1))) then (some false) else (impl_DigestOK.l0 k2 l0_3 (l0_3.length : Int) (wrap64 (x44_2 + 1)) a0_0 a0_1 a0_2 l0_3)) else (none)) else (none)) else (impl_DigestOK.l0 k2 l0_3 (l0_3.length : Int) (wrap64 (x44_2 + 1)) a0_0 a0_1 a0_2 l0_3)) else (some false)) = some r := H
                  have A22 := Aside0.mk A220
                  clear A220
                  by_cases c23 : t171 = true
                  · subst c23
                    have H1 : (if x44_2 > 0 then (if 0 ≤ (wrap64 (x44_2 - 1)) then (if (wrap64 (x44_2 - 1)) < (l0_3.length : Int) then (if (rd l0_3 x44_2) < (rd l0_3 (wrap64 (x44_2 - 1))) then (some false) else (impl_DigestOK.l0 k2 l0_3 (l0_3.length : Int) (wrap64 (x44_2 + 1)) a0_0 a0_1 a0_2 l0_3)) else (none)) else (none)) else (impl_DigestOK.l0 k2 l0_3 (l0_3.length : Int) (wrap64 (x44_2 + 1)) a0_0 a0_1 a0_2 l0_3)) = some r := by rw [if_pos rfl] at H; exact H
                    clear H
                    have H := H1
                    clear H1
                    by_cases c24 : x44_2 > 0
                    · rw [if_pos c24] at H
                      have c24b0 : decide (0 < x44_2) = true := decide_eq_true c24
                      clear c24
                      obtain ⟨ji25, hji25⟩ : ∃ j_ : Int, (wrap64 (x44_2 - 1)) = j_ := ⟨_, rfl⟩
                      replace H : (if 0 ≤ (ji25) then (if (ji25) < (l0_3.length : Int) then (if (rd l0_3 x44_2) < (rd l0_3 (ji25)) then (some false) else (impl_DigestOK.l0 k2 l0_3 (l0_3.length : Int) (wrap64 (x44_2 + 1)) a0_0 a0_1 a0_2 l0_3)) else (none)) else (none)) = some r := by first | (rw [hji25] at H; exact H) | (simp only [hji25] at H ⊢; exact H)
                      (try rw [hji25] at A22)
                      have hji25w : (IntKind.i64.wrap (x44_2 - 1)) = ji25 := (i64_w _).trans hji25
                      by_cases c26 : 0 ≤ (ji25)
                      · rw [if_pos c26] at H
                        have c26b0 : decide (0 ≤ (ji25)) = true := decide_eq_true c26
                        clear c26
                        by_cases c27 : (ji25) < (l0_3.length : Int)
                        · rw [if_pos c27] at H
                          have c27b0 : decide ((ji25) < (l0_3.length : Int)) = true := decide_eq_true c27
                          clear c27
                          by_cases c28 : (rd l0_3 x44_2) < (rd l0_3 (ji25))
                          · rw [if_pos c28] at H
                            have c28b0 : decide ((rd l0_3 x44_2) < (rd l0_3 (ji25))) = true := decide_eq_true c28
                            clear c28
                            obtain rfl := Option.some.inj H
                            have p170 : 0 ≤ (x44_2 : Int) := of_decide_eq_true zas
                            have q170 : x44_2 < (l0_3.length : Int) := of_decide_eq_true zas
                            obtain ⟨ad170, e170, hx170_0⟩ := Kd.at_int HR0_3.out x44_2 p170 q170
                            cases e170
                            replace hx170_0 := (HB.out.cell (World.block_lt_of_cell? w _ hx170_0)).trans hx170_0
                            replace p170 := eq_true p170
                            replace q170 := eq_true q170
                            go_wp2_with (first | ((with_reducible refine gate_callee (f := 58) rfl ?_); refine goesL_ (some 50) rfl rfl Try.func58 (by kernel_rfl) rfl #[.int .i64 (rd l0_3 x44_2)] rfl zar ?_; (with_reducible refine (impl_oOk.calls (rd l0_3 x44_2) true _ A22.out).mono ?_); rintro e w' ⟨rfl, ⟨nd, rfl⟩⟩; refine ⟨_, rfl, ?_⟩; have hcz29_0 : wr.cell? ⟨gb169, 0, none⟩ = some (.int .i64 a0_0) := (blk_cell BK169.out 0).trans rfl; have hcz29_1 : wr.cell? ⟨gb169, 1, none⟩ = some (.int .i64 a0_1) := (blk_cell BK169.out 1).trans rfl; have hcz29_2 : wr.cell? ⟨gb169, 2, none⟩ = some (.int .i64 a0_2) := (blk_cell BK169.out 2).trans rfl; have hcz29_3 : wr.cell? ⟨gb169, 3, none⟩ = some (.slice (some ad170) l0_3.length c0_3) := (blk_cell BK169.out 3).trans rfl; have hfz29_0 := blk_frozen BK169.out 0; have hfz29_1 := blk_frozen BK169.out 1; have hfz29_2 := blk_frozen BK169.out 2; have hfz29_3 := blk_frozen BK169.out 3; have p172 : 0 ≤ ((ji25) : Int) := of_decide_eq_true zas; have q172 : (ji25) < (l0_3.length : Int) := of_decide_eq_true zas; obtain ⟨ad172, e172, hx172_0⟩ := Kd.at_int HR0_3.out (ji25) p172 q172; obtain rfl : ad170 = ad172 := (by injection e172); replace hx172_0 := (HB.out.cell (World.block_lt_of_cell? w _ hx172_0)).trans hx172_0; replace p172 := eq_true p172; replace q172 := eq_true q172))
                            go_ret
                            exact ⟨by first | rfl | (simp [errW_none, errW_some] <;> rfl) | (simp only [← hji25]; first | rfl | (simp [errW_none, errW_some] <;> rfl)) | (simp [*, errW_none, errW_some] <;> rfl), zg HB⟩
                          · rw [if_neg c28] at H
                            have c28b0 : decide ((rd l0_3 x44_2) < (rd l0_3 (ji25))) = false := decide_eq_false c28
                            clear c28
                            have H' := Aside0.mk H
                            clear H
                            have p170 : 0 ≤ (x44_2 : Int) := of_decide_eq_true zas
                            have q170 : x44_2 < (l0_3.length : Int) := of_decide_eq_true zas
                            obtain ⟨ad170, e170, hx170_0⟩ := Kd.at_int HR0_3.out x44_2 p170 q170
                            cases e170
                            replace hx170_0 := (HB.out.cell (World.block_lt_of_cell? w _ hx170_0)).trans hx170_0
                            replace p170 := eq_true p170
                            replace q170 := eq_true q170
                            go_wp2_with (first | ((with_reducible refine gate_callee (f := 58) rfl ?_); refine goesL_ (some 50) rfl rfl Try.func58 (by kernel_rfl) rfl #[.int .i64 (rd l0_3 x44_2)] rfl zar ?_; (with_reducible refine (impl_oOk.calls (rd l0_3 x44_2) true _ A22.out).mono ?_); rintro e w' ⟨rfl, ⟨nd, rfl⟩⟩; refine ⟨_, rfl, ?_⟩; have hcz30_0 : wr.cell? ⟨gb169, 0, none⟩ = some (.int .i64 a0_0) := (blk_cell BK169.out 0).trans rfl; have hcz30_1 : wr.cell? ⟨gb169, 1, none⟩ = some (.int .i64 a0_1) := (blk_cell BK169.out 1).trans rfl; have hcz30_2 : wr.cell? ⟨gb169, 2, none⟩ = some (.int .i64 a0_2) := (blk_cell BK169.out 2).trans rfl; have hcz30_3 : wr.cell? ⟨gb169, 3, none⟩ = some (.slice (some ad170) l0_3.length c0_3) := (blk_cell BK169.out 3).trans rfl; have hfz30_0 := blk_frozen BK169.out 0; have hfz30_1 := blk_frozen BK169.out 1; have hfz30_2 := blk_frozen BK169.out 2; have hfz30_3 := blk_frozen BK169.out 3; have p172 : 0 ≤ ((ji25) : Int) := of_decide_eq_true zas; have q172 : (ji25) < (l0_3.length : Int) := of_decide_eq_true zas; obtain ⟨ad172, e172, hx172_0⟩ := Kd.at_int HR0_3.out (ji25) p172 q172; obtain rfl : ad170 = ad172 := (by injection e172); replace hx172_0 := (HB.out.cell (World.block_lt_of_cell? w _ hx172_0)).trans hx172_0; replace p172 := eq_true p172; replace q172 := eq_true q172))
                            go_roundg k2
                            case measure => have := HJ1.out; have := HK2.out; omega
                            case rel => exact ⟨(wrap64 (x44_2 + 1)), (by first | rfl | (simp; done) | (simp [*]; done)), H', ⟨by have := HJ1.out; have := HK2.out; omega⟩, ⟨zb BK169⟩, ⟨zg HB⟩⟩
                        · rw [if_neg c27] at H
                          exact absurd H (by simp)
                      · rw [if_neg c26] at H
                        exact absurd H (by simp)
                    · rw [if_neg c24] at H
                      have c24b0 : decide (0 < x44_2) = false := decide_eq_false c24
                      clear c24
                      have H' := Aside0.mk H
                      clear H
                      have p170 : 0 ≤ (x44_2 : Int) := of_decide_eq_true zas
                      have q170 : x44_2 < (l0_3.length : Int) := of_decide_eq_true zas
                      obtain ⟨ad170, e170, hx170_0⟩ := Kd.at_int HR0_3.out x44_2 p170 q170
                      cases e170
                      replace hx170_0 := (HB.out.cell (World.block_lt_of_cell? w _ hx170_0)).trans hx170_0
                      replace p170 := eq_true p170
                      replace q170 := eq_true q170
                      go_wp2_with (first | ((with_reducible refine gate_callee (f := 58) rfl ?_); refine goesL_ (some 50) rfl rfl Try.func58 (by kernel_rfl) rfl #[.int .i64 (rd l0_3 x44_2)] rfl zar ?_; (with_reducible refine (impl_oOk.calls (rd l0_3 x44_2) true _ A22.out).mono ?_); rintro e w' ⟨rfl, ⟨nd, rfl⟩⟩; refine ⟨_, rfl, ?_⟩))
                      go_roundg k2
                      case measure => have := HJ1.out; have := HK2.out; omega
                      case rel => exact ⟨(wrap64 (x44_2 + 1)), (by first | rfl | (simp; done) | (simp [*]; done)), H', ⟨by have := HJ1.out; have := HK2.out; omega⟩, ⟨zb BK169⟩, ⟨zg HB⟩⟩
                  · replace c23 := Bool.eq_false_iff.mpr c23
                    subst c23
                    have H1 : (some false) = some r := by rw [if_neg (show ¬ (false = true) by decide)] at H; exact H
                    clear H
                    have H := H1
                    clear H1
                    obtain rfl := Option.some.inj H
                    have p170 : 0 ≤ (x44_2 : Int) := of_decide_eq_true zas
                    have q170 : x44_2 < (l0_3.length : Int) := of_decide_eq_true zas
                    obtain ⟨ad170, e170, hx170_0⟩ := Kd.at_int HR0_3.out x44_2 p170 q170
                    cases e170
                    replace hx170_0 := (HB.out.cell (World.block_lt_of_cell? w _ hx170_0)).trans hx170_0
                    replace p170 := eq_true p170
                    replace q170 := eq_true q170
                    go_wp2_with (first | ((with_reducible refine gate_callee (f := 58) rfl ?_); refine goesL_ (some 50) rfl rfl Try.func58 (by kernel_rfl) rfl #[.int .i64 (rd l0_3 x44_2)] rfl zar ?_; (with_reducible refine (impl_oOk.calls (rd l0_3 x44_2) false _ A22.out).mono ?_); rintro e w' ⟨rfl, ⟨nd, rfl⟩⟩; refine ⟨_, rfl, ?_⟩))
                    go_ret
                    exact ⟨zre, zg HB⟩
                · rw [if_neg c21] at H
                  exact absurd H (by simp)
              · rw [if_neg c20] at H
                exact absurd H (by simp)
            · rw [if_neg c19] at H
              have c19b0 : decide (x44_2 < (l0_3.length : Int)) = false := decide_eq_false c19
              clear c19
              by_cases c31 : a0_0 = 0
              · rw [if_pos c31] at H
                exact absurd H (by simp)
              · rw [if_neg c31] at H
                have c31b0 : (a0_0 == 0) = false := beq_eq_false_iff_ne.mpr c31
                have c31b1 : (a0_0 != 0) = true := bne_iff_ne.mpr c31
                by_cases c32 : (Int.tmod a0_2 a0_0) > 0
                · rw [if_pos c32] at H
                  have c32b0 : decide (0 < (Int.tmod a0_2 a0_0)) = true := decide_eq_true c32
                  clear c32
                  by_cases c33 : (l0_3.length : Int) ≤ a0_2
                  · rw [if_pos c33] at H
                    have c33b0 : decide ((l0_3.length : Int) ≤ a0_2) = true := decide_eq_true c33
                    clear c33
                    by_cases c34 : (l0_3.length : Int) ≥ (wrap64 ((wrap64 (Int.tdiv a0_2 a0_0)) + 1))
                    · rw [if_pos c34] at H
                      have c34b0 : decide ((wrap64 ((wrap64 (Int.tdiv a0_2 a0_0)) + 1)) ≤ (l0_3.length : Int)) = true := decide_eq_true c34
                      clear c34
                      obtain rfl := Option.some.inj H
                      have hcz35_0 : wr.cell? ⟨gb169, 0, none⟩ = some (.int .i64 a0_0) := (blk_cell BK169.out 0).trans rfl
                      have hcz35_1 : wr.cell? ⟨gb169, 1, none⟩ = some (.int .i64 a0_1) := (blk_cell BK169.out 1).trans rfl
                      have hcz35_2 : wr.cell? ⟨gb169, 2, none⟩ = some (.int .i64 a0_2) := (blk_cell BK169.out 2).trans rfl
                      have hcz35_3 : wr.cell? ⟨gb169, 3, none⟩ = some (.slice A0_3 l0_3.length c0_3) := (blk_cell BK169.out 3).trans rfl
                      have hfz35_0 := blk_frozen BK169.out 0
                      have hfz35_1 := blk_frozen BK169.out 1
                      have hfz35_2 := blk_frozen BK169.out 2
                      have hfz35_3 := blk_frozen BK169.out 3
                      go_wp2
                      go_ret
                      exact ⟨zre, zg HB⟩
                    · rw [if_neg c34] at H
                      have c34b0 : decide ((wrap64 ((wrap64 (Int.tdiv a0_2 a0_0)) + 1)) ≤ (l0_3.length : Int)) = false := decide_eq_false c34
                      clear c34
                      obtain rfl := Option.some.inj H
                      have hcz36_0 : wr.cell? ⟨gb169, 0, none⟩ = some (.int .i64 a0_0) := (blk_cell BK169.out 0).trans rfl
                      have hcz36_1 : wr.cell? ⟨gb169, 1, none⟩ = some (.int .i64 a0_1) := (blk_cell BK169.out 1).trans rfl
                      have hcz36_2 : wr.cell? ⟨gb169, 2, none⟩ = some (.int .i64 a0_2) := (blk_cell BK169.out 2).trans rfl
                      have hcz36_3 : wr.cell? ⟨gb169, 3, none⟩ = some (.slice A0_3 l0_3.length c0_3) := (blk_cell BK169.out 3).trans rfl
                      have hfz36_0 := blk_frozen BK169.out 0
                      have hfz36_1 := blk_frozen BK169.out 1
                      have hfz36_2 := blk_frozen BK169.out 2
                      have hfz36_3 := blk_frozen BK169.out 3
                      go_wp2
                      go_ret
                      exact ⟨zre, zg HB⟩
                  · rw [if_neg c33] at H
                    have c33b0 : decide ((l0_3.length : Int) ≤ a0_2) = false := decide_eq_false c33
                    clear c33
                    obtain rfl := Option.some.inj H
                    have hcz37_0 : wr.cell? ⟨gb169, 0, none⟩ = some (.int .i64 a0_0) := (blk_cell BK169.out 0).trans rfl
                    have hcz37_1 : wr.cell? ⟨gb169, 1, none⟩ = some (.int .i64 a0_1) := (blk_cell BK169.out 1).trans rfl
                    have hcz37_2 : wr.cell? ⟨gb169, 2, none⟩ = some (.int .i64 a0_2) := (blk_cell BK169.out 2).trans rfl
                    have hcz37_3 : wr.cell? ⟨gb169, 3, none⟩ = some (.slice A0_3 l0_3.length c0_3) := (blk_cell BK169.out 3).trans rfl
                    have hfz37_0 := blk_frozen BK169.out 0
                    have hfz37_1 := blk_frozen BK169.out 1
                    have hfz37_2 := blk_frozen BK169.out 2
                    have hfz37_3 := blk_frozen BK169.out 3
                    go_wp2
                    go_ret
                    exact ⟨zre, zg HB⟩
                · rw [if_neg c32] at H
                  have c32b0 : decide (0 < (Int.tmod a0_2 a0_0)) = false := decide_eq_false c32
                  clear c32
                  by_cases c38 : (l0_3.length : Int) ≤ a0_2
                  · rw [if_pos c38] at H
                    have c38b0 : decide ((l0_3.length : Int) ≤ a0_2) = true := decide_eq_true c38
                    clear c38
                    by_cases c39 : (l0_3.length : Int) ≥ (wrap64 (Int.tdiv a0_2 a0_0))
                    · rw [if_pos c39] at H
                      have c39b0 : decide ((wrap64 (Int.tdiv a0_2 a0_0)) ≤ (l0_3.length : Int)) = true := decide_eq_true c39
                      clear c39
                      obtain rfl := Option.some.inj H
                      have hcz40_0 : wr.cell? ⟨gb169, 0, none⟩ = some (.int .i64 a0_0) := (blk_cell BK169.out 0).trans rfl
                      have hcz40_1 : wr.cell? ⟨gb169, 1, none⟩ = some (.int .i64 a0_1) := (blk_cell BK169.out 1).trans rfl
                      have hcz40_2 : wr.cell? ⟨gb169, 2, none⟩ = some (.int .i64 a0_2) := (blk_cell BK169.out 2).trans rfl
                      have hcz40_3 : wr.cell? ⟨gb169, 3, none⟩ = some (.slice A0_3 l0_3.length c0_3) := (blk_cell BK169.out 3).trans rfl
                      have hfz40_0 := blk_frozen BK169.out 0
                      have hfz40_1 := blk_frozen BK169.out 1
                      have hfz40_2 := blk_frozen BK169.out 2
                      have hfz40_3 := blk_frozen BK169.out 3
                      go_wp2
                      go_ret
                      exact ⟨zre, zg HB⟩
                    · rw [if_neg c39] at H
                      have c39b0 : decide ((wrap64 (Int.tdiv a0_2 a0_0)) ≤ (l0_3.length : Int)) = false := decide_eq_false c39
                      clear c39
                      obtain rfl := Option.some.inj H
                      have hcz41_0 : wr.cell? ⟨gb169, 0, none⟩ = some (.int .i64 a0_0) := (blk_cell BK169.out 0).trans rfl
                      have hcz41_1 : wr.cell? ⟨gb169, 1, none⟩ = some (.int .i64 a0_1) := (blk_cell BK169.out 1).trans rfl
                      have hcz41_2 : wr.cell? ⟨gb169, 2, none⟩ = some (.int .i64 a0_2) := (blk_cell BK169.out 2).trans rfl
                      have hcz41_3 : wr.cell? ⟨gb169, 3, none⟩ = some (.slice A0_3 l0_3.length c0_3) := (blk_cell BK169.out 3).trans rfl
                      have hfz41_0 := blk_frozen BK169.out 0
                      have hfz41_1 := blk_frozen BK169.out 1
                      have hfz41_2 := blk_frozen BK169.out 2
                      have hfz41_3 := blk_frozen BK169.out 3
                      go_wp2
                      go_ret
                      exact ⟨zre, zg HB⟩
                  · rw [if_neg c38] at H
                    have c38b0 : decide ((l0_3.length : Int) ≤ a0_2) = false := decide_eq_false c38
                    clear c38
                    obtain rfl := Option.some.inj H
                    have hcz42_0 : wr.cell? ⟨gb169, 0, none⟩ = some (.int .i64 a0_0) := (blk_cell BK169.out 0).trans rfl
                    have hcz42_1 : wr.cell? ⟨gb169, 1, none⟩ = some (.int .i64 a0_1) := (blk_cell BK169.out 1).trans rfl
                    have hcz42_2 : wr.cell? ⟨gb169, 2, none⟩ = some (.int .i64 a0_2) := (blk_cell BK169.out 2).trans rfl
                    have hcz42_3 : wr.cell? ⟨gb169, 3, none⟩ = some (.slice A0_3 l0_3.length c0_3) := (blk_cell BK169.out 3).trans rfl
                    have hfz42_0 := blk_frozen BK169.out 0
                    have hfz42_1 := blk_frozen BK169.out 1
                    have hfz42_2 := blk_frozen BK169.out 2
                    have hfz42_3 := blk_frozen BK169.out 3
                    go_wp2
                    go_ret
                    exact ⟨zre, zg HB⟩

/-! ### slices_Sort_int_int: function 62 -/
section
open Go.Shelf Go.Lib Go.Sort
def slices_Sort_int_int.f (l0 : List Int) : Option (List Int) := if l0.length ≤ 1000000 then some (l0.mergeSort fun x y => decide (x ≤ y)) else none
theorem slices_Sort_int_int.calls (P0_ : Nat → Prop) (u9000_ : Value) (l0 : List Int) (r : List Int) (w0 w : World) (hB : Below w0.heap.size w0 w) (ho0 : Kd.R (Kd.int .i64) 3 w w0.heap.size P0_ u9000_ l0) (h : slices_Sort_int_int.f l0 = some r) :
    Calls Try.prog 62 #[u9000_] w fun e w' => e = .returned (.tuple #[]) ∧ Kd.R (Kd.int .i64) 3 w' w0.heap.size (fun k_ => (P0_ k_ ∨ w.heap.size ≤ k_)) u9000_ r ∧ Below w0.heap.size w0 w' ∧ Kept w w' (fun k_ => P0_ k_) := by
  unfold slices_Sort_int_int.f at h
  by_cases hb : l0.length ≤ 1000000
  · rw [if_pos hb] at h
    obtain rfl := Option.some.inj h
    obtain ⟨hl, hc⟩ := Kd.own_of_R ho0
    rcases hc with ⟨rfl, h0⟩ | ⟨g, cap, cur, rfl, hg, hheap, hlc, hcm, hcs, ht⟩
    · have e0 : l0 = [] := by exact List.length_eq_zero_iff.1 h0
      subst e0
      refine (Try.slices_Sort_int_none none 0 w).mono ?_
      rintro e w' ⟨rfl, rfl⟩
      exact ⟨rfl, by rw [List.mergeSort_nil]; exact Kd.R_nil _ _ _ _ _, hB, Kept.refl _ _⟩
    · have ht' : cur.toList.take l0.length = l0.map (Value.int .i64) := by simpa [encs] using ht
      have hgl : g < w.heap.size := (Array.getElem?_eq_some_iff.1 hheap).1
      refine (Try.slices_Sort_int g 0 cap l0 w (holds_of_blockI hheap ht') hgl (by omega)).mono ?_
      rintro e w' ⟨rfl, n, os, rfl⟩
      have hgr := grownBy_sortedI (w := w) (g := g) (n := n) (os := os) (l0.mergeSort fun x y => decide (x ≤ y)).toArray
      refine ⟨rfl, Kd.R_of_own ?_ (fun k hk => .inl (ho0.1 k hk)), hB.grown hgr hB.size (fun k hk => by injection hk with hk; omega), Kept.of_grown hgr (Kept.refl _ _) (fun k hk => .inl (ho0.1 k (by rw [← hk]; rfl)))⟩
      have := ownsRow_sortedI (n := n) (os := os) (ts := l0.mergeSort fun x y => decide (x ≤ y)) (List.length_mergeSort _) hg hheap hlc hcm hcs
      rw [List.length_mergeSort]
      exact this
  · rw [if_neg hb] at h; cases h
end

end Go.Proofs.Ytchoncnahlcfjaa.XFnDigest
