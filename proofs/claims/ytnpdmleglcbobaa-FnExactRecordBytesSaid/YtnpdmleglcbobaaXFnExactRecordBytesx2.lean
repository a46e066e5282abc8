-- A text of this session: written by its own program (wip/x/xprint.py), which runs the kit's printer with contracts of its own.
import Derived.Test.YtnpdmleglcbobaaXFnExactRecordBytesx0
namespace Go.Proofs.Ytnpdmleglcbobaa.XFnExactRecordBytes
open Go.RowKit Go.Proofs.YtnpdmleglcbobaaW.PrintWords Go.Proofs.YtnpdmleglcbobaaW.PrintLast Go.Proofs.YtnpdmleglcbobaaW.PrintMore
attribute [local go_sem] max2_int min2_int max_two min_two max_three min_three max_four min_four   -- for this text's walks alone
set_option linter.unusedVariables false
set_option linter.unusedSimpArgs false

/-! ### spec_l06Fits: function 35 -/
mutual
def spec_l06Fits.j0 : Nat → Bool → ByteArray → List (S66) → Option (Bool)
 | 0, _, _, _ => none
 | k + 1, x16, x116000, x116001 => if x16 = true then (some false) else (spec_l06Fits.l0 k 0 x116000 x116001)
def spec_l06Fits.l0 : Nat → Int → ByteArray → List (S66) → Option (Bool)
 | 0, _, _, _ => none
 | k + 1, x3, x116000, x116001 => if x3 < (x116001.length : Int) then (if 0 ≤ x3 then (if (((rd_T66 x116001 x3).f0).size : Int) > 65536 then (spec_l06Fits.j2 k x3 true x116000 x116001 ((rd_T66 x116001 x3).f0) ((rd_T66 x116001 x3).f1) ((rd_T66 x116001 x3).f2)) else (if (((rd_T66 x116001 x3).f1).length : Int) > 4096 then (spec_l06Fits.j2 k x3 true x116000 x116001 ((rd_T66 x116001 x3).f0) ((rd_T66 x116001 x3).f1) ((rd_T66 x116001 x3).f2)) else (spec_l06Fits.j2 k x3 (decide ((((rd_T66 x116001 x3).f2).length : Int) > 4096)) x116000 x116001 ((rd_T66 x116001 x3).f0) ((rd_T66 x116001 x3).f1) ((rd_T66 x116001 x3).f2)))) else (none)) else (some true)
def spec_l06Fits.j2 : Nat → Int → Bool → ByteArray → List (S66) → ByteArray → List ByteArray → List Int → Option (Bool)
 | 0, _, _, _, _, _, _, _ => none
 | k + 1, x3, x44, x116000, x116001, x118000, x118001, x118002 => if x44 = true then (some false) else (spec_l06Fits.l1 k x3 0 x116000 x116001 x118000 x118001 x118002)
def spec_l06Fits.l1 : Nat → Int → Int → ByteArray → List (S66) → ByteArray → List ByteArray → List Int → Option (Bool)
 | 0, _, _, _, _, _, _, _ => none
 | k + 1, x3, x5, x116000, x116001, x118000, x118001, x118002 => if x5 < (x118001.length : Int) then (if 0 ≤ x5 then (if ((rdOf ByteArray.empty x118001 x5).size : Int) > 65536 then (some false) else (spec_l06Fits.l1 k x3 (wrap64 (x5 + 1)) x116000 x116001 x118000 x118001 x118002)) else (none)) else (spec_l06Fits.l2 k x3 0 x116000 x116001 x118000 x118001 x118002)
def spec_l06Fits.l2 : Nat → Int → Int → ByteArray → List (S66) → ByteArray → List ByteArray → List Int → Option (Bool)
 | 0, _, _, _, _, _, _, _ => none
 | k + 1, x3, x6, x116000, x116001, x118000, x118001, x118002 => if x6 < (x118002.length : Int) then (if 0 ≤ x6 then (if (rd x118002 x6) < (-1000000000000) then (some false) else (if (rd x118002 x6) > 1000000000000 then (some false) else (spec_l06Fits.l2 k x3 (wrap64 (x6 + 1)) x116000 x116001 x118000 x118001 x118002))) else (none)) else (spec_l06Fits.l0 k (wrap64 (x3 + 1)) x116000 x116001)
end
def spec_l06Fits.f (k : Nat) (a0_0 : ByteArray) (l0_1 : List (S66)) : Option (Bool) := if (a0_0.size : Int) > 65536 then (spec_l06Fits.j0 k true a0_0 l0_1) else (spec_l06Fits.j0 k (decide ((l0_1.length : Int) > 4096)) a0_0 l0_1)
theorem spec_l06Fits.mono_l : ∀ k, (∀ y0 y1 y2, LeO (spec_l06Fits.j0 k y0 y1 y2) (spec_l06Fits.j0 (k + 1) y0 y1 y2)) ∧ (∀ y0 y1 y2, LeO (spec_l06Fits.l0 k y0 y1 y2) (spec_l06Fits.l0 (k + 1) y0 y1 y2)) ∧ (∀ y0 y1 y2 y3 y4 y5 y6, LeO (spec_l06Fits.j2 k y0 y1 y2 y3 y4 y5 y6) (spec_l06Fits.j2 (k + 1) y0 y1 y2 y3 y4 y5 y6)) ∧ (∀ y0 y1 y2 y3 y4 y5 y6, LeO (spec_l06Fits.l1 k y0 y1 y2 y3 y4 y5 y6) (spec_l06Fits.l1 (k + 1) y0 y1 y2 y3 y4 y5 y6)) ∧ (∀ y0 y1 y2 y3 y4 y5 y6, LeO (spec_l06Fits.l2 k y0 y1 y2 y3 y4 y5 y6) (spec_l06Fits.l2 (k + 1) y0 y1 y2 y3 y4 y5 y6))
 | 0 => ⟨fun _ _ _ r h => by simp [spec_l06Fits.j0] at h, fun _ _ _ r h => by simp [spec_l06Fits.l0] at h, fun _ _ _ _ _ _ _ r h => by simp [spec_l06Fits.j2] at h, fun _ _ _ _ _ _ _ r h => by simp [spec_l06Fits.l1] at h, fun _ _ _ _ _ _ _ r h => by simp [spec_l06Fits.l2] at h⟩
 | k + 1 => by
  obtain ⟨ih0, ih1, ih2, ih3, ih4⟩ := spec_l06Fits.mono_l k
  refine ⟨?_, ?_, ?_, ?_, ?_⟩
  ·intro y0 y1 y2
   unfold spec_l06Fits.j0
   repeat' first
   | (with_reducible exact ih0 _ _ _)
   | (with_reducible exact ih1 _ _ _)
   | (with_reducible exact ih2 _ _ _ _ _ _ _)
   | (with_reducible exact ih3 _ _ _ _ _ _ _)
   | (with_reducible exact ih4 _ _ _ _ _ _ _)
   | (with_reducible exact LeO.refl _)
   | (with_reducible exact LeO.none _)
   | (with_reducible refine LeO.ite ?_ ?_)
   | (with_reducible refine LeO.bind ?_ (fun _ => ?_))
   | exact ih0 _ _ _
   | exact ih1 _ _ _
   | exact ih2 _ _ _ _ _ _ _
   | exact ih3 _ _ _ _ _ _ _
   | exact ih4 _ _ _ _ _ _ _
   | exact LeO.none _
   | refine LeO.ite ?_ ?_
   | refine LeO.bind ?_ (fun _ => ?_)
  ·intro y0 y1 y2
   unfold spec_l06Fits.l0
   repeat' first
   | (with_reducible exact ih0 _ _ _)
   | (with_reducible exact ih1 _ _ _)
   | (with_reducible exact ih2 _ _ _ _ _ _ _)
   | (with_reducible exact ih3 _ _ _ _ _ _ _)
   | (with_reducible exact ih4 _ _ _ _ _ _ _)
   | (with_reducible exact LeO.refl _)
   | (with_reducible exact LeO.none _)
   | (with_reducible refine LeO.ite ?_ ?_)
   | (with_reducible refine LeO.bind ?_ (fun _ => ?_))
   | exact ih0 _ _ _
   | exact ih1 _ _ _
   | exact ih2 _ _ _ _ _ _ _
   | exact ih3 _ _ _ _ _ _ _
   | exact ih4 _ _ _ _ _ _ _
   | exact LeO.none _
   | refine LeO.ite ?_ ?_
   | refine LeO.bind ?_ (fun _ => ?_)
  ·intro y0 y1 y2 y3 y4 y5 y6
   unfold spec_l06Fits.j2
   repeat' first
   | (with_reducible exact ih0 _ _ _)
   | (with_reducible exact ih1 _ _ _)
   | (with_reducible exact ih2 _ _ _ _ _ _ _)
   | (with_reducible exact ih3 _ _ _ _ _ _ _)
   | (with_reducible exact ih4 _ _ _ _ _ _ _)
   | (with_reducible exact LeO.refl _)
   | (with_reducible exact LeO.none _)
   | (with_reducible refine LeO.ite ?_ ?_)
   | (with_reducible refine LeO.bind ?_ (fun _ => ?_))
   | exact ih0 _ _ _
   | exact ih1 _ _ _
   | exact ih2 _ _ _ _ _ _ _
   | exact ih3 _ _ _ _ _ _ _
   | exact ih4 _ _ _ _ _ _ _
   | exact LeO.none _
   | refine LeO.ite ?_ ?_
   | refine LeO.bind ?_ (fun _ => ?_)
  ·intro y0 y1 y2 y3 y4 y5 y6
   unfold spec_l06Fits.l1
   repeat' first
   | (with_reducible exact ih0 _ _ _)
   | (with_reducible exact ih1 _ _ _)
   | (with_reducible exact ih2 _ _ _ _ _ _ _)
   | (with_reducible exact ih3 _ _ _ _ _ _ _)
   | (with_reducible exact ih4 _ _ _ _ _ _ _)
   | (with_reducible exact LeO.refl _)
   | (with_reducible exact LeO.none _)
   | (with_reducible refine LeO.ite ?_ ?_)
   | (with_reducible refine LeO.bind ?_ (fun _ => ?_))
   | exact ih0 _ _ _
   | exact ih1 _ _ _
   | exact ih2 _ _ _ _ _ _ _
   | exact ih3 _ _ _ _ _ _ _
   | exact ih4 _ _ _ _ _ _ _
   | exact LeO.none _
   | refine LeO.ite ?_ ?_
   | refine LeO.bind ?_ (fun _ => ?_)
  ·intro y0 y1 y2 y3 y4 y5 y6
   unfold spec_l06Fits.l2
   repeat' first
   | (with_reducible exact ih0 _ _ _)
   | (with_reducible exact ih1 _ _ _)
   | (with_reducible exact ih2 _ _ _ _ _ _ _)
   | (with_reducible exact ih3 _ _ _ _ _ _ _)
   | (with_reducible exact ih4 _ _ _ _ _ _ _)
   | (with_reducible exact LeO.refl _)
   | (with_reducible exact LeO.none _)
   | (with_reducible refine LeO.ite ?_ ?_)
   | (with_reducible refine LeO.bind ?_ (fun _ => ?_))
   | exact ih0 _ _ _
   | exact ih1 _ _ _
   | exact ih2 _ _ _ _ _ _ _
   | exact ih3 _ _ _ _ _ _ _
   | exact ih4 _ _ _ _ _ _ _
   | exact LeO.none _
   | refine LeO.ite ?_ ?_
   | refine LeO.bind ?_ (fun _ => ?_)
theorem spec_l06Fits.mono : ∀ a0 a1 k, LeO (spec_l06Fits.f k a0 a1) (spec_l06Fits.f (k + 1) a0 a1) := by
 intro a0 a1 k
 obtain ⟨ih0, ih1, ih2, ih3, ih4⟩ := spec_l06Fits.mono_l k
 unfold spec_l06Fits.f
 repeat' first
  | (with_reducible exact ih0 _ _ _)
  | (with_reducible exact ih1 _ _ _)
  | (with_reducible exact ih2 _ _ _ _ _ _ _)
  | (with_reducible exact ih3 _ _ _ _ _ _ _)
  | (with_reducible exact ih4 _ _ _ _ _ _ _)
  | (with_reducible exact LeO.refl _)
  | (with_reducible exact LeO.none _)
  | (with_reducible refine LeO.ite ?_ ?_)
  | (with_reducible refine LeO.bind ?_ (fun _ => ?_))
  | exact ih0 _ _ _
  | exact ih1 _ _ _
  | exact ih2 _ _ _ _ _ _ _
  | exact ih3 _ _ _ _ _ _ _
  | exact ih4 _ _ _ _ _ _ _
  | exact LeO.none _
  | refine LeO.ite ?_ ?_
  | refine LeO.bind ?_ (fun _ => ?_)
set_option maxHeartbeats 8000000 in
set_option maxRecDepth 100000 in
theorem spec_l06Fits.calls (k : Nat) (a0_0 : ByteArray) (A0_1 : Option Addr) (c0_1 : Nat) (l0_1 : List (S66)) (r : Bool) (w : World) (hr0_1 : Kd.C k66 w A0_1 l0_1.length l0_1) (hc0_1 : l0_1.length ≤ c0_1) (h : spec_l06Fits.f k a0_0 l0_1 = some r) :
 Calls Try.prog 35 #[.agg #[.string a0_0, .slice A0_1 l0_1.length c0_1]] w fun e w' => e = .returned (.bool r) ∧ Below w.heap.size w w' := by
 have hu31 := Try.underlying31
 have hu66 := Try.underlying66
 have HR0_1 := Aside0.mk hr0_1
 have HC0_1 := Aside0.mk hc0_1
 clear hr0_1 hc0_1
 have HB := Aside0.mk (Below.refl w.heap.size w)
 have H : (if (a0_0.size : Int) > 65536 then (spec_l06Fits.j0 k true a0_0 l0_1) else (spec_l06Fits.j0 k (decide ((l0_1.length : Int) > 4096)) a0_0 l0_1)) = some r := h
 clear h
 have HC2 := Aside0.mk H
 clear H
 go_enter Try.func35, Try.ntmps35
 go_upto_region 1 with (first | ((with_reducible refine gate_dst (N := 1) rfl ?_); (try (refine gate_guard (by rfl) ?_; dsimp only)); refine box_event ?hg (N := 1) ?hd (cs := #[.string a0_0, .slice A0_1 l0_1.length c0_1]) (t := 31) ?hr ?_; (case hd => rfl); (case hg => rfl); (case hr => first | (go_simp; done) | (go_simp; rfl)); intro gb115 hg w3 hbox hb; have n0_ := Aside0.mk (below_step (zh HB) hb); have n1_ := Aside0.mk (hbox); have n2_ := Aside0.mk ((by rw [hg]; exact (below_size (zh HB)) : w.heap.size ≤ gb115)); have n3_ := Aside0.mk ((by rw [hg]; exact (below_size (zh HB)) : w.heap.size ≤ gb115)); clear HB; have HB := n0_; have BK115 := n1_; have GW115 := n2_; have GE115 := n3_; clear n0_ n1_ n2_ n3_; clear hb hbox hg))
 (try simp only [Act.put, List.setIfInBounds_toArray, List.set_cons_zero, List.set_cons_succ])
 go_cut [16] (fun v16 wc => ∃ (kq : Nat) (x16_1 : Bool), v16 = .bool x16_1 ∧ Aside0 (spec_l06Fits.j0 kq x16_1 a0_0 l0_1 = some r) ∧ Aside0 (kq ≤ k) ∧ Aside0 (wc.heap[gb115]? = some (.cells #[.string a0_0, (.slice A0_1 l0_1.length c0_1)] 31 (0, 0))) ∧ Aside0 (Below w.heap.size w wc))
 case first =>
  have H := HC2.out
  clear HC2
  by_cases c4 : (a0_0.size : Int) > 65536
  ·rw [if_pos c4] at H
   have c4b0 : decide (65536 < (a0_0.size : Int)) = true := decide_eq_true c4
   have c4b1 : decide (65536 < a0_0.size) = true := decide_eq_true (by omega)
   clear c4
   (first | rw [c4b0] | (simp only [i64_w, i32_w]; rw [c4b0]) | skip)
   have H' := Aside0.mk H
   clear H
   have hcz5_0 : w3.cell? ⟨gb115, 0, none⟩ = some (.string a0_0) := (blk_cell BK115.out 0).trans rfl
   have hcz5_1 : w3.cell? ⟨gb115, 1, none⟩ = some (.slice A0_1 l0_1.length c0_1) := (blk_cell BK115.out 1).trans rfl
   have hfz5_0 := blk_frozen BK115.out 0
   have hfz5_1 := blk_frozen BK115.out 1
   go_wp2
   go_meet
   case rel => exact ⟨_, (true), (by first | rfl | (simp; done) | (simp [*]; done)), H', ⟨by first | omega | exact Nat.le_refl _⟩, ⟨zb BK115⟩, ⟨zg HB⟩⟩
  ·rw [if_neg c4] at H
   have c4b0 : decide (65536 < (a0_0.size : Int)) = false := decide_eq_false c4
   have c4b1 : decide (65536 < a0_0.size) = false := decide_eq_false (by omega)
   clear c4
   (first | rw [c4b0] | (simp only [i64_w, i32_w]; rw [c4b0]) | skip)
   have H' := Aside0.mk H
   clear H
   have hcz6_0 : w3.cell? ⟨gb115, 0, none⟩ = some (.string a0_0) := (blk_cell BK115.out 0).trans rfl
   have hcz6_1 : w3.cell? ⟨gb115, 1, none⟩ = some (.slice A0_1 l0_1.length c0_1) := (blk_cell BK115.out 1).trans rfl
   have hfz6_0 := blk_frozen BK115.out 0
   have hfz6_1 := blk_frozen BK115.out 1
   go_wp2
   go_meet
   case rel => exact ⟨_, (decide ((l0_1.length : Int) > 4096)), (by first | rfl | (simp; done) | (simp [*]; done)), H', ⟨by first | omega | exact Nat.le_refl _⟩, ⟨zb BK115⟩, ⟨zg HB⟩⟩
 case rest =>
  clear HC2
  try clear p2
  try clear c3
  try clear c4
  try clear c4b0
  try clear c4b1
  try clear hcz5_0
  try clear hcz5_1
  try clear hcz6_0
  try clear hcz6_1
  try clear hfz5_0
  try clear hfz5_1
  try clear hfz6_0
  try clear hfz6_1
  obtain ⟨kq, x16_1, rfl, HA, HJ1, BK115, HB⟩ := hcut
  cases kq with
  | zero => exact absurd HA.out (by simp [spec_l06Fits.j0])
  | succ kj1 =>
   have H := HA.out
   clear HA
   simp only [spec_l06Fits.j0] at H
   by_cases c7 : x16_1 = true
   ·subst c7
    have H1 : (some false) = some r := by rw [if_pos rfl] at H; exact H
    clear H
    have H := H1
    clear H1
    obtain rfl := Option.some.inj H
    go_wp2
    go_ret
    exact ⟨zre, zg HB⟩
   ·replace c7 := Bool.eq_false_iff.mpr c7
    subst c7
    have H1 : (spec_l06Fits.l0 kj1 0 a0_0 l0_1) = some r := by rw [if_neg (show ¬ (false = true) by decide)] at H; exact H
    clear H
    have H := H1
    clear H1
    have H' := Aside0.mk H
    clear H
    go_wp2
    go_loopg [3] kj1 (fun kq v3 w' => ∃ (x3_2 : Int), v3 = .int .i64 x3_2 ∧ Aside0 (spec_l06Fits.l0 kq x3_2 a0_0 l0_1 = some r) ∧ Aside0 (kq ≤ kj1) ∧ Aside0 (w'.heap[gb115]? = some (.cells #[.string a0_0, (.slice A0_1 l0_1.length c0_1)] 31 (0, 0))) ∧ Aside0 (Below w.heap.size w w'))
    case atStart => exact ⟨(0), (by first | rfl | (simp; done) | (simp [*]; done)), H', ⟨Nat.le_refl _⟩, ⟨zb BK115⟩, ⟨zg HB⟩⟩
    case round =>
     clear H'
     try clear p2
     try clear c3
     try clear c4
     try clear c4b0
     try clear c4b1
     try clear c7
     try clear hcz5_0
     try clear hcz5_1
     try clear hcz6_0
     try clear hcz6_1
     try clear hfz5_0
     try clear hfz5_1
     try clear hfz6_0
     try clear hfz6_1
     try clear p2
     obtain ⟨x3_2, rfl, HA, HK2, BK115, HB⟩ := hrel
     cases gk with
     | zero => exact absurd HA.out (by simp [spec_l06Fits.l0])
     | succ k2 =>
      have H := HA.out
      clear HA
      simp only [spec_l06Fits.l0] at H
      by_cases c8 : x3_2 < (l0_1.length : Int)
      ·rw [if_pos c8] at H
       have c8b0 : decide (x3_2 < (l0_1.length : Int)) = true := decide_eq_true c8
       clear c8
       by_cases c9 : 0 ≤ x3_2
       ·rw [if_pos c9] at H
        have c9b0 : decide (0 ≤ x3_2) = true := decide_eq_true c9
        clear c9
        have HC10 := Aside0.mk H
        clear H
        have hcz11_0 : wr.cell? ⟨gb115, 0, none⟩ = some (.string a0_0) := (blk_cell BK115.out 0).trans rfl
        have hcz11_1 : wr.cell? ⟨gb115, 1, none⟩ = some (.slice A0_1 l0_1.length c0_1) := (blk_cell BK115.out 1).trans rfl
        have hfz11_0 := blk_frozen BK115.out 0
        have hfz11_1 := blk_frozen BK115.out 1
        have p116 : 0 ≤ (x3_2 : Int) := of_decide_eq_true zas
        have q116 : x3_2 < (l0_1.length : Int) := of_decide_eq_true zas
        obtain ⟨ad116, A116_1, c116_1, A116_2, c116_2, e116, hx116_0, hx116_1, hx116_2, hl116_1, hi116_1, hl116_2, hi116_2⟩ := at_T66 HR0_1.out x3_2 p116 q116
        cases e116
        replace hx116_0 := (HB.out.cell (World.block_lt_of_cell? w _ hx116_0)).trans hx116_0
        replace hx116_1 := (HB.out.cell (World.block_lt_of_cell? w _ hx116_1)).trans hx116_1
        replace hx116_2 := (HB.out.cell (World.block_lt_of_cell? w _ hx116_2)).trans hx116_2
        have HR116_1 := Aside0.mk hi116_1
        have HC116_1 := Aside0.mk hl116_1
        clear hi116_1 hl116_1
        have HR116_2 := Aside0.mk hi116_2
        have HC116_2 := Aside0.mk hl116_2
        clear hi116_2 hl116_2
        replace p116 := eq_true p116
        replace q116 := eq_true q116
        go_upto_region 7 with (first | ((with_reducible refine gate_dst (N := 4) rfl ?_); (try (refine gate_guard (by rfl) ?_; dsimp only)); refine box_event ?hg (N := 4) ?hd (cs := #[.string (⟨#[]⟩ : ByteArray), .slice none 0 0, .slice none 0 0]) (t := 66) ?hr ?_; (case hd => rfl); (case hg => rfl); (case hr => first | (go_simp; done) | (go_simp; rfl)); intro gb117 hg w12 hbox hb; have n0_ := Aside0.mk (blk_below (zb BK115) hb); have n1_ := Aside0.mk (below_step (zg HB) hb); have n2_ := Aside0.mk (hbox); have n3_ := Aside0.mk ((by rw [hg]; exact (below_size (zg HB)) : w.heap.size ≤ gb117)); have n4_ := Aside0.mk ((by rw [hg]; exact (below_size (zg HB)) : w.heap.size ≤ gb117)); have n5_ := Aside0.mk ((by rw [hg]; exact Nat.ne_of_lt (blk_lt (zb BK115)) : gb115 ≠ gb117)); have n6_ := Aside0.mk ((by rw [hg]; exact Nat.ne_of_gt (blk_lt (zb BK115)) : gb117 ≠ gb115)); clear BK115; clear HB; have BK115 := n0_; have HB := n1_; have BK117 := n2_; have GW117 := n3_; have GE117 := n4_; have NB115_117 := n5_; have NB117_115 := n6_; clear n0_ n1_ n2_ n3_ n4_ n5_ n6_; clear hb hbox hg; have hnb13 := NB117_115.out; have hnc13 := NB115_117.out; have hcz14_0 : w12.cell? ⟨gb117, 0, none⟩ = some (.string (⟨#[]⟩ : ByteArray)) := (blk_cell BK117.out 0).trans rfl; have hcz14_1 : w12.cell? ⟨gb117, 1, none⟩ = some (.slice none 0 0) := (blk_cell BK117.out 1).trans rfl; have hcz14_2 : w12.cell? ⟨gb117, 2, none⟩ = some (.slice none 0 0) := (blk_cell BK117.out 2).trans rfl; have hfz14_0 := blk_frozen BK117.out 0; have hfz14_1 := blk_frozen BK117.out 1; have hfz14_2 := blk_frozen BK117.out 2))
        (try simp only [Act.put, List.setIfInBounds_toArray, List.set_cons_zero, List.set_cons_succ])
        go_cut [44] (fun v44 wc => ∃ (kq : Nat) (x44_9 : Bool), v44 = .bool x44_9 ∧ Aside0 (spec_l06Fits.j2 kq x3_2 x44_9 a0_0 l0_1 ((rd_T66 l0_1 x3_2).f0) ((rd_T66 l0_1 x3_2).f1) ((rd_T66 l0_1 x3_2).f2) = some r) ∧ Aside0 (kq ≤ k2) ∧ Aside0 (wc.heap[gb115]? = some (.cells #[.string a0_0, (.slice (some ad116) l0_1.length c0_1)] 31 (0, 0))) ∧ Aside0 (wc.heap[gb117]? = some (.cells #[.string ((rd_T66 l0_1 x3_2).f0), (.slice A116_1 ((rd_T66 l0_1 x3_2).f1).length c116_1), (.slice A116_2 ((rd_T66 l0_1 x3_2).f2).length c116_2)] 66 (0, 0))) ∧ Aside0 (Below w.heap.size w wc))
        case first =>
         have H := HC10.out
         clear HC10
         by_cases c15 : (((rd_T66 l0_1 x3_2).f0).size : Int) > 65536
         ·rw [if_pos c15] at H
          have c15b0 : decide (65536 < (((rd_T66 l0_1 x3_2).f0).size : Int)) = true := decide_eq_true c15
          have c15b1 : decide (65536 < ((rd_T66 l0_1 x3_2).f0).size) = true := decide_eq_true (by omega)
          clear c15
          (first | rw [c15b0] | (simp only [i64_w, i32_w]; rw [c15b0]) | skip)
          have H' := Aside0.mk H
          clear H
          have hnb16 := NB117_115.out
          have hnc16 := NB115_117.out
          have hcz17_0 : w12.cell? ⟨gb117, 0, none⟩ = some (.string (⟨#[]⟩ : ByteArray)) := (blk_cell BK117.out 0).trans rfl
          have hcz17_1 : w12.cell? ⟨gb117, 1, none⟩ = some (.slice none 0 0) := (blk_cell BK117.out 1).trans rfl
          have hcz17_2 : w12.cell? ⟨gb117, 2, none⟩ = some (.slice none 0 0) := (blk_cell BK117.out 2).trans rfl
          have hfz17_0 := blk_frozen BK117.out 0
          have hfz17_1 := blk_frozen BK117.out 1
          have hfz17_2 := blk_frozen BK117.out 2
          go_wp2
          go_meet
          case rel => exact ⟨_, (true), (by first | rfl | (simp; done) | (simp [*]; done)), H', ⟨by have := HJ1.out; have := HK2.out; first | omega | exact Nat.le_refl _⟩, ⟨by (with_reducible repeat (first | refine blk_drewN ?_ _ | refine blk_drew ?_ | refine blk_alloc ?_ _)); refine blk_far ?_ NB115_117.out _; (with_reducible repeat (first | refine blk_drewN ?_ _ | refine blk_drew ?_ | refine blk_alloc ?_ _)); refine blk_far ?_ NB115_117.out _; (with_reducible repeat (first | refine blk_drewN ?_ _ | refine blk_drew ?_ | refine blk_alloc ?_ _)); refine blk_far ?_ NB115_117.out _; (with_reducible repeat (first | refine blk_drewN ?_ _ | refine blk_drew ?_ | refine blk_alloc ?_ _)); exact BK115.out⟩, ⟨by (with_reducible repeat (first | refine blk_drewN ?_ _ | refine blk_drew ?_ | refine blk_alloc ?_ _)); refine blk_put (cs := #[.string ((rd_T66 l0_1 x3_2).f0), .slice A116_1 ((rd_T66 l0_1 x3_2).f1).length c116_1, .slice none 0 0]) ?_ 2 _ rfl; (with_reducible repeat (first | refine blk_drewN ?_ _ | refine blk_drew ?_ | refine blk_alloc ?_ _)); refine blk_put (cs := #[.string ((rd_T66 l0_1 x3_2).f0), .slice none 0 0, .slice none 0 0]) ?_ 1 _ rfl; (with_reducible repeat (first | refine blk_drewN ?_ _ | refine blk_drew ?_ | refine blk_alloc ?_ _)); refine blk_put (cs := #[.string (⟨#[]⟩ : ByteArray), .slice none 0 0, .slice none 0 0]) ?_ 0 _ rfl; (with_reducible repeat (first | refine blk_drewN ?_ _ | refine blk_drew ?_ | refine blk_alloc ?_ _)); exact BK117.out⟩, ⟨zg HB⟩⟩
         ·rw [if_neg c15] at H
          have c15b0 : decide (65536 < (((rd_T66 l0_1 x3_2).f0).size : Int)) = false := decide_eq_false c15
          have c15b1 : decide (65536 < ((rd_T66 l0_1 x3_2).f0).size) = false := decide_eq_false (by omega)
          clear c15
          (first | rw [c15b0] | (simp only [i64_w, i32_w]; rw [c15b0]) | skip)
          by_cases c18 : (((rd_T66 l0_1 x3_2).f1).length : Int) > 4096
          ·rw [if_pos c18] at H
           have c18b0 : decide (4096 < (((rd_T66 l0_1 x3_2).f1).length : Int)) = true := decide_eq_true c18
           have c18b1 : decide (4096 < ((rd_T66 l0_1 x3_2).f1).length) = true := decide_eq_true (by omega)
           clear c18
           have H' := Aside0.mk H
           clear H
           have hnb19 := NB117_115.out
           have hnc19 := NB115_117.out
           have hcz20_0 : w12.cell? ⟨gb117, 0, none⟩ = some (.string (⟨#[]⟩ : ByteArray)) := (blk_cell BK117.out 0).trans rfl
           have hcz20_1 : w12.cell? ⟨gb117, 1, none⟩ = some (.slice none 0 0) := (blk_cell BK117.out 1).trans rfl
           have hcz20_2 : w12.cell? ⟨gb117, 2, none⟩ = some (.slice none 0 0) := (blk_cell BK117.out 2).trans rfl
           have hfz20_0 := blk_frozen BK117.out 0
           have hfz20_1 := blk_frozen BK117.out 1
           have hfz20_2 := blk_frozen BK117.out 2
           go_wp2
           go_meet
           case rel => exact ⟨_, (true), (by first | rfl | (simp; done) | (simp [*]; done)), H', ⟨by have := HJ1.out; have := HK2.out; first | omega | exact Nat.le_refl _⟩, ⟨by (with_reducible repeat (first | refine blk_drewN ?_ _ | refine blk_drew ?_ | refine blk_alloc ?_ _)); refine blk_far ?_ NB115_117.out _; (with_reducible repeat (first | refine blk_drewN ?_ _ | refine blk_drew ?_ | refine blk_alloc ?_ _)); refine blk_far ?_ NB115_117.out _; (with_reducible repeat (first | refine blk_drewN ?_ _ | refine blk_drew ?_ | refine blk_alloc ?_ _)); refine blk_far ?_ NB115_117.out _; (with_reducible repeat (first | refine blk_drewN ?_ _ | refine blk_drew ?_ | refine blk_alloc ?_ _)); exact BK115.out⟩, ⟨by (with_reducible repeat (first | refine blk_drewN ?_ _ | refine blk_drew ?_ | refine blk_alloc ?_ _)); refine blk_put (cs := #[.string ((rd_T66 l0_1 x3_2).f0), .slice A116_1 ((rd_T66 l0_1 x3_2).f1).length c116_1, .slice none 0 0]) ?_ 2 _ rfl; (with_reducible repeat (first | refine blk_drewN ?_ _ | refine blk_drew ?_ | refine blk_alloc ?_ _)); refine blk_put (cs := #[.string ((rd_T66 l0_1 x3_2).f0), .slice none 0 0, .slice none 0 0]) ?_ 1 _ rfl; (with_reducible repeat (first | refine blk_drewN ?_ _ | refine blk_drew ?_ | refine blk_alloc ?_ _)); refine blk_put (cs := #[.string (⟨#[]⟩ : ByteArray), .slice none 0 0, .slice none 0 0]) ?_ 0 _ rfl; (with_reducible repeat (first | refine blk_drewN ?_ _ | refine blk_drew ?_ | refine blk_alloc ?_ _)); exact BK117.out⟩, ⟨zg HB⟩⟩
          ·rw [if_neg c18] at H
           have c18b0 : decide (4096 < (((rd_T66 l0_1 x3_2).f1).length : Int)) = false := decide_eq_false c18
           have c18b1 : decide (4096 < ((rd_T66 l0_1 x3_2).f1).length) = false := decide_eq_false (by omega)
           clear c18
           have H' := Aside0.mk H
           clear H
           have hnb21 := NB117_115.out
           have hnc21 := NB115_117.out
           have hcz22_0 : w12.cell? ⟨gb117, 0, none⟩ = some (.string (⟨#[]⟩ : ByteArray)) := (blk_cell BK117.out 0).trans rfl
           have hcz22_1 : w12.cell? ⟨gb117, 1, none⟩ = some (.slice none 0 0) := (blk_cell BK117.out 1).trans rfl
           have hcz22_2 : w12.cell? ⟨gb117, 2, none⟩ = some (.slice none 0 0) := (blk_cell BK117.out 2).trans rfl
           have hfz22_0 := blk_frozen BK117.out 0
           have hfz22_1 := blk_frozen BK117.out 1
           have hfz22_2 := blk_frozen BK117.out 2
           go_wp2
           go_meet
           case rel => exact ⟨_, (decide ((((rd_T66 l0_1 x3_2).f2).length : Int) > 4096)), (by first | rfl | (simp; done) | (simp [*]; done)), H', ⟨by have := HJ1.out; have := HK2.out; first | omega | exact Nat.le_refl _⟩, ⟨by (with_reducible repeat (first | refine blk_drewN ?_ _ | refine blk_drew ?_ | refine blk_alloc ?_ _)); refine blk_far ?_ NB115_117.out _; (with_reducible repeat (first | refine blk_drewN ?_ _ | refine blk_drew ?_ | refine blk_alloc ?_ _)); refine blk_far ?_ NB115_117.out _; (with_reducible repeat (first | refine blk_drewN ?_ _ | refine blk_drew ?_ | refine blk_alloc ?_ _)); refine blk_far ?_ NB115_117.out _; (with_reducible repeat (first | refine blk_drewN ?_ _ | refine blk_drew ?_ | refine blk_alloc ?_ _)); exact BK115.out⟩, ⟨by (with_reducible repeat (first | refine blk_drewN ?_ _ | refine blk_drew ?_ | refine blk_alloc ?_ _)); refine blk_put (cs := #[.string ((rd_T66 l0_1 x3_2).f0), .slice A116_1 ((rd_T66 l0_1 x3_2).f1).length c116_1, .slice none 0 0]) ?_ 2 _ rfl; (with_reducible repeat (first | refine blk_drewN ?_ _ | refine blk_drew ?_ | refine blk_alloc ?_ _)); refine blk_put (cs := #[.string ((rd_T66 l0_1 x3_2).f0), .slice none 0 0, .slice none 0 0]) ?_ 1 _ rfl; (with_reducible repeat (first | refine blk_drewN ?_ _ | refine blk_drew ?_ | refine blk_alloc ?_ _)); refine blk_put (cs := #[.string (⟨#[]⟩ : ByteArray), .slice none 0 0, .slice none 0 0]) ?_ 0 _ rfl; (with_reducible repeat (first | refine blk_drewN ?_ _ | refine blk_drew ?_ | refine blk_alloc ?_ _)); exact BK117.out⟩, ⟨zg HB⟩⟩
        case rest =>
         clear HC10
         try clear c1
         try clear p1
         try clear q1
         try clear hx1
         try clear c2
         try clear p2
         try clear c3
         try clear c4
         try clear c4b0
         try clear c4b1
         try clear c7
         try clear c8
         try clear c8b0
         try clear c9
         try clear c9b0
         try clear c11
         try clear p11
         try clear q11
         try clear hx11
         try clear c13
         try clear c15
         try clear c15b0
         try clear c15b1
         try clear c16
         try clear c18
         try clear c18b0
         try clear c18b1
         try clear c19
         try clear c21
         try clear hcz11_0
         try clear hcz11_1
         try clear hcz14_0
         try clear hcz14_1
         try clear hcz14_2
         try clear hcz17_0
         try clear hcz17_1
         try clear hcz17_2
         try clear hcz20_0
         try clear hcz20_1
         try clear hcz20_2
         try clear hcz22_0
         try clear hcz22_1
         try clear hcz22_2
         try clear hcz5_0
         try clear hcz5_1
         try clear hcz6_0
         try clear hcz6_1
         try clear hfz11_0
         try clear hfz11_1
         try clear hfz14_0
         try clear hfz14_1
         try clear hfz14_2
         try clear hfz17_0
         try clear hfz17_1
         try clear hfz17_2
         try clear hfz20_0
         try clear hfz20_1
         try clear hfz20_2
         try clear hfz22_0
         try clear hfz22_1
         try clear hfz22_2
         try clear hfz5_0
         try clear hfz5_1
         try clear hfz6_0
         try clear hfz6_1
         try clear hx116_0
         try clear hx116_1
         try clear hx116_2
         try clear p116
         try clear p2
         try clear q116
         obtain ⟨kq, x44_9, rfl, HA, HJ9, BK115, BK117, HB⟩ := hcut
         cases kq with
         | zero => exact absurd HA.out (by simp [spec_l06Fits.j2])
         | succ kj9 =>
          have H := HA.out
          clear HA
          simp only [spec_l06Fits.j2] at H
          by_cases c23 : x44_9 = true
          ·subst c23
           have H1 : (some false) = some r := by rw [if_pos rfl] at H; exact H
           clear H
           have H := H1
           clear H1
           obtain rfl := Option.some.inj H
           go_wp2
           go_ret
           exact ⟨zre, zg HB⟩
          ·replace c23 := Bool.eq_false_iff.mpr c23
           subst c23
           have H1 : (spec_l06Fits.l1 kj9 x3_2 0 a0_0 l0_1 ((rd_T66 l0_1 x3_2).f0) ((rd_T66 l0_1 x3_2).f1) ((rd_T66 l0_1 x3_2).f2)) = some r := by rw [if_neg (show ¬ (false = true) by decide)] at H; exact H
           clear H
           have H := H1
           clear H1
           have H' := Aside0.mk H
           clear H
           go_wp2
           go_loopg [5] kj9 (fun kq v5 w' => ∃ (x5_4 : Int), v5 = .int .i64 x5_4 ∧ Aside0 (spec_l06Fits.l1 kq x3_2 x5_4 a0_0 l0_1 ((rd_T66 l0_1 x3_2).f0) ((rd_T66 l0_1 x3_2).f1) ((rd_T66 l0_1 x3_2).f2) = some r) ∧ Aside0 (kq ≤ kj9) ∧ Aside0 (w'.heap[gb115]? = some (.cells #[.string a0_0, (.slice (some ad116) l0_1.length c0_1)] 31 (0, 0))) ∧ Aside0 (w'.heap[gb117]? = some (.cells #[.string ((rd_T66 l0_1 x3_2).f0), (.slice A116_1 ((rd_T66 l0_1 x3_2).f1).length c116_1), (.slice A116_2 ((rd_T66 l0_1 x3_2).f2).length c116_2)] 66 (0, 0))) ∧ Aside0 (Below w.heap.size w w'))
           case atStart => exact ⟨(0), (by first | rfl | (simp; done) | (simp [*]; done)), H', ⟨Nat.le_refl _⟩, ⟨zb BK115⟩, ⟨zb BK117⟩, ⟨zg HB⟩⟩
           case round =>
            clear H'
            try clear c1
            try clear p1
            try clear q1
            try clear hx1
            try clear c2
            try clear p2
            try clear c3
            try clear c4
            try clear c4b0
            try clear c4b1
            try clear c7
            try clear c8
            try clear c8b0
            try clear c9
            try clear c9b0
            try clear c11
            try clear p11
            try clear q11
            try clear hx11
            try clear c13
            try clear c15
            try clear c15b0
            try clear c15b1
            try clear c16
            try clear c18
            try clear c18b0
            try clear c18b1
            try clear c19
            try clear c21
            try clear c23
            try clear hcz11_0
            try clear hcz11_1
            try clear hcz14_0
            try clear hcz14_1
            try clear hcz14_2
            try clear hcz17_0
            try clear hcz17_1
            try clear hcz17_2
            try clear hcz20_0
            try clear hcz20_1
            try clear hcz20_2
            try clear hcz22_0
            try clear hcz22_1
            try clear hcz22_2
            try clear hcz5_0
            try clear hcz5_1
            try clear hcz6_0
            try clear hcz6_1
            try clear hfz11_0
            try clear hfz11_1
            try clear hfz14_0
            try clear hfz14_1
            try clear hfz14_2
            try clear hfz17_0
            try clear hfz17_1
            try clear hfz17_2
            try clear hfz20_0
            try clear hfz20_1
            try clear hfz20_2
            try clear hfz22_0
            try clear hfz22_1
            try clear hfz22_2
            try clear hfz5_0
            try clear hfz5_1
            try clear hfz6_0
            try clear hfz6_1
            try clear hx116_0
            try clear hx116_1
            try clear hx116_2
            try clear p1
            try clear p11
            try clear p116
            try clear p2
            try clear q1
            try clear q11
            try clear q116
            obtain ⟨x5_4, rfl, HA, HK4, BK115, BK117, HB⟩ := hrel
            cases gk with
            | zero => exact absurd HA.out (by simp [spec_l06Fits.l1])
            | succ k4 =>
             have H := HA.out
             clear HA
             simp only [spec_l06Fits.l1] at H
             by_cases c24 : x5_4 < (((rd_T66 l0_1 x3_2).f1).length : Int)
             ·rw [if_pos c24] at H
              have c24b0 : decide (x5_4 < (((rd_T66 l0_1 x3_2).f1).length : Int)) = true := decide_eq_true c24
              clear c24
              by_cases c25 : 0 ≤ x5_4
              ·rw [if_pos c25] at H
               have c25b0 : decide (0 ≤ x5_4) = true := decide_eq_true c25
               clear c25
               by_cases c26 : ((rdOf ByteArray.empty ((rd_T66 l0_1 x3_2).f1) x5_4).size : Int) > 65536
               ·rw [if_pos c26] at H
                have c26b0 : decide (65536 < ((rdOf ByteArray.empty ((rd_T66 l0_1 x3_2).f1) x5_4).size : Int)) = true := decide_eq_true c26
                have c26b1 : decide (65536 < (rdOf ByteArray.empty ((rd_T66 l0_1 x3_2).f1) x5_4).size) = true := decide_eq_true (by omega)
                clear c26
                obtain rfl := Option.some.inj H
                have hnb27 := NB117_115.out
                have hnc27 := NB115_117.out
                have hcz28_0 : wr.cell? ⟨gb117, 0, none⟩ = some (.string ((rd_T66 l0_1 x3_2).f0)) := (blk_cell BK117.out 0).trans rfl
                have hcz28_1 : wr.cell? ⟨gb117, 1, none⟩ = some (.slice A116_1 ((rd_T66 l0_1 x3_2).f1).length c116_1) := (blk_cell BK117.out 1).trans rfl
                have hcz28_2 : wr.cell? ⟨gb117, 2, none⟩ = some (.slice A116_2 ((rd_T66 l0_1 x3_2).f2).length c116_2) := (blk_cell BK117.out 2).trans rfl
                have hfz28_0 := blk_frozen BK117.out 0
                have hfz28_1 := blk_frozen BK117.out 1
                have hfz28_2 := blk_frozen BK117.out 2
                have p118 : 0 ≤ (x5_4 : Int) := of_decide_eq_true zas
                have q118 : x5_4 < (((rd_T66 l0_1 x3_2).f1).length : Int) := of_decide_eq_true zas
                obtain ⟨ad118, e118, hx118_0⟩ := Kd.at_string HR116_1.out x5_4 p118 q118
                cases e118
                replace hx118_0 := (HB.out.cell (World.block_lt_of_cell? w _ hx118_0)).trans hx118_0
                replace p118 := eq_true p118
                replace q118 := eq_true q118
                go_wp2
                go_ret
                exact ⟨zre, zg HB⟩
               ·rw [if_neg c26] at H
                have c26b0 : decide (65536 < ((rdOf ByteArray.empty ((rd_T66 l0_1 x3_2).f1) x5_4).size : Int)) = false := decide_eq_false c26
                have c26b1 : decide (65536 < (rdOf ByteArray.empty ((rd_T66 l0_1 x3_2).f1) x5_4).size) = false := decide_eq_false (by omega)
                clear c26
                have H' := Aside0.mk H
                clear H
                have hnb29 := NB117_115.out
                have hnc29 := NB115_117.out
                have hcz30_0 : wr.cell? ⟨gb117, 0, none⟩ = some (.string ((rd_T66 l0_1 x3_2).f0)) := (blk_cell BK117.out 0).trans rfl
                have hcz30_1 : wr.cell? ⟨gb117, 1, none⟩ = some (.slice A116_1 ((rd_T66 l0_1 x3_2).f1).length c116_1) := (blk_cell BK117.out 1).trans rfl
                have hcz30_2 : wr.cell? ⟨gb117, 2, none⟩ = some (.slice A116_2 ((rd_T66 l0_1 x3_2).f2).length c116_2) := (blk_cell BK117.out 2).trans rfl
                have hfz30_0 := blk_frozen BK117.out 0
                have hfz30_1 := blk_frozen BK117.out 1
                have hfz30_2 := blk_frozen BK117.out 2
                have p118 : 0 ≤ (x5_4 : Int) := of_decide_eq_true zas
                have q118 : x5_4 < (((rd_T66 l0_1 x3_2).f1).length : Int) := of_decide_eq_true zas
                obtain ⟨ad118, e118, hx118_0⟩ := Kd.at_string HR116_1.out x5_4 p118 q118
                cases e118
                replace hx118_0 := (HB.out.cell (World.block_lt_of_cell? w _ hx118_0)).trans hx118_0
                replace p118 := eq_true p118
                replace q118 := eq_true q118
                go_wp2
                go_roundg k4
                case measure => have := HJ1.out; have := HK2.out; have := HJ9.out; have := HK4.out; omega
                case rel => exact ⟨(wrap64 (x5_4 + 1)), (by first | rfl | (simp; done) | (simp [*]; done)), H', ⟨by have := HJ1.out; have := HK2.out; have := HJ9.out; have := HK4.out; omega⟩, ⟨zb BK115⟩, ⟨zb BK117⟩, ⟨zg HB⟩⟩
              ·rw [if_neg c25] at H
               exact absurd H (by simp)
             ·rw [if_neg c24] at H
              have c24b0 : decide (x5_4 < (((rd_T66 l0_1 x3_2).f1).length : Int)) = false := decide_eq_false c24
              clear c24
              have H' := Aside0.mk H
              clear H
              have hnb31 := NB117_115.out
              have hnc31 := NB115_117.out
              have hcz32_0 : wr.cell? ⟨gb117, 0, none⟩ = some (.string ((rd_T66 l0_1 x3_2).f0)) := (blk_cell BK117.out 0).trans rfl
              have hcz32_1 : wr.cell? ⟨gb117, 1, none⟩ = some (.slice A116_1 ((rd_T66 l0_1 x3_2).f1).length c116_1) := (blk_cell BK117.out 1).trans rfl
              have hcz32_2 : wr.cell? ⟨gb117, 2, none⟩ = some (.slice A116_2 ((rd_T66 l0_1 x3_2).f2).length c116_2) := (blk_cell BK117.out 2).trans rfl
              have hfz32_0 := blk_frozen BK117.out 0
              have hfz32_1 := blk_frozen BK117.out 1
              have hfz32_2 := blk_frozen BK117.out 2
              go_wp2
              go_loopg [6] k4 (fun kq v6 w' => ∃ (x6_5 : Int), v6 = .int .i64 x6_5 ∧ Aside0 (spec_l06Fits.l2 kq x3_2 x6_5 a0_0 l0_1 ((rd_T66 l0_1 x3_2).f0) ((rd_T66 l0_1 x3_2).f1) ((rd_T66 l0_1 x3_2).f2) = some r) ∧ Aside0 (kq ≤ k4) ∧ Aside0 (w'.heap[gb115]? = some (.cells #[.string a0_0, (.slice (some ad116) l0_1.length c0_1)] 31 (0, 0))) ∧ Aside0 (w'.heap[gb117]? = some (.cells #[.string ((rd_T66 l0_1 x3_2).f0), (.slice A116_1 ((rd_T66 l0_1 x3_2).f1).length c116_1), (.slice A116_2 ((rd_T66 l0_1 x3_2).f2).length c116_2)] 66 (0, 0))) ∧ Aside0 (Below w.heap.size w w'))
              case atStart => exact ⟨(0), (by first | rfl | (simp; done) | (simp [*]; done)), H', ⟨Nat.le_refl _⟩, ⟨zb BK115⟩, ⟨zb BK117⟩, ⟨zg HB⟩⟩
              case round =>
               clear H'
               try clear c1
               try clear p1
               try clear q1
               try clear hx1
               try clear c2
               try clear p2
               try clear c3
               try clear c4
               try clear c4b0
               try clear c4b1
               try clear p6
               try clear c7
               try clear c8
               try clear c8b0
               try clear c9
               try clear c9b0
               try clear c11
               try clear p11
               try clear q11
               try clear hx11
               try clear c13
               try clear c15
               try clear c15b0
               try clear c15b1
               try clear c16
               try clear c18
               try clear c18b0
               try clear c18b1
               try clear c19
               try clear c21
               try clear c23
               try clear c24
               try clear c24b0
               try clear c25
               try clear c25b0
               try clear c26
               try clear c26b0
               try clear c26b1
               try clear c27
               try clear c29
               try clear c31
               try clear hcz11_0
               try clear hcz11_1
               try clear hcz14_0
               try clear hcz14_1
               try clear hcz14_2
               try clear hcz17_0
               try clear hcz17_1
               try clear hcz17_2
               try clear hcz20_0
               try clear hcz20_1
               try clear hcz20_2
               try clear hcz22_0
               try clear hcz22_1
               try clear hcz22_2
               try clear hcz28_0
               try clear hcz28_1
               try clear hcz28_2
               try clear hcz30_0
               try clear hcz30_1
               try clear hcz30_2
               try clear hcz32_0
               try clear hcz32_1
               try clear hcz32_2
               try clear hcz5_0
               try clear hcz5_1
               try clear hcz6_0
               try clear hcz6_1
               try clear hfz11_0
               try clear hfz11_1
               try clear hfz14_0
               try clear hfz14_1
               try clear hfz14_2
               try clear hfz17_0
               try clear hfz17_1
               try clear hfz17_2
               try clear hfz20_0
               try clear hfz20_1
               try clear hfz20_2
               try clear hfz22_0
               try clear hfz22_1
               try clear hfz22_2
               try clear hfz28_0
               try clear hfz28_1
               try clear hfz28_2
               try clear hfz30_0
               try clear hfz30_1
               try clear hfz30_2
               try clear hfz32_0
               try clear hfz32_1
               try clear hfz32_2
               try clear hfz5_0
               try clear hfz5_1
               try clear hfz6_0
               try clear hfz6_1
               try clear hx116_0
               try clear hx116_1
               try clear hx116_2
               try clear hx118_0
               try clear p1
               try clear p11
               try clear p116
               try clear p118
               try clear p2
               try clear q1
               try clear q11
               try clear q116
               try clear q118
               obtain ⟨x6_5, rfl, HA, HK5, BK115, BK117, HB⟩ := hrel
               cases gk with
               | zero => exact absurd HA.out (by simp [spec_l06Fits.l2])
               | succ k5 =>
                have H := HA.out
                clear HA
                simp only [spec_l06Fits.l2] at H
                by_cases c33 : x6_5 < (((rd_T66 l0_1 x3_2).f2).length : Int)
                ·rw [if_pos c33] at H
                 have c33b0 : decide (x6_5 < (((rd_T66 l0_1 x3_2).f2).length : Int)) = true := decide_eq_true c33
                 clear c33
                 by_cases c34 : 0 ≤ x6_5
                 ·rw [if_pos c34] at H
                  have c34b0 : decide (0 ≤ x6_5) = true := decide_eq_true c34
                  clear c34
                  by_cases c35 : (rd ((rd_T66 l0_1 x3_2).f2) x6_5) < (-1000000000000)
                  ·rw [if_pos c35] at H
                   have c35b0 : decide ((rd ((rd_T66 l0_1 x3_2).f2) x6_5) < (-1000000000000)) = true := decide_eq_true c35
                   clear c35
                   obtain rfl := Option.some.inj H
                   have hnb36 := NB117_115.out
                   have hnc36 := NB115_117.out
                   have hcz37_0 : wr.cell? ⟨gb117, 0, none⟩ = some (.string ((rd_T66 l0_1 x3_2).f0)) := (blk_cell BK117.out 0).trans rfl
                   have hcz37_1 : wr.cell? ⟨gb117, 1, none⟩ = some (.slice A116_1 ((rd_T66 l0_1 x3_2).f1).length c116_1) := (blk_cell BK117.out 1).trans rfl
                   have hcz37_2 : wr.cell? ⟨gb117, 2, none⟩ = some (.slice A116_2 ((rd_T66 l0_1 x3_2).f2).length c116_2) := (blk_cell BK117.out 2).trans rfl
                   have hfz37_0 := blk_frozen BK117.out 0
                   have hfz37_1 := blk_frozen BK117.out 1
                   have hfz37_2 := blk_frozen BK117.out 2
                   have p119 : 0 ≤ (x6_5 : Int) := of_decide_eq_true zas
                   have q119 : x6_5 < (((rd_T66 l0_1 x3_2).f2).length : Int) := of_decide_eq_true zas
                   obtain ⟨ad119, e119, hx119_0⟩ := Kd.at_int HR116_2.out x6_5 p119 q119
                   cases e119
                   replace hx119_0 := (HB.out.cell (World.block_lt_of_cell? w _ hx119_0)).trans hx119_0
                   replace p119 := eq_true p119
                   replace q119 := eq_true q119
                   go_wp2
                   go_ret
                   exact ⟨zre, zg HB⟩
                  ·rw [if_neg c35] at H
                   have c35b0 : decide ((rd ((rd_T66 l0_1 x3_2).f2) x6_5) < (-1000000000000)) = false := decide_eq_false c35
                   clear c35
                   by_cases c38 : (rd ((rd_T66 l0_1 x3_2).f2) x6_5) > 1000000000000
                   ·rw [if_pos c38] at H
                    have c38b0 : decide (1000000000000 < (rd ((rd_T66 l0_1 x3_2).f2) x6_5)) = true := decide_eq_true c38
                    clear c38
                    obtain rfl := Option.some.inj H
                    have hnb39 := NB117_115.out
                    have hnc39 := NB115_117.out
                    have hcz40_0 : wr.cell? ⟨gb117, 0, none⟩ = some (.string ((rd_T66 l0_1 x3_2).f0)) := (blk_cell BK117.out 0).trans rfl
                    have hcz40_1 : wr.cell? ⟨gb117, 1, none⟩ = some (.slice A116_1 ((rd_T66 l0_1 x3_2).f1).length c116_1) := (blk_cell BK117.out 1).trans rfl
                    have hcz40_2 : wr.cell? ⟨gb117, 2, none⟩ = some (.slice A116_2 ((rd_T66 l0_1 x3_2).f2).length c116_2) := (blk_cell BK117.out 2).trans rfl
                    have hfz40_0 := blk_frozen BK117.out 0
                    have hfz40_1 := blk_frozen BK117.out 1
                    have hfz40_2 := blk_frozen BK117.out 2
                    have p119 : 0 ≤ (x6_5 : Int) := of_decide_eq_true zas
                    have q119 : x6_5 < (((rd_T66 l0_1 x3_2).f2).length : Int) := of_decide_eq_true zas
                    obtain ⟨ad119, e119, hx119_0⟩ := Kd.at_int HR116_2.out x6_5 p119 q119
                    cases e119
                    replace hx119_0 := (HB.out.cell (World.block_lt_of_cell? w _ hx119_0)).trans hx119_0
                    replace p119 := eq_true p119
                    replace q119 := eq_true q119
                    have p120 : 0 ≤ (x6_5 : Int) := of_decide_eq_true zas
                    have q120 : x6_5 < (((rd_T66 l0_1 x3_2).f2).length : Int) := of_decide_eq_true zas
                    obtain ⟨ad120, e120, hx120_0⟩ := Kd.at_int HR116_2.out x6_5 p120 q120
                    obtain rfl : ad119 = ad120 := (by injection e120)
                    replace hx120_0 := (HB.out.cell (World.block_lt_of_cell? w _ hx120_0)).trans hx120_0
                    replace p120 := eq_true p120
                    replace q120 := eq_true q120
                    go_wp2
                    go_ret
                    exact ⟨zre, zg HB⟩
                   ·rw [if_neg c38] at H
                    have c38b0 : decide (1000000000000 < (rd ((rd_T66 l0_1 x3_2).f2) x6_5)) = false := decide_eq_false c38
                    clear c38
                    have H' := Aside0.mk H
                    clear H
                    have hnb41 := NB117_115.out
                    have hnc41 := NB115_117.out
                    have hcz42_0 : wr.cell? ⟨gb117, 0, none⟩ = some (.string ((rd_T66 l0_1 x3_2).f0)) := (blk_cell BK117.out 0).trans rfl
                    have hcz42_1 : wr.cell? ⟨gb117, 1, none⟩ = some (.slice A116_1 ((rd_T66 l0_1 x3_2).f1).length c116_1) := (blk_cell BK117.out 1).trans rfl
                    have hcz42_2 : wr.cell? ⟨gb117, 2, none⟩ = some (.slice A116_2 ((rd_T66 l0_1 x3_2).f2).length c116_2) := (blk_cell BK117.out 2).trans rfl
                    have hfz42_0 := blk_frozen BK117.out 0
                    have hfz42_1 := blk_frozen BK117.out 1
                    have hfz42_2 := blk_frozen BK117.out 2
                    have p119 : 0 ≤ (x6_5 : Int) := of_decide_eq_true zas
                    have q119 : x6_5 < (((rd_T66 l0_1 x3_2).f2).length : Int) := of_decide_eq_true zas
                    obtain ⟨ad119, e119, hx119_0⟩ := Kd.at_int HR116_2.out x6_5 p119 q119
                    cases e119
                    replace hx119_0 := (HB.out.cell (World.block_lt_of_cell? w _ hx119_0)).trans hx119_0
                    replace p119 := eq_true p119
                    replace q119 := eq_true q119
                    have p120 : 0 ≤ (x6_5 : Int) := of_decide_eq_true zas
                    have q120 : x6_5 < (((rd_T66 l0_1 x3_2).f2).length : Int) := of_decide_eq_true zas
                    obtain ⟨ad120, e120, hx120_0⟩ := Kd.at_int HR116_2.out x6_5 p120 q120
                    obtain rfl : ad119 = ad120 := (by injection e120)
                    replace hx120_0 := (HB.out.cell (World.block_lt_of_cell? w _ hx120_0)).trans hx120_0
                    replace p120 := eq_true p120
                    replace q120 := eq_true q120
                    go_wp2
                    go_roundg k5
                    case measure => have := HJ1.out; have := HK2.out; have := HJ9.out; have := HK4.out; have := HK5.out; omega
                    case rel => exact ⟨(wrap64 (x6_5 + 1)), (by first | rfl | (simp; done) | (simp [*]; done)), H', ⟨by have := HJ1.out; have := HK2.out; have := HJ9.out; have := HK4.out; have := HK5.out; omega⟩, ⟨zb BK115⟩, ⟨zb BK117⟩, ⟨zg HB⟩⟩
                 ·rw [if_neg c34] at H
                  exact absurd H (by simp)
                ·rw [if_neg c33] at H
                 have c33b0 : decide (x6_5 < (((rd_T66 l0_1 x3_2).f2).length : Int)) = false := decide_eq_false c33
                 clear c33
                 have H' := Aside0.mk H
                 clear H
                 have hnb43 := NB117_115.out
                 have hnc43 := NB115_117.out
                 have hcz44_0 : wr.cell? ⟨gb117, 0, none⟩ = some (.string ((rd_T66 l0_1 x3_2).f0)) := (blk_cell BK117.out 0).trans rfl
                 have hcz44_1 : wr.cell? ⟨gb117, 1, none⟩ = some (.slice A116_1 ((rd_T66 l0_1 x3_2).f1).length c116_1) := (blk_cell BK117.out 1).trans rfl
                 have hcz44_2 : wr.cell? ⟨gb117, 2, none⟩ = some (.slice A116_2 ((rd_T66 l0_1 x3_2).f2).length c116_2) := (blk_cell BK117.out 2).trans rfl
                 have hfz44_0 := blk_frozen BK117.out 0
                 have hfz44_1 := blk_frozen BK117.out 1
                 have hfz44_2 := blk_frozen BK117.out 2
                 go_wp2
                 go_roundg k5
                 case measure => have := HJ1.out; have := HK2.out; have := HJ9.out; have := HK4.out; have := HK5.out; omega
                 case rel => exact ⟨(wrap64 (x3_2 + 1)), (by first | rfl | (simp; done) | (simp [*]; done)), H', ⟨by have := HJ1.out; have := HK2.out; have := HJ9.out; have := HK4.out; have := HK5.out; omega⟩, ⟨zb BK115⟩, ⟨zg HB⟩⟩
       ·rw [if_neg c9] at H
        exact absurd H (by simp)
      ·rw [if_neg c8] at H
       have c8b0 : decide (x3_2 < (l0_1.length : Int)) = false := decide_eq_false c8
       clear c8
       obtain rfl := Option.some.inj H
       have hcz45_0 : wr.cell? ⟨gb115, 0, none⟩ = some (.string a0_0) := (blk_cell BK115.out 0).trans rfl
       have hcz45_1 : wr.cell? ⟨gb115, 1, none⟩ = some (.slice A0_1 l0_1.length c0_1) := (blk_cell BK115.out 1).trans rfl
       have hfz45_0 := blk_frozen BK115.out 0
       have hfz45_1 := blk_frozen BK115.out 1
       go_wp2
       go_ret
       exact ⟨zre, zg HB⟩

end Go.Proofs.Ytnpdmleglcbobaa.XFnExactRecordBytes
