-- A text of this session: written by its own program (wip/x/xprint.py), which runs the kit's printer with contracts of its own.
import Derived.Test.YtnpdmleglcbobaaXFnExactRecordBytesx0
import Derived.Test.YtnpdmleglcbobaaXFnExactRecordBytesx7
import Derived.Test.YtnpdmleglcbobaaXFnExactRecordBytesx8
namespace Go.Proofs.Ytnpdmleglcbobaa.XFnExactRecordBytes
open Go.RowKit Go.Proofs.YtnpdmleglcbobaaW.PrintWords Go.Proofs.YtnpdmleglcbobaaW.PrintLast Go.Proofs.YtnpdmleglcbobaaW.PrintMore
attribute [local go_sem] max2_int min2_int max_two min_two max_three min_three max_four min_four   -- for this text's walks alone
set_option linter.unusedVariables false
set_option linter.unusedSimpArgs false

/-! ### impl_RecordBytes: function 24 -/
mutual
def impl_RecordBytes.j0 : Nat → Bool → Int → Int → ByteArray → ByteArray → List (S66) → Option (List Int × Int)
 | 0, _, _, _, _, _, _ => none
 | k + 1, x18, x358000, x358001, x358002, x358003, x358004 => if x18 = true then (some (([] : List Int), 1)) else ((impl_PutInt.f k x358001).bind fun bt358 => ((some (([(x358000) % 256] : List Int) : List Int)).bind fun y362 => (if y362.length + bt358.1.length < 140737488355328 then ((some (y362 ++ bt358.1 : List Int)).bind fun y365 => (if x358000 = 1 then ((impl_DocBytes.f k x358003 x358004).bind fun bt368 => (if bt368.2 = 0 then ((impl_oIdOk.f k x358003).bind fun t372 => (if t372 = true then (if x358002.toList = ([] : List UInt8) then (if y365.length + bt368.1.length < 140737488355328 then (impl_RecordBytes.j1 k (y365 ++ bt368.1)) else (none)) else (some (([] : List Int), 1))) else (some (([] : List Int), 1)))) else (some (([] : List Int), 1)))) else (if x358000 = 2 then ((impl_oIdOk.f k x358002).bind fun t376 => (if t376 = true then ((impl_oZeroDoc.f x358003 x358004).bind fun t377 => (if t377 = true then (if y365.length + x358002.size < 140737488355328 then (impl_RecordBytes.j1 k (y365 ++ bytesOf x358002)) else (none)) else (some (([] : List Int), 1)))) else (some (([] : List Int), 1)))) else (some (([] : List Int), 1))))) else (none))))
def impl_RecordBytes.j1 : Nat → List Int → Option (List Int × Int)
 | 0, _ => none
 | k + 1, x6 => (impl_PutInt.f k (x6.length : Int)).bind fun bt381 => (if (wrap64 ((wrap64 ((bt381.1.length : Int) + (x6.length : Int))) + 4)) > 1048576 then (some (([] : List Int), 2)) else (if bt381.1.length + x6.length < 140737488355328 then ((some (bt381.1 ++ x6 : List Int)).bind fun y385 => ((impl_Sum32.f k x6).bind fun t388 => ((impl_oFour.f t388).bind fun t389 => (if y385.length + t389.length < 140737488355328 then (some ((y385 ++ t389), 0)) else (none))))) else (none)))
end
def impl_RecordBytes.f (k : Nat) (a0_0 : Int) (a0_1 : Int) (a0_2 : ByteArray) (a0_3 : ByteArray) (l0_4 : List (S66)) : Option (List Int × Int) := if a0_1 < 1 then (impl_RecordBytes.j0 k true a0_0 a0_1 a0_2 a0_3 l0_4) else (impl_RecordBytes.j0 k (decide (a0_1 > 4611686018427387903)) a0_0 a0_1 a0_2 a0_3 l0_4)
theorem impl_RecordBytes.mono_l : ∀ k, (∀ y0 y1 y2 y3 y4 y5, LeO (impl_RecordBytes.j0 k y0 y1 y2 y3 y4 y5) (impl_RecordBytes.j0 (k + 1) y0 y1 y2 y3 y4 y5)) ∧ (∀ y0, LeO (impl_RecordBytes.j1 k y0) (impl_RecordBytes.j1 (k + 1) y0))
 | 0 => ⟨fun _ _ _ _ _ _ r h => by simp [impl_RecordBytes.j0] at h, fun _ r h => by simp [impl_RecordBytes.j1] at h⟩
 | k + 1 => by
  obtain ⟨ih0, ih1⟩ := impl_RecordBytes.mono_l k
  refine ⟨?_, ?_⟩
  ·intro y0 y1 y2 y3 y4 y5
   unfold impl_RecordBytes.j0
   repeat' first
   | (with_reducible exact ih0 _ _ _ _ _ _)
   | (with_reducible exact ih1 _)
   | (with_reducible exact impl_DocBytes.mono _ _ _)
   | (with_reducible exact impl_PutInt.mono _ _)
   | (with_reducible exact impl_Sum32.mono _ _)
   | (with_reducible exact impl_oIdOk.mono _ _)
   | (with_reducible exact LeO.refl _)
   | (with_reducible exact LeO.none _)
   | (with_reducible refine LeO.ite ?_ ?_)
   | (with_reducible refine LeO.bind ?_ (fun _ => ?_))
   | exact ih0 _ _ _ _ _ _
   | exact ih1 _
   | exact impl_DocBytes.mono _ _ _
   | exact impl_PutInt.mono _ _
   | exact impl_Sum32.mono _ _
   | exact impl_oIdOk.mono _ _
   | exact LeO.none _
   | refine LeO.ite ?_ ?_
   | refine LeO.bind ?_ (fun _ => ?_)
  ·intro y0
   unfold impl_RecordBytes.j1
   repeat' first
   | (with_reducible exact ih0 _ _ _ _ _ _)
   | (with_reducible exact ih1 _)
   | (with_reducible exact impl_DocBytes.mono _ _ _)
   | (with_reducible exact impl_PutInt.mono _ _)
   | (with_reducible exact impl_Sum32.mono _ _)
   | (with_reducible exact impl_oIdOk.mono _ _)
   | (with_reducible exact LeO.refl _)
   | (with_reducible exact LeO.none _)
   | (with_reducible refine LeO.ite ?_ ?_)
   | (with_reducible refine LeO.bind ?_ (fun _ => ?_))
   | exact ih0 _ _ _ _ _ _
   | exact ih1 _
   | exact impl_DocBytes.mono _ _ _
   | exact impl_PutInt.mono _ _
   | exact impl_Sum32.mono _ _
   | exact impl_oIdOk.mono _ _
   | exact LeO.none _
   | refine LeO.ite ?_ ?_
   | refine LeO.bind ?_ (fun _ => ?_)
theorem impl_RecordBytes.mono : ∀ a0 a1 a2 a3 a4 k, LeO (impl_RecordBytes.f k a0 a1 a2 a3 a4) (impl_RecordBytes.f (k + 1) a0 a1 a2 a3 a4) := by
 intro a0 a1 a2 a3 a4 k
 obtain ⟨ih0, ih1⟩ := impl_RecordBytes.mono_l k
 unfold impl_RecordBytes.f
 repeat' first
  | (with_reducible exact ih0 _ _ _ _ _ _)
  | (with_reducible exact ih1 _)
  | (with_reducible exact impl_DocBytes.mono _ _ _)
  | (with_reducible exact impl_PutInt.mono _ _)
  | (with_reducible exact impl_Sum32.mono _ _)
  | (with_reducible exact impl_oIdOk.mono _ _)
  | (with_reducible exact LeO.refl _)
  | (with_reducible exact LeO.none _)
  | (with_reducible refine LeO.ite ?_ ?_)
  | (with_reducible refine LeO.bind ?_ (fun _ => ?_))
  | exact ih0 _ _ _ _ _ _
  | exact ih1 _
  | exact impl_DocBytes.mono _ _ _
  | exact impl_PutInt.mono _ _
  | exact impl_Sum32.mono _ _
  | exact impl_oIdOk.mono _ _
  | exact LeO.none _
  | refine LeO.ite ?_ ?_
  | refine LeO.bind ?_ (fun _ => ?_)
set_option maxHeartbeats 8000000 in
set_option maxRecDepth 100000 in
theorem impl_RecordBytes.calls (k : Nat) (a0_0 : Int) (a0_1 : Int) (a0_2 : ByteArray) (a0_3 : ByteArray) (A0_4 : Option Addr) (c0_4 : Nat) (l0_4 : List (S66)) (r1 : List Int) (r2 : Int) (w : World) (hr0_4 : Kd.C k66 w A0_4 l0_4.length l0_4) (hc0_4 : l0_4.length ≤ c0_4) (h : impl_RecordBytes.f k a0_0 a0_1 a0_2 a0_3 l0_4 = some (r1, r2)) :
 Calls Try.prog 24 #[.agg #[.int .i64 a0_0, .int .i64 a0_1, .string a0_2, .string a0_3, .slice A0_4 l0_4.length c0_4]] w fun e w' => ∃ v0_ : Value, e = .returned (.tuple #[v0_, .int .i64 r2]) ∧ Kd.R (Kd.int .u8) 5 w' w.heap.size (fun _ => True) v0_ r1 ∧ Below w.heap.size w w' := by
 have hu47 := Try.underlying47
 have hu31 := Try.underlying31
 have HR0_4 := Aside0.mk hr0_4
 have HC0_4 := Aside0.mk hc0_4
 clear hr0_4 hc0_4
 have HB := Aside0.mk (Below.refl w.heap.size w)
 have H : (if a0_1 < 1 then (impl_RecordBytes.j0 k true a0_0 a0_1 a0_2 a0_3 l0_4) else (impl_RecordBytes.j0 k (decide (a0_1 > 4611686018427387903)) a0_0 a0_1 a0_2 a0_3 l0_4)) = some (r1, r2) := h
 clear h
 have HC2 := Aside0.mk H
 clear H
 go_enter Try.func24, Try.ntmps24
 go_upto_region 1 with (first | ((with_reducible refine gate_dst (N := 1) rfl ?_); refine box_event ?hg (N := 1) ?hd (cs := #[.int .i64 a0_0, .int .i64 a0_1, .string a0_2, .string a0_3, .slice A0_4 l0_4.length c0_4]) (t := 47) ?hr ?_; (case hd => rfl); (case hg => rfl); (case hr => first | (go_simp; done) | (go_simp; rfl)); intro gb357 hg w3 hbox hb; have n0_ := Aside0.mk (below_step (zh HB) hb); have n1_ := Aside0.mk (hbox); have n2_ := Aside0.mk ((by rw [hg]; exact (below_size (zh HB)) : w.heap.size ≤ gb357)); have n3_ := Aside0.mk ((by rw [hg]; exact (below_size (zh HB)) : w.heap.size ≤ gb357)); clear HB; have HB := n0_; have BK357 := n1_; have GW357 := n2_; have GE357 := n3_; clear n0_ n1_ n2_ n3_; clear hb hbox hg))
 (try simp only [Act.put, List.setIfInBounds_toArray, List.set_cons_zero, List.set_cons_succ])
 go_cut [18] (fun v18 wc => ∃ (kq : Nat) (x18_1 : Bool), v18 = .bool x18_1 ∧ Aside0 (impl_RecordBytes.j0 kq x18_1 a0_0 a0_1 a0_2 a0_3 l0_4 = some (r1, r2)) ∧ Aside0 (kq ≤ k) ∧ Aside0 (wc.heap[gb357]? = some (.cells #[.int .i64 a0_0, .int .i64 a0_1, .string a0_2, .string a0_3, (.slice A0_4 l0_4.length c0_4)] 47 (0, 0))) ∧ Aside0 (Below w.heap.size w wc))
 case first =>
  have H := HC2.out
  clear HC2
  by_cases c4 : a0_1 < 1
  ·rw [if_pos c4] at H
   have c4b0 : decide (a0_1 < 1) = true := decide_eq_true c4
   clear c4
   (first | rw [c4b0] | (simp only [i64_w, i32_w]; rw [c4b0]) | skip)
   have H' := Aside0.mk H
   clear H
   have hcz5_0 : w3.cell? ⟨gb357, 0, none⟩ = some (.int .i64 a0_0) := (blk_cell BK357.out 0).trans rfl
   have hcz5_1 : w3.cell? ⟨gb357, 1, none⟩ = some (.int .i64 a0_1) := (blk_cell BK357.out 1).trans rfl
   have hcz5_2 : w3.cell? ⟨gb357, 2, none⟩ = some (.string a0_2) := (blk_cell BK357.out 2).trans rfl
   have hcz5_3 : w3.cell? ⟨gb357, 3, none⟩ = some (.string a0_3) := (blk_cell BK357.out 3).trans rfl
   have hcz5_4 : w3.cell? ⟨gb357, 4, none⟩ = some (.slice A0_4 l0_4.length c0_4) := (blk_cell BK357.out 4).trans rfl
   have hfz5_0 := blk_frozen BK357.out 0
   have hfz5_1 := blk_frozen BK357.out 1
   have hfz5_2 := blk_frozen BK357.out 2
   have hfz5_3 := blk_frozen BK357.out 3
   have hfz5_4 := blk_frozen BK357.out 4
   go_wp2
   go_meet
   case rel => exact ⟨_, (true), (by first | rfl | (simp; done) | (simp [*]; done)), H', ⟨by first | omega | exact Nat.le_refl _⟩, ⟨zb BK357⟩, ⟨zg HB⟩⟩
  ·rw [if_neg c4] at H
   have c4b0 : decide (a0_1 < 1) = false := decide_eq_false c4
   clear c4
   (first | rw [c4b0] | (simp only [i64_w, i32_w]; rw [c4b0]) | skip)
   have H' := Aside0.mk H
   clear H
   have hcz6_0 : w3.cell? ⟨gb357, 0, none⟩ = some (.int .i64 a0_0) := (blk_cell BK357.out 0).trans rfl
   have hcz6_1 : w3.cell? ⟨gb357, 1, none⟩ = some (.int .i64 a0_1) := (blk_cell BK357.out 1).trans rfl
   have hcz6_2 : w3.cell? ⟨gb357, 2, none⟩ = some (.string a0_2) := (blk_cell BK357.out 2).trans rfl
   have hcz6_3 : w3.cell? ⟨gb357, 3, none⟩ = some (.string a0_3) := (blk_cell BK357.out 3).trans rfl
   have hcz6_4 : w3.cell? ⟨gb357, 4, none⟩ = some (.slice A0_4 l0_4.length c0_4) := (blk_cell BK357.out 4).trans rfl
   have hfz6_0 := blk_frozen BK357.out 0
   have hfz6_1 := blk_frozen BK357.out 1
   have hfz6_2 := blk_frozen BK357.out 2
   have hfz6_3 := blk_frozen BK357.out 3
   have hfz6_4 := blk_frozen BK357.out 4
   go_wp2
   go_meet
   case rel => exact ⟨_, (decide (a0_1 > 4611686018427387903)), (by first | rfl | (simp; done) | (simp [*]; done)), H', ⟨by first | omega | exact Nat.le_refl _⟩, ⟨zb BK357⟩, ⟨zg HB⟩⟩
 case rest =>
  clear HC2
  try clear c2
  try clear p2
  try clear c4
  try clear c4b0
  try clear hcz5_0
  try clear hcz5_1
  try clear hcz5_2
  try clear hcz5_3
  try clear hcz5_4
  try clear hcz6_0
  try clear hcz6_1
  try clear hcz6_2
  try clear hcz6_3
  try clear hcz6_4
  try clear hfz5_0
  try clear hfz5_1
  try clear hfz5_2
  try clear hfz5_3
  try clear hfz5_4
  try clear hfz6_0
  try clear hfz6_1
  try clear hfz6_2
  try clear hfz6_3
  try clear hfz6_4
  obtain ⟨kq, x18_1, rfl, HA, HJ1, BK357, HB⟩ := hcut
  cases kq with
  | zero => exact absurd HA.out (by simp [impl_RecordBytes.j0])
  | succ kj1 =>
   have H := HA.out
   clear HA
   simp only [impl_RecordBytes.j0] at H
   by_cases c7 : x18_1 = true
   ·subst c7
    have H1 : (some (([] : List Int), 1)) = some (r1, r2) := by rw [if_pos rfl] at H; exact H
    clear H
    have H := H1
    clear H1
    simp only [Option.some.injEq, Prod.mk.injEq] at H
    obtain ⟨rfl, rfl⟩ := H
    go_wp2
    go_ret2
    exact ⟨_, zre, by first | exact Kd.R_nil _ _ _ _ _ | exact Kd.N_nil _ _ _ _ _ | exact Kd.V_nil _ _ _ _ _ | exact Kd.Q_nil _ _ _ _ _ | exact Kd.S_nil _ _ _ _ _, zg HB⟩
   ·replace c7 := Bool.eq_false_iff.mpr c7
    subst c7
    have H1 : ((impl_PutInt.f kj1 a0_1).bind fun bt358 => ((some (([(a0_0) % 256] : List Int) : List Int)).bind fun y362 => (if y362.length + bt358.1.length < 140737488355328 then ((some (y362 ++ bt358.1 : List Int)).bind fun y365 => (if a0_0 = 1 then ((impl_DocBytes.f kj1 a0_3 l0_4).bind fun bt368 => (if bt368.2 = 0 then ((impl_oIdOk.f kj1 a0_3).bind fun t372 => (if t372 = true then (if a0_2.toList = ([] : List UInt8) then (if y365.length + bt368.1.length < 140737488355328 then (impl_RecordBytes.j1 kj1 (y365 ++ bt368.1)) else (none)) else (some (([] : List Int), 1))) else (some (([] : List Int), 1)))) else (some (([] : List Int), 1)))) else (if a0_0 = 2 then ((impl_oIdOk.f kj1 a0_2).bind fun t376 => (if t376 = true then ((impl_oZeroDoc.f a0_3 l0_4).bind fun t377 => (if t377 = true then (if y365.length + a0_2.size < 140737488355328 then (impl_RecordBytes.j1 kj1 (y365 ++ bytesOf a0_2)) else (none)) else (some (([] : List Int), 1)))) else (some (([] : List Int), 1)))) else (some (([] : List Int), 1))))) else (none)))) = some (r1, r2) := by rw [if_neg (show ¬ (false = true) by decide)] at H; exact H
    clear H
    have H := H1
    clear H1
    replace H := Option.bind_eq_some_iff.mp H
    obtain ⟨⟨t358, t359⟩, A80, H⟩ := H
    replace H : ((some (([(a0_0) % 256] : List Int) : List Int)).bind fun y362 => (if y362.length + t358.length < 140737488355328 then ((some (y362 ++ t358 : List Int)).bind fun y365 => (if a0_0 = 1 then ((impl_DocBytes.f kj1 a0_3 l0_4).bind fun bt368 => (if bt368.2 = 0 then ((impl_oIdOk.f kj1 a0_3).bind fun t372 => (if t372 = true then (if a0_2.toList = ([] : List UInt8) then (if y365.length + bt368.1.length < 140737488355328 then (impl_RecordBytes.j1 kj1 (y365 ++ bt368.1)) else (none)) else (some (([] : List Int), 1))) else (some (([] : List Int), 1)))) else (some (([] : List Int), 1)))) else (if a0_0 = 2 then ((impl_oIdOk.f kj1 a0_2).bind fun t376 => (if t376 = true then ((impl_oZeroDoc.f a0_3 l0_4).bind fun t377 => (if t377 = true then (if y365.length + a0_2.size < 140737488355328 then (impl_RecordBytes.j1 kj1 (y365 ++ bytesOf a0_2)) else (none)) else (some (([] : List Int), 1)))) else (some (([] : List Int), 1)))) else (some (([] : List Int), 1))))) else (none))) = some (r1, r2) := H
    have A8 := Aside0.mk A80
    clear A80
    obtain ⟨y362, hy362⟩ : ∃ y_ : List Int, y_ = (([(a0_0) % 256] : List Int)) := ⟨_, rfl⟩
    replace H : (if y362.length + t358.length < 140737488355328 then ((some (y362 ++ t358 : List Int)).bind fun y365 => (if a0_0 = 1 then ((impl_DocBytes.f kj1 a0_3 l0_4).bind fun bt368 => (if bt368.2 = 0 then ((impl_oIdOk.f kj1 a0_3).bind fun t372 => (if t372 = true then (if a0_2.toList = ([] : List UInt8) then (if y365.length + bt368.1.length < 140737488355328 then (impl_RecordBytes.j1 kj1 (y365 ++ bt368.1)) else (none)) else (some (([] : List Int), 1))) else (some (([] : List Int), 1)))) else (some (([] : List Int), 1)))) else (if a0_0 = 2 then ((impl_oIdOk.f kj1 a0_2).bind fun t376 => (if t376 = true then ((impl_oZeroDoc.f a0_3 l0_4).bind fun t377 => (if t377 = true then (if y365.length + a0_2.size < 140737488355328 then (impl_RecordBytes.j1 kj1 (y365 ++ bytesOf a0_2)) else (none)) else (some (([] : List Int), 1)))) else (some (([] : List Int), 1)))) else (some (([] : List Int), 1))))) else (none)) = some (r1, r2) := by first | (rw [hy362]; with_reducible exact H) | (have H2_ := (Option.bind_some _ _).symm.trans H; rw [hy362]; with_reducible exact H2_) | (have H2_ := (Option.bind_some _ _).symm.trans H; with_reducible exact H2_) | with_reducible exact H | (rw [hy362]; exact H) | exact H
    have Ny362 := Aside0.mk hy362
    clear hy362
    by_cases c9 : y362.length + t358.length < 140737488355328
    ·rw [if_pos c9] at H
     have LMc9 := Aside0.mk c9
     clear c9
     obtain ⟨y365, hy365⟩ : ∃ y_ : List Int, y_ = (y362 ++ t358) := ⟨_, rfl⟩
     replace H : (if a0_0 = 1 then ((impl_DocBytes.f kj1 a0_3 l0_4).bind fun bt368 => (if bt368.2 = 0 then ((impl_oIdOk.f kj1 a0_3).bind fun t372 => (if t372 = true then (if a0_2.toList = ([] : List UInt8) then (if y365.length + bt368.1.length < 140737488355328 then (impl_RecordBytes.j1 kj1 (y365 ++ bt368.1)) else (none)) else (some (([] : List Int), 1))) else (some (([] : List Int), 1)))) else (some (([] : List Int), 1)))) else (if a0_0 = 2 then ((impl_oIdOk.f kj1 a0_2).bind fun t376 => (if t376 = true then ((impl_oZeroDoc.f a0_3 l0_4).bind fun t377 => (if t377 = true then (if y365.length + a0_2.size < 140737488355328 then (impl_RecordBytes.j1 kj1 (y365 ++ bytesOf a0_2)) else (none)) else (some (([] : List Int), 1)))) else (some (([] : List Int), 1)))) else (some (([] : List Int), 1)))) = some (r1, r2) := by first | (rw [hy365]; with_reducible exact H) | (have H2_ := (Option.bind_some _ _).symm.trans H; rw [hy365]; with_reducible exact H2_) | (have H2_ := (Option.bind_some _ _).symm.trans H; with_reducible exact H2_) | with_reducible exact H | (rw [hy365]; exact H) | exact H
     have Ny365 := Aside0.mk hy365
     clear hy365
     have HC10 := Aside0.mk H
     clear H
     have hcz11_0 : wc.cell? ⟨gb357, 0, none⟩ = some (.int .i64 a0_0) := (blk_cell BK357.out 0).trans rfl
     have hcz11_1 : wc.cell? ⟨gb357, 1, none⟩ = some (.int .i64 a0_1) := (blk_cell BK357.out 1).trans rfl
     have hcz11_2 : wc.cell? ⟨gb357, 2, none⟩ = some (.string a0_2) := (blk_cell BK357.out 2).trans rfl
     have hcz11_3 : wc.cell? ⟨gb357, 3, none⟩ = some (.string a0_3) := (blk_cell BK357.out 3).trans rfl
     have hcz11_4 : wc.cell? ⟨gb357, 4, none⟩ = some (.slice A0_4 l0_4.length c0_4) := (blk_cell BK357.out 4).trans rfl
     have hfz11_0 := blk_frozen BK357.out 0
     have hfz11_1 := blk_frozen BK357.out 1
     have hfz11_2 := blk_frozen BK357.out 2
     have hfz11_3 := blk_frozen BK357.out 3
     have hfz11_4 := blk_frozen BK357.out 4
     go_upto_block 0 with (first | ((with_reducible refine gate_callee (f := 48) rfl ?_); refine goesL_ (some 22) rfl rfl Try.func48 (by kernel_rfl) rfl #[.int .i64 a0_1] rfl zar ?_; (with_reducible refine (impl_PutInt.calls kj1 a0_1 t358 t359 _ A8.out).mono ?_); rintro e w12 ⟨v360, rfl, ho0, hb⟩; refine ⟨_, rfl, ?_⟩; have n0_ := Aside0.mk (Kd.R_lower ho0 (below_size (zg HB))); have n1_ := Aside0.mk (blk_below (zb BK357) hb); have n2_ := Aside0.mk (below_step (zg HB) hb); clear BK357; clear HB; have HO361 := n0_; have BK357 := n1_; have HB := n2_; clear n0_ n1_ n2_; (try clear hb); (try clear hb2); (try clear hk); (try clear hi); (try clear ho0); have hcz13_0 : w12.cell? ⟨gb357, 0, none⟩ = some (.int .i64 a0_0) := (blk_cell BK357.out 0).trans rfl; have hcz13_1 : w12.cell? ⟨gb357, 1, none⟩ = some (.int .i64 a0_1) := (blk_cell BK357.out 1).trans rfl; have hcz13_2 : w12.cell? ⟨gb357, 2, none⟩ = some (.string a0_2) := (blk_cell BK357.out 2).trans rfl; have hcz13_3 : w12.cell? ⟨gb357, 3, none⟩ = some (.string a0_3) := (blk_cell BK357.out 3).trans rfl; have hcz13_4 : w12.cell? ⟨gb357, 4, none⟩ = some (.slice A0_4 l0_4.length c0_4) := (blk_cell BK357.out 4).trans rfl; have hfz13_0 := blk_frozen BK357.out 0; have hfz13_1 := blk_frozen BK357.out 1; have hfz13_2 := blk_frozen BK357.out 2; have hfz13_3 := blk_frozen BK357.out 3; have hfz13_4 := blk_frozen BK357.out 4) | ((with_reducible refine gate_dst (N := 28) rfl ?_); refine Kd.R_lit (Kd.int .u8) _ 5 ?hg (N := 28) ?hd (xs := ([(a0_0) % 256] : List Int)) (inner := [.int .u8 ((a0_0) % 256)]) (ok := fun _ => True) (okp := fun _ => True) ?hr ?hp (fun _ hk => hk) trivial (Below.refl _ _) (Nat.le_refl _) (by simp) ?_; (case hd => rfl); (case hg => rfl); (case hr => first | (go_simp; done) | (go_simp; rfl)); (case hp => exact (Reps.one (show Kd.M (Kd.int .u8) _ _ _ ((a0_0) % 256) [.int .u8 ((a0_0) % 256)] from rfl) (Reps.none _ _))); intro v363 w14 ho15 hb hg_ hnew_; clear hg_ hnew_; (first | rw [← Ny362.out] at ho15 | (simp only [Int.reduceToNat] at ho15; rw [← Ny362.out] at ho15)); have n0_ := Aside0.mk (Kd.R_elder' (zr HO361) (Kd.R_base ho15) hb); have n1_ := Aside0.mk (Kd.R_lower (Kd.R_new' ho15 (Kd.R_lt (zr HO361))) (below_size (zg HB))); have n2_ := Aside0.mk (blk_below (zb BK357) hb); have n3_ := Aside0.mk (below_step (zg HB) hb); clear HO361; clear BK357; clear HB; have HO361 := n0_; have HO364 := n1_; have BK357 := n2_; have HB := n3_; clear n0_ n1_ n2_ n3_; clear hb ho15; obtain ⟨Ao17, co17, eo17⟩ := Kd.R_slice HO361.out; subst eo17) | ((with_reducible refine gate_builtin (b := .append) (xs := #[.tmp 28, .tmp 29]) rfl ?_); at_builtin; refine Kd.R_append_rows (Kd.int .u8) (w0 := w) w.heap.size rfl (.tmp 28) (.tmp 29) 26 5 (.int .u8 0) 1 rfl Try.underlying26 info5 rfl (by decide) (by omega) v363 y362 t358 _ _ _ (fun k_ => some k_ ≠ (.slice Ao17 t358.length co17 : Value).ownBlock) (fun _ => False) rfl rfl ?aO ?aR (fun _ _ h => h) (fun _ h => h.elim) ?aF ?aB ?aS ?aL ?_; (case aR => repeat (first | exact (Kd.R_reads' HO361.out).2.2 | (with_reducible refine Kd.C_alloc ?_ _) | (with_reducible refine Kd.C_drewN ?_ _) | (with_reducible refine Kd.C_drew ?_))); (case aB => exact (zg HB)); (case aF => exact (fun k_ hk => Kd.fresh' (Kd.R_lt (zr HO361)) k_ hk)); (case aO => exact (Kd.R_mono (zr HO364) (fun _ hk => hk.2))); (case aS => exact (below_size (zg HB))); (case aL => have := LMc9.out; omega); intro v366 w16 ho hb hg hat; rw [← Ny365.out] at ho; have n0_ := Aside0.mk (blk_grown (zb BK357) hg (Kd.R_ne HO364.out BK357.out (by decide))); have n1_ := Aside0.mk (Kd.R_after (ok := (fun _ => True)) (zr HO361) hg hat); have n2_ := Aside0.mk (hb); have n3_ := Aside0.mk (ho); clear BK357; clear HO361; clear HB; clear HO364; have BK357 := n0_; have HO361 := n1_; have HB := n2_; have HO367 := n3_; clear n0_ n1_ n2_ n3_; clear ho hb hg hat; have hcz18_0 : w16.cell? ⟨gb357, 0, none⟩ = some (.int .i64 a0_0) := (blk_cell BK357.out 0).trans rfl; have hcz18_1 : w16.cell? ⟨gb357, 1, none⟩ = some (.int .i64 a0_1) := (blk_cell BK357.out 1).trans rfl; have hcz18_2 : w16.cell? ⟨gb357, 2, none⟩ = some (.string a0_2) := (blk_cell BK357.out 2).trans rfl; have hcz18_3 : w16.cell? ⟨gb357, 3, none⟩ = some (.string a0_3) := (blk_cell BK357.out 3).trans rfl; have hcz18_4 : w16.cell? ⟨gb357, 4, none⟩ = some (.slice A0_4 l0_4.length c0_4) := (blk_cell BK357.out 4).trans rfl; have hfz18_0 := blk_frozen BK357.out 0; have hfz18_1 := blk_frozen BK357.out 1; have hfz18_2 := blk_frozen BK357.out 2; have hfz18_3 := blk_frozen BK357.out 3; have hfz18_4 := blk_frozen BK357.out 4))
     (try simp only [Act.put, List.setIfInBounds_toArray, List.set_cons_zero, List.set_cons_succ])
     go_cut [6] (fun v6 wc => ∃ (kq : Nat) (x6_9 : List Int), Aside0 (impl_RecordBytes.j1 kq x6_9 = some (r1, r2)) ∧ Aside0 (kq ≤ kj1) ∧ Aside0 (Kd.R (Kd.int .u8) 5 wc w.heap.size (fun _ => True) v6 x6_9) ∧ Aside0 (wc.heap[gb357]? = some (.cells #[.int .i64 a0_0, .int .i64 a0_1, .string a0_2, .string a0_3, (.slice A0_4 l0_4.length c0_4)] 47 (0, 0))) ∧ Aside0 (Below w.heap.size w wc))
     case first =>
      have H := HC10.out
      clear HC10
      by_cases c19 : a0_0 = 1
      ·rw [if_pos c19] at H
       have c19b0 : (a0_0 == 1) = true := beq_iff_eq.mpr c19
       have c19b1 : (a0_0 != 1) = false := bne_eq_false_iff_eq.mpr c19
       clear c19
       (first | rw [c19b0] | (simp only [i64_w, i32_w]; rw [c19b0]) | skip)
       replace H := Option.bind_eq_some_iff.mp H
       obtain ⟨⟨t368, t371⟩, A200, H⟩ := H
       replace H : (if t371 = 0 then ((impl_oIdOk.f kj1 a0_3).bind fun t372 => (if t372 = true then (if a0_2.toList = ([] : List UInt8) then (if y365.length + t368.length < 140737488355328 then (impl_RecordBytes.j1 kj1 (y365 ++ t368)) else (none)) else (some (([] : List Int), 1))) else (some (([] : List Int), 1)))) else (some (([] : List Int), 1))) = some (r1, r2) := H
       have A20 := Aside0.mk A200
       clear A200
       by_cases c21 : t371 = 0
       ·rw [if_pos c21] at H
        have c21b0 : (t371 == 0) = true := beq_iff_eq.mpr c21
        have c21b1 : (t371 != 0) = false := bne_eq_false_iff_eq.mpr c21
        clear c21
        replace H := Option.bind_eq_some_iff.mp H
        obtain ⟨t372, A220, H⟩ := H
        replace H : (if t372 = true then (if a0_2.toList = ([] : List UInt8) then (if y365.length + t368.length < 140737488355328 then (impl_RecordBytes.j1 kj1 (y365 ++ t368)) else (none)) else (some (([] : List Int), 1))) else (some (([] : List Int), 1))) = some (r1, r2) := H
        have A22 := Aside0.mk A220
        clear A220
        by_cases c23 : t372 = true
        ·subst c23
         have H1 : (if a0_2.toList = ([] : List UInt8) then (if y365.length + t368.length < 140737488355328 then (impl_RecordBytes.j1 kj1 (y365 ++ t368)) else (none)) else (some (([] : List Int), 1))) = some (r1, r2) := by rw [if_pos rfl] at H; exact H
         clear H
         have H := H1
         clear H1
         by_cases c24 : a0_2.toList = ([] : List UInt8)
         ·rw [if_pos c24] at H
          have c24b0 : (a0_2.toList == ([] : List UInt8)) = true := beq_iff_eq.mpr c24
          have c24b1 : (a0_2.toList != ([] : List UInt8)) = false := bne_eq_false_iff_eq.mpr c24
          clear c24
          by_cases c25 : y365.length + t368.length < 140737488355328
          ·rw [if_pos c25] at H
           have LMc25 := Aside0.mk c25
           clear c25
           obtain ⟨y373, hy373⟩ : ∃ y_ : List Int, y_ = (y365 ++ t368) := ⟨_, rfl⟩
           replace H : (impl_RecordBytes.j1 kj1 y373) = some (r1, r2) := by first | (rw [hy373]; with_reducible exact H) | (have H2_ := (Option.bind_some _ _).symm.trans H; rw [hy373]; with_reducible exact H2_) | (have H2_ := (Option.bind_some _ _).symm.trans H; with_reducible exact H2_) | with_reducible exact H | (rw [hy373]; exact H) | exact H
           have Ny373 := Aside0.mk hy373
           clear hy373
           have H' := Aside0.mk H
           clear H
           have hcz26_0 : w16.cell? ⟨gb357, 0, none⟩ = some (.int .i64 a0_0) := (blk_cell BK357.out 0).trans rfl
           have hcz26_1 : w16.cell? ⟨gb357, 1, none⟩ = some (.int .i64 a0_1) := (blk_cell BK357.out 1).trans rfl
           have hcz26_2 : w16.cell? ⟨gb357, 2, none⟩ = some (.string a0_2) := (blk_cell BK357.out 2).trans rfl
           have hcz26_3 : w16.cell? ⟨gb357, 3, none⟩ = some (.string a0_3) := (blk_cell BK357.out 3).trans rfl
           have hcz26_4 : w16.cell? ⟨gb357, 4, none⟩ = some (.slice A0_4 l0_4.length c0_4) := (blk_cell BK357.out 4).trans rfl
           have hfz26_0 := blk_frozen BK357.out 0
           have hfz26_1 := blk_frozen BK357.out 1
           have hfz26_2 := blk_frozen BK357.out 2
           have hfz26_3 := blk_frozen BK357.out 3
           have hfz26_4 := blk_frozen BK357.out 4
           go_wp2_with (first | ((with_reducible refine gate_callee (f := 11) rfl ?_); refine goesL_ (some 38) rfl rfl Try.func11 (by kernel_rfl) rfl #[.agg #[.string a0_3, .slice A0_4 l0_4.length c0_4]] rfl zar ?_; (with_reducible refine (impl_DocBytes.calls kj1 a0_3 _ _ l0_4 t368 t371 _ ?side1 ?side2 A20.out).mono ?_); (case side1 => repeat (first | exact (Kd.C_below HR0_4.out HB.out) | (with_reducible refine Kd.C_alloc ?_ _) | (with_reducible refine Kd.C_drewN ?_ _) | (with_reducible refine Kd.C_drew ?_))); (case side2 => exact HC0_4.out); rintro e w27 ⟨v369, rfl, ho0, hb⟩; refine ⟨_, rfl, ?_⟩; have n0_ := Aside0.mk (Kd.R_elder' (zr HO361) (Kd.R_base ho0) hb); have n1_ := Aside0.mk (Kd.R_elder' (zr HO367) (Kd.R_base ho0) hb); have n2_ := Aside0.mk (Kd.R_lower (Kd.R_new' (Kd.R_new' ho0 (Kd.R_lt (zr HO361))) (Kd.R_lt (zr HO367))) (below_size (zg HB))); have n3_ := Aside0.mk (blk_below (zb BK357) hb); have n4_ := Aside0.mk (below_step (zg HB) hb); clear HO361; clear HO367; clear BK357; clear HB; have HO361 := n0_; have HO367 := n1_; have HO370 := n2_; have BK357 := n3_; have HB := n4_; clear n0_ n1_ n2_ n3_ n4_; (try clear hb); (try clear hb2); (try clear hk); (try clear hi); (try clear ho0); have hcz28_0 : w27.cell? ⟨gb357, 0, none⟩ = some (.int .i64 a0_0) := (blk_cell BK357.out 0).trans rfl; have hcz28_1 : w27.cell? ⟨gb357, 1, none⟩ = some (.int .i64 a0_1) := (blk_cell BK357.out 1).trans rfl; have hcz28_2 : w27.cell? ⟨gb357, 2, none⟩ = some (.string a0_2) := (blk_cell BK357.out 2).trans rfl; have hcz28_3 : w27.cell? ⟨gb357, 3, none⟩ = some (.string a0_3) := (blk_cell BK357.out 3).trans rfl; have hcz28_4 : w27.cell? ⟨gb357, 4, none⟩ = some (.slice A0_4 l0_4.length c0_4) := (blk_cell BK357.out 4).trans rfl; have hfz28_0 := blk_frozen BK357.out 0; have hfz28_1 := blk_frozen BK357.out 1; have hfz28_2 := blk_frozen BK357.out 2; have hfz28_3 := blk_frozen BK357.out 3; have hfz28_4 := blk_frozen BK357.out 4) | (go_at_call 49; (with_reducible refine (impl_oIdOk.calls kj1 a0_3 true _ A22.out).mono ?_); rintro e w' ⟨rfl, ⟨nd, rfl⟩⟩; obtain ⟨Ao30, co30, eo30⟩ := Kd.R_slice HO370.out; subst eo30) | ((with_reducible refine gate_builtin (b := .append) (xs := #[.tmp 55, .tmp 56]) rfl ?_); at_builtin; refine Kd.R_append_rows (Kd.int .u8) (w0 := w) w.heap.size rfl (.tmp 55) (.tmp 56) 26 5 (.int .u8 0) 1 rfl Try.underlying26 info5 rfl (by decide) (by omega) v366 y365 t368 _ _ _ (fun k_ => some k_ ≠ (.slice Ao17 t358.length co17 : Value).ownBlock ∧ some k_ ≠ (.slice Ao30 t368.length co30 : Value).ownBlock) (fun _ => False) rfl rfl ?aO ?aR (fun _ _ h => h) (fun _ h => h.elim) ?aF ?aB ?aS ?aL ?_; (case aR => repeat (first | exact (Kd.R_reads' HO370.out).2.2 | (with_reducible refine Kd.C_alloc ?_ _) | (with_reducible refine Kd.C_drewN ?_ _) | (with_reducible refine Kd.C_drew ?_))); (case aB => exact (zg HB)); (case aF => exact (fun k_ hk => ⟨Kd.fresh' (Kd.R_lt (zr HO361)) k_ hk, Kd.fresh' (Kd.R_lt (zr HO370)) k_ hk⟩)); (case aO => exact (zr HO367)); (case aS => exact (below_size (zg HB))); (case aL => have := LMc25.out; omega); intro v374 w29 ho hb hg hat; rw [← Ny373.out] at ho; have n0_ := Aside0.mk (blk_grown (zb BK357) hg (Kd.R_ne HO367.out BK357.out (by decide))); have n1_ := Aside0.mk (Kd.R_after (ok := (fun k_ => some k_ ≠ (.slice Ao30 t368.length co30 : Value).ownBlock)) (Kd.R_mono (zr HO361) (fun _ hk => ⟨hk.2, hk.1.2⟩)) hg hat); have n2_ := Aside0.mk (Kd.R_after (ok := (fun k_ => some k_ ≠ (.slice Ao17 t358.length co17 : Value).ownBlock)) (Kd.R_mono (zr HO370) (fun _ hk => ⟨hk.1.2, hk.2⟩)) hg hat); have n3_ := Aside0.mk (hb); have n4_ := Aside0.mk (ho); clear BK357; clear HO361; clear HO370; clear HB; clear HO367; have BK357 := n0_; have HO361 := n1_; have HO370 := n2_; have HB := n3_; have HO375 := n4_; clear n0_ n1_ n2_ n3_ n4_; clear ho hb hg hat))
           go_meet
           case rel => exact ⟨_, (y373), H', ⟨by have := HJ1.out; first | omega | exact Nat.le_refl _⟩, ⟨Kd.R_mono (zr HO375) (fun _ hk => trivial)⟩, ⟨zb BK357⟩, ⟨zg HB⟩⟩
          ·rw [if_neg c25] at H
           exact absurd H (by simp)
         ·rw [if_neg c24] at H
          have c24b0 : (a0_2.toList == ([] : List UInt8)) = false := beq_eq_false_iff_ne.mpr c24
          have c24b1 : (a0_2.toList != ([] : List UInt8)) = true := bne_iff_ne.mpr c24
          simp only [Option.some.injEq, Prod.mk.injEq] at H
          obtain ⟨rfl, rfl⟩ := H
          have hcz31_0 : w16.cell? ⟨gb357, 0, none⟩ = some (.int .i64 a0_0) := (blk_cell BK357.out 0).trans rfl
          have hcz31_1 : w16.cell? ⟨gb357, 1, none⟩ = some (.int .i64 a0_1) := (blk_cell BK357.out 1).trans rfl
          have hcz31_2 : w16.cell? ⟨gb357, 2, none⟩ = some (.string a0_2) := (blk_cell BK357.out 2).trans rfl
          have hcz31_3 : w16.cell? ⟨gb357, 3, none⟩ = some (.string a0_3) := (blk_cell BK357.out 3).trans rfl
          have hcz31_4 : w16.cell? ⟨gb357, 4, none⟩ = some (.slice A0_4 l0_4.length c0_4) := (blk_cell BK357.out 4).trans rfl
          have hfz31_0 := blk_frozen BK357.out 0
          have hfz31_1 := blk_frozen BK357.out 1
          have hfz31_2 := blk_frozen BK357.out 2
          have hfz31_3 := blk_frozen BK357.out 3
          have hfz31_4 := blk_frozen BK357.out 4
          go_wp2_with (first | ((with_reducible refine gate_callee (f := 11) rfl ?_); refine goesL_ (some 38) rfl rfl Try.func11 (by kernel_rfl) rfl #[.agg #[.string a0_3, .slice A0_4 l0_4.length c0_4]] rfl zar ?_; (with_reducible refine (impl_DocBytes.calls kj1 a0_3 _ _ l0_4 t368 t371 _ ?side1 ?side2 A20.out).mono ?_); (case side1 => repeat (first | exact (Kd.C_below HR0_4.out HB.out) | (with_reducible refine Kd.C_alloc ?_ _) | (with_reducible refine Kd.C_drewN ?_ _) | (with_reducible refine Kd.C_drew ?_))); (case side2 => exact HC0_4.out); rintro e w32 ⟨v369, rfl, ho0, hb⟩; refine ⟨_, rfl, ?_⟩; have n0_ := Aside0.mk (Kd.R_elder' (zr HO361) (Kd.R_base ho0) hb); have n1_ := Aside0.mk (Kd.R_elder' (zr HO367) (Kd.R_base ho0) hb); have n2_ := Aside0.mk (Kd.R_lower (Kd.R_new' (Kd.R_new' ho0 (Kd.R_lt (zr HO361))) (Kd.R_lt (zr HO367))) (below_size (zg HB))); have n3_ := Aside0.mk (blk_below (zb BK357) hb); have n4_ := Aside0.mk (below_step (zg HB) hb); clear HO361; clear HO367; clear BK357; clear HB; have HO361 := n0_; have HO367 := n1_; have HO370 := n2_; have BK357 := n3_; have HB := n4_; clear n0_ n1_ n2_ n3_ n4_; (try clear hb); (try clear hb2); (try clear hk); (try clear hi); (try clear ho0); have hcz33_0 : w32.cell? ⟨gb357, 0, none⟩ = some (.int .i64 a0_0) := (blk_cell BK357.out 0).trans rfl; have hcz33_1 : w32.cell? ⟨gb357, 1, none⟩ = some (.int .i64 a0_1) := (blk_cell BK357.out 1).trans rfl; have hcz33_2 : w32.cell? ⟨gb357, 2, none⟩ = some (.string a0_2) := (blk_cell BK357.out 2).trans rfl; have hcz33_3 : w32.cell? ⟨gb357, 3, none⟩ = some (.string a0_3) := (blk_cell BK357.out 3).trans rfl; have hcz33_4 : w32.cell? ⟨gb357, 4, none⟩ = some (.slice A0_4 l0_4.length c0_4) := (blk_cell BK357.out 4).trans rfl; have hfz33_0 := blk_frozen BK357.out 0; have hfz33_1 := blk_frozen BK357.out 1; have hfz33_2 := blk_frozen BK357.out 2; have hfz33_3 := blk_frozen BK357.out 3; have hfz33_4 := blk_frozen BK357.out 4) | (go_at_call 49; (with_reducible refine (impl_oIdOk.calls kj1 a0_3 true _ A22.out).mono ?_); rintro e w' ⟨rfl, ⟨nd, rfl⟩⟩))
          go_ret2
          exact ⟨_, zre, by first | exact Kd.R_nil _ _ _ _ _ | exact Kd.N_nil _ _ _ _ _ | exact Kd.V_nil _ _ _ _ _ | exact Kd.Q_nil _ _ _ _ _ | exact Kd.S_nil _ _ _ _ _, zg HB⟩
        ·replace c23 := Bool.eq_false_iff.mpr c23
         subst c23
         have H1 : (some (([] : List Int), 1)) = some (r1, r2) := by rw [if_neg (show ¬ (false = true) by decide)] at H; exact H
         clear H
         have H := H1
         clear H1
         simp only [Option.some.injEq, Prod.mk.injEq] at H
         obtain ⟨rfl, rfl⟩ := H
         have hcz34_0 : w16.cell? ⟨gb357, 0, none⟩ = some (.int .i64 a0_0) := (blk_cell BK357.out 0).trans rfl
         have hcz34_1 : w16.cell? ⟨gb357, 1, none⟩ = some (.int .i64 a0_1) := (blk_cell BK357.out 1).trans rfl
         have hcz34_2 : w16.cell? ⟨gb357, 2, none⟩ = some (.string a0_2) := (blk_cell BK357.out 2).trans rfl
         have hcz34_3 : w16.cell? ⟨gb357, 3, none⟩ = some (.string a0_3) := (blk_cell BK357.out 3).trans rfl
         have hcz34_4 : w16.cell? ⟨gb357, 4, none⟩ = some (.slice A0_4 l0_4.length c0_4) := (blk_cell BK357.out 4).trans rfl
         have hfz34_0 := blk_frozen BK357.out 0
         have hfz34_1 := blk_frozen BK357.out 1
         have hfz34_2 := blk_frozen BK357.out 2
         have hfz34_3 := blk_frozen BK357.out 3
         have hfz34_4 := blk_frozen BK357.out 4
         go_wp2_with (first | ((with_reducible refine gate_callee (f := 11) rfl ?_); refine goesL_ (some 38) rfl rfl Try.func11 (by kernel_rfl) rfl #[.agg #[.string a0_3, .slice A0_4 l0_4.length c0_4]] rfl zar ?_; (with_reducible refine (impl_DocBytes.calls kj1 a0_3 _ _ l0_4 t368 t371 _ ?side1 ?side2 A20.out).mono ?_); (case side1 => repeat (first | exact (Kd.C_below HR0_4.out HB.out) | (with_reducible refine Kd.C_alloc ?_ _) | (with_reducible refine Kd.C_drewN ?_ _) | (with_reducible refine Kd.C_drew ?_))); (case side2 => exact HC0_4.out); rintro e w35 ⟨v369, rfl, ho0, hb⟩; refine ⟨_, rfl, ?_⟩; have n0_ := Aside0.mk (Kd.R_elder' (zr HO361) (Kd.R_base ho0) hb); have n1_ := Aside0.mk (Kd.R_elder' (zr HO367) (Kd.R_base ho0) hb); have n2_ := Aside0.mk (Kd.R_lower (Kd.R_new' (Kd.R_new' ho0 (Kd.R_lt (zr HO361))) (Kd.R_lt (zr HO367))) (below_size (zg HB))); have n3_ := Aside0.mk (blk_below (zb BK357) hb); have n4_ := Aside0.mk (below_step (zg HB) hb); clear HO361; clear HO367; clear BK357; clear HB; have HO361 := n0_; have HO367 := n1_; have HO370 := n2_; have BK357 := n3_; have HB := n4_; clear n0_ n1_ n2_ n3_ n4_; (try clear hb); (try clear hb2); (try clear hk); (try clear hi); (try clear ho0); have hcz36_0 : w35.cell? ⟨gb357, 0, none⟩ = some (.int .i64 a0_0) := (blk_cell BK357.out 0).trans rfl; have hcz36_1 : w35.cell? ⟨gb357, 1, none⟩ = some (.int .i64 a0_1) := (blk_cell BK357.out 1).trans rfl; have hcz36_2 : w35.cell? ⟨gb357, 2, none⟩ = some (.string a0_2) := (blk_cell BK357.out 2).trans rfl; have hcz36_3 : w35.cell? ⟨gb357, 3, none⟩ = some (.string a0_3) := (blk_cell BK357.out 3).trans rfl; have hcz36_4 : w35.cell? ⟨gb357, 4, none⟩ = some (.slice A0_4 l0_4.length c0_4) := (blk_cell BK357.out 4).trans rfl; have hfz36_0 := blk_frozen BK357.out 0; have hfz36_1 := blk_frozen BK357.out 1; have hfz36_2 := blk_frozen BK357.out 2; have hfz36_3 := blk_frozen BK357.out 3; have hfz36_4 := blk_frozen BK357.out 4) | (go_at_call 49; (with_reducible refine (impl_oIdOk.calls kj1 a0_3 false _ A22.out).mono ?_); rintro e w' ⟨rfl, ⟨nd, rfl⟩⟩))
         go_ret2
         exact ⟨_, zre, by first | exact Kd.R_nil _ _ _ _ _ | exact Kd.N_nil _ _ _ _ _ | exact Kd.V_nil _ _ _ _ _ | exact Kd.Q_nil _ _ _ _ _ | exact Kd.S_nil _ _ _ _ _, zg HB⟩
       ·rw [if_neg c21] at H
        have c21b0 : (t371 == 0) = false := beq_eq_false_iff_ne.mpr c21
        have c21b1 : (t371 != 0) = true := bne_iff_ne.mpr c21
        simp only [Option.some.injEq, Prod.mk.injEq] at H
        obtain ⟨rfl, rfl⟩ := H
        have hcz37_0 : w16.cell? ⟨gb357, 0, none⟩ = some (.int .i64 a0_0) := (blk_cell BK357.out 0).trans rfl
        have hcz37_1 : w16.cell? ⟨gb357, 1, none⟩ = some (.int .i64 a0_1) := (blk_cell BK357.out 1).trans rfl
        have hcz37_2 : w16.cell? ⟨gb357, 2, none⟩ = some (.string a0_2) := (blk_cell BK357.out 2).trans rfl
        have hcz37_3 : w16.cell? ⟨gb357, 3, none⟩ = some (.string a0_3) := (blk_cell BK357.out 3).trans rfl
        have hcz37_4 : w16.cell? ⟨gb357, 4, none⟩ = some (.slice A0_4 l0_4.length c0_4) := (blk_cell BK357.out 4).trans rfl
        have hfz37_0 := blk_frozen BK357.out 0
        have hfz37_1 := blk_frozen BK357.out 1
        have hfz37_2 := blk_frozen BK357.out 2
        have hfz37_3 := blk_frozen BK357.out 3
        have hfz37_4 := blk_frozen BK357.out 4
        go_wp2_with (first | ((with_reducible refine gate_callee (f := 11) rfl ?_); refine goesL_ (some 38) rfl rfl Try.func11 (by kernel_rfl) rfl #[.agg #[.string a0_3, .slice A0_4 l0_4.length c0_4]] rfl zar ?_; (with_reducible refine (impl_DocBytes.calls kj1 a0_3 _ _ l0_4 t368 t371 _ ?side1 ?side2 A20.out).mono ?_); (case side1 => repeat (first | exact (Kd.C_below HR0_4.out HB.out) | (with_reducible refine Kd.C_alloc ?_ _) | (with_reducible refine Kd.C_drewN ?_ _) | (with_reducible refine Kd.C_drew ?_))); (case side2 => exact HC0_4.out); rintro e w38 ⟨v369, rfl, ho0, hb⟩; refine ⟨_, rfl, ?_⟩; have n0_ := Aside0.mk (Kd.R_elder' (zr HO361) (Kd.R_base ho0) hb); have n1_ := Aside0.mk (Kd.R_elder' (zr HO367) (Kd.R_base ho0) hb); have n2_ := Aside0.mk (Kd.R_lower (Kd.R_new' (Kd.R_new' ho0 (Kd.R_lt (zr HO361))) (Kd.R_lt (zr HO367))) (below_size (zg HB))); have n3_ := Aside0.mk (blk_below (zb BK357) hb); have n4_ := Aside0.mk (below_step (zg HB) hb); clear HO361; clear HO367; clear BK357; clear HB; have HO361 := n0_; have HO367 := n1_; have HO370 := n2_; have BK357 := n3_; have HB := n4_; clear n0_ n1_ n2_ n3_ n4_; (try clear hb); (try clear hb2); (try clear hk); (try clear hi); (try clear ho0)))
        go_ret2
        exact ⟨_, zre, by first | exact Kd.R_nil _ _ _ _ _ | exact Kd.N_nil _ _ _ _ _ | exact Kd.V_nil _ _ _ _ _ | exact Kd.Q_nil _ _ _ _ _ | exact Kd.S_nil _ _ _ _ _, zg HB⟩
      ·rw [if_neg c19] at H
       have c19b0 : (a0_0 == 1) = false := beq_eq_false_iff_ne.mpr c19
       have c19b1 : (a0_0 != 1) = true := bne_iff_ne.mpr c19
       (first | rw [c19b0] | (simp only [i64_w, i32_w]; rw [c19b0]) | skip)
       by_cases c39 : a0_0 = 2
       ·rw [if_pos c39] at H
        have c39b0 : (a0_0 == 2) = true := beq_iff_eq.mpr c39
        have c39b1 : (a0_0 != 2) = false := bne_eq_false_iff_eq.mpr c39
        clear c39
        replace H := Option.bind_eq_some_iff.mp H
        obtain ⟨t376, A400, H⟩ := H
        replace H : (if t376 = true then ((impl_oZeroDoc.f a0_3 l0_4).bind fun t377 => (if t377 = true then (if y365.length + a0_2.size < 140737488355328 then (impl_RecordBytes.j1 kj1 (y365 ++ bytesOf a0_2)) else (none)) else (some (([] : List Int), 1)))) else (some (([] : List Int), 1))) = some (r1, r2) := H
        have A40 := Aside0.mk A400
        clear A400
        by_cases c41 : t376 = true
        ·subst c41
         have H1 : ((impl_oZeroDoc.f a0_3 l0_4).bind fun t377 => (if t377 = true then (if y365.length + a0_2.size < 140737488355328 then (impl_RecordBytes.j1 kj1 (y365 ++ bytesOf a0_2)) else (none)) else (some (([] : List Int), 1)))) = some (r1, r2) := by rw [if_pos rfl] at H; exact H
         clear H
         have H := H1
         clear H1
         replace H := Option.bind_eq_some_iff.mp H
         obtain ⟨t377, A420, H⟩ := H
         replace H : (if t377 = true then (if y365.length + a0_2.size < 140737488355328 then (impl_RecordBytes.j1 kj1 (y365 ++ bytesOf a0_2)) else (none)) else (some (([] : List Int), 1))) = some (r1, r2) := H
         have A42 := Aside0.mk A420
         clear A420
         by_cases c43 : t377 = true
         ·subst c43
          have H1 : (if y365.length + a0_2.size < 140737488355328 then (impl_RecordBytes.j1 kj1 (y365 ++ bytesOf a0_2)) else (none)) = some (r1, r2) := by rw [if_pos rfl] at H; exact H
          clear H
          have H := H1
          clear H1
          by_cases c44 : y365.length + a0_2.size < 140737488355328
          ·rw [if_pos c44] at H
           have LMc44 := Aside0.mk c44
           clear c44
           obtain ⟨y378, hy378⟩ : ∃ y_ : List Int, y_ = (y365 ++ bytesOf a0_2) := ⟨_, rfl⟩
           replace H : (impl_RecordBytes.j1 kj1 y378) = some (r1, r2) := by first | (rw [hy378]; with_reducible exact H) | (have H2_ := (Option.bind_some _ _).symm.trans H; rw [hy378]; with_reducible exact H2_) | (have H2_ := (Option.bind_some _ _).symm.trans H; with_reducible exact H2_) | with_reducible exact H | (rw [hy378]; exact H) | exact H
           have Ny378 := Aside0.mk hy378
           clear hy378
           have H' := Aside0.mk H
           clear H
           have hcz45_0 : w16.cell? ⟨gb357, 0, none⟩ = some (.int .i64 a0_0) := (blk_cell BK357.out 0).trans rfl
           have hcz45_1 : w16.cell? ⟨gb357, 1, none⟩ = some (.int .i64 a0_1) := (blk_cell BK357.out 1).trans rfl
           have hcz45_2 : w16.cell? ⟨gb357, 2, none⟩ = some (.string a0_2) := (blk_cell BK357.out 2).trans rfl
           have hcz45_3 : w16.cell? ⟨gb357, 3, none⟩ = some (.string a0_3) := (blk_cell BK357.out 3).trans rfl
           have hcz45_4 : w16.cell? ⟨gb357, 4, none⟩ = some (.slice A0_4 l0_4.length c0_4) := (blk_cell BK357.out 4).trans rfl
           have hfz45_0 := blk_frozen BK357.out 0
           have hfz45_1 := blk_frozen BK357.out 1
           have hfz45_2 := blk_frozen BK357.out 2
           have hfz45_3 := blk_frozen BK357.out 3
           have hfz45_4 := blk_frozen BK357.out 4
           go_wp2_with (first | ((with_reducible refine gate_callee (f := 49) rfl ?_); refine goesL_ (some 62) rfl rfl Try.func49 (by kernel_rfl) rfl #[.string a0_2] rfl zar ?_; (with_reducible refine (impl_oIdOk.calls kj1 a0_2 true _ A40.out).mono ?_); rintro e w' ⟨rfl, ⟨nd, rfl⟩⟩; refine ⟨_, rfl, ?_⟩) | (go_at_call 50; (with_reducible refine (impl_oZeroDoc.calls a0_3 _ _ l0_4 true _ ?side1 ?side2 A42.out).mono ?_); (case side1 => repeat (first | exact (Kd.C_below HR0_4.out (zg HB)) | (with_reducible refine Kd.C_alloc ?_ _) | (with_reducible refine Kd.C_drewN ?_ _) | (with_reducible refine Kd.C_drew ?_))); (case side2 => exact HC0_4.out); rintro e w46 ⟨rfl, hb⟩; have n0_ := Aside0.mk (Kd.R_below (zr HO361) hb); have n1_ := Aside0.mk (Kd.R_below (zr HO367) hb); have n2_ := Aside0.mk (blk_below (zb BK357) hb); have n3_ := Aside0.mk (below_step (zg HB) hb); clear HO361; clear HO367; clear BK357; clear HB; have HO361 := n0_; have HO367 := n1_; have BK357 := n2_; have HB := n3_; clear n0_ n1_ n2_ n3_; (try clear hb); (try clear hb2); (try clear hk); (try clear hi); have hcz47_0 : w46.cell? ⟨gb357, 0, none⟩ = some (.int .i64 a0_0) := (blk_cell BK357.out 0).trans rfl; have hcz47_1 : w46.cell? ⟨gb357, 1, none⟩ = some (.int .i64 a0_1) := (blk_cell BK357.out 1).trans rfl; have hcz47_2 : w46.cell? ⟨gb357, 2, none⟩ = some (.string a0_2) := (blk_cell BK357.out 2).trans rfl; have hcz47_3 : w46.cell? ⟨gb357, 3, none⟩ = some (.string a0_3) := (blk_cell BK357.out 3).trans rfl; have hcz47_4 : w46.cell? ⟨gb357, 4, none⟩ = some (.slice A0_4 l0_4.length c0_4) := (blk_cell BK357.out 4).trans rfl; have hfz47_0 := blk_frozen BK357.out 0; have hfz47_1 := blk_frozen BK357.out 1; have hfz47_2 := blk_frozen BK357.out 2; have hfz47_3 := blk_frozen BK357.out 3; have hfz47_4 := blk_frozen BK357.out 4) | (at_builtin; refine Kd.R_append_str (w0 := w) w.heap.size rfl (.tmp 70) _ 26 9 5 rfl Try.underlying26 Try.underlying9 info5 v366 y365 a0_2 (fun k_ => some k_ ≠ (.slice Ao17 t358.length co17 : Value).ownBlock) rfl rfl ?aF ?aO ?aB ?aS ?aL ?_; (case aB => exact (zg HB)); (case aF => exact (fun k_ hk => Kd.fresh' (Kd.R_lt (zr HO361)) k_ hk)); (case aO => exact (zr HO367)); (case aS => exact (below_size (zg HB))); (case aL => have := LMc44.out; omega); intro v379 w48 ho hb hg hat; rw [← Ny378.out] at ho; have n0_ := Aside0.mk (blk_grown (zb BK357) hg (Kd.R_ne HO367.out BK357.out (by decide))); have n1_ := Aside0.mk (Kd.R_after (ok := (fun _ => True)) (zr HO361) hg hat); have n2_ := Aside0.mk (hb); have n3_ := Aside0.mk (ho); clear BK357; clear HO361; clear HB; clear HO367; have BK357 := n0_; have HO361 := n1_; have HB := n2_; have HO380 := n3_; clear n0_ n1_ n2_ n3_; clear ho hb hg hat))
           go_meet
           case rel => exact ⟨_, (y378), H', ⟨by have := HJ1.out; first | omega | exact Nat.le_refl _⟩, ⟨Kd.R_mono (zr HO380) (fun _ hk => trivial)⟩, ⟨zb BK357⟩, ⟨zg HB⟩⟩
          ·rw [if_neg c44] at H
           exact absurd H (by simp)
         ·replace c43 := Bool.eq_false_iff.mpr c43
          subst c43
          have H1 : (some (([] : List Int), 1)) = some (r1, r2) := by rw [if_neg (show ¬ (false = true) by decide)] at H; exact H
          clear H
          have H := H1
          clear H1
          simp only [Option.some.injEq, Prod.mk.injEq] at H
          obtain ⟨rfl, rfl⟩ := H
          have hcz49_0 : w16.cell? ⟨gb357, 0, none⟩ = some (.int .i64 a0_0) := (blk_cell BK357.out 0).trans rfl
          have hcz49_1 : w16.cell? ⟨gb357, 1, none⟩ = some (.int .i64 a0_1) := (blk_cell BK357.out 1).trans rfl
          have hcz49_2 : w16.cell? ⟨gb357, 2, none⟩ = some (.string a0_2) := (blk_cell BK357.out 2).trans rfl
          have hcz49_3 : w16.cell? ⟨gb357, 3, none⟩ = some (.string a0_3) := (blk_cell BK357.out 3).trans rfl
          have hcz49_4 : w16.cell? ⟨gb357, 4, none⟩ = some (.slice A0_4 l0_4.length c0_4) := (blk_cell BK357.out 4).trans rfl
          have hfz49_0 := blk_frozen BK357.out 0
          have hfz49_1 := blk_frozen BK357.out 1
          have hfz49_2 := blk_frozen BK357.out 2
          have hfz49_3 := blk_frozen BK357.out 3
          have hfz49_4 := blk_frozen BK357.out 4
          go_wp2_with (first | ((with_reducible refine gate_callee (f := 49) rfl ?_); refine goesL_ (some 62) rfl rfl Try.func49 (by kernel_rfl) rfl #[.string a0_2] rfl zar ?_; (with_reducible refine (impl_oIdOk.calls kj1 a0_2 true _ A40.out).mono ?_); rintro e w' ⟨rfl, ⟨nd, rfl⟩⟩; refine ⟨_, rfl, ?_⟩) | (go_at_call 50; (with_reducible refine (impl_oZeroDoc.calls a0_3 _ _ l0_4 false _ ?side1 ?side2 A42.out).mono ?_); (case side1 => repeat (first | exact (Kd.C_below HR0_4.out (zg HB)) | (with_reducible refine Kd.C_alloc ?_ _) | (with_reducible refine Kd.C_drewN ?_ _) | (with_reducible refine Kd.C_drew ?_))); (case side2 => exact HC0_4.out); rintro e w50 ⟨rfl, hb⟩; have n0_ := Aside0.mk (Kd.R_below (zr HO361) hb); have n1_ := Aside0.mk (Kd.R_below (zr HO367) hb); have n2_ := Aside0.mk (blk_below (zb BK357) hb); have n3_ := Aside0.mk (below_step (zg HB) hb); clear HO361; clear HO367; clear BK357; clear HB; have HO361 := n0_; have HO367 := n1_; have BK357 := n2_; have HB := n3_; clear n0_ n1_ n2_ n3_; (try clear hb); (try clear hb2); (try clear hk); (try clear hi)))
          go_ret2
          exact ⟨_, zre, by first | exact Kd.R_nil _ _ _ _ _ | exact Kd.N_nil _ _ _ _ _ | exact Kd.V_nil _ _ _ _ _ | exact Kd.Q_nil _ _ _ _ _ | exact Kd.S_nil _ _ _ _ _, zg HB⟩
        ·replace c41 := Bool.eq_false_iff.mpr c41
         subst c41
         have H1 : (some (([] : List Int), 1)) = some (r1, r2) := by rw [if_neg (show ¬ (false = true) by decide)] at H; exact H
         clear H
         have H := H1
         clear H1
         simp only [Option.some.injEq, Prod.mk.injEq] at H
         obtain ⟨rfl, rfl⟩ := H
         have hcz51_0 : w16.cell? ⟨gb357, 0, none⟩ = some (.int .i64 a0_0) := (blk_cell BK357.out 0).trans rfl
         have hcz51_1 : w16.cell? ⟨gb357, 1, none⟩ = some (.int .i64 a0_1) := (blk_cell BK357.out 1).trans rfl
         have hcz51_2 : w16.cell? ⟨gb357, 2, none⟩ = some (.string a0_2) := (blk_cell BK357.out 2).trans rfl
         have hcz51_3 : w16.cell? ⟨gb357, 3, none⟩ = some (.string a0_3) := (blk_cell BK357.out 3).trans rfl
         have hcz51_4 : w16.cell? ⟨gb357, 4, none⟩ = some (.slice A0_4 l0_4.length c0_4) := (blk_cell BK357.out 4).trans rfl
         have hfz51_0 := blk_frozen BK357.out 0
         have hfz51_1 := blk_frozen BK357.out 1
         have hfz51_2 := blk_frozen BK357.out 2
         have hfz51_3 := blk_frozen BK357.out 3
         have hfz51_4 := blk_frozen BK357.out 4
         go_wp2_with (first | ((with_reducible refine gate_callee (f := 49) rfl ?_); refine goesL_ (some 62) rfl rfl Try.func49 (by kernel_rfl) rfl #[.string a0_2] rfl zar ?_; (with_reducible refine (impl_oIdOk.calls kj1 a0_2 false _ A40.out).mono ?_); rintro e w' ⟨rfl, ⟨nd, rfl⟩⟩; refine ⟨_, rfl, ?_⟩))
         go_ret2
         exact ⟨_, zre, by first | exact Kd.R_nil _ _ _ _ _ | exact Kd.N_nil _ _ _ _ _ | exact Kd.V_nil _ _ _ _ _ | exact Kd.Q_nil _ _ _ _ _ | exact Kd.S_nil _ _ _ _ _, zg HB⟩
       ·rw [if_neg c39] at H
        have c39b0 : (a0_0 == 2) = false := beq_eq_false_iff_ne.mpr c39
        have c39b1 : (a0_0 != 2) = true := bne_iff_ne.mpr c39
        simp only [Option.some.injEq, Prod.mk.injEq] at H
        obtain ⟨rfl, rfl⟩ := H
        go_wp2
        go_ret2
        exact ⟨_, zre, by first | exact Kd.R_nil _ _ _ _ _ | exact Kd.N_nil _ _ _ _ _ | exact Kd.V_nil _ _ _ _ _ | exact Kd.Q_nil _ _ _ _ _ | exact Kd.S_nil _ _ _ _ _, zg HB⟩
     case rest =>
      clear HC10
      try clear c1
      try clear c2
      try clear p2
      try clear c3
      try clear c4
      try clear c4b0
      try clear c7
      try clear c9
      try clear c11
      try clear c19
      try clear c19b0
      try clear c19b1
      try clear c21
      try clear c21b0
      try clear c21b1
      try clear c23
      try clear c24
      try clear c24b0
      try clear c24b1
      try clear c25
      try clear c39
      try clear c39b0
      try clear c39b1
      try clear c41
      try clear c43
      try clear c44
      try clear c48
      try clear c49
      try clear hcz11_0
      try clear hcz11_1
      try clear hcz11_2
      try clear hcz11_3
      try clear hcz11_4
      try clear hcz13_0
      try clear hcz13_1
      try clear hcz13_2
      try clear hcz13_3
      try clear hcz13_4
      try clear hcz18_0
      try clear hcz18_1
      try clear hcz18_2
      try clear hcz18_3
      try clear hcz18_4
      try clear hcz26_0
      try clear hcz26_1
      try clear hcz26_2
      try clear hcz26_3
      try clear hcz26_4
      try clear hcz28_0
      try clear hcz28_1
      try clear hcz28_2
      try clear hcz28_3
      try clear hcz28_4
      try clear hcz31_0
      try clear hcz31_1
      try clear hcz31_2
      try clear hcz31_3
      try clear hcz31_4
      try clear hcz33_0
      try clear hcz33_1
      try clear hcz33_2
      try clear hcz33_3
      try clear hcz33_4
      try clear hcz34_0
      try clear hcz34_1
      try clear hcz34_2
      try clear hcz34_3
      try clear hcz34_4
      try clear hcz36_0
      try clear hcz36_1
      try clear hcz36_2
      try clear hcz36_3
      try clear hcz36_4
      try clear hcz37_0
      try clear hcz37_1
      try clear hcz37_2
      try clear hcz37_3
      try clear hcz37_4
      try clear hcz45_0
      try clear hcz45_1
      try clear hcz45_2
      try clear hcz45_3
      try clear hcz45_4
      try clear hcz47_0
      try clear hcz47_1
      try clear hcz47_2
      try clear hcz47_3
      try clear hcz47_4
      try clear hcz49_0
      try clear hcz49_1
      try clear hcz49_2
      try clear hcz49_3
      try clear hcz49_4
      try clear hcz51_0
      try clear hcz51_1
      try clear hcz51_2
      try clear hcz51_3
      try clear hcz51_4
      try clear hcz5_0
      try clear hcz5_1
      try clear hcz5_2
      try clear hcz5_3
      try clear hcz5_4
      try clear hcz6_0
      try clear hcz6_1
      try clear hcz6_2
      try clear hcz6_3
      try clear hcz6_4
      try clear hfz11_0
      try clear hfz11_1
      try clear hfz11_2
      try clear hfz11_3
      try clear hfz11_4
      try clear hfz13_0
      try clear hfz13_1
      try clear hfz13_2
      try clear hfz13_3
      try clear hfz13_4
      try clear hfz18_0
      try clear hfz18_1
      try clear hfz18_2
      try clear hfz18_3
      try clear hfz18_4
      try clear hfz26_0
      try clear hfz26_1
      try clear hfz26_2
      try clear hfz26_3
      try clear hfz26_4
      try clear hfz28_0
      try clear hfz28_1
      try clear hfz28_2
      try clear hfz28_3
      try clear hfz28_4
      try clear hfz31_0
      try clear hfz31_1
      try clear hfz31_2
      try clear hfz31_3
      try clear hfz31_4
      try clear hfz33_0
      try clear hfz33_1
      try clear hfz33_2
      try clear hfz33_3
      try clear hfz33_4
      try clear hfz34_0
      try clear hfz34_1
      try clear hfz34_2
      try clear hfz34_3
      try clear hfz34_4
      try clear hfz36_0
      try clear hfz36_1
      try clear hfz36_2
      try clear hfz36_3
      try clear hfz36_4
      try clear hfz37_0
      try clear hfz37_1
      try clear hfz37_2
      try clear hfz37_3
      try clear hfz37_4
      try clear hfz45_0
      try clear hfz45_1
      try clear hfz45_2
      try clear hfz45_3
      try clear hfz45_4
      try clear hfz47_0
      try clear hfz47_1
      try clear hfz47_2
      try clear hfz47_3
      try clear hfz47_4
      try clear hfz49_0
      try clear hfz49_1
      try clear hfz49_2
      try clear hfz49_3
      try clear hfz49_4
      try clear hfz51_0
      try clear hfz51_1
      try clear hfz51_2
      try clear hfz51_3
      try clear hfz51_4
      try clear hfz5_0
      try clear hfz5_1
      try clear hfz5_2
      try clear hfz5_3
      try clear hfz5_4
      try clear hfz6_0
      try clear hfz6_1
      try clear hfz6_2
      try clear hfz6_3
      try clear hfz6_4
      try clear p2
      obtain ⟨kq, x6_9, HA, HJ9, HO_6, BK357, HB⟩ := hcut
      cases kq with
      | zero => exact absurd HA.out (by simp [impl_RecordBytes.j1])
      | succ kj9 =>
       have H := HA.out
       clear HA
       simp only [impl_RecordBytes.j1] at H
       replace H := Option.bind_eq_some_iff.mp H
       obtain ⟨⟨t381, t382⟩, A520, H⟩ := H
       replace H : (if (wrap64 ((wrap64 ((t381.length : Int) + (x6_9.length : Int))) + 4)) > 1048576 then (some (([] : List Int), 2)) else (if t381.length + x6_9.length < 140737488355328 then ((some (t381 ++ x6_9 : List Int)).bind fun y385 => ((impl_Sum32.f kj9 x6_9).bind fun t388 => ((impl_oFour.f t388).bind fun t389 => (if y385.length + t389.length < 140737488355328 then (some ((y385 ++ t389), 0)) else (none))))) else (none))) = some (r1, r2) := H
       have A52 := Aside0.mk A520
       clear A520
       by_cases c53 : (wrap64 ((wrap64 ((t381.length : Int) + (x6_9.length : Int))) + 4)) > 1048576
       ·rw [if_pos c53] at H
        have c53b0 : decide (1048576 < (wrap64 ((wrap64 ((t381.length : Int) + (x6_9.length : Int))) + 4))) = true := decide_eq_true c53
        clear c53
        simp only [Option.some.injEq, Prod.mk.injEq] at H
        obtain ⟨rfl, rfl⟩ := H
        obtain ⟨Ao54, co54, eo54⟩ := Kd.R_slice HO_6.out
        subst eo54
        go_wp2_with (first | ((with_reducible refine gate_callee (f := 48) rfl ?_); refine goesL_ (some 77) rfl rfl Try.func48 (by kernel_rfl) rfl #[.int .i64 (x6_9.length : Int)] rfl zar ?_; (with_reducible refine (impl_PutInt.calls kj9 (x6_9.length : Int) t381 t382 _ A52.out).mono ?_); rintro e w55 ⟨v383, rfl, ho0, hb⟩; refine ⟨_, rfl, ?_⟩; have n0_ := Aside0.mk (Kd.R_elder' (zr HO_6) (Kd.R_base ho0) hb); have n1_ := Aside0.mk (Kd.R_lower (Kd.R_new' ho0 (Kd.R_lt (zr HO_6))) (below_size (zg HB))); have n2_ := Aside0.mk (blk_below (zb BK357) hb); have n3_ := Aside0.mk (below_step (zg HB) hb); clear HO_6; clear BK357; clear HB; have HO_6 := n0_; have HO384 := n1_; have BK357 := n2_; have HB := n3_; clear n0_ n1_ n2_ n3_; (try clear hb); (try clear hb2); (try clear hk); (try clear hi); (try clear ho0); obtain ⟨Ao56, co56, eo56⟩ := Kd.R_slice HO384.out; subst eo56))
        go_ret2
        exact ⟨_, zre, by first | exact Kd.R_nil _ _ _ _ _ | exact Kd.N_nil _ _ _ _ _ | exact Kd.V_nil _ _ _ _ _ | exact Kd.Q_nil _ _ _ _ _ | exact Kd.S_nil _ _ _ _ _, zg HB⟩
       ·rw [if_neg c53] at H
        have c53b0 : decide (1048576 < (wrap64 ((wrap64 ((t381.length : Int) + (x6_9.length : Int))) + 4))) = false := decide_eq_false c53
        clear c53
        by_cases c57 : t381.length + x6_9.length < 140737488355328
        ·rw [if_pos c57] at H
         have LMc57 := Aside0.mk c57
         clear c57
         obtain ⟨y385, hy385⟩ : ∃ y_ : List Int, y_ = (t381 ++ x6_9) := ⟨_, rfl⟩
         replace H : ((impl_Sum32.f kj9 x6_9).bind fun t388 => ((impl_oFour.f t388).bind fun t389 => (if y385.length + t389.length < 140737488355328 then (some ((y385 ++ t389), 0)) else (none)))) = some (r1, r2) := by first | (rw [hy385]; with_reducible exact H) | (have H2_ := (Option.bind_some _ _).symm.trans H; rw [hy385]; with_reducible exact H2_) | (have H2_ := (Option.bind_some _ _).symm.trans H; with_reducible exact H2_) | with_reducible exact H | (rw [hy385]; exact H) | exact H
         have Ny385 := Aside0.mk hy385
         clear hy385
         replace H := Option.bind_eq_some_iff.mp H
         obtain ⟨t388, A580, H⟩ := H
         replace H : ((impl_oFour.f t388).bind fun t389 => (if y385.length + t389.length < 140737488355328 then (some ((y385 ++ t389), 0)) else (none))) = some (r1, r2) := H
         have A58 := Aside0.mk A580
         clear A580
         replace H := Option.bind_eq_some_iff.mp H
         obtain ⟨t389, A590, H⟩ := H
         replace H : (if y385.length + t389.length < 140737488355328 then (some ((y385 ++ t389), 0)) else (none)) = some (r1, r2) := H
         have A59 := Aside0.mk A590
         clear A590
         by_cases c60 : y385.length + t389.length < 140737488355328
         ·rw [if_pos c60] at H
          have LMc60 := Aside0.mk c60
          clear c60
          obtain ⟨y392, hy392⟩ : ∃ y_ : List Int, y_ = (y385 ++ t389) := ⟨_, rfl⟩
          replace H : (some (y392, 0)) = some (r1, r2) := by first | (rw [hy392]; with_reducible exact H) | (have H2_ := (Option.bind_some _ _).symm.trans H; rw [hy392]; with_reducible exact H2_) | (have H2_ := (Option.bind_some _ _).symm.trans H; with_reducible exact H2_) | with_reducible exact H | (rw [hy392]; exact H) | exact H
          have Ny392 := Aside0.mk hy392
          clear hy392
          simp only [Option.some.injEq, Prod.mk.injEq] at H
          obtain ⟨rfl, rfl⟩ := H
          obtain ⟨Ao61, co61, eo61⟩ := Kd.R_slice HO_6.out
          subst eo61
          go_wp2_with (first | ((with_reducible refine gate_callee (f := 48) rfl ?_); refine goesL_ (some 77) rfl rfl Try.func48 (by kernel_rfl) rfl #[.int .i64 (x6_9.length : Int)] rfl zar ?_; (with_reducible refine (impl_PutInt.calls kj9 (x6_9.length : Int) t381 t382 _ A52.out).mono ?_); rintro e w62 ⟨v383, rfl, ho0, hb⟩; refine ⟨_, rfl, ?_⟩; have n0_ := Aside0.mk (Kd.R_elder' (zr HO_6) (Kd.R_base ho0) hb); have n1_ := Aside0.mk (Kd.R_lower (Kd.R_new' ho0 (Kd.R_lt (zr HO_6))) (below_size (zg HB))); have n2_ := Aside0.mk (blk_below (zb BK357) hb); have n3_ := Aside0.mk (below_step (zg HB) hb); clear HO_6; clear BK357; clear HB; have HO_6 := n0_; have HO384 := n1_; have BK357 := n2_; have HB := n3_; clear n0_ n1_ n2_ n3_; (try clear hb); (try clear hb2); (try clear hk); (try clear hi); (try clear ho0); obtain ⟨Ao63, co63, eo63⟩ := Kd.R_slice HO384.out; subst eo63) | ((with_reducible refine gate_builtin (b := .append) (xs := #[.tmp 87, .tmp 88]) rfl ?_); at_builtin; refine Kd.R_append_rows (Kd.int .u8) (w0 := w) w.heap.size rfl (.tmp 87) (.tmp 88) 26 5 (.int .u8 0) 1 rfl Try.underlying26 info5 rfl (by decide) (by omega) (.slice Ao63 t381.length co63) t381 x6_9 _ _ _ (fun k_ => some k_ ≠ (.slice Ao61 x6_9.length co61 : Value).ownBlock) (fun _ => False) rfl rfl ?aO ?aR (fun _ _ h => h) (fun _ h => h.elim) ?aF ?aB ?aS ?aL ?_; (case aR => repeat (first | exact (Kd.R_reads' HO_6.out).2.2 | (with_reducible refine Kd.C_alloc ?_ _) | (with_reducible refine Kd.C_drewN ?_ _) | (with_reducible refine Kd.C_drew ?_))); (case aB => exact (zg HB)); (case aF => exact (fun k_ hk => Kd.fresh' (Kd.R_lt (zr HO_6)) k_ hk)); (case aO => exact (Kd.R_mono (zr HO384) (fun _ hk => hk.2))); (case aS => exact (below_size (zg HB))); (case aL => have := LMc57.out; omega); intro v386 w64 ho hb hg hat; rw [← Ny385.out] at ho; have n0_ := Aside0.mk (Kd.R_after (ok := (fun _ => True)) (zr HO_6) hg hat); have n1_ := Aside0.mk (blk_grown (zb BK357) hg (Kd.R_ne HO384.out BK357.out (by decide))); have n2_ := Aside0.mk (hb); have n3_ := Aside0.mk (ho); clear HO_6; clear BK357; clear HB; clear HO384; have HO_6 := n0_; have BK357 := n1_; have HB := n2_; have HO387 := n3_; clear n0_ n1_ n2_ n3_; clear ho hb hg hat) | ((with_reducible refine gate_callee (f := 52) rfl ?_); refine goesL_ (some 91) rfl rfl Try.func52 (by kernel_rfl) rfl #[.slice Ao61 x6_9.length co61] rfl zar ?_; (with_reducible refine (impl_Sum32.calls kj9 _ _ x6_9 t388 _ ?side1 ?side2 A58.out).mono ?_); (case side1 => repeat (first | exact (Kd.R_reads' HO_6.out).2.2 | (with_reducible refine Kd.C_alloc ?_ _) | (with_reducible refine Kd.C_drewN ?_ _) | (with_reducible refine Kd.C_drew ?_))); (case side2 => exact (Kd.R_reads' HO_6.out).2.1); rintro e w' ⟨rfl, ⟨nd, rfl⟩⟩; refine ⟨_, rfl, ?_⟩) | ((with_reducible refine gate_callee (f := 51) rfl ?_); refine goesL_ (some 92) rfl rfl Try.func51 (by kernel_rfl) rfl #[.int .i64 t388] rfl zar ?_; (with_reducible refine (impl_oFour.calls t388 t389 _ A59.out).mono ?_); rintro e w65 ⟨v390, rfl, ho0, hb⟩; refine ⟨_, rfl, ?_⟩; have n0_ := Aside0.mk (Kd.R_elder' (zr HO_6) (Kd.R_base ho0) hb); have n1_ := Aside0.mk (Kd.R_elder' (zr HO387) (Kd.R_base ho0) hb); have n2_ := Aside0.mk (Kd.R_lower (Kd.R_new' (Kd.R_new' ho0 (Kd.R_lt (zr HO_6))) (Kd.R_lt (zr HO387))) (below_size (zg HB))); have n3_ := Aside0.mk (blk_below (zb BK357) hb); have n4_ := Aside0.mk (below_step (zg HB) hb); clear HO_6; clear HO387; clear BK357; clear HB; have HO_6 := n0_; have HO387 := n1_; have HO391 := n2_; have BK357 := n3_; have HB := n4_; clear n0_ n1_ n2_ n3_ n4_; (try clear hb); (try clear hb2); (try clear hk); (try clear hi); (try clear ho0); obtain ⟨Ao67, co67, eo67⟩ := Kd.R_slice HO391.out; subst eo67) | ((with_reducible refine gate_builtin (b := .append) (xs := #[.tmp 89, .tmp 92]) rfl ?_); at_builtin; refine Kd.R_append_rows (Kd.int .u8) (w0 := w) w.heap.size rfl (.tmp 89) (.tmp 92) 26 5 (.int .u8 0) 1 rfl Try.underlying26 info5 rfl (by decide) (by omega) v386 y385 t389 _ _ _ (fun k_ => some k_ ≠ (.slice Ao61 x6_9.length co61 : Value).ownBlock ∧ some k_ ≠ (.slice Ao67 t389.length co67 : Value).ownBlock) (fun _ => False) rfl rfl ?aO ?aR (fun _ _ h => h) (fun _ h => h.elim) ?aF ?aB ?aS ?aL ?_; (case aR => repeat (first | exact (Kd.R_reads' HO391.out).2.2 | (with_reducible refine Kd.C_alloc ?_ _) | (with_reducible refine Kd.C_drewN ?_ _) | (with_reducible refine Kd.C_drew ?_))); (case aB => exact (zg HB)); (case aF => exact (fun k_ hk => ⟨Kd.fresh' (Kd.R_lt (zr HO_6)) k_ hk, Kd.fresh' (Kd.R_lt (zr HO391)) k_ hk⟩)); (case aO => exact (zr HO387)); (case aS => exact (below_size (zg HB))); (case aL => have := LMc60.out; omega); intro v393 w66 ho hb hg hat; rw [← Ny392.out] at ho; have n0_ := Aside0.mk (Kd.R_after (ok := (fun k_ => some k_ ≠ (.slice Ao67 t389.length co67 : Value).ownBlock)) (Kd.R_mono (zr HO_6) (fun _ hk => ⟨hk.2, hk.1.2⟩)) hg hat); have n1_ := Aside0.mk (blk_grown (zb BK357) hg (Kd.R_ne HO387.out BK357.out (by decide))); have n2_ := Aside0.mk (Kd.R_after (ok := (fun k_ => some k_ ≠ (.slice Ao61 x6_9.length co61 : Value).ownBlock)) (Kd.R_mono (zr HO391) (fun _ hk => ⟨hk.1.2, hk.2⟩)) hg hat); have n3_ := Aside0.mk (hb); have n4_ := Aside0.mk (ho); clear HO_6; clear BK357; clear HO391; clear HB; clear HO387; have HO_6 := n0_; have BK357 := n1_; have HO391 := n2_; have HB := n3_; have HO394 := n4_; clear n0_ n1_ n2_ n3_ n4_; clear ho hb hg hat))
          go_ret2
          exact ⟨_, zre, Kd.R_mono (zr HO394) (fun _ hk => trivial), zg HB⟩
         ·rw [if_neg c60] at H
          exact absurd H (by simp)
        ·rw [if_neg c57] at H
         exact absurd H (by simp)
    ·rw [if_neg c9] at H
     exact absurd H (by simp)

/-! ### laws_eqStringS: function 94 -/
def laws_eqStringS.l0 : Nat → List ByteArray → List ByteArray → Int → Option (Bool)
 | 0, _, _, _ => none
 | k + 1, x0, x1, x5 => if x5 < (x0.length : Int) then (if 0 ≤ x5 then (if x5 < (x1.length : Int) then (if (rdOf ByteArray.empty x0 x5).toList = (rdOf ByteArray.empty x1 x5).toList then (laws_eqStringS.l0 k x0 x1 (wrap64 (x5 + 1))) else (some false)) else (none)) else (none)) else (some true)
def laws_eqStringS.f (k : Nat) (l0 : List ByteArray) (l1 : List ByteArray) : Option (Bool) := if (l0.length : Int) = (l1.length : Int) then (laws_eqStringS.l0 k l0 l1 0) else (some false)
theorem laws_eqStringS.mono_l : ∀ k, (∀ y0 y1 y2, LeO (laws_eqStringS.l0 k y0 y1 y2) (laws_eqStringS.l0 (k + 1) y0 y1 y2))
 | 0 => fun _ _ _ r h => by simp [laws_eqStringS.l0] at h
 | k + 1 => by
  have ih0 := laws_eqStringS.mono_l k
  ·intro y0 y1 y2
   unfold laws_eqStringS.l0
   repeat' first
   | (with_reducible exact ih0 _ _ _)
   | (with_reducible exact LeO.refl _)
   | (with_reducible exact LeO.none _)
   | (with_reducible refine LeO.ite ?_ ?_)
   | (with_reducible refine LeO.bind ?_ (fun _ => ?_))
   | exact ih0 _ _ _
   | exact LeO.none _
   | refine LeO.ite ?_ ?_
   | refine LeO.bind ?_ (fun _ => ?_)
theorem laws_eqStringS.mono : ∀ a0 a1 k, LeO (laws_eqStringS.f k a0 a1) (laws_eqStringS.f (k + 1) a0 a1) := by
 intro a0 a1 k
 have ih0 := laws_eqStringS.mono_l k
 unfold laws_eqStringS.f
 repeat' first
  | (with_reducible exact ih0 _ _ _)
  | (with_reducible exact LeO.refl _)
  | (with_reducible exact LeO.none _)
  | (with_reducible refine LeO.ite ?_ ?_)
  | (with_reducible refine LeO.bind ?_ (fun _ => ?_))
  | exact ih0 _ _ _
  | exact LeO.none _
  | refine LeO.ite ?_ ?_
  | refine LeO.bind ?_ (fun _ => ?_)
set_option maxHeartbeats 8000000 in
set_option maxRecDepth 100000 in
theorem laws_eqStringS.calls (k : Nat) (A0 : Option Addr) (c0 : Nat) (l0 : List ByteArray) (A1 : Option Addr) (c1 : Nat) (l1 : List ByteArray) (r : Bool) (w : World) (hr0 : Kd.C Kd.string w A0 l0.length l0) (hc0 : l0.length ≤ c0) (hr1 : Kd.C Kd.string w A1 l1.length l1) (hc1 : l1.length ≤ c1) (h : laws_eqStringS.f k l0 l1 = some r) :
 Calls Try.prog 94 #[.slice A0 l0.length c0, .slice A1 l1.length c1] w fun e w' => e = .returned (.bool r) ∧ Drawn0 w w' := by
 have HR0 := Aside0.mk hr0
 have HC0 := Aside0.mk hc0
 clear hr0 hc0
 have HR1 := Aside0.mk hr1
 have HC1 := Aside0.mk hc1
 clear hr1 hc1
 have H : (if (l0.length : Int) = (l1.length : Int) then (laws_eqStringS.l0 k l0 l1 0) else (some false)) = some r := h
 clear h
 by_cases c3 : (l0.length : Int) = (l1.length : Int)
 ·rw [if_pos c3] at H
  have c3b0 : ((l0.length : Int) == (l1.length : Int)) = true := beq_iff_eq.mpr c3
  have c3b1 : ((l0.length : Int) != (l1.length : Int)) = false := bne_eq_false_iff_eq.mpr c3
  have c3b2 : (l0.length == l1.length) = true := by first | simpa using c3 | (simp at c3 ⊢; omega)
  clear c3
  have H' := Aside0.mk H
  clear H
  go_enter Try.func94, Try.ntmps94
  go_wp2
  repeat (go_quiet (fail); try go_wp2)
  go_loopg [5] k (fun kq v5 w' => ∃ (x5_1 : Int), v5 = .int .i64 x5_1 ∧ Aside0 (laws_eqStringS.l0 kq l0 l1 x5_1 = some r) ∧ Aside0 (kq ≤ k) ∧ Drawn0 w w')
  case atStart => exact ⟨(0), (by first | rfl | (simp; done) | (simp [*]; done)), H', ⟨Nat.le_refl _⟩, by repeat (first | exact Drawn0.refl _ | apply Drawn0.step)⟩
  case round =>
   clear H'
   try clear c1
   try clear p2
   try clear c3
   try clear c3b0
   try clear c3b1
   try clear c3b2
   obtain ⟨x5_1, rfl, HA, HK1, ⟨m1, rfl⟩⟩ := hrel
   cases gk with
   | zero => exact absurd HA.out (by simp [laws_eqStringS.l0])
   | succ k1 =>
    have H := HA.out
    clear HA
    simp only [laws_eqStringS.l0] at H
    by_cases c4 : x5_1 < (l0.length : Int)
    ·rw [if_pos c4] at H
     have c4b0 : decide (x5_1 < (l0.length : Int)) = true := decide_eq_true c4
     clear c4
     by_cases c5 : 0 ≤ x5_1
     ·rw [if_pos c5] at H
      have c5b0 : decide (0 ≤ x5_1) = true := decide_eq_true c5
      clear c5
      by_cases c6 : x5_1 < (l1.length : Int)
      ·rw [if_pos c6] at H
       have c6b0 : decide (x5_1 < (l1.length : Int)) = true := decide_eq_true c6
       clear c6
       by_cases c7 : (rdOf ByteArray.empty l0 x5_1).toList = (rdOf ByteArray.empty l1 x5_1).toList
       ·rw [if_pos c7] at H
        have c7b0 : ((rdOf ByteArray.empty l0 x5_1).toList == (rdOf ByteArray.empty l1 x5_1).toList) = true := beq_iff_eq.mpr c7
        have c7b1 : ((rdOf ByteArray.empty l0 x5_1).toList != (rdOf ByteArray.empty l1 x5_1).toList) = false := bne_eq_false_iff_eq.mpr c7
        clear c7
        have H' := Aside0.mk H
        clear H
        have p395 : 0 ≤ (x5_1 : Int) := of_decide_eq_true zas
        have q395 : x5_1 < (l0.length : Int) := of_decide_eq_true zas
        obtain ⟨ad395, e395, hx395_0⟩ := Kd.at_string HR0.out x5_1 p395 q395
        cases e395
        replace p395 := eq_true p395
        replace q395 := eq_true q395
        have p396 : 0 ≤ (x5_1 : Int) := of_decide_eq_true zas
        have q396 : x5_1 < (l1.length : Int) := of_decide_eq_true zas
        obtain ⟨ad396, e396, hx396_0⟩ := Kd.at_string HR1.out x5_1 p396 q396
        cases e396
        replace p396 := eq_true p396
        replace q396 := eq_true q396
        go_wp2
        repeat (go_quiet (fail); try go_wp2)
        go_roundg k1
        case measure => have := HK1.out; omega
        case rel => exact ⟨(wrap64 (x5_1 + 1)), (by first | rfl | (simp; done) | (simp [*]; done)), H', ⟨by have := HK1.out; omega⟩, by repeat (first | exact Drawn0.refl _ | apply Drawn0.step)⟩
       ·rw [if_neg c7] at H
        have c7b0 : ((rdOf ByteArray.empty l0 x5_1).toList == (rdOf ByteArray.empty l1 x5_1).toList) = false := beq_eq_false_iff_ne.mpr c7
        have c7b1 : ((rdOf ByteArray.empty l0 x5_1).toList != (rdOf ByteArray.empty l1 x5_1).toList) = true := bne_iff_ne.mpr c7
        obtain rfl := Option.some.inj H
        have p395 : 0 ≤ (x5_1 : Int) := of_decide_eq_true zas
        have q395 : x5_1 < (l0.length : Int) := of_decide_eq_true zas
        obtain ⟨ad395, e395, hx395_0⟩ := Kd.at_string HR0.out x5_1 p395 q395
        cases e395
        replace p395 := eq_true p395
        replace q395 := eq_true q395
        have p396 : 0 ≤ (x5_1 : Int) := of_decide_eq_true zas
        have q396 : x5_1 < (l1.length : Int) := of_decide_eq_true zas
        obtain ⟨ad396, e396, hx396_0⟩ := Kd.at_string HR1.out x5_1 p396 q396
        cases e396
        replace p396 := eq_true p396
        replace q396 := eq_true q396
        go_wp2
        repeat (go_quiet (fail); try go_wp2)
        go_ret
        exact ⟨by first | rfl | (simp; done) | (simp [*]; done), by repeat (first | exact Drawn0.refl _ | apply Drawn0.step)⟩
      ·rw [if_neg c6] at H
       exact absurd H (by simp)
     ·rw [if_neg c5] at H
      exact absurd H (by simp)
    ·rw [if_neg c4] at H
     have c4b0 : decide (x5_1 < (l0.length : Int)) = false := decide_eq_false c4
     clear c4
     obtain rfl := Option.some.inj H
     go_wp2
     repeat (go_quiet (fail); try go_wp2)
     go_ret
     exact ⟨by first | rfl | (simp; done) | (simp [*]; done), by repeat (first | exact Drawn0.refl _ | apply Drawn0.step)⟩
 ·rw [if_neg c3] at H
  have c3b0 : ((l0.length : Int) == (l1.length : Int)) = false := beq_eq_false_iff_ne.mpr c3
  have c3b1 : ((l0.length : Int) != (l1.length : Int)) = true := bne_iff_ne.mpr c3
  have c3b2 : (l0.length == l1.length) = false := by first | simpa using c3 | (simp at c3 ⊢; omega)
  obtain rfl := Option.some.inj H
  go_enter Try.func94, Try.ntmps94
  go_wp2
  repeat (go_quiet (fail); try go_wp2)
  go_ret
  exact ⟨by first | rfl | (simp; done) | (simp [*]; done), by repeat (first | exact Drawn0.refl _ | apply Drawn0.step)⟩

end Go.Proofs.Ytnpdmleglcbobaa.XFnExactRecordBytes
