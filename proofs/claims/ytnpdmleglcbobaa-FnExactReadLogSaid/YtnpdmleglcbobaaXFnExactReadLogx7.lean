-- A printed text of this session (wip/x/xprint.py).
import Derived.Test.YtnpdmleglcbobaaXFnExactReadLogx0
import Derived.Test.YtnpdmleglcbobaaXFnExactReadLogx5
import Derived.Test.YtnpdmleglcbobaaXFnExactReadLogx6
namespace Go.Proofs.Ytnpdmleglcbobaa.XFnExactReadLog
open Go.RowKit Go.Proofs.YtnpdmleglcbobaaW.PrintWords Go.Proofs.YtnpdmleglcbobaaW.PrintLast Go.Proofs.YtnpdmleglcbobaaW.PrintMore
attribute [local go_sem] max2_int min2_int max_two min_two max_three min_three max_four min_four   -- for this text's walks alone
set_option linter.unusedVariables false
set_option linter.unusedSimpArgs false

/-! ### impl_RecordBytes: function 24 -/
mutual
def impl_RecordBytes.j0 : Nat → Bool → Int → Int → ByteArray → ByteArray → List (S66) → Option (List Int × Int)
 | 0, _, _, _, _, _, _ => none
 | k + 1, x18, x215000, x215001, x215002, x215003, x215004 => if x18 = true then (some (([] : List Int), 1)) else ((impl_PutInt.f k x215001).bind fun bt215 => ((some (([(x215000) % 256] : List Int) : List Int)).bind fun y219 => (if y219.length + bt215.1.length < 140737488355328 then ((some (y219 ++ bt215.1 : List Int)).bind fun y222 => (if x215000 = 1 then ((impl_DocBytes.f k x215003 x215004).bind fun bt225 => (if bt225.2 = 0 then ((impl_oIdOk.f k x215003).bind fun t229 => (if t229 = true then (if x215002.toList = ([] : List UInt8) then (if y222.length + bt225.1.length < 140737488355328 then (impl_RecordBytes.j1 k (y222 ++ bt225.1)) else (none)) else (some (([] : List Int), 1))) else (some (([] : List Int), 1)))) else (some (([] : List Int), 1)))) else (if x215000 = 2 then ((impl_oIdOk.f k x215002).bind fun t233 => (if t233 = true then ((impl_oZeroDoc.f x215003 x215004).bind fun t234 => (if t234 = true then (if y222.length + x215002.size < 140737488355328 then (impl_RecordBytes.j1 k (y222 ++ bytesOf x215002)) else (none)) else (some (([] : List Int), 1)))) else (some (([] : List Int), 1)))) else (some (([] : List Int), 1))))) else (none))))
def impl_RecordBytes.j1 : Nat → List Int → Option (List Int × Int)
 | 0, _ => none
 | k + 1, x6 => (impl_PutInt.f k (x6.length : Int)).bind fun bt238 => (if (wrap64 ((wrap64 ((bt238.1.length : Int) + (x6.length : Int))) + 4)) > 1048576 then (some (([] : List Int), 2)) else (if bt238.1.length + x6.length < 140737488355328 then ((some (bt238.1 ++ x6 : List Int)).bind fun y242 => ((impl_Sum32.f k x6).bind fun t245 => ((impl_oFour.f t245).bind fun t246 => (if y242.length + t246.length < 140737488355328 then (some ((y242 ++ t246), 0)) else (none))))) else (none)))
end
def impl_RecordBytes.f (k : Nat) (a0_0 : Int) (a0_1 : Int) (a0_2 : ByteArray) (a0_3 : ByteArray) (l0_4 : List (S66)) : Option (List Int × Int) := if a0_1 < 1 then (impl_RecordBytes.j0 k true a0_0 a0_1 a0_2 a0_3 l0_4) else (impl_RecordBytes.j0 k (decide (a0_1 > 4611686018427387903)) a0_0 a0_1 a0_2 a0_3 l0_4)
theorem impl_RecordBytes.mono_l : ∀ k, (∀ y0 y1 y2 y3 y4 y5, LeO (impl_RecordBytes.j0 k y0 y1 y2 y3 y4 y5) (impl_RecordBytes.j0 (k + 1) y0 y1 y2 y3 y4 y5)) ∧ (∀ y0, LeO (impl_RecordBytes.j1 k y0) (impl_RecordBytes.j1 (k + 1) y0))
 | 0 => ⟨fun _ _ _ _ _ _ r h => by simp [impl_RecordBytes.j0] at h, fun _ r h => by simp [impl_RecordBytes.j1] at h⟩
 | k + 1 => by
  obtain ⟨ih0, ih1⟩ := impl_RecordBytes.mono_l k
  refine ⟨?_, ?_⟩
  all_goals intros
  all_goals first | unfold impl_RecordBytes.j0 | unfold impl_RecordBytes.j1
  all_goals
   repeat' first
   | (with_reducible exact ih0 _ _ _ _ _ _)
   | (with_reducible exact ih1 _)
   | (with_reducible exact impl_DocBytes.mono _ _ _)
   | (with_reducible exact impl_PutInt.mono _ _)
   | (with_reducible exact impl_Sum32.mono _ _)
   | (with_reducible exact impl_oIdOk.mono _ _)
   | (with_reducible exact LeO.refl _)
   | (with_reducible exact LeO.none _)
   | (with_reducible refine LeO.ite ?_ ?_)
   | (with_reducible refine LeO.bind ?_ (fun _ => ?_))
theorem impl_RecordBytes.mono : ∀ a0 a1 a2 a3 a4 k, LeO (impl_RecordBytes.f k a0 a1 a2 a3 a4) (impl_RecordBytes.f (k + 1) a0 a1 a2 a3 a4) := by
 intro a0 a1 a2 a3 a4 k
 obtain ⟨ih0, ih1⟩ := impl_RecordBytes.mono_l k
 unfold impl_RecordBytes.f
 repeat' first
  | (with_reducible exact ih0 _ _ _ _ _ _)
  | (with_reducible exact ih1 _)
  | (with_reducible exact impl_DocBytes.mono _ _ _)
  | (with_reducible exact impl_PutInt.mono _ _)
  | (with_reducible exact impl_Sum32.mono _ _)
  | (with_reducible exact impl_oIdOk.mono _ _)
  | (with_reducible exact LeO.refl _)
  | (with_reducible exact LeO.none _)
  | (with_reducible refine LeO.ite ?_ ?_)
  | (with_reducible refine LeO.bind ?_ (fun _ => ?_))
set_option maxHeartbeats 8000000 in
set_option maxRecDepth 100000 in
theorem impl_RecordBytes.calls (k : Nat) (a0_0 : Int) (a0_1 : Int) (a0_2 : ByteArray) (a0_3 : ByteArray) (A0_4 : Option Addr) (c0_4 : Nat) (l0_4 : List (S66)) (r1 : List Int) (r2 : Int) (w : World) (hr0_4 : Kd.C k66 w A0_4 l0_4.length l0_4) (hc0_4 : l0_4.length ≤ c0_4) (h : impl_RecordBytes.f k a0_0 a0_1 a0_2 a0_3 l0_4 = some (r1, r2)) :
 Calls Try.prog 24 #[.agg #[.int .i64 a0_0, .int .i64 a0_1, .string a0_2, .string a0_3, .slice A0_4 l0_4.length c0_4]] w fun e w' => ∃ v0_ : Value, e = .returned (.tuple #[v0_, .int .i64 r2]) ∧ Kd.R (Kd.int .u8) 5 w' w.heap.size (fun _ => True) v0_ r1 ∧ Below w.heap.size w w' := by
 have hu47 := Try.underlying47
 have hu31 := Try.underlying31
 have HR0_4 := Aside0.mk hr0_4
 have HC0_4 := Aside0.mk hc0_4
 clear hr0_4 hc0_4
 have HB := Aside0.mk (Below.refl w.heap.size w)
 have H := h
 unfold impl_RecordBytes.f at H
 clear h
 have HC2 := Aside0.mk H
 clear H
 go_enter Try.func24, Try.ntmps24
 go_upto_region 1 with (first | ((with_reducible refine gate_dst (N := 1) rfl ?_); refine box_event (by rfl) (N := 1) (by rfl) (cs := #[.int .i64 a0_0, .int .i64 a0_1, .string a0_2, .string a0_3, .slice A0_4 l0_4.length c0_4]) (t := 47) zgs ?_; intro gb214 hg w3 hbox hb; have BK214 := Aside0.mk (hbox); have GW214 := zge hg (below_size (zh HB)); have GE214 := zge hg (below_size (zh HB)); replace HB := Aside0.mk (below_step (zh HB) hb); clear hb hbox hg))
 (try simp only [Act.put, List.setIfInBounds_toArray, List.set_cons_zero, List.set_cons_succ])
 go_cut [18] (fun v18 wc => ∃ (kq : Nat) (x18_1 : Bool), v18 = .bool x18_1 ∧ Aside0 (impl_RecordBytes.j0 kq x18_1 a0_0 a0_1 a0_2 a0_3 l0_4 = some (r1, r2)) ∧ Aside0 (kq ≤ k) ∧ Aside0 (wc.heap[gb214]? = some (.cells #[.int .i64 a0_0, .int .i64 a0_1, .string a0_2, .string a0_3, (.slice A0_4 l0_4.length c0_4)] 47 (0, 0))) ∧ Aside0 (Below w.heap.size w wc))
 case first =>
  have H := HC2.out
  clear HC2
  by_cases c4 : a0_1 < 1
  ·rw [if_pos c4] at H
   have c4b0 : decide (a0_1 < 1) = true := decide_eq_true c4
   clear c4
   (first | rw [c4b0] | (simp only [i64_w, i32_w]; rw [c4b0]) | skip)
   have H' := Aside0.mk H
   clear H
   obtain ⟨⟨hcz5_0, hcz5_1, hcz5_2, hcz5_3, hcz5_4⟩, hfz5_0, hfz5_1, hfz5_2, hfz5_3, hfz5_4⟩ := zc5 BK214
   go_wp2
   go_meet
   case rel => exact ⟨_, (true), (by first | rfl | (simp; done) | (simp [*]; done) | (generalize ByteArray.toList _ = l_; cases l_ <;> rfl)), H', ⟨by first | omega | exact Nat.le_refl _⟩, ⟨zb BK214⟩, ⟨zg HB⟩⟩
  rw [if_neg c4] at H
  have c4b0 : decide (a0_1 < 1) = false := decide_eq_false c4
  clear c4
  (first | rw [c4b0] | (simp only [i64_w, i32_w]; rw [c4b0]) | skip)
  have H' := Aside0.mk H
  clear H
  obtain ⟨⟨hcz6_0, hcz6_1, hcz6_2, hcz6_3, hcz6_4⟩, hfz6_0, hfz6_1, hfz6_2, hfz6_3, hfz6_4⟩ := zc5 BK214
  go_wp2
  go_meet
  case rel => exact ⟨_, (decide (a0_1 > 4611686018427387903)), (by first | rfl | (simp; done) | (simp [*]; done) | (generalize ByteArray.toList _ = l_; cases l_ <;> rfl)), H', ⟨by first | omega | exact Nat.le_refl _⟩, ⟨zb BK214⟩, ⟨zg HB⟩⟩
 case rest =>
  clear HC2
  obtain ⟨kq, x18_1, rfl, HA, HJ1, BK214, HB⟩ := hcut
  cases kq with
  | zero => exact absurd HA.out (by simp [impl_RecordBytes.j0])
  | succ kj1 =>
   have H := HA.out
   clear HA
   simp only [impl_RecordBytes.j0] at H
   by_cases c7 : x18_1 = true
   ·subst c7
    rw [if_pos rfl] at H
    simp only [Option.some.injEq, Prod.mk.injEq] at H
    obtain ⟨rfl, rfl⟩ := H
    go_wp2
    go_ret2
    exact ⟨_, zre, by first | exact Kd.R_nil _ _ _ _ _ | exact Kd.N_nil _ _ _ _ _ | exact Kd.V_nil _ _ _ _ _ | exact Kd.Q_nil _ _ _ _ _ | exact Kd.S_nil _ _ _ _ _, zg HB⟩
   replace c7 := Bool.eq_false_iff.mpr c7
   subst c7
   rw [if_neg (show ¬ (false = true) by decide)] at H
   replace H := Option.bind_eq_some_iff.mp H
   obtain ⟨⟨t215, t216⟩, A80, H⟩ := H
   try dsimp only at H
   have A8 := Aside0.mk A80
   clear A80
   obtain ⟨y219, hy219⟩ : ∃ y_ : List Int, y_ = (([(a0_0) % 256] : List Int)) := ⟨_, rfl⟩
   replace H : (if y219.length + t215.length < 140737488355328 then ((some (y219 ++ t215 : List Int)).bind fun y222 => (if a0_0 = 1 then ((impl_DocBytes.f kj1 a0_3 l0_4).bind fun bt225 => (if bt225.2 = 0 then ((impl_oIdOk.f kj1 a0_3).bind fun t229 => (if t229 = true then (if a0_2.toList = ([] : List UInt8) then (if y222.length + bt225.1.length < 140737488355328 then (impl_RecordBytes.j1 kj1 (y222 ++ bt225.1)) else (none)) else (some (([] : List Int), 1))) else (some (([] : List Int), 1)))) else (some (([] : List Int), 1)))) else (if a0_0 = 2 then ((impl_oIdOk.f kj1 a0_2).bind fun t233 => (if t233 = true then ((impl_oZeroDoc.f a0_3 l0_4).bind fun t234 => (if t234 = true then (if y222.length + a0_2.size < 140737488355328 then (impl_RecordBytes.j1 kj1 (y222 ++ bytesOf a0_2)) else (none)) else (some (([] : List Int), 1)))) else (some (([] : List Int), 1)))) else (some (([] : List Int), 1))))) else (none)) = some (r1, r2) := zby hy219 H
   have Ny219 := Aside0.mk hy219
   clear hy219
   by_cases c9 : y219.length + t215.length < 140737488355328
   rotate_left
   ·rw [if_neg c9] at H
    exact absurd H (by simp)

   rw [if_pos c9] at H
   have LMc9 := Aside0.mk c9
   clear c9
   obtain ⟨y222, hy222⟩ : ∃ y_ : List Int, y_ = (y219 ++ t215) := ⟨_, rfl⟩
   replace H : (if a0_0 = 1 then ((impl_DocBytes.f kj1 a0_3 l0_4).bind fun bt225 => (if bt225.2 = 0 then ((impl_oIdOk.f kj1 a0_3).bind fun t229 => (if t229 = true then (if a0_2.toList = ([] : List UInt8) then (if y222.length + bt225.1.length < 140737488355328 then (impl_RecordBytes.j1 kj1 (y222 ++ bt225.1)) else (none)) else (some (([] : List Int), 1))) else (some (([] : List Int), 1)))) else (some (([] : List Int), 1)))) else (if a0_0 = 2 then ((impl_oIdOk.f kj1 a0_2).bind fun t233 => (if t233 = true then ((impl_oZeroDoc.f a0_3 l0_4).bind fun t234 => (if t234 = true then (if y222.length + a0_2.size < 140737488355328 then (impl_RecordBytes.j1 kj1 (y222 ++ bytesOf a0_2)) else (none)) else (some (([] : List Int), 1)))) else (some (([] : List Int), 1)))) else (some (([] : List Int), 1)))) = some (r1, r2) := zby hy222 H
   have Ny222 := Aside0.mk hy222
   clear hy222
   have HC10 := Aside0.mk H
   clear H
   obtain ⟨⟨hcz11_0, hcz11_1, hcz11_2, hcz11_3, hcz11_4⟩, hfz11_0, hfz11_1, hfz11_2, hfz11_3, hfz11_4⟩ := zc5 BK214
   go_upto_block 0 with (first | ((with_reducible refine gate_callee (f := 48) rfl ?_); refine goesL_ (some 22) rfl rfl Try.func48 (by kernel_rfl) rfl #[.int .i64 a0_1] rfl zar ?_; (with_reducible refine (impl_PutInt.calls kj1 a0_1 t215 t216 _ A8.out).mono ?_); rintro e w12 ⟨v217, rfl, ho0, hb⟩; refine ⟨_, rfl, ?_⟩; have HO218 := Aside0.mk (Kd.R_lower ho0 (below_size (zg HB))); replace BK214 := Aside0.mk (blk_below (zb BK214) hb); replace HB := Aside0.mk (below_step (zg HB) hb); (try clear hb ho0); (try clear hb); (try clear hk); (try clear hi); obtain ⟨⟨hcz14_0, hcz14_1, hcz14_2, hcz14_3, hcz14_4⟩, hfz14_0, hfz14_1, hfz14_2, hfz14_3, hfz14_4⟩ := zc5 BK214) | ((with_reducible refine gate_dst (N := 28) rfl ?_); refine Kd.R_lit (Kd.int .u8) _ 5 ?hg (N := 28) ?hd (xs := ([(a0_0) % 256] : List Int)) (inner := [.int .u8 ((a0_0) % 256)]) (ok := fun _ => True) (okp := fun _ => True) ?hr ?hp (fun _ hk => hk) trivial (Below.refl _ _) (Nat.le_refl _) (by simp) ?_; (case hd => rfl); (case hg => rfl); (case hr => first | (go_simp; done) | (go_simp; rfl)); (case hp => exact (Reps.one (show Kd.M (Kd.int .u8) _ _ _ ((a0_0) % 256) [.int .u8 ((a0_0) % 256)] from rfl) (Reps.none _ _))); intro v220 w15 ho16 hb hg_ hnew_; clear hg_ hnew_; (first | rw [← Ny219.out] at ho16 | (simp only [Int.reduceToNat] at ho16; rw [← Ny219.out] at ho16)); have HO221 := Aside0.mk (Kd.R_lower (Kd.R_new' ho16 (Kd.R_lt (zr HO218))) (below_size (zg HB))); replace HO218 := Aside0.mk (Kd.R_elder' (zr HO218) (Kd.R_base ho16) hb); replace BK214 := Aside0.mk (blk_below (zb BK214) hb); replace HB := Aside0.mk (below_step (zg HB) hb); clear hb ho16; obtain ⟨Ao18, co18, eo18⟩ := Kd.R_slice HO218.out; subst eo18) | ((with_reducible refine gate_builtin (b := .append) (xs := #[.tmp 28, .tmp 29]) rfl ?_); at_builtin; refine Kd.R_append_rows (Kd.int .u8) (w0 := w) w.heap.size rfl (.tmp 28) (.tmp 29) 26 5 (.int .u8 0) 1 rfl Try.underlying26 info5 rfl (by decide) (by omega) v220 y219 t215 _ _ _ (fun k_ => some k_ ≠ (.slice Ao18 t215.length co18 : Value).ownBlock) (fun _ => False) rfl rfl ?aO ?aR (fun _ _ h => h) (fun _ h => h.elim) ?aF ?aB ?aS ?aL ?_; (case aR => repeat (first | exact (Kd.R_reads' HO218.out).2.2 | (with_reducible refine Kd.C_alloc ?_ _) | (with_reducible refine Kd.C_drewN ?_ _) | (with_reducible refine Kd.C_drew ?_))); (case aB => exact (zg HB)); (case aF => exact (fun k_ hk => Kd.fresh' (Kd.R_lt (zr HO218)) k_ hk)); (case aO => exact (Kd.R_mono (zr HO221) (fun _ hk => hk.2))); (case aS => exact (below_size (zg HB))); (case aL => have := LMc9.out; omega); intro v223 w17 ho hb hg hat; rw [← Ny222.out] at ho; replace BK214 := Aside0.mk (blk_grown (zb BK214) hg (Kd.R_ne HO221.out BK214.out (by decide))); replace HO218 := Aside0.mk (Kd.R_after (ok := (fun _ => True)) (zr HO218) hg hat); replace HB := Aside0.mk (hb); have HO224 := Aside0.mk (ho); clear HO221; clear ho hb hg hat; obtain ⟨⟨hcz19_0, hcz19_1, hcz19_2, hcz19_3, hcz19_4⟩, hfz19_0, hfz19_1, hfz19_2, hfz19_3, hfz19_4⟩ := zc5 BK214))
   (try simp only [Act.put, List.setIfInBounds_toArray, List.set_cons_zero, List.set_cons_succ])
   go_cut [6] (fun v6 wc => ∃ (kq : Nat) (x6_9 : List Int), Aside0 (impl_RecordBytes.j1 kq x6_9 = some (r1, r2)) ∧ Aside0 (kq ≤ kj1) ∧ Aside0 (Kd.R (Kd.int .u8) 5 wc w.heap.size (fun _ => True) v6 x6_9) ∧ Aside0 (wc.heap[gb214]? = some (.cells #[.int .i64 a0_0, .int .i64 a0_1, .string a0_2, .string a0_3, (.slice A0_4 l0_4.length c0_4)] 47 (0, 0))) ∧ Aside0 (Below w.heap.size w wc))
   case first =>
    have H := HC10.out
    clear HC10
    by_cases c20 : a0_0 = 1
    rotate_left
    ·rw [if_neg c20] at H
     have c20b0 : (a0_0 == 1) = false := beq_eq_false_iff_ne.mpr c20
     have c20b1 : (a0_0 != 1) = true := bne_iff_ne.mpr c20
     (first | rw [c20b0] | (simp only [i64_w, i32_w]; rw [c20b0]) | skip)
     by_cases c44 : a0_0 = 2
     rotate_left
     ·rw [if_neg c44] at H
      have c44b0 : (a0_0 == 2) = false := beq_eq_false_iff_ne.mpr c44
      have c44b1 : (a0_0 != 2) = true := bne_iff_ne.mpr c44
      simp only [Option.some.injEq, Prod.mk.injEq] at H
      obtain ⟨rfl, rfl⟩ := H
      go_wp2
      go_ret2
      exact ⟨_, zre, by first | exact Kd.R_nil _ _ _ _ _ | exact Kd.N_nil _ _ _ _ _ | exact Kd.V_nil _ _ _ _ _ | exact Kd.Q_nil _ _ _ _ _ | exact Kd.S_nil _ _ _ _ _, zg HB⟩
     rw [if_pos c44] at H
     have c44b0 : (a0_0 == 2) = true := beq_iff_eq.mpr c44
     have c44b1 : (a0_0 != 2) = false := bne_eq_false_iff_eq.mpr c44
     clear c44
     replace H := Option.bind_eq_some_iff.mp H
     obtain ⟨t233, A450, H⟩ := H
     try dsimp only at H
     have A45 := Aside0.mk A450
     clear A450
     by_cases c46 : t233 = true
     rotate_left
     ·replace c46 := Bool.eq_false_iff.mpr c46
      subst c46
      rw [if_neg (show ¬ (false = true) by decide)] at H
      simp only [Option.some.injEq, Prod.mk.injEq] at H
      obtain ⟨rfl, rfl⟩ := H
      obtain ⟨⟨hcz58_0, hcz58_1, hcz58_2, hcz58_3, hcz58_4⟩, hfz58_0, hfz58_1, hfz58_2, hfz58_3, hfz58_4⟩ := zc5 BK214
      go_wp2_with (first | ((with_reducible refine gate_callee (f := 49) rfl ?_); refine goesL_ (some 62) rfl rfl Try.func49 (by kernel_rfl) rfl #[.string a0_2] rfl zar ?_; (with_reducible refine (impl_oIdOk.calls kj1 a0_2 false _ A45.out).mono ?_); rintro e w' ⟨rfl, ⟨nd, rfl⟩⟩; refine ⟨_, rfl, ?_⟩))
      go_ret2
      exact ⟨_, zre, by first | exact Kd.R_nil _ _ _ _ _ | exact Kd.N_nil _ _ _ _ _ | exact Kd.V_nil _ _ _ _ _ | exact Kd.Q_nil _ _ _ _ _ | exact Kd.S_nil _ _ _ _ _, zg HB⟩
     subst c46
     rw [if_pos rfl] at H
     replace H := Option.bind_eq_some_iff.mp H
     obtain ⟨t234, A470, H⟩ := H
     try dsimp only at H
     have A47 := Aside0.mk A470
     clear A470
     by_cases c48 : t234 = true
     rotate_left
     ·replace c48 := Bool.eq_false_iff.mpr c48
      subst c48
      rw [if_neg (show ¬ (false = true) by decide)] at H
      simp only [Option.some.injEq, Prod.mk.injEq] at H
      obtain ⟨rfl, rfl⟩ := H
      obtain ⟨⟨hcz55_0, hcz55_1, hcz55_2, hcz55_3, hcz55_4⟩, hfz55_0, hfz55_1, hfz55_2, hfz55_3, hfz55_4⟩ := zc5 BK214
      go_wp2_with (first | ((with_reducible refine gate_callee (f := 49) rfl ?_); refine goesL_ (some 62) rfl rfl Try.func49 (by kernel_rfl) rfl #[.string a0_2] rfl zar ?_; (with_reducible refine (impl_oIdOk.calls kj1 a0_2 true _ A45.out).mono ?_); rintro e w' ⟨rfl, ⟨nd, rfl⟩⟩; refine ⟨_, rfl, ?_⟩) | (go_at_call 50; (with_reducible refine (impl_oZeroDoc.calls a0_3 _ _ l0_4 false _ ?side1 ?side2 A47.out).mono ?_); (case side1 => exact zC (Kd.C_below HR0_4.out (zg HB))); (case side2 => exact HC0_4.out); rintro e w56 ⟨rfl, hb⟩; replace HO218 := Aside0.mk (Kd.R_below (zr HO218) hb); replace HO224 := Aside0.mk (Kd.R_below (zr HO224) hb); replace BK214 := Aside0.mk (blk_below (zb BK214) hb); replace HB := Aside0.mk (below_step (zg HB) hb); (try clear hb); (try clear hb2); (try clear hk); (try clear hi)))
      go_ret2
      exact ⟨_, zre, by first | exact Kd.R_nil _ _ _ _ _ | exact Kd.N_nil _ _ _ _ _ | exact Kd.V_nil _ _ _ _ _ | exact Kd.Q_nil _ _ _ _ _ | exact Kd.S_nil _ _ _ _ _, zg HB⟩
     subst c48
     rw [if_pos rfl] at H
     by_cases c49 : y222.length + a0_2.size < 140737488355328
     rotate_left
     ·rw [if_neg c49] at H
      exact absurd H (by simp)
     rw [if_pos c49] at H
     have LMc49 := Aside0.mk c49
     clear c49
     obtain ⟨y235, hy235⟩ : ∃ y_ : List Int, y_ = (y222 ++ bytesOf a0_2) := ⟨_, rfl⟩
     replace H : (impl_RecordBytes.j1 kj1 y235) = some (r1, r2) := zby hy235 H
     have Ny235 := Aside0.mk hy235
     clear hy235
     have H' := Aside0.mk H
     clear H
     obtain ⟨⟨hcz50_0, hcz50_1, hcz50_2, hcz50_3, hcz50_4⟩, hfz50_0, hfz50_1, hfz50_2, hfz50_3, hfz50_4⟩ := zc5 BK214
     go_wp2_with (first | ((with_reducible refine gate_callee (f := 49) rfl ?_); refine goesL_ (some 62) rfl rfl Try.func49 (by kernel_rfl) rfl #[.string a0_2] rfl zar ?_; (with_reducible refine (impl_oIdOk.calls kj1 a0_2 true _ A45.out).mono ?_); rintro e w' ⟨rfl, ⟨nd, rfl⟩⟩; refine ⟨_, rfl, ?_⟩) | (go_at_call 50; (with_reducible refine (impl_oZeroDoc.calls a0_3 _ _ l0_4 true _ ?side1 ?side2 A47.out).mono ?_); (case side1 => exact zC (Kd.C_below HR0_4.out (zg HB))); (case side2 => exact HC0_4.out); rintro e w51 ⟨rfl, hb⟩; replace HO218 := Aside0.mk (Kd.R_below (zr HO218) hb); replace HO224 := Aside0.mk (Kd.R_below (zr HO224) hb); replace BK214 := Aside0.mk (blk_below (zb BK214) hb); replace HB := Aside0.mk (below_step (zg HB) hb); (try clear hb); (try clear hb2); (try clear hk); (try clear hi); obtain ⟨⟨hcz53_0, hcz53_1, hcz53_2, hcz53_3, hcz53_4⟩, hfz53_0, hfz53_1, hfz53_2, hfz53_3, hfz53_4⟩ := zc5 BK214) | (at_builtin; refine Kd.R_append_str (w0 := w) w.heap.size rfl (.tmp 70) _ 26 9 5 rfl Try.underlying26 Try.underlying9 info5 v223 y222 a0_2 (fun k_ => some k_ ≠ (.slice Ao18 t215.length co18 : Value).ownBlock) rfl rfl ?aF ?aO ?aB ?aS ?aL ?_; (case aB => exact (zg HB)); (case aF => exact (fun k_ hk => Kd.fresh' (Kd.R_lt (zr HO218)) k_ hk)); (case aO => exact (zr HO224)); (case aS => exact (below_size (zg HB))); (case aL => have := LMc49.out; omega); intro v236 w54 ho hb hg hat; rw [← Ny235.out] at ho; replace BK214 := Aside0.mk (blk_grown (zb BK214) hg (Kd.R_ne HO224.out BK214.out (by decide))); replace HO218 := Aside0.mk (Kd.R_after (ok := (fun _ => True)) (zr HO218) hg hat); replace HB := Aside0.mk (hb); have HO237 := Aside0.mk (ho); clear HO224; clear ho hb hg hat))
     go_meet
     case rel => exact ⟨_, (y235), H', ⟨by have := HJ1.out; first | omega | exact Nat.le_refl _⟩, ⟨Kd.R_mono (zr HO237) (fun _ hk => trivial)⟩, ⟨zb BK214⟩, ⟨zg HB⟩⟩
    rw [if_pos c20] at H
    have c20b0 : (a0_0 == 1) = true := beq_iff_eq.mpr c20
    have c20b1 : (a0_0 != 1) = false := bne_eq_false_iff_eq.mpr c20
    clear c20
    (first | rw [c20b0] | (simp only [i64_w, i32_w]; rw [c20b0]) | skip)
    replace H := Option.bind_eq_some_iff.mp H
    obtain ⟨⟨t225, t228⟩, A210, H⟩ := H
    try dsimp only at H
    have A21 := Aside0.mk A210
    clear A210
    by_cases c22 : t228 = 0
    rotate_left
    ·rw [if_neg c22] at H
     have c22b0 : (t228 == 0) = false := beq_eq_false_iff_ne.mpr c22
     have c22b1 : (t228 != 0) = true := bne_iff_ne.mpr c22
     simp only [Option.some.injEq, Prod.mk.injEq] at H
     obtain ⟨rfl, rfl⟩ := H
     obtain ⟨⟨hcz41_0, hcz41_1, hcz41_2, hcz41_3, hcz41_4⟩, hfz41_0, hfz41_1, hfz41_2, hfz41_3, hfz41_4⟩ := zc5 BK214
     go_wp2_with (first | ((with_reducible refine gate_callee (f := 11) rfl ?_); refine goesL_ (some 38) rfl rfl Try.func11 (by kernel_rfl) rfl #[.agg #[.string a0_3, .slice A0_4 l0_4.length c0_4]] rfl zar ?_; (with_reducible refine (impl_DocBytes.calls kj1 a0_3 _ _ l0_4 t225 t228 _ ?side1 ?side2 A21.out).mono ?_); (case side1 => exact zC (Kd.C_below HR0_4.out HB.out)); (case side2 => exact HC0_4.out); rintro e w42 ⟨v226, rfl, ho0, hb⟩; refine ⟨_, rfl, ?_⟩; have HO227 := Aside0.mk (Kd.R_lower (Kd.R_new' (Kd.R_new' ho0 (Kd.R_lt (zr HO218))) (Kd.R_lt (zr HO224))) (below_size (zg HB))); replace HO218 := Aside0.mk (Kd.R_elder' (zr HO218) (Kd.R_base ho0) hb); replace HO224 := Aside0.mk (Kd.R_elder' (zr HO224) (Kd.R_base ho0) hb); replace BK214 := Aside0.mk (blk_below (zb BK214) hb); replace HB := Aside0.mk (below_step (zg HB) hb); (try clear hb ho0); (try clear hb); (try clear hk); (try clear hi)))
     go_ret2
     exact ⟨_, zre, by first | exact Kd.R_nil _ _ _ _ _ | exact Kd.N_nil _ _ _ _ _ | exact Kd.V_nil _ _ _ _ _ | exact Kd.Q_nil _ _ _ _ _ | exact Kd.S_nil _ _ _ _ _, zg HB⟩
    rw [if_pos c22] at H
    have c22b0 : (t228 == 0) = true := beq_iff_eq.mpr c22
    have c22b1 : (t228 != 0) = false := bne_eq_false_iff_eq.mpr c22
    clear c22
    replace H := Option.bind_eq_some_iff.mp H
    obtain ⟨t229, A230, H⟩ := H
    try dsimp only at H
    have A23 := Aside0.mk A230
    clear A230
    by_cases c24 : t229 = true
    rotate_left
    ·replace c24 := Bool.eq_false_iff.mpr c24
     subst c24
     rw [if_neg (show ¬ (false = true) by decide)] at H
     simp only [Option.some.injEq, Prod.mk.injEq] at H
     obtain ⟨rfl, rfl⟩ := H
     obtain ⟨⟨hcz37_0, hcz37_1, hcz37_2, hcz37_3, hcz37_4⟩, hfz37_0, hfz37_1, hfz37_2, hfz37_3, hfz37_4⟩ := zc5 BK214
     go_wp2_with (first | ((with_reducible refine gate_callee (f := 11) rfl ?_); refine goesL_ (some 38) rfl rfl Try.func11 (by kernel_rfl) rfl #[.agg #[.string a0_3, .slice A0_4 l0_4.length c0_4]] rfl zar ?_; (with_reducible refine (impl_DocBytes.calls kj1 a0_3 _ _ l0_4 t225 t228 _ ?side1 ?side2 A21.out).mono ?_); (case side1 => exact zC (Kd.C_below HR0_4.out HB.out)); (case side2 => exact HC0_4.out); rintro e w38 ⟨v226, rfl, ho0, hb⟩; refine ⟨_, rfl, ?_⟩; have HO227 := Aside0.mk (Kd.R_lower (Kd.R_new' (Kd.R_new' ho0 (Kd.R_lt (zr HO218))) (Kd.R_lt (zr HO224))) (below_size (zg HB))); replace HO218 := Aside0.mk (Kd.R_elder' (zr HO218) (Kd.R_base ho0) hb); replace HO224 := Aside0.mk (Kd.R_elder' (zr HO224) (Kd.R_base ho0) hb); replace BK214 := Aside0.mk (blk_below (zb BK214) hb); replace HB := Aside0.mk (below_step (zg HB) hb); (try clear hb ho0); (try clear hb); (try clear hk); (try clear hi); obtain ⟨⟨hcz40_0, hcz40_1, hcz40_2, hcz40_3, hcz40_4⟩, hfz40_0, hfz40_1, hfz40_2, hfz40_3, hfz40_4⟩ := zc5 BK214) | (go_at_call 49; (with_reducible refine (impl_oIdOk.calls kj1 a0_3 false _ A23.out).mono ?_); rintro e w' ⟨rfl, ⟨nd, rfl⟩⟩))
     go_ret2
     exact ⟨_, zre, by first | exact Kd.R_nil _ _ _ _ _ | exact Kd.N_nil _ _ _ _ _ | exact Kd.V_nil _ _ _ _ _ | exact Kd.Q_nil _ _ _ _ _ | exact Kd.S_nil _ _ _ _ _, zg HB⟩
    subst c24
    rw [if_pos rfl] at H
    by_cases c25 : a0_2.toList = ([] : List UInt8)
    rotate_left
    ·rw [if_neg c25] at H
     have c25b0 : (a0_2.toList == ([] : List UInt8)) = false := beq_eq_false_iff_ne.mpr c25
     have c25b1 : (a0_2.toList != ([] : List UInt8)) = true := bne_iff_ne.mpr c25
     simp only [Option.some.injEq, Prod.mk.injEq] at H
     obtain ⟨rfl, rfl⟩ := H
     obtain ⟨⟨hcz33_0, hcz33_1, hcz33_2, hcz33_3, hcz33_4⟩, hfz33_0, hfz33_1, hfz33_2, hfz33_3, hfz33_4⟩ := zc5 BK214
     go_wp2_with (first | ((with_reducible refine gate_callee (f := 11) rfl ?_); refine goesL_ (some 38) rfl rfl Try.func11 (by kernel_rfl) rfl #[.agg #[.string a0_3, .slice A0_4 l0_4.length c0_4]] rfl zar ?_; (with_reducible refine (impl_DocBytes.calls kj1 a0_3 _ _ l0_4 t225 t228 _ ?side1 ?side2 A21.out).mono ?_); (case side1 => exact zC (Kd.C_below HR0_4.out HB.out)); (case side2 => exact HC0_4.out); rintro e w34 ⟨v226, rfl, ho0, hb⟩; refine ⟨_, rfl, ?_⟩; have HO227 := Aside0.mk (Kd.R_lower (Kd.R_new' (Kd.R_new' ho0 (Kd.R_lt (zr HO218))) (Kd.R_lt (zr HO224))) (below_size (zg HB))); replace HO218 := Aside0.mk (Kd.R_elder' (zr HO218) (Kd.R_base ho0) hb); replace HO224 := Aside0.mk (Kd.R_elder' (zr HO224) (Kd.R_base ho0) hb); replace BK214 := Aside0.mk (blk_below (zb BK214) hb); replace HB := Aside0.mk (below_step (zg HB) hb); (try clear hb ho0); (try clear hb); (try clear hk); (try clear hi); obtain ⟨⟨hcz36_0, hcz36_1, hcz36_2, hcz36_3, hcz36_4⟩, hfz36_0, hfz36_1, hfz36_2, hfz36_3, hfz36_4⟩ := zc5 BK214) | (go_at_call 49; (with_reducible refine (impl_oIdOk.calls kj1 a0_3 true _ A23.out).mono ?_); rintro e w' ⟨rfl, ⟨nd, rfl⟩⟩))
     go_ret2
     exact ⟨_, zre, by first | exact Kd.R_nil _ _ _ _ _ | exact Kd.N_nil _ _ _ _ _ | exact Kd.V_nil _ _ _ _ _ | exact Kd.Q_nil _ _ _ _ _ | exact Kd.S_nil _ _ _ _ _, zg HB⟩
    rw [if_pos c25] at H
    have c25b0 : (a0_2.toList == ([] : List UInt8)) = true := beq_iff_eq.mpr c25
    have c25b1 : (a0_2.toList != ([] : List UInt8)) = false := bne_eq_false_iff_eq.mpr c25
    clear c25
    by_cases c26 : y222.length + t225.length < 140737488355328
    rotate_left
    ·rw [if_neg c26] at H
     exact absurd H (by simp)
    rw [if_pos c26] at H
    have LMc26 := Aside0.mk c26
    clear c26
    obtain ⟨y230, hy230⟩ : ∃ y_ : List Int, y_ = (y222 ++ t225) := ⟨_, rfl⟩
    replace H : (impl_RecordBytes.j1 kj1 y230) = some (r1, r2) := zby hy230 H
    have Ny230 := Aside0.mk hy230
    clear hy230
    have H' := Aside0.mk H
    clear H
    obtain ⟨⟨hcz27_0, hcz27_1, hcz27_2, hcz27_3, hcz27_4⟩, hfz27_0, hfz27_1, hfz27_2, hfz27_3, hfz27_4⟩ := zc5 BK214
    go_wp2_with (first | ((with_reducible refine gate_callee (f := 11) rfl ?_); refine goesL_ (some 38) rfl rfl Try.func11 (by kernel_rfl) rfl #[.agg #[.string a0_3, .slice A0_4 l0_4.length c0_4]] rfl zar ?_; (with_reducible refine (impl_DocBytes.calls kj1 a0_3 _ _ l0_4 t225 t228 _ ?side1 ?side2 A21.out).mono ?_); (case side1 => exact zC (Kd.C_below HR0_4.out HB.out)); (case side2 => exact HC0_4.out); rintro e w28 ⟨v226, rfl, ho0, hb⟩; refine ⟨_, rfl, ?_⟩; have HO227 := Aside0.mk (Kd.R_lower (Kd.R_new' (Kd.R_new' ho0 (Kd.R_lt (zr HO218))) (Kd.R_lt (zr HO224))) (below_size (zg HB))); replace HO218 := Aside0.mk (Kd.R_elder' (zr HO218) (Kd.R_base ho0) hb); replace HO224 := Aside0.mk (Kd.R_elder' (zr HO224) (Kd.R_base ho0) hb); replace BK214 := Aside0.mk (blk_below (zb BK214) hb); replace HB := Aside0.mk (below_step (zg HB) hb); (try clear hb ho0); (try clear hb); (try clear hk); (try clear hi); obtain ⟨⟨hcz30_0, hcz30_1, hcz30_2, hcz30_3, hcz30_4⟩, hfz30_0, hfz30_1, hfz30_2, hfz30_3, hfz30_4⟩ := zc5 BK214) | (go_at_call 49; (with_reducible refine (impl_oIdOk.calls kj1 a0_3 true _ A23.out).mono ?_); rintro e w' ⟨rfl, ⟨nd, rfl⟩⟩; obtain ⟨Ao32, co32, eo32⟩ := Kd.R_slice HO227.out; subst eo32) | ((with_reducible refine gate_builtin (b := .append) (xs := #[.tmp 55, .tmp 56]) rfl ?_); at_builtin; refine Kd.R_append_rows (Kd.int .u8) (w0 := w) w.heap.size rfl (.tmp 55) (.tmp 56) 26 5 (.int .u8 0) 1 rfl Try.underlying26 info5 rfl (by decide) (by omega) v223 y222 t225 _ _ _ (fun k_ => some k_ ≠ (.slice Ao18 t215.length co18 : Value).ownBlock ∧ some k_ ≠ (.slice Ao32 t225.length co32 : Value).ownBlock) (fun _ => False) rfl rfl ?aO ?aR (fun _ _ h => h) (fun _ h => h.elim) ?aF ?aB ?aS ?aL ?_; (case aR => repeat (first | exact (Kd.R_reads' HO227.out).2.2 | (with_reducible refine Kd.C_alloc ?_ _) | (with_reducible refine Kd.C_drewN ?_ _) | (with_reducible refine Kd.C_drew ?_))); (case aB => exact (zg HB)); (case aF => exact (fun k_ hk => ⟨Kd.fresh' (Kd.R_lt (zr HO218)) k_ hk, Kd.fresh' (Kd.R_lt (zr HO227)) k_ hk⟩)); (case aO => exact (zr HO224)); (case aS => exact (below_size (zg HB))); (case aL => have := LMc26.out; omega); intro v231 w31 ho hb hg hat; rw [← Ny230.out] at ho; replace BK214 := Aside0.mk (blk_grown (zb BK214) hg (Kd.R_ne HO224.out BK214.out (by decide))); replace HO218 := Aside0.mk (Kd.R_after (ok := (fun k_ => some k_ ≠ (.slice Ao32 t225.length co32 : Value).ownBlock)) (Kd.R_mono (zr HO218) (fun _ hk => ⟨hk.2, hk.1.2⟩)) hg hat); replace HO227 := Aside0.mk (Kd.R_after (ok := (fun k_ => some k_ ≠ (.slice Ao18 t215.length co18 : Value).ownBlock)) (Kd.R_mono (zr HO227) (fun _ hk => ⟨hk.1.2, hk.2⟩)) hg hat); replace HB := Aside0.mk (hb); have HO232 := Aside0.mk (ho); clear HO224; clear ho hb hg hat))
    go_meet
    case rel => exact ⟨_, (y230), H', ⟨by have := HJ1.out; first | omega | exact Nat.le_refl _⟩, ⟨Kd.R_mono (zr HO232) (fun _ hk => trivial)⟩, ⟨zb BK214⟩, ⟨zg HB⟩⟩
   case rest =>
    clear HC10
    try clear c7
    try clear c9
    try clear hcz11_0 hcz11_1 hcz11_2 hcz11_3 hcz11_4
    try clear hcz14_0 hcz14_1 hcz14_2 hcz14_3 hcz14_4
    try clear hcz19_0 hcz19_1 hcz19_2 hcz19_3 hcz19_4
    try clear hfz11_0 hfz11_1 hfz11_2 hfz11_3 hfz11_4
    try clear hfz14_0 hfz14_1 hfz14_2 hfz14_3 hfz14_4
    try clear hfz19_0 hfz19_1 hfz19_2 hfz19_3 hfz19_4
    obtain ⟨kq, x6_9, HA, HJ9, HO_6, BK214, HB⟩ := hcut
    cases kq with
    | zero => exact absurd HA.out (by simp [impl_RecordBytes.j1])
    | succ kj9 =>
     have H := HA.out
     clear HA
     simp only [impl_RecordBytes.j1] at H
     replace H := Option.bind_eq_some_iff.mp H
     obtain ⟨⟨t238, t239⟩, A590, H⟩ := H
     try dsimp only at H
     have A59 := Aside0.mk A590
     clear A590
     by_cases c60 : (wrap64 ((wrap64 ((t238.length : Int) + (x6_9.length : Int))) + 4)) > 1048576
     ·rw [if_pos c60] at H
      have c60b0 : decide (1048576 < (wrap64 ((wrap64 ((t238.length : Int) + (x6_9.length : Int))) + 4))) = true := decide_eq_true c60
      clear c60
      simp only [Option.some.injEq, Prod.mk.injEq] at H
      obtain ⟨rfl, rfl⟩ := H
      obtain ⟨Ao61, co61, eo61⟩ := Kd.R_slice HO_6.out
      subst eo61
      go_wp2_with (first | ((with_reducible refine gate_callee (f := 48) rfl ?_); refine goesL_ (some 77) rfl rfl Try.func48 (by kernel_rfl) rfl #[.int .i64 (x6_9.length : Int)] rfl zar ?_; (with_reducible refine (impl_PutInt.calls kj9 (x6_9.length : Int) t238 t239 _ A59.out).mono ?_); rintro e w62 ⟨v240, rfl, ho0, hb⟩; refine ⟨_, rfl, ?_⟩; have HO241 := Aside0.mk (Kd.R_lower (Kd.R_new' ho0 (Kd.R_lt (zr HO_6))) (below_size (zg HB))); replace HO_6 := Aside0.mk (Kd.R_elder' (zr HO_6) (Kd.R_base ho0) hb); replace BK214 := Aside0.mk (blk_below (zb BK214) hb); replace HB := Aside0.mk (below_step (zg HB) hb); (try clear hb ho0); (try clear hb); (try clear hk); (try clear hi); obtain ⟨Ao64, co64, eo64⟩ := Kd.R_slice HO241.out; subst eo64))
      go_ret2
      exact ⟨_, zre, by first | exact Kd.R_nil _ _ _ _ _ | exact Kd.N_nil _ _ _ _ _ | exact Kd.V_nil _ _ _ _ _ | exact Kd.Q_nil _ _ _ _ _ | exact Kd.S_nil _ _ _ _ _, zg HB⟩
     rw [if_neg c60] at H
     have c60b0 : decide (1048576 < (wrap64 ((wrap64 ((t238.length : Int) + (x6_9.length : Int))) + 4))) = false := decide_eq_false c60
     clear c60
     by_cases c65 : t238.length + x6_9.length < 140737488355328
     rotate_left
     ·rw [if_neg c65] at H
      exact absurd H (by simp)
     rw [if_pos c65] at H
     have LMc65 := Aside0.mk c65
     clear c65
     obtain ⟨y242, hy242⟩ : ∃ y_ : List Int, y_ = (t238 ++ x6_9) := ⟨_, rfl⟩
     replace H : ((impl_Sum32.f kj9 x6_9).bind fun t245 => ((impl_oFour.f t245).bind fun t246 => (if y242.length + t246.length < 140737488355328 then (some ((y242 ++ t246), 0)) else (none)))) = some (r1, r2) := zby hy242 H
     have Ny242 := Aside0.mk hy242
     clear hy242
     replace H := Option.bind_eq_some_iff.mp H
     obtain ⟨t245, A660, H⟩ := H
     try dsimp only at H
     have A66 := Aside0.mk A660
     clear A660
     replace H := Option.bind_eq_some_iff.mp H
     obtain ⟨t246, A670, H⟩ := H
     try dsimp only at H
     have A67 := Aside0.mk A670
     clear A670
     by_cases c68 : y242.length + t246.length < 140737488355328
     rotate_left
     ·rw [if_neg c68] at H
      exact absurd H (by simp)
     rw [if_pos c68] at H
     have LMc68 := Aside0.mk c68
     clear c68
     obtain ⟨y249, hy249⟩ : ∃ y_ : List Int, y_ = (y242 ++ t246) := ⟨_, rfl⟩
     replace H : (some (y249, 0)) = some (r1, r2) := zby hy249 H
     have Ny249 := Aside0.mk hy249
     clear hy249
     simp only [Option.some.injEq, Prod.mk.injEq] at H
     obtain ⟨rfl, rfl⟩ := H
     obtain ⟨Ao69, co69, eo69⟩ := Kd.R_slice HO_6.out
     subst eo69
     go_wp2_with (first | ((with_reducible refine gate_callee (f := 48) rfl ?_); refine goesL_ (some 77) rfl rfl Try.func48 (by kernel_rfl) rfl #[.int .i64 (x6_9.length : Int)] rfl zar ?_; (with_reducible refine (impl_PutInt.calls kj9 (x6_9.length : Int) t238 t239 _ A59.out).mono ?_); rintro e w70 ⟨v240, rfl, ho0, hb⟩; refine ⟨_, rfl, ?_⟩; have HO241 := Aside0.mk (Kd.R_lower (Kd.R_new' ho0 (Kd.R_lt (zr HO_6))) (below_size (zg HB))); replace HO_6 := Aside0.mk (Kd.R_elder' (zr HO_6) (Kd.R_base ho0) hb); replace BK214 := Aside0.mk (blk_below (zb BK214) hb); replace HB := Aside0.mk (below_step (zg HB) hb); (try clear hb ho0); (try clear hb); (try clear hk); (try clear hi); obtain ⟨Ao72, co72, eo72⟩ := Kd.R_slice HO241.out; subst eo72) | ((with_reducible refine gate_builtin (b := .append) (xs := #[.tmp 87, .tmp 88]) rfl ?_); at_builtin; refine Kd.R_append_rows (Kd.int .u8) (w0 := w) w.heap.size rfl (.tmp 87) (.tmp 88) 26 5 (.int .u8 0) 1 rfl Try.underlying26 info5 rfl (by decide) (by omega) (.slice Ao72 t238.length co72) t238 x6_9 _ _ _ (fun k_ => some k_ ≠ (.slice Ao69 x6_9.length co69 : Value).ownBlock) (fun _ => False) rfl rfl ?aO ?aR (fun _ _ h => h) (fun _ h => h.elim) ?aF ?aB ?aS ?aL ?_; (case aR => repeat (first | exact (Kd.R_reads' HO_6.out).2.2 | (with_reducible refine Kd.C_alloc ?_ _) | (with_reducible refine Kd.C_drewN ?_ _) | (with_reducible refine Kd.C_drew ?_))); (case aB => exact (zg HB)); (case aF => exact (fun k_ hk => Kd.fresh' (Kd.R_lt (zr HO_6)) k_ hk)); (case aO => exact (Kd.R_mono (zr HO241) (fun _ hk => hk.2))); (case aS => exact (below_size (zg HB))); (case aL => have := LMc65.out; omega); intro v243 w73 ho hb hg hat; rw [← Ny242.out] at ho; replace HO_6 := Aside0.mk (Kd.R_after (ok := (fun _ => True)) (zr HO_6) hg hat); replace BK214 := Aside0.mk (blk_grown (zb BK214) hg (Kd.R_ne HO241.out BK214.out (by decide))); replace HB := Aside0.mk (hb); have HO244 := Aside0.mk (ho); clear HO241; clear ho hb hg hat) | ((with_reducible refine gate_callee (f := 52) rfl ?_); refine goesL_ (some 91) rfl rfl Try.func52 (by kernel_rfl) rfl #[.slice Ao69 x6_9.length co69] rfl zar ?_; (with_reducible refine (impl_Sum32.calls kj9 _ _ x6_9 t245 _ ?side1 ?side2 A66.out).mono ?_); (case side1 => exact zC (Kd.R_reads' HO_6.out).2.2); (case side2 => exact (Kd.R_reads' HO_6.out).2.1); rintro e w' ⟨rfl, ⟨nd, rfl⟩⟩; refine ⟨_, rfl, ?_⟩) | ((with_reducible refine gate_callee (f := 51) rfl ?_); refine goesL_ (some 92) rfl rfl Try.func51 (by kernel_rfl) rfl #[.int .i64 t245] rfl zar ?_; (with_reducible refine (impl_oFour.calls t245 t246 _ A67.out).mono ?_); rintro e w74 ⟨v247, rfl, ho0, hb⟩; refine ⟨_, rfl, ?_⟩; have HO248 := Aside0.mk (Kd.R_lower (Kd.R_new' (Kd.R_new' ho0 (Kd.R_lt (zr HO_6))) (Kd.R_lt (zr HO244))) (below_size (zg HB))); replace HO_6 := Aside0.mk (Kd.R_elder' (zr HO_6) (Kd.R_base ho0) hb); replace HO244 := Aside0.mk (Kd.R_elder' (zr HO244) (Kd.R_base ho0) hb); replace BK214 := Aside0.mk (blk_below (zb BK214) hb); replace HB := Aside0.mk (below_step (zg HB) hb); (try clear hb ho0); (try clear hb); (try clear hk); (try clear hi); obtain ⟨Ao77, co77, eo77⟩ := Kd.R_slice HO248.out; subst eo77) | ((with_reducible refine gate_builtin (b := .append) (xs := #[.tmp 89, .tmp 92]) rfl ?_); at_builtin; refine Kd.R_append_rows (Kd.int .u8) (w0 := w) w.heap.size rfl (.tmp 89) (.tmp 92) 26 5 (.int .u8 0) 1 rfl Try.underlying26 info5 rfl (by decide) (by omega) v243 y242 t246 _ _ _ (fun k_ => some k_ ≠ (.slice Ao69 x6_9.length co69 : Value).ownBlock ∧ some k_ ≠ (.slice Ao77 t246.length co77 : Value).ownBlock) (fun _ => False) rfl rfl ?aO ?aR (fun _ _ h => h) (fun _ h => h.elim) ?aF ?aB ?aS ?aL ?_; (case aR => repeat (first | exact (Kd.R_reads' HO248.out).2.2 | (with_reducible refine Kd.C_alloc ?_ _) | (with_reducible refine Kd.C_drewN ?_ _) | (with_reducible refine Kd.C_drew ?_))); (case aB => exact (zg HB)); (case aF => exact (fun k_ hk => ⟨Kd.fresh' (Kd.R_lt (zr HO_6)) k_ hk, Kd.fresh' (Kd.R_lt (zr HO248)) k_ hk⟩)); (case aO => exact (zr HO244)); (case aS => exact (below_size (zg HB))); (case aL => have := LMc68.out; omega); intro v250 w76 ho hb hg hat; rw [← Ny249.out] at ho; replace HO_6 := Aside0.mk (Kd.R_after (ok := (fun k_ => some k_ ≠ (.slice Ao77 t246.length co77 : Value).ownBlock)) (Kd.R_mono (zr HO_6) (fun _ hk => ⟨hk.2, hk.1.2⟩)) hg hat); replace BK214 := Aside0.mk (blk_grown (zb BK214) hg (Kd.R_ne HO244.out BK214.out (by decide))); replace HO248 := Aside0.mk (Kd.R_after (ok := (fun k_ => some k_ ≠ (.slice Ao69 x6_9.length co69 : Value).ownBlock)) (Kd.R_mono (zr HO248) (fun _ hk => ⟨hk.1.2, hk.2⟩)) hg hat); replace HB := Aside0.mk (hb); have HO251 := Aside0.mk (ho); clear HO244; clear ho hb hg hat))
     go_ret2
     exact ⟨_, zre, Kd.R_mono (zr HO251) (fun _ hk => trivial), zg HB⟩
/-! ### bytes_Equal: function 88 -/
def bytes_Equal.f (l0 : List Int) (l1 : List Int) : Option (Bool) := some ((strOfNums l0).toList == (strOfNums l1).toList)
set_option maxHeartbeats 8000000 in
set_option maxRecDepth 100000 in
theorem bytes_Equal.calls (A0 : Option Addr) (c0 : Nat) (l0 : List Int) (A1 : Option Addr) (c1 : Nat) (l1 : List Int) (r : Bool) (w : World) (hr0 : Kd.C (Kd.int .u8) w A0 l0.length l0) (hc0 : l0.length ≤ c0) (hr1 : Kd.C (Kd.int .u8) w A1 l1.length l1) (hc1 : l1.length ≤ c1) (h : bytes_Equal.f l0 l1 = some r) :
 Calls Try.prog 88 #[.slice A0 l0.length c0, .slice A1 l1.length c1] w fun e w' => e = .returned (.bool r) ∧ Drawn0 w w' := by
 have HR0 := Aside0.mk hr0
 have HC0 := Aside0.mk hc0
 clear hr0 hc0
 have HR1 := Aside0.mk hr1
 have HC1 := Aside0.mk hc1
 clear hr1 hc1
 have H := h
 unfold bytes_Equal.f at H
 clear h
 obtain rfl := Option.some.inj H
 have hcv3 := Kd.C_string (P := Try.prog) (A := A0) (c := c0) Try.underlying26 Try.underlying5 Try.underlying9 HR0.out
 have hcv4 := Kd.C_string (P := Try.prog) (A := A1) (c := c1) Try.underlying26 Try.underlying5 Try.underlying9 HR1.out
 go_enter Try.func88, Try.ntmps88
 go_wp2
 go_ret
 exact ⟨zrs, by repeat (first | exact Drawn0.refl _ | apply Drawn0.step)⟩

end Go.Proofs.Ytnpdmleglcbobaa.XFnExactReadLog
