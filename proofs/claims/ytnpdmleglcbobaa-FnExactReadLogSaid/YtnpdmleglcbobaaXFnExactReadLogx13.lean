-- A printed text of this session (wip/x/xprint.py).
import Derived.Test.YtnpdmleglcbobaaXFnExactReadLogx0
import Derived.Test.YtnpdmleglcbobaaXFnExactReadLogx12
namespace Go.Proofs.Ytnpdmleglcbobaa.XFnExactReadLog
open Go.RowKit Go.Proofs.YtnpdmleglcbobaaW.PrintWords Go.Proofs.YtnpdmleglcbobaaW.PrintLast Go.Proofs.YtnpdmleglcbobaaW.PrintMore
attribute [local go_sem] max2_int min2_int max_two min_two max_three min_three max_four min_four   -- for this text's walks alone
set_option linter.unusedVariables false
set_option linter.unusedSimpArgs false

/-! ### spec_l06Id: function 76 -/
def spec_l06Id.l0 : Nat → ByteArray → Int → Option (Bool)
 | 0, _, _ => none
 | k + 1, x0, x3 => if x3 < (x0.size : Int) then (if 0 ≤ x3 then (if (bt x0 x3) < 33 then (some false) else (if (bt x0 x3) > 126 then (some false) else (spec_l06Id.l0 k x0 (wrap64 (x3 + 1))))) else (none)) else (if (x0.size : Int) ≥ 1 then (some (decide ((x0.size : Int) ≤ 30))) else (some false))
def spec_l06Id.f (k : Nat) (a0 : ByteArray) : Option (Bool) := spec_l06Id.l0 k a0 0
theorem spec_l06Id.mono_l : ∀ k, (∀ y0 y1, LeO (spec_l06Id.l0 k y0 y1) (spec_l06Id.l0 (k + 1) y0 y1))
 | 0 => fun _ _ r h => by simp [spec_l06Id.l0] at h
 | k + 1 => by
  have ih0 := spec_l06Id.mono_l k
  ·intro y0 y1
   unfold spec_l06Id.l0
   repeat' first
   | (with_reducible exact ih0 _ _)
   | (with_reducible exact LeO.refl _)
   | (with_reducible exact LeO.none _)
   | (with_reducible refine LeO.ite ?_ ?_)
   | (with_reducible refine LeO.bind ?_ (fun _ => ?_))
theorem spec_l06Id.mono : ∀ a0 k, LeO (spec_l06Id.f k a0) (spec_l06Id.f (k + 1) a0) := by
 intro a0 k
 have ih0 := spec_l06Id.mono_l k
 unfold spec_l06Id.f
 repeat' first
  | (with_reducible exact ih0 _ _)
  | (with_reducible exact LeO.refl _)
  | (with_reducible exact LeO.none _)
  | (with_reducible refine LeO.ite ?_ ?_)
  | (with_reducible refine LeO.bind ?_ (fun _ => ?_))
set_option maxHeartbeats 8000000 in
set_option maxRecDepth 100000 in
theorem spec_l06Id.calls (k : Nat) (a0 : ByteArray) (r : Bool) (w : World) (h : spec_l06Id.f k a0 = some r) :
 Calls Try.prog 76 #[.string a0] w fun e w' => e = .returned (.bool r) ∧ Drawn0 w w' := by
 have H : (spec_l06Id.l0 k a0 0) = some r := h
 clear h
 have H' := Aside0.mk H
 clear H
 go_enter Try.func76, Try.ntmps76
 go_wp2
 go_loopg [3] k (fun kq v3 w' => ∃ (x3_1 : Int), v3 = .int .i64 x3_1 ∧ Aside0 (spec_l06Id.l0 kq a0 x3_1 = some r) ∧ Aside0 (kq ≤ k) ∧ Drawn0 w w')
 case atStart => exact ⟨(0), (by first | rfl | (simp; done) | (simp [*]; done) | (generalize ByteArray.toList _ = l_; cases l_ <;> rfl)), H', ⟨Nat.le_refl _⟩, by repeat (first | exact Drawn0.refl _ | apply Drawn0.step)⟩
 case round =>
  clear H'
  obtain ⟨x3_1, rfl, HA, HK1, ⟨m1, rfl⟩⟩ := hrel
  cases gk with
  | zero => exact absurd HA.out (by simp [spec_l06Id.l0])
  | succ k1 =>
   have H := HA.out
   clear HA
   simp only [spec_l06Id.l0] at H
   by_cases c2 : x3_1 < (a0.size : Int)
   rotate_left
   ·rw [if_neg c2] at H
    have c2b0 : decide (x3_1 < (a0.size : Int)) = false := decide_eq_false c2
    clear c2
    by_cases c8 : (a0.size : Int) ≥ 1
    ·rw [if_pos c8] at H
     have c8b0 : decide (1 ≤ (a0.size : Int)) = true := decide_eq_true c8
     have c8b1 : decide (1 ≤ a0.size) = true := decide_eq_true (by omega)
     clear c8
     obtain rfl := Option.some.inj H
     go_wp2
     go_ret
     exact ⟨zrs, by repeat (first | exact Drawn0.refl _ | apply Drawn0.step)⟩
    rw [if_neg c8] at H
    have c8b0 : decide (1 ≤ (a0.size : Int)) = false := decide_eq_false c8
    have c8b1 : decide (1 ≤ a0.size) = false := decide_eq_false (by omega)
    clear c8
    obtain rfl := Option.some.inj H
    go_wp2
    go_ret
    exact ⟨zrs, by repeat (first | exact Drawn0.refl _ | apply Drawn0.step)⟩

   rw [if_pos c2] at H
   have c2b0 : decide (x3_1 < (a0.size : Int)) = true := decide_eq_true c2
   clear c2
   by_cases c3 : 0 ≤ x3_1
   rotate_left
   ·rw [if_neg c3] at H
    exact absurd H (by simp)
   rw [if_pos c3] at H
   have c3b0 : decide (0 ≤ x3_1) = true := decide_eq_true c3
   clear c3
   by_cases c5 : (bt a0 x3_1) < 33
   ·rw [if_pos c5] at H
    have c5b0 : decide ((bt a0 x3_1) < 33) = true := decide_eq_true c5
    clear c5
    obtain rfl := Option.some.inj H
    have p4 : 0 ≤ (x3_1 : Int) := of_decide_eq_true zas
    have q4 : x3_1 < (a0.size : Int) := of_decide_eq_true zas
    have hx4 := bt_at a0 x3_1
    replace p4 := eq_true p4
    replace q4 := eq_true q4
    go_wp2
    go_ret
    exact ⟨zrs, by repeat (first | exact Drawn0.refl _ | apply Drawn0.step)⟩
   rw [if_neg c5] at H
   have c5b0 : decide ((bt a0 x3_1) < 33) = false := decide_eq_false c5
   clear c5
   by_cases c7 : (bt a0 x3_1) > 126
   ·rw [if_pos c7] at H
    have c7b0 : decide (126 < (bt a0 x3_1)) = true := decide_eq_true c7
    clear c7
    obtain rfl := Option.some.inj H
    have p4 : 0 ≤ (x3_1 : Int) := of_decide_eq_true zas
    have q4 : x3_1 < (a0.size : Int) := of_decide_eq_true zas
    have hx4 := bt_at a0 x3_1
    replace p4 := eq_true p4
    replace q4 := eq_true q4
    have p6 : 0 ≤ (x3_1 : Int) := of_decide_eq_true zas
    have q6 : x3_1 < (a0.size : Int) := of_decide_eq_true zas
    have hx6 := bt_at a0 x3_1
    replace p6 := eq_true p6
    replace q6 := eq_true q6
    go_wp2
    go_ret
    exact ⟨zrs, by repeat (first | exact Drawn0.refl _ | apply Drawn0.step)⟩
   rw [if_neg c7] at H
   have c7b0 : decide (126 < (bt a0 x3_1)) = false := decide_eq_false c7
   clear c7
   have H' := Aside0.mk H
   clear H
   have p4 : 0 ≤ (x3_1 : Int) := of_decide_eq_true zas
   have q4 : x3_1 < (a0.size : Int) := of_decide_eq_true zas
   have hx4 := bt_at a0 x3_1
   replace p4 := eq_true p4
   replace q4 := eq_true q4
   have p6 : 0 ≤ (x3_1 : Int) := of_decide_eq_true zas
   have q6 : x3_1 < (a0.size : Int) := of_decide_eq_true zas
   have hx6 := bt_at a0 x3_1
   replace p6 := eq_true p6
   replace q6 := eq_true q6
   go_wp2
   go_roundg k1
   case measure => have := HK1.out; omega
   case rel => exact ⟨(wrap64 (x3_1 + 1)), (by first | rfl | (simp; done) | (simp [*]; done) | (generalize ByteArray.toList _ = l_; cases l_ <;> rfl)), H', ⟨by have := HK1.out; omega⟩, by repeat (first | exact Drawn0.refl _ | apply Drawn0.step)⟩
/-! ### spec_l14EmptyDoc: function 77 -/
def spec_l14EmptyDoc.f (a0_0 : ByteArray) (l0_1 : List (S66)) : Option (Bool) := if a0_0.toList = ([] : List UInt8) then (some ((l0_1.length : Int) == 0)) else (some false)
set_option maxHeartbeats 8000000 in
set_option maxRecDepth 100000 in
theorem spec_l14EmptyDoc.calls (a0_0 : ByteArray) (A0_1 : Option Addr) (c0_1 : Nat) (l0_1 : List (S66)) (r : Bool) (w : World) (hr0_1 : Kd.C k66 w A0_1 l0_1.length l0_1) (hc0_1 : l0_1.length ≤ c0_1) (h : spec_l14EmptyDoc.f a0_0 l0_1 = some r) :
 Calls Try.prog 77 #[.agg #[.string a0_0, .slice A0_1 l0_1.length c0_1]] w fun e w' => e = .returned (.bool r) ∧ Below w.heap.size w w' := by
 have hu31 := Try.underlying31
 have HR0_1 := Aside0.mk hr0_1
 have HC0_1 := Aside0.mk hc0_1
 clear hr0_1 hc0_1
 have HB := Aside0.mk (Below.refl w.heap.size w)
 have H := h
 unfold spec_l14EmptyDoc.f at H
 clear h
 by_cases c2 : a0_0.toList = ([] : List UInt8)
 rotate_left
 ·rw [if_neg c2] at H
  have c2b0 : (a0_0.toList == ([] : List UInt8)) = false := beq_eq_false_iff_ne.mpr c2
  have c2b1 : (a0_0.toList != ([] : List UInt8)) = true := bne_iff_ne.mpr c2
  obtain rfl := Option.some.inj H
  go_enter Try.func77, Try.ntmps77
  go_wp2_with (first | ((with_reducible refine gate_dst (N := 1) rfl ?_); (try (refine gate_guard (by rfl) ?_; dsimp only)); refine box_event (by rfl) (N := 1) (by rfl) (cs := #[.string a0_0, .slice A0_1 l0_1.length c0_1]) (t := 31) zgs ?_; intro gb350 hg w5 hbox hb; have BK350 := Aside0.mk (hbox); have GW350 := zge hg (below_size (zh HB)); have GE350 := zge hg (below_size (zh HB)); replace HB := Aside0.mk (below_step (zh HB) hb); clear hb hbox hg; obtain ⟨⟨hcz6_0, hcz6_1⟩, hfz6_0, hfz6_1⟩ := zc2 BK350))
  go_ret
  exact ⟨zre, zg HB⟩

 rw [if_pos c2] at H
 have c2b0 : (a0_0.toList == ([] : List UInt8)) = true := beq_iff_eq.mpr c2
 have c2b1 : (a0_0.toList != ([] : List UInt8)) = false := bne_eq_false_iff_eq.mpr c2
 clear c2
 obtain rfl := Option.some.inj H
 go_enter Try.func77, Try.ntmps77
 go_wp2_with (first | ((with_reducible refine gate_dst (N := 1) rfl ?_); (try (refine gate_guard (by rfl) ?_; dsimp only)); refine box_event (by rfl) (N := 1) (by rfl) (cs := #[.string a0_0, .slice A0_1 l0_1.length c0_1]) (t := 31) zgs ?_; intro gb350 hg w3 hbox hb; have BK350 := Aside0.mk (hbox); have GW350 := zge hg (below_size (zh HB)); have GE350 := zge hg (below_size (zh HB)); replace HB := Aside0.mk (below_step (zh HB) hb); clear hb hbox hg; obtain ⟨⟨hcz4_0, hcz4_1⟩, hfz4_0, hfz4_1⟩ := zc2 BK350))
 go_ret
 exact ⟨zre, zg HB⟩
/-! ### spec_l14RecordOK: function 46 -/
def spec_l14RecordOK.j0 : Nat → Bool → Int → Int → ByteArray → ByteArray → List (S66) → Option (Bool)
 | 0, _, _, _, _, _, _ => none
 | k + 1, x10, x352000, x352001, x352002, x352003, x352004 => if x10 = true then (some false) else (if x352000 = 1 then (if x352002.toList = ([] : List UInt8) then ((spec_l06Id.f k x352003).bind fun t352 => (if t352 = true then ((spec_l06Fits.f k x352003 x352004).bind fun t353 => (some t353)) else (some false))) else (some false)) else (if x352000 = 2 then ((spec_l06Id.f k x352002).bind fun t354 => (if t354 = true then ((spec_l14EmptyDoc.f x352003 x352004).bind fun t355 => (some t355)) else (some false))) else (some false)))
def spec_l14RecordOK.f (k : Nat) (a0_0 : Int) (a0_1 : Int) (a0_2 : ByteArray) (a0_3 : ByteArray) (l0_4 : List (S66)) : Option (Bool) := if a0_1 < 1 then (spec_l14RecordOK.j0 k true a0_0 a0_1 a0_2 a0_3 l0_4) else (spec_l14RecordOK.j0 k (decide (a0_1 > 4611686018427387903)) a0_0 a0_1 a0_2 a0_3 l0_4)
theorem spec_l14RecordOK.mono_l : ∀ k, (∀ y0 y1 y2 y3 y4 y5, LeO (spec_l14RecordOK.j0 k y0 y1 y2 y3 y4 y5) (spec_l14RecordOK.j0 (k + 1) y0 y1 y2 y3 y4 y5))
 | 0 => fun _ _ _ _ _ _ r h => by simp [spec_l14RecordOK.j0] at h
 | k + 1 => by
  have ih0 := spec_l14RecordOK.mono_l k
  ·intro y0 y1 y2 y3 y4 y5
   unfold spec_l14RecordOK.j0
   repeat' first
   | (with_reducible exact ih0 _ _ _ _ _ _)
   | (with_reducible exact spec_l06Fits.mono _ _ _)
   | (with_reducible exact spec_l06Id.mono _ _)
   | (with_reducible exact LeO.refl _)
   | (with_reducible exact LeO.none _)
   | (with_reducible refine LeO.ite ?_ ?_)
   | (with_reducible refine LeO.bind ?_ (fun _ => ?_))
theorem spec_l14RecordOK.mono : ∀ a0 a1 a2 a3 a4 k, LeO (spec_l14RecordOK.f k a0 a1 a2 a3 a4) (spec_l14RecordOK.f (k + 1) a0 a1 a2 a3 a4) := by
 intro a0 a1 a2 a3 a4 k
 have ih0 := spec_l14RecordOK.mono_l k
 unfold spec_l14RecordOK.f
 repeat' first
  | (with_reducible exact ih0 _ _ _ _ _ _)
  | (with_reducible exact spec_l06Fits.mono _ _ _)
  | (with_reducible exact spec_l06Id.mono _ _)
  | (with_reducible exact LeO.refl _)
  | (with_reducible exact LeO.none _)
  | (with_reducible refine LeO.ite ?_ ?_)
  | (with_reducible refine LeO.bind ?_ (fun _ => ?_))
set_option maxHeartbeats 8000000 in
set_option maxRecDepth 100000 in
theorem spec_l14RecordOK.calls (k : Nat) (a0_0 : Int) (a0_1 : Int) (a0_2 : ByteArray) (a0_3 : ByteArray) (A0_4 : Option Addr) (c0_4 : Nat) (l0_4 : List (S66)) (r : Bool) (w : World) (hr0_4 : Kd.C k66 w A0_4 l0_4.length l0_4) (hc0_4 : l0_4.length ≤ c0_4) (h : spec_l14RecordOK.f k a0_0 a0_1 a0_2 a0_3 l0_4 = some r) :
 Calls Try.prog 46 #[.agg #[.int .i64 a0_0, .int .i64 a0_1, .string a0_2, .string a0_3, .slice A0_4 l0_4.length c0_4]] w fun e w' => e = .returned (.bool r) ∧ Below w.heap.size w w' := by
 have hu47 := Try.underlying47
 have hu31 := Try.underlying31
 have HR0_4 := Aside0.mk hr0_4
 have HC0_4 := Aside0.mk hc0_4
 clear hr0_4 hc0_4
 have HB := Aside0.mk (Below.refl w.heap.size w)
 have H := h
 unfold spec_l14RecordOK.f at H
 clear h
 have HC2 := Aside0.mk H
 clear H
 go_enter Try.func46, Try.ntmps46
 go_upto_region 1 with (first | ((with_reducible refine gate_dst (N := 1) rfl ?_); refine box_event (by rfl) (N := 1) (by rfl) (cs := #[.int .i64 a0_0, .int .i64 a0_1, .string a0_2, .string a0_3, .slice A0_4 l0_4.length c0_4]) (t := 47) zgs ?_; intro gb351 hg w3 hbox hb; have BK351 := Aside0.mk (hbox); have GW351 := zge hg (below_size (zh HB)); have GE351 := zge hg (below_size (zh HB)); replace HB := Aside0.mk (below_step (zh HB) hb); clear hb hbox hg))
 (try simp only [Act.put, List.setIfInBounds_toArray, List.set_cons_zero, List.set_cons_succ])
 go_cut [10] (fun v10 wc => ∃ (kq : Nat) (x10_1 : Bool), v10 = .bool x10_1 ∧ Aside0 (spec_l14RecordOK.j0 kq x10_1 a0_0 a0_1 a0_2 a0_3 l0_4 = some r) ∧ Aside0 (kq ≤ k) ∧ Aside0 (wc.heap[gb351]? = some (.cells #[.int .i64 a0_0, .int .i64 a0_1, .string a0_2, .string a0_3, (.slice A0_4 l0_4.length c0_4)] 47 (0, 0))) ∧ Aside0 (Below w.heap.size w wc))
 case first =>
  have H := HC2.out
  clear HC2
  by_cases c4 : a0_1 < 1
  ·rw [if_pos c4] at H
   have c4b0 : decide (a0_1 < 1) = true := decide_eq_true c4
   clear c4
   (first | rw [c4b0] | (simp only [i64_w, i32_w]; rw [c4b0]) | skip)
   have H' := Aside0.mk H
   clear H
   obtain ⟨⟨hcz5_0, hcz5_1, hcz5_2, hcz5_3, hcz5_4⟩, hfz5_0, hfz5_1, hfz5_2, hfz5_3, hfz5_4⟩ := zc5 BK351
   go_wp2
   go_meet
   case rel => exact ⟨_, (true), (by first | rfl | (simp; done) | (simp [*]; done) | (generalize ByteArray.toList _ = l_; cases l_ <;> rfl)), H', ⟨by first | omega | exact Nat.le_refl _⟩, ⟨zb BK351⟩, ⟨zg HB⟩⟩
  rw [if_neg c4] at H
  have c4b0 : decide (a0_1 < 1) = false := decide_eq_false c4
  clear c4
  (first | rw [c4b0] | (simp only [i64_w, i32_w]; rw [c4b0]) | skip)
  have H' := Aside0.mk H
  clear H
  obtain ⟨⟨hcz6_0, hcz6_1, hcz6_2, hcz6_3, hcz6_4⟩, hfz6_0, hfz6_1, hfz6_2, hfz6_3, hfz6_4⟩ := zc5 BK351
  go_wp2
  go_meet
  case rel => exact ⟨_, (decide (a0_1 > 4611686018427387903)), (by first | rfl | (simp; done) | (simp [*]; done) | (generalize ByteArray.toList _ = l_; cases l_ <;> rfl)), H', ⟨by first | omega | exact Nat.le_refl _⟩, ⟨zb BK351⟩, ⟨zg HB⟩⟩
 case rest =>
  clear HC2
  obtain ⟨kq, x10_1, rfl, HA, HJ1, BK351, HB⟩ := hcut
  cases kq with
  | zero => exact absurd HA.out (by simp [spec_l14RecordOK.j0])
  | succ kj1 =>
   have H := HA.out
   clear HA
   simp only [spec_l14RecordOK.j0] at H
   by_cases c7 : x10_1 = true
   ·subst c7
    rw [if_pos rfl] at H
    obtain rfl := Option.some.inj H
    go_wp2
    go_ret
    exact ⟨zre, zg HB⟩
   replace c7 := Bool.eq_false_iff.mpr c7
   subst c7
   rw [if_neg (show ¬ (false = true) by decide)] at H
   by_cases c8 : a0_0 = 1
   rotate_left
   ·rw [if_neg c8] at H
    have c8b0 : (a0_0 == 1) = false := beq_eq_false_iff_ne.mpr c8
    have c8b1 : (a0_0 != 1) = true := bne_iff_ne.mpr c8
    by_cases c18 : a0_0 = 2
    rotate_left
    ·rw [if_neg c18] at H
     have c18b0 : (a0_0 == 2) = false := beq_eq_false_iff_ne.mpr c18
     have c18b1 : (a0_0 != 2) = true := bne_iff_ne.mpr c18
     obtain rfl := Option.some.inj H
     obtain ⟨⟨hcz26_0, hcz26_1, hcz26_2, hcz26_3, hcz26_4⟩, hfz26_0, hfz26_1, hfz26_2, hfz26_3, hfz26_4⟩ := zc5 BK351
     go_wp2
     go_ret
     exact ⟨zre, zg HB⟩

    rw [if_pos c18] at H
    have c18b0 : (a0_0 == 2) = true := beq_iff_eq.mpr c18
    have c18b1 : (a0_0 != 2) = false := bne_eq_false_iff_eq.mpr c18
    clear c18
    replace H := Option.bind_eq_some_iff.mp H
    obtain ⟨t354, A190, H⟩ := H
    try dsimp only at H
    have A19 := Aside0.mk A190
    clear A190
    by_cases c20 : t354 = true
    rotate_left
    ·replace c20 := Bool.eq_false_iff.mpr c20
     subst c20
     rw [if_neg (show ¬ (false = true) by decide)] at H
     obtain rfl := Option.some.inj H
     obtain ⟨⟨hcz25_0, hcz25_1, hcz25_2, hcz25_3, hcz25_4⟩, hfz25_0, hfz25_1, hfz25_2, hfz25_3, hfz25_4⟩ := zc5 BK351
     go_wp2_with (first | (go_at_call 76; (with_reducible refine (spec_l06Id.calls kj1 a0_2 false _ A19.out).mono ?_); rintro e w' ⟨rfl, ⟨nd, rfl⟩⟩))
     go_ret
     exact ⟨zre, zg HB⟩
    subst c20
    rw [if_pos rfl] at H
    replace H := Option.bind_eq_some_iff.mp H
    obtain ⟨t355, A210, H⟩ := H
    try dsimp only at H
    have A21 := Aside0.mk A210
    clear A210
    obtain rfl := Option.some.inj H
    obtain ⟨⟨hcz22_0, hcz22_1, hcz22_2, hcz22_3, hcz22_4⟩, hfz22_0, hfz22_1, hfz22_2, hfz22_3, hfz22_4⟩ := zc5 BK351
    go_wp2_with (first | (go_at_call 76; (with_reducible refine (spec_l06Id.calls kj1 a0_2 true _ A19.out).mono ?_); rintro e w' ⟨rfl, ⟨nd, rfl⟩⟩) | (go_at_call 77; (with_reducible refine (spec_l14EmptyDoc.calls a0_3 _ _ l0_4 t355 _ ?side1 ?side2 A21.out).mono ?_); (case side1 => exact zC (Kd.C_below HR0_4.out (zg HB))); (case side2 => exact HC0_4.out); rintro e w23 ⟨rfl, hb⟩; replace BK351 := Aside0.mk (blk_below (zb BK351) hb); replace HB := Aside0.mk (below_step (zg HB) hb); (try clear hb); (try clear hb2); (try clear hk); (try clear hi)))
    go_ret
    exact ⟨zre, zg HB⟩
   rw [if_pos c8] at H
   have c8b0 : (a0_0 == 1) = true := beq_iff_eq.mpr c8
   have c8b1 : (a0_0 != 1) = false := bne_eq_false_iff_eq.mpr c8
   clear c8
   by_cases c9 : a0_2.toList = ([] : List UInt8)
   rotate_left
   ·rw [if_neg c9] at H
    have c9b0 : (a0_2.toList == ([] : List UInt8)) = false := beq_eq_false_iff_ne.mpr c9
    have c9b1 : (a0_2.toList != ([] : List UInt8)) = true := bne_iff_ne.mpr c9
    obtain rfl := Option.some.inj H
    obtain ⟨⟨hcz17_0, hcz17_1, hcz17_2, hcz17_3, hcz17_4⟩, hfz17_0, hfz17_1, hfz17_2, hfz17_3, hfz17_4⟩ := zc5 BK351
    go_wp2
    go_ret
    exact ⟨zre, zg HB⟩
   rw [if_pos c9] at H
   have c9b0 : (a0_2.toList == ([] : List UInt8)) = true := beq_iff_eq.mpr c9
   have c9b1 : (a0_2.toList != ([] : List UInt8)) = false := bne_eq_false_iff_eq.mpr c9
   clear c9
   replace H := Option.bind_eq_some_iff.mp H
   obtain ⟨t352, A100, H⟩ := H
   try dsimp only at H
   have A10 := Aside0.mk A100
   clear A100
   by_cases c11 : t352 = true
   rotate_left
   ·replace c11 := Bool.eq_false_iff.mpr c11
    subst c11
    rw [if_neg (show ¬ (false = true) by decide)] at H
    obtain rfl := Option.some.inj H
    obtain ⟨⟨hcz16_0, hcz16_1, hcz16_2, hcz16_3, hcz16_4⟩, hfz16_0, hfz16_1, hfz16_2, hfz16_3, hfz16_4⟩ := zc5 BK351
    go_wp2_with (first | (go_at_call 76; (with_reducible refine (spec_l06Id.calls kj1 a0_3 false _ A10.out).mono ?_); rintro e w' ⟨rfl, ⟨nd, rfl⟩⟩))
    go_ret
    exact ⟨zre, zg HB⟩
   subst c11
   rw [if_pos rfl] at H
   replace H := Option.bind_eq_some_iff.mp H
   obtain ⟨t353, A120, H⟩ := H
   try dsimp only at H
   have A12 := Aside0.mk A120
   clear A120
   obtain rfl := Option.some.inj H
   obtain ⟨⟨hcz13_0, hcz13_1, hcz13_2, hcz13_3, hcz13_4⟩, hfz13_0, hfz13_1, hfz13_2, hfz13_3, hfz13_4⟩ := zc5 BK351
   go_wp2_with (first | (go_at_call 76; (with_reducible refine (spec_l06Id.calls kj1 a0_3 true _ A10.out).mono ?_); rintro e w' ⟨rfl, ⟨nd, rfl⟩⟩) | (go_at_call 35; (with_reducible refine (spec_l06Fits.calls kj1 a0_3 _ _ l0_4 t353 _ ?side1 ?side2 A12.out).mono ?_); (case side1 => exact zC (Kd.C_below HR0_4.out (zg HB))); (case side2 => exact HC0_4.out); rintro e w14 ⟨rfl, hb⟩; replace BK351 := Aside0.mk (blk_below (zb BK351) hb); replace HB := Aside0.mk (below_step (zg HB) hb); (try clear hb); (try clear hb2); (try clear hk); (try clear hi)))
   go_ret
   exact ⟨zre, zg HB⟩
/-! ### spec_l03Put: function 63 -/
def spec_l03Put.f : Nat → Int → Option (List Int)
 | 0, _ => none
 | k + 1, a0 => if a0 < 128 then (some (([(a0) % 256] : List Int))) else ((some (([(wrap64 (128 + (Int.tmod a0 128))) % 256] : List Int) : List Int)).bind fun y359 => ((spec_l03Put.f k (wrap64 (Int.tdiv a0 128))).bind fun t362 => (if y359.length + t362.length < 140737488355328 then (some (y359 ++ t362)) else (none))))
theorem spec_l03Put.mono_l : ∀ k, (∀ y0, LeO (spec_l03Put.f k y0) (spec_l03Put.f (k + 1) y0))
 | 0 => fun _ r h => by simp [spec_l03Put.f] at h
 | k + 1 => by
  have ih0 := spec_l03Put.mono_l k
  ·intro y0
   unfold spec_l03Put.f
   repeat' first
   | (with_reducible exact ih0 _)
   | (with_reducible exact LeO.refl _)
   | (with_reducible exact LeO.none _)
   | (with_reducible refine LeO.ite ?_ ?_)
   | (with_reducible refine LeO.bind ?_ (fun _ => ?_))
theorem spec_l03Put.mono : ∀ a0 k, LeO (spec_l03Put.f k a0) (spec_l03Put.f (k + 1) a0) := by
 intro a0 k
 have ih0 := spec_l03Put.mono_l k
 exact ih0 a0
set_option maxHeartbeats 8000000 in
set_option maxRecDepth 100000 in
theorem spec_l03Put.calls (k : Nat) : ∀ (a0 : Int) (r : List Int) (w : World) (h : spec_l03Put.f k a0 = some r),
 Calls Try.prog 63 #[.int .i64 a0] w fun e w' => ∃ v0_ : Value, e = .returned (v0_) ∧ Kd.R (Kd.int .u8) 5 w' w.heap.size (fun _ => True) v0_ r ∧ Below w.heap.size w w' := by
 induction k using Nat.strongRecOn with
 | _ k ih =>
 intro a0 r w h
 cases k with
 | zero => exact absurd h (by simp [spec_l03Put.f])
 | succ k =>
 simp only [spec_l03Put.f] at h
 have HB := Aside0.mk (Below.refl w.heap.size w)
 have H : (if a0 < 128 then (some (([(a0) % 256] : List Int))) else ((some (([(wrap64 (128 + (Int.tmod a0 128))) % 256] : List Int) : List Int)).bind fun y359 => ((spec_l03Put.f k (wrap64 (Int.tdiv a0 128))).bind fun t362 => (if y359.length + t362.length < 140737488355328 then (some (y359 ++ t362)) else (none))))) = some r := h
 clear h
 by_cases c2 : a0 < 128
 ·rw [if_pos c2] at H
  have c2b0 : decide (a0 < 128) = true := decide_eq_true c2
  clear c2
  obtain ⟨y356, hy356⟩ : ∃ y_ : List Int, y_ = (([(a0) % 256] : List Int)) := ⟨_, rfl⟩
  replace H : (some y356) = some r := zby hy356 H
  have Ny356 := Aside0.mk hy356
  clear hy356
  obtain rfl := Option.some.inj H
  go_enter Try.func63, Try.ntmps63
  go_wp2_with (first | ((with_reducible refine gate_dst (N := 7) rfl ?_); refine Kd.R_lit (Kd.int .u8) _ 5 ?hg (N := 7) ?hd (xs := ([(a0) % 256] : List Int)) (inner := [.int .u8 ((a0) % 256)]) (ok := fun _ => True) (okp := fun _ => True) ?hr ?hp (fun _ hk => hk) trivial (Below.refl _ _) (Nat.le_refl _) (by simp) ?_; (case hd => rfl); (case hg => rfl); (case hr => first | (go_simp; done) | (go_simp; rfl)); (case hp => exact (Reps.one (show Kd.M (Kd.int .u8) _ _ _ ((a0) % 256) [.int .u8 ((a0) % 256)] from rfl) (Reps.none _ _))); intro v357 w3 ho4 hb hg_ hnew_; clear hg_ hnew_; (first | rw [← Ny356.out] at ho4 | (simp only [Int.reduceToNat] at ho4; rw [← Ny356.out] at ho4)); have HO358 := Aside0.mk (Kd.R_lower ho4 (below_size (zh HB))); replace HB := Aside0.mk (below_step (zh HB) hb); clear hb ho4))
  go_ret
  exact ⟨_, zre, by (with_reducible repeat (first | apply Kd.R_alloc | apply Kd.R_drewN | apply Kd.R_drew)); exact HO358.out, zh HB⟩
 rw [if_neg c2] at H
 have c2b0 : decide (a0 < 128) = false := decide_eq_false c2
 clear c2
 obtain ⟨y359, hy359⟩ : ∃ y_ : List Int, y_ = (([(wrap64 (128 + (Int.tmod a0 128))) % 256] : List Int)) := ⟨_, rfl⟩
 replace H : ((spec_l03Put.f k (wrap64 (Int.tdiv a0 128))).bind fun t362 => (if y359.length + t362.length < 140737488355328 then (some (y359 ++ t362)) else (none))) = some r := zby hy359 H
 have Ny359 := Aside0.mk hy359
 clear hy359
 replace H := Option.bind_eq_some_iff.mp H
 obtain ⟨t362, A50, H⟩ := H
 try dsimp only at H
 have A5 := Aside0.mk A50
 clear A50
 by_cases c6 : y359.length + t362.length < 140737488355328
 rotate_left
 ·rw [if_neg c6] at H
  exact absurd H (by simp)

 rw [if_pos c6] at H
 have LMc6 := Aside0.mk c6
 clear c6
 obtain ⟨y365, hy365⟩ : ∃ y_ : List Int, y_ = (y359 ++ t362) := ⟨_, rfl⟩
 replace H : (some y365) = some r := zby hy365 H
 have Ny365 := Aside0.mk hy365
 clear hy365
 obtain rfl := Option.some.inj H
 go_enter Try.func63, Try.ntmps63
 go_wp2_with (first | ((with_reducible refine gate_dst (N := 12) rfl ?_); refine Kd.R_lit (Kd.int .u8) _ 5 ?hg (N := 12) ?hd (xs := ([(wrap64 (128 + (Int.tmod a0 128))) % 256] : List Int)) (inner := [.int .u8 ((wrap64 (128 + (Int.tmod a0 128))) % 256)]) (ok := fun _ => True) (okp := fun _ => True) ?hr ?hp (fun _ hk => hk) trivial (Below.refl _ _) (Nat.le_refl _) (by simp) ?_; (case hd => rfl); (case hg => rfl); (case hr => first | (go_simp; done) | (go_simp; rfl)); (case hp => exact (Reps.one (show Kd.M (Kd.int .u8) _ _ _ ((wrap64 (128 + (Int.tmod a0 128))) % 256) [.int .u8 ((wrap64 (128 + (Int.tmod a0 128))) % 256)] from rfl) (Reps.none _ _))); intro v360 w7 ho8 hb hg_ hnew_; clear hg_ hnew_; (first | rw [← Ny359.out] at ho8 | (simp only [Int.reduceToNat] at ho8; rw [← Ny359.out] at ho8)); have HO361 := Aside0.mk (Kd.R_lower ho8 (below_size (zh HB))); replace HB := Aside0.mk (below_step (zh HB) hb); clear hb ho8) | ((with_reducible refine gate_callee (f := 63) rfl ?_); refine goesL_ (some 15) rfl rfl Try.func63 (by kernel_rfl) rfl #[.int .i64 (wrap64 (Int.tdiv a0 128))] rfl zar ?_; (with_reducible refine (ih k (by omega) (wrap64 (Int.tdiv a0 128)) t362 _ A5.out).mono ?_); rintro e w9 ⟨v363, rfl, ho0, hb⟩; refine ⟨_, rfl, ?_⟩; have HO364 := Aside0.mk (Kd.R_lower (Kd.R_new' ho0 (Kd.R_lt (zr HO361))) (below_size (zh HB))); replace HO361 := Aside0.mk (Kd.R_elder' (zr HO361) (Kd.R_base ho0) hb); replace HB := Aside0.mk (below_step (zh HB) hb); (try clear hb ho0); (try clear hb); (try clear hk); (try clear hi); obtain ⟨Ao12, co12, eo12⟩ := Kd.R_slice HO364.out; subst eo12) | ((with_reducible refine gate_builtin (b := .append) (xs := #[.tmp 12, .tmp 15]) rfl ?_); at_builtin; refine Kd.R_append_rows (Kd.int .u8) (w0 := w) w.heap.size rfl (.tmp 12) (.tmp 15) 26 5 (.int .u8 0) 1 rfl Try.underlying26 info5 rfl (by decide) (by omega) v360 y359 t362 _ _ _ (fun k_ => some k_ ≠ (.slice Ao12 t362.length co12 : Value).ownBlock) (fun _ => False) rfl rfl ?aO ?aR (fun _ _ h => h) (fun _ h => h.elim) ?aF ?aB ?aS ?aL ?_; (case aR => repeat (first | exact (Kd.R_reads' HO364.out).2.2 | (with_reducible refine Kd.C_alloc ?_ _) | (with_reducible refine Kd.C_drewN ?_ _) | (with_reducible refine Kd.C_drew ?_))); (case aB => exact (zh HB)); (case aF => exact (fun k_ hk => Kd.fresh' (Kd.R_lt (zr HO364)) k_ hk)); (case aO => exact (Kd.R_mono (zr HO361) (fun _ hk => hk.2))); (case aS => exact (below_size (zh HB))); (case aL => have := LMc6.out; omega); intro v366 w11 ho hb hg hat; rw [← Ny365.out] at ho; replace HO364 := Aside0.mk (Kd.R_after (ok := (fun _ => True)) (zr HO364) hg hat); replace HB := Aside0.mk (hb); have HO367 := Aside0.mk (ho); clear HO361; clear ho hb hg hat))
 go_ret
 exact ⟨_, zre, Kd.R_mono (zr HO367) (fun _ hk => trivial), zh HB⟩
/-! ### spec_l06PutText: function 62 -/
def spec_l06PutText.f (k : Nat) (l0 : List Int) (a1 : ByteArray) : Option (List Int) := (spec_l03Put.f k (a1.size : Int)).bind fun t368 => (if l0.length + t368.length < 140737488355328 then ((some (l0 ++ t368 : List Int)).bind fun y371 => (if y371.length + a1.size < 140737488355328 then (some (y371 ++ bytesOf a1)) else (none))) else (none))
theorem spec_l06PutText.mono : ∀ a0 a1 k, LeO (spec_l06PutText.f k a0 a1) (spec_l06PutText.f (k + 1) a0 a1) := by
 intro a0 a1 k
 unfold spec_l06PutText.f
 repeat' first
  | (with_reducible exact spec_l03Put.mono _ _)
  | (with_reducible exact LeO.refl _)
  | (with_reducible exact LeO.none _)
  | (with_reducible refine LeO.ite ?_ ?_)
  | (with_reducible refine LeO.bind ?_ (fun _ => ?_))
set_option maxHeartbeats 8000000 in
set_option maxRecDepth 100000 in
theorem spec_l06PutText.calls (k : Nat) (P0_ : Nat → Prop) (u9000_ : Value) (l0 : List Int) (a1 : ByteArray) (r : List Int) (w0 w : World) (hB : Below w0.heap.size w0 w) (ho0 : Kd.R (Kd.int .u8) 5 w w0.heap.size P0_ u9000_ l0) (h : spec_l06PutText.f k l0 a1 = some r) :
 Calls Try.prog 62 #[u9000_, .string a1] w fun e w' => ∃ v0_ : Value, e = .returned (v0_) ∧ Kd.R (Kd.int .u8) 5 w' w0.heap.size (fun k_ => (P0_ k_ ∨ w.heap.size ≤ k_)) v0_ r ∧ Below w0.heap.size w0 w' ∧ Kept w w' (fun k_ => P0_ k_) := by
 have HO0 := Aside0.mk (show Kd.R (Kd.int .u8) 5 w w0.heap.size (fun k_ => (P0_ k_ ∨ w.heap.size ≤ k_)) u9000_ l0 from Kd.R_mono ho0 (fun k_ hk => (.inl hk)))
 have HK := Aside0.mk (Kept.refl w (fun k_ => P0_ k_))
 have HW0 := Aside0.mk hB.size
 have HB := Aside0.mk hB
 clear hB
 have H := h
 unfold spec_l06PutText.f at H
 clear h
 replace H := Option.bind_eq_some_iff.mp H
 obtain ⟨t368, A30, H⟩ := H
 try dsimp only at H
 have A3 := Aside0.mk A30
 clear A30
 by_cases c4 : l0.length + t368.length < 140737488355328
 rotate_left
 ·rw [if_neg c4] at H
  exact absurd H (by simp)

 rw [if_pos c4] at H
 have LMc4 := Aside0.mk c4
 clear c4
 obtain ⟨y371, hy371⟩ : ∃ y_ : List Int, y_ = (l0 ++ t368) := ⟨_, rfl⟩
 replace H : (if y371.length + a1.size < 140737488355328 then (some (y371 ++ bytesOf a1)) else (none)) = some r := zby hy371 H
 have Ny371 := Aside0.mk hy371
 clear hy371
 by_cases c5 : y371.length + a1.size < 140737488355328
 rotate_left
 ·rw [if_neg c5] at H
  exact absurd H (by simp)
 rw [if_pos c5] at H
 have LMc5 := Aside0.mk c5
 clear c5
 obtain ⟨y374, hy374⟩ : ∃ y_ : List Int, y_ = (y371 ++ bytesOf a1) := ⟨_, rfl⟩
 replace H : (some y374) = some r := zby hy374 H
 have Ny374 := Aside0.mk hy374
 clear hy374
 obtain rfl := Option.some.inj H
 go_enter Try.func62, Try.ntmps62
 go_wp2_with (first | ((with_reducible refine gate_callee (f := 63) rfl ?_); refine goesL_ (some 8) rfl rfl Try.func63 (by kernel_rfl) rfl #[.int .i64 (a1.size : Int)] rfl zar ?_; (with_reducible refine (spec_l03Put.calls k (a1.size : Int) t368 _ A3.out).mono ?_); rintro e w6 ⟨v369, rfl, ho0, hb⟩; refine ⟨_, rfl, ?_⟩; have HO370 := Aside0.mk (Kd.R_lower (Kd.R_new' (Kd.R_newM (M := fun k_ => (P0_ k_ ∨ w.heap.size ≤ k_)) ho0 (by first | exact HK.out.1 | exact (show Kept w _ (fun k_ => P0_ k_) from by repeat (first | (with_reducible first | exact HK.out | apply Kept.alloc | apply Kept.drewN | apply Kept.drew) | exact HK.out)).1) (fun k_ h_ => .inr h_)) (Kd.R_lt (zr HO0))) (below_size (zh HB))); replace HO0 := Aside0.mk (Kd.R_elder' (zr HO0) (Kd.R_base ho0) hb); replace HK := Aside0.mk (Kept.below (S := (fun k_ => P0_ k_)) (by repeat (first | (with_reducible first | exact HK.out | apply Kept.alloc | apply Kept.drewN | apply Kept.drew) | exact HK.out)) hb); replace HB := Aside0.mk (below_step (zh HB) hb); (try clear hb ho0); (try clear hb); (try clear hk); (try clear hi); obtain ⟨Ao9, co9, eo9⟩ := Kd.R_slice HO370.out; subst eo9) | ((with_reducible refine gate_builtin (b := .append) (xs := #[.tmp 5, .tmp 8]) rfl ?_); at_builtin; refine Kd.R_append_rows (Kd.int .u8) (w0 := w0) w0.heap.size rfl (.tmp 5) (.tmp 8) 26 5 (.int .u8 0) 1 rfl Try.underlying26 info5 rfl (by decide) (by omega) u9000_ l0 t368 _ _ _ (fun k_ => (P0_ k_ ∨ w.heap.size ≤ k_) ∧ some k_ ≠ (.slice Ao9 t368.length co9 : Value).ownBlock) (fun _ => False) rfl rfl ?aO ?aR (fun _ _ h => h) (fun _ h => h.elim) ?aF ?aB ?aS ?aL ?_; (case aR => repeat (first | exact (Kd.R_reads' HO370.out).2.2 | (with_reducible refine Kd.C_alloc ?_ _) | (with_reducible refine Kd.C_drewN ?_ _) | (with_reducible refine Kd.C_drew ?_))); (case aB => exact (zh HB)); (case aF => exact (fun k_ hk => ⟨(.inr (Nat.le_trans (by first | exact HK.out.1 | exact (show Kept w _ (fun k_ => P0_ k_) from by repeat (first | (with_reducible first | exact HK.out | apply Kept.alloc | apply Kept.drewN | apply Kept.drew) | exact HK.out)).1) hk)), Kd.fresh' (Kd.R_lt (zr HO370)) k_ hk⟩)); (case aO => exact (zr HO0)); (case aS => exact (below_size (zh HB))); (case aL => have := LMc4.out; omega); intro v372 w8 ho hb hg hat; rw [← Ny371.out] at ho; replace HO370 := Aside0.mk (Kd.R_after (ok := (fun k_ => (P0_ k_ ∨ w.heap.size ≤ k_))) (Kd.R_mono (zr HO370) (fun _ hk => ⟨hk.1.1, hk.2⟩)) hg hat); replace HB := Aside0.mk (hb); replace HK := Aside0.mk (Kept.of_grown (S := (fun k_ => P0_ k_)) hg (by repeat (first | (with_reducible first | exact HK.out | apply Kept.alloc | apply Kept.drewN | apply Kept.drew) | exact HK.out)) (fun k_ e_ => (HO0.out.1 k_ e_).1)); have HO373 := Aside0.mk (ho); clear HO0; clear ho hb hg hat) | (at_builtin; refine Kd.R_append_str (w0 := w0) w0.heap.size rfl (.tmp 9) _ 26 9 5 rfl Try.underlying26 Try.underlying9 info5 v372 y371 a1 (fun k_ => (P0_ k_ ∨ w.heap.size ≤ k_) ∧ some k_ ≠ (.slice Ao9 t368.length co9 : Value).ownBlock) rfl rfl ?aF ?aO ?aB ?aS ?aL ?_; (case aB => exact (zh HB)); (case aF => exact (fun k_ hk => ⟨(.inr (Nat.le_trans (by first | exact HK.out.1 | exact (show Kept w _ (fun k_ => P0_ k_) from by repeat (first | (with_reducible first | exact HK.out | apply Kept.alloc | apply Kept.drewN | apply Kept.drew) | exact HK.out)).1) hk)), Kd.fresh' (Kd.R_lt (zr HO370)) k_ hk⟩)); (case aO => exact (zr HO373)); (case aS => exact (below_size (zh HB))); (case aL => have := LMc5.out; omega); intro v375 w10 ho hb hg hat; rw [← Ny374.out] at ho; replace HO370 := Aside0.mk (Kd.R_after (ok := (fun k_ => (P0_ k_ ∨ w.heap.size ≤ k_))) (zr HO370) hg hat); replace HB := Aside0.mk (hb); replace HK := Aside0.mk (Kept.of_grown (S := (fun k_ => P0_ k_)) hg (by repeat (first | (with_reducible first | exact HK.out | apply Kept.alloc | apply Kept.drewN | apply Kept.drew) | exact HK.out)) (fun k_ e_ => (HO373.out.1 k_ e_).1)); have HO376 := Aside0.mk (ho); clear HO373; clear ho hb hg hat))
 go_ret
 exact ⟨_, zre, Kd.R_mono (zr HO376) (fun _ hk => hk.1), zh HB, by repeat (first | (with_reducible first | exact HK.out | apply Kept.alloc | apply Kept.drewN | apply Kept.drew) | exact HK.out)⟩
/-! ### spec_l06PutNumber: function 64 -/
def spec_l06PutNumber.f (k : Nat) (l0 : List Int) (a1 : Int) : Option (List Int) := if a1 < 0 then ((spec_l03Put.f k (wrap64 ((wrap64 ((-2) * a1)) - 1))).bind fun t377 => (if l0.length + t377.length < 140737488355328 then (some (l0 ++ t377)) else (none))) else ((spec_l03Put.f k (wrap64 (2 * a1))).bind fun t383 => (if l0.length + t383.length < 140737488355328 then (some (l0 ++ t383)) else (none)))
theorem spec_l06PutNumber.mono : ∀ a0 a1 k, LeO (spec_l06PutNumber.f k a0 a1) (spec_l06PutNumber.f (k + 1) a0 a1) := by
 intro a0 a1 k
 unfold spec_l06PutNumber.f
 repeat' first
  | (with_reducible exact spec_l03Put.mono _ _)
  | (with_reducible exact LeO.refl _)
  | (with_reducible exact LeO.none _)
  | (with_reducible refine LeO.ite ?_ ?_)
  | (with_reducible refine LeO.bind ?_ (fun _ => ?_))
set_option maxHeartbeats 8000000 in
set_option maxRecDepth 100000 in
theorem spec_l06PutNumber.calls (k : Nat) (P0_ : Nat → Prop) (u9000_ : Value) (l0 : List Int) (a1 : Int) (r : List Int) (w0 w : World) (hB : Below w0.heap.size w0 w) (ho0 : Kd.R (Kd.int .u8) 5 w w0.heap.size P0_ u9000_ l0) (h : spec_l06PutNumber.f k l0 a1 = some r) :
 Calls Try.prog 64 #[u9000_, .int .i64 a1] w fun e w' => ∃ v0_ : Value, e = .returned (v0_) ∧ Kd.R (Kd.int .u8) 5 w' w0.heap.size (fun k_ => (P0_ k_ ∨ w.heap.size ≤ k_)) v0_ r ∧ Below w0.heap.size w0 w' ∧ Kept w w' (fun k_ => P0_ k_) := by
 have HO0 := Aside0.mk (show Kd.R (Kd.int .u8) 5 w w0.heap.size (fun k_ => (P0_ k_ ∨ w.heap.size ≤ k_)) u9000_ l0 from Kd.R_mono ho0 (fun k_ hk => (.inl hk)))
 have HK := Aside0.mk (Kept.refl w (fun k_ => P0_ k_))
 have HW0 := Aside0.mk hB.size
 have HB := Aside0.mk hB
 clear hB
 have H := h
 unfold spec_l06PutNumber.f at H
 clear h
 by_cases c3 : a1 < 0
 rotate_left
 ·rw [if_neg c3] at H
  have c3b0 : decide (a1 < 0) = false := decide_eq_false c3
  clear c3
  replace H := Option.bind_eq_some_iff.mp H
  obtain ⟨t383, A100, H⟩ := H
  try dsimp only at H
  have A10 := Aside0.mk A100
  clear A100
  by_cases c11 : l0.length + t383.length < 140737488355328
  rotate_left
  ·rw [if_neg c11] at H
   exact absurd H (by simp)

  rw [if_pos c11] at H
  have LMc11 := Aside0.mk c11
  clear c11
  obtain ⟨y386, hy386⟩ : ∃ y_ : List Int, y_ = (l0 ++ t383) := ⟨_, rfl⟩
  replace H : (some y386) = some r := zby hy386 H
  have Ny386 := Aside0.mk hy386
  clear hy386
  obtain rfl := Option.some.inj H
  go_enter Try.func64, Try.ntmps64
  go_wp2_with (first | ((with_reducible refine gate_callee (f := 63) rfl ?_); refine goesL_ (some 16) rfl rfl Try.func63 (by kernel_rfl) rfl #[.int .i64 (wrap64 (2 * a1))] rfl zar ?_; (with_reducible refine (spec_l03Put.calls k (wrap64 (2 * a1)) t383 _ A10.out).mono ?_); rintro e w12 ⟨v384, rfl, ho0, hb⟩; refine ⟨_, rfl, ?_⟩; have HO385 := Aside0.mk (Kd.R_lower (Kd.R_new' (Kd.R_newM (M := fun k_ => (P0_ k_ ∨ w.heap.size ≤ k_)) ho0 (by first | exact HK.out.1 | exact (show Kept w _ (fun k_ => P0_ k_) from by repeat (first | (with_reducible first | exact HK.out | apply Kept.alloc | apply Kept.drewN | apply Kept.drew) | exact HK.out)).1) (fun k_ h_ => .inr h_)) (Kd.R_lt (zr HO0))) (below_size (zh HB))); replace HO0 := Aside0.mk (Kd.R_elder' (zr HO0) (Kd.R_base ho0) hb); replace HK := Aside0.mk (Kept.below (S := (fun k_ => P0_ k_)) (by repeat (first | (with_reducible first | exact HK.out | apply Kept.alloc | apply Kept.drewN | apply Kept.drew) | exact HK.out)) hb); replace HB := Aside0.mk (below_step (zh HB) hb); (try clear hb ho0); (try clear hb); (try clear hk); (try clear hi); obtain ⟨Ao15, co15, eo15⟩ := Kd.R_slice HO385.out; subst eo15) | ((with_reducible refine gate_builtin (b := .append) (xs := #[.tmp 13, .tmp 16]) rfl ?_); at_builtin; refine Kd.R_append_rows (Kd.int .u8) (w0 := w0) w0.heap.size rfl (.tmp 13) (.tmp 16) 26 5 (.int .u8 0) 1 rfl Try.underlying26 info5 rfl (by decide) (by omega) u9000_ l0 t383 _ _ _ (fun k_ => (P0_ k_ ∨ w.heap.size ≤ k_) ∧ some k_ ≠ (.slice Ao15 t383.length co15 : Value).ownBlock) (fun _ => False) rfl rfl ?aO ?aR (fun _ _ h => h) (fun _ h => h.elim) ?aF ?aB ?aS ?aL ?_; (case aR => repeat (first | exact (Kd.R_reads' HO385.out).2.2 | (with_reducible refine Kd.C_alloc ?_ _) | (with_reducible refine Kd.C_drewN ?_ _) | (with_reducible refine Kd.C_drew ?_))); (case aB => exact (zh HB)); (case aF => exact (fun k_ hk => ⟨(.inr (Nat.le_trans (by first | exact HK.out.1 | exact (show Kept w _ (fun k_ => P0_ k_) from by repeat (first | (with_reducible first | exact HK.out | apply Kept.alloc | apply Kept.drewN | apply Kept.drew) | exact HK.out)).1) hk)), Kd.fresh' (Kd.R_lt (zr HO385)) k_ hk⟩)); (case aO => exact (zr HO0)); (case aS => exact (below_size (zh HB))); (case aL => have := LMc11.out; omega); intro v387 w14 ho hb hg hat; rw [← Ny386.out] at ho; replace HO385 := Aside0.mk (Kd.R_after (ok := (fun k_ => (P0_ k_ ∨ w.heap.size ≤ k_))) (Kd.R_mono (zr HO385) (fun _ hk => ⟨hk.1.1, hk.2⟩)) hg hat); replace HB := Aside0.mk (hb); replace HK := Aside0.mk (Kept.of_grown (S := (fun k_ => P0_ k_)) hg (by repeat (first | (with_reducible first | exact HK.out | apply Kept.alloc | apply Kept.drewN | apply Kept.drew) | exact HK.out)) (fun k_ e_ => (HO0.out.1 k_ e_).1)); have HO388 := Aside0.mk (ho); clear HO0; clear ho hb hg hat))
  go_ret
  exact ⟨_, zre, Kd.R_mono (zr HO388) (fun _ hk => hk.1), zh HB, by repeat (first | (with_reducible first | exact HK.out | apply Kept.alloc | apply Kept.drewN | apply Kept.drew) | exact HK.out)⟩
 rw [if_pos c3] at H
 have c3b0 : decide (a1 < 0) = true := decide_eq_true c3
 clear c3
 replace H := Option.bind_eq_some_iff.mp H
 obtain ⟨t377, A40, H⟩ := H
 try dsimp only at H
 have A4 := Aside0.mk A40
 clear A40
 by_cases c5 : l0.length + t377.length < 140737488355328
 rotate_left
 ·rw [if_neg c5] at H
  exact absurd H (by simp)
 rw [if_pos c5] at H
 have LMc5 := Aside0.mk c5
 clear c5
 obtain ⟨y380, hy380⟩ : ∃ y_ : List Int, y_ = (l0 ++ t377) := ⟨_, rfl⟩
 replace H : (some y380) = some r := zby hy380 H
 have Ny380 := Aside0.mk hy380
 clear hy380
 obtain rfl := Option.some.inj H
 go_enter Try.func64, Try.ntmps64
 go_wp2_with (first | ((with_reducible refine gate_callee (f := 63) rfl ?_); refine goesL_ (some 11) rfl rfl Try.func63 (by kernel_rfl) rfl #[.int .i64 (wrap64 ((wrap64 ((-2) * a1)) - 1))] rfl zar ?_; (with_reducible refine (spec_l03Put.calls k (wrap64 ((wrap64 ((-2) * a1)) - 1)) t377 _ A4.out).mono ?_); rintro e w6 ⟨v378, rfl, ho0, hb⟩; refine ⟨_, rfl, ?_⟩; have HO379 := Aside0.mk (Kd.R_lower (Kd.R_new' (Kd.R_newM (M := fun k_ => (P0_ k_ ∨ w.heap.size ≤ k_)) ho0 (by first | exact HK.out.1 | exact (show Kept w _ (fun k_ => P0_ k_) from by repeat (first | (with_reducible first | exact HK.out | apply Kept.alloc | apply Kept.drewN | apply Kept.drew) | exact HK.out)).1) (fun k_ h_ => .inr h_)) (Kd.R_lt (zr HO0))) (below_size (zh HB))); replace HO0 := Aside0.mk (Kd.R_elder' (zr HO0) (Kd.R_base ho0) hb); replace HK := Aside0.mk (Kept.below (S := (fun k_ => P0_ k_)) (by repeat (first | (with_reducible first | exact HK.out | apply Kept.alloc | apply Kept.drewN | apply Kept.drew) | exact HK.out)) hb); replace HB := Aside0.mk (below_step (zh HB) hb); (try clear hb ho0); (try clear hb); (try clear hk); (try clear hi); obtain ⟨Ao9, co9, eo9⟩ := Kd.R_slice HO379.out; subst eo9) | ((with_reducible refine gate_builtin (b := .append) (xs := #[.tmp 7, .tmp 11]) rfl ?_); at_builtin; refine Kd.R_append_rows (Kd.int .u8) (w0 := w0) w0.heap.size rfl (.tmp 7) (.tmp 11) 26 5 (.int .u8 0) 1 rfl Try.underlying26 info5 rfl (by decide) (by omega) u9000_ l0 t377 _ _ _ (fun k_ => (P0_ k_ ∨ w.heap.size ≤ k_) ∧ some k_ ≠ (.slice Ao9 t377.length co9 : Value).ownBlock) (fun _ => False) rfl rfl ?aO ?aR (fun _ _ h => h) (fun _ h => h.elim) ?aF ?aB ?aS ?aL ?_; (case aR => repeat (first | exact (Kd.R_reads' HO379.out).2.2 | (with_reducible refine Kd.C_alloc ?_ _) | (with_reducible refine Kd.C_drewN ?_ _) | (with_reducible refine Kd.C_drew ?_))); (case aB => exact (zh HB)); (case aF => exact (fun k_ hk => ⟨(.inr (Nat.le_trans (by first | exact HK.out.1 | exact (show Kept w _ (fun k_ => P0_ k_) from by repeat (first | (with_reducible first | exact HK.out | apply Kept.alloc | apply Kept.drewN | apply Kept.drew) | exact HK.out)).1) hk)), Kd.fresh' (Kd.R_lt (zr HO379)) k_ hk⟩)); (case aO => exact (zr HO0)); (case aS => exact (below_size (zh HB))); (case aL => have := LMc5.out; omega); intro v381 w8 ho hb hg hat; rw [← Ny380.out] at ho; replace HO379 := Aside0.mk (Kd.R_after (ok := (fun k_ => (P0_ k_ ∨ w.heap.size ≤ k_))) (Kd.R_mono (zr HO379) (fun _ hk => ⟨hk.1.1, hk.2⟩)) hg hat); replace HB := Aside0.mk (hb); replace HK := Aside0.mk (Kept.of_grown (S := (fun k_ => P0_ k_)) hg (by repeat (first | (with_reducible first | exact HK.out | apply Kept.alloc | apply Kept.drewN | apply Kept.drew) | exact HK.out)) (fun k_ e_ => (HO0.out.1 k_ e_).1)); have HO382 := Aside0.mk (ho); clear HO0; clear ho hb hg hat))
 go_ret
 exact ⟨_, zre, Kd.R_mono (zr HO382) (fun _ hk => hk.1), zh HB, by repeat (first | (with_reducible first | exact HK.out | apply Kept.alloc | apply Kept.drewN | apply Kept.drew) | exact HK.out)⟩
end Go.Proofs.Ytnpdmleglcbobaa.XFnExactReadLog
