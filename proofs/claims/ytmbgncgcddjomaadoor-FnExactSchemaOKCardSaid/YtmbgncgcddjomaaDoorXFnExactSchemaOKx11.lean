-- A printed text of this session (wip/x/xprint.py).
import Derived.Test.YtmbgncgcddjomaaDoorXFnExactSchemaOKx0
namespace Go.Proofs.YtmbgncgcddjomaaDoor.XFnExactSchemaOK
open Go.RowKit Go.Proofs.YtmbgncgcddjomaaDoorW.PrintWords Go.Proofs.YtmbgncgcddjomaaDoorW.PrintLast Go.Proofs.YtmbgncgcddjomaaDoorW.PrintMore
attribute [local go_sem] max2_int min2_int max_two min_two max_three min_three max_four min_four   -- for this text's walks alone
set_option linter.unusedVariables false
set_option linter.unusedSimpArgs false
def fl11_ (n m : Nat) : Array Bool := ((List.range n).map fun i => m.testBit i).toArray

/-! ### laws_eqStringS: function 48 -/
def laws_eqStringS.l0 : Nat → List ByteArray → List ByteArray → Int → Option (Bool)
 | 0, _, _, _ => none
 | k + 1, x0, x1, x5 => if x5 < (x0.length : Int) then (if 0 ≤ x5 then (if x5 < (x1.length : Int) then (if (rdOf ByteArray.empty x0 x5).toList = (rdOf ByteArray.empty x1 x5).toList then (laws_eqStringS.l0 k x0 x1 (wrap64 (x5 + 1))) else (some false)) else (none)) else (none)) else (some true)
def laws_eqStringS.f (k : Nat) (l0 : List ByteArray) (l1 : List ByteArray) : Option (Bool) := if (l0.length : Int) = (l1.length : Int) then (laws_eqStringS.l0 k l0 l1 0) else (some false)
theorem laws_eqStringS.mono_l : ∀ k, (∀ y0 y1 y2, LeO (laws_eqStringS.l0 k y0 y1 y2) (laws_eqStringS.l0 (k + 1) y0 y1 y2))
 | 0 => fun _ _ _ r h => by simp [laws_eqStringS.l0] at h
 | k + 1 => by
  have ih0 := laws_eqStringS.mono_l k
  ·intro y0 y1 y2
   unfold laws_eqStringS.l0
   repeat' first
   | (with_reducible exact ih0 _ _ _)
   | (with_reducible exact LeO.refl _)
   | (with_reducible exact LeO.none _)
   | (with_reducible refine LeO.ite ?_ ?_)
   | (with_reducible refine LeO.bind ?_ (fun _ => ?_))
theorem laws_eqStringS.mono : ∀ a0 a1 k, LeO (laws_eqStringS.f k a0 a1) (laws_eqStringS.f (k + 1) a0 a1) := by
 intro a0 a1 k
 have ih0 := laws_eqStringS.mono_l k
 unfold laws_eqStringS.f
 repeat' first
  | (with_reducible exact ih0 _ _ _)
  | (with_reducible exact LeO.refl _)
  | (with_reducible exact LeO.none _)
  | (with_reducible refine LeO.ite ?_ ?_)
  | (with_reducible refine LeO.bind ?_ (fun _ => ?_))
set_option maxHeartbeats 8000000 in
set_option maxRecDepth 100000 in
theorem laws_eqStringS.calls (k : Nat) (A0 : Option Addr) (c0 : Nat) (l0 : List ByteArray) (A1 : Option Addr) (c1 : Nat) (l1 : List ByteArray) (r : Bool) (w : World) (hr0 : Kd.C Kd.string w A0 l0.length l0) (hc0 : l0.length ≤ c0) (hr1 : Kd.C Kd.string w A1 l1.length l1) (hc1 : l1.length ≤ c1) (h : laws_eqStringS.f k l0 l1 = some r) :
 Calls Tryd.prog 48 #[.slice A0 l0.length c0, .slice A1 l1.length c1] w fun e w' => e = .returned (.bool r) ∧ Drawn0 w w' := by
 have HR0 := Aside0.mk hr0
 have HC0 := Aside0.mk hc0
 clear hr0 hc0
 have HR1 := Aside0.mk hr1
 have HC1 := Aside0.mk hc1
 clear hr1 hc1
 have H := h
 unfold laws_eqStringS.f at H
 clear h
 by_cases c3 : (l0.length : Int) = (l1.length : Int)
 rotate_left
 ·rw [if_neg c3] at H
  have c3b0 : ((l0.length : Int) == (l1.length : Int)) = false := beq_eq_false_iff_ne.mpr c3
  have c3b1 : ((l0.length : Int) != (l1.length : Int)) = true := bne_iff_ne.mpr c3
  have c3b2 : (l0.length == l1.length) = false := by first | simpa using c3 | (simp at c3 ⊢; omega)
  obtain rfl := Option.some.inj H
  go_enter Tryd.func48, Tryd.ntmps48
  go_wp2
  repeat (go_quiet (fail); try go_wp2)
  go_ret
  exact ⟨zrs, by repeat (first | exact Drawn0.refl _ | apply Drawn0.step)⟩

 rw [if_pos c3] at H
 have c3b0 : ((l0.length : Int) == (l1.length : Int)) = true := beq_iff_eq.mpr c3
 have c3b1 : ((l0.length : Int) != (l1.length : Int)) = false := bne_eq_false_iff_eq.mpr c3
 have c3b2 : (l0.length == l1.length) = true := by first | simpa using c3 | (simp at c3 ⊢; omega)
 clear c3
 have H' := Aside0.mk H
 clear H
 go_enter Tryd.func48, Tryd.ntmps48
 go_wp2
 repeat (go_quiet (fail); try go_wp2)
 go_loopg [5] k (fun kq v5 w' => ∃ (x5_1 : Int), v5 = .int .i64 x5_1 ∧ Aside0 (laws_eqStringS.l0 kq l0 l1 x5_1 = some r) ∧ Aside0 (kq ≤ k) ∧ Drawn0 w w')
 case atStart => exact ⟨(0), zrs, H', ⟨Nat.le_refl _⟩, by repeat (first | exact Drawn0.refl _ | apply Drawn0.step)⟩
 case round =>
  clear H'
  try clear c1
  try clear c3
  try clear c3b0
  try clear c3b1
  try clear c3b2
  obtain ⟨x5_1, rfl, HA, HK1, ⟨m1, rfl⟩⟩ := hrel
  cases gk with
  | zero => exact absurd HA.out (by simp [laws_eqStringS.l0])
  | succ k1 =>
   have H := HA.out
   clear HA
   simp only [laws_eqStringS.l0] at H
   by_cases c4 : x5_1 < (l0.length : Int)
   rotate_left
   ·rw [if_neg c4] at H
    have c4b0 : decide (x5_1 < (l0.length : Int)) = false := decide_eq_false c4
    clear c4
    obtain rfl := Option.some.inj H
    go_wp2
    repeat (go_quiet (fail); try go_wp2)
    go_ret
    exact ⟨zrs, by repeat (first | exact Drawn0.refl _ | apply Drawn0.step)⟩
   rw [if_pos c4] at H
   have c4b0 : decide (x5_1 < (l0.length : Int)) = true := decide_eq_true c4
   clear c4
   by_cases c5 : 0 ≤ x5_1
   rotate_left
   ·rw [if_neg c5] at H
    exact absurd H (by simp)
   rw [if_pos c5] at H
   have c5b0 : decide (0 ≤ x5_1) = true := decide_eq_true c5
   clear c5
   by_cases c6 : x5_1 < (l1.length : Int)
   rotate_left
   ·rw [if_neg c6] at H
    exact absurd H (by simp)
   rw [if_pos c6] at H
   have c6b0 : decide (x5_1 < (l1.length : Int)) = true := decide_eq_true c6
   clear c6
   by_cases c7 : (rdOf ByteArray.empty l0 x5_1).toList = (rdOf ByteArray.empty l1 x5_1).toList
   rotate_left
   ·rw [if_neg c7] at H
    have c7b0 : ((rdOf ByteArray.empty l0 x5_1).toList == (rdOf ByteArray.empty l1 x5_1).toList) = false := beq_eq_false_iff_ne.mpr c7
    have c7b1 : ((rdOf ByteArray.empty l0 x5_1).toList != (rdOf ByteArray.empty l1 x5_1).toList) = true := bne_iff_ne.mpr c7
    obtain rfl := Option.some.inj H
    have p249 : 0 ≤ (x5_1 : Int) := of_decide_eq_true zas
    have q249 : x5_1 < (l0.length : Int) := of_decide_eq_true zas
    obtain ⟨ad249, e249, hx249_0⟩ := Kd.at_string HR0.out x5_1 p249 q249
    cases e249
    replace p249 := eq_true p249
    replace q249 := eq_true q249
    have p250 : 0 ≤ (x5_1 : Int) := of_decide_eq_true zas
    have q250 : x5_1 < (l1.length : Int) := of_decide_eq_true zas
    obtain ⟨ad250, e250, hx250_0⟩ := Kd.at_string HR1.out x5_1 p250 q250
    cases e250
    replace p250 := eq_true p250
    replace q250 := eq_true q250
    go_wp2
    repeat (go_quiet (fail); try go_wp2)
    go_ret
    exact ⟨zrs, by repeat (first | exact Drawn0.refl _ | apply Drawn0.step)⟩
   rw [if_pos c7] at H
   have c7b0 : ((rdOf ByteArray.empty l0 x5_1).toList == (rdOf ByteArray.empty l1 x5_1).toList) = true := beq_iff_eq.mpr c7
   have c7b1 : ((rdOf ByteArray.empty l0 x5_1).toList != (rdOf ByteArray.empty l1 x5_1).toList) = false := bne_eq_false_iff_eq.mpr c7
   clear c7
   have H' := Aside0.mk H
   clear H
   have p249 : 0 ≤ (x5_1 : Int) := of_decide_eq_true zas
   have q249 : x5_1 < (l0.length : Int) := of_decide_eq_true zas
   obtain ⟨ad249, e249, hx249_0⟩ := Kd.at_string HR0.out x5_1 p249 q249
   cases e249
   replace p249 := eq_true p249
   replace q249 := eq_true q249
   have p250 : 0 ≤ (x5_1 : Int) := of_decide_eq_true zas
   have q250 : x5_1 < (l1.length : Int) := of_decide_eq_true zas
   obtain ⟨ad250, e250, hx250_0⟩ := Kd.at_string HR1.out x5_1 p250 q250
   cases e250
   replace p250 := eq_true p250
   replace q250 := eq_true q250
   go_wp2
   repeat (go_quiet (fail); try go_wp2)
   go_roundg k1
   case measure => have := HK1.out; omega
   case rel => exact ⟨(wrap64 (x5_1 + 1)), zrs, H', ⟨by have := HK1.out; omega⟩, by repeat (first | exact Drawn0.refl _ | apply Drawn0.step)⟩
/-! ### laws_eqSynonym: function 57 -/
def laws_eqSynonym.f (a0_0 : ByteArray) (a0_1 : ByteArray) (a1_0 : ByteArray) (a1_1 : ByteArray) : Option (Bool) := if a0_0.toList = a1_0.toList then (if a0_1.toList = a1_1.toList then (some true) else (some false)) else (some false)
set_option maxHeartbeats 8000000 in
set_option maxRecDepth 100000 in
theorem laws_eqSynonym.calls (a0_0 : ByteArray) (a0_1 : ByteArray) (a1_0 : ByteArray) (a1_1 : ByteArray) (r : Bool) (w : World) (h : laws_eqSynonym.f a0_0 a0_1 a1_0 a1_1 = some r) :
 Calls Tryd.prog 57 #[.agg #[.string a0_0, .string a0_1], .agg #[.string a1_0, .string a1_1]] w fun e w' => e = .returned (.bool r) ∧ Below w.heap.size w w' := by
 have hu52 := Tryd.underlying52
 have HB := Aside0.mk (Below.refl w.heap.size w)
 have H := h
 unfold laws_eqSynonym.f at H
 clear h
 by_cases c3 : a0_0.toList = a1_0.toList
 rotate_left
 ·rw [if_neg c3] at H
  have c3b0 : (a0_0.toList == a1_0.toList) = false := beq_eq_false_iff_ne.mpr c3
  have c3b1 : (a0_0.toList != a1_0.toList) = true := bne_iff_ne.mpr c3
  obtain rfl := Option.some.inj H
  go_enter Tryd.func57, Tryd.ntmps57
  go_wp2_with (first | ((with_reducible refine gate_dst (N := 2) rfl ?_); refine box_event (by rfl) (N := 2) (by rfl) (cs := #[.string a0_0, .string a0_1]) (t := 52) zgs ?_; intro gb251 hg w15 hbox hb; have BK251 := Aside0.mk (hbox); have GW251 := zge hg (below_size (zh HB)); have GE251 := zge hg (below_size (zh HB)); replace HB := Aside0.mk (below_step (zh HB) hb); clear hb hbox hg) | ((with_reducible refine gate_dst (N := 3) rfl ?_); refine box_event (by rfl) (N := 3) (by rfl) (cs := #[.string a1_0, .string a1_1]) (t := 52) zgs ?_; intro gb252 hg w16 hbox hb; have BK252 := Aside0.mk (hbox); have GW252 := zge hg (below_size (zg HB)); have GE252 := zge hg (below_size (zg HB)); replace HB := Aside0.mk (below_step (zg HB) hb); have NB251_252 := znl hg (blk_lt (zb BK251)); have NB252_251 := zng hg (blk_lt (zb BK251)); replace BK251 := Aside0.mk (blk_below (zb BK251) hb); clear hb hbox hg; have hnb17 := NB251_252.out; have hnc17 := NB252_251.out; obtain ⟨⟨hcz18_0, hcz18_1⟩, hfz18_0, hfz18_1⟩ := zc2 BK251; obtain ⟨⟨hcz19_0, hcz19_1⟩, hfz19_0, hfz19_1⟩ := zc2 BK252))
  go_ret
  exact ⟨zre, zg HB⟩

 rw [if_pos c3] at H
 have c3b0 : (a0_0.toList == a1_0.toList) = true := beq_iff_eq.mpr c3
 have c3b1 : (a0_0.toList != a1_0.toList) = false := bne_eq_false_iff_eq.mpr c3
 clear c3
 by_cases c4 : a0_1.toList = a1_1.toList
 rotate_left
 ·rw [if_neg c4] at H
  have c4b0 : (a0_1.toList == a1_1.toList) = false := beq_eq_false_iff_ne.mpr c4
  have c4b1 : (a0_1.toList != a1_1.toList) = true := bne_iff_ne.mpr c4
  obtain rfl := Option.some.inj H
  go_enter Tryd.func57, Tryd.ntmps57
  go_wp2_with (first | ((with_reducible refine gate_dst (N := 2) rfl ?_); refine box_event (by rfl) (N := 2) (by rfl) (cs := #[.string a0_0, .string a0_1]) (t := 52) zgs ?_; intro gb251 hg w10 hbox hb; have BK251 := Aside0.mk (hbox); have GW251 := zge hg (below_size (zh HB)); have GE251 := zge hg (below_size (zh HB)); replace HB := Aside0.mk (below_step (zh HB) hb); clear hb hbox hg) | ((with_reducible refine gate_dst (N := 3) rfl ?_); refine box_event (by rfl) (N := 3) (by rfl) (cs := #[.string a1_0, .string a1_1]) (t := 52) zgs ?_; intro gb252 hg w11 hbox hb; have BK252 := Aside0.mk (hbox); have GW252 := zge hg (below_size (zg HB)); have GE252 := zge hg (below_size (zg HB)); replace HB := Aside0.mk (below_step (zg HB) hb); have NB251_252 := znl hg (blk_lt (zb BK251)); have NB252_251 := zng hg (blk_lt (zb BK251)); replace BK251 := Aside0.mk (blk_below (zb BK251) hb); clear hb hbox hg; have hnb12 := NB251_252.out; have hnc12 := NB252_251.out; obtain ⟨⟨hcz13_0, hcz13_1⟩, hfz13_0, hfz13_1⟩ := zc2 BK251; obtain ⟨⟨hcz14_0, hcz14_1⟩, hfz14_0, hfz14_1⟩ := zc2 BK252))
  go_ret
  exact ⟨zre, zg HB⟩
 rw [if_pos c4] at H
 have c4b0 : (a0_1.toList == a1_1.toList) = true := beq_iff_eq.mpr c4
 have c4b1 : (a0_1.toList != a1_1.toList) = false := bne_eq_false_iff_eq.mpr c4
 clear c4
 obtain rfl := Option.some.inj H
 go_enter Tryd.func57, Tryd.ntmps57
 go_wp2_with (first | ((with_reducible refine gate_dst (N := 2) rfl ?_); refine box_event (by rfl) (N := 2) (by rfl) (cs := #[.string a0_0, .string a0_1]) (t := 52) zgs ?_; intro gb251 hg w5 hbox hb; have BK251 := Aside0.mk (hbox); have GW251 := zge hg (below_size (zh HB)); have GE251 := zge hg (below_size (zh HB)); replace HB := Aside0.mk (below_step (zh HB) hb); clear hb hbox hg) | ((with_reducible refine gate_dst (N := 3) rfl ?_); refine box_event (by rfl) (N := 3) (by rfl) (cs := #[.string a1_0, .string a1_1]) (t := 52) zgs ?_; intro gb252 hg w6 hbox hb; have BK252 := Aside0.mk (hbox); have GW252 := zge hg (below_size (zg HB)); have GE252 := zge hg (below_size (zg HB)); replace HB := Aside0.mk (below_step (zg HB) hb); have NB251_252 := znl hg (blk_lt (zb BK251)); have NB252_251 := zng hg (blk_lt (zb BK251)); replace BK251 := Aside0.mk (blk_below (zb BK251) hb); clear hb hbox hg; have hnb7 := NB251_252.out; have hnc7 := NB252_251.out; obtain ⟨⟨hcz8_0, hcz8_1⟩, hfz8_0, hfz8_1⟩ := zc2 BK251; obtain ⟨⟨hcz9_0, hcz9_1⟩, hfz9_0, hfz9_1⟩ := zc2 BK252))
 go_ret
 exact ⟨zre, zg HB⟩
/-! ### laws_eqSynonymS: function 49 -/
def laws_eqSynonymS.l0 : Nat → List (S52) → List (S52) → Int → Option (Bool)
 | 0, _, _, _ => none
 | k + 1, x0, x1, x5 => if x5 < (x0.length : Int) then (if 0 ≤ x5 then (if x5 < (x1.length : Int) then ((laws_eqSynonym.f ((rd_T52 x0 x5).f0) ((rd_T52 x0 x5).f1) ((rd_T52 x1 x5).f0) ((rd_T52 x1 x5).f1)).bind fun t255 => (if t255 = true then (laws_eqSynonymS.l0 k x0 x1 (wrap64 (x5 + 1))) else (some false))) else (none)) else (none)) else (some true)
def laws_eqSynonymS.f (k : Nat) (l0 : List (S52)) (l1 : List (S52)) : Option (Bool) := if (l0.length : Int) = (l1.length : Int) then (laws_eqSynonymS.l0 k l0 l1 0) else (some false)
theorem laws_eqSynonymS.mono_l : ∀ k, (∀ y0 y1 y2, LeO (laws_eqSynonymS.l0 k y0 y1 y2) (laws_eqSynonymS.l0 (k + 1) y0 y1 y2))
 | 0 => fun _ _ _ r h => by simp [laws_eqSynonymS.l0] at h
 | k + 1 => by
  have ih0 := laws_eqSynonymS.mono_l k
  ·intro y0 y1 y2
   unfold laws_eqSynonymS.l0
   repeat' first
   | (with_reducible exact ih0 _ _ _)
   | (with_reducible exact LeO.refl _)
   | (with_reducible exact LeO.none _)
   | (with_reducible refine LeO.ite ?_ ?_)
   | (with_reducible refine LeO.bind ?_ (fun _ => ?_))
theorem laws_eqSynonymS.mono : ∀ a0 a1 k, LeO (laws_eqSynonymS.f k a0 a1) (laws_eqSynonymS.f (k + 1) a0 a1) := by
 intro a0 a1 k
 have ih0 := laws_eqSynonymS.mono_l k
 unfold laws_eqSynonymS.f
 repeat' first
  | (with_reducible exact ih0 _ _ _)
  | (with_reducible exact LeO.refl _)
  | (with_reducible exact LeO.none _)
  | (with_reducible refine LeO.ite ?_ ?_)
  | (with_reducible refine LeO.bind ?_ (fun _ => ?_))
def laws_eqSynonymS.T6 : Bool × List (List Nat × List Nat) := (true, [([], []), ([], []), ([0, 1], [0, 1]), ([2], [2]), ([], []), ([], []), ([4, 5], [4, 5]), ([6], [6]), ([3, 7], [3, 7]), ([8], [8])])
def laws_eqSynonymS.B6 : List Nat := [0, 0, 3, 7, 0, 0, 48, 112, 255, 511]
theorem laws_eqSynonymS.tab6 : rtab .any (opsOf Tryd.f49 6) = laws_eqSynonymS.T6 := by kernel_rfl
theorem laws_eqSynonymS.bits6 : waitsOk laws_eqSynonymS.T6.2 laws_eqSynonymS.B6 = true := by kernel_rfl
set_option maxHeartbeats 8000000 in
set_option maxRecDepth 100000 in
theorem laws_eqSynonymS.calls (k : Nat) (A0 : Option Addr) (c0 : Nat) (l0 : List (S52)) (A1 : Option Addr) (c1 : Nat) (l1 : List (S52)) (r : Bool) (w : World) (hr0 : Kd.C k52 w A0 l0.length l0) (hc0 : l0.length ≤ c0) (hr1 : Kd.C k52 w A1 l1.length l1) (hc1 : l1.length ≤ c1) (h : laws_eqSynonymS.f k l0 l1 = some r) :
 Calls Tryd.prog 49 #[.slice A0 l0.length c0, .slice A1 l1.length c1] w fun e w' => e = .returned (.bool r) ∧ Below w.heap.size w w' := by
 have hu52 := Tryd.underlying52
 have HR0 := Aside0.mk hr0
 have HC0 := Aside0.mk hc0
 clear hr0 hc0
 have HR1 := Aside0.mk hr1
 have HC1 := Aside0.mk hc1
 clear hr1 hc1
 have HB := Aside0.mk (Below.refl w.heap.size w)
 have H := h
 unfold laws_eqSynonymS.f at H
 clear h
 by_cases c3 : (l0.length : Int) = (l1.length : Int)
 rotate_left
 ·rw [if_neg c3] at H
  have c3b0 : ((l0.length : Int) == (l1.length : Int)) = false := beq_eq_false_iff_ne.mpr c3
  have c3b1 : ((l0.length : Int) != (l1.length : Int)) = true := bne_iff_ne.mpr c3
  have c3b2 : (l0.length == l1.length) = false := by first | simpa using c3 | (simp at c3 ⊢; omega)
  obtain rfl := Option.some.inj H
  go_enter Tryd.func49, Tryd.ntmps49
  go_wp2
  go_ret
  exact ⟨zre, zh HB⟩

 rw [if_pos c3] at H
 have c3b0 : ((l0.length : Int) == (l1.length : Int)) = true := beq_iff_eq.mpr c3
 have c3b1 : ((l0.length : Int) != (l1.length : Int)) = false := bne_eq_false_iff_eq.mpr c3
 have c3b2 : (l0.length == l1.length) = true := by first | simpa using c3 | (simp at c3 ⊢; omega)
 clear c3
 have H' := Aside0.mk H
 clear H
 go_enter Tryd.func49, Tryd.ntmps49
 go_wp2
 go_loopg [5] k (fun kq v5 w' => ∃ (x5_1 : Int), v5 = .int .i64 x5_1 ∧ Aside0 (laws_eqSynonymS.l0 kq l0 l1 x5_1 = some r) ∧ Aside0 (kq ≤ k) ∧ Aside0 (Below w.heap.size w w'))
 case atStart => exact ⟨(0), zrs, H', ⟨Nat.le_refl _⟩, ⟨zh HB⟩⟩
 case round =>
  clear H'
  try clear c1
  try clear c3
  try clear c3b0
  try clear c3b1
  try clear c3b2
  obtain ⟨x5_1, rfl, HA, HK1, HB⟩ := hrel
  cases gk with
  | zero => exact absurd HA.out (by simp [laws_eqSynonymS.l0])
  | succ k1 =>
   have H := HA.out
   clear HA
   simp only [laws_eqSynonymS.l0] at H
   by_cases c4 : x5_1 < (l0.length : Int)
   rotate_left
   ·rw [if_neg c4] at H
    have c4b0 : decide (x5_1 < (l0.length : Int)) = false := decide_eq_false c4
    clear c4
    obtain rfl := Option.some.inj H
    go_wp2
    go_ret
    exact ⟨zre, zh HB⟩
   rw [if_pos c4] at H
   have c4b0 : decide (x5_1 < (l0.length : Int)) = true := decide_eq_true c4
   clear c4
   by_cases c5 : 0 ≤ x5_1
   rotate_left
   ·rw [if_neg c5] at H
    exact absurd H (by simp)
   rw [if_pos c5] at H
   have c5b0 : decide (0 ≤ x5_1) = true := decide_eq_true c5
   clear c5
   by_cases c6 : x5_1 < (l1.length : Int)
   rotate_left
   ·rw [if_neg c6] at H
    exact absurd H (by simp)
   rw [if_pos c6] at H
   have c6b0 : decide (x5_1 < (l1.length : Int)) = true := decide_eq_true c6
   clear c6
   replace H := Option.bind_eq_some_iff.mp H
   obtain ⟨t255, A70, H⟩ := H
   try dsimp only at H
   have A7 := Aside0.mk A70
   clear A70
   by_cases c8 : t255 = true
   rotate_left
   ·replace c8 := Bool.eq_false_iff.mpr c8
    subst c8
    rw [if_neg (show ¬ (false = true) by decide)] at H
    obtain rfl := Option.some.inj H
    try go_wp2
    replace HB := Aside0.mk (below_drew1 HB.out)
    have p253 : 0 ≤ (x5_1 : Int) := of_decide_eq_true zas
    have q253 : x5_1 < (l0.length : Int) := of_decide_eq_true zas
    obtain ⟨ad253, e253, hx253_0, hx253_1⟩ := at_T52 HR0.out x5_1 p253 q253
    have hw253_1 := hx253_1
    have hw253_0 := hx253_0
    cases e253
    replace hx253_0 := zx HB hx253_0
    replace hx253_1 := zx HB hx253_1
    replace p253 := eq_true p253
    replace q253 := eq_true q253
    have p254 : 0 ≤ (x5_1 : Int) := of_decide_eq_true zas
    have q254 : x5_1 < (l1.length : Int) := of_decide_eq_true zas
    obtain ⟨ad254, e254, hx254_0, hx254_1⟩ := at_T52 HR1.out x5_1 p254 q254
    have hw254_1 := hx254_1
    have hw254_0 := hx254_0
    cases e254
    replace hx254_0 := zx HB hx254_0
    replace hx254_1 := zx HB hx254_1
    replace p254 := eq_true p254
    replace q254 := eq_true q254
    refine start_ (n := 10) (S := fun w' => w'.cell? (ad253.add ((x5_1).toNat * 2)) = some (.string ((rd_T52 l0 x5_1).f0)) ∧ w'.cell? ⟨(ad253.add ((x5_1).toNat * 2)).block, (ad253.add ((x5_1).toNat * 2)).off + 1, none⟩ = some (.string ((rd_T52 l0 x5_1).f1)) ∧ w'.cell? (ad254.add ((x5_1).toNat * 2)) = some (.string ((rd_T52 l1 x5_1).f0)) ∧ w'.cell? ⟨(ad254.add ((x5_1).toNat * 2)).block, (ad254.add ((x5_1).toNat * 2)).off + 1, none⟩ = some (.string ((rd_T52 l1 x5_1).f1))) (ds := []) (fl11_ 10 0) (by kernel_rfl) rfl rfl ⟨(zxx HB hw253_0), (zxx HB hw253_1), (zxx HB hw254_0), (zxx HB hw254_1)⟩ (fun hHeld => ?_); refine with_tabW laws_eqSynonymS.tab6 laws_eqSynonymS.bits6 (fun HT_ HW_ => ?_)
    generalize wr.drew = w12 at HB hx253_0 hx253_1 hx254_0 hx254_1 hHeld ⊢
    refine zpu HT_ 0 17 (fl11_ 10 1) ?_
    refine zpu HT_ 1 18 (fl11_ 10 3) ?_
    refine zpu HT_ 2 19 (fl11_ 10 7) ?_
    refine zpu HT_ 4 21 (fl11_ 10 23) ?_
    refine zpu HT_ 5 22 (fl11_ 10 55) ?_
    refine zpu HT_ 6 23 (fl11_ 10 119) ?_
    refine take_ (i := 3) (N := some 20) (v := ?_) (a' := ?_) (fl11_ 10 127) rfl rfl (take_ofW HT_.out HW_.out (by kernel_rfl)) (fun _ _ _ h => h) (Or.inl ⟨by rfl, ?_⟩) hHeld ?_ ?_
    rotate_left
    ·rintro w' ⟨s0, s1, s2, s3⟩
     go_simp
     with_reducible rfl
    rotate_left
    ·simp only [Act.put, List.setIfInBounds_toArray, List.set_cons_zero, List.set_cons_succ, i64_w, i32_w]
     rfl
    refine take_ (i := 7) (N := some 24) (v := ?_) (a' := ?_) (fl11_ 10 255) rfl rfl (take_ofW HT_.out HW_.out (by kernel_rfl)) (fun _ _ _ h => h) (Or.inl ⟨by rfl, ?_⟩) hHeld ?_ ?_
    rotate_left
    ·rintro w' ⟨s0, s1, s2, s3⟩
     go_simp
     with_reducible rfl
    rotate_left
    ·simp only [Act.put, List.setIfInBounds_toArray, List.set_cons_zero, List.set_cons_succ, i64_w, i32_w]
     rfl
    refine one_ (i := 8) (N := some 25) (fl11_ 10 511) rfl rfl (one_of HT_.out (by kernel_rfl)) (by decide) (fun K hK => ?_)
    refine goes_ Tryd.func57 (by kernel_rfl) rfl #[.agg #[.string ((rd_T52 l0 x5_1).f0), .string ((rd_T52 l0 x5_1).f1)], .agg #[.string ((rd_T52 l1 x5_1).f0), .string ((rd_T52 l1 x5_1).f1)]] (by rfl) rfl rfl zar ?_
    with_reducible refine (laws_eqSynonym.calls ((rd_T52 l0 x5_1).f0) ((rd_T52 l0 x5_1).f1) ((rd_T52 l1 x5_1).f0) ((rd_T52 l1 x5_1).f1) false _ A7.out).mono ?_
    rintro e w13 ⟨rfl, hb⟩
    refine ⟨_, rfl, ?_⟩
    replace HB := Aside0.mk (below_step (zh HB) hb)
    (try clear hb)
    (try clear hb2)
    (try clear hk)
    (try clear hi)
    refine hK.out _ _ ⟨(zxx HB hw253_0), (zxx HB hw253_1), (zxx HB hw254_0), (zxx HB hw254_1)⟩ (fun hHeld => ?_)
    clear hK K
    refine norm_ (a' := ?_) ?_ ?_
    rotate_left
    ·show Act.put _ (some 25) _ = _
     simp only [Act.put, List.setIfInBounds_toArray, List.set_cons_zero, List.set_cons_succ, i64_w, i32_w]
     rfl
    refine zpu HT_ 9 26 (fl11_ 10 1023) ?_
    refine done_ (done_of HT_.out (by kernel_rfl)) ?_
    try go_wp2
    go_ret
    exact ⟨zre, zh HB⟩
   subst c8
   rw [if_pos rfl] at H
   have H' := Aside0.mk H
   clear H
   try go_wp2
   replace HB := Aside0.mk (below_drew1 HB.out)
   have p253 : 0 ≤ (x5_1 : Int) := of_decide_eq_true zas
   have q253 : x5_1 < (l0.length : Int) := of_decide_eq_true zas
   obtain ⟨ad253, e253, hx253_0, hx253_1⟩ := at_T52 HR0.out x5_1 p253 q253
   have hw253_1 := hx253_1
   have hw253_0 := hx253_0
   cases e253
   replace hx253_0 := zx HB hx253_0
   replace hx253_1 := zx HB hx253_1
   replace p253 := eq_true p253
   replace q253 := eq_true q253
   have p254 : 0 ≤ (x5_1 : Int) := of_decide_eq_true zas
   have q254 : x5_1 < (l1.length : Int) := of_decide_eq_true zas
   obtain ⟨ad254, e254, hx254_0, hx254_1⟩ := at_T52 HR1.out x5_1 p254 q254
   have hw254_1 := hx254_1
   have hw254_0 := hx254_0
   cases e254
   replace hx254_0 := zx HB hx254_0
   replace hx254_1 := zx HB hx254_1
   replace p254 := eq_true p254
   replace q254 := eq_true q254
   refine start_ (n := 10) (S := fun w' => w'.cell? (ad253.add ((x5_1).toNat * 2)) = some (.string ((rd_T52 l0 x5_1).f0)) ∧ w'.cell? ⟨(ad253.add ((x5_1).toNat * 2)).block, (ad253.add ((x5_1).toNat * 2)).off + 1, none⟩ = some (.string ((rd_T52 l0 x5_1).f1)) ∧ w'.cell? (ad254.add ((x5_1).toNat * 2)) = some (.string ((rd_T52 l1 x5_1).f0)) ∧ w'.cell? ⟨(ad254.add ((x5_1).toNat * 2)).block, (ad254.add ((x5_1).toNat * 2)).off + 1, none⟩ = some (.string ((rd_T52 l1 x5_1).f1))) (ds := []) (fl11_ 10 0) (by kernel_rfl) rfl rfl ⟨(zxx HB hw253_0), (zxx HB hw253_1), (zxx HB hw254_0), (zxx HB hw254_1)⟩ (fun hHeld => ?_); refine with_tabW laws_eqSynonymS.tab6 laws_eqSynonymS.bits6 (fun HT_ HW_ => ?_)
   generalize wr.drew = w9 at HB hx253_0 hx253_1 hx254_0 hx254_1 hHeld ⊢
   refine zpu HT_ 0 17 (fl11_ 10 1) ?_
   refine zpu HT_ 1 18 (fl11_ 10 3) ?_
   refine zpu HT_ 2 19 (fl11_ 10 7) ?_
   refine zpu HT_ 4 21 (fl11_ 10 23) ?_
   refine zpu HT_ 5 22 (fl11_ 10 55) ?_
   refine zpu HT_ 6 23 (fl11_ 10 119) ?_
   refine take_ (i := 3) (N := some 20) (v := ?_) (a' := ?_) (fl11_ 10 127) rfl rfl (take_ofW HT_.out HW_.out (by kernel_rfl)) (fun _ _ _ h => h) (Or.inl ⟨by rfl, ?_⟩) hHeld ?_ ?_
   rotate_left
   ·rintro w' ⟨s0, s1, s2, s3⟩
    go_simp
    with_reducible rfl
   rotate_left
   ·simp only [Act.put, List.setIfInBounds_toArray, List.set_cons_zero, List.set_cons_succ, i64_w, i32_w]
    rfl
   refine take_ (i := 7) (N := some 24) (v := ?_) (a' := ?_) (fl11_ 10 255) rfl rfl (take_ofW HT_.out HW_.out (by kernel_rfl)) (fun _ _ _ h => h) (Or.inl ⟨by rfl, ?_⟩) hHeld ?_ ?_
   rotate_left
   ·rintro w' ⟨s0, s1, s2, s3⟩
    go_simp
    with_reducible rfl
   rotate_left
   ·simp only [Act.put, List.setIfInBounds_toArray, List.set_cons_zero, List.set_cons_succ, i64_w, i32_w]
    rfl
   refine one_ (i := 8) (N := some 25) (fl11_ 10 511) rfl rfl (one_of HT_.out (by kernel_rfl)) (by decide) (fun K hK => ?_)
   refine goes_ Tryd.func57 (by kernel_rfl) rfl #[.agg #[.string ((rd_T52 l0 x5_1).f0), .string ((rd_T52 l0 x5_1).f1)], .agg #[.string ((rd_T52 l1 x5_1).f0), .string ((rd_T52 l1 x5_1).f1)]] (by rfl) rfl rfl zar ?_
   with_reducible refine (laws_eqSynonym.calls ((rd_T52 l0 x5_1).f0) ((rd_T52 l0 x5_1).f1) ((rd_T52 l1 x5_1).f0) ((rd_T52 l1 x5_1).f1) true _ A7.out).mono ?_
   rintro e w10 ⟨rfl, hb⟩
   refine ⟨_, rfl, ?_⟩
   replace HB := Aside0.mk (below_step (zh HB) hb)
   (try clear hb)
   (try clear hb2)
   (try clear hk)
   (try clear hi)
   refine hK.out _ _ ⟨(zxx HB hw253_0), (zxx HB hw253_1), (zxx HB hw254_0), (zxx HB hw254_1)⟩ (fun hHeld => ?_)
   clear hK K
   refine norm_ (a' := ?_) ?_ ?_
   rotate_left
   ·show Act.put _ (some 25) _ = _
    simp only [Act.put, List.setIfInBounds_toArray, List.set_cons_zero, List.set_cons_succ, i64_w, i32_w]
    rfl
   refine zpu HT_ 9 26 (fl11_ 10 1023) ?_
   refine done_ (done_of HT_.out (by kernel_rfl)) ?_
   try go_wp2
   go_roundg k1
   case measure => have := HK1.out; omega
   case rel => exact ⟨(wrap64 (x5_1 + 1)), zrs, H', ⟨by have := HK1.out; omega⟩, ⟨zh HB⟩⟩
/-! ### laws_eqAnalyzer: function 37 -/
def laws_eqAnalyzer.f (k : Nat) (a0_0 : Bool) (a0_1 : Bool) (a0_2 : Bool) (l0_3 : List ByteArray) (l0_4 : List (S52)) (a0_5 : Int) (a0_6 : Int) (a1_0 : Bool) (a1_1 : Bool) (a1_2 : Bool) (l1_3 : List ByteArray) (l1_4 : List (S52)) (a1_5 : Int) (a1_6 : Int) : Option (Bool) := if (a0_0 != a1_0) = true then (some false) else (if (a0_1 != a1_1) = true then (some false) else (if (a0_2 != a1_2) = true then (some false) else ((laws_eqStringS.f k l0_3 l1_3).bind fun t258 => (if t258 = true then ((laws_eqSynonymS.f k l0_4 l1_4).bind fun t259 => (if t259 = true then (if a0_5 = a1_5 then (if a0_6 = a1_6 then (some true) else (some false)) else (some false)) else (some false))) else (some false)))))
theorem laws_eqAnalyzer.mono : ∀ a0 a1 a2 a3 a4 a5 a6 a7 a8 a9 a10 a11 a12 a13 k, LeO (laws_eqAnalyzer.f k a0 a1 a2 a3 a4 a5 a6 a7 a8 a9 a10 a11 a12 a13) (laws_eqAnalyzer.f (k + 1) a0 a1 a2 a3 a4 a5 a6 a7 a8 a9 a10 a11 a12 a13) := by
 intro a0 a1 a2 a3 a4 a5 a6 a7 a8 a9 a10 a11 a12 a13 k
 unfold laws_eqAnalyzer.f
 repeat' first
  | (with_reducible exact laws_eqStringS.mono _ _ _)
  | (with_reducible exact laws_eqSynonymS.mono _ _ _)
  | (with_reducible exact LeO.refl _)
  | (with_reducible exact LeO.none _)
  | (with_reducible refine LeO.ite ?_ ?_)
  | (with_reducible refine LeO.bind ?_ (fun _ => ?_))
set_option maxHeartbeats 8000000 in
set_option maxRecDepth 100000 in
theorem laws_eqAnalyzer.calls (k : Nat) (a0_0 : Bool) (a0_1 : Bool) (a0_2 : Bool) (A0_3 : Option Addr) (c0_3 : Nat) (l0_3 : List ByteArray) (A0_4 : Option Addr) (c0_4 : Nat) (l0_4 : List (S52)) (a0_5 : Int) (a0_6 : Int) (a1_0 : Bool) (a1_1 : Bool) (a1_2 : Bool) (A1_3 : Option Addr) (c1_3 : Nat) (l1_3 : List ByteArray) (A1_4 : Option Addr) (c1_4 : Nat) (l1_4 : List (S52)) (a1_5 : Int) (a1_6 : Int) (r : Bool) (w : World) (hr0_3 : Kd.C Kd.string w A0_3 l0_3.length l0_3) (hc0_3 : l0_3.length ≤ c0_3) (hr0_4 : Kd.C k52 w A0_4 l0_4.length l0_4) (hc0_4 : l0_4.length ≤ c0_4) (hr1_3 : Kd.C Kd.string w A1_3 l1_3.length l1_3) (hc1_3 : l1_3.length ≤ c1_3) (hr1_4 : Kd.C k52 w A1_4 l1_4.length l1_4) (hc1_4 : l1_4.length ≤ c1_4) (h : laws_eqAnalyzer.f k a0_0 a0_1 a0_2 l0_3 l0_4 a0_5 a0_6 a1_0 a1_1 a1_2 l1_3 l1_4 a1_5 a1_6 = some r) :
 Calls Tryd.prog 37 #[.agg #[.bool a0_0, .bool a0_1, .bool a0_2, .slice A0_3 l0_3.length c0_3, .slice A0_4 l0_4.length c0_4, .int .i64 a0_5, .int .i64 a0_6], .agg #[.bool a1_0, .bool a1_1, .bool a1_2, .slice A1_3 l1_3.length c1_3, .slice A1_4 l1_4.length c1_4, .int .i64 a1_5, .int .i64 a1_6]] w fun e w' => e = .returned (.bool r) ∧ Below w.heap.size w w' := by
 have hu37 := Tryd.underlying37
 have HR0_3 := Aside0.mk hr0_3
 have HC0_3 := Aside0.mk hc0_3
 clear hr0_3 hc0_3
 have HR0_4 := Aside0.mk hr0_4
 have HC0_4 := Aside0.mk hc0_4
 clear hr0_4 hc0_4
 have HR1_3 := Aside0.mk hr1_3
 have HC1_3 := Aside0.mk hc1_3
 clear hr1_3 hc1_3
 have HR1_4 := Aside0.mk hr1_4
 have HC1_4 := Aside0.mk hc1_4
 clear hr1_4 hc1_4
 have HB := Aside0.mk (Below.refl w.heap.size w)
 have H := h
 unfold laws_eqAnalyzer.f at H
 clear h
 by_cases c3 : (a0_0 != a1_0) = true
 ·rw [if_pos c3] at H
  have c3b0 : (a0_0 != a1_0) = true := c3
  (try (have c3b1 : decide (a0_0 = a1_0) = false := by simpa using c3))
  (try (have c3b2 : (a0_0 == a1_0) = false := by simpa using c3))
  (try (have c3b3 : ¬ (a0_0 = a1_0) := by simpa using c3))
  clear c3
  obtain rfl := Option.some.inj H
  go_enter Tryd.func37, Tryd.ntmps37
  go_wp2_with (first | ((with_reducible refine gate_dst (N := 2) rfl ?_); refine box_event (by rfl) (N := 2) (by rfl) (cs := #[.bool a0_0, .bool a0_1, .bool a0_2, .slice A0_3 l0_3.length c0_3, .slice A0_4 l0_4.length c0_4, .int .i64 a0_5, .int .i64 a0_6]) (t := 37) zgs ?_; intro gb256 hg w4 hbox hb; have BK256 := Aside0.mk (hbox); have GW256 := zge hg (below_size (zh HB)); have GE256 := zge hg (below_size (zh HB)); replace HB := Aside0.mk (below_step (zh HB) hb); clear hb hbox hg) | ((with_reducible refine gate_dst (N := 3) rfl ?_); refine box_event (by rfl) (N := 3) (by rfl) (cs := #[.bool a1_0, .bool a1_1, .bool a1_2, .slice A1_3 l1_3.length c1_3, .slice A1_4 l1_4.length c1_4, .int .i64 a1_5, .int .i64 a1_6]) (t := 37) zgs ?_; intro gb257 hg w5 hbox hb; have BK257 := Aside0.mk (hbox); have GW257 := zge hg (below_size (zg HB)); have GE257 := zge hg (below_size (zg HB)); replace HB := Aside0.mk (below_step (zg HB) hb); have NB256_257 := znl hg (blk_lt (zb BK256)); have NB257_256 := zng hg (blk_lt (zb BK256)); replace BK256 := Aside0.mk (blk_below (zb BK256) hb); clear hb hbox hg; have hnb6 := NB256_257.out; have hnc6 := NB257_256.out; have hcz7_0 : w5.cell? ⟨gb256, 0, none⟩ = some (.bool a0_0) := (blk_cell BK256.out 0).trans rfl; have hcz7_1 : w5.cell? ⟨gb256, 1, none⟩ = some (.bool a0_1) := (blk_cell BK256.out 1).trans rfl; have hcz7_2 : w5.cell? ⟨gb256, 2, none⟩ = some (.bool a0_2) := (blk_cell BK256.out 2).trans rfl; have hcz7_3 : w5.cell? ⟨gb256, 3, none⟩ = some (.slice A0_3 l0_3.length c0_3) := (blk_cell BK256.out 3).trans rfl; have hcz7_4 : w5.cell? ⟨gb256, 4, none⟩ = some (.slice A0_4 l0_4.length c0_4) := (blk_cell BK256.out 4).trans rfl; have hcz7_5 : w5.cell? ⟨gb256, 5, none⟩ = some (.int .i64 a0_5) := (blk_cell BK256.out 5).trans rfl; have hcz7_6 : w5.cell? ⟨gb256, 6, none⟩ = some (.int .i64 a0_6) := (blk_cell BK256.out 6).trans rfl; have hfz7_0 := blk_frozen BK256.out 0; have hfz7_1 := blk_frozen BK256.out 1; have hfz7_2 := blk_frozen BK256.out 2; have hfz7_3 := blk_frozen BK256.out 3; have hfz7_4 := blk_frozen BK256.out 4; have hfz7_5 := blk_frozen BK256.out 5; have hfz7_6 := blk_frozen BK256.out 6; have hcz8_0 : w5.cell? ⟨gb257, 0, none⟩ = some (.bool a1_0) := (blk_cell BK257.out 0).trans rfl; have hcz8_1 : w5.cell? ⟨gb257, 1, none⟩ = some (.bool a1_1) := (blk_cell BK257.out 1).trans rfl; have hcz8_2 : w5.cell? ⟨gb257, 2, none⟩ = some (.bool a1_2) := (blk_cell BK257.out 2).trans rfl; have hcz8_3 : w5.cell? ⟨gb257, 3, none⟩ = some (.slice A1_3 l1_3.length c1_3) := (blk_cell BK257.out 3).trans rfl; have hcz8_4 : w5.cell? ⟨gb257, 4, none⟩ = some (.slice A1_4 l1_4.length c1_4) := (blk_cell BK257.out 4).trans rfl; have hcz8_5 : w5.cell? ⟨gb257, 5, none⟩ = some (.int .i64 a1_5) := (blk_cell BK257.out 5).trans rfl; have hcz8_6 : w5.cell? ⟨gb257, 6, none⟩ = some (.int .i64 a1_6) := (blk_cell BK257.out 6).trans rfl; have hfz8_0 := blk_frozen BK257.out 0; have hfz8_1 := blk_frozen BK257.out 1; have hfz8_2 := blk_frozen BK257.out 2; have hfz8_3 := blk_frozen BK257.out 3; have hfz8_4 := blk_frozen BK257.out 4; have hfz8_5 := blk_frozen BK257.out 5; have hfz8_6 := blk_frozen BK257.out 6))
  go_ret
  exact ⟨zre, zg HB⟩
 rw [if_neg c3] at H
 have c3b0 : (a0_0 != a1_0) = false := by simpa using c3
 (try (have c3b1 : decide (a0_0 = a1_0) = true := by simpa using c3))
 (try (have c3b2 : (a0_0 == a1_0) = true := by simpa using c3))
 clear c3
 by_cases c9 : (a0_1 != a1_1) = true
 ·rw [if_pos c9] at H
  have c9b0 : (a0_1 != a1_1) = true := c9
  (try (have c9b1 : decide (a0_1 = a1_1) = false := by simpa using c9))
  (try (have c9b2 : (a0_1 == a1_1) = false := by simpa using c9))
  (try (have c9b3 : ¬ (a0_1 = a1_1) := by simpa using c9))
  clear c9
  obtain rfl := Option.some.inj H
  go_enter Tryd.func37, Tryd.ntmps37
  go_wp2_with (first | ((with_reducible refine gate_dst (N := 2) rfl ?_); refine box_event (by rfl) (N := 2) (by rfl) (cs := #[.bool a0_0, .bool a0_1, .bool a0_2, .slice A0_3 l0_3.length c0_3, .slice A0_4 l0_4.length c0_4, .int .i64 a0_5, .int .i64 a0_6]) (t := 37) zgs ?_; intro gb256 hg w10 hbox hb; have BK256 := Aside0.mk (hbox); have GW256 := zge hg (below_size (zh HB)); have GE256 := zge hg (below_size (zh HB)); replace HB := Aside0.mk (below_step (zh HB) hb); clear hb hbox hg) | ((with_reducible refine gate_dst (N := 3) rfl ?_); refine box_event (by rfl) (N := 3) (by rfl) (cs := #[.bool a1_0, .bool a1_1, .bool a1_2, .slice A1_3 l1_3.length c1_3, .slice A1_4 l1_4.length c1_4, .int .i64 a1_5, .int .i64 a1_6]) (t := 37) zgs ?_; intro gb257 hg w11 hbox hb; have BK257 := Aside0.mk (hbox); have GW257 := zge hg (below_size (zg HB)); have GE257 := zge hg (below_size (zg HB)); replace HB := Aside0.mk (below_step (zg HB) hb); have NB256_257 := znl hg (blk_lt (zb BK256)); have NB257_256 := zng hg (blk_lt (zb BK256)); replace BK256 := Aside0.mk (blk_below (zb BK256) hb); clear hb hbox hg; have hnb12 := NB256_257.out; have hnc12 := NB257_256.out; have hcz13_0 : w11.cell? ⟨gb256, 0, none⟩ = some (.bool a0_0) := (blk_cell BK256.out 0).trans rfl; have hcz13_1 : w11.cell? ⟨gb256, 1, none⟩ = some (.bool a0_1) := (blk_cell BK256.out 1).trans rfl; have hcz13_2 : w11.cell? ⟨gb256, 2, none⟩ = some (.bool a0_2) := (blk_cell BK256.out 2).trans rfl; have hcz13_3 : w11.cell? ⟨gb256, 3, none⟩ = some (.slice A0_3 l0_3.length c0_3) := (blk_cell BK256.out 3).trans rfl; have hcz13_4 : w11.cell? ⟨gb256, 4, none⟩ = some (.slice A0_4 l0_4.length c0_4) := (blk_cell BK256.out 4).trans rfl; have hcz13_5 : w11.cell? ⟨gb256, 5, none⟩ = some (.int .i64 a0_5) := (blk_cell BK256.out 5).trans rfl; have hcz13_6 : w11.cell? ⟨gb256, 6, none⟩ = some (.int .i64 a0_6) := (blk_cell BK256.out 6).trans rfl; have hfz13_0 := blk_frozen BK256.out 0; have hfz13_1 := blk_frozen BK256.out 1; have hfz13_2 := blk_frozen BK256.out 2; have hfz13_3 := blk_frozen BK256.out 3; have hfz13_4 := blk_frozen BK256.out 4; have hfz13_5 := blk_frozen BK256.out 5; have hfz13_6 := blk_frozen BK256.out 6; have hcz14_0 : w11.cell? ⟨gb257, 0, none⟩ = some (.bool a1_0) := (blk_cell BK257.out 0).trans rfl; have hcz14_1 : w11.cell? ⟨gb257, 1, none⟩ = some (.bool a1_1) := (blk_cell BK257.out 1).trans rfl; have hcz14_2 : w11.cell? ⟨gb257, 2, none⟩ = some (.bool a1_2) := (blk_cell BK257.out 2).trans rfl; have hcz14_3 : w11.cell? ⟨gb257, 3, none⟩ = some (.slice A1_3 l1_3.length c1_3) := (blk_cell BK257.out 3).trans rfl; have hcz14_4 : w11.cell? ⟨gb257, 4, none⟩ = some (.slice A1_4 l1_4.length c1_4) := (blk_cell BK257.out 4).trans rfl; have hcz14_5 : w11.cell? ⟨gb257, 5, none⟩ = some (.int .i64 a1_5) := (blk_cell BK257.out 5).trans rfl; have hcz14_6 : w11.cell? ⟨gb257, 6, none⟩ = some (.int .i64 a1_6) := (blk_cell BK257.out 6).trans rfl; have hfz14_0 := blk_frozen BK257.out 0; have hfz14_1 := blk_frozen BK257.out 1; have hfz14_2 := blk_frozen BK257.out 2; have hfz14_3 := blk_frozen BK257.out 3; have hfz14_4 := blk_frozen BK257.out 4; have hfz14_5 := blk_frozen BK257.out 5; have hfz14_6 := blk_frozen BK257.out 6))
  go_ret
  exact ⟨zre, zg HB⟩
 rw [if_neg c9] at H
 have c9b0 : (a0_1 != a1_1) = false := by simpa using c9
 (try (have c9b1 : decide (a0_1 = a1_1) = true := by simpa using c9))
 (try (have c9b2 : (a0_1 == a1_1) = true := by simpa using c9))
 clear c9
 by_cases c15 : (a0_2 != a1_2) = true
 ·rw [if_pos c15] at H
  have c15b0 : (a0_2 != a1_2) = true := c15
  (try (have c15b1 : decide (a0_2 = a1_2) = false := by simpa using c15))
  (try (have c15b2 : (a0_2 == a1_2) = false := by simpa using c15))
  (try (have c15b3 : ¬ (a0_2 = a1_2) := by simpa using c15))
  clear c15
  obtain rfl := Option.some.inj H
  go_enter Tryd.func37, Tryd.ntmps37
  go_wp2_with (first | ((with_reducible refine gate_dst (N := 2) rfl ?_); refine box_event (by rfl) (N := 2) (by rfl) (cs := #[.bool a0_0, .bool a0_1, .bool a0_2, .slice A0_3 l0_3.length c0_3, .slice A0_4 l0_4.length c0_4, .int .i64 a0_5, .int .i64 a0_6]) (t := 37) zgs ?_; intro gb256 hg w16 hbox hb; have BK256 := Aside0.mk (hbox); have GW256 := zge hg (below_size (zh HB)); have GE256 := zge hg (below_size (zh HB)); replace HB := Aside0.mk (below_step (zh HB) hb); clear hb hbox hg) | ((with_reducible refine gate_dst (N := 3) rfl ?_); refine box_event (by rfl) (N := 3) (by rfl) (cs := #[.bool a1_0, .bool a1_1, .bool a1_2, .slice A1_3 l1_3.length c1_3, .slice A1_4 l1_4.length c1_4, .int .i64 a1_5, .int .i64 a1_6]) (t := 37) zgs ?_; intro gb257 hg w17 hbox hb; have BK257 := Aside0.mk (hbox); have GW257 := zge hg (below_size (zg HB)); have GE257 := zge hg (below_size (zg HB)); replace HB := Aside0.mk (below_step (zg HB) hb); have NB256_257 := znl hg (blk_lt (zb BK256)); have NB257_256 := zng hg (blk_lt (zb BK256)); replace BK256 := Aside0.mk (blk_below (zb BK256) hb); clear hb hbox hg; have hnb18 := NB256_257.out; have hnc18 := NB257_256.out; have hcz19_0 : w17.cell? ⟨gb256, 0, none⟩ = some (.bool a0_0) := (blk_cell BK256.out 0).trans rfl; have hcz19_1 : w17.cell? ⟨gb256, 1, none⟩ = some (.bool a0_1) := (blk_cell BK256.out 1).trans rfl; have hcz19_2 : w17.cell? ⟨gb256, 2, none⟩ = some (.bool a0_2) := (blk_cell BK256.out 2).trans rfl; have hcz19_3 : w17.cell? ⟨gb256, 3, none⟩ = some (.slice A0_3 l0_3.length c0_3) := (blk_cell BK256.out 3).trans rfl; have hcz19_4 : w17.cell? ⟨gb256, 4, none⟩ = some (.slice A0_4 l0_4.length c0_4) := (blk_cell BK256.out 4).trans rfl; have hcz19_5 : w17.cell? ⟨gb256, 5, none⟩ = some (.int .i64 a0_5) := (blk_cell BK256.out 5).trans rfl; have hcz19_6 : w17.cell? ⟨gb256, 6, none⟩ = some (.int .i64 a0_6) := (blk_cell BK256.out 6).trans rfl; have hfz19_0 := blk_frozen BK256.out 0; have hfz19_1 := blk_frozen BK256.out 1; have hfz19_2 := blk_frozen BK256.out 2; have hfz19_3 := blk_frozen BK256.out 3; have hfz19_4 := blk_frozen BK256.out 4; have hfz19_5 := blk_frozen BK256.out 5; have hfz19_6 := blk_frozen BK256.out 6; have hcz20_0 : w17.cell? ⟨gb257, 0, none⟩ = some (.bool a1_0) := (blk_cell BK257.out 0).trans rfl; have hcz20_1 : w17.cell? ⟨gb257, 1, none⟩ = some (.bool a1_1) := (blk_cell BK257.out 1).trans rfl; have hcz20_2 : w17.cell? ⟨gb257, 2, none⟩ = some (.bool a1_2) := (blk_cell BK257.out 2).trans rfl; have hcz20_3 : w17.cell? ⟨gb257, 3, none⟩ = some (.slice A1_3 l1_3.length c1_3) := (blk_cell BK257.out 3).trans rfl; have hcz20_4 : w17.cell? ⟨gb257, 4, none⟩ = some (.slice A1_4 l1_4.length c1_4) := (blk_cell BK257.out 4).trans rfl; have hcz20_5 : w17.cell? ⟨gb257, 5, none⟩ = some (.int .i64 a1_5) := (blk_cell BK257.out 5).trans rfl; have hcz20_6 : w17.cell? ⟨gb257, 6, none⟩ = some (.int .i64 a1_6) := (blk_cell BK257.out 6).trans rfl; have hfz20_0 := blk_frozen BK257.out 0; have hfz20_1 := blk_frozen BK257.out 1; have hfz20_2 := blk_frozen BK257.out 2; have hfz20_3 := blk_frozen BK257.out 3; have hfz20_4 := blk_frozen BK257.out 4; have hfz20_5 := blk_frozen BK257.out 5; have hfz20_6 := blk_frozen BK257.out 6))
  go_ret
  exact ⟨zre, zg HB⟩
 rw [if_neg c15] at H
 have c15b0 : (a0_2 != a1_2) = false := by simpa using c15
 (try (have c15b1 : decide (a0_2 = a1_2) = true := by simpa using c15))
 (try (have c15b2 : (a0_2 == a1_2) = true := by simpa using c15))
 clear c15
 replace H := Option.bind_eq_some_iff.mp H
 obtain ⟨t258, A210, H⟩ := H
 try dsimp only at H
 have A21 := Aside0.mk A210
 clear A210
 by_cases c22 : t258 = true
 rotate_left
 ·replace c22 := Bool.eq_false_iff.mpr c22
  subst c22
  rw [if_neg (show ¬ (false = true) by decide)] at H
  obtain rfl := Option.some.inj H
  go_enter Tryd.func37, Tryd.ntmps37
  go_wp2_with (first | ((with_reducible refine gate_dst (N := 2) rfl ?_); refine box_event (by rfl) (N := 2) (by rfl) (cs := #[.bool a0_0, .bool a0_1, .bool a0_2, .slice A0_3 l0_3.length c0_3, .slice A0_4 l0_4.length c0_4, .int .i64 a0_5, .int .i64 a0_6]) (t := 37) zgs ?_; intro gb256 hg w61 hbox hb; have BK256 := Aside0.mk (hbox); have GW256 := zge hg (below_size (zh HB)); have GE256 := zge hg (below_size (zh HB)); replace HB := Aside0.mk (below_step (zh HB) hb); clear hb hbox hg) | ((with_reducible refine gate_dst (N := 3) rfl ?_); refine box_event (by rfl) (N := 3) (by rfl) (cs := #[.bool a1_0, .bool a1_1, .bool a1_2, .slice A1_3 l1_3.length c1_3, .slice A1_4 l1_4.length c1_4, .int .i64 a1_5, .int .i64 a1_6]) (t := 37) zgs ?_; intro gb257 hg w62 hbox hb; have BK257 := Aside0.mk (hbox); have GW257 := zge hg (below_size (zg HB)); have GE257 := zge hg (below_size (zg HB)); replace HB := Aside0.mk (below_step (zg HB) hb); have NB256_257 := znl hg (blk_lt (zb BK256)); have NB257_256 := zng hg (blk_lt (zb BK256)); replace BK256 := Aside0.mk (blk_below (zb BK256) hb); clear hb hbox hg; have hnb63 := NB256_257.out; have hnc63 := NB257_256.out; have hcz64_0 : w62.cell? ⟨gb256, 0, none⟩ = some (.bool a0_0) := (blk_cell BK256.out 0).trans rfl; have hcz64_1 : w62.cell? ⟨gb256, 1, none⟩ = some (.bool a0_1) := (blk_cell BK256.out 1).trans rfl; have hcz64_2 : w62.cell? ⟨gb256, 2, none⟩ = some (.bool a0_2) := (blk_cell BK256.out 2).trans rfl; have hcz64_3 : w62.cell? ⟨gb256, 3, none⟩ = some (.slice A0_3 l0_3.length c0_3) := (blk_cell BK256.out 3).trans rfl; have hcz64_4 : w62.cell? ⟨gb256, 4, none⟩ = some (.slice A0_4 l0_4.length c0_4) := (blk_cell BK256.out 4).trans rfl; have hcz64_5 : w62.cell? ⟨gb256, 5, none⟩ = some (.int .i64 a0_5) := (blk_cell BK256.out 5).trans rfl; have hcz64_6 : w62.cell? ⟨gb256, 6, none⟩ = some (.int .i64 a0_6) := (blk_cell BK256.out 6).trans rfl; have hfz64_0 := blk_frozen BK256.out 0; have hfz64_1 := blk_frozen BK256.out 1; have hfz64_2 := blk_frozen BK256.out 2; have hfz64_3 := blk_frozen BK256.out 3; have hfz64_4 := blk_frozen BK256.out 4; have hfz64_5 := blk_frozen BK256.out 5; have hfz64_6 := blk_frozen BK256.out 6; have hcz65_0 : w62.cell? ⟨gb257, 0, none⟩ = some (.bool a1_0) := (blk_cell BK257.out 0).trans rfl; have hcz65_1 : w62.cell? ⟨gb257, 1, none⟩ = some (.bool a1_1) := (blk_cell BK257.out 1).trans rfl; have hcz65_2 : w62.cell? ⟨gb257, 2, none⟩ = some (.bool a1_2) := (blk_cell BK257.out 2).trans rfl; have hcz65_3 : w62.cell? ⟨gb257, 3, none⟩ = some (.slice A1_3 l1_3.length c1_3) := (blk_cell BK257.out 3).trans rfl; have hcz65_4 : w62.cell? ⟨gb257, 4, none⟩ = some (.slice A1_4 l1_4.length c1_4) := (blk_cell BK257.out 4).trans rfl; have hcz65_5 : w62.cell? ⟨gb257, 5, none⟩ = some (.int .i64 a1_5) := (blk_cell BK257.out 5).trans rfl; have hcz65_6 : w62.cell? ⟨gb257, 6, none⟩ = some (.int .i64 a1_6) := (blk_cell BK257.out 6).trans rfl; have hfz65_0 := blk_frozen BK257.out 0; have hfz65_1 := blk_frozen BK257.out 1; have hfz65_2 := blk_frozen BK257.out 2; have hfz65_3 := blk_frozen BK257.out 3; have hfz65_4 := blk_frozen BK257.out 4; have hfz65_5 := blk_frozen BK257.out 5; have hfz65_6 := blk_frozen BK257.out 6) | ((with_reducible refine gate_callee (f := 48) rfl ?_); refine goesL_ (some 24) rfl rfl Tryd.func48 (by kernel_rfl) rfl #[.slice A0_3 l0_3.length c0_3, .slice A1_3 l1_3.length c1_3] rfl zar ?_; (with_reducible refine (laws_eqStringS.calls k _ _ l0_3 _ _ l1_3 false _ ?side1 ?side2 ?side3 ?side4 A21.out).mono ?_); (case side1 => exact zC (Kd.C_below HR0_3.out HB.out)); (case side2 => exact HC0_3.out); (case side3 => exact zC (Kd.C_below HR1_3.out HB.out)); (case side4 => exact HC1_3.out); rintro e w' ⟨rfl, ⟨nd, rfl⟩⟩; refine ⟨_, rfl, ?_⟩))
  go_ret
  exact ⟨zre, zg HB⟩

 subst c22
 rw [if_pos rfl] at H
 replace H := Option.bind_eq_some_iff.mp H
 obtain ⟨t259, A230, H⟩ := H
 try dsimp only at H
 have A23 := Aside0.mk A230
 clear A230
 by_cases c24 : t259 = true
 rotate_left
 ·replace c24 := Bool.eq_false_iff.mpr c24
  subst c24
  rw [if_neg (show ¬ (false = true) by decide)] at H
  obtain rfl := Option.some.inj H
  go_enter Tryd.func37, Tryd.ntmps37
  go_wp2_with (first | ((with_reducible refine gate_dst (N := 2) rfl ?_); refine box_event (by rfl) (N := 2) (by rfl) (cs := #[.bool a0_0, .bool a0_1, .bool a0_2, .slice A0_3 l0_3.length c0_3, .slice A0_4 l0_4.length c0_4, .int .i64 a0_5, .int .i64 a0_6]) (t := 37) zgs ?_; intro gb256 hg w54 hbox hb; have BK256 := Aside0.mk (hbox); have GW256 := zge hg (below_size (zh HB)); have GE256 := zge hg (below_size (zh HB)); replace HB := Aside0.mk (below_step (zh HB) hb); clear hb hbox hg) | ((with_reducible refine gate_dst (N := 3) rfl ?_); refine box_event (by rfl) (N := 3) (by rfl) (cs := #[.bool a1_0, .bool a1_1, .bool a1_2, .slice A1_3 l1_3.length c1_3, .slice A1_4 l1_4.length c1_4, .int .i64 a1_5, .int .i64 a1_6]) (t := 37) zgs ?_; intro gb257 hg w55 hbox hb; have BK257 := Aside0.mk (hbox); have GW257 := zge hg (below_size (zg HB)); have GE257 := zge hg (below_size (zg HB)); replace HB := Aside0.mk (below_step (zg HB) hb); have NB256_257 := znl hg (blk_lt (zb BK256)); have NB257_256 := zng hg (blk_lt (zb BK256)); replace BK256 := Aside0.mk (blk_below (zb BK256) hb); clear hb hbox hg; have hnb56 := NB256_257.out; have hnc56 := NB257_256.out; have hcz57_0 : w55.cell? ⟨gb256, 0, none⟩ = some (.bool a0_0) := (blk_cell BK256.out 0).trans rfl; have hcz57_1 : w55.cell? ⟨gb256, 1, none⟩ = some (.bool a0_1) := (blk_cell BK256.out 1).trans rfl; have hcz57_2 : w55.cell? ⟨gb256, 2, none⟩ = some (.bool a0_2) := (blk_cell BK256.out 2).trans rfl; have hcz57_3 : w55.cell? ⟨gb256, 3, none⟩ = some (.slice A0_3 l0_3.length c0_3) := (blk_cell BK256.out 3).trans rfl; have hcz57_4 : w55.cell? ⟨gb256, 4, none⟩ = some (.slice A0_4 l0_4.length c0_4) := (blk_cell BK256.out 4).trans rfl; have hcz57_5 : w55.cell? ⟨gb256, 5, none⟩ = some (.int .i64 a0_5) := (blk_cell BK256.out 5).trans rfl; have hcz57_6 : w55.cell? ⟨gb256, 6, none⟩ = some (.int .i64 a0_6) := (blk_cell BK256.out 6).trans rfl; have hfz57_0 := blk_frozen BK256.out 0; have hfz57_1 := blk_frozen BK256.out 1; have hfz57_2 := blk_frozen BK256.out 2; have hfz57_3 := blk_frozen BK256.out 3; have hfz57_4 := blk_frozen BK256.out 4; have hfz57_5 := blk_frozen BK256.out 5; have hfz57_6 := blk_frozen BK256.out 6; have hcz58_0 : w55.cell? ⟨gb257, 0, none⟩ = some (.bool a1_0) := (blk_cell BK257.out 0).trans rfl; have hcz58_1 : w55.cell? ⟨gb257, 1, none⟩ = some (.bool a1_1) := (blk_cell BK257.out 1).trans rfl; have hcz58_2 : w55.cell? ⟨gb257, 2, none⟩ = some (.bool a1_2) := (blk_cell BK257.out 2).trans rfl; have hcz58_3 : w55.cell? ⟨gb257, 3, none⟩ = some (.slice A1_3 l1_3.length c1_3) := (blk_cell BK257.out 3).trans rfl; have hcz58_4 : w55.cell? ⟨gb257, 4, none⟩ = some (.slice A1_4 l1_4.length c1_4) := (blk_cell BK257.out 4).trans rfl; have hcz58_5 : w55.cell? ⟨gb257, 5, none⟩ = some (.int .i64 a1_5) := (blk_cell BK257.out 5).trans rfl; have hcz58_6 : w55.cell? ⟨gb257, 6, none⟩ = some (.int .i64 a1_6) := (blk_cell BK257.out 6).trans rfl; have hfz58_0 := blk_frozen BK257.out 0; have hfz58_1 := blk_frozen BK257.out 1; have hfz58_2 := blk_frozen BK257.out 2; have hfz58_3 := blk_frozen BK257.out 3; have hfz58_4 := blk_frozen BK257.out 4; have hfz58_5 := blk_frozen BK257.out 5; have hfz58_6 := blk_frozen BK257.out 6) | ((with_reducible refine gate_callee (f := 48) rfl ?_); refine goesL_ (some 24) rfl rfl Tryd.func48 (by kernel_rfl) rfl #[.slice A0_3 l0_3.length c0_3, .slice A1_3 l1_3.length c1_3] rfl zar ?_; (with_reducible refine (laws_eqStringS.calls k _ _ l0_3 _ _ l1_3 true _ ?side1 ?side2 ?side3 ?side4 A21.out).mono ?_); (case side1 => exact zC (Kd.C_below HR0_3.out HB.out)); (case side2 => exact HC0_3.out); (case side3 => exact zC (Kd.C_below HR1_3.out HB.out)); (case side4 => exact HC1_3.out); rintro e w' ⟨rfl, ⟨nd, rfl⟩⟩; refine ⟨_, rfl, ?_⟩) | ((with_reducible refine gate_callee (f := 49) rfl ?_); refine goesL_ (some 30) rfl rfl Tryd.func49 (by kernel_rfl) rfl #[.slice A0_4 l0_4.length c0_4, .slice A1_4 l1_4.length c1_4] rfl zar ?_; (with_reducible refine (laws_eqSynonymS.calls k _ _ l0_4 _ _ l1_4 false _ ?side1 ?side2 ?side3 ?side4 A23.out).mono ?_); (case side1 => exact zC (Kd.C_below HR0_4.out (zg HB))); (case side2 => exact HC0_4.out); (case side3 => exact zC (Kd.C_below HR1_4.out (zg HB))); (case side4 => exact HC1_4.out); rintro e w59 ⟨rfl, hb⟩; refine ⟨_, rfl, ?_⟩; replace BK256 := Aside0.mk (blk_below (zb BK256) hb); replace BK257 := Aside0.mk (blk_below (zb BK257) hb); replace HB := Aside0.mk (below_step (zg HB) hb); (try clear hb); (try clear hb2); (try clear hk); (try clear hi)))
  go_ret
  exact ⟨zre, zg HB⟩
 subst c24
 rw [if_pos rfl] at H
 by_cases c25 : a0_5 = a1_5
 rotate_left
 ·rw [if_neg c25] at H
  have c25b0 : (a0_5 == a1_5) = false := beq_eq_false_iff_ne.mpr c25
  have c25b1 : (a0_5 != a1_5) = true := bne_iff_ne.mpr c25
  obtain rfl := Option.some.inj H
  go_enter Tryd.func37, Tryd.ntmps37
  go_wp2_with (first | ((with_reducible refine gate_dst (N := 2) rfl ?_); refine box_event (by rfl) (N := 2) (by rfl) (cs := #[.bool a0_0, .bool a0_1, .bool a0_2, .slice A0_3 l0_3.length c0_3, .slice A0_4 l0_4.length c0_4, .int .i64 a0_5, .int .i64 a0_6]) (t := 37) zgs ?_; intro gb256 hg w45 hbox hb; have BK256 := Aside0.mk (hbox); have GW256 := zge hg (below_size (zh HB)); have GE256 := zge hg (below_size (zh HB)); replace HB := Aside0.mk (below_step (zh HB) hb); clear hb hbox hg) | ((with_reducible refine gate_dst (N := 3) rfl ?_); refine box_event (by rfl) (N := 3) (by rfl) (cs := #[.bool a1_0, .bool a1_1, .bool a1_2, .slice A1_3 l1_3.length c1_3, .slice A1_4 l1_4.length c1_4, .int .i64 a1_5, .int .i64 a1_6]) (t := 37) zgs ?_; intro gb257 hg w46 hbox hb; have BK257 := Aside0.mk (hbox); have GW257 := zge hg (below_size (zg HB)); have GE257 := zge hg (below_size (zg HB)); replace HB := Aside0.mk (below_step (zg HB) hb); have NB256_257 := znl hg (blk_lt (zb BK256)); have NB257_256 := zng hg (blk_lt (zb BK256)); replace BK256 := Aside0.mk (blk_below (zb BK256) hb); clear hb hbox hg; have hnb47 := NB256_257.out; have hnc47 := NB257_256.out; have hcz48_0 : w46.cell? ⟨gb256, 0, none⟩ = some (.bool a0_0) := (blk_cell BK256.out 0).trans rfl; have hcz48_1 : w46.cell? ⟨gb256, 1, none⟩ = some (.bool a0_1) := (blk_cell BK256.out 1).trans rfl; have hcz48_2 : w46.cell? ⟨gb256, 2, none⟩ = some (.bool a0_2) := (blk_cell BK256.out 2).trans rfl; have hcz48_3 : w46.cell? ⟨gb256, 3, none⟩ = some (.slice A0_3 l0_3.length c0_3) := (blk_cell BK256.out 3).trans rfl; have hcz48_4 : w46.cell? ⟨gb256, 4, none⟩ = some (.slice A0_4 l0_4.length c0_4) := (blk_cell BK256.out 4).trans rfl; have hcz48_5 : w46.cell? ⟨gb256, 5, none⟩ = some (.int .i64 a0_5) := (blk_cell BK256.out 5).trans rfl; have hcz48_6 : w46.cell? ⟨gb256, 6, none⟩ = some (.int .i64 a0_6) := (blk_cell BK256.out 6).trans rfl; have hfz48_0 := blk_frozen BK256.out 0; have hfz48_1 := blk_frozen BK256.out 1; have hfz48_2 := blk_frozen BK256.out 2; have hfz48_3 := blk_frozen BK256.out 3; have hfz48_4 := blk_frozen BK256.out 4; have hfz48_5 := blk_frozen BK256.out 5; have hfz48_6 := blk_frozen BK256.out 6; have hcz49_0 : w46.cell? ⟨gb257, 0, none⟩ = some (.bool a1_0) := (blk_cell BK257.out 0).trans rfl; have hcz49_1 : w46.cell? ⟨gb257, 1, none⟩ = some (.bool a1_1) := (blk_cell BK257.out 1).trans rfl; have hcz49_2 : w46.cell? ⟨gb257, 2, none⟩ = some (.bool a1_2) := (blk_cell BK257.out 2).trans rfl; have hcz49_3 : w46.cell? ⟨gb257, 3, none⟩ = some (.slice A1_3 l1_3.length c1_3) := (blk_cell BK257.out 3).trans rfl; have hcz49_4 : w46.cell? ⟨gb257, 4, none⟩ = some (.slice A1_4 l1_4.length c1_4) := (blk_cell BK257.out 4).trans rfl; have hcz49_5 : w46.cell? ⟨gb257, 5, none⟩ = some (.int .i64 a1_5) := (blk_cell BK257.out 5).trans rfl; have hcz49_6 : w46.cell? ⟨gb257, 6, none⟩ = some (.int .i64 a1_6) := (blk_cell BK257.out 6).trans rfl; have hfz49_0 := blk_frozen BK257.out 0; have hfz49_1 := blk_frozen BK257.out 1; have hfz49_2 := blk_frozen BK257.out 2; have hfz49_3 := blk_frozen BK257.out 3; have hfz49_4 := blk_frozen BK257.out 4; have hfz49_5 := blk_frozen BK257.out 5; have hfz49_6 := blk_frozen BK257.out 6) | ((with_reducible refine gate_callee (f := 48) rfl ?_); refine goesL_ (some 24) rfl rfl Tryd.func48 (by kernel_rfl) rfl #[.slice A0_3 l0_3.length c0_3, .slice A1_3 l1_3.length c1_3] rfl zar ?_; (with_reducible refine (laws_eqStringS.calls k _ _ l0_3 _ _ l1_3 true _ ?side1 ?side2 ?side3 ?side4 A21.out).mono ?_); (case side1 => exact zC (Kd.C_below HR0_3.out HB.out)); (case side2 => exact HC0_3.out); (case side3 => exact zC (Kd.C_below HR1_3.out HB.out)); (case side4 => exact HC1_3.out); rintro e w' ⟨rfl, ⟨nd, rfl⟩⟩; refine ⟨_, rfl, ?_⟩) | ((with_reducible refine gate_callee (f := 49) rfl ?_); refine goesL_ (some 30) rfl rfl Tryd.func49 (by kernel_rfl) rfl #[.slice A0_4 l0_4.length c0_4, .slice A1_4 l1_4.length c1_4] rfl zar ?_; (with_reducible refine (laws_eqSynonymS.calls k _ _ l0_4 _ _ l1_4 true _ ?side1 ?side2 ?side3 ?side4 A23.out).mono ?_); (case side1 => exact zC (Kd.C_below HR0_4.out (zg HB))); (case side2 => exact HC0_4.out); (case side3 => exact zC (Kd.C_below HR1_4.out (zg HB))); (case side4 => exact HC1_4.out); rintro e w50 ⟨rfl, hb⟩; refine ⟨_, rfl, ?_⟩; replace BK256 := Aside0.mk (blk_below (zb BK256) hb); replace BK257 := Aside0.mk (blk_below (zb BK257) hb); replace HB := Aside0.mk (below_step (zg HB) hb); (try clear hb); (try clear hb2); (try clear hk); (try clear hi); have hcz52_0 : w50.cell? ⟨gb256, 0, none⟩ = some (.bool a0_0) := (blk_cell BK256.out 0).trans rfl; have hcz52_1 : w50.cell? ⟨gb256, 1, none⟩ = some (.bool a0_1) := (blk_cell BK256.out 1).trans rfl; have hcz52_2 : w50.cell? ⟨gb256, 2, none⟩ = some (.bool a0_2) := (blk_cell BK256.out 2).trans rfl; have hcz52_3 : w50.cell? ⟨gb256, 3, none⟩ = some (.slice A0_3 l0_3.length c0_3) := (blk_cell BK256.out 3).trans rfl; have hcz52_4 : w50.cell? ⟨gb256, 4, none⟩ = some (.slice A0_4 l0_4.length c0_4) := (blk_cell BK256.out 4).trans rfl; have hcz52_5 : w50.cell? ⟨gb256, 5, none⟩ = some (.int .i64 a0_5) := (blk_cell BK256.out 5).trans rfl; have hcz52_6 : w50.cell? ⟨gb256, 6, none⟩ = some (.int .i64 a0_6) := (blk_cell BK256.out 6).trans rfl; have hfz52_0 := blk_frozen BK256.out 0; have hfz52_1 := blk_frozen BK256.out 1; have hfz52_2 := blk_frozen BK256.out 2; have hfz52_3 := blk_frozen BK256.out 3; have hfz52_4 := blk_frozen BK256.out 4; have hfz52_5 := blk_frozen BK256.out 5; have hfz52_6 := blk_frozen BK256.out 6; have hcz53_0 : w50.cell? ⟨gb257, 0, none⟩ = some (.bool a1_0) := (blk_cell BK257.out 0).trans rfl; have hcz53_1 : w50.cell? ⟨gb257, 1, none⟩ = some (.bool a1_1) := (blk_cell BK257.out 1).trans rfl; have hcz53_2 : w50.cell? ⟨gb257, 2, none⟩ = some (.bool a1_2) := (blk_cell BK257.out 2).trans rfl; have hcz53_3 : w50.cell? ⟨gb257, 3, none⟩ = some (.slice A1_3 l1_3.length c1_3) := (blk_cell BK257.out 3).trans rfl; have hcz53_4 : w50.cell? ⟨gb257, 4, none⟩ = some (.slice A1_4 l1_4.length c1_4) := (blk_cell BK257.out 4).trans rfl; have hcz53_5 : w50.cell? ⟨gb257, 5, none⟩ = some (.int .i64 a1_5) := (blk_cell BK257.out 5).trans rfl; have hcz53_6 : w50.cell? ⟨gb257, 6, none⟩ = some (.int .i64 a1_6) := (blk_cell BK257.out 6).trans rfl; have hfz53_0 := blk_frozen BK257.out 0; have hfz53_1 := blk_frozen BK257.out 1; have hfz53_2 := blk_frozen BK257.out 2; have hfz53_3 := blk_frozen BK257.out 3; have hfz53_4 := blk_frozen BK257.out 4; have hfz53_5 := blk_frozen BK257.out 5; have hfz53_6 := blk_frozen BK257.out 6))
  go_ret
  exact ⟨zre, zg HB⟩
 rw [if_pos c25] at H
 have c25b0 : (a0_5 == a1_5) = true := beq_iff_eq.mpr c25
 have c25b1 : (a0_5 != a1_5) = false := bne_eq_false_iff_eq.mpr c25
 clear c25
 by_cases c26 : a0_6 = a1_6
 rotate_left
 ·rw [if_neg c26] at H
  have c26b0 : (a0_6 == a1_6) = false := beq_eq_false_iff_ne.mpr c26
  have c26b1 : (a0_6 != a1_6) = true := bne_iff_ne.mpr c26
  obtain rfl := Option.some.inj H
  go_enter Tryd.func37, Tryd.ntmps37
  go_wp2_with (first | ((with_reducible refine gate_dst (N := 2) rfl ?_); refine box_event (by rfl) (N := 2) (by rfl) (cs := #[.bool a0_0, .bool a0_1, .bool a0_2, .slice A0_3 l0_3.length c0_3, .slice A0_4 l0_4.length c0_4, .int .i64 a0_5, .int .i64 a0_6]) (t := 37) zgs ?_; intro gb256 hg w36 hbox hb; have BK256 := Aside0.mk (hbox); have GW256 := zge hg (below_size (zh HB)); have GE256 := zge hg (below_size (zh HB)); replace HB := Aside0.mk (below_step (zh HB) hb); clear hb hbox hg) | ((with_reducible refine gate_dst (N := 3) rfl ?_); refine box_event (by rfl) (N := 3) (by rfl) (cs := #[.bool a1_0, .bool a1_1, .bool a1_2, .slice A1_3 l1_3.length c1_3, .slice A1_4 l1_4.length c1_4, .int .i64 a1_5, .int .i64 a1_6]) (t := 37) zgs ?_; intro gb257 hg w37 hbox hb; have BK257 := Aside0.mk (hbox); have GW257 := zge hg (below_size (zg HB)); have GE257 := zge hg (below_size (zg HB)); replace HB := Aside0.mk (below_step (zg HB) hb); have NB256_257 := znl hg (blk_lt (zb BK256)); have NB257_256 := zng hg (blk_lt (zb BK256)); replace BK256 := Aside0.mk (blk_below (zb BK256) hb); clear hb hbox hg; have hnb38 := NB256_257.out; have hnc38 := NB257_256.out; have hcz39_0 : w37.cell? ⟨gb256, 0, none⟩ = some (.bool a0_0) := (blk_cell BK256.out 0).trans rfl; have hcz39_1 : w37.cell? ⟨gb256, 1, none⟩ = some (.bool a0_1) := (blk_cell BK256.out 1).trans rfl; have hcz39_2 : w37.cell? ⟨gb256, 2, none⟩ = some (.bool a0_2) := (blk_cell BK256.out 2).trans rfl; have hcz39_3 : w37.cell? ⟨gb256, 3, none⟩ = some (.slice A0_3 l0_3.length c0_3) := (blk_cell BK256.out 3).trans rfl; have hcz39_4 : w37.cell? ⟨gb256, 4, none⟩ = some (.slice A0_4 l0_4.length c0_4) := (blk_cell BK256.out 4).trans rfl; have hcz39_5 : w37.cell? ⟨gb256, 5, none⟩ = some (.int .i64 a0_5) := (blk_cell BK256.out 5).trans rfl; have hcz39_6 : w37.cell? ⟨gb256, 6, none⟩ = some (.int .i64 a0_6) := (blk_cell BK256.out 6).trans rfl; have hfz39_0 := blk_frozen BK256.out 0; have hfz39_1 := blk_frozen BK256.out 1; have hfz39_2 := blk_frozen BK256.out 2; have hfz39_3 := blk_frozen BK256.out 3; have hfz39_4 := blk_frozen BK256.out 4; have hfz39_5 := blk_frozen BK256.out 5; have hfz39_6 := blk_frozen BK256.out 6; have hcz40_0 : w37.cell? ⟨gb257, 0, none⟩ = some (.bool a1_0) := (blk_cell BK257.out 0).trans rfl; have hcz40_1 : w37.cell? ⟨gb257, 1, none⟩ = some (.bool a1_1) := (blk_cell BK257.out 1).trans rfl; have hcz40_2 : w37.cell? ⟨gb257, 2, none⟩ = some (.bool a1_2) := (blk_cell BK257.out 2).trans rfl; have hcz40_3 : w37.cell? ⟨gb257, 3, none⟩ = some (.slice A1_3 l1_3.length c1_3) := (blk_cell BK257.out 3).trans rfl; have hcz40_4 : w37.cell? ⟨gb257, 4, none⟩ = some (.slice A1_4 l1_4.length c1_4) := (blk_cell BK257.out 4).trans rfl; have hcz40_5 : w37.cell? ⟨gb257, 5, none⟩ = some (.int .i64 a1_5) := (blk_cell BK257.out 5).trans rfl; have hcz40_6 : w37.cell? ⟨gb257, 6, none⟩ = some (.int .i64 a1_6) := (blk_cell BK257.out 6).trans rfl; have hfz40_0 := blk_frozen BK257.out 0; have hfz40_1 := blk_frozen BK257.out 1; have hfz40_2 := blk_frozen BK257.out 2; have hfz40_3 := blk_frozen BK257.out 3; have hfz40_4 := blk_frozen BK257.out 4; have hfz40_5 := blk_frozen BK257.out 5; have hfz40_6 := blk_frozen BK257.out 6) | ((with_reducible refine gate_callee (f := 48) rfl ?_); refine goesL_ (some 24) rfl rfl Tryd.func48 (by kernel_rfl) rfl #[.slice A0_3 l0_3.length c0_3, .slice A1_3 l1_3.length c1_3] rfl zar ?_; (with_reducible refine (laws_eqStringS.calls k _ _ l0_3 _ _ l1_3 true _ ?side1 ?side2 ?side3 ?side4 A21.out).mono ?_); (case side1 => exact zC (Kd.C_below HR0_3.out HB.out)); (case side2 => exact HC0_3.out); (case side3 => exact zC (Kd.C_below HR1_3.out HB.out)); (case side4 => exact HC1_3.out); rintro e w' ⟨rfl, ⟨nd, rfl⟩⟩; refine ⟨_, rfl, ?_⟩) | ((with_reducible refine gate_callee (f := 49) rfl ?_); refine goesL_ (some 30) rfl rfl Tryd.func49 (by kernel_rfl) rfl #[.slice A0_4 l0_4.length c0_4, .slice A1_4 l1_4.length c1_4] rfl zar ?_; (with_reducible refine (laws_eqSynonymS.calls k _ _ l0_4 _ _ l1_4 true _ ?side1 ?side2 ?side3 ?side4 A23.out).mono ?_); (case side1 => exact zC (Kd.C_below HR0_4.out (zg HB))); (case side2 => exact HC0_4.out); (case side3 => exact zC (Kd.C_below HR1_4.out (zg HB))); (case side4 => exact HC1_4.out); rintro e w41 ⟨rfl, hb⟩; refine ⟨_, rfl, ?_⟩; replace BK256 := Aside0.mk (blk_below (zb BK256) hb); replace BK257 := Aside0.mk (blk_below (zb BK257) hb); replace HB := Aside0.mk (below_step (zg HB) hb); (try clear hb); (try clear hb2); (try clear hk); (try clear hi); have hcz43_0 : w41.cell? ⟨gb256, 0, none⟩ = some (.bool a0_0) := (blk_cell BK256.out 0).trans rfl; have hcz43_1 : w41.cell? ⟨gb256, 1, none⟩ = some (.bool a0_1) := (blk_cell BK256.out 1).trans rfl; have hcz43_2 : w41.cell? ⟨gb256, 2, none⟩ = some (.bool a0_2) := (blk_cell BK256.out 2).trans rfl; have hcz43_3 : w41.cell? ⟨gb256, 3, none⟩ = some (.slice A0_3 l0_3.length c0_3) := (blk_cell BK256.out 3).trans rfl; have hcz43_4 : w41.cell? ⟨gb256, 4, none⟩ = some (.slice A0_4 l0_4.length c0_4) := (blk_cell BK256.out 4).trans rfl; have hcz43_5 : w41.cell? ⟨gb256, 5, none⟩ = some (.int .i64 a0_5) := (blk_cell BK256.out 5).trans rfl; have hcz43_6 : w41.cell? ⟨gb256, 6, none⟩ = some (.int .i64 a0_6) := (blk_cell BK256.out 6).trans rfl; have hfz43_0 := blk_frozen BK256.out 0; have hfz43_1 := blk_frozen BK256.out 1; have hfz43_2 := blk_frozen BK256.out 2; have hfz43_3 := blk_frozen BK256.out 3; have hfz43_4 := blk_frozen BK256.out 4; have hfz43_5 := blk_frozen BK256.out 5; have hfz43_6 := blk_frozen BK256.out 6; have hcz44_0 : w41.cell? ⟨gb257, 0, none⟩ = some (.bool a1_0) := (blk_cell BK257.out 0).trans rfl; have hcz44_1 : w41.cell? ⟨gb257, 1, none⟩ = some (.bool a1_1) := (blk_cell BK257.out 1).trans rfl; have hcz44_2 : w41.cell? ⟨gb257, 2, none⟩ = some (.bool a1_2) := (blk_cell BK257.out 2).trans rfl; have hcz44_3 : w41.cell? ⟨gb257, 3, none⟩ = some (.slice A1_3 l1_3.length c1_3) := (blk_cell BK257.out 3).trans rfl; have hcz44_4 : w41.cell? ⟨gb257, 4, none⟩ = some (.slice A1_4 l1_4.length c1_4) := (blk_cell BK257.out 4).trans rfl; have hcz44_5 : w41.cell? ⟨gb257, 5, none⟩ = some (.int .i64 a1_5) := (blk_cell BK257.out 5).trans rfl; have hcz44_6 : w41.cell? ⟨gb257, 6, none⟩ = some (.int .i64 a1_6) := (blk_cell BK257.out 6).trans rfl; have hfz44_0 := blk_frozen BK257.out 0; have hfz44_1 := blk_frozen BK257.out 1; have hfz44_2 := blk_frozen BK257.out 2; have hfz44_3 := blk_frozen BK257.out 3; have hfz44_4 := blk_frozen BK257.out 4; have hfz44_5 := blk_frozen BK257.out 5; have hfz44_6 := blk_frozen BK257.out 6))
  go_ret
  exact ⟨zre, zg HB⟩
 rw [if_pos c26] at H
 have c26b0 : (a0_6 == a1_6) = true := beq_iff_eq.mpr c26
 have c26b1 : (a0_6 != a1_6) = false := bne_eq_false_iff_eq.mpr c26
 clear c26
 obtain rfl := Option.some.inj H
 go_enter Tryd.func37, Tryd.ntmps37
 go_wp2_with (first | ((with_reducible refine gate_dst (N := 2) rfl ?_); refine box_event (by rfl) (N := 2) (by rfl) (cs := #[.bool a0_0, .bool a0_1, .bool a0_2, .slice A0_3 l0_3.length c0_3, .slice A0_4 l0_4.length c0_4, .int .i64 a0_5, .int .i64 a0_6]) (t := 37) zgs ?_; intro gb256 hg w27 hbox hb; have BK256 := Aside0.mk (hbox); have GW256 := zge hg (below_size (zh HB)); have GE256 := zge hg (below_size (zh HB)); replace HB := Aside0.mk (below_step (zh HB) hb); clear hb hbox hg) | ((with_reducible refine gate_dst (N := 3) rfl ?_); refine box_event (by rfl) (N := 3) (by rfl) (cs := #[.bool a1_0, .bool a1_1, .bool a1_2, .slice A1_3 l1_3.length c1_3, .slice A1_4 l1_4.length c1_4, .int .i64 a1_5, .int .i64 a1_6]) (t := 37) zgs ?_; intro gb257 hg w28 hbox hb; have BK257 := Aside0.mk (hbox); have GW257 := zge hg (below_size (zg HB)); have GE257 := zge hg (below_size (zg HB)); replace HB := Aside0.mk (below_step (zg HB) hb); have NB256_257 := znl hg (blk_lt (zb BK256)); have NB257_256 := zng hg (blk_lt (zb BK256)); replace BK256 := Aside0.mk (blk_below (zb BK256) hb); clear hb hbox hg; have hnb29 := NB256_257.out; have hnc29 := NB257_256.out; have hcz30_0 : w28.cell? ⟨gb256, 0, none⟩ = some (.bool a0_0) := (blk_cell BK256.out 0).trans rfl; have hcz30_1 : w28.cell? ⟨gb256, 1, none⟩ = some (.bool a0_1) := (blk_cell BK256.out 1).trans rfl; have hcz30_2 : w28.cell? ⟨gb256, 2, none⟩ = some (.bool a0_2) := (blk_cell BK256.out 2).trans rfl; have hcz30_3 : w28.cell? ⟨gb256, 3, none⟩ = some (.slice A0_3 l0_3.length c0_3) := (blk_cell BK256.out 3).trans rfl; have hcz30_4 : w28.cell? ⟨gb256, 4, none⟩ = some (.slice A0_4 l0_4.length c0_4) := (blk_cell BK256.out 4).trans rfl; have hcz30_5 : w28.cell? ⟨gb256, 5, none⟩ = some (.int .i64 a0_5) := (blk_cell BK256.out 5).trans rfl; have hcz30_6 : w28.cell? ⟨gb256, 6, none⟩ = some (.int .i64 a0_6) := (blk_cell BK256.out 6).trans rfl; have hfz30_0 := blk_frozen BK256.out 0; have hfz30_1 := blk_frozen BK256.out 1; have hfz30_2 := blk_frozen BK256.out 2; have hfz30_3 := blk_frozen BK256.out 3; have hfz30_4 := blk_frozen BK256.out 4; have hfz30_5 := blk_frozen BK256.out 5; have hfz30_6 := blk_frozen BK256.out 6; have hcz31_0 : w28.cell? ⟨gb257, 0, none⟩ = some (.bool a1_0) := (blk_cell BK257.out 0).trans rfl; have hcz31_1 : w28.cell? ⟨gb257, 1, none⟩ = some (.bool a1_1) := (blk_cell BK257.out 1).trans rfl; have hcz31_2 : w28.cell? ⟨gb257, 2, none⟩ = some (.bool a1_2) := (blk_cell BK257.out 2).trans rfl; have hcz31_3 : w28.cell? ⟨gb257, 3, none⟩ = some (.slice A1_3 l1_3.length c1_3) := (blk_cell BK257.out 3).trans rfl; have hcz31_4 : w28.cell? ⟨gb257, 4, none⟩ = some (.slice A1_4 l1_4.length c1_4) := (blk_cell BK257.out 4).trans rfl; have hcz31_5 : w28.cell? ⟨gb257, 5, none⟩ = some (.int .i64 a1_5) := (blk_cell BK257.out 5).trans rfl; have hcz31_6 : w28.cell? ⟨gb257, 6, none⟩ = some (.int .i64 a1_6) := (blk_cell BK257.out 6).trans rfl; have hfz31_0 := blk_frozen BK257.out 0; have hfz31_1 := blk_frozen BK257.out 1; have hfz31_2 := blk_frozen BK257.out 2; have hfz31_3 := blk_frozen BK257.out 3; have hfz31_4 := blk_frozen BK257.out 4; have hfz31_5 := blk_frozen BK257.out 5; have hfz31_6 := blk_frozen BK257.out 6) | ((with_reducible refine gate_callee (f := 48) rfl ?_); refine goesL_ (some 24) rfl rfl Tryd.func48 (by kernel_rfl) rfl #[.slice A0_3 l0_3.length c0_3, .slice A1_3 l1_3.length c1_3] rfl zar ?_; (with_reducible refine (laws_eqStringS.calls k _ _ l0_3 _ _ l1_3 true _ ?side1 ?side2 ?side3 ?side4 A21.out).mono ?_); (case side1 => exact zC (Kd.C_below HR0_3.out HB.out)); (case side2 => exact HC0_3.out); (case side3 => exact zC (Kd.C_below HR1_3.out HB.out)); (case side4 => exact HC1_3.out); rintro e w' ⟨rfl, ⟨nd, rfl⟩⟩; refine ⟨_, rfl, ?_⟩) | ((with_reducible refine gate_callee (f := 49) rfl ?_); refine goesL_ (some 30) rfl rfl Tryd.func49 (by kernel_rfl) rfl #[.slice A0_4 l0_4.length c0_4, .slice A1_4 l1_4.length c1_4] rfl zar ?_; (with_reducible refine (laws_eqSynonymS.calls k _ _ l0_4 _ _ l1_4 true _ ?side1 ?side2 ?side3 ?side4 A23.out).mono ?_); (case side1 => exact zC (Kd.C_below HR0_4.out (zg HB))); (case side2 => exact HC0_4.out); (case side3 => exact zC (Kd.C_below HR1_4.out (zg HB))); (case side4 => exact HC1_4.out); rintro e w32 ⟨rfl, hb⟩; refine ⟨_, rfl, ?_⟩; replace BK256 := Aside0.mk (blk_below (zb BK256) hb); replace BK257 := Aside0.mk (blk_below (zb BK257) hb); replace HB := Aside0.mk (below_step (zg HB) hb); (try clear hb); (try clear hb2); (try clear hk); (try clear hi); have hcz34_0 : w32.cell? ⟨gb256, 0, none⟩ = some (.bool a0_0) := (blk_cell BK256.out 0).trans rfl; have hcz34_1 : w32.cell? ⟨gb256, 1, none⟩ = some (.bool a0_1) := (blk_cell BK256.out 1).trans rfl; have hcz34_2 : w32.cell? ⟨gb256, 2, none⟩ = some (.bool a0_2) := (blk_cell BK256.out 2).trans rfl; have hcz34_3 : w32.cell? ⟨gb256, 3, none⟩ = some (.slice A0_3 l0_3.length c0_3) := (blk_cell BK256.out 3).trans rfl; have hcz34_4 : w32.cell? ⟨gb256, 4, none⟩ = some (.slice A0_4 l0_4.length c0_4) := (blk_cell BK256.out 4).trans rfl; have hcz34_5 : w32.cell? ⟨gb256, 5, none⟩ = some (.int .i64 a0_5) := (blk_cell BK256.out 5).trans rfl; have hcz34_6 : w32.cell? ⟨gb256, 6, none⟩ = some (.int .i64 a0_6) := (blk_cell BK256.out 6).trans rfl; have hfz34_0 := blk_frozen BK256.out 0; have hfz34_1 := blk_frozen BK256.out 1; have hfz34_2 := blk_frozen BK256.out 2; have hfz34_3 := blk_frozen BK256.out 3; have hfz34_4 := blk_frozen BK256.out 4; have hfz34_5 := blk_frozen BK256.out 5; have hfz34_6 := blk_frozen BK256.out 6; have hcz35_0 : w32.cell? ⟨gb257, 0, none⟩ = some (.bool a1_0) := (blk_cell BK257.out 0).trans rfl; have hcz35_1 : w32.cell? ⟨gb257, 1, none⟩ = some (.bool a1_1) := (blk_cell BK257.out 1).trans rfl; have hcz35_2 : w32.cell? ⟨gb257, 2, none⟩ = some (.bool a1_2) := (blk_cell BK257.out 2).trans rfl; have hcz35_3 : w32.cell? ⟨gb257, 3, none⟩ = some (.slice A1_3 l1_3.length c1_3) := (blk_cell BK257.out 3).trans rfl; have hcz35_4 : w32.cell? ⟨gb257, 4, none⟩ = some (.slice A1_4 l1_4.length c1_4) := (blk_cell BK257.out 4).trans rfl; have hcz35_5 : w32.cell? ⟨gb257, 5, none⟩ = some (.int .i64 a1_5) := (blk_cell BK257.out 5).trans rfl; have hcz35_6 : w32.cell? ⟨gb257, 6, none⟩ = some (.int .i64 a1_6) := (blk_cell BK257.out 6).trans rfl; have hfz35_0 := blk_frozen BK257.out 0; have hfz35_1 := blk_frozen BK257.out 1; have hfz35_2 := blk_frozen BK257.out 2; have hfz35_3 := blk_frozen BK257.out 3; have hfz35_4 := blk_frozen BK257.out 4; have hfz35_5 := blk_frozen BK257.out 5; have hfz35_6 := blk_frozen BK257.out 6))
 go_ret
 exact ⟨zre, zg HB⟩
/-! ### laws_eqFieldDef: function 25 -/
def laws_eqFieldDef.f (k : Nat) (a0_0 : ByteArray) (a0_1 : Int) (a0_2 : Bool) (a0_3 : Bool) (a0_4 : Bool) (l0_5 : List ByteArray) (l0_6 : List (S52)) (a0_7 : Int) (a0_8 : Int) (a1_0 : ByteArray) (a1_1 : Int) (a1_2 : Bool) (a1_3 : Bool) (a1_4 : Bool) (l1_5 : List ByteArray) (l1_6 : List (S52)) (a1_7 : Int) (a1_8 : Int) : Option (Bool) := if a0_0.toList = a1_0.toList then (if a0_1 = a1_1 then ((laws_eqAnalyzer.f k a0_2 a0_3 a0_4 l0_5 l0_6 a0_7 a0_8 a1_2 a1_3 a1_4 l1_5 l1_6 a1_7 a1_8).bind fun t262 => (if t262 = true then (some true) else (some false))) else (some false)) else (some false)
theorem laws_eqFieldDef.mono : ∀ a0 a1 a2 a3 a4 a5 a6 a7 a8 a9 a10 a11 a12 a13 a14 a15 a16 a17 k, LeO (laws_eqFieldDef.f k a0 a1 a2 a3 a4 a5 a6 a7 a8 a9 a10 a11 a12 a13 a14 a15 a16 a17) (laws_eqFieldDef.f (k + 1) a0 a1 a2 a3 a4 a5 a6 a7 a8 a9 a10 a11 a12 a13 a14 a15 a16 a17) := by
 intro a0 a1 a2 a3 a4 a5 a6 a7 a8 a9 a10 a11 a12 a13 a14 a15 a16 a17 k
 unfold laws_eqFieldDef.f
 repeat' first
  | (with_reducible exact laws_eqAnalyzer.mono _ _ _ _ _ _ _ _ _ _ _ _ _ _ _)
  | (with_reducible exact LeO.refl _)
  | (with_reducible exact LeO.none _)
  | (with_reducible refine LeO.ite ?_ ?_)
  | (with_reducible refine LeO.bind ?_ (fun _ => ?_))
set_option maxHeartbeats 8000000 in
set_option maxRecDepth 100000 in
theorem laws_eqFieldDef.calls (k : Nat) (a0_0 : ByteArray) (a0_1 : Int) (a0_2 : Bool) (a0_3 : Bool) (a0_4 : Bool) (A0_5 : Option Addr) (c0_5 : Nat) (l0_5 : List ByteArray) (A0_6 : Option Addr) (c0_6 : Nat) (l0_6 : List (S52)) (a0_7 : Int) (a0_8 : Int) (a1_0 : ByteArray) (a1_1 : Int) (a1_2 : Bool) (a1_3 : Bool) (a1_4 : Bool) (A1_5 : Option Addr) (c1_5 : Nat) (l1_5 : List ByteArray) (A1_6 : Option Addr) (c1_6 : Nat) (l1_6 : List (S52)) (a1_7 : Int) (a1_8 : Int) (r : Bool) (w : World) (hr0_5 : Kd.C Kd.string w A0_5 l0_5.length l0_5) (hc0_5 : l0_5.length ≤ c0_5) (hr0_6 : Kd.C k52 w A0_6 l0_6.length l0_6) (hc0_6 : l0_6.length ≤ c0_6) (hr1_5 : Kd.C Kd.string w A1_5 l1_5.length l1_5) (hc1_5 : l1_5.length ≤ c1_5) (hr1_6 : Kd.C k52 w A1_6 l1_6.length l1_6) (hc1_6 : l1_6.length ≤ c1_6) (h : laws_eqFieldDef.f k a0_0 a0_1 a0_2 a0_3 a0_4 l0_5 l0_6 a0_7 a0_8 a1_0 a1_1 a1_2 a1_3 a1_4 l1_5 l1_6 a1_7 a1_8 = some r) :
 Calls Tryd.prog 25 #[.agg #[.string a0_0, .int .i64 a0_1, .bool a0_2, .bool a0_3, .bool a0_4, .slice A0_5 l0_5.length c0_5, .slice A0_6 l0_6.length c0_6, .int .i64 a0_7, .int .i64 a0_8], .agg #[.string a1_0, .int .i64 a1_1, .bool a1_2, .bool a1_3, .bool a1_4, .slice A1_5 l1_5.length c1_5, .slice A1_6 l1_6.length c1_6, .int .i64 a1_7, .int .i64 a1_8]] w fun e w' => e = .returned (.bool r) ∧ Below w.heap.size w w' := by
 have hu39 := Tryd.underlying39
 have hu37 := Tryd.underlying37
 have HR0_5 := Aside0.mk hr0_5
 have HC0_5 := Aside0.mk hc0_5
 clear hr0_5 hc0_5
 have HR0_6 := Aside0.mk hr0_6
 have HC0_6 := Aside0.mk hc0_6
 clear hr0_6 hc0_6
 have HR1_5 := Aside0.mk hr1_5
 have HC1_5 := Aside0.mk hc1_5
 clear hr1_5 hc1_5
 have HR1_6 := Aside0.mk hr1_6
 have HC1_6 := Aside0.mk hc1_6
 clear hr1_6 hc1_6
 have HB := Aside0.mk (Below.refl w.heap.size w)
 have H := h
 unfold laws_eqFieldDef.f at H
 clear h
 by_cases c3 : a0_0.toList = a1_0.toList
 rotate_left
 ·rw [if_neg c3] at H
  have c3b0 : (a0_0.toList == a1_0.toList) = false := beq_eq_false_iff_ne.mpr c3
  have c3b1 : (a0_0.toList != a1_0.toList) = true := bne_iff_ne.mpr c3
  obtain rfl := Option.some.inj H
  go_enter Tryd.func25, Tryd.ntmps25
  go_wp2_with (first | ((with_reducible refine gate_dst (N := 2) rfl ?_); refine box_event (by rfl) (N := 2) (by rfl) (cs := #[.string a0_0, .int .i64 a0_1, .bool a0_2, .bool a0_3, .bool a0_4, .slice A0_5 l0_5.length c0_5, .slice A0_6 l0_6.length c0_6, .int .i64 a0_7, .int .i64 a0_8]) (t := 39) zgs ?_; intro gb260 hg w26 hbox hb; have BK260 := Aside0.mk (hbox); have GW260 := zge hg (below_size (zh HB)); have GE260 := zge hg (below_size (zh HB)); replace HB := Aside0.mk (below_step (zh HB) hb); clear hb hbox hg) | ((with_reducible refine gate_dst (N := 3) rfl ?_); refine box_event (by rfl) (N := 3) (by rfl) (cs := #[.string a1_0, .int .i64 a1_1, .bool a1_2, .bool a1_3, .bool a1_4, .slice A1_5 l1_5.length c1_5, .slice A1_6 l1_6.length c1_6, .int .i64 a1_7, .int .i64 a1_8]) (t := 39) zgs ?_; intro gb261 hg w27 hbox hb; have BK261 := Aside0.mk (hbox); have GW261 := zge hg (below_size (zg HB)); have GE261 := zge hg (below_size (zg HB)); replace HB := Aside0.mk (below_step (zg HB) hb); have NB260_261 := znl hg (blk_lt (zb BK260)); have NB261_260 := zng hg (blk_lt (zb BK260)); replace BK260 := Aside0.mk (blk_below (zb BK260) hb); clear hb hbox hg; have hnb28 := NB260_261.out; have hnc28 := NB261_260.out; have hcz29_0 : w27.cell? ⟨gb260, 0, none⟩ = some (.string a0_0) := (blk_cell BK260.out 0).trans rfl; have hcz29_1 : w27.cell? ⟨gb260, 1, none⟩ = some (.int .i64 a0_1) := (blk_cell BK260.out 1).trans rfl; have hcz29_2 : w27.cell? ⟨gb260, 2, none⟩ = some (.bool a0_2) := (blk_cell BK260.out 2).trans rfl; have hcz29_3 : w27.cell? ⟨gb260, 3, none⟩ = some (.bool a0_3) := (blk_cell BK260.out 3).trans rfl; have hcz29_4 : w27.cell? ⟨gb260, 4, none⟩ = some (.bool a0_4) := (blk_cell BK260.out 4).trans rfl; have hcz29_5 : w27.cell? ⟨gb260, 5, none⟩ = some (.slice A0_5 l0_5.length c0_5) := (blk_cell BK260.out 5).trans rfl; have hcz29_6 : w27.cell? ⟨gb260, 6, none⟩ = some (.slice A0_6 l0_6.length c0_6) := (blk_cell BK260.out 6).trans rfl; have hcz29_7 : w27.cell? ⟨gb260, 7, none⟩ = some (.int .i64 a0_7) := (blk_cell BK260.out 7).trans rfl; have hcz29_8 : w27.cell? ⟨gb260, 8, none⟩ = some (.int .i64 a0_8) := (blk_cell BK260.out 8).trans rfl; have hfz29_0 := blk_frozen BK260.out 0; have hfz29_1 := blk_frozen BK260.out 1; have hfz29_2 := blk_frozen BK260.out 2; have hfz29_3 := blk_frozen BK260.out 3; have hfz29_4 := blk_frozen BK260.out 4; have hfz29_5 := blk_frozen BK260.out 5; have hfz29_6 := blk_frozen BK260.out 6; have hfz29_7 := blk_frozen BK260.out 7; have hfz29_8 := blk_frozen BK260.out 8; have hcz30_0 : w27.cell? ⟨gb261, 0, none⟩ = some (.string a1_0) := (blk_cell BK261.out 0).trans rfl; have hcz30_1 : w27.cell? ⟨gb261, 1, none⟩ = some (.int .i64 a1_1) := (blk_cell BK261.out 1).trans rfl; have hcz30_2 : w27.cell? ⟨gb261, 2, none⟩ = some (.bool a1_2) := (blk_cell BK261.out 2).trans rfl; have hcz30_3 : w27.cell? ⟨gb261, 3, none⟩ = some (.bool a1_3) := (blk_cell BK261.out 3).trans rfl; have hcz30_4 : w27.cell? ⟨gb261, 4, none⟩ = some (.bool a1_4) := (blk_cell BK261.out 4).trans rfl; have hcz30_5 : w27.cell? ⟨gb261, 5, none⟩ = some (.slice A1_5 l1_5.length c1_5) := (blk_cell BK261.out 5).trans rfl; have hcz30_6 : w27.cell? ⟨gb261, 6, none⟩ = some (.slice A1_6 l1_6.length c1_6) := (blk_cell BK261.out 6).trans rfl; have hcz30_7 : w27.cell? ⟨gb261, 7, none⟩ = some (.int .i64 a1_7) := (blk_cell BK261.out 7).trans rfl; have hcz30_8 : w27.cell? ⟨gb261, 8, none⟩ = some (.int .i64 a1_8) := (blk_cell BK261.out 8).trans rfl; have hfz30_0 := blk_frozen BK261.out 0; have hfz30_1 := blk_frozen BK261.out 1; have hfz30_2 := blk_frozen BK261.out 2; have hfz30_3 := blk_frozen BK261.out 3; have hfz30_4 := blk_frozen BK261.out 4; have hfz30_5 := blk_frozen BK261.out 5; have hfz30_6 := blk_frozen BK261.out 6; have hfz30_7 := blk_frozen BK261.out 7; have hfz30_8 := blk_frozen BK261.out 8))
  go_ret
  exact ⟨zre, zg HB⟩

 rw [if_pos c3] at H
 have c3b0 : (a0_0.toList == a1_0.toList) = true := beq_iff_eq.mpr c3
 have c3b1 : (a0_0.toList != a1_0.toList) = false := bne_eq_false_iff_eq.mpr c3
 clear c3
 by_cases c4 : a0_1 = a1_1
 rotate_left
 ·rw [if_neg c4] at H
  have c4b0 : (a0_1 == a1_1) = false := beq_eq_false_iff_ne.mpr c4
  have c4b1 : (a0_1 != a1_1) = true := bne_iff_ne.mpr c4
  obtain rfl := Option.some.inj H
  go_enter Tryd.func25, Tryd.ntmps25
  go_wp2_with (first | ((with_reducible refine gate_dst (N := 2) rfl ?_); refine box_event (by rfl) (N := 2) (by rfl) (cs := #[.string a0_0, .int .i64 a0_1, .bool a0_2, .bool a0_3, .bool a0_4, .slice A0_5 l0_5.length c0_5, .slice A0_6 l0_6.length c0_6, .int .i64 a0_7, .int .i64 a0_8]) (t := 39) zgs ?_; intro gb260 hg w21 hbox hb; have BK260 := Aside0.mk (hbox); have GW260 := zge hg (below_size (zh HB)); have GE260 := zge hg (below_size (zh HB)); replace HB := Aside0.mk (below_step (zh HB) hb); clear hb hbox hg) | ((with_reducible refine gate_dst (N := 3) rfl ?_); refine box_event (by rfl) (N := 3) (by rfl) (cs := #[.string a1_0, .int .i64 a1_1, .bool a1_2, .bool a1_3, .bool a1_4, .slice A1_5 l1_5.length c1_5, .slice A1_6 l1_6.length c1_6, .int .i64 a1_7, .int .i64 a1_8]) (t := 39) zgs ?_; intro gb261 hg w22 hbox hb; have BK261 := Aside0.mk (hbox); have GW261 := zge hg (below_size (zg HB)); have GE261 := zge hg (below_size (zg HB)); replace HB := Aside0.mk (below_step (zg HB) hb); have NB260_261 := znl hg (blk_lt (zb BK260)); have NB261_260 := zng hg (blk_lt (zb BK260)); replace BK260 := Aside0.mk (blk_below (zb BK260) hb); clear hb hbox hg; have hnb23 := NB260_261.out; have hnc23 := NB261_260.out; have hcz24_0 : w22.cell? ⟨gb260, 0, none⟩ = some (.string a0_0) := (blk_cell BK260.out 0).trans rfl; have hcz24_1 : w22.cell? ⟨gb260, 1, none⟩ = some (.int .i64 a0_1) := (blk_cell BK260.out 1).trans rfl; have hcz24_2 : w22.cell? ⟨gb260, 2, none⟩ = some (.bool a0_2) := (blk_cell BK260.out 2).trans rfl; have hcz24_3 : w22.cell? ⟨gb260, 3, none⟩ = some (.bool a0_3) := (blk_cell BK260.out 3).trans rfl; have hcz24_4 : w22.cell? ⟨gb260, 4, none⟩ = some (.bool a0_4) := (blk_cell BK260.out 4).trans rfl; have hcz24_5 : w22.cell? ⟨gb260, 5, none⟩ = some (.slice A0_5 l0_5.length c0_5) := (blk_cell BK260.out 5).trans rfl; have hcz24_6 : w22.cell? ⟨gb260, 6, none⟩ = some (.slice A0_6 l0_6.length c0_6) := (blk_cell BK260.out 6).trans rfl; have hcz24_7 : w22.cell? ⟨gb260, 7, none⟩ = some (.int .i64 a0_7) := (blk_cell BK260.out 7).trans rfl; have hcz24_8 : w22.cell? ⟨gb260, 8, none⟩ = some (.int .i64 a0_8) := (blk_cell BK260.out 8).trans rfl; have hfz24_0 := blk_frozen BK260.out 0; have hfz24_1 := blk_frozen BK260.out 1; have hfz24_2 := blk_frozen BK260.out 2; have hfz24_3 := blk_frozen BK260.out 3; have hfz24_4 := blk_frozen BK260.out 4; have hfz24_5 := blk_frozen BK260.out 5; have hfz24_6 := blk_frozen BK260.out 6; have hfz24_7 := blk_frozen BK260.out 7; have hfz24_8 := blk_frozen BK260.out 8; have hcz25_0 : w22.cell? ⟨gb261, 0, none⟩ = some (.string a1_0) := (blk_cell BK261.out 0).trans rfl; have hcz25_1 : w22.cell? ⟨gb261, 1, none⟩ = some (.int .i64 a1_1) := (blk_cell BK261.out 1).trans rfl; have hcz25_2 : w22.cell? ⟨gb261, 2, none⟩ = some (.bool a1_2) := (blk_cell BK261.out 2).trans rfl; have hcz25_3 : w22.cell? ⟨gb261, 3, none⟩ = some (.bool a1_3) := (blk_cell BK261.out 3).trans rfl; have hcz25_4 : w22.cell? ⟨gb261, 4, none⟩ = some (.bool a1_4) := (blk_cell BK261.out 4).trans rfl; have hcz25_5 : w22.cell? ⟨gb261, 5, none⟩ = some (.slice A1_5 l1_5.length c1_5) := (blk_cell BK261.out 5).trans rfl; have hcz25_6 : w22.cell? ⟨gb261, 6, none⟩ = some (.slice A1_6 l1_6.length c1_6) := (blk_cell BK261.out 6).trans rfl; have hcz25_7 : w22.cell? ⟨gb261, 7, none⟩ = some (.int .i64 a1_7) := (blk_cell BK261.out 7).trans rfl; have hcz25_8 : w22.cell? ⟨gb261, 8, none⟩ = some (.int .i64 a1_8) := (blk_cell BK261.out 8).trans rfl; have hfz25_0 := blk_frozen BK261.out 0; have hfz25_1 := blk_frozen BK261.out 1; have hfz25_2 := blk_frozen BK261.out 2; have hfz25_3 := blk_frozen BK261.out 3; have hfz25_4 := blk_frozen BK261.out 4; have hfz25_5 := blk_frozen BK261.out 5; have hfz25_6 := blk_frozen BK261.out 6; have hfz25_7 := blk_frozen BK261.out 7; have hfz25_8 := blk_frozen BK261.out 8))
  go_ret
  exact ⟨zre, zg HB⟩
 rw [if_pos c4] at H
 have c4b0 : (a0_1 == a1_1) = true := beq_iff_eq.mpr c4
 have c4b1 : (a0_1 != a1_1) = false := bne_eq_false_iff_eq.mpr c4
 clear c4
 replace H := Option.bind_eq_some_iff.mp H
 obtain ⟨t262, A50, H⟩ := H
 try dsimp only at H
 have A5 := Aside0.mk A50
 clear A50
 by_cases c6 : t262 = true
 ·subst c6
  rw [if_pos rfl] at H
  obtain rfl := Option.some.inj H
  go_enter Tryd.func25, Tryd.ntmps25
  go_wp2_with (first | ((with_reducible refine gate_dst (N := 2) rfl ?_); refine box_event (by rfl) (N := 2) (by rfl) (cs := #[.string a0_0, .int .i64 a0_1, .bool a0_2, .bool a0_3, .bool a0_4, .slice A0_5 l0_5.length c0_5, .slice A0_6 l0_6.length c0_6, .int .i64 a0_7, .int .i64 a0_8]) (t := 39) zgs ?_; intro gb260 hg w7 hbox hb; have BK260 := Aside0.mk (hbox); have GW260 := zge hg (below_size (zh HB)); have GE260 := zge hg (below_size (zh HB)); replace HB := Aside0.mk (below_step (zh HB) hb); clear hb hbox hg) | ((with_reducible refine gate_dst (N := 3) rfl ?_); refine box_event (by rfl) (N := 3) (by rfl) (cs := #[.string a1_0, .int .i64 a1_1, .bool a1_2, .bool a1_3, .bool a1_4, .slice A1_5 l1_5.length c1_5, .slice A1_6 l1_6.length c1_6, .int .i64 a1_7, .int .i64 a1_8]) (t := 39) zgs ?_; intro gb261 hg w8 hbox hb; have BK261 := Aside0.mk (hbox); have GW261 := zge hg (below_size (zg HB)); have GE261 := zge hg (below_size (zg HB)); replace HB := Aside0.mk (below_step (zg HB) hb); have NB260_261 := znl hg (blk_lt (zb BK260)); have NB261_260 := zng hg (blk_lt (zb BK260)); replace BK260 := Aside0.mk (blk_below (zb BK260) hb); clear hb hbox hg; have hnb9 := NB260_261.out; have hnc9 := NB261_260.out; have hcz10_0 : w8.cell? ⟨gb260, 0, none⟩ = some (.string a0_0) := (blk_cell BK260.out 0).trans rfl; have hcz10_1 : w8.cell? ⟨gb260, 1, none⟩ = some (.int .i64 a0_1) := (blk_cell BK260.out 1).trans rfl; have hcz10_2 : w8.cell? ⟨gb260, 2, none⟩ = some (.bool a0_2) := (blk_cell BK260.out 2).trans rfl; have hcz10_3 : w8.cell? ⟨gb260, 3, none⟩ = some (.bool a0_3) := (blk_cell BK260.out 3).trans rfl; have hcz10_4 : w8.cell? ⟨gb260, 4, none⟩ = some (.bool a0_4) := (blk_cell BK260.out 4).trans rfl; have hcz10_5 : w8.cell? ⟨gb260, 5, none⟩ = some (.slice A0_5 l0_5.length c0_5) := (blk_cell BK260.out 5).trans rfl; have hcz10_6 : w8.cell? ⟨gb260, 6, none⟩ = some (.slice A0_6 l0_6.length c0_6) := (blk_cell BK260.out 6).trans rfl; have hcz10_7 : w8.cell? ⟨gb260, 7, none⟩ = some (.int .i64 a0_7) := (blk_cell BK260.out 7).trans rfl; have hcz10_8 : w8.cell? ⟨gb260, 8, none⟩ = some (.int .i64 a0_8) := (blk_cell BK260.out 8).trans rfl; have hfz10_0 := blk_frozen BK260.out 0; have hfz10_1 := blk_frozen BK260.out 1; have hfz10_2 := blk_frozen BK260.out 2; have hfz10_3 := blk_frozen BK260.out 3; have hfz10_4 := blk_frozen BK260.out 4; have hfz10_5 := blk_frozen BK260.out 5; have hfz10_6 := blk_frozen BK260.out 6; have hfz10_7 := blk_frozen BK260.out 7; have hfz10_8 := blk_frozen BK260.out 8; have hcz11_0 : w8.cell? ⟨gb261, 0, none⟩ = some (.string a1_0) := (blk_cell BK261.out 0).trans rfl; have hcz11_1 : w8.cell? ⟨gb261, 1, none⟩ = some (.int .i64 a1_1) := (blk_cell BK261.out 1).trans rfl; have hcz11_2 : w8.cell? ⟨gb261, 2, none⟩ = some (.bool a1_2) := (blk_cell BK261.out 2).trans rfl; have hcz11_3 : w8.cell? ⟨gb261, 3, none⟩ = some (.bool a1_3) := (blk_cell BK261.out 3).trans rfl; have hcz11_4 : w8.cell? ⟨gb261, 4, none⟩ = some (.bool a1_4) := (blk_cell BK261.out 4).trans rfl; have hcz11_5 : w8.cell? ⟨gb261, 5, none⟩ = some (.slice A1_5 l1_5.length c1_5) := (blk_cell BK261.out 5).trans rfl; have hcz11_6 : w8.cell? ⟨gb261, 6, none⟩ = some (.slice A1_6 l1_6.length c1_6) := (blk_cell BK261.out 6).trans rfl; have hcz11_7 : w8.cell? ⟨gb261, 7, none⟩ = some (.int .i64 a1_7) := (blk_cell BK261.out 7).trans rfl; have hcz11_8 : w8.cell? ⟨gb261, 8, none⟩ = some (.int .i64 a1_8) := (blk_cell BK261.out 8).trans rfl; have hfz11_0 := blk_frozen BK261.out 0; have hfz11_1 := blk_frozen BK261.out 1; have hfz11_2 := blk_frozen BK261.out 2; have hfz11_3 := blk_frozen BK261.out 3; have hfz11_4 := blk_frozen BK261.out 4; have hfz11_5 := blk_frozen BK261.out 5; have hfz11_6 := blk_frozen BK261.out 6; have hfz11_7 := blk_frozen BK261.out 7; have hfz11_8 := blk_frozen BK261.out 8) | ((with_reducible refine gate_callee (f := 37) rfl ?_); refine goesL_ (some 19) rfl rfl Tryd.func37 (by kernel_rfl) rfl #[.agg #[.bool a0_2, .bool a0_3, .bool a0_4, .slice A0_5 l0_5.length c0_5, .slice A0_6 l0_6.length c0_6, .int .i64 a0_7, .int .i64 a0_8], .agg #[.bool a1_2, .bool a1_3, .bool a1_4, .slice A1_5 l1_5.length c1_5, .slice A1_6 l1_6.length c1_6, .int .i64 a1_7, .int .i64 a1_8]] rfl zar ?_; (with_reducible refine (laws_eqAnalyzer.calls k a0_2 a0_3 a0_4 _ _ l0_5 _ _ l0_6 a0_7 a0_8 a1_2 a1_3 a1_4 _ _ l1_5 _ _ l1_6 a1_7 a1_8 true _ ?side1 ?side2 ?side3 ?side4 ?side5 ?side6 ?side7 ?side8 A5.out).mono ?_); (case side1 => exact zC (Kd.C_below HR0_5.out HB.out)); (case side2 => exact HC0_5.out); (case side3 => exact zC (Kd.C_below HR0_6.out HB.out)); (case side4 => exact HC0_6.out); (case side5 => exact zC (Kd.C_below HR1_5.out HB.out)); (case side6 => exact HC1_5.out); (case side7 => exact zC (Kd.C_below HR1_6.out HB.out)); (case side8 => exact HC1_6.out); rintro e w12 ⟨rfl, hb⟩; refine ⟨_, rfl, ?_⟩; replace BK260 := Aside0.mk (blk_below (zb BK260) hb); replace BK261 := Aside0.mk (blk_below (zb BK261) hb); replace HB := Aside0.mk (below_step (zg HB) hb); (try clear hb); (try clear hb2); (try clear hk); (try clear hi)))
  go_ret
  exact ⟨zre, zg HB⟩
 replace c6 := Bool.eq_false_iff.mpr c6
 subst c6
 rw [if_neg (show ¬ (false = true) by decide)] at H
 obtain rfl := Option.some.inj H
 go_enter Tryd.func25, Tryd.ntmps25
 go_wp2_with (first | ((with_reducible refine gate_dst (N := 2) rfl ?_); refine box_event (by rfl) (N := 2) (by rfl) (cs := #[.string a0_0, .int .i64 a0_1, .bool a0_2, .bool a0_3, .bool a0_4, .slice A0_5 l0_5.length c0_5, .slice A0_6 l0_6.length c0_6, .int .i64 a0_7, .int .i64 a0_8]) (t := 39) zgs ?_; intro gb260 hg w14 hbox hb; have BK260 := Aside0.mk (hbox); have GW260 := zge hg (below_size (zh HB)); have GE260 := zge hg (below_size (zh HB)); replace HB := Aside0.mk (below_step (zh HB) hb); clear hb hbox hg) | ((with_reducible refine gate_dst (N := 3) rfl ?_); refine box_event (by rfl) (N := 3) (by rfl) (cs := #[.string a1_0, .int .i64 a1_1, .bool a1_2, .bool a1_3, .bool a1_4, .slice A1_5 l1_5.length c1_5, .slice A1_6 l1_6.length c1_6, .int .i64 a1_7, .int .i64 a1_8]) (t := 39) zgs ?_; intro gb261 hg w15 hbox hb; have BK261 := Aside0.mk (hbox); have GW261 := zge hg (below_size (zg HB)); have GE261 := zge hg (below_size (zg HB)); replace HB := Aside0.mk (below_step (zg HB) hb); have NB260_261 := znl hg (blk_lt (zb BK260)); have NB261_260 := zng hg (blk_lt (zb BK260)); replace BK260 := Aside0.mk (blk_below (zb BK260) hb); clear hb hbox hg; have hnb16 := NB260_261.out; have hnc16 := NB261_260.out; have hcz17_0 : w15.cell? ⟨gb260, 0, none⟩ = some (.string a0_0) := (blk_cell BK260.out 0).trans rfl; have hcz17_1 : w15.cell? ⟨gb260, 1, none⟩ = some (.int .i64 a0_1) := (blk_cell BK260.out 1).trans rfl; have hcz17_2 : w15.cell? ⟨gb260, 2, none⟩ = some (.bool a0_2) := (blk_cell BK260.out 2).trans rfl; have hcz17_3 : w15.cell? ⟨gb260, 3, none⟩ = some (.bool a0_3) := (blk_cell BK260.out 3).trans rfl; have hcz17_4 : w15.cell? ⟨gb260, 4, none⟩ = some (.bool a0_4) := (blk_cell BK260.out 4).trans rfl; have hcz17_5 : w15.cell? ⟨gb260, 5, none⟩ = some (.slice A0_5 l0_5.length c0_5) := (blk_cell BK260.out 5).trans rfl; have hcz17_6 : w15.cell? ⟨gb260, 6, none⟩ = some (.slice A0_6 l0_6.length c0_6) := (blk_cell BK260.out 6).trans rfl; have hcz17_7 : w15.cell? ⟨gb260, 7, none⟩ = some (.int .i64 a0_7) := (blk_cell BK260.out 7).trans rfl; have hcz17_8 : w15.cell? ⟨gb260, 8, none⟩ = some (.int .i64 a0_8) := (blk_cell BK260.out 8).trans rfl; have hfz17_0 := blk_frozen BK260.out 0; have hfz17_1 := blk_frozen BK260.out 1; have hfz17_2 := blk_frozen BK260.out 2; have hfz17_3 := blk_frozen BK260.out 3; have hfz17_4 := blk_frozen BK260.out 4; have hfz17_5 := blk_frozen BK260.out 5; have hfz17_6 := blk_frozen BK260.out 6; have hfz17_7 := blk_frozen BK260.out 7; have hfz17_8 := blk_frozen BK260.out 8; have hcz18_0 : w15.cell? ⟨gb261, 0, none⟩ = some (.string a1_0) := (blk_cell BK261.out 0).trans rfl; have hcz18_1 : w15.cell? ⟨gb261, 1, none⟩ = some (.int .i64 a1_1) := (blk_cell BK261.out 1).trans rfl; have hcz18_2 : w15.cell? ⟨gb261, 2, none⟩ = some (.bool a1_2) := (blk_cell BK261.out 2).trans rfl; have hcz18_3 : w15.cell? ⟨gb261, 3, none⟩ = some (.bool a1_3) := (blk_cell BK261.out 3).trans rfl; have hcz18_4 : w15.cell? ⟨gb261, 4, none⟩ = some (.bool a1_4) := (blk_cell BK261.out 4).trans rfl; have hcz18_5 : w15.cell? ⟨gb261, 5, none⟩ = some (.slice A1_5 l1_5.length c1_5) := (blk_cell BK261.out 5).trans rfl; have hcz18_6 : w15.cell? ⟨gb261, 6, none⟩ = some (.slice A1_6 l1_6.length c1_6) := (blk_cell BK261.out 6).trans rfl; have hcz18_7 : w15.cell? ⟨gb261, 7, none⟩ = some (.int .i64 a1_7) := (blk_cell BK261.out 7).trans rfl; have hcz18_8 : w15.cell? ⟨gb261, 8, none⟩ = some (.int .i64 a1_8) := (blk_cell BK261.out 8).trans rfl; have hfz18_0 := blk_frozen BK261.out 0; have hfz18_1 := blk_frozen BK261.out 1; have hfz18_2 := blk_frozen BK261.out 2; have hfz18_3 := blk_frozen BK261.out 3; have hfz18_4 := blk_frozen BK261.out 4; have hfz18_5 := blk_frozen BK261.out 5; have hfz18_6 := blk_frozen BK261.out 6; have hfz18_7 := blk_frozen BK261.out 7; have hfz18_8 := blk_frozen BK261.out 8) | ((with_reducible refine gate_callee (f := 37) rfl ?_); refine goesL_ (some 19) rfl rfl Tryd.func37 (by kernel_rfl) rfl #[.agg #[.bool a0_2, .bool a0_3, .bool a0_4, .slice A0_5 l0_5.length c0_5, .slice A0_6 l0_6.length c0_6, .int .i64 a0_7, .int .i64 a0_8], .agg #[.bool a1_2, .bool a1_3, .bool a1_4, .slice A1_5 l1_5.length c1_5, .slice A1_6 l1_6.length c1_6, .int .i64 a1_7, .int .i64 a1_8]] rfl zar ?_; (with_reducible refine (laws_eqAnalyzer.calls k a0_2 a0_3 a0_4 _ _ l0_5 _ _ l0_6 a0_7 a0_8 a1_2 a1_3 a1_4 _ _ l1_5 _ _ l1_6 a1_7 a1_8 false _ ?side1 ?side2 ?side3 ?side4 ?side5 ?side6 ?side7 ?side8 A5.out).mono ?_); (case side1 => exact zC (Kd.C_below HR0_5.out HB.out)); (case side2 => exact HC0_5.out); (case side3 => exact zC (Kd.C_below HR0_6.out HB.out)); (case side4 => exact HC0_6.out); (case side5 => exact zC (Kd.C_below HR1_5.out HB.out)); (case side6 => exact HC1_5.out); (case side7 => exact zC (Kd.C_below HR1_6.out HB.out)); (case side8 => exact HC1_6.out); rintro e w19 ⟨rfl, hb⟩; refine ⟨_, rfl, ?_⟩; replace BK260 := Aside0.mk (blk_below (zb BK260) hb); replace BK261 := Aside0.mk (blk_below (zb BK261) hb); replace HB := Aside0.mk (below_step (zg HB) hb); (try clear hb); (try clear hb2); (try clear hk); (try clear hi)))
 go_ret
 exact ⟨zre, zg HB⟩
end Go.Proofs.YtmbgncgcddjomaaDoor.XFnExactSchemaOK
