-- A printed text of this session (wip/x/xprint.py).
import Derived.Test.YtnpdmleglcbobaaXFnLogx0
import Derived.Test.YtnpdmleglcbobaaXFnLogx5
namespace Go.Proofs.Ytnpdmleglcbobaa.XFnLog
open Go.RowKit Go.Proofs.YtnpdmleglcbobaaW.PrintWords Go.Proofs.YtnpdmleglcbobaaW.PrintLast Go.Proofs.YtnpdmleglcbobaaW.PrintMore
attribute [local go_sem] max2_int min2_int max_two min_two max_three min_three max_four min_four   -- for this text's walks alone
set_option linter.unusedVariables false
set_option linter.unusedSimpArgs false

/-! ### F42: function 48 -/
def F42.f (k : Nat) (a0 : Int) : Option (List Int × Int) := (F40.f a0 0 4611686018427387903).bind fun t290 => (if t290 = true then ((F19.f k ([] : List Int) a0).bind fun t291 => (some (t291, 0))) else (some (([] : List Int), 12)))
theorem F42.mono : ∀ a0 k, LeO (F42.f k a0) (F42.f (k + 1) a0) := by
 intro a0 k
 unfold F42.f
 repeat' with_reducible first | exact F19.mono _ _ _ | exact LeO.refl _ | exact LeO.none _ | refine LeO.ite ?_ ?_ | refine LeO.bind ?_ (fun _ => ?_)
set_option maxHeartbeats 8000000 in
set_option maxRecDepth 100000 in
theorem F42.calls (k : Nat) (a0 : Int) (r1 : List Int) (r2 : Int) (w : World) (h : F42.f k a0 = some (r1, r2)) :
 Calls Try.prog 48 #[.int .i64 a0] w fun e w' => ∃ v0_ : Value, e = .returned (.tuple #[v0_, .int .i64 r2]) ∧ Kd.R (Kd.int .u8) 5 w' w.heap.size (fun _ => True) v0_ r1 ∧ Below w.heap.size w w' := by
 have HB := zm (Below.refl w.heap.size w)
 have H := h
 unfold F42.f at H
 clear h
 replace H := zbi H
 obtain ⟨t290, A2, H⟩ := H
 try dsimp only at H
 by_cases c3 : t290 = true
 rotate_left
 ·replace c3 := Bool.eq_false_iff.mpr c3
  subst c3
  rw [if_neg (show ¬ (false = true) by decide)] at H
  simp only [Option.some.injEq, Prod.mk.injEq] at H
  obtain ⟨rfl, rfl⟩ := H
  go_enter Try.func48, Try.ntmps48
  go_wp2_with (first | ((with_reducible refine gate_callee (f := 38) rfl ?_); refine zgl 5 Try.func38 #[.int .i64 a0, .int .i64 0, .int .i64 4611686018427387903] ?_; (with_reducible refine (F40.calls a0 0 4611686018427387903 false _ A2.out).mono ?_); rintro e w' ⟨rfl, ⟨nd, rfl⟩⟩; refine ⟨_, rfl, ?_⟩))
  go_ret2
  exact ⟨_, zre, by first | exact Kd.R_nil _ _ _ _ _ | exact Kd.N_nil _ _ _ _ _ | exact Kd.V_nil _ _ _ _ _ | exact Kd.Q_nil _ _ _ _ _ | exact Kd.S_nil _ _ _ _ _, zh HB⟩

 subst c3
 rw [if_pos rfl] at H
 replace H := zbi H
 obtain ⟨t291, A4, H⟩ := H
 try dsimp only at H
 simp only [Option.some.injEq, Prod.mk.injEq] at H
 obtain ⟨rfl, rfl⟩ := H
 go_enter Try.func48, Try.ntmps48
 go_wp2_with (first | ((with_reducible refine gate_callee (f := 38) rfl ?_); refine zgl 5 Try.func38 #[.int .i64 a0, .int .i64 0, .int .i64 4611686018427387903] ?_; (with_reducible refine (F40.calls a0 0 4611686018427387903 true _ A2.out).mono ?_); rintro e w' ⟨rfl, ⟨nd, rfl⟩⟩; refine ⟨_, rfl, ?_⟩) | ((with_reducible refine gate_callee (f := 39) rfl ?_); refine zgl 8 Try.func39 #[.slice none 0 0, .int .i64 a0] ?_; (refine (F19.calls k (fun k_ => some k_ = (.slice none 0 0 : Value).ownBlock) (.slice none 0 0) ([] : List Int) a0 t291 w _ ?side1 ?side2 A4.out).mono ?_); (case side1 => exact zh HB); (case side2 => exact Kd.R_nil _ _ _ _ _); rintro e w5 ⟨v292, rfl, ho0, hb, hkp⟩; refine ⟨_, rfl, ?_⟩; have HO293 := zm (Kd.R_mono (ok' := fun k_ => True) ho0 (fun k_ hk_ => trivial)); replace HB := zm (hb); (try clear hb hkp ho0)))
 go_ret2
 exact ⟨_, zre, by (with_reducible repeat (first | apply Kd.R_alloc | apply Kd.R_drewN | apply Kd.R_drew)); exact HO293.out, zh HB⟩
/-! ### F16: function 49 -/
mutual
def F16.j0 : Nat → ByteArray → Bool → Option (Bool)
 | 0, _, _ => none
 | k + 1, x0, x11 => if x11 = true then (some false) else (F16.l0 k x0 (x0.size : Int) 0)
def F16.l0 : Nat → ByteArray → Int → Int → Option (Bool)
 | 0, _, _, _ => none
 | k + 1, x0, x13, x14 => if x14 < x13 then (if 0 ≤ x14 then (if x14 < (x0.size : Int) then (if (bt x0 x14) < 33 then (some false) else (if (bt x0 x14) > 126 then (some false) else (F16.l0 k x0 x13 (wrap64 (x14 + 1))))) else (none)) else (none)) else (some true)
end
def F16.f (k : Nat) (a0 : ByteArray) : Option (Bool) := if (a0.size : Int) < 1 then (F16.j0 k a0 true) else (F16.j0 k a0 (decide ((a0.size : Int) > 30)))
theorem F16.mono_l : ∀ k, (∀ y0 y1, LeO (F16.j0 k y0 y1) (F16.j0 (k + 1) y0 y1)) ∧ (∀ y0 y1 y2, LeO (F16.l0 k y0 y1 y2) (F16.l0 (k + 1) y0 y1 y2))
 | 0 => ⟨fun _ _ r h => by simp [F16.j0] at h, fun _ _ _ r h => by simp [F16.l0] at h⟩
 | k + 1 => by
  obtain ⟨ih0, ih1⟩ := F16.mono_l k
  refine ⟨?_, ?_⟩
  all_goals intros
  all_goals first | unfold F16.j0 | unfold F16.l0
  all_goals
   repeat' with_reducible first | exact ih0 _ _ | exact ih1 _ _ _ | exact LeO.refl _ | exact LeO.none _ | refine LeO.ite ?_ ?_ | refine LeO.bind ?_ (fun _ => ?_)
theorem F16.mono : ∀ a0 k, LeO (F16.f k a0) (F16.f (k + 1) a0) := by
 intro a0 k
 obtain ⟨ih0, ih1⟩ := F16.mono_l k
 unfold F16.f
 repeat' with_reducible first | exact ih0 _ _ | exact ih1 _ _ _ | exact LeO.refl _ | exact LeO.none _ | refine LeO.ite ?_ ?_ | refine LeO.bind ?_ (fun _ => ?_)
set_option maxHeartbeats 8000000 in
set_option maxRecDepth 100000 in
theorem F16.calls (k : Nat) (a0 : ByteArray) (r : Bool) (w : World) (h : F16.f k a0 = some r) :
 Calls Try.prog 49 #[.string a0] w fun e w' => e = .returned (.bool r) ∧ Drawn0 w w' := by
 have H := h
 unfold F16.f at H
 clear h
 have HC2 := zm H
 clear H
 go_enter Try.func49, Try.ntmps49
 go_upto_region 1 with (fail)
 go_cut [11] (fun v11 wc => ∃ (kq : Nat) (x11_1 : Bool), v11 = .bool x11_1 ∧ Aside0 (F16.j0 kq a0 x11_1 = some r) ∧ Aside0 (kq ≤ k) ∧ Drawn0 w wc)
 case first =>
  have H := HC2.out
  clear HC2
  by_cases c3 : (a0.size : Int) < 1
  ·rw [if_pos c3] at H
   have c3b0 := decide_eq_true c3
   have c3b1 : decide (a0.size < 1) = true := decide_eq_true (by omega)
   clear c3
   (first | rw [c3b0] | (simp only [i64_w, i32_w]; rw [c3b0]) | skip)
   have H' := zm H
   clear H
   go_wp2
   go_meet
   case rel => exact ⟨_, (true), (by first | rfl | (simp; done) | (simp [*]; done) | (generalize ByteArray.toList _ = l_; cases l_ <;> rfl)), H', ⟨by first | omega | exact Nat.le_refl _⟩, by repeat (first | exact Drawn0.refl _ | apply Drawn0.step)⟩
  rw [if_neg c3] at H
  have c3b0 := decide_eq_false c3
  have c3b1 : decide (a0.size < 1) = false := decide_eq_false (by omega)
  clear c3
  (first | rw [c3b0] | (simp only [i64_w, i32_w]; rw [c3b0]) | skip)
  have H' := zm H
  clear H
  go_wp2
  go_meet
  case rel => exact ⟨_, (decide ((a0.size : Int) > 30)), (by first | rfl | (simp; done) | (simp [*]; done) | (generalize ByteArray.toList _ = l_; cases l_ <;> rfl)), H', ⟨by first | omega | exact Nat.le_refl _⟩, by repeat (first | exact Drawn0.refl _ | apply Drawn0.step)⟩
 case rest =>
  clear HC2
  obtain ⟨kq, x11_1, rfl, HA, HJ1, ⟨mc1, rfl⟩⟩ := hcut
  cases kq with
  | zero => exact absurd HA.out (by simp [F16.j0])
  | succ kj1 =>
   have H := HA.out
   clear HA
   simp only [F16.j0] at H
   by_cases c4 : x11_1 = true
   ·subst c4
    rw [if_pos rfl] at H
    obtain rfl := Option.some.inj H
    go_wp2
    go_ret
    exact ⟨zrs, by repeat (first | exact Drawn0.refl _ | apply Drawn0.step)⟩
   replace c4 := Bool.eq_false_iff.mpr c4
   subst c4
   rw [if_neg (show ¬ (false = true) by decide)] at H
   have H' := zm H
   clear H
   go_wp2
   go_loopg [14] kj1 (fun kq v14 w' => ∃ (x14_2 : Int), v14 = .int .i64 x14_2 ∧ Aside0 (F16.l0 kq a0 (a0.size : Int) x14_2 = some r) ∧ Aside0 (kq ≤ kj1) ∧ Drawn0 w w')
   case atStart => exact ⟨(0), (by first | rfl | (simp; done) | (simp [*]; done) | (generalize ByteArray.toList _ = l_; cases l_ <;> rfl)), H', ⟨Nat.le_refl _⟩, by repeat (first | exact Drawn0.refl _ | apply Drawn0.step)⟩
   case round =>
    clear H'
    try clear c4
    obtain ⟨x14_2, rfl, HA, HK2, ⟨m2, rfl⟩⟩ := hrel
    cases gk with
    | zero => exact absurd HA.out (by simp [F16.l0])
    | succ k2 =>
     have H := HA.out
     clear HA
     simp only [F16.l0] at H
     by_cases c5 : x14_2 < (a0.size : Int)
     rotate_left
     ·rw [if_neg c5] at H
      have c5b0 := decide_eq_false c5
      clear c5
      obtain rfl := Option.some.inj H
      go_wp2
      go_ret
      exact ⟨zrs, by repeat (first | exact Drawn0.refl _ | apply Drawn0.step)⟩

     rw [if_pos c5] at H
     have c5b0 := decide_eq_true c5
     clear c5
     replace H := zif H
     obtain ⟨c6, H⟩ := H
     have c6b0 := decide_eq_true c6
     clear c6
     replace H := zif H
     obtain ⟨c7, H⟩ := H
     have c7b0 := decide_eq_true c7
     clear c7
     by_cases c9 : (bt a0 x14_2) < 33
     ·rw [if_pos c9] at H
      have c9b0 := decide_eq_true c9
      clear c9
      obtain rfl := Option.some.inj H
      have p8 : 0 ≤ (x14_2 : Int) := of_decide_eq_true zas
      have q8 : x14_2 < (a0.size : Int) := of_decide_eq_true zas
      have hx8 := bt_at a0 x14_2
      replace p8 := eq_true p8
      replace q8 := eq_true q8
      go_wp2
      go_ret
      exact ⟨zrs, by repeat (first | exact Drawn0.refl _ | apply Drawn0.step)⟩
     rw [if_neg c9] at H
     have c9b0 := decide_eq_false c9
     clear c9
     by_cases c11 : (bt a0 x14_2) > 126
     ·rw [if_pos c11] at H
      have c11b0 := decide_eq_true c11
      clear c11
      obtain rfl := Option.some.inj H
      have p8 : 0 ≤ (x14_2 : Int) := of_decide_eq_true zas
      have q8 : x14_2 < (a0.size : Int) := of_decide_eq_true zas
      have hx8 := bt_at a0 x14_2
      replace p8 := eq_true p8
      replace q8 := eq_true q8
      have p10 : 0 ≤ (x14_2 : Int) := of_decide_eq_true zas
      have q10 : x14_2 < (a0.size : Int) := of_decide_eq_true zas
      have hx10 := bt_at a0 x14_2
      replace p10 := eq_true p10
      replace q10 := eq_true q10
      go_wp2
      go_ret
      exact ⟨zrs, by repeat (first | exact Drawn0.refl _ | apply Drawn0.step)⟩
     rw [if_neg c11] at H
     have c11b0 := decide_eq_false c11
     clear c11
     have H' := zm H
     clear H
     have p8 : 0 ≤ (x14_2 : Int) := of_decide_eq_true zas
     have q8 : x14_2 < (a0.size : Int) := of_decide_eq_true zas
     have hx8 := bt_at a0 x14_2
     replace p8 := eq_true p8
     replace q8 := eq_true q8
     have p10 : 0 ≤ (x14_2 : Int) := of_decide_eq_true zas
     have q10 : x14_2 < (a0.size : Int) := of_decide_eq_true zas
     have hx10 := bt_at a0 x14_2
     replace p10 := eq_true p10
     replace q10 := eq_true q10
     go_wp2
     go_roundg k2
     case measure => have := HJ1.out; have := HK2.out; omega
     case rel => exact ⟨(wrap64 (x14_2 + 1)), (by first | rfl | (simp; done) | (simp [*]; done) | (generalize ByteArray.toList _ = l_; cases l_ <;> rfl)), H', ⟨by have := HJ1.out; have := HK2.out; omega⟩, by repeat (first | exact Drawn0.refl _ | apply Drawn0.step)⟩
/-! ### F43: function 50 -/
def F43.f (a0_0 : ByteArray) (l0_1 : List (S66)) : Option (Bool) := if a0_0.toList = ([] : List UInt8) then (some ((l0_1.length : Int) == 0)) else (some false)
set_option maxHeartbeats 8000000 in
set_option maxRecDepth 100000 in
theorem F43.calls (a0_0 : ByteArray) (A0_1 : Option Addr) (c0_1 : Nat) (l0_1 : List (S66)) (r : Bool) (w : World) (hr0_1 : Kd.C k66 w A0_1 l0_1.length l0_1) (hc0_1 : l0_1.length ≤ c0_1) (h : F43.f a0_0 l0_1 = some r) :
 Calls Try.prog 50 #[.agg #[.string a0_0, .slice A0_1 l0_1.length c0_1]] w fun e w' => e = .returned (.bool r) ∧ Below w.heap.size w w' := by
 have hu31 := Try.underlying31
 have HR0_1 := zm hr0_1
 have HC0_1 := zm hc0_1
 clear hr0_1 hc0_1
 have HB := zm (Below.refl w.heap.size w)
 have H := h
 unfold F43.f at H
 clear h
 by_cases c2 : a0_0.toList = ([] : List UInt8)
 rotate_left
 ·rw [if_neg c2] at H
  have c2b0 := z2 c2
  have c2b1 := z4 c2
  obtain rfl := Option.some.inj H
  go_enter Try.func50, Try.ntmps50
  go_wp2_with (first | ((with_reducible refine gate_dst (N := 1) rfl ?_); (try (refine gate_guard (by rfl) ?_; dsimp only)); refine box_event (by rfl) (N := 1) (by rfl) (cs := #[.string a0_0, .slice A0_1 l0_1.length c0_1]) (t := 31) zgs ?_; intro gb294 hg w5 hbox hb; have BK294 := zm (hbox); have GW294 := zge hg (below_size (zh HB)); have GE294 := zge hg (below_size (zh HB)); replace HB := zm (below_step (zh HB) hb); clear hb hbox hg; obtain ⟨⟨_, _⟩, _, _⟩ := zc2 BK294))
  go_ret
  exact ⟨zre, zg HB⟩

 rw [if_pos c2] at H
 have c2b0 := z1 c2
 have c2b1 := z3 c2
 clear c2
 obtain rfl := Option.some.inj H
 go_enter Try.func50, Try.ntmps50
 go_wp2_with (first | ((with_reducible refine gate_dst (N := 1) rfl ?_); (try (refine gate_guard (by rfl) ?_; dsimp only)); refine box_event (by rfl) (N := 1) (by rfl) (cs := #[.string a0_0, .slice A0_1 l0_1.length c0_1]) (t := 31) zgs ?_; intro gb294 hg w3 hbox hb; have BK294 := zm (hbox); have GW294 := zge hg (below_size (zh HB)); have GE294 := zge hg (below_size (zh HB)); replace HB := zm (below_step (zh HB) hb); clear hb hbox hg; obtain ⟨⟨_, _⟩, _, _⟩ := zc2 BK294))
 go_ret
 exact ⟨zre, zg HB⟩
/-! ### F48: function 51 -/
def F48.f (a0 : Int) : Option (List Int) := some (([(a0 / 16777216) % 256, (a0 / 65536) % 256, (a0 / 256) % 256, (a0) % 256] : List Int))
set_option maxHeartbeats 8000000 in
set_option maxRecDepth 100000 in
theorem F48.calls (a0 : Int) (r : List Int) (w : World) (h : F48.f a0 = some r) :
 Calls Try.prog 51 #[.int .i64 a0] w fun e w' => ∃ v0_ : Value, e = .returned (v0_) ∧ Kd.R (Kd.int .u8) 5 w' w.heap.size (fun _ => True) v0_ r ∧ Below w.heap.size w w' := by
 have HB := zm (Below.refl w.heap.size w)
 have H := h
 unfold F48.f at H
 clear h
 obtain ⟨y295, hy295⟩ : ∃ y_ : List Int, y_ = (([(a0 / 16777216) % 256, (a0 / 65536) % 256, (a0 / 256) % 256, (a0) % 256] : List Int)) := ⟨_, rfl⟩
 replace H : (some y295) = some r := zby hy295 H
 have Ny295 := zm hy295
 clear hy295
 obtain rfl := Option.some.inj H
 go_enter Try.func51, Try.ntmps51
 go_wp2_with (first | ((with_reducible refine gate_dst (N := 14) rfl ?_); refine Kd.R_lit (Kd.int .u8) _ 5 ?hg (N := 14) ?hd (xs := ([(a0 / 16777216) % 256, (a0 / 65536) % 256, (a0 / 256) % 256, (a0) % 256] : List Int)) (inner := [.int .u8 ((a0 / 16777216) % 256), .int .u8 ((a0 / 65536) % 256), .int .u8 ((a0 / 256) % 256), .int .u8 ((a0) % 256)]) (ok := fun _ => True) (okp := fun _ => True) ?hr ?hp (fun _ hk => hk) trivial (Below.refl _ _) (Nat.le_refl _) (by simp) ?_; (case hd => rfl); (case hg => rfl); (case hr => first | (go_simp; done) | (go_simp; rfl)); (case hp => exact (Reps.one (show Kd.M (Kd.int .u8) _ _ _ ((a0 / 16777216) % 256) [.int .u8 ((a0 / 16777216) % 256)] from rfl) (Reps.one (show Kd.M (Kd.int .u8) _ _ _ ((a0 / 65536) % 256) [.int .u8 ((a0 / 65536) % 256)] from rfl) (Reps.one (show Kd.M (Kd.int .u8) _ _ _ ((a0 / 256) % 256) [.int .u8 ((a0 / 256) % 256)] from rfl) (Reps.one (show Kd.M (Kd.int .u8) _ _ _ ((a0) % 256) [.int .u8 ((a0) % 256)] from rfl) (Reps.none _ _)))))); intro v296 w2 ho3 hb hg_ hnew_; clear hg_ hnew_; (first | rw [← Ny295.out] at ho3 | (simp only [Int.reduceToNat] at ho3; rw [← Ny295.out] at ho3)); have HO297 := zm (Kd.R_lower ho3 (below_size (zh HB))); replace HB := zm (below_step (zh HB) hb); clear hb ho3))
 go_ret
 exact ⟨_, zre, by (with_reducible repeat (first | apply Kd.R_alloc | apply Kd.R_drewN | apply Kd.R_drew)); exact HO297.out, zh HB⟩

/-! ### F29: function 52 -/
def F29.l0 : Nat → Int → List Int → Int → Int → Option (Int)
 | 0, _, _, _, _ => none
 | k + 1, x3, x9, x10, x11 => if x11 < x10 then (if 0 ≤ x11 then (if x11 < (x9.length : Int) then (F29.l0 k (((Go.bits .xor .u32 x3 ((rd x9 x11) % 4294967296)) * 16777619) % 4294967296) x9 x10 (wrap64 (x11 + 1))) else (none)) else (none)) else (some (wrap64 (x3)))
def F29.f (k : Nat) (l0 : List Int) : Option (Int) := if (l0.length : Int) > 1048576 then (some 0) else (F29.l0 k 2166136261 l0 (l0.length : Int) 0)
theorem F29.mono_l : ∀ k, (∀ y0 y1 y2 y3, LeO (F29.l0 k y0 y1 y2 y3) (F29.l0 (k + 1) y0 y1 y2 y3))
 | 0 => fun _ _ _ _ r h => by simp [F29.l0] at h
 | k + 1 => by
  have ih0 := F29.mono_l k
  ·intro y0 y1 y2 y3
   unfold F29.l0
   repeat' with_reducible first | exact ih0 _ _ _ _ | exact LeO.refl _ | exact LeO.none _ | refine LeO.ite ?_ ?_ | refine LeO.bind ?_ (fun _ => ?_)
theorem F29.mono : ∀ a0 k, LeO (F29.f k a0) (F29.f (k + 1) a0) := by
 intro a0 k
 have ih0 := F29.mono_l k
 unfold F29.f
 repeat' with_reducible first | exact ih0 _ _ _ _ | exact LeO.refl _ | exact LeO.none _ | refine LeO.ite ?_ ?_ | refine LeO.bind ?_ (fun _ => ?_)
set_option maxHeartbeats 8000000 in
set_option maxRecDepth 100000 in
theorem F29.calls (k : Nat) (A0 : Option Addr) (c0 : Nat) (l0 : List Int) (r : Int) (w : World) (hr0 : Kd.C (Kd.int .u8) w A0 l0.length l0) (hc0 : l0.length ≤ c0) (h : F29.f k l0 = some r) :
 Calls Try.prog 52 #[.slice A0 l0.length c0] w fun e w' => e = .returned (.int .i64 r) ∧ Drawn0 w w' := by
 have HR0 := zm hr0
 have HC0 := zm hc0
 clear hr0 hc0
 have H := h
 unfold F29.f at H
 clear h
 by_cases c2 : (l0.length : Int) > 1048576
 ·rw [if_pos c2] at H
  have c2b0 := decide_eq_true c2
  have c2b1 : decide (1048576 < l0.length) = true := decide_eq_true (by omega)
  clear c2
  obtain rfl := Option.some.inj H
  go_enter Try.func52, Try.ntmps52
  go_wp2
  go_ret
  exact ⟨zrs, by repeat (first | exact Drawn0.refl _ | apply Drawn0.step)⟩
 rw [if_neg c2] at H
 have c2b0 := decide_eq_false c2
 have c2b1 : decide (1048576 < l0.length) = false := decide_eq_false (by omega)
 clear c2
 have H' := zm H
 clear H
 go_enter Try.func52, Try.ntmps52
 go_wp2
 go_loopg [3, 11] k (fun kq v3 v11 w' => ∃ (x3_1 : Int) (x11_1 : Int), v3 = .int .u32 x3_1 ∧ v11 = .int .i64 x11_1 ∧ Aside0 (F29.l0 kq x3_1 l0 (l0.length : Int) x11_1 = some r) ∧ Aside0 (kq ≤ k) ∧ Drawn0 w w')
 case atStart => exact ⟨(2166136261), (0), (by first | rfl | (simp; done) | (simp [*]; done) | (generalize ByteArray.toList _ = l_; cases l_ <;> rfl)), (by first | rfl | (simp; done) | (simp [*]; done) | (generalize ByteArray.toList _ = l_; cases l_ <;> rfl)), H', ⟨Nat.le_refl _⟩, by repeat (first | exact Drawn0.refl _ | apply Drawn0.step)⟩
 case round =>
  clear H'
  try clear c2
  try clear c2b0
  try clear c2b1
  obtain ⟨x3_1, x11_1, rfl, rfl, HA, HK1, ⟨m1, rfl⟩⟩ := hrel
  cases gk with
  | zero => exact absurd HA.out (by simp [F29.l0])
  | succ k1 =>
   have H := HA.out
   clear HA
   simp only [F29.l0] at H
   by_cases c3 : x11_1 < (l0.length : Int)
   rotate_left
   ·rw [if_neg c3] at H
    have c3b0 := decide_eq_false c3
    clear c3
    obtain rfl := Option.some.inj H
    go_wp2
    go_ret
    exact ⟨zrs, by repeat (first | exact Drawn0.refl _ | apply Drawn0.step)⟩

   rw [if_pos c3] at H
   have c3b0 := decide_eq_true c3
   clear c3
   replace H := zif H
   obtain ⟨c4, H⟩ := H
   have c4b0 := decide_eq_true c4
   clear c4
   replace H := zif H
   obtain ⟨c5, H⟩ := H
   have c5b0 := decide_eq_true c5
   clear c5
   have H' := zm H
   clear H
   have p298 : 0 ≤ (x11_1 : Int) := of_decide_eq_true zas
   have q298 : x11_1 < (l0.length : Int) := of_decide_eq_true zas
   obtain ⟨ad298, e298, hx298_0⟩ := Kd.at_int HR0.out x11_1 p298 q298
   cases e298
   replace p298 := eq_true p298
   replace q298 := eq_true q298
   go_wp2
   go_roundg k1
   case measure => have := HK1.out; omega
   case rel => exact ⟨(((Go.bits .xor .u32 x3_1 ((rd l0 x11_1) % 4294967296)) * 16777619) % 4294967296), (wrap64 (x11_1 + 1)), (by first | rfl | (simp; done) | (simp [*]; done) | (generalize ByteArray.toList _ = l_; cases l_ <;> rfl)), (by first | rfl | (simp; done) | (simp [*]; done) | (generalize ByteArray.toList _ = l_; cases l_ <;> rfl)), H', ⟨by have := HK1.out; omega⟩, by repeat (first | exact Drawn0.refl _ | apply Drawn0.step)⟩
/-! ### F4: function 24 -/
mutual
def F4.j0 : Nat → Bool → Int → Int → ByteArray → ByteArray → List (S66) → Option (List Int × Int)
 | 0, _, _, _, _, _, _ => none
 | k + 1, x18, x300000, x300001, x300002, x300003, x300004 => if x18 = true then (some (([] : List Int), 1)) else ((F42.f k x300001).bind fun bt300 => ((some (([(x300000) % 256] : List Int) : List Int)).bind fun y304 => (if y304.length + bt300.1.length < 140737488355328 then ((some (y304 ++ bt300.1 : List Int)).bind fun y307 => (if x300000 = 1 then ((F0.f k x300003 x300004).bind fun bt310 => (if bt310.2 = 0 then ((F16.f k x300003).bind fun t314 => (if t314 = true then (if x300002.toList = ([] : List UInt8) then (if y307.length + bt310.1.length < 140737488355328 then (F4.j1 k (y307 ++ bt310.1)) else (none)) else (some (([] : List Int), 1))) else (some (([] : List Int), 1)))) else (some (([] : List Int), 1)))) else (if x300000 = 2 then ((F16.f k x300002).bind fun t318 => (if t318 = true then ((F43.f x300003 x300004).bind fun t319 => (if t319 = true then (if y307.length + x300002.size < 140737488355328 then (F4.j1 k (y307 ++ bytesOf x300002)) else (none)) else (some (([] : List Int), 1)))) else (some (([] : List Int), 1)))) else (some (([] : List Int), 1))))) else (none))))
def F4.j1 : Nat → List Int → Option (List Int × Int)
 | 0, _ => none
 | k + 1, x6 => (F42.f k (x6.length : Int)).bind fun bt323 => (if (wrap64 ((wrap64 ((bt323.1.length : Int) + (x6.length : Int))) + 4)) > 1048576 then (some (([] : List Int), 2)) else (if bt323.1.length + x6.length < 140737488355328 then ((some (bt323.1 ++ x6 : List Int)).bind fun y327 => ((F29.f k x6).bind fun t330 => ((F48.f t330).bind fun t331 => (if y327.length + t331.length < 140737488355328 then (some ((y327 ++ t331), 0)) else (none))))) else (none)))
end
def F4.f (k : Nat) (a0_0 : Int) (a0_1 : Int) (a0_2 : ByteArray) (a0_3 : ByteArray) (l0_4 : List (S66)) : Option (List Int × Int) := if a0_1 < 1 then (F4.j0 k true a0_0 a0_1 a0_2 a0_3 l0_4) else (F4.j0 k (decide (a0_1 > 4611686018427387903)) a0_0 a0_1 a0_2 a0_3 l0_4)
theorem F4.mono_l : ∀ k, (∀ y0 y1 y2 y3 y4 y5, LeO (F4.j0 k y0 y1 y2 y3 y4 y5) (F4.j0 (k + 1) y0 y1 y2 y3 y4 y5)) ∧ (∀ y0, LeO (F4.j1 k y0) (F4.j1 (k + 1) y0))
 | 0 => ⟨fun _ _ _ _ _ _ r h => by simp [F4.j0] at h, fun _ r h => by simp [F4.j1] at h⟩
 | k + 1 => by
  obtain ⟨ih0, ih1⟩ := F4.mono_l k
  refine ⟨?_, ?_⟩
  all_goals intros
  all_goals first | unfold F4.j0 | unfold F4.j1
  all_goals
   repeat' with_reducible first | exact ih0 _ _ _ _ _ _ | exact ih1 _ | exact F0.mono _ _ _ | exact F42.mono _ _ | exact F29.mono _ _ | exact F16.mono _ _ | exact LeO.refl _ | exact LeO.none _ | refine LeO.ite ?_ ?_ | refine LeO.bind ?_ (fun _ => ?_)
theorem F4.mono : ∀ a0 a1 a2 a3 a4 k, LeO (F4.f k a0 a1 a2 a3 a4) (F4.f (k + 1) a0 a1 a2 a3 a4) := by
 intro a0 a1 a2 a3 a4 k
 obtain ⟨ih0, ih1⟩ := F4.mono_l k
 unfold F4.f
 repeat' with_reducible first | exact ih0 _ _ _ _ _ _ | exact ih1 _ | exact F0.mono _ _ _ | exact F42.mono _ _ | exact F29.mono _ _ | exact F16.mono _ _ | exact LeO.refl _ | exact LeO.none _ | refine LeO.ite ?_ ?_ | refine LeO.bind ?_ (fun _ => ?_)
set_option maxHeartbeats 8000000 in
set_option maxRecDepth 100000 in
theorem F4.calls (k : Nat) (a0_0 : Int) (a0_1 : Int) (a0_2 : ByteArray) (a0_3 : ByteArray) (A0_4 : Option Addr) (c0_4 : Nat) (l0_4 : List (S66)) (r1 : List Int) (r2 : Int) (w : World) (hr0_4 : Kd.C k66 w A0_4 l0_4.length l0_4) (hc0_4 : l0_4.length ≤ c0_4) (h : F4.f k a0_0 a0_1 a0_2 a0_3 l0_4 = some (r1, r2)) :
 Calls Try.prog 24 #[.agg #[.int .i64 a0_0, .int .i64 a0_1, .string a0_2, .string a0_3, .slice A0_4 l0_4.length c0_4]] w fun e w' => ∃ v0_ : Value, e = .returned (.tuple #[v0_, .int .i64 r2]) ∧ Kd.R (Kd.int .u8) 5 w' w.heap.size (fun _ => True) v0_ r1 ∧ Below w.heap.size w w' := by
 have hu47 := Try.underlying47
 have hu31 := Try.underlying31
 have HR0_4 := zm hr0_4
 have HC0_4 := zm hc0_4
 clear hr0_4 hc0_4
 have HB := zm (Below.refl w.heap.size w)
 have H := h
 unfold F4.f at H
 clear h
 have HC2 := zm H
 clear H
 go_enter Try.func24, Try.ntmps24
 go_upto_region 1 with (first | ((with_reducible refine gate_dst (N := 1) rfl ?_); refine box_event (by rfl) (N := 1) (by rfl) (cs := #[.int .i64 a0_0, .int .i64 a0_1, .string a0_2, .string a0_3, .slice A0_4 l0_4.length c0_4]) (t := 47) zgs ?_; intro gb299 hg w3 hbox hb; have BK299 := zm (hbox); have GW299 := zge hg (below_size (zh HB)); have GE299 := zge hg (below_size (zh HB)); replace HB := zm (below_step (zh HB) hb); clear hb hbox hg))
 (try simp only [Act.put, List.setIfInBounds_toArray, List.set_cons_zero, List.set_cons_succ])
 go_cut [18] (fun v18 wc => ∃ (kq : Nat) (x18_1 : Bool), v18 = .bool x18_1 ∧ Aside0 (F4.j0 kq x18_1 a0_0 a0_1 a0_2 a0_3 l0_4 = some (r1, r2)) ∧ Aside0 (kq ≤ k) ∧ Aside0 (wc.heap[gb299]? = some (.cells #[.int .i64 a0_0, .int .i64 a0_1, .string a0_2, .string a0_3, (.slice A0_4 l0_4.length c0_4)] 47 (0, 0))) ∧ Aside0 (Below w.heap.size w wc))
 case first =>
  have H := HC2.out
  clear HC2
  by_cases c4 : a0_1 < 1
  ·rw [if_pos c4] at H
   have c4b0 := decide_eq_true c4
   clear c4
   (first | rw [c4b0] | (simp only [i64_w, i32_w]; rw [c4b0]) | skip)
   have H' := zm H
   clear H
   obtain ⟨⟨_, _, _, _, _⟩, _, _, _, _, _⟩ := zc5 BK299
   go_wp2
   go_meet
   case rel => exact ⟨_, (true), (by first | rfl | (simp; done) | (simp [*]; done) | (generalize ByteArray.toList _ = l_; cases l_ <;> rfl)), H', ⟨by first | omega | exact Nat.le_refl _⟩, ⟨zb BK299⟩, ⟨zg HB⟩⟩
  rw [if_neg c4] at H
  have c4b0 := decide_eq_false c4
  clear c4
  (first | rw [c4b0] | (simp only [i64_w, i32_w]; rw [c4b0]) | skip)
  have H' := zm H
  clear H
  obtain ⟨⟨_, _, _, _, _⟩, _, _, _, _, _⟩ := zc5 BK299
  go_wp2
  go_meet
  case rel => exact ⟨_, (decide (a0_1 > 4611686018427387903)), (by first | rfl | (simp; done) | (simp [*]; done) | (generalize ByteArray.toList _ = l_; cases l_ <;> rfl)), H', ⟨by first | omega | exact Nat.le_refl _⟩, ⟨zb BK299⟩, ⟨zg HB⟩⟩
 case rest =>
  clear HC2
  obtain ⟨kq, x18_1, rfl, HA, HJ1, BK299, HB⟩ := hcut
  cases kq with
  | zero => exact absurd HA.out (by simp [F4.j0])
  | succ kj1 =>
   have H := HA.out
   clear HA
   simp only [F4.j0] at H
   by_cases c7 : x18_1 = true
   ·subst c7
    rw [if_pos rfl] at H
    simp only [Option.some.injEq, Prod.mk.injEq] at H
    obtain ⟨rfl, rfl⟩ := H
    go_wp2
    go_ret2
    exact ⟨_, zre, by first | exact Kd.R_nil _ _ _ _ _ | exact Kd.N_nil _ _ _ _ _ | exact Kd.V_nil _ _ _ _ _ | exact Kd.Q_nil _ _ _ _ _ | exact Kd.S_nil _ _ _ _ _, zg HB⟩
   replace c7 := Bool.eq_false_iff.mpr c7
   subst c7
   rw [if_neg (show ¬ (false = true) by decide)] at H
   replace H := zbi H
   obtain ⟨⟨t300, t301⟩, A8, H⟩ := H
   try dsimp only at H
   obtain ⟨y304, hy304⟩ : ∃ y_ : List Int, y_ = (([(a0_0) % 256] : List Int)) := ⟨_, rfl⟩
   replace H : (if y304.length + t300.length < 140737488355328 then ((some (y304 ++ t300 : List Int)).bind fun y307 => (if a0_0 = 1 then ((F0.f kj1 a0_3 l0_4).bind fun bt310 => (if bt310.2 = 0 then ((F16.f kj1 a0_3).bind fun t314 => (if t314 = true then (if a0_2.toList = ([] : List UInt8) then (if y307.length + bt310.1.length < 140737488355328 then (F4.j1 kj1 (y307 ++ bt310.1)) else (none)) else (some (([] : List Int), 1))) else (some (([] : List Int), 1)))) else (some (([] : List Int), 1)))) else (if a0_0 = 2 then ((F16.f kj1 a0_2).bind fun t318 => (if t318 = true then ((F43.f a0_3 l0_4).bind fun t319 => (if t319 = true then (if y307.length + a0_2.size < 140737488355328 then (F4.j1 kj1 (y307 ++ bytesOf a0_2)) else (none)) else (some (([] : List Int), 1)))) else (some (([] : List Int), 1)))) else (some (([] : List Int), 1))))) else (none)) = some (r1, r2) := zby hy304 H
   have Ny304 := zm hy304
   clear hy304
   by_cases c9 : y304.length + t300.length < 140737488355328
   rotate_left
   ·rw [if_neg c9] at H
    exact absurd H (by simp)

   rw [if_pos c9] at H
   have LMc9 := zm c9
   clear c9
   obtain ⟨y307, hy307⟩ : ∃ y_ : List Int, y_ = (y304 ++ t300) := ⟨_, rfl⟩
   replace H : (if a0_0 = 1 then ((F0.f kj1 a0_3 l0_4).bind fun bt310 => (if bt310.2 = 0 then ((F16.f kj1 a0_3).bind fun t314 => (if t314 = true then (if a0_2.toList = ([] : List UInt8) then (if y307.length + bt310.1.length < 140737488355328 then (F4.j1 kj1 (y307 ++ bt310.1)) else (none)) else (some (([] : List Int), 1))) else (some (([] : List Int), 1)))) else (some (([] : List Int), 1)))) else (if a0_0 = 2 then ((F16.f kj1 a0_2).bind fun t318 => (if t318 = true then ((F43.f a0_3 l0_4).bind fun t319 => (if t319 = true then (if y307.length + a0_2.size < 140737488355328 then (F4.j1 kj1 (y307 ++ bytesOf a0_2)) else (none)) else (some (([] : List Int), 1)))) else (some (([] : List Int), 1)))) else (some (([] : List Int), 1)))) = some (r1, r2) := zby hy307 H
   have Ny307 := zm hy307
   clear hy307
   have HC10 := zm H
   clear H
   obtain ⟨⟨hcz11_0, hcz11_1, hcz11_2, hcz11_3, hcz11_4⟩, hfz11_0, hfz11_1, hfz11_2, hfz11_3, hfz11_4⟩ := zc5 BK299
   go_upto_block 0 with (first | ((with_reducible refine gate_callee (f := 48) rfl ?_); refine zgl 22 Try.func48 #[.int .i64 a0_1] ?_; (with_reducible refine (F42.calls kj1 a0_1 t300 t301 _ A8.out).mono ?_); rintro e w12 ⟨v302, rfl, ho0, hb⟩; refine ⟨_, rfl, ?_⟩; have HO303 := zm (Kd.R_lower ho0 (below_size (zg HB))); replace BK299 := zbb BK299 hb; replace HB := zm (below_step (zg HB) hb); (try clear hb ho0); obtain ⟨⟨hcz14_0, hcz14_1, hcz14_2, hcz14_3, hcz14_4⟩, hfz14_0, hfz14_1, hfz14_2, hfz14_3, hfz14_4⟩ := zc5 BK299) | ((with_reducible refine gate_dst (N := 28) rfl ?_); refine Kd.R_lit (Kd.int .u8) _ 5 ?hg (N := 28) ?hd (xs := ([(a0_0) % 256] : List Int)) (inner := [.int .u8 ((a0_0) % 256)]) (ok := fun _ => True) (okp := fun _ => True) ?hr ?hp (fun _ hk => hk) trivial (Below.refl _ _) (Nat.le_refl _) (by simp) ?_; (case hd => rfl); (case hg => rfl); (case hr => first | (go_simp; done) | (go_simp; rfl)); (case hp => exact (Reps.one (show Kd.M (Kd.int .u8) _ _ _ ((a0_0) % 256) [.int .u8 ((a0_0) % 256)] from rfl) (Reps.none _ _))); intro v305 w15 ho16 hb hg_ hnew_; clear hg_ hnew_; (first | rw [← Ny304.out] at ho16 | (simp only [Int.reduceToNat] at ho16; rw [← Ny304.out] at ho16)); have HO306 := zm (Kd.R_lower (Kd.R_new' ho16 (Kd.R_lt (zr HO303))) (below_size (zg HB))); replace HO303 := zm (Kd.R_elder' (zr HO303) (Kd.R_base ho16) hb); replace BK299 := zbb BK299 hb; replace HB := zm (below_step (zg HB) hb); clear hb ho16; obtain ⟨Ao18, co18, eo18⟩ := Kd.R_slice HO303.out; subst eo18) | ((with_reducible refine gate_builtin (b := .append) (xs := #[.tmp 28, .tmp 29]) rfl ?_); at_builtin; refine Kd.R_append_rows (Kd.int .u8) (w0 := w) w.heap.size rfl (.tmp 28) (.tmp 29) 26 5 (.int .u8 0) 1 rfl Try.underlying26 info5 rfl (by decide) (by omega) v305 y304 t300 _ _ _ (fun k_ => some k_ ≠ (.slice Ao18 t300.length co18 : Value).ownBlock) (fun _ => False) rfl rfl ?aO ?aR (fun _ _ h => h) (fun _ h => h.elim) ?aF ?aB ?aS ?aL ?_; (case aR => repeat (first | exact (Kd.R_reads' HO303.out).2.2 | (with_reducible refine Kd.C_alloc ?_ _) | (with_reducible refine Kd.C_drewN ?_ _) | (with_reducible refine Kd.C_drew ?_))); (case aB => exact (zg HB)); (case aF => exact (fun k_ hk => Kd.fresh' (Kd.R_lt (zr HO303)) k_ hk)); (case aO => exact (Kd.R_mono (zr HO306) (fun _ hk => hk.2))); (case aS => exact (below_size (zg HB))); (case aL => have := LMc9.out; omega); intro v308 w17 ho hb hg hat; rw [← Ny307.out] at ho; replace BK299 := zm (blk_grown (zb BK299) hg (Kd.R_ne HO306.out BK299.out (by decide))); replace HO303 := zm (Kd.R_after (ok := (fun _ => True)) (zr HO303) hg hat); replace HB := zm (hb); have HO309 := zm (ho); clear HO306; clear ho hb hg hat; obtain ⟨⟨hcz19_0, hcz19_1, hcz19_2, hcz19_3, hcz19_4⟩, hfz19_0, hfz19_1, hfz19_2, hfz19_3, hfz19_4⟩ := zc5 BK299))
   (try simp only [Act.put, List.setIfInBounds_toArray, List.set_cons_zero, List.set_cons_succ])
   go_cut [6] (fun v6 wc => ∃ (kq : Nat) (x6_9 : List Int), Aside0 (F4.j1 kq x6_9 = some (r1, r2)) ∧ Aside0 (kq ≤ kj1) ∧ Aside0 (Kd.R (Kd.int .u8) 5 wc w.heap.size (fun _ => True) v6 x6_9) ∧ Aside0 (wc.heap[gb299]? = some (.cells #[.int .i64 a0_0, .int .i64 a0_1, .string a0_2, .string a0_3, (.slice A0_4 l0_4.length c0_4)] 47 (0, 0))) ∧ Aside0 (Below w.heap.size w wc))
   case first =>
    have H := HC10.out
    clear HC10
    by_cases c20 : a0_0 = 1
    rotate_left
    ·rw [if_neg c20] at H
     have c20b0 := z2 c20
     have c20b1 := z4 c20
     (first | rw [c20b0] | (simp only [i64_w, i32_w]; rw [c20b0]) | skip)
     by_cases c44 : a0_0 = 2
     rotate_left
     ·rw [if_neg c44] at H
      have c44b0 := z2 c44
      have c44b1 := z4 c44
      simp only [Option.some.injEq, Prod.mk.injEq] at H
      obtain ⟨rfl, rfl⟩ := H
      go_wp2
      go_ret2
      exact ⟨_, zre, by first | exact Kd.R_nil _ _ _ _ _ | exact Kd.N_nil _ _ _ _ _ | exact Kd.V_nil _ _ _ _ _ | exact Kd.Q_nil _ _ _ _ _ | exact Kd.S_nil _ _ _ _ _, zg HB⟩
     rw [if_pos c44] at H
     have c44b0 := z1 c44
     have c44b1 := z3 c44
     clear c44
     replace H := zbi H
     obtain ⟨t318, A45, H⟩ := H
     try dsimp only at H
     by_cases c46 : t318 = true
     rotate_left
     ·replace c46 := Bool.eq_false_iff.mpr c46
      subst c46
      rw [if_neg (show ¬ (false = true) by decide)] at H
      simp only [Option.some.injEq, Prod.mk.injEq] at H
      obtain ⟨rfl, rfl⟩ := H
      obtain ⟨⟨_, _, _, _, _⟩, _, _, _, _, _⟩ := zc5 BK299
      go_wp2_with (first | ((with_reducible refine gate_callee (f := 49) rfl ?_); refine zgl 62 Try.func49 #[.string a0_2] ?_; (with_reducible refine (F16.calls kj1 a0_2 false _ A45.out).mono ?_); rintro e w' ⟨rfl, ⟨nd, rfl⟩⟩; refine ⟨_, rfl, ?_⟩))
      go_ret2
      exact ⟨_, zre, by first | exact Kd.R_nil _ _ _ _ _ | exact Kd.N_nil _ _ _ _ _ | exact Kd.V_nil _ _ _ _ _ | exact Kd.Q_nil _ _ _ _ _ | exact Kd.S_nil _ _ _ _ _, zg HB⟩
     subst c46
     rw [if_pos rfl] at H
     replace H := zbi H
     obtain ⟨t319, A47, H⟩ := H
     try dsimp only at H
     by_cases c48 : t319 = true
     rotate_left
     ·replace c48 := Bool.eq_false_iff.mpr c48
      subst c48
      rw [if_neg (show ¬ (false = true) by decide)] at H
      simp only [Option.some.injEq, Prod.mk.injEq] at H
      obtain ⟨rfl, rfl⟩ := H
      obtain ⟨⟨_, _, _, _, _⟩, _, _, _, _, _⟩ := zc5 BK299
      go_wp2_with (first | ((with_reducible refine gate_callee (f := 49) rfl ?_); refine zgl 62 Try.func49 #[.string a0_2] ?_; (with_reducible refine (F16.calls kj1 a0_2 true _ A45.out).mono ?_); rintro e w' ⟨rfl, ⟨nd, rfl⟩⟩; refine ⟨_, rfl, ?_⟩) | (go_at_call 50; (with_reducible refine (F43.calls a0_3 _ _ l0_4 false _ ?side1 ?side2 A47.out).mono ?_); (case side1 => exact zC (Kd.C_below HR0_4.out (zg HB))); (case side2 => exact HC0_4.out); rintro e w56 ⟨rfl, hb⟩; replace HO303 := zm (Kd.R_below (zr HO303) hb); replace HO309 := zm (Kd.R_below (zr HO309) hb); replace BK299 := zbb BK299 hb; replace HB := zm (below_step (zg HB) hb); (try clear hb)))
      go_ret2
      exact ⟨_, zre, by first | exact Kd.R_nil _ _ _ _ _ | exact Kd.N_nil _ _ _ _ _ | exact Kd.V_nil _ _ _ _ _ | exact Kd.Q_nil _ _ _ _ _ | exact Kd.S_nil _ _ _ _ _, zg HB⟩
     subst c48
     rw [if_pos rfl] at H
     replace H := zif H
     obtain ⟨c49, H⟩ := H
     have LMc49 := zm c49
     clear c49
     obtain ⟨y320, hy320⟩ : ∃ y_ : List Int, y_ = (y307 ++ bytesOf a0_2) := ⟨_, rfl⟩
     replace H : (F4.j1 kj1 y320) = some (r1, r2) := zby hy320 H
     have Ny320 := zm hy320
     clear hy320
     have H' := zm H
     clear H
     obtain ⟨⟨_, _, _, _, _⟩, _, _, _, _, _⟩ := zc5 BK299
     go_wp2_with (first | ((with_reducible refine gate_callee (f := 49) rfl ?_); refine zgl 62 Try.func49 #[.string a0_2] ?_; (with_reducible refine (F16.calls kj1 a0_2 true _ A45.out).mono ?_); rintro e w' ⟨rfl, ⟨nd, rfl⟩⟩; refine ⟨_, rfl, ?_⟩) | (go_at_call 50; (with_reducible refine (F43.calls a0_3 _ _ l0_4 true _ ?side1 ?side2 A47.out).mono ?_); (case side1 => exact zC (Kd.C_below HR0_4.out (zg HB))); (case side2 => exact HC0_4.out); rintro e w51 ⟨rfl, hb⟩; replace HO303 := zm (Kd.R_below (zr HO303) hb); replace HO309 := zm (Kd.R_below (zr HO309) hb); replace BK299 := zbb BK299 hb; replace HB := zm (below_step (zg HB) hb); (try clear hb); obtain ⟨⟨_, _, _, _, _⟩, _, _, _, _, _⟩ := zc5 BK299) | (at_builtin; refine Kd.R_append_str (w0 := w) w.heap.size rfl (.tmp 70) _ 26 9 5 rfl Try.underlying26 Try.underlying9 info5 v308 y307 a0_2 (fun k_ => some k_ ≠ (.slice Ao18 t300.length co18 : Value).ownBlock) rfl rfl ?aF ?aO ?aB ?aS ?aL ?_; (case aB => exact (zg HB)); (case aF => exact (fun k_ hk => Kd.fresh' (Kd.R_lt (zr HO303)) k_ hk)); (case aO => exact (zr HO309)); (case aS => exact (below_size (zg HB))); (case aL => have := LMc49.out; omega); intro v321 w54 ho hb hg hat; rw [← Ny320.out] at ho; replace BK299 := zm (blk_grown (zb BK299) hg (Kd.R_ne HO309.out BK299.out (by decide))); replace HO303 := zm (Kd.R_after (ok := (fun _ => True)) (zr HO303) hg hat); replace HB := zm (hb); have HO322 := zm (ho); clear HO309; clear ho hb hg hat))
     go_meet
     case rel => exact ⟨_, (y320), H', ⟨by have := HJ1.out; first | omega | exact Nat.le_refl _⟩, ⟨Kd.R_mono (zr HO322) (fun _ hk => trivial)⟩, ⟨zb BK299⟩, ⟨zg HB⟩⟩
    rw [if_pos c20] at H
    have c20b0 := z1 c20
    have c20b1 := z3 c20
    clear c20
    (first | rw [c20b0] | (simp only [i64_w, i32_w]; rw [c20b0]) | skip)
    replace H := zbi H
    obtain ⟨⟨t310, t313⟩, A21, H⟩ := H
    try dsimp only at H
    by_cases c22 : t313 = 0
    rotate_left
    ·rw [if_neg c22] at H
     have c22b0 := z2 c22
     have c22b1 := z4 c22
     simp only [Option.some.injEq, Prod.mk.injEq] at H
     obtain ⟨rfl, rfl⟩ := H
     obtain ⟨⟨_, _, _, _, _⟩, _, _, _, _, _⟩ := zc5 BK299
     go_wp2_with (first | ((with_reducible refine gate_callee (f := 11) rfl ?_); refine zgl 38 Try.func11 #[.agg #[.string a0_3, .slice A0_4 l0_4.length c0_4]] ?_; (with_reducible refine (F0.calls kj1 a0_3 _ _ l0_4 t310 t313 _ ?side1 ?side2 A21.out).mono ?_); (case side1 => exact zC (Kd.C_below HR0_4.out HB.out)); (case side2 => exact HC0_4.out); rintro e w42 ⟨v311, rfl, ho0, hb⟩; refine ⟨_, rfl, ?_⟩; have HO312 := zm (Kd.R_lower (Kd.R_new' (Kd.R_new' ho0 (Kd.R_lt (zr HO303))) (Kd.R_lt (zr HO309))) (below_size (zg HB))); replace HO303 := zm (Kd.R_elder' (zr HO303) (Kd.R_base ho0) hb); replace HO309 := zm (Kd.R_elder' (zr HO309) (Kd.R_base ho0) hb); replace BK299 := zbb BK299 hb; replace HB := zm (below_step (zg HB) hb); (try clear hb ho0)))
     go_ret2
     exact ⟨_, zre, by first | exact Kd.R_nil _ _ _ _ _ | exact Kd.N_nil _ _ _ _ _ | exact Kd.V_nil _ _ _ _ _ | exact Kd.Q_nil _ _ _ _ _ | exact Kd.S_nil _ _ _ _ _, zg HB⟩
    rw [if_pos c22] at H
    have c22b0 := z1 c22
    have c22b1 := z3 c22
    clear c22
    replace H := zbi H
    obtain ⟨t314, A23, H⟩ := H
    try dsimp only at H
    by_cases c24 : t314 = true
    rotate_left
    ·replace c24 := Bool.eq_false_iff.mpr c24
     subst c24
     rw [if_neg (show ¬ (false = true) by decide)] at H
     simp only [Option.some.injEq, Prod.mk.injEq] at H
     obtain ⟨rfl, rfl⟩ := H
     obtain ⟨⟨_, _, _, _, _⟩, _, _, _, _, _⟩ := zc5 BK299
     go_wp2_with (first | ((with_reducible refine gate_callee (f := 11) rfl ?_); refine zgl 38 Try.func11 #[.agg #[.string a0_3, .slice A0_4 l0_4.length c0_4]] ?_; (with_reducible refine (F0.calls kj1 a0_3 _ _ l0_4 t310 t313 _ ?side1 ?side2 A21.out).mono ?_); (case side1 => exact zC (Kd.C_below HR0_4.out HB.out)); (case side2 => exact HC0_4.out); rintro e w38 ⟨v311, rfl, ho0, hb⟩; refine ⟨_, rfl, ?_⟩; have HO312 := zm (Kd.R_lower (Kd.R_new' (Kd.R_new' ho0 (Kd.R_lt (zr HO303))) (Kd.R_lt (zr HO309))) (below_size (zg HB))); replace HO303 := zm (Kd.R_elder' (zr HO303) (Kd.R_base ho0) hb); replace HO309 := zm (Kd.R_elder' (zr HO309) (Kd.R_base ho0) hb); replace BK299 := zbb BK299 hb; replace HB := zm (below_step (zg HB) hb); (try clear hb ho0); obtain ⟨⟨_, _, _, _, _⟩, _, _, _, _, _⟩ := zc5 BK299) | (go_at_call 49; (with_reducible refine (F16.calls kj1 a0_3 false _ A23.out).mono ?_); rintro e w' ⟨rfl, ⟨nd, rfl⟩⟩))
     go_ret2
     exact ⟨_, zre, by first | exact Kd.R_nil _ _ _ _ _ | exact Kd.N_nil _ _ _ _ _ | exact Kd.V_nil _ _ _ _ _ | exact Kd.Q_nil _ _ _ _ _ | exact Kd.S_nil _ _ _ _ _, zg HB⟩
    subst c24
    rw [if_pos rfl] at H
    by_cases c25 : a0_2.toList = ([] : List UInt8)
    rotate_left
    ·rw [if_neg c25] at H
     have c25b0 := z2 c25
     have c25b1 := z4 c25
     simp only [Option.some.injEq, Prod.mk.injEq] at H
     obtain ⟨rfl, rfl⟩ := H
     obtain ⟨⟨_, _, _, _, _⟩, _, _, _, _, _⟩ := zc5 BK299
     go_wp2_with (first | ((with_reducible refine gate_callee (f := 11) rfl ?_); refine zgl 38 Try.func11 #[.agg #[.string a0_3, .slice A0_4 l0_4.length c0_4]] ?_; (with_reducible refine (F0.calls kj1 a0_3 _ _ l0_4 t310 t313 _ ?side1 ?side2 A21.out).mono ?_); (case side1 => exact zC (Kd.C_below HR0_4.out HB.out)); (case side2 => exact HC0_4.out); rintro e w34 ⟨v311, rfl, ho0, hb⟩; refine ⟨_, rfl, ?_⟩; have HO312 := zm (Kd.R_lower (Kd.R_new' (Kd.R_new' ho0 (Kd.R_lt (zr HO303))) (Kd.R_lt (zr HO309))) (below_size (zg HB))); replace HO303 := zm (Kd.R_elder' (zr HO303) (Kd.R_base ho0) hb); replace HO309 := zm (Kd.R_elder' (zr HO309) (Kd.R_base ho0) hb); replace BK299 := zbb BK299 hb; replace HB := zm (below_step (zg HB) hb); (try clear hb ho0); obtain ⟨⟨_, _, _, _, _⟩, _, _, _, _, _⟩ := zc5 BK299) | (go_at_call 49; (with_reducible refine (F16.calls kj1 a0_3 true _ A23.out).mono ?_); rintro e w' ⟨rfl, ⟨nd, rfl⟩⟩))
     go_ret2
     exact ⟨_, zre, by first | exact Kd.R_nil _ _ _ _ _ | exact Kd.N_nil _ _ _ _ _ | exact Kd.V_nil _ _ _ _ _ | exact Kd.Q_nil _ _ _ _ _ | exact Kd.S_nil _ _ _ _ _, zg HB⟩
    rw [if_pos c25] at H
    have c25b0 := z1 c25
    have c25b1 := z3 c25
    clear c25
    replace H := zif H
    obtain ⟨c26, H⟩ := H
    have LMc26 := zm c26
    clear c26
    obtain ⟨y315, hy315⟩ : ∃ y_ : List Int, y_ = (y307 ++ t310) := ⟨_, rfl⟩
    replace H : (F4.j1 kj1 y315) = some (r1, r2) := zby hy315 H
    have Ny315 := zm hy315
    clear hy315
    have H' := zm H
    clear H
    obtain ⟨⟨_, _, _, _, _⟩, _, _, _, _, _⟩ := zc5 BK299
    go_wp2_with (first | ((with_reducible refine gate_callee (f := 11) rfl ?_); refine zgl 38 Try.func11 #[.agg #[.string a0_3, .slice A0_4 l0_4.length c0_4]] ?_; (with_reducible refine (F0.calls kj1 a0_3 _ _ l0_4 t310 t313 _ ?side1 ?side2 A21.out).mono ?_); (case side1 => exact zC (Kd.C_below HR0_4.out HB.out)); (case side2 => exact HC0_4.out); rintro e w28 ⟨v311, rfl, ho0, hb⟩; refine ⟨_, rfl, ?_⟩; have HO312 := zm (Kd.R_lower (Kd.R_new' (Kd.R_new' ho0 (Kd.R_lt (zr HO303))) (Kd.R_lt (zr HO309))) (below_size (zg HB))); replace HO303 := zm (Kd.R_elder' (zr HO303) (Kd.R_base ho0) hb); replace HO309 := zm (Kd.R_elder' (zr HO309) (Kd.R_base ho0) hb); replace BK299 := zbb BK299 hb; replace HB := zm (below_step (zg HB) hb); (try clear hb ho0); obtain ⟨⟨_, _, _, _, _⟩, _, _, _, _, _⟩ := zc5 BK299) | (go_at_call 49; (with_reducible refine (F16.calls kj1 a0_3 true _ A23.out).mono ?_); rintro e w' ⟨rfl, ⟨nd, rfl⟩⟩; obtain ⟨Ao32, co32, eo32⟩ := Kd.R_slice HO312.out; subst eo32) | ((with_reducible refine gate_builtin (b := .append) (xs := #[.tmp 55, .tmp 56]) rfl ?_); at_builtin; refine Kd.R_append_rows (Kd.int .u8) (w0 := w) w.heap.size rfl (.tmp 55) (.tmp 56) 26 5 (.int .u8 0) 1 rfl Try.underlying26 info5 rfl (by decide) (by omega) v308 y307 t310 _ _ _ (fun k_ => some k_ ≠ (.slice Ao18 t300.length co18 : Value).ownBlock ∧ some k_ ≠ (.slice Ao32 t310.length co32 : Value).ownBlock) (fun _ => False) rfl rfl ?aO ?aR (fun _ _ h => h) (fun _ h => h.elim) ?aF ?aB ?aS ?aL ?_; (case aR => repeat (first | exact (Kd.R_reads' HO312.out).2.2 | (with_reducible refine Kd.C_alloc ?_ _) | (with_reducible refine Kd.C_drewN ?_ _) | (with_reducible refine Kd.C_drew ?_))); (case aB => exact (zg HB)); (case aF => exact (fun k_ hk => ⟨Kd.fresh' (Kd.R_lt (zr HO303)) k_ hk, Kd.fresh' (Kd.R_lt (zr HO312)) k_ hk⟩)); (case aO => exact (zr HO309)); (case aS => exact (below_size (zg HB))); (case aL => have := LMc26.out; omega); intro v316 w31 ho hb hg hat; rw [← Ny315.out] at ho; replace BK299 := zm (blk_grown (zb BK299) hg (Kd.R_ne HO309.out BK299.out (by decide))); replace HO303 := zm (Kd.R_after (ok := (fun k_ => some k_ ≠ (.slice Ao32 t310.length co32 : Value).ownBlock)) (Kd.R_mono (zr HO303) (fun _ hk => ⟨hk.2, hk.1.2⟩)) hg hat); replace HO312 := zm (Kd.R_after (ok := (fun k_ => some k_ ≠ (.slice Ao18 t300.length co18 : Value).ownBlock)) (Kd.R_mono (zr HO312) (fun _ hk => ⟨hk.1.2, hk.2⟩)) hg hat); replace HB := zm (hb); have HO317 := zm (ho); clear HO309; clear ho hb hg hat))
    go_meet
    case rel => exact ⟨_, (y315), H', ⟨by have := HJ1.out; first | omega | exact Nat.le_refl _⟩, ⟨Kd.R_mono (zr HO317) (fun _ hk => trivial)⟩, ⟨zb BK299⟩, ⟨zg HB⟩⟩
   case rest =>
    clear HC10
    try clear c7
    try clear c9
    try clear hcz11_0 hcz11_1 hcz11_2 hcz11_3 hcz11_4
    try clear hcz14_0 hcz14_1 hcz14_2 hcz14_3 hcz14_4
    try clear hcz19_0 hcz19_1 hcz19_2 hcz19_3 hcz19_4
    try clear hfz11_0 hfz11_1 hfz11_2 hfz11_3 hfz11_4
    try clear hfz14_0 hfz14_1 hfz14_2 hfz14_3 hfz14_4
    try clear hfz19_0 hfz19_1 hfz19_2 hfz19_3 hfz19_4
    obtain ⟨kq, x6_9, HA, HJ9, HO_6, BK299, HB⟩ := hcut
    cases kq with
    | zero => exact absurd HA.out (by simp [F4.j1])
    | succ kj9 =>
     have H := HA.out
     clear HA
     simp only [F4.j1] at H
     replace H := zbi H
     obtain ⟨⟨t323, t324⟩, A59, H⟩ := H
     try dsimp only at H
     by_cases c60 : (wrap64 ((wrap64 ((t323.length : Int) + (x6_9.length : Int))) + 4)) > 1048576
     ·rw [if_pos c60] at H
      have c60b0 := decide_eq_true c60
      clear c60
      simp only [Option.some.injEq, Prod.mk.injEq] at H
      obtain ⟨rfl, rfl⟩ := H
      obtain ⟨Ao61, co61, eo61⟩ := Kd.R_slice HO_6.out
      subst eo61
      go_wp2_with (first | ((with_reducible refine gate_callee (f := 48) rfl ?_); refine zgl 77 Try.func48 #[.int .i64 (x6_9.length : Int)] ?_; (with_reducible refine (F42.calls kj9 (x6_9.length : Int) t323 t324 _ A59.out).mono ?_); rintro e w62 ⟨v325, rfl, ho0, hb⟩; refine ⟨_, rfl, ?_⟩; have HO326 := zm (Kd.R_lower (Kd.R_new' ho0 (Kd.R_lt (zr HO_6))) (below_size (zg HB))); replace HO_6 := zm (Kd.R_elder' (zr HO_6) (Kd.R_base ho0) hb); replace BK299 := zbb BK299 hb; replace HB := zm (below_step (zg HB) hb); (try clear hb ho0); obtain ⟨Ao64, co64, eo64⟩ := Kd.R_slice HO326.out; subst eo64))
      go_ret2
      exact ⟨_, zre, by first | exact Kd.R_nil _ _ _ _ _ | exact Kd.N_nil _ _ _ _ _ | exact Kd.V_nil _ _ _ _ _ | exact Kd.Q_nil _ _ _ _ _ | exact Kd.S_nil _ _ _ _ _, zg HB⟩
     rw [if_neg c60] at H
     have c60b0 := decide_eq_false c60
     clear c60
     replace H := zif H
     obtain ⟨c65, H⟩ := H
     have LMc65 := zm c65
     clear c65
     obtain ⟨y327, hy327⟩ : ∃ y_ : List Int, y_ = (t323 ++ x6_9) := ⟨_, rfl⟩
     replace H : ((F29.f kj9 x6_9).bind fun t330 => ((F48.f t330).bind fun t331 => (if y327.length + t331.length < 140737488355328 then (some ((y327 ++ t331), 0)) else (none)))) = some (r1, r2) := zby hy327 H
     have Ny327 := zm hy327
     clear hy327
     replace H := zbi H
     obtain ⟨t330, A66, H⟩ := H
     try dsimp only at H
     replace H := zbi H
     obtain ⟨t331, A67, H⟩ := H
     try dsimp only at H
     replace H := zif H
     obtain ⟨c68, H⟩ := H
     have LMc68 := zm c68
     clear c68
     obtain ⟨y334, hy334⟩ : ∃ y_ : List Int, y_ = (y327 ++ t331) := ⟨_, rfl⟩
     replace H : (some (y334, 0)) = some (r1, r2) := zby hy334 H
     have Ny334 := zm hy334
     clear hy334
     simp only [Option.some.injEq, Prod.mk.injEq] at H
     obtain ⟨rfl, rfl⟩ := H
     obtain ⟨Ao69, co69, eo69⟩ := Kd.R_slice HO_6.out
     subst eo69
     go_wp2_with (first | ((with_reducible refine gate_callee (f := 48) rfl ?_); refine zgl 77 Try.func48 #[.int .i64 (x6_9.length : Int)] ?_; (with_reducible refine (F42.calls kj9 (x6_9.length : Int) t323 t324 _ A59.out).mono ?_); rintro e w70 ⟨v325, rfl, ho0, hb⟩; refine ⟨_, rfl, ?_⟩; have HO326 := zm (Kd.R_lower (Kd.R_new' ho0 (Kd.R_lt (zr HO_6))) (below_size (zg HB))); replace HO_6 := zm (Kd.R_elder' (zr HO_6) (Kd.R_base ho0) hb); replace BK299 := zbb BK299 hb; replace HB := zm (below_step (zg HB) hb); (try clear hb ho0); obtain ⟨Ao72, co72, eo72⟩ := Kd.R_slice HO326.out; subst eo72) | ((with_reducible refine gate_builtin (b := .append) (xs := #[.tmp 87, .tmp 88]) rfl ?_); at_builtin; refine Kd.R_append_rows (Kd.int .u8) (w0 := w) w.heap.size rfl (.tmp 87) (.tmp 88) 26 5 (.int .u8 0) 1 rfl Try.underlying26 info5 rfl (by decide) (by omega) (.slice Ao72 t323.length co72) t323 x6_9 _ _ _ (fun k_ => some k_ ≠ (.slice Ao69 x6_9.length co69 : Value).ownBlock) (fun _ => False) rfl rfl ?aO ?aR (fun _ _ h => h) (fun _ h => h.elim) ?aF ?aB ?aS ?aL ?_; (case aR => repeat (first | exact (Kd.R_reads' HO_6.out).2.2 | (with_reducible refine Kd.C_alloc ?_ _) | (with_reducible refine Kd.C_drewN ?_ _) | (with_reducible refine Kd.C_drew ?_))); (case aB => exact (zg HB)); (case aF => exact (fun k_ hk => Kd.fresh' (Kd.R_lt (zr HO_6)) k_ hk)); (case aO => exact (Kd.R_mono (zr HO326) (fun _ hk => hk.2))); (case aS => exact (below_size (zg HB))); (case aL => have := LMc65.out; omega); intro v328 w73 ho hb hg hat; rw [← Ny327.out] at ho; replace HO_6 := zm (Kd.R_after (ok := (fun _ => True)) (zr HO_6) hg hat); replace BK299 := zm (blk_grown (zb BK299) hg (Kd.R_ne HO326.out BK299.out (by decide))); replace HB := zm (hb); have HO329 := zm (ho); clear HO326; clear ho hb hg hat) | ((with_reducible refine gate_callee (f := 52) rfl ?_); refine zgl 91 Try.func52 #[.slice Ao69 x6_9.length co69] ?_; (with_reducible refine (F29.calls kj9 _ _ x6_9 t330 _ ?side1 ?side2 A66.out).mono ?_); (case side1 => exact zC (Kd.R_reads' HO_6.out).2.2); (case side2 => exact (Kd.R_reads' HO_6.out).2.1); rintro e w' ⟨rfl, ⟨nd, rfl⟩⟩; refine ⟨_, rfl, ?_⟩) | ((with_reducible refine gate_callee (f := 51) rfl ?_); refine zgl 92 Try.func51 #[.int .i64 t330] ?_; (with_reducible refine (F48.calls t330 t331 _ A67.out).mono ?_); rintro e w74 ⟨v332, rfl, ho0, hb⟩; refine ⟨_, rfl, ?_⟩; have HO333 := zm (Kd.R_lower (Kd.R_new' (Kd.R_new' ho0 (Kd.R_lt (zr HO_6))) (Kd.R_lt (zr HO329))) (below_size (zg HB))); replace HO_6 := zm (Kd.R_elder' (zr HO_6) (Kd.R_base ho0) hb); replace HO329 := zm (Kd.R_elder' (zr HO329) (Kd.R_base ho0) hb); replace BK299 := zbb BK299 hb; replace HB := zm (below_step (zg HB) hb); (try clear hb ho0); obtain ⟨Ao77, co77, eo77⟩ := Kd.R_slice HO333.out; subst eo77) | ((with_reducible refine gate_builtin (b := .append) (xs := #[.tmp 89, .tmp 92]) rfl ?_); at_builtin; refine Kd.R_append_rows (Kd.int .u8) (w0 := w) w.heap.size rfl (.tmp 89) (.tmp 92) 26 5 (.int .u8 0) 1 rfl Try.underlying26 info5 rfl (by decide) (by omega) v328 y327 t331 _ _ _ (fun k_ => some k_ ≠ (.slice Ao69 x6_9.length co69 : Value).ownBlock ∧ some k_ ≠ (.slice Ao77 t331.length co77 : Value).ownBlock) (fun _ => False) rfl rfl ?aO ?aR (fun _ _ h => h) (fun _ h => h.elim) ?aF ?aB ?aS ?aL ?_; (case aR => repeat (first | exact (Kd.R_reads' HO333.out).2.2 | (with_reducible refine Kd.C_alloc ?_ _) | (with_reducible refine Kd.C_drewN ?_ _) | (with_reducible refine Kd.C_drew ?_))); (case aB => exact (zg HB)); (case aF => exact (fun k_ hk => ⟨Kd.fresh' (Kd.R_lt (zr HO_6)) k_ hk, Kd.fresh' (Kd.R_lt (zr HO333)) k_ hk⟩)); (case aO => exact (zr HO329)); (case aS => exact (below_size (zg HB))); (case aL => have := LMc68.out; omega); intro v335 w76 ho hb hg hat; rw [← Ny334.out] at ho; replace HO_6 := zm (Kd.R_after (ok := (fun k_ => some k_ ≠ (.slice Ao77 t331.length co77 : Value).ownBlock)) (Kd.R_mono (zr HO_6) (fun _ hk => ⟨hk.2, hk.1.2⟩)) hg hat); replace BK299 := zm (blk_grown (zb BK299) hg (Kd.R_ne HO329.out BK299.out (by decide))); replace HO333 := zm (Kd.R_after (ok := (fun k_ => some k_ ≠ (.slice Ao69 x6_9.length co69 : Value).ownBlock)) (Kd.R_mono (zr HO333) (fun _ hk => ⟨hk.1.2, hk.2⟩)) hg hat); replace HB := zm (hb); have HO336 := zm (ho); clear HO329; clear ho hb hg hat))
     go_ret2
     exact ⟨_, zre, Kd.R_mono (zr HO336) (fun _ hk => trivial), zg HB⟩
/-- A state of type 106 at block g of W; what its slices lead to came in by w0. -/
def IsS106 (w0 W : World) (g : Nat) (f0 : List Int) (f1 : Int) (f2 : Int) : Prop := ∃ A0 c0, W.heap[g]? = some (.cells #[.slice A0 f0.length c0, .int .i64 f1, .int .i64 f2] 106 (0, 0)) ∧ w0.heap.size ≤ g ∧ (Kd.C (Kd.int .u8) w0 A0 f0.length f0 ∧ f0.length ≤ c0)
theorem IsS106.grown {w0 W : World} {g : Nat} {f0 : List Int} {f1 : Int} {f2 : Int} {W1 : World} {row : Option Nat} (h : IsS106 w0 W g f0 f1 f2) (hw : W.grownBy W1 row) (hne : some g ≠ row) : IsS106 w0 W1 g f0 f1 f2 := by
 obtain ⟨A0, c0, hb, hg, hr0⟩ := h
 exact ⟨A0, c0, blk_grown hb hw hne, hg, hr0⟩
theorem IsS106.own_neN {w0 W : World} {g : Nat} {f0 : List Int} {f1 : Int} {f2 : Int} {α : Type} {d : Kd α} {e : Nat} {base : Nat} {ok : Nat → Prop} {v : Value} {xs : List α} (h : IsS106 w0 W g f0 f1 f2) (ho : Kd.N d e W base ok v xs) (ht : e ≠ 106) : some g ≠ v.ownBlock := by
 obtain ⟨A0, c0, hb, hg, hr0⟩ := h
 exact Kd.N_ne ho hb ht
theorem IsS106.fresh {w0 W : World} {g : Nat} {f0 : List Int} {f1 : Int} {f2 : Int} (h : IsS106 w0 W g f0 f1 f2) : ∀ k, W.heap.size ≤ k → k ≠ g := by
 obtain ⟨A0, c0, hb, hg, hr0⟩ := h
 exact Kd.freshB hb
theorem IsS106.kept {w0 W : World} {g : Nat} {f0 : List Int} {f1 : Int} {f2 : Int} {W1 : World} {S : Nat → Prop} (h : IsS106 w0 W g f0 f1 f2) (hk : Kept W W1 S) (hne : ¬ S g) : IsS106 w0 W1 g f0 f1 f2 := by
 obtain ⟨A0, c0, hb, hg, hr0⟩ := h
 exact ⟨A0, c0, blk_kept hb hk hne, hg, hr0⟩
theorem IsS106.below {w0 W : World} {g : Nat} {f0 : List Int} {f1 : Int} {f2 : Int} {W1 : World} (h : IsS106 w0 W g f0 f1 f2) (hw : Below W.heap.size W W1) : IsS106 w0 W1 g f0 f1 f2 := h.grown (grown_of_below hw none) (by simp)
theorem IsS106.alloc {w0 W : World} {g : Nat} {f0 : List Int} {f1 : Int} {f2 : Int} (h : IsS106 w0 W g f0 f1 f2) (o : Obj) : IsS106 w0 (W.alloc o) g f0 f1 f2 := h.below (below_alloc (Below.refl _ _) o)
theorem IsS106.drewN {w0 W : World} {g : Nat} {f0 : List Int} {f1 : Int} {f2 : Int} (h : IsS106 w0 W g f0 f1 f2) (m : Nat) : IsS106 w0 (W.drewN m) g f0 f1 f2 := h
theorem IsS106.drew {w0 W : World} {g : Nat} {f0 : List Int} {f1 : Int} {f2 : Int} (h : IsS106 w0 W g f0 f1 f2) : IsS106 w0 W.drew g f0 f1 f2 := h
theorem IsS106.at_ {w0 W : World} {g : Nat} {f0 : List Int} {f1 : Int} {f2 : Int} {w' : World} {m : Nat} (hq : W.drewN m = w') (h : IsS106 w0 W g f0 f1 f2) : IsS106 w0 w' g f0 f1 f2 := by subst hq; exact IsS106.drewN h m
theorem IsS106.apart {w0 W : World} {g : Nat} {f0 : List Int} {f1 : Int} {f2 : Int} {α : Type} {d : Kd α} {e : Nat} {base : Nat} {ok : Nat → Prop} {v : Value} {xs : List α} (h : IsS106 w0 W g f0 f1 f2) (ho : d.R e W base ok v xs) (ht : ∀ q, q ∈ e :: d.E → q ≠ 106) : d.R e W base (fun k => ok k ∧ k ≠ g) v xs := by
 obtain ⟨A0, c0, hb, hg, hr0⟩ := h
 exact Kd.R_types ho hb ht
theorem IsS106.own_ne {w0 W : World} {g : Nat} {f0 : List Int} {f1 : Int} {f2 : Int} {α : Type} {d : Kd α} {e : Nat} {base : Nat} {ok : Nat → Prop} {v : Value} {xs : List α} (h : IsS106 w0 W g f0 f1 f2) (ho : d.R e W base ok v xs) (ht : e ≠ 106) : some g ≠ v.ownBlock := by
 obtain ⟨A0, c0, hb, hg, hr0⟩ := h
 exact Kd.R_ne ho hb ht
theorem IsS106.apartQ {w0 W : World} {g : Nat} {f0 : List Int} {f1 : Int} {f2 : Int} {α : Type} {d : Kd α} {e : Nat} {base : Nat} {ok : Nat → Prop} {v : Value} {xs : List α} (h : IsS106 w0 W g f0 f1 f2) (ho : d.Q e W base ok v xs) (ht : ∀ q, q ∈ e :: d.E → q ≠ 106) : d.Q e W base (fun k => ok k ∧ k ≠ g) v xs := by
 obtain ⟨A0, c0, hb, hg, hr0⟩ := h
 exact Kd.Q_types ho hb ht
theorem IsS106.own_neQ {w0 W : World} {g : Nat} {f0 : List Int} {f1 : Int} {f2 : Int} {α : Type} {d : Kd α} {e : Nat} {base : Nat} {ok : Nat → Prop} {v : Value} {xs : List α} (h : IsS106 w0 W g f0 f1 f2) (ho : d.Q e W base ok v xs) (ht : e ≠ 106) : some g ≠ v.ownBlock := by
 obtain ⟨A0, c0, hb, hg, hr0⟩ := h
 exact Kd.Q_ne ho hb ht
theorem IsS106.apartS {w0 W : World} {g : Nat} {f0 : List Int} {f1 : Int} {f2 : Int} {α : Type} {d : Kd α} {e : Nat} {base : Nat} {ok : Nat → Prop} {v : Value} {xs : List α} (h : IsS106 w0 W g f0 f1 f2) (ho : d.S e W base ok v xs) (ht : ∀ q, q ∈ e :: d.E → q ≠ 106) : d.S e W base (fun k => ok k ∧ k ≠ g) v xs := by
 obtain ⟨A0, c0, hb, hg, hr0⟩ := h
 exact Kd.S_types ho hb ht
theorem IsS106.own_neS {w0 W : World} {g : Nat} {f0 : List Int} {f1 : Int} {f2 : Int} {α : Type} {d : Kd α} {e : Nat} {base : Nat} {ok : Nat → Prop} {v : Value} {xs : List α} (h : IsS106 w0 W g f0 f1 f2) (ho : d.S e W base ok v xs) (ht : e ≠ 106) : some g ≠ v.ownBlock := by
 obtain ⟨A0, c0, hb, hg, hr0⟩ := h
 exact Kd.S_ne ho hb ht
theorem IsS106.lt {w0 W : World} {g : Nat} {f0 : List Int} {f1 : Int} {f2 : Int} (h : IsS106 w0 W g f0 f1 f2) : g < W.heap.size := by
 obtain ⟨A0, c0, hb, hg, hr0⟩ := h
 exact blk_lt hb
theorem IsS106.ge {w0 W : World} {g : Nat} {f0 : List Int} {f1 : Int} {f2 : Int} (h : IsS106 w0 W g f0 f1 f2) : w0.heap.size ≤ g := by
 obtain ⟨A0, c0, hb, hg, hr0⟩ := h
 exact hg
theorem IsS106.ne_blk {w0 W : World} {g : Nat} {f0 : List Int} {f1 : Int} {f2 : Int} {a : Nat} {cs : Array Value} {t : TypeId} {fr : Nat × Nat} (h : IsS106 w0 W g f0 f1 f2) (hb2 : W.heap[a]? = some (.cells cs t fr)) (ht : t ≠ 106) : g ≠ a := by
 obtain ⟨A0, c0, hb, hg, hr0⟩ := h
 rintro rfl
 rw [hb] at hb2
 injection hb2 with hb2
 injection hb2 with _ ht2
 exact ht ht2.symm
theorem IsS106.far {w0 W : World} {g : Nat} {f0 : List Int} {f1 : Int} {f2 : Int} {p : Addr} (h : IsS106 w0 W g f0 f1 f2) (hne : g ≠ p.block) (u : Value) : IsS106 w0 (W.setCell p u) g f0 f1 f2 := by
 obtain ⟨A0, c0, hb, hg, hr0⟩ := h
 exact ⟨A0, c0, blk_far hb hne u, hg, hr0⟩
theorem cellS106_0 {W : World} {g : Nat} {A0 : Option Addr} {c0 : Nat} {f0 : List Int} {f1 : Int} {f2 : Int} (h : W.heap[g]? = some (.cells #[.slice A0 f0.length c0, .int .i64 f1, .int .i64 f2] 106 (0, 0))) : W.cell? ⟨g, 0, none⟩ = some (.slice A0 f0.length c0) := (blk_cell h 0).trans rfl
theorem cellS106_1 {W : World} {g : Nat} {A0 : Option Addr} {c0 : Nat} {f0 : List Int} {f1 : Int} {f2 : Int} (h : W.heap[g]? = some (.cells #[.slice A0 f0.length c0, .int .i64 f1, .int .i64 f2] 106 (0, 0))) : W.cell? ⟨g, 1, none⟩ = some (.int .i64 f1) := (blk_cell h 1).trans rfl
theorem IsS106.set_1 {w0 W : World} {g : Nat} {f0 : List Int} {f1 : Int} {f2 : Int} (h : IsS106 w0 W g f0 f1 f2) (x : Int) : IsS106 w0 (W.setCell ⟨g, 1, none⟩ (.int .i64 x)) g f0 x f2 := by
 obtain ⟨A0, c0, hb, hg, hr0⟩ := h
 exact ⟨A0, c0, by simpa using blk_set hb 1 (.int .i64 x), hg, hr0⟩
theorem cellS106_2 {W : World} {g : Nat} {A0 : Option Addr} {c0 : Nat} {f0 : List Int} {f1 : Int} {f2 : Int} (h : W.heap[g]? = some (.cells #[.slice A0 f0.length c0, .int .i64 f1, .int .i64 f2] 106 (0, 0))) : W.cell? ⟨g, 2, none⟩ = some (.int .i64 f2) := (blk_cell h 2).trans rfl
theorem IsS106.set_2 {w0 W : World} {g : Nat} {f0 : List Int} {f1 : Int} {f2 : Int} (h : IsS106 w0 W g f0 f1 f2) (x : Int) : IsS106 w0 (W.setCell ⟨g, 2, none⟩ (.int .i64 x)) g f0 f1 x := by
 obtain ⟨A0, c0, hb, hg, hr0⟩ := h
 exact ⟨A0, c0, by simpa using blk_set hb 2 (.int .i64 x), hg, hr0⟩
theorem IsS106.new (w0 W : World) (A0 : Option Addr) (c0 : Nat) (f0 : List Int) (f1 : Int) (f2 : Int) (hB : Below w0.heap.size w0 W) (hr0 : (Kd.C (Kd.int .u8) w0 A0 f0.length f0 ∧ f0.length ≤ c0)) : IsS106 w0 (W.alloc (.cells #[.slice A0 f0.length c0, .int .i64 f1, .int .i64 f2] 106)) W.heap.size f0 f1 f2 := ⟨A0, c0, by simpa using heap_alloc_new W _, hB.size, hr0⟩

theorem zi106 {V : World} {w0 W : World} {g : Nat} {f0 : List Int} {f1 : Int} {f2 : Int} {f0' : List Int} {f1' : Int} {f2' : Int} (h : Aside0 (IsS106 w0 W g f0 f1 f2)) (hv : IsS106 w0 W g f0 f1 f2 → IsS106 w0 V g f0' f1' f2' := by intro h_; repeat (first | (with_reducible first | exact h_ | apply IsS106.alloc | apply IsS106.drewN | apply IsS106.drew | apply IsS106.set_1 | apply IsS106.set_2 | refine IsS106.far ?_ (Aside0.out (by assumption)) _) | exact h_)) : IsS106 w0 V g f0' f1' f2' := hv h.out
theorem zj106 {B : Nat} {w W V : World} (h : Aside0 (Below B w W)) (hv : Below B w W → Below B w V := by intro h_; repeat (first | (with_reducible first | exact h_ | apply below_alloc | apply pw_below_drewN | apply below_drew1 | refine below_set ?_ (Aside0.out (by assumption)) | refine below_set ?_ (IsS106.ge (Aside0.out (by assumption)))) | exact h_)) : Below B w V := hv h.out
theorem zKS106 {w0 W V w1 Y : World} {g : Nat} {f0 : List Int} {f1 : Int} {f2 : Int} {α : Type} {d : Kd α} {e : Nat} {base : Nat} {ok : Nat → Prop} {v : Value} {xs : List α} (hi : Aside0 (IsS106 w0 W g f0 f1 f2)) (ho : Aside0 (Kd.S d e Y base ok v xs)) (hk : KeepBut V w1 g none) (hv : IsS106 w0 W g f0 f1 f2 → IsS106 w0 V g f0 f1 f2 := by intro h_; repeat (first | (with_reducible first | exact h_ | apply IsS106.alloc | apply IsS106.drewN | apply IsS106.drew | apply IsS106.set_1 | apply IsS106.set_2 | refine IsS106.far ?_ (Aside0.out (by assumption)) _) | exact h_)) (hw : Kd.S d e Y base ok v xs → Kd.S d e V base ok v xs := by intro h_; (with_reducible repeat (first | apply Kd.S_alloc | apply Kd.S_drewN | apply Kd.S_drew)); exact h_) (ht : ∀ q, q ∈ e :: d.E → q ≠ 106 := by decide) : Aside0 (Kd.S d e w1 base ok v xs) := ⟨Kd.S_mono (Kd.S_keep (IsS106.apartS (hv hi.out) (hw ho.out) ht) hk (fun _ h => h.2)) (fun _ h => h.1)⟩
theorem zKR106 {w0 W V w1 Y : World} {g : Nat} {f0 : List Int} {f1 : Int} {f2 : Int} {α : Type} {d : Kd α} {e : Nat} {base : Nat} {ok : Nat → Prop} {v : Value} {xs : List α} (hi : Aside0 (IsS106 w0 W g f0 f1 f2)) (ho : Aside0 (Kd.R d e Y base ok v xs)) (hk : KeepBut V w1 g none) (hv : IsS106 w0 W g f0 f1 f2 → IsS106 w0 V g f0 f1 f2 := by intro h_; repeat (first | (with_reducible first | exact h_ | apply IsS106.alloc | apply IsS106.drewN | apply IsS106.drew | apply IsS106.set_1 | apply IsS106.set_2 | refine IsS106.far ?_ (Aside0.out (by assumption)) _) | exact h_)) (hw : Kd.R d e Y base ok v xs → Kd.R d e V base ok v xs := by intro h_; (with_reducible repeat (first | apply Kd.R_alloc | apply Kd.R_drewN | apply Kd.R_drew)); exact h_) (ht : ∀ q, q ∈ e :: d.E → q ≠ 106 := by decide) : Aside0 (Kd.R d e w1 base ok v xs) := ⟨Kd.R_mono (Kd.R_keep (IsS106.apart (hv hi.out) (hw ho.out) ht) hk (fun _ h => h.2)) (fun _ h => h.1)⟩
/-! ### F46: function 53 -/
def F46.f (l0 : List Int) : Option (List Int × Int × Int) := some (l0, 0, (l0.length : Int) % 1000)
set_option maxHeartbeats 8000000 in
set_option maxRecDepth 100000 in
theorem F46.calls (A0 : Option Addr) (c0 : Nat) (l0 : List Int) (r1 : List Int) (r2 : Int) (r3 : Int) (w0 w : World) (hB : Below w0.heap.size w0 w) (hr0 : Kd.C (Kd.int .u8) w0 A0 l0.length l0) (hc0 : l0.length ≤ c0) (h : F46.f l0 = some (r1, r2, r3)) :
 Calls Try.prog 53 #[.slice A0 l0.length c0] w fun e w' => ∃ g_ : Nat, e = .returned (.pointer (some ⟨g_, 0, none⟩)) ∧ IsS106 w0 w' g_ r1 r2 r3 ∧ Below w0.heap.size w0 w' ∧ Below w.heap.size w w' := by
 have hu106 := Try.underlying106
 have HR0 := zm hr0
 have HC0 := zm hc0
 clear hr0 hc0
 have HBW := zm (Below.refl w.heap.size w)
 have HW0 := zm hB.size
 have HB := zm hB
 clear hB
 have H := h
 unfold F46.f at H
 clear h
 simp only [Option.some.injEq, Prod.mk.injEq] at H
 obtain ⟨rfl, rfl, rfl⟩ := H
 go_enter Try.func53, Try.ntmps53
 go_wp2_with (first | ((with_reducible refine gate_dst (N := 8) rfl ?_); refine box_event (by rfl) (N := 8) (by rfl) (cs := #[.slice A0 l0.length c0, .int .i64 0, .int .i64 ((l0.length : Int) % 1000)]) (t := 106) zgs ?_; intro gb337 hg w2 hbox hb; replace HB := zm (below_step (zh HB) hb); have BK337 := zm (hbox); have GW337 := zge hg (below_size (zh HBW)); have GE337 := zm ((Nat.le_trans HW0.out (by rw [hg]; exact (below_size (zh HBW)) : w.heap.size ≤ gb337) : w0.heap.size ≤ gb337)); replace HBW := zm (below_step HBW.out hb); clear hb hbox hg))
 go_ret
 exact ⟨_, rfl, (show IsS106 w0 _ gb337 l0 0 ((l0.length : Int) % 1000) from ⟨_, _, by (with_reducible repeat (first | refine blk_drewN ?_ _ | refine blk_drew ?_ | refine blk_alloc ?_ _)); exact BK337.out, GE337.out, ⟨HR0.out, HC0.out⟩⟩), zg HB, zg HBW⟩

def fl8_ (n m : Nat) : Array Bool := ((List.range n).map fun i => m.testBit i).toArray

/-! ### F8: function 84 -/
def F8.f (s0_0 : List Int) (s0_1 : Int) (s0_2 : Int) : Option (Int × Int × Int) := if (wrap64 (s0_1 + 1)) ≤ (s0_0.length : Int) then (if 0 ≤ (wrap64 ((wrap64 (s0_1 + 1)) - 1)) then (if (wrap64 ((wrap64 (s0_1 + 1)) - 1)) < (s0_0.length : Int) then (some (wrap64 (rd s0_0 (wrap64 ((wrap64 (s0_1 + 1)) - 1))), wrap64 (s0_1 + 1), Int.tmod (wrap64 ((wrap64 ((wrap64 (s0_2 * 31)) + (wrap64 (rd s0_0 (wrap64 ((wrap64 (s0_1 + 1)) - 1)))))) + 7)) 2147483648)) else (none)) else (none)) else (if (wrap64 (s0_1 + 1)) > (wrap64 (4000 + (wrap64 (4 * (s0_0.length : Int))))) then (some (0, wrap64 (s0_1 + 1), s0_2)) else (some (Int.tmod (wrap64 (Int.tdiv (Int.tmod (wrap64 ((wrap64 (s0_2 * 1103515245)) + 12345)) 2147483648) 65536)) 256, wrap64 (s0_1 + 1), Int.tmod (wrap64 ((wrap64 (s0_2 * 1103515245)) + 12345)) 2147483648)))
def F8.T2 : Bool × List (List Nat × List Nat) := (true, [([], []), ([0], [0]), ([1], [1]), ([2], [2]), ([], []), ([4], [4]), ([5], [5]), ([6], [6]), ([7], [7]), ([3, 8], [3, 8])])
def F8.B2 : List Nat := [0, 1, 3, 7, 0, 16, 48, 112, 240, 511]
theorem F8.tab2 : rtab .any (opsOf Try.f84 2) = F8.T2 := by kernel_rfl
theorem F8.bits2 : waitsOk F8.T2.2 F8.B2 = true := by kernel_rfl
def F8.T3 : Bool × List (List Nat × List Nat) := (true, [([], []), ([], []), ([1], [1]), ([2], [2]), ([3], [3]), ([4], [4]), ([], []), ([6], [6]), ([7], [7]), ([8], [8]), ([], []), ([10], [10]), ([11], [11]), ([12], [12]), ([13], [13]), ([9, 14], [9, 14]), ([15], [15]), ([16], [16]), ([5, 17], [5, 17]), ([18], [18]), ([19], [19]), ([0, 0, 1, 2, 3, 4, 5, 6, 7, 8, 9, 10, 11, 12, 13, 14, 15, 16, 17, 18, 19, 20], [0]), ([21, 0, 1, 2, 3, 4, 5, 6, 7, 8, 9, 10, 11, 12, 13, 14, 15, 16, 17, 18, 19, 20], [21]), ([22, 20, 0, 1, 2, 3, 4, 5, 6, 7, 8, 9, 10, 11, 12, 13, 14, 15, 16, 17, 18, 19, 20], [20, 22])])
def F8.B3 : List Nat := [0, 0, 2, 6, 14, 30, 0, 64, 192, 448, 0, 1024, 3072, 7168, 15360, 32704, 65472, 131008, 262142, 524286, 1048574, 2097151, 4194303, 8388607]
theorem F8.tab3 : rtab .any (opsOf Try.f84 3) = F8.T3 := by kernel_rfl
theorem F8.bits3 : waitsOk F8.T3.2 F8.B3 = true := by kernel_rfl
def F8.T4 : Bool × List (List Nat × List Nat) := (true, [([], []), ([0], [0]), ([1], [1]), ([2], [2]), ([], []), ([4], [4]), ([5], [5]), ([6], [6]), ([7], [7]), ([3, 8], [3, 8]), ([9], [9]), ([10], [10]), ([11, 0, 1, 2, 3, 4, 5, 6, 7, 8, 9, 10, 11], [11])])
def F8.B4 : List Nat := [0, 1, 3, 7, 0, 16, 48, 112, 240, 511, 1023, 2047, 4095]
theorem F8.tab4 : rtab .any (opsOf Try.f84 4) = F8.T4 := by kernel_rfl
theorem F8.bits4 : waitsOk F8.T4.2 F8.B4 = true := by kernel_rfl
def F8.T5 : Bool × List (List Nat × List Nat) := (true, [([], []), ([0], [0]), ([1], [1]), ([2], [2]), ([], []), ([4], [4]), ([5], [5]), ([6], [6]), ([7], [7]), ([8], [8]), ([9], [9]), ([3, 10], [3, 10])])
def F8.B5 : List Nat := [0, 1, 3, 7, 0, 16, 48, 112, 240, 496, 1008, 2047]
theorem F8.tab5 : rtab .any (opsOf Try.f84 5) = F8.T5 := by kernel_rfl
theorem F8.bits5 : waitsOk F8.T5.2 F8.B5 = true := by kernel_rfl
set_option maxHeartbeats 8000000 in
set_option maxRecDepth 100000 in
theorem F8.calls (g : Nat) (s0_0 : List Int) (s0_1 : Int) (s0_2 : Int) (r1 : Int) (r2 : Int) (r3 : Int) (w0 w : World) (hI : IsS106 w0 w g s0_0 s0_1 s0_2) (hB : Below w0.heap.size w0 w) (h : F8.f s0_0 s0_1 s0_2 = some (r1, r2, r3)) :
 Calls Try.prog 84 #[.pointer (some ⟨g, 0, none⟩)] w fun e w' => e = .returned (.int .i64 r1) ∧ IsS106 w0 w' g s0_0 r2 r3 ∧ Below w0.heap.size w0 w' ∧ KeepBut w w' g none := by
 have HI0 := zm hI
 have HK := zm (KeepBut.refl w g none)
 have HL := zm hB.size
 clear hI
 have HW0 := zm hB.size
 have HB := zm hB
 clear hB
 have H := h
 unfold F8.f at H
 clear h
 by_cases c2 : (wrap64 (s0_1 + 1)) ≤ (s0_0.length : Int)
 rotate_left
 ·rw [if_neg c2] at H
  have c2b0 := decide_eq_false c2
  clear c2
  by_cases c15 : (wrap64 (s0_1 + 1)) > (wrap64 (4000 + (wrap64 (4 * (s0_0.length : Int)))))
  ·rw [if_pos c15] at H
   have c15b0 := decide_eq_true c15
   clear c15
   simp only [Option.some.injEq, Prod.mk.injEq] at H
   obtain ⟨rfl, rfl, rfl⟩ := H
   obtain ⟨ASz16_0, cSz16_0, HGz16, hgz16, HSz16_0⟩ := HI0.out
   have hcz16_0 := cellS106_0 HGz16
   have hcz16_1 := cellS106_1 HGz16
   have hcz16_2 := cellS106_2 HGz16
   have hfz16_1 := blk_frozen HGz16 1
   have hfz16_2 := blk_frozen HGz16 2
   clear HGz16 hgz16
   go_enter Try.func84, Try.ntmps84
   try go_wp2
   have n0_ : Aside0 (IsS106 w0 (w.setCell ⟨g, 1, none⟩ (.int .i64 (wrap64 (s0_1 + 1)))) g s0_0 (wrap64 (s0_1 + 1)) s0_2) := ⟨zi106 HI0⟩
   have n1_ : Aside0 (KeepBut w (w.setCell ⟨g, 1, none⟩ (.int .i64 (wrap64 (s0_1 + 1)))) g none) := ⟨zk HK⟩
   have n2_ : Aside0 (Below w0.heap.size w0 (w.setCell ⟨g, 1, none⟩ (.int .i64 (wrap64 (s0_1 + 1))))) := ⟨zj106 HB⟩
   (try clear HI0)
   (try clear HK)
   (try clear HB)
   generalize (w.setCell ⟨g, 1, none⟩ (.int .i64 (wrap64 (s0_1 + 1)))) = w17 at n0_ n1_ n2_ ⊢
   have HI0 := n0_
   have HK := n1_
   have HB := n2_
   clear n0_ n1_ n2_
   replace HI0 := zm (IsS106.drew HI0.out)
   replace HK := zm (keep_drew HK.out)
   replace HB := zm (below_drew1 HB.out)
   obtain ⟨AS9019_0, cS9019_0, HG9019, hg9019, HS9019_0⟩ := HI0.out
   have hx9019_0 := cellS106_0 HG9019
   have hx9019_1 := cellS106_1 HG9019
   have hx9019_2 := cellS106_2 HG9019
   have hf9019_1 := blk_frozen HG9019 1
   have hf9019_2 := blk_frozen HG9019 2
   have hfate := Kd.far_C (0 : Int) HS9019_0.1 hg9019
   clear HG9019 hg9019
   refine start_ (n := 10) (S := fun w' => w'.cell? ⟨g, 0, none⟩ = some (.slice AS9019_0 s0_0.length cS9019_0) ∧ w'.cell? ⟨g, 1, none⟩ = some (.int .i64 (wrap64 (s0_1 + 1))) ∧ w'.cell? ⟨g, 2, none⟩ = some (.int .i64 s0_2)) (ds := []) (fl8_ 10 0) (by kernel_rfl) rfl rfl ⟨hx9019_0, hx9019_1, hx9019_2⟩ (fun hHeld => ?_); refine with_tabW F8.tab2 F8.bits2 (fun HT_ HW_ => ?_)
   generalize w17.drew = w18 at HI0 HK HB hf9019_1 hf9019_2 hx9019_0 hx9019_1 hx9019_2 hHeld ⊢
   refine zpu HT_ 0 10 (fl8_ 10 1) ?_
   refine zpu HT_ 1 11 (fl8_ 10 3) ?_
   refine zpu HT_ 2 12 (fl8_ 10 7) ?_
   refine zpu HT_ 4 14 (fl8_ 10 23) ?_
   refine zpu HT_ 5 15 (fl8_ 10 55) ?_
   refine zpu HT_ 6 16 (fl8_ 10 119) ?_
   refine ztk HT_ HW_ 3 13 (fl8_ 10 127) hHeld ?_
   refine ztk HT_ HW_ 7 17 (fl8_ 10 255) hHeld ?_
   refine zpu HT_ 8 18 (fl8_ 10 511) ?_
   refine zpu HT_ 9 19 (fl8_ 10 1023) ?_
   refine done_ (done_of HT_.out (by kernel_rfl)) ?_
   try go_wp2
   replace HI0 := zm (IsS106.drew HI0.out)
   replace HK := zm (keep_drew HK.out)
   replace HB := zm (below_drew1 HB.out)
   obtain ⟨AS9021_0, cS9021_0, HG9021, hg9021, HS9021_0⟩ := HI0.out
   have hx9021_0 := cellS106_0 HG9021
   have hx9021_1 := cellS106_1 HG9021
   have hx9021_2 := cellS106_2 HG9021
   have hf9021_1 := blk_frozen HG9021 1
   have hf9021_2 := blk_frozen HG9021 2
   have hfate := Kd.far_C (0 : Int) HS9021_0.1 hg9021
   clear HG9021 hg9021
   refine start_ (n := 12) (S := fun w' => w'.cell? ⟨g, 0, none⟩ = some (.slice AS9021_0 s0_0.length cS9021_0) ∧ w'.cell? ⟨g, 1, none⟩ = some (.int .i64 (wrap64 (s0_1 + 1))) ∧ w'.cell? ⟨g, 2, none⟩ = some (.int .i64 s0_2)) (ds := []) (fl8_ 12 0) (by kernel_rfl) rfl rfl ⟨hx9021_0, hx9021_1, hx9021_2⟩ (fun hHeld => ?_); refine with_tabW F8.tab5 F8.bits5 (fun HT_ HW_ => ?_)
   generalize w18.drew = w20 at HI0 HK HB hf9021_1 hf9021_2 hx9021_0 hx9021_1 hx9021_2 hHeld ⊢
   refine zpu HT_ 0 55 (fl8_ 12 1) ?_
   refine zpu HT_ 1 56 (fl8_ 12 3) ?_
   refine zpu HT_ 2 57 (fl8_ 12 7) ?_
   refine zpu HT_ 4 59 (fl8_ 12 23) ?_
   refine zpu HT_ 5 60 (fl8_ 12 55) ?_
   refine zpu HT_ 6 61 (fl8_ 12 119) ?_
   refine ztk HT_ HW_ 3 58 (fl8_ 12 127) hHeld ?_
   refine ztk HT_ HW_ 7 62 (fl8_ 12 255) hHeld ?_
   refine zpu HT_ 8 63 (fl8_ 12 511) ?_
   refine zpu HT_ 9 64 (fl8_ 12 1023) ?_
   refine zpu HT_ 10 65 (fl8_ 12 2047) ?_
   refine zpu HT_ 11 66 (fl8_ 12 4095) ?_
   refine done_ (done_of HT_.out (by kernel_rfl)) ?_
   try go_wp2
   go_ret
   exact ⟨zre, zi106 HI0, zj106 HB, zk HK⟩
  rw [if_neg c15] at H
  have c15b0 := decide_eq_false c15
  clear c15
  simp only [Option.some.injEq, Prod.mk.injEq] at H
  obtain ⟨rfl, rfl, rfl⟩ := H
  obtain ⟨ASz22_0, cSz22_0, HGz22, hgz22, HSz22_0⟩ := HI0.out
  have hcz22_0 := cellS106_0 HGz22
  have hcz22_1 := cellS106_1 HGz22
  have hcz22_2 := cellS106_2 HGz22
  have hfz22_1 := blk_frozen HGz22 1
  have hfz22_2 := blk_frozen HGz22 2
  clear HGz22 hgz22
  go_enter Try.func84, Try.ntmps84
  try go_wp2
  have n0_ : Aside0 (IsS106 w0 (w.setCell ⟨g, 1, none⟩ (.int .i64 (wrap64 (s0_1 + 1)))) g s0_0 (wrap64 (s0_1 + 1)) s0_2) := ⟨zi106 HI0⟩
  have n1_ : Aside0 (KeepBut w (w.setCell ⟨g, 1, none⟩ (.int .i64 (wrap64 (s0_1 + 1)))) g none) := ⟨zk HK⟩
  have n2_ : Aside0 (Below w0.heap.size w0 (w.setCell ⟨g, 1, none⟩ (.int .i64 (wrap64 (s0_1 + 1))))) := ⟨zj106 HB⟩
  (try clear HI0)
  (try clear HK)
  (try clear HB)
  generalize (w.setCell ⟨g, 1, none⟩ (.int .i64 (wrap64 (s0_1 + 1)))) = w23 at n0_ n1_ n2_ ⊢
  have HI0 := n0_
  have HK := n1_
  have HB := n2_
  clear n0_ n1_ n2_
  replace HI0 := zm (IsS106.drew HI0.out)
  replace HK := zm (keep_drew HK.out)
  replace HB := zm (below_drew1 HB.out)
  obtain ⟨AS9025_0, cS9025_0, HG9025, hg9025, HS9025_0⟩ := HI0.out
  have hx9025_0 := cellS106_0 HG9025
  have hx9025_1 := cellS106_1 HG9025
  have hx9025_2 := cellS106_2 HG9025
  have hf9025_1 := blk_frozen HG9025 1
  have hf9025_2 := blk_frozen HG9025 2
  have hfate := Kd.far_C (0 : Int) HS9025_0.1 hg9025
  clear HG9025 hg9025
  refine start_ (n := 10) (S := fun w' => w'.cell? ⟨g, 0, none⟩ = some (.slice AS9025_0 s0_0.length cS9025_0) ∧ w'.cell? ⟨g, 1, none⟩ = some (.int .i64 (wrap64 (s0_1 + 1))) ∧ w'.cell? ⟨g, 2, none⟩ = some (.int .i64 s0_2)) (ds := []) (fl8_ 10 0) (by kernel_rfl) rfl rfl ⟨hx9025_0, hx9025_1, hx9025_2⟩ (fun hHeld => ?_); refine with_tabW F8.tab2 F8.bits2 (fun HT_ HW_ => ?_)
  generalize w23.drew = w24 at HI0 HK HB hf9025_1 hf9025_2 hx9025_0 hx9025_1 hx9025_2 hHeld ⊢
  refine zpu HT_ 0 10 (fl8_ 10 1) ?_
  refine zpu HT_ 1 11 (fl8_ 10 3) ?_
  refine zpu HT_ 2 12 (fl8_ 10 7) ?_
  refine zpu HT_ 4 14 (fl8_ 10 23) ?_
  refine zpu HT_ 5 15 (fl8_ 10 55) ?_
  refine zpu HT_ 6 16 (fl8_ 10 119) ?_
  refine ztk HT_ HW_ 3 13 (fl8_ 10 127) hHeld ?_
  refine ztk HT_ HW_ 7 17 (fl8_ 10 255) hHeld ?_
  refine zpu HT_ 8 18 (fl8_ 10 511) ?_
  refine zpu HT_ 9 19 (fl8_ 10 1023) ?_
  refine done_ (done_of HT_.out (by kernel_rfl)) ?_
  try go_wp2
  replace HI0 := zm (IsS106.drew HI0.out)
  replace HK := zm (keep_drew HK.out)
  replace HB := zm (below_drew1 HB.out)
  obtain ⟨AS9027_0, cS9027_0, HG9027, hg9027, HS9027_0⟩ := HI0.out
  have hx9027_0 := cellS106_0 HG9027
  have hx9027_1 := cellS106_1 HG9027
  have hx9027_2 := cellS106_2 HG9027
  have hf9027_1 := blk_frozen HG9027 1
  have hf9027_2 := blk_frozen HG9027 2
  have hfate := Kd.far_C (0 : Int) HS9027_0.1 hg9027
  clear HG9027 hg9027
  refine start_ (n := 12) (S := fun w' => w'.cell? ⟨g, 0, none⟩ = some (.slice AS9027_0 s0_0.length cS9027_0) ∧ w'.cell? ⟨g, 1, none⟩ = some (.int .i64 (wrap64 (s0_1 + 1))) ∧ w'.cell? ⟨g, 2, none⟩ = some (.int .i64 s0_2)) (ds := []) (fl8_ 12 0) (by kernel_rfl) rfl rfl ⟨hx9027_0, hx9027_1, hx9027_2⟩ (fun hHeld => ?_); refine with_tabW F8.tab5 F8.bits5 (fun HT_ HW_ => ?_)
  generalize w24.drew = w26 at HI0 HK HB hf9027_1 hf9027_2 hx9027_0 hx9027_1 hx9027_2 hHeld ⊢
  refine zpu HT_ 0 55 (fl8_ 12 1) ?_
  refine zpu HT_ 1 56 (fl8_ 12 3) ?_
  refine zpu HT_ 2 57 (fl8_ 12 7) ?_
  refine zpu HT_ 4 59 (fl8_ 12 23) ?_
  refine zpu HT_ 5 60 (fl8_ 12 55) ?_
  refine zpu HT_ 6 61 (fl8_ 12 119) ?_
  refine ztk HT_ HW_ 3 58 (fl8_ 12 127) hHeld ?_
  refine ztk HT_ HW_ 7 62 (fl8_ 12 255) hHeld ?_
  refine zpu HT_ 8 63 (fl8_ 12 511) ?_
  refine zpu HT_ 9 64 (fl8_ 12 1023) ?_
  refine zpu HT_ 10 65 (fl8_ 12 2047) ?_
  refine zpu HT_ 11 66 (fl8_ 12 4095) ?_
  refine done_ (done_of HT_.out (by kernel_rfl)) ?_
  obtain ⟨ASz28_0, cSz28_0, HGz28, hgz28, HSz28_0⟩ := HI0.out
  have hcz28_0 := cellS106_0 HGz28
  have hcz28_1 := cellS106_1 HGz28
  have hcz28_2 := cellS106_2 HGz28
  have hfz28_1 := blk_frozen HGz28 1
  have hfz28_2 := blk_frozen HGz28 2
  clear HGz28 hgz28
  try go_wp2
  go_ret
  exact ⟨zre, zi106 HI0, zj106 HB, zk HK⟩

 rw [if_pos c2] at H
 have c2b0 := decide_eq_true c2
 clear c2
 obtain ⟨ji3, hji3⟩ : ∃ j_ : Int, (wrap64 ((wrap64 (s0_1 + 1)) - 1)) = j_ := ⟨_, rfl⟩
 replace H : (if 0 ≤ (ji3) then (if (ji3) < (s0_0.length : Int) then (some (wrap64 (rd s0_0 (ji3)), wrap64 (s0_1 + 1), Int.tmod (wrap64 ((wrap64 ((wrap64 (s0_2 * 31)) + (wrap64 (rd s0_0 (ji3))))) + 7)) 2147483648)) else (none)) else (none)) = some (r1, r2, r3) := by first | (rw [hji3] at H; exact H) | (simp only [hji3] at H ⊢; exact H)
 have hji3w : (IntKind.i64.wrap ((wrap64 (s0_1 + 1)) - 1)) = ji3 := (i64_w _).trans hji3
 replace H := zif H
 obtain ⟨c4, H⟩ := H
 have c4b0 := decide_eq_true c4
 clear c4
 replace H := zif H
 obtain ⟨c5, H⟩ := H
 have c5b0 := decide_eq_true c5
 clear c5
 simp only [Option.some.injEq, Prod.mk.injEq] at H
 obtain ⟨rfl, rfl, rfl⟩ := H
 obtain ⟨ASz6_0, cSz6_0, HGz6, hgz6, HSz6_0⟩ := HI0.out
 have hcz6_0 := cellS106_0 HGz6
 have hcz6_1 := cellS106_1 HGz6
 have hcz6_2 := cellS106_2 HGz6
 have hfz6_1 := blk_frozen HGz6 1
 have hfz6_2 := blk_frozen HGz6 2
 clear HGz6 hgz6
 go_enter Try.func84, Try.ntmps84
 try go_wp2
 have n0_ : Aside0 (IsS106 w0 (w.setCell ⟨g, 1, none⟩ (.int .i64 (wrap64 (s0_1 + 1)))) g s0_0 (wrap64 (s0_1 + 1)) s0_2) := ⟨zi106 HI0⟩
 have n1_ : Aside0 (KeepBut w (w.setCell ⟨g, 1, none⟩ (.int .i64 (wrap64 (s0_1 + 1)))) g none) := ⟨zk HK⟩
 have n2_ : Aside0 (Below w0.heap.size w0 (w.setCell ⟨g, 1, none⟩ (.int .i64 (wrap64 (s0_1 + 1))))) := ⟨zj106 HB⟩
 (try clear HI0)
 (try clear HK)
 (try clear HB)
 generalize (w.setCell ⟨g, 1, none⟩ (.int .i64 (wrap64 (s0_1 + 1)))) = w7 at n0_ n1_ n2_ ⊢
 have HI0 := n0_
 have HK := n1_
 have HB := n2_
 clear n0_ n1_ n2_
 replace HI0 := zm (IsS106.drew HI0.out)
 replace HK := zm (keep_drew HK.out)
 replace HB := zm (below_drew1 HB.out)
 obtain ⟨AS909_0, cS909_0, HG909, hg909, HS909_0⟩ := HI0.out
 have hx909_0 := cellS106_0 HG909
 have hx909_1 := cellS106_1 HG909
 have hx909_2 := cellS106_2 HG909
 have hf909_1 := blk_frozen HG909 1
 have hf909_2 := blk_frozen HG909 2
 have hfate := Kd.far_C (0 : Int) HS909_0.1 hg909
 clear HG909 hg909
 refine start_ (n := 10) (S := fun w' => w'.cell? ⟨g, 0, none⟩ = some (.slice AS909_0 s0_0.length cS909_0) ∧ w'.cell? ⟨g, 1, none⟩ = some (.int .i64 (wrap64 (s0_1 + 1))) ∧ w'.cell? ⟨g, 2, none⟩ = some (.int .i64 s0_2)) (ds := []) (fl8_ 10 0) (by kernel_rfl) rfl rfl ⟨hx909_0, hx909_1, hx909_2⟩ (fun hHeld => ?_); refine with_tabW F8.tab2 F8.bits2 (fun HT_ HW_ => ?_)
 generalize w7.drew = w8 at HI0 HK HB hf909_1 hf909_2 hx909_0 hx909_1 hx909_2 hHeld ⊢
 refine zpu HT_ 0 10 (fl8_ 10 1) ?_
 refine zpu HT_ 1 11 (fl8_ 10 3) ?_
 refine zpu HT_ 2 12 (fl8_ 10 7) ?_
 refine zpu HT_ 4 14 (fl8_ 10 23) ?_
 refine zpu HT_ 5 15 (fl8_ 10 55) ?_
 refine zpu HT_ 6 16 (fl8_ 10 119) ?_
 refine ztk HT_ HW_ 3 13 (fl8_ 10 127) hHeld ?_
 refine ztk HT_ HW_ 7 17 (fl8_ 10 255) hHeld ?_
 refine zpu HT_ 8 18 (fl8_ 10 511) ?_
 refine zpu HT_ 9 19 (fl8_ 10 1023) ?_
 refine done_ (done_of HT_.out (by kernel_rfl)) ?_
 try go_wp2
 replace HI0 := zm (IsS106.drew HI0.out)
 replace HK := zm (keep_drew HK.out)
 replace HB := zm (below_drew1 HB.out)
 obtain ⟨AS9011_0, cS9011_0, HG9011, hg9011, HS9011_0⟩ := HI0.out
 have hx9011_0 := cellS106_0 HG9011
 have hx9011_1 := cellS106_1 HG9011
 have hx9011_2 := cellS106_2 HG9011
 have hf9011_1 := blk_frozen HG9011 1
 have hf9011_2 := blk_frozen HG9011 2
 have hfate := Kd.far_C (0 : Int) HS9011_0.1 hg9011
 clear HG9011 hg9011
 have p338 : 0 ≤ ((ji3) : Int) := of_decide_eq_true zas
 have q338 : (ji3) < (s0_0.length : Int) := of_decide_eq_true zas
 obtain ⟨ad338, e338, hx338_0⟩ := Kd.at_int HS9011_0.1 (ji3) p338 q338
 have hw338_0 := hx338_0
 cases e338
 have hne338_0 := (show ((ad338.add ((ji3)).toNat) : Addr).block ≠ g from by first | (rw [add_block]; exact hfate ad338 rfl (by omega)) | (show (Addr.add _ _).block ≠ _; rw [add_block]; exact hfate ad338 rfl (by omega)) | exact hfate ad338 rfl (by omega))
 replace hx338_0 := pw_cell_below HB.out hx338_0
 replace p338 := eq_true p338
 replace q338 := eq_true q338
 refine start_ (n := 24) (S := fun w' => w'.cell? ⟨g, 0, none⟩ = some (.slice (some ad338) s0_0.length cS9011_0) ∧ w'.cell? ⟨g, 1, none⟩ = some (.int .i64 (wrap64 (s0_1 + 1))) ∧ w'.cell? ⟨g, 2, none⟩ = some (.int .i64 s0_2) ∧ w'.cell? (ad338.add ((ji3)).toNat) = some (.int .u8 (rd s0_0 (ji3)))) (ds := [23]) (fl8_ 24 0) (by kernel_rfl) rfl rfl ⟨hx9011_0, hx9011_1, hx9011_2, hx338_0⟩ (fun hHeld => ?_); refine with_tabW F8.tab3 F8.bits3 (fun HT_ HW_ => ?_)
 generalize w8.drew = w10 at HI0 HK HB hf9011_1 hf9011_2 hx338_0 hx9011_0 hx9011_1 hx9011_2 hHeld ⊢
 refine zpu HT_ 0 20 (fl8_ 24 1) ?_
 refine zpu HT_ 1 21 (fl8_ 24 3) ?_
 refine zpu HT_ 2 22 (fl8_ 24 7) ?_
 refine zpu HT_ 3 23 (fl8_ 24 15) ?_
 refine zpu HT_ 6 26 (fl8_ 24 79) ?_
 refine zpu HT_ 7 27 (fl8_ 24 207) ?_
 refine zpu HT_ 8 28 (fl8_ 24 463) ?_
 refine zpu HT_ 10 30 (fl8_ 24 1487) ?_
 refine zpu HT_ 11 31 (fl8_ 24 3535) ?_
 refine zpu HT_ 12 32 (fl8_ 24 7631) ?_
 refine ztk HT_ HW_ 4 24 (fl8_ 24 7647) hHeld ?_
 refine zpu HT_ 5 25 (fl8_ 24 7679) ?_
 refine ztk HT_ HW_ 9 29 (fl8_ 24 8191) hHeld ?_
 refine ztk HT_ HW_ 13 33 (fl8_ 24 16383) hHeld ?_
 refine zpu HT_ 14 34 (fl8_ 24 32767) ?_
 refine zpu HT_ 15 35 (fl8_ 24 65535) ?_
 refine ztk HT_ HW_ 16 36 (fl8_ 24 131071) hHeld ?_
 refine zpu HT_ 17 37 (fl8_ 24 262143) ?_
 refine zpu HT_ 18 38 (fl8_ 24 524287) ?_
 refine zpu HT_ 19 39 (fl8_ 24 1048575) ?_
 refine zpu HT_ 20 40 (fl8_ 24 2097151) ?_
 refine zpu HT_ 21 41 (fl8_ 24 4194303) ?_
 refine zpu HT_ 22 42 (fl8_ 24 8388607) ?_
 refine last_ (i := 23) (N := none) (fl8_ 24 16777215) rfl rfl (one_of HT_.out (by kernel_rfl)) (by decide) (fun K hK => ?_)
 refine skip_ (w1 := ?_) (by rfl) rfl ?_ ?_
 rotate_left
 ·go_simp
  rfl
 refine hK.out _ _ ?_
 clear hK K
 refine done_ (done_of HT_.out (by kernel_rfl)) ?_
 try go_wp2
 have n0_ : Aside0 (IsS106 w0 (w10.setCell ⟨g, 2, none⟩ (.int .i64 (Int.tmod (wrap64 ((wrap64 ((wrap64 (s0_2 * 31)) + (wrap64 (rd s0_0 (ji3))))) + 7)) 2147483648))) g s0_0 (wrap64 (s0_1 + 1)) (Int.tmod (wrap64 ((wrap64 ((wrap64 (s0_2 * 31)) + (wrap64 (rd s0_0 (ji3))))) + 7)) 2147483648)) := ⟨zi106 HI0⟩
 have n1_ : Aside0 (KeepBut w (w10.setCell ⟨g, 2, none⟩ (.int .i64 (Int.tmod (wrap64 ((wrap64 ((wrap64 (s0_2 * 31)) + (wrap64 (rd s0_0 (ji3))))) + 7)) 2147483648))) g none) := ⟨zk HK⟩
 have n2_ : Aside0 (Below w0.heap.size w0 (w10.setCell ⟨g, 2, none⟩ (.int .i64 (Int.tmod (wrap64 ((wrap64 ((wrap64 (s0_2 * 31)) + (wrap64 (rd s0_0 (ji3))))) + 7)) 2147483648)))) := ⟨zj106 HB⟩
 (try clear HI0)
 (try clear HK)
 (try clear HB)
 generalize (w10.setCell ⟨g, 2, none⟩ (.int .i64 (Int.tmod (wrap64 ((wrap64 ((wrap64 (s0_2 * 31)) + (wrap64 (rd s0_0 (ji3))))) + 7)) 2147483648))) = w12 at n0_ n1_ n2_ ⊢
 have HI0 := n0_
 have HK := n1_
 have HB := n2_
 clear n0_ n1_ n2_
 replace HI0 := zm (IsS106.drew HI0.out)
 replace HK := zm (keep_drew HK.out)
 replace HB := zm (below_drew1 HB.out)
 obtain ⟨AS9014_0, cS9014_0, HG9014, hg9014, HS9014_0⟩ := HI0.out
 have hx9014_0 := cellS106_0 HG9014
 have hx9014_1 := cellS106_1 HG9014
 have hx9014_2 := cellS106_2 HG9014
 have hf9014_1 := blk_frozen HG9014 1
 have hf9014_2 := blk_frozen HG9014 2
 have hfate := Kd.far_C (0 : Int) HS9014_0.1 hg9014
 clear HG9014 hg9014
 have p339 : 0 ≤ ((ji3) : Int) := of_decide_eq_true zas
 have q339 : (ji3) < (s0_0.length : Int) := of_decide_eq_true zas
 obtain ⟨ad339, e339, hx339_0⟩ := Kd.at_int HS9014_0.1 (ji3) p339 q339
 have hw339_0 := hx339_0
 cases e339
 have hne339_0 := (show ((ad339.add ((ji3)).toNat) : Addr).block ≠ g from by first | (rw [add_block]; exact hfate ad339 rfl (by omega)) | (show (Addr.add _ _).block ≠ _; rw [add_block]; exact hfate ad339 rfl (by omega)) | exact hfate ad339 rfl (by omega))
 replace hx339_0 := pw_cell_below HB.out hx339_0
 replace p339 := eq_true p339
 replace q339 := eq_true q339
 refine start_ (n := 13) (S := fun w' => w'.cell? ⟨g, 0, none⟩ = some (.slice (some ad339) s0_0.length cS9014_0) ∧ w'.cell? ⟨g, 1, none⟩ = some (.int .i64 (wrap64 (s0_1 + 1))) ∧ w'.cell? ⟨g, 2, none⟩ = some (.int .i64 (Int.tmod (wrap64 ((wrap64 ((wrap64 (s0_2 * 31)) + (wrap64 (rd s0_0 (ji3))))) + 7)) 2147483648)) ∧ w'.cell? (ad339.add ((ji3)).toNat) = some (.int .u8 (rd s0_0 (ji3)))) (ds := []) (fl8_ 13 0) (by kernel_rfl) rfl rfl ⟨hx9014_0, hx9014_1, hx9014_2, hx339_0⟩ (fun hHeld => ?_); refine with_tabW F8.tab4 F8.bits4 (fun HT_ HW_ => ?_)
 generalize w12.drew = w13 at HI0 HK HB hf9014_1 hf9014_2 hx339_0 hx9014_0 hx9014_1 hx9014_2 hHeld ⊢
 refine zpu HT_ 0 43 (fl8_ 13 1) ?_
 refine zpu HT_ 1 44 (fl8_ 13 3) ?_
 refine zpu HT_ 2 45 (fl8_ 13 7) ?_
 refine zpu HT_ 4 47 (fl8_ 13 23) ?_
 refine zpu HT_ 5 48 (fl8_ 13 55) ?_
 refine zpu HT_ 6 49 (fl8_ 13 119) ?_
 refine ztk HT_ HW_ 3 46 (fl8_ 13 127) hHeld ?_
 refine ztk HT_ HW_ 7 50 (fl8_ 13 255) hHeld ?_
 refine zpu HT_ 8 51 (fl8_ 13 511) ?_
 refine zpu HT_ 9 52 (fl8_ 13 1023) ?_
 refine ztk HT_ HW_ 10 53 (fl8_ 13 2047) hHeld ?_
 refine zpu HT_ 11 54 (fl8_ 13 4095) ?_
 refine zpu HT_ 12 2 (fl8_ 13 8191) ?_
 refine done_ (done_of HT_.out (by kernel_rfl)) ?_
 try go_wp2
 go_ret
 exact ⟨by first | rfl | (simp [errW_none, errW_some] <;> rfl) | (simp only [← hji3]; first | rfl | (simp [errW_none, errW_some] <;> rfl)) | (simp [*, errW_none, errW_some] <;> rfl), zi106 HI0, zj106 HB, zk HK⟩
def fl9_ (n m : Nat) : Array Bool := ((List.range n).map fun i => m.testBit i).toArray

/-! ### F1: function 55 -/
def F1.f (s0_0 : List Int) (s0_1 : Int) (s0_2 : Int) (a1 : Int) : Option (Int × Int × Int) := if a1 ≤ 1 then (some (0, s0_1, s0_2)) else (if a1 ≤ 256 then ((F8.f s0_0 s0_1 s0_2).bind fun bt340 => (if a1 = 0 then (none) else (some (Int.tmod bt340.1 a1, bt340.2.1, bt340.2.2)))) else ((F8.f s0_0 s0_1 s0_2).bind fun bt343 => ((F8.f s0_0 bt343.2.1 bt343.2.2).bind fun bt346 => ((F8.f s0_0 bt346.2.1 bt346.2.2).bind fun bt349 => (if a1 = 0 then (none) else (some (Int.tmod (wrap64 ((wrap64 ((wrap64 (bt343.1 * 65536)) + (wrap64 (bt346.1 * 256)))) + bt349.1)) a1, bt349.2.1, bt349.2.2)))))))
set_option maxHeartbeats 8000000 in
set_option maxRecDepth 100000 in
theorem F1.calls (g : Nat) (s0_0 : List Int) (s0_1 : Int) (s0_2 : Int) (a1 : Int) (r1 : Int) (r2 : Int) (r3 : Int) (w0 w : World) (hI : IsS106 w0 w g s0_0 s0_1 s0_2) (hB : Below w0.heap.size w0 w) (h : F1.f s0_0 s0_1 s0_2 a1 = some (r1, r2, r3)) :
 Calls Try.prog 55 #[.pointer (some ⟨g, 0, none⟩), .int .i64 a1] w fun e w' => e = .returned (.int .i64 r1) ∧ IsS106 w0 w' g s0_0 r2 r3 ∧ Below w0.heap.size w0 w' ∧ KeepBut w w' g none := by
 have HI0 := zm hI
 have HK := zm (KeepBut.refl w g none)
 have HL := zm hB.size
 clear hI
 have HW0 := zm hB.size
 have HB := zm hB
 clear hB
 have H := h
 unfold F1.f at H
 clear h
 by_cases c3 : a1 ≤ 1
 ·rw [if_pos c3] at H
  have c3b0 := decide_eq_true c3
  clear c3
  simp only [Option.some.injEq, Prod.mk.injEq] at H
  obtain ⟨rfl, rfl, rfl⟩ := H
  go_enter Try.func55, Try.ntmps55
  go_wp2
  go_ret
  exact ⟨zre, zi106 HI0, zj106 HB, zk HK⟩
 rw [if_neg c3] at H
 have c3b0 := decide_eq_false c3
 clear c3
 by_cases c4 : a1 ≤ 256
 ·rw [if_pos c4] at H
  have c4b0 := decide_eq_true c4
  clear c4
  replace H := zbi H
  obtain ⟨⟨t340, t341, t342⟩, A5, H⟩ := H
  try dsimp only at H
  by_cases c6 : a1 = 0
  ·rw [if_pos c6] at H
   exact absurd H (by simp)
  rw [if_neg c6] at H
  have c6b0 := z2 c6
  have c6b1 := z4 c6
  simp only [Option.some.injEq, Prod.mk.injEq] at H
  obtain ⟨rfl, rfl, rfl⟩ := H
  go_enter Try.func55, Try.ntmps55
  go_wp2_with (first | ((with_reducible refine gate_callee (f := 84) rfl ?_); refine zgl 10 Try.func84 #[.pointer (some ⟨g, 0, none⟩)] ?_; refine (F8.calls g s0_0 s0_1 s0_2 t340 t341 t342 w0 _ (zi106 HI0) (zj106 HB) A5.out).mono ?_; rintro e w7 ⟨rfl, hi, hb, hk⟩; refine ⟨_, rfl, ?_⟩; replace HK := zkt HK hk; replace HB := zm (hb); replace HI0 := zm (hi); (try clear hb hk hi)))
  go_ret
  exact ⟨zre, zi106 HI0, zj106 HB, zk HK⟩
 rw [if_neg c4] at H
 have c4b0 := decide_eq_false c4
 clear c4
 replace H := zbi H
 obtain ⟨⟨t343, t344, t345⟩, A8, H⟩ := H
 try dsimp only at H
 replace H := zbi H
 obtain ⟨⟨t346, t347, t348⟩, A9, H⟩ := H
 try dsimp only at H
 replace H := zbi H
 obtain ⟨⟨t349, t350, t351⟩, A10, H⟩ := H
 try dsimp only at H
 by_cases c11 : a1 = 0
 ·rw [if_pos c11] at H
  exact absurd H (by simp)
 rw [if_neg c11] at H
 have c11b0 := z2 c11
 have c11b1 := z4 c11
 simp only [Option.some.injEq, Prod.mk.injEq] at H
 obtain ⟨rfl, rfl, rfl⟩ := H
 go_enter Try.func55, Try.ntmps55
 go_wp2_with (first | ((with_reducible refine gate_callee (f := 84) rfl ?_); refine zgl 14 Try.func84 #[.pointer (some ⟨g, 0, none⟩)] ?_; refine (F8.calls g s0_0 s0_1 s0_2 t343 t344 t345 w0 _ (zi106 HI0) (zj106 HB) A8.out).mono ?_; rintro e w12 ⟨rfl, hi, hb, hk⟩; refine ⟨_, rfl, ?_⟩; replace HK := zkt HK hk; replace HB := zm (hb); replace HI0 := zm (hi); (try clear hb hk hi)) | ((with_reducible refine gate_callee (f := 84) rfl ?_); refine zgl 17 Try.func84 #[.pointer (some ⟨g, 0, none⟩)] ?_; refine (F8.calls g s0_0 t344 t345 t346 t347 t348 w0 _ (zi106 HI0) (zj106 HB) A9.out).mono ?_; rintro e w13 ⟨rfl, hi, hb, hk⟩; refine ⟨_, rfl, ?_⟩; replace HK := zkt HK hk; replace HB := zm (hb); replace HI0 := zm (hi); (try clear hb hk hi)) | ((with_reducible refine gate_callee (f := 84) rfl ?_); refine zgl 21 Try.func84 #[.pointer (some ⟨g, 0, none⟩)] ?_; refine (F8.calls g s0_0 t347 t348 t349 t350 t351 w0 _ (zi106 HI0) (zj106 HB) A10.out).mono ?_; rintro e w14 ⟨rfl, hi, hb, hk⟩; refine ⟨_, rfl, ?_⟩; replace HK := zkt HK hk; replace HB := zm (hb); replace HI0 := zm (hi); (try clear hb hk hi)))
 go_ret
 exact ⟨zre, zi106 HI0, zj106 HB, zk HK⟩

/-! ### F15: function 80 -/
def F15.f (s0_0 : List Int) (s0_1 : Int) (s0_2 : Int) (a1 : Int) : Option (Bool × Int × Int) := (F1.f s0_0 s0_1 s0_2 a1).bind fun bt352 => (some ((bt352.1 == (wrap64 (a1 - 1))), bt352.2.1, bt352.2.2))
set_option maxHeartbeats 8000000 in
set_option maxRecDepth 100000 in
theorem F15.calls (g : Nat) (s0_0 : List Int) (s0_1 : Int) (s0_2 : Int) (a1 : Int) (r1 : Bool) (r2 : Int) (r3 : Int) (w0 w : World) (hI : IsS106 w0 w g s0_0 s0_1 s0_2) (hB : Below w0.heap.size w0 w) (h : F15.f s0_0 s0_1 s0_2 a1 = some (r1, r2, r3)) :
 Calls Try.prog 80 #[.pointer (some ⟨g, 0, none⟩), .int .i64 a1] w fun e w' => e = .returned (.bool r1) ∧ IsS106 w0 w' g s0_0 r2 r3 ∧ Below w0.heap.size w0 w' ∧ KeepBut w w' g none := by
 have HI0 := zm hI
 have HK := zm (KeepBut.refl w g none)
 have HL := zm hB.size
 clear hI
 have HW0 := zm hB.size
 have HB := zm hB
 clear hB
 have H := h
 unfold F15.f at H
 clear h
 replace H := zbi H
 obtain ⟨⟨t352, t353, t354⟩, A3, H⟩ := H
 try dsimp only at H
 simp only [Option.some.injEq, Prod.mk.injEq] at H
 obtain ⟨rfl, rfl, rfl⟩ := H
 go_enter Try.func80, Try.ntmps80
 go_wp2_with (first | ((with_reducible refine gate_callee (f := 55) rfl ?_); refine zgl 7 Try.func55 #[.pointer (some ⟨g, 0, none⟩), .int .i64 a1] ?_; refine (F1.calls g s0_0 s0_1 s0_2 a1 t352 t353 t354 w0 _ (zi106 HI0) (zj106 HB) A3.out).mono ?_; rintro e w4 ⟨rfl, hi, hb, hk⟩; refine ⟨_, rfl, ?_⟩; replace HK := zkt HK hk; replace HB := zm (hb); replace HI0 := zm (hi); (try clear hb hk hi)))
 go_ret
 exact ⟨zre, zi106 HI0, zj106 HB, zk HK⟩

/-! ### F25: function 81 -/
def F25.f : Nat → Int → Option (ByteArray)
 | 0, _ => none
 | k + 1, a0 => if a0 < 0 then ((F25.f k (wrap64 (-a0))).bind fun t355 => (if 1 + t355.size ≤ 9223372036854775807 then (some ((⟨#[45]⟩ : ByteArray) ++ t355)) else (none))) else (if a0 < 10 then (some (strOfNums (([(wrap64 (48 + a0)) % 256] : List Int)))) else ((F25.f k (wrap64 (Int.tdiv a0 10))).bind fun t359 => ((some (([(wrap64 (48 + (Int.tmod a0 10))) % 256] : List Int) : List Int)).bind fun y360 => (if t359.size + (strOfNums y360).size ≤ 9223372036854775807 then (some (t359 ++ (strOfNums y360))) else (none)))))
theorem F25.mono_l : ∀ k, (∀ y0, LeO (F25.f k y0) (F25.f (k + 1) y0))
 | 0 => fun _ r h => by simp [F25.f] at h
 | k + 1 => by
  have ih0 := F25.mono_l k
  ·intro y0
   unfold F25.f
   repeat' with_reducible first | exact ih0 _ | exact LeO.refl _ | exact LeO.none _ | refine LeO.ite ?_ ?_ | refine LeO.bind ?_ (fun _ => ?_)
theorem F25.mono : ∀ a0 k, LeO (F25.f k a0) (F25.f (k + 1) a0) := by
 intro a0 k
 have ih0 := F25.mono_l k
 exact ih0 a0
def F25.T5 : Bool × List (List Nat × List Nat) := (true, [([], []), ([0], [0]), ([1], [1]), ([], []), ([3], [3]), ([4], [4]), ([5], [5]), ([6], [6]), ([7], [7]), ([2, 8], [2, 8]), ([9, 2, 0, 1, 2, 3, 4, 5, 6, 7, 8, 9], [9])])
def F25.B5 : List Nat := [0, 1, 3, 0, 8, 24, 56, 120, 248, 511, 1023]
theorem F25.tab5 : rtab .any (opsOf Try.f81 5) = F25.T5 := by kernel_rfl
theorem F25.bits5 : waitsOk F25.T5.2 F25.B5 = true := by kernel_rfl
set_option maxHeartbeats 8000000 in
set_option maxRecDepth 100000 in
theorem F25.calls (k : Nat) : ∀ (a0 : Int) (r : ByteArray) (w : World) (h : F25.f k a0 = some r),
 Calls Try.prog 81 #[.int .i64 a0] w fun e w' => e = .returned (.string r) ∧ Below w.heap.size w w' := by
 induction k using Nat.strongRecOn with
 | _ k ih =>
 intro a0 r w h
 cases k with
 | zero => exact absurd h (by simp [F25.f])
 | succ k =>
 simp only [F25.f] at h
 have HB := zm (Below.refl w.heap.size w)
 have H : (if a0 < 0 then ((F25.f k (wrap64 (-a0))).bind fun t355 => (if 1 + t355.size ≤ 9223372036854775807 then (some ((⟨#[45]⟩ : ByteArray) ++ t355)) else (none))) else (if a0 < 10 then (some (strOfNums (([(wrap64 (48 + a0)) % 256] : List Int)))) else ((F25.f k (wrap64 (Int.tdiv a0 10))).bind fun t359 => ((some (([(wrap64 (48 + (Int.tmod a0 10))) % 256] : List Int) : List Int)).bind fun y360 => (if t359.size + (strOfNums y360).size ≤ 9223372036854775807 then (some (t359 ++ (strOfNums y360))) else (none)))))) = some r := h
 clear h
 by_cases c2 : a0 < 0
 ·rw [if_pos c2] at H
  have c2b0 := decide_eq_true c2
  clear c2
  replace H := zbi H
  obtain ⟨t355, A3, H⟩ := H
  try dsimp only at H
  replace H := zif H
  obtain ⟨c4, H⟩ := H
  have c4b0 := eq_true c4
  have c4b1 := decide_eq_true c4
  try have c4b2 : (9223372036854775807 < 1 + t355.size) = False := eq_false (Nat.not_lt.2 c4)
  obtain rfl := Option.some.inj H
  go_enter Try.func81, Try.ntmps81
  go_wp2_with (first | ((with_reducible refine gate_callee (f := 81) rfl ?_); refine zgl 7 Try.func81 #[.int .i64 (wrap64 (-a0))] ?_; (with_reducible refine (ih k (by omega) (wrap64 (-a0)) t355 _ A3.out).mono ?_); rintro e w5 ⟨rfl, hb⟩; refine ⟨_, rfl, ?_⟩; replace HB := zm (below_step (zh HB) hb); (try clear hb)))
  go_ret
  exact ⟨zre, zh HB⟩
 rw [if_neg c2] at H
 have c2b0 := decide_eq_false c2
 clear c2
 by_cases c7 : a0 < 10
 ·rw [if_pos c7] at H
  have c7b0 := decide_eq_true c7
  clear c7
  obtain ⟨y356, hy356⟩ : ∃ y_ : List Int, y_ = (([(wrap64 (48 + a0)) % 256] : List Int)) := ⟨_, rfl⟩
  replace H : (some (strOfNums y356)) = some r := zby hy356 H
  have Ny356 := zm hy356
  clear hy356
  obtain rfl := Option.some.inj H
  go_enter Try.func81, Try.ntmps81
  go_wp2_with (first | ((with_reducible refine gate_dst (N := 14) rfl ?_); refine Kd.R_lit (Kd.int .u8) _ 5 ?hg (N := 14) ?hd (xs := ([(wrap64 (48 + a0)) % 256] : List Int)) (inner := [.int .u8 ((wrap64 (48 + a0)) % 256)]) (ok := fun _ => True) (okp := fun _ => True) ?hr ?hp (fun _ hk => hk) trivial (Below.refl _ _) (Nat.le_refl _) (by simp) ?_; (case hd => rfl); (case hg => rfl); (case hr => first | (go_simp; done) | (go_simp; rfl)); (case hp => exact (Reps.one (show Kd.M (Kd.int .u8) _ _ _ ((wrap64 (48 + a0)) % 256) [.int .u8 ((wrap64 (48 + a0)) % 256)] from rfl) (Reps.none _ _))); intro v357 w8 ho9 hb hg_ hnew_; clear hg_ hnew_; (first | rw [← Ny356.out] at ho9 | (simp only [Int.reduceToNat] at ho9; rw [← Ny356.out] at ho9)); have HO358 := zm (Kd.R_lower ho9 (below_size (zh HB))); replace HB := zm (below_step (zh HB) hb); clear hb ho9; have hcv10 := own_string (P := Try.prog) Try.underlying26 Try.underlying5 Try.underlying9 (Kd.own_of_R HO358.out)))
  go_ret
  exact ⟨zre, zh HB⟩
 rw [if_neg c7] at H
 have c7b0 := decide_eq_false c7
 clear c7
 replace H := zbi H
 obtain ⟨t359, A11, H⟩ := H
 try dsimp only at H
 obtain ⟨y360, hy360⟩ : ∃ y_ : List Int, y_ = (([(wrap64 (48 + (Int.tmod a0 10))) % 256] : List Int)) := ⟨_, rfl⟩
 replace H : (if t359.size + (strOfNums y360).size ≤ 9223372036854775807 then (some (t359 ++ (strOfNums y360))) else (none)) = some r := zby hy360 H
 have Ny360 := zm hy360
 clear hy360
 by_cases c12 : t359.size + (strOfNums y360).size ≤ 9223372036854775807
 rotate_left
 ·rw [if_neg c12] at H
  exact absurd H (by simp)

 rw [if_pos c12] at H
 have c12b0 := eq_true c12
 have c12b1 := decide_eq_true c12
 try have c12b2 : (9223372036854775807 < t359.size + (strOfNums y360).size) = False := eq_false (Nat.not_lt.2 c12)
 obtain rfl := Option.some.inj H
 go_enter Try.func81, Try.ntmps81
 try go_wp2
 replace HB := zm (below_drew1 HB.out)
 refine start_ (n := 11) (S := fun w' => True) (ds := []) (fl9_ 11 0) (by kernel_rfl) rfl rfl trivial (fun hHeld => ?_); refine with_tabW F25.tab5 F25.bits5 (fun HT_ HW_ => ?_)
 generalize w.drew = w13 at HB hHeld ⊢
 refine zpu HT_ 0 16 (fl9_ 11 1) ?_
 refine zpu HT_ 1 17 (fl9_ 11 3) ?_
 refine zpu HT_ 3 19 (fl9_ 11 11) ?_
 refine zpu HT_ 4 20 (fl9_ 11 27) ?_
 refine zpu HT_ 5 21 (fl9_ 11 59) ?_
 refine zpu HT_ 6 22 (fl9_ 11 123) ?_
 refine join_ (σ := Value) 2 (fl9_ 11 511) (fun s_ => [(18, .string t359), (23, s_), (24, .string (strOfNums y360))]) (fun s_ w' => (Kd.R (Kd.int .u8) 5 w' w.heap.size (fun _ => True) s_ y360) ∧ (Below w.heap.size w w')) ?_ ?_
 rotate_left
 ·intro hCont
  refine two_ (i := 2) (j := 7) (Ni := some 18) (Nj := some 23) (fl9_ 11 127) (fl9_ 11 251) rfl rfl rfl rfl (two_of HT_.out (by kernel_rfl)) (by decide) (by decide) (fun K hK => ?_) (fun K hK => ?_)
  ·skip
   refine goes_ Try.func81 (by kernel_rfl) rfl #[.int .i64 (wrap64 (Int.tdiv a0 10))] (by rfl) rfl rfl zar ?_
   with_reducible refine (ih k (by omega) (wrap64 (Int.tdiv a0 10)) t359 _ A11.out).mono ?_
   rintro e w14 ⟨rfl, hb⟩
   refine ⟨_, rfl, ?_⟩
   replace HB := zm (below_step (zh HB) hb)
   (try clear hb)
   refine hK.out _ _ trivial (fun hHeld => ?_)
   clear hK K
   refine norm_ zac ?_
   refine zon HT_ 7 23 (fl9_ 11 255) (fun K hK => ?_)
   refine Kd.R_lit_step (Kd.int .u8) _ 5 ?hg (N := 23) ?hd (xs := ([(wrap64 (48 + (Int.tmod a0 10))) % 256] : List Int)) (inner := [.int .u8 ((wrap64 (48 + (Int.tmod a0 10))) % 256)]) (ok := fun _ => True) (okp := fun _ => True) ?hr ?hp (fun _ hk => hk) trivial (Below.refl _ _) (Nat.le_refl _) (by simp) ?_; (case hd => rfl); (case hg => rfl); (case hr => first | (go_simp; done) | (go_simp; rfl)); (case hp => exact (Reps.one (show Kd.M (Kd.int .u8) _ _ _ ((wrap64 (48 + (Int.tmod a0 10))) % 256) [.int .u8 ((wrap64 (48 + (Int.tmod a0 10))) % 256)] from rfl) (Reps.none _ _)))
   intro v361 w16 ho17 hb hg_ hnew_
   clear hg_ hnew_
   (first | rw [← Ny360.out] at ho17 | (simp only [Int.reduceToNat] at ho17; rw [← Ny360.out] at ho17))
   have HO362 := zm (Kd.R_lower ho17 (below_size (zh HB)))
   replace HB := zm (below_step (zh HB) hb)
   clear hb ho17
   refine hK.out _ _ trivial (fun hHeld => ?_)
   clear hK K
   refine norm_ zac ?_
   refine zon HT_ 8 24 (fl9_ 11 511) (fun K hK => ?_)
   have hcv18 := own_string (P := Try.prog) Try.underlying26 Try.underlying5 Try.underlying9 (Kd.own_of_R HO362.out)
   refine value_ (w1 := ?_) (v := ?_) (by rfl) rfl ?_ ?_
   rotate_left 2
   ·go_simp
    constructor
    ·rfl
    ·rfl
   clear hcv18
   refine hK.out _ _ trivial (fun hHeld => ?_)
   clear hK K
   refine norm_ zac ?_
   exact norm_ zpa (hCont (v361) _ ⟨(zr HO362), (zh HB)⟩)
  ·skip
   refine Kd.R_lit_step (Kd.int .u8) _ 5 ?hg (N := 23) ?hd (xs := ([(wrap64 (48 + (Int.tmod a0 10))) % 256] : List Int)) (inner := [.int .u8 ((wrap64 (48 + (Int.tmod a0 10))) % 256)]) (ok := fun _ => True) (okp := fun _ => True) ?hr ?hp (fun _ hk => hk) trivial (Below.refl _ _) (Nat.le_refl _) (by simp) ?_; (case hd => rfl); (case hg => rfl); (case hr => first | (go_simp; done) | (go_simp; rfl)); (case hp => exact (Reps.one (show Kd.M (Kd.int .u8) _ _ _ ((wrap64 (48 + (Int.tmod a0 10))) % 256) [.int .u8 ((wrap64 (48 + (Int.tmod a0 10))) % 256)] from rfl) (Reps.none _ _)))
   intro v361 w14 ho15 hb hg_ hnew_
   clear hg_ hnew_
   (first | rw [← Ny360.out] at ho15 | (simp only [Int.reduceToNat] at ho15; rw [← Ny360.out] at ho15))
   have HO362 := zm (Kd.R_lower ho15 (below_size (zh HB)))
   replace HB := zm (below_step (zh HB) hb)
   clear hb ho15
   refine hK.out _ _ trivial (fun hHeld => ?_)
   clear hK K
   refine norm_ zac ?_
   refine two_ (i := 2) (j := 8) (Ni := some 18) (Nj := some 24) (fl9_ 11 255) (fl9_ 11 507) rfl rfl rfl rfl (two_of HT_.out (by kernel_rfl)) (by decide) (by decide) (fun K hK => ?_) (fun K hK => ?_)
   ·skip
    refine goes_ Try.func81 (by kernel_rfl) rfl #[.int .i64 (wrap64 (Int.tdiv a0 10))] (by rfl) rfl rfl zar ?_
    with_reducible refine (ih k (by omega) (wrap64 (Int.tdiv a0 10)) t359 _ A11.out).mono ?_
    rintro e w16 ⟨rfl, hb⟩
    refine ⟨_, rfl, ?_⟩
    replace HO362 := zm (Kd.R_below (zr HO362) hb)
    replace HB := zm (below_step (zh HB) hb)
    (try clear hb)
    refine hK.out _ _ trivial (fun hHeld => ?_)
    clear hK K
    refine norm_ zac ?_
    refine zon HT_ 8 24 (fl9_ 11 511) (fun K hK => ?_)
    have hcv18 := own_string (P := Try.prog) Try.underlying26 Try.underlying5 Try.underlying9 (Kd.own_of_R HO362.out)
    refine value_ (w1 := ?_) (v := ?_) (by rfl) rfl ?_ ?_
    rotate_left 2
    ·go_simp
     constructor
     ·rfl
     ·rfl
    clear hcv18
    refine hK.out _ _ trivial (fun hHeld => ?_)
    clear hK K
    refine norm_ zac ?_
    exact norm_ zpa (hCont (v361) _ ⟨(zr HO362), (zh HB)⟩)
   ·skip
    have hcv16 := own_string (P := Try.prog) Try.underlying26 Try.underlying5 Try.underlying9 (Kd.own_of_R HO362.out)
    refine value_ (w1 := ?_) (v := ?_) (by rfl) rfl ?_ ?_
    rotate_left 2
    ·go_simp
     constructor
     ·rfl
     ·rfl
    clear hcv16
    refine hK.out _ _ trivial (fun hHeld => ?_)
    clear hK K
    refine norm_ zac ?_
    refine zon HT_ 2 18 (fl9_ 11 511) (fun K hK => ?_)
    refine goes_ Try.func81 (by kernel_rfl) rfl #[.int .i64 (wrap64 (Int.tdiv a0 10))] (by rfl) rfl rfl zar ?_
    with_reducible refine (ih k (by omega) (wrap64 (Int.tdiv a0 10)) t359 _ A11.out).mono ?_
    rintro e w17 ⟨rfl, hb⟩
    refine ⟨_, rfl, ?_⟩
    replace HO362 := zm (Kd.R_below (zr HO362) hb)
    replace HB := zm (below_step (zh HB) hb)
    (try clear hb)
    refine hK.out _ _ trivial (fun hHeld => ?_)
    clear hK K
    refine norm_ zac ?_
    exact norm_ zpa (hCont (v361) _ ⟨(zr HO362), (zh HB)⟩)
 rintro v361 w19 ⟨h0_, h1_⟩
 have n0_ : Aside0 (Kd.R (Kd.int .u8) 5 w19 w.heap.size (fun _ => True) v361 y360) := ⟨h0_⟩
 have n1_ : Aside0 (Below w.heap.size w w19) := ⟨h1_⟩
 clear HB
 clear h0_ h1_
 have HO362 := n0_
 have HB := n1_
 clear n0_ n1_
 have hHeld := trivial
 refine norm_ (a' := ?_) ?_ ?_
 rotate_left
 ·simp only [putAll, Act.put, List.setIfInBounds_toArray, List.set_cons_zero, List.set_cons_succ]
  rfl
 refine zpu HT_ 9 25 (fl9_ 11 1023) ?_
 refine zpu HT_ 10 2 (fl9_ 11 2047) ?_
 refine done_ (done_of HT_.out (by kernel_rfl)) ?_
 try go_wp2
 go_ret
 exact ⟨zre, zh HB⟩
/-! ### F45: function 99 -/
def F45.f (s0_0 : List Int) (s0_1 : Int) (s0_2 : Int) : Option (ByteArray × Int × Int) := (some (([(⟨#[114, 117, 110]⟩ : ByteArray), (⟨#[114, 117, 110, 110, 105, 110, 103]⟩ : ByteArray), (⟨#[114, 117, 110, 115]⟩ : ByteArray), (⟨#[114, 97, 110]⟩ : ByteArray), (⟨#[99, 97, 116]⟩ : ByteArray), (⟨#[99, 97, 116, 115]⟩ : ByteArray), (⟨#[116, 104, 101]⟩ : ByteArray), (⟨#[111, 102]⟩ : ByteArray), (⟨#[104, 111, 117, 115, 101]⟩ : ByteArray), (⟨#[104, 111, 117, 115, 101, 115]⟩ : ByteArray), (⟨#[113, 117, 105, 99, 107]⟩ : ByteArray), (⟨#[102, 111, 120]⟩ : ByteArray), (⟨#[105, 116, 39, 115]⟩ : ByteArray), (⟨#[120, 95, 49]⟩ : ByteArray), (⟨#[195, 156, 98, 101, 114]⟩ : ByteArray), (⟨#[99, 97, 102, 195, 169]⟩ : ByteArray), (⟨#[67, 97, 116]⟩ : ByteArray), (⟨#[52, 50]⟩ : ByteArray), (⟨#[55]⟩ : ByteArray), (⟨#[208, 150, 97, 114]⟩ : ByteArray), (⟨#[228, 184, 173]⟩ : ByteArray), (⟨#[206, 169, 109, 101, 103, 97]⟩ : ByteArray), (⟨#[115, 116, 111, 112, 112, 101, 100]⟩ : ByteArray), (⟨#[113, 117, 105, 99, 107, 108, 121]⟩ : ByteArray), (⟨#[108, 97, 100, 105, 101, 115]⟩ : ByteArray)] : List ByteArray) : List ByteArray)).bind fun y363 => ((F1.f s0_0 s0_1 s0_2 (y363.length : Int)).bind fun bt366 => (if 0 ≤ bt366.1 then (if bt366.1 < (y363.length : Int) then (some (rdOf ByteArray.empty y363 bt366.1, bt366.2.1, bt366.2.2)) else (none)) else (none)))
set_option maxHeartbeats 8000000 in
set_option maxRecDepth 100000 in
theorem F45.calls (g : Nat) (s0_0 : List Int) (s0_1 : Int) (s0_2 : Int) (r1 : ByteArray) (r2 : Int) (r3 : Int) (w0 w : World) (hI : IsS106 w0 w g s0_0 s0_1 s0_2) (hB : Below w0.heap.size w0 w) (h : F45.f s0_0 s0_1 s0_2 = some (r1, r2, r3)) :
 Calls Try.prog 99 #[.pointer (some ⟨g, 0, none⟩)] w fun e w' => e = .returned (.string r1) ∧ IsS106 w0 w' g s0_0 r2 r3 ∧ Below w0.heap.size w0 w' ∧ KeepBut w w' g none := by
 have HI0 := zm hI
 have HK := zm (KeepBut.refl w g none)
 have HL := zm hB.size
 clear hI
 have HW0 := zm hB.size
 have HB := zm hB
 clear hB
 have H := h
 unfold F45.f at H
 clear h
 obtain ⟨y363, hy363⟩ : ∃ y_ : List ByteArray, y_ = (([(⟨#[114, 117, 110]⟩ : ByteArray), (⟨#[114, 117, 110, 110, 105, 110, 103]⟩ : ByteArray), (⟨#[114, 117, 110, 115]⟩ : ByteArray), (⟨#[114, 97, 110]⟩ : ByteArray), (⟨#[99, 97, 116]⟩ : ByteArray), (⟨#[99, 97, 116, 115]⟩ : ByteArray), (⟨#[116, 104, 101]⟩ : ByteArray), (⟨#[111, 102]⟩ : ByteArray), (⟨#[104, 111, 117, 115, 101]⟩ : ByteArray), (⟨#[104, 111, 117, 115, 101, 115]⟩ : ByteArray), (⟨#[113, 117, 105, 99, 107]⟩ : ByteArray), (⟨#[102, 111, 120]⟩ : ByteArray), (⟨#[105, 116, 39, 115]⟩ : ByteArray), (⟨#[120, 95, 49]⟩ : ByteArray), (⟨#[195, 156, 98, 101, 114]⟩ : ByteArray), (⟨#[99, 97, 102, 195, 169]⟩ : ByteArray), (⟨#[67, 97, 116]⟩ : ByteArray), (⟨#[52, 50]⟩ : ByteArray), (⟨#[55]⟩ : ByteArray), (⟨#[208, 150, 97, 114]⟩ : ByteArray), (⟨#[228, 184, 173]⟩ : ByteArray), (⟨#[206, 169, 109, 101, 103, 97]⟩ : ByteArray), (⟨#[115, 116, 111, 112, 112, 101, 100]⟩ : ByteArray), (⟨#[113, 117, 105, 99, 107, 108, 121]⟩ : ByteArray), (⟨#[108, 97, 100, 105, 101, 115]⟩ : ByteArray)] : List ByteArray)) := ⟨_, rfl⟩
 replace H : ((F1.f s0_0 s0_1 s0_2 (y363.length : Int)).bind fun bt366 => (if 0 ≤ bt366.1 then (if bt366.1 < (y363.length : Int) then (some (rdOf ByteArray.empty y363 bt366.1, bt366.2.1, bt366.2.2)) else (none)) else (none))) = some (r1, r2, r3) := zby hy363 H
 have Ny363 := zm hy363
 clear hy363
 replace H := zbi H
 obtain ⟨⟨t366, t367, t368⟩, A2, H⟩ := H
 try dsimp only at H
 by_cases c3 : 0 ≤ t366
 rotate_left
 ·rw [if_neg c3] at H
  exact absurd H (by simp)

 rw [if_pos c3] at H
 have c3b0 := decide_eq_true c3
 clear c3
 replace H := zif H
 obtain ⟨c4, H⟩ := H
 have c4b0 := decide_eq_true c4
 clear c4
 simp only [Option.some.injEq, Prod.mk.injEq] at H
 obtain ⟨rfl, rfl, rfl⟩ := H
 go_enter Try.func99, Try.ntmps99
 go_wp2_with (first | ((with_reducible refine gate_dst (N := 4) rfl ?_); refine Kd.R_lit Kd.string _ 9 ?hg (N := 4) ?hd (xs := ([(⟨#[114, 117, 110]⟩ : ByteArray), (⟨#[114, 117, 110, 110, 105, 110, 103]⟩ : ByteArray), (⟨#[114, 117, 110, 115]⟩ : ByteArray), (⟨#[114, 97, 110]⟩ : ByteArray), (⟨#[99, 97, 116]⟩ : ByteArray), (⟨#[99, 97, 116, 115]⟩ : ByteArray), (⟨#[116, 104, 101]⟩ : ByteArray), (⟨#[111, 102]⟩ : ByteArray), (⟨#[104, 111, 117, 115, 101]⟩ : ByteArray), (⟨#[104, 111, 117, 115, 101, 115]⟩ : ByteArray), (⟨#[113, 117, 105, 99, 107]⟩ : ByteArray), (⟨#[102, 111, 120]⟩ : ByteArray), (⟨#[105, 116, 39, 115]⟩ : ByteArray), (⟨#[120, 95, 49]⟩ : ByteArray), (⟨#[195, 156, 98, 101, 114]⟩ : ByteArray), (⟨#[99, 97, 102, 195, 169]⟩ : ByteArray), (⟨#[67, 97, 116]⟩ : ByteArray), (⟨#[52, 50]⟩ : ByteArray), (⟨#[55]⟩ : ByteArray), (⟨#[208, 150, 97, 114]⟩ : ByteArray), (⟨#[228, 184, 173]⟩ : ByteArray), (⟨#[206, 169, 109, 101, 103, 97]⟩ : ByteArray), (⟨#[115, 116, 111, 112, 112, 101, 100]⟩ : ByteArray), (⟨#[113, 117, 105, 99, 107, 108, 121]⟩ : ByteArray), (⟨#[108, 97, 100, 105, 101, 115]⟩ : ByteArray)] : List ByteArray)) (inner := [.string (⟨#[114, 117, 110]⟩ : ByteArray), .string (⟨#[114, 117, 110, 110, 105, 110, 103]⟩ : ByteArray), .string (⟨#[114, 117, 110, 115]⟩ : ByteArray), .string (⟨#[114, 97, 110]⟩ : ByteArray), .string (⟨#[99, 97, 116]⟩ : ByteArray), .string (⟨#[99, 97, 116, 115]⟩ : ByteArray), .string (⟨#[116, 104, 101]⟩ : ByteArray), .string (⟨#[111, 102]⟩ : ByteArray), .string (⟨#[104, 111, 117, 115, 101]⟩ : ByteArray), .string (⟨#[104, 111, 117, 115, 101, 115]⟩ : ByteArray), .string (⟨#[113, 117, 105, 99, 107]⟩ : ByteArray), .string (⟨#[102, 111, 120]⟩ : ByteArray), .string (⟨#[105, 116, 39, 115]⟩ : ByteArray), .string (⟨#[120, 95, 49]⟩ : ByteArray), .string (⟨#[195, 156, 98, 101, 114]⟩ : ByteArray), .string (⟨#[99, 97, 102, 195, 169]⟩ : ByteArray), .string (⟨#[67, 97, 116]⟩ : ByteArray), .string (⟨#[52, 50]⟩ : ByteArray), .string (⟨#[55]⟩ : ByteArray), .string (⟨#[208, 150, 97, 114]⟩ : ByteArray), .string (⟨#[228, 184, 173]⟩ : ByteArray), .string (⟨#[206, 169, 109, 101, 103, 97]⟩ : ByteArray), .string (⟨#[115, 116, 111, 112, 112, 101, 100]⟩ : ByteArray), .string (⟨#[113, 117, 105, 99, 107, 108, 121]⟩ : ByteArray), .string (⟨#[108, 97, 100, 105, 101, 115]⟩ : ByteArray)]) (ok := fun _ => True) (okp := fun _ => True) ?hr ?hp (fun _ hk => hk) trivial (Below.refl _ _) (Nat.le_refl _) (by simp) ?_; (case hd => rfl); (case hg => rfl); (case hr => first | (go_simp; done) | (go_simp; rfl)); (case hp => exact (Reps.one (show Kd.M Kd.string _ _ _ (⟨#[114, 117, 110]⟩ : ByteArray) [.string (⟨#[114, 117, 110]⟩ : ByteArray)] from rfl) (Reps.one (show Kd.M Kd.string _ _ _ (⟨#[114, 117, 110, 110, 105, 110, 103]⟩ : ByteArray) [.string (⟨#[114, 117, 110, 110, 105, 110, 103]⟩ : ByteArray)] from rfl) (Reps.one (show Kd.M Kd.string _ _ _ (⟨#[114, 117, 110, 115]⟩ : ByteArray) [.string (⟨#[114, 117, 110, 115]⟩ : ByteArray)] from rfl) (Reps.one (show Kd.M Kd.string _ _ _ (⟨#[114, 97, 110]⟩ : ByteArray) [.string (⟨#[114, 97, 110]⟩ : ByteArray)] from rfl) (Reps.one (show Kd.M Kd.string _ _ _ (⟨#[99, 97, 116]⟩ : ByteArray) [.string (⟨#[99, 97, 116]⟩ : ByteArray)] from rfl) (Reps.one (show Kd.M Kd.string _ _ _ (⟨#[99, 97, 116, 115]⟩ : ByteArray) [.string (⟨#[99, 97, 116, 115]⟩ : ByteArray)] from rfl) (Reps.one (show Kd.M Kd.string _ _ _ (⟨#[116, 104, 101]⟩ : ByteArray) [.string (⟨#[116, 104, 101]⟩ : ByteArray)] from rfl) (Reps.one (show Kd.M Kd.string _ _ _ (⟨#[111, 102]⟩ : ByteArray) [.string (⟨#[111, 102]⟩ : ByteArray)] from rfl) (Reps.one (show Kd.M Kd.string _ _ _ (⟨#[104, 111, 117, 115, 101]⟩ : ByteArray) [.string (⟨#[104, 111, 117, 115, 101]⟩ : ByteArray)] from rfl) (Reps.one (show Kd.M Kd.string _ _ _ (⟨#[104, 111, 117, 115, 101, 115]⟩ : ByteArray) [.string (⟨#[104, 111, 117, 115, 101, 115]⟩ : ByteArray)] from rfl) (Reps.one (show Kd.M Kd.string _ _ _ (⟨#[113, 117, 105, 99, 107]⟩ : ByteArray) [.string (⟨#[113, 117, 105, 99, 107]⟩ : ByteArray)] from rfl) (Reps.one (show Kd.M Kd.string _ _ _ (⟨#[102, 111, 120]⟩ : ByteArray) [.string (⟨#[102, 111, 120]⟩ : ByteArray)] from rfl) (Reps.one (show Kd.M Kd.string _ _ _ (⟨#[105, 116, 39, 115]⟩ : ByteArray) [.string (⟨#[105, 116, 39, 115]⟩ : ByteArray)] from rfl) (Reps.one (show Kd.M Kd.string _ _ _ (⟨#[120, 95, 49]⟩ : ByteArray) [.string (⟨#[120, 95, 49]⟩ : ByteArray)] from rfl) (Reps.one (show Kd.M Kd.string _ _ _ (⟨#[195, 156, 98, 101, 114]⟩ : ByteArray) [.string (⟨#[195, 156, 98, 101, 114]⟩ : ByteArray)] from rfl) (Reps.one (show Kd.M Kd.string _ _ _ (⟨#[99, 97, 102, 195, 169]⟩ : ByteArray) [.string (⟨#[99, 97, 102, 195, 169]⟩ : ByteArray)] from rfl) (Reps.one (show Kd.M Kd.string _ _ _ (⟨#[67, 97, 116]⟩ : ByteArray) [.string (⟨#[67, 97, 116]⟩ : ByteArray)] from rfl) (Reps.one (show Kd.M Kd.string _ _ _ (⟨#[52, 50]⟩ : ByteArray) [.string (⟨#[52, 50]⟩ : ByteArray)] from rfl) (Reps.one (show Kd.M Kd.string _ _ _ (⟨#[55]⟩ : ByteArray) [.string (⟨#[55]⟩ : ByteArray)] from rfl) (Reps.one (show Kd.M Kd.string _ _ _ (⟨#[208, 150, 97, 114]⟩ : ByteArray) [.string (⟨#[208, 150, 97, 114]⟩ : ByteArray)] from rfl) (Reps.one (show Kd.M Kd.string _ _ _ (⟨#[228, 184, 173]⟩ : ByteArray) [.string (⟨#[228, 184, 173]⟩ : ByteArray)] from rfl) (Reps.one (show Kd.M Kd.string _ _ _ (⟨#[206, 169, 109, 101, 103, 97]⟩ : ByteArray) [.string (⟨#[206, 169, 109, 101, 103, 97]⟩ : ByteArray)] from rfl) (Reps.one (show Kd.M Kd.string _ _ _ (⟨#[115, 116, 111, 112, 112, 101, 100]⟩ : ByteArray) [.string (⟨#[115, 116, 111, 112, 112, 101, 100]⟩ : ByteArray)] from rfl) (Reps.one (show Kd.M Kd.string _ _ _ (⟨#[113, 117, 105, 99, 107, 108, 121]⟩ : ByteArray) [.string (⟨#[113, 117, 105, 99, 107, 108, 121]⟩ : ByteArray)] from rfl) (Reps.one (show Kd.M Kd.string _ _ _ (⟨#[108, 97, 100, 105, 101, 115]⟩ : ByteArray) [.string (⟨#[108, 97, 100, 105, 101, 115]⟩ : ByteArray)] from rfl) (Reps.none _ _))))))))))))))))))))))))))); intro v364 w5 ho6 hb hg_ hnew_; clear hg_ hnew_; (first | rw [← Ny363.out] at ho6 | (simp only [Int.reduceToNat] at ho6; rw [← Ny363.out] at ho6)); have HO365 := zm (Kd.R_lower ho6 (keep_size (w := w) (g := g) (row := none) (zk HK))); replace HI0 := zm (IsS106.below (zi106 HI0) hb); replace HK := zkB HK hb; replace HB := zm (below_step (zj106 HB) hb); clear hb ho6; obtain ⟨Ao7, co7, eo7⟩ := Kd.R_slice HO365.out; subst eo7) | ((with_reducible refine gate_callee (f := 55) rfl ?_); refine zgl 9 Try.func55 #[.pointer (some ⟨g, 0, none⟩), .int .i64 (y363.length : Int)] ?_; refine (F1.calls g s0_0 s0_1 s0_2 (y363.length : Int) t366 t367 t368 w0 _ (zi106 HI0) (zj106 HB) A2.out).mono ?_; rintro e w8 ⟨rfl, hi, hb, hk⟩; refine ⟨_, rfl, ?_⟩; replace HO365 := zKR106 HI0 HO365 hk; replace HK := zkt HK hk; replace HB := zm (hb); replace HI0 := zm (hi); (try clear hb hk hi); have p369 : 0 ≤ (t366 : Int) := of_decide_eq_true zas; have q369 : t366 < (y363.length : Int) := of_decide_eq_true zas; obtain ⟨ad369, e369, hx369_0⟩ := Kd.at_string (Kd.R_reads' HO365.out).2.2 t366 p369 q369; cases e369; replace p369 := eq_true p369; replace q369 := eq_true q369))
 go_ret
 exact ⟨zre, zi106 HI0, zj106 HB, zk HK⟩
/-! ### F17: function 97 -/
def F17.l0 : Nat → Int → ByteArray → List Int → Int → Int → Option (ByteArray × Int × Int)
 | 0, _, _, _, _, _ => none
 | k + 1, x1, x5, x1000, x1001, x1002 => if x1 > 0 then ((F45.f x1000 x1001 x1002).bind fun bt370 => (if x5.size + bt370.1.size ≤ 9223372036854775807 then ((some (([(⟨#[32]⟩ : ByteArray), (⟨#[32]⟩ : ByteArray), (⟨#[32]⟩ : ByteArray), (⟨#[44, 32]⟩ : ByteArray), (⟨#[46, 10]⟩ : ByteArray), (⟨#[39]⟩ : ByteArray), (⟨#[45]⟩ : ByteArray), (⟨#[95, 32]⟩ : ByteArray), (⟨#[32, 32]⟩ : ByteArray), (⟨#[228, 184, 173]⟩ : ByteArray)] : List ByteArray) : List ByteArray)).bind fun y373 => ((F1.f x1000 bt370.2.1 bt370.2.2 10).bind fun bt376 => (if 0 ≤ bt376.1 then (if bt376.1 < (y373.length : Int) then (if (x5 ++ bt370.1).size + (rdOf ByteArray.empty y373 bt376.1).size ≤ 9223372036854775807 then (F17.l0 k (wrap64 (x1 - 1)) ((x5 ++ bt370.1) ++ (rdOf ByteArray.empty y373 bt376.1)) x1000 bt376.2.1 bt376.2.2) else (none)) else (none)) else (none)))) else (none))) else (some (x5, x1001, x1002))
def F17.f (k : Nat) (s0_0 : List Int) (s0_1 : Int) (s0_2 : Int) (a1 : Int) : Option (ByteArray × Int × Int) := F17.l0 k a1 (⟨#[]⟩ : ByteArray) s0_0 s0_1 s0_2
theorem F17.mono_l : ∀ k, (∀ y0 y1 y2 y3 y4, LeO (F17.l0 k y0 y1 y2 y3 y4) (F17.l0 (k + 1) y0 y1 y2 y3 y4))
 | 0 => fun _ _ _ _ _ r h => by simp [F17.l0] at h
 | k + 1 => by
  have ih0 := F17.mono_l k
  ·intro y0 y1 y2 y3 y4
   unfold F17.l0
   repeat' with_reducible first | exact ih0 _ _ _ _ _ | exact LeO.refl _ | exact LeO.none _ | refine LeO.ite ?_ ?_ | refine LeO.bind ?_ (fun _ => ?_)
theorem F17.mono : ∀ a0 a1 a2 a3 k, LeO (F17.f k a0 a1 a2 a3) (F17.f (k + 1) a0 a1 a2 a3) := by
 intro a0 a1 a2 a3 k
 have ih0 := F17.mono_l k
 unfold F17.f
 repeat' with_reducible first | exact ih0 _ _ _ _ _ | exact LeO.refl _ | exact LeO.none _ | refine LeO.ite ?_ ?_ | refine LeO.bind ?_ (fun _ => ?_)
set_option maxHeartbeats 8000000 in
set_option maxRecDepth 100000 in
theorem F17.calls (k : Nat) (g : Nat) (s0_0 : List Int) (s0_1 : Int) (s0_2 : Int) (a1 : Int) (r1 : ByteArray) (r2 : Int) (r3 : Int) (w0 w : World) (hI : IsS106 w0 w g s0_0 s0_1 s0_2) (hB : Below w0.heap.size w0 w) (h : F17.f k s0_0 s0_1 s0_2 a1 = some (r1, r2, r3)) :
 Calls Try.prog 97 #[.pointer (some ⟨g, 0, none⟩), .int .i64 a1] w fun e w' => e = .returned (.string r1) ∧ IsS106 w0 w' g s0_0 r2 r3 ∧ Below w0.heap.size w0 w' ∧ KeepBut w w' g none := by
 have HI0 := zm hI
 have HK := zm (KeepBut.refl w g none)
 have HL := zm hB.size
 clear hI
 have HW0 := zm hB.size
 have HB := zm hB
 clear hB
 have H := h
 unfold F17.f at H
 clear h
 have H' := zm H
 clear H
 go_enter Try.func97, Try.ntmps97
 go_wp2
 go_loopg [1, 5] k (fun kq v1 v5 w' => ∃ (x1_1 : Int) (x5_1 : ByteArray) (x1001_1 : Int) (x1002_1 : Int), v1 = .int .i64 x1_1 ∧ v5 = .string x5_1 ∧ Aside0 (F17.l0 kq x1_1 x5_1 s0_0 x1001_1 x1002_1 = some (r1, r2, r3)) ∧ Aside0 (kq ≤ k) ∧ Aside0 (IsS106 w0 w' g s0_0 x1001_1 x1002_1) ∧ Aside0 (KeepBut w w' g none) ∧ Aside0 (Below w0.heap.size w0 w'))
 case atStart => exact ⟨(a1), ((⟨#[]⟩ : ByteArray)), (s0_1), (s0_2), zrs, zrs, H', ⟨Nat.le_refl _⟩, ⟨zi106 HI0⟩, ⟨zk HK⟩, ⟨zj106 HB⟩⟩
 case round =>
  clear H'
  obtain ⟨x1_1, x5_1, x1001_1, x1002_1, rfl, rfl, HA, HK1, HI0, HK, HB⟩ := hrel
  cases gk with
  | zero => exact absurd HA.out (by simp [F17.l0])
  | succ k1 =>
   have H := HA.out
   clear HA
   simp only [F17.l0] at H
   by_cases c3 : x1_1 > 0
   rotate_left
   ·rw [if_neg c3] at H
    have c3b0 := decide_eq_false c3
    clear c3
    simp only [Option.some.injEq, Prod.mk.injEq] at H
    obtain ⟨rfl, rfl, rfl⟩ := H
    go_wp2
    go_ret
    exact ⟨zre, zi106 HI0, zj106 HB, zk HK⟩

   rw [if_pos c3] at H
   have c3b0 := decide_eq_true c3
   clear c3
   replace H := zbi H
   obtain ⟨⟨t370, t371, t372⟩, A4, H⟩ := H
   try dsimp only at H
   replace H := zif H
   obtain ⟨c5, H⟩ := H
   have c5b0 := eq_true c5
   have c5b1 := decide_eq_true c5
   try have c5b2 : (9223372036854775807 < x5_1.size + t370.size) = False := eq_false (Nat.not_lt.2 c5)
   obtain ⟨y373, hy373⟩ : ∃ y_ : List ByteArray, y_ = (([(⟨#[32]⟩ : ByteArray), (⟨#[32]⟩ : ByteArray), (⟨#[32]⟩ : ByteArray), (⟨#[44, 32]⟩ : ByteArray), (⟨#[46, 10]⟩ : ByteArray), (⟨#[39]⟩ : ByteArray), (⟨#[45]⟩ : ByteArray), (⟨#[95, 32]⟩ : ByteArray), (⟨#[32, 32]⟩ : ByteArray), (⟨#[228, 184, 173]⟩ : ByteArray)] : List ByteArray)) := ⟨_, rfl⟩
   replace H : ((F1.f s0_0 t371 t372 10).bind fun bt376 => (if 0 ≤ bt376.1 then (if bt376.1 < (y373.length : Int) then (if (x5_1 ++ t370).size + (rdOf ByteArray.empty y373 bt376.1).size ≤ 9223372036854775807 then (F17.l0 k1 (wrap64 (x1_1 - 1)) ((x5_1 ++ t370) ++ (rdOf ByteArray.empty y373 bt376.1)) s0_0 bt376.2.1 bt376.2.2) else (none)) else (none)) else (none))) = some (r1, r2, r3) := zby hy373 H
   have Ny373 := zm hy373
   clear hy373
   replace H := zbi H
   obtain ⟨⟨t376, t377, t378⟩, A6, H⟩ := H
   try dsimp only at H
   replace H := zif H
   obtain ⟨c7, H⟩ := H
   have c7b0 := decide_eq_true c7
   clear c7
   replace H := zif H
   obtain ⟨c8, H⟩ := H
   have c8b0 := decide_eq_true c8
   clear c8
   replace H := zif H
   obtain ⟨c9, H⟩ := H
   have c9b0 := eq_true c9
   have c9b1 := decide_eq_true c9
   try have c9b2 : (9223372036854775807 < (x5_1 ++ t370).size + (rdOf ByteArray.empty y373 t376).size) = False := eq_false (Nat.not_lt.2 c9)
   have H' := zm H
   clear H
   go_wp2_with (first | ((with_reducible refine gate_callee (f := 99) rfl ?_); refine zgl 12 Try.func99 #[.pointer (some ⟨g, 0, none⟩)] ?_; refine (F45.calls g s0_0 x1001_1 x1002_1 t370 t371 t372 w0 _ (zi106 HI0) (zj106 HB) A4.out).mono ?_; rintro e w10 ⟨rfl, hi, hb, hk⟩; refine ⟨_, rfl, ?_⟩; replace HK := zkt HK hk; replace HB := zm (hb); replace HI0 := zm (hi); (try clear hb hk hi)) | ((with_reducible refine gate_dst (N := 14) rfl ?_); refine Kd.R_lit Kd.string _ 9 ?hg (N := 14) ?hd (xs := ([(⟨#[32]⟩ : ByteArray), (⟨#[32]⟩ : ByteArray), (⟨#[32]⟩ : ByteArray), (⟨#[44, 32]⟩ : ByteArray), (⟨#[46, 10]⟩ : ByteArray), (⟨#[39]⟩ : ByteArray), (⟨#[45]⟩ : ByteArray), (⟨#[95, 32]⟩ : ByteArray), (⟨#[32, 32]⟩ : ByteArray), (⟨#[228, 184, 173]⟩ : ByteArray)] : List ByteArray)) (inner := [.string (⟨#[32]⟩ : ByteArray), .string (⟨#[32]⟩ : ByteArray), .string (⟨#[32]⟩ : ByteArray), .string (⟨#[44, 32]⟩ : ByteArray), .string (⟨#[46, 10]⟩ : ByteArray), .string (⟨#[39]⟩ : ByteArray), .string (⟨#[45]⟩ : ByteArray), .string (⟨#[95, 32]⟩ : ByteArray), .string (⟨#[32, 32]⟩ : ByteArray), .string (⟨#[228, 184, 173]⟩ : ByteArray)]) (ok := fun _ => True) (okp := fun _ => True) ?hr ?hp (fun _ hk => hk) trivial (Below.refl _ _) (Nat.le_refl _) (by simp) ?_; (case hd => rfl); (case hg => rfl); (case hr => first | (go_simp; done) | (go_simp; rfl)); (case hp => exact (Reps.one (show Kd.M Kd.string _ _ _ (⟨#[32]⟩ : ByteArray) [.string (⟨#[32]⟩ : ByteArray)] from rfl) (Reps.one (show Kd.M Kd.string _ _ _ (⟨#[32]⟩ : ByteArray) [.string (⟨#[32]⟩ : ByteArray)] from rfl) (Reps.one (show Kd.M Kd.string _ _ _ (⟨#[32]⟩ : ByteArray) [.string (⟨#[32]⟩ : ByteArray)] from rfl) (Reps.one (show Kd.M Kd.string _ _ _ (⟨#[44, 32]⟩ : ByteArray) [.string (⟨#[44, 32]⟩ : ByteArray)] from rfl) (Reps.one (show Kd.M Kd.string _ _ _ (⟨#[46, 10]⟩ : ByteArray) [.string (⟨#[46, 10]⟩ : ByteArray)] from rfl) (Reps.one (show Kd.M Kd.string _ _ _ (⟨#[39]⟩ : ByteArray) [.string (⟨#[39]⟩ : ByteArray)] from rfl) (Reps.one (show Kd.M Kd.string _ _ _ (⟨#[45]⟩ : ByteArray) [.string (⟨#[45]⟩ : ByteArray)] from rfl) (Reps.one (show Kd.M Kd.string _ _ _ (⟨#[95, 32]⟩ : ByteArray) [.string (⟨#[95, 32]⟩ : ByteArray)] from rfl) (Reps.one (show Kd.M Kd.string _ _ _ (⟨#[32, 32]⟩ : ByteArray) [.string (⟨#[32, 32]⟩ : ByteArray)] from rfl) (Reps.one (show Kd.M Kd.string _ _ _ (⟨#[228, 184, 173]⟩ : ByteArray) [.string (⟨#[228, 184, 173]⟩ : ByteArray)] from rfl) (Reps.none _ _)))))))))))); intro v374 w11 ho12 hb hg_ hnew_; clear hg_ hnew_; (first | rw [← Ny373.out] at ho12 | (simp only [Int.reduceToNat] at ho12; rw [← Ny373.out] at ho12)); have HO375 := zm (Kd.R_lower ho12 (keep_size (w := w) (g := g) (row := none) (zk HK))); replace HI0 := zm (IsS106.below (zi106 HI0) hb); replace HK := zkB HK hb; replace HB := zm (below_step (zj106 HB) hb); clear hb ho12) | ((with_reducible refine gate_callee (f := 55) rfl ?_); refine zgl 16 Try.func55 #[.pointer (some ⟨g, 0, none⟩), .int .i64 10] ?_; refine (F1.calls g s0_0 t371 t372 10 t376 t377 t378 w0 _ (zi106 HI0) (zj106 HB) A6.out).mono ?_; rintro e w13 ⟨rfl, hi, hb, hk⟩; refine ⟨_, rfl, ?_⟩; replace HO375 := zKR106 HI0 HO375 hk; replace HK := zkt HK hk; replace HB := zm (hb); replace HI0 := zm (hi); (try clear hb hk hi); obtain ⟨Ao14, co14, eo14⟩ := Kd.R_slice HO375.out; subst eo14; have p379 : 0 ≤ (t376 : Int) := of_decide_eq_true zas; have q379 : t376 < (y373.length : Int) := of_decide_eq_true zas; obtain ⟨ad379, e379, hx379_0⟩ := Kd.at_string (Kd.R_reads' HO375.out).2.2 t376 p379 q379; cases e379; replace p379 := eq_true p379; replace q379 := eq_true q379))
   go_roundg k1
   case measure => have := HK1.out; omega
   case rel => exact ⟨(wrap64 (x1_1 - 1)), ((x5_1 ++ t370) ++ (rdOf ByteArray.empty y373 t376)), (t377), (t378), zrs, zrs, H', ⟨by have := HK1.out; omega⟩, ⟨zi106 HI0⟩, ⟨zk HK⟩, ⟨zj106 HB⟩⟩
def fl10_ (n m : Nat) : Array Bool := ((List.range n).map fun i => m.testBit i).toArray

/-! ### F3: function 82 -/
mutual
def F3.j0 : Nat → List Int → Int → Int → List (S126) → ByteArray → Option (ByteArray × (List (S66)) × Int × Int)
 | 0, _, _, _, _, _ => none
 | k + 1, x1000, x1001, x1002, x381000, x389000 => F3.l0 k 0 x1000 x1001 x1002 x381000 x389000 ([] : List (S66))
def F3.l0 : Nat → Int → List Int → Int → Int → List (S126) → ByteArray → List (S66) → Option (ByteArray × (List (S66)) × Int × Int)
 | 0, _, _, _, _, _, _, _ => none
 | k + 1, x6, x1000, x1001, x1002, x381000, x389000, x389001 => if x6 < (x381000.length : Int) then (if 0 ≤ x6 then ((F15.f x1000 x1001 x1002 5).bind fun bt400 => (if bt400.1 = true then (F3.l0 k (wrap64 (x6 + 1)) x1000 bt400.2.1 bt400.2.2 x381000 x389000 x389001) else ((F1.f x1000 bt400.2.1 bt400.2.2 8).bind fun bt403 => (F3.l1 k x6 (wrap64 ((wrap64 (Int.tdiv bt403.1 6)) + 1)) x1000 bt403.2.1 bt403.2.2 x381000 x389000 x389001 ((rd_T126 x381000 x6).f0) ([] : List ByteArray) ([] : List Int))))) else (none)) else (some (x389000, x389001, x1001, x1002))
def F3.l1 : Nat → Int → Int → List Int → Int → Int → List (S126) → ByteArray → List (S66) → ByteArray → List ByteArray → List Int → Option (ByteArray × (List (S66)) × Int × Int)
 | 0, _, _, _, _, _, _, _, _, _, _, _ => none
 | k + 1, x6, x8, x1000, x1001, x1002, x381000, x389000, x389001, x400000, x400001, x400002 => if x8 > 0 then (if 0 ≤ x6 then (if x6 < (x381000.length : Int) then (if ((rd_T126 x381000 x6).f1) = 1 then ((F1.f x1000 x1001 x1002 12).bind fun bt410 => ((F17.f k x1000 bt410.2.1 bt410.2.2 bt410.1).bind fun bt413 => (if x400001.length < 8796093022208 then (F3.l1 k x6 (wrap64 (x8 - 1)) x1000 bt413.2.1 bt413.2.2 x381000 x389000 x389001 x400000 (x400001 ++ [bt413.1]) x400002) else (none)))) else (if ((rd_T126 x381000 x6).f1) = 2 then ((some (([(⟨#[114, 101, 100]⟩ : ByteArray), (⟨#[103, 114, 101, 101, 110]⟩ : ByteArray), (⟨#[98, 108, 117, 101]⟩ : ByteArray), (⟨#[82, 101, 100]⟩ : ByteArray), (⟨#[97, 32, 98]⟩ : ByteArray)] : List ByteArray) : List ByteArray)).bind fun y419 => ((F1.f x1000 x1001 x1002 5).bind fun bt422 => (if 0 ≤ bt422.1 then (if bt422.1 < (y419.length : Int) then (if x400001.length < 8796093022208 then (F3.l1 k x6 (wrap64 (x8 - 1)) x1000 bt422.2.1 bt422.2.2 x381000 x389000 x389001 x400000 (x400001 ++ [rdOf ByteArray.empty y419 bt422.1]) x400002) else (none)) else (none)) else (none)))) else ((F1.f x1000 x1001 x1002 30).bind fun bt429 => (if x400002.length < 17592186044416 then (F3.l1 k x6 (wrap64 (x8 - 1)) x1000 bt429.2.1 bt429.2.2 x381000 x389000 x389001 x400000 x400001 (x400002 ++ [wrap64 (bt429.1 - 5)])) else (none))))) else (none)) else (none)) else (if x389001.length < 2199023255552 then (F3.l0 k (wrap64 (x6 + 1)) x1000 x1001 x1002 x381000 x389000 (x389001 ++ [(⟨x400000, x400001, x400002⟩ : S66)])) else (none))
end
def F3.f (k : Nat) (s0_0 : List Int) (s0_1 : Int) (s0_2 : Int) (l1_0 : List (S126)) : Option (ByteArray × (List (S66)) × Int × Int) := (F1.f s0_0 s0_1 s0_2 10).bind fun bt382 => ((some (([(wrap64 (48 + bt382.1)) % 256] : List Int) : List Int)).bind fun y385 => (if 1 + (strOfNums y385).size ≤ 9223372036854775807 then ((F15.f s0_0 bt382.2.1 bt382.2.2 3).bind fun bt389 => (if bt389.1 = true then ((F1.f s0_0 bt389.2.1 bt389.2.2 4).bind fun bt392 => ((some (([(wrap64 (97 + bt392.1)) % 256] : List Int) : List Int)).bind fun y395 => (if ((⟨#[100]⟩ : ByteArray) ++ (strOfNums y385)).size + (strOfNums y395).size ≤ 9223372036854775807 then (F3.j0 k s0_0 bt392.2.1 bt392.2.2 l1_0 (((⟨#[100]⟩ : ByteArray) ++ (strOfNums y385)) ++ (strOfNums y395))) else (none)))) else (F3.j0 k s0_0 bt389.2.1 bt389.2.2 l1_0 ((⟨#[100]⟩ : ByteArray) ++ (strOfNums y385))))) else (none)))
theorem F3.mono_l : ∀ k, (∀ y0 y1 y2 y3 y4, LeO (F3.j0 k y0 y1 y2 y3 y4) (F3.j0 (k + 1) y0 y1 y2 y3 y4)) ∧ (∀ y0 y1 y2 y3 y4 y5 y6, LeO (F3.l0 k y0 y1 y2 y3 y4 y5 y6) (F3.l0 (k + 1) y0 y1 y2 y3 y4 y5 y6)) ∧ (∀ y0 y1 y2 y3 y4 y5 y6 y7 y8 y9 y10, LeO (F3.l1 k y0 y1 y2 y3 y4 y5 y6 y7 y8 y9 y10) (F3.l1 (k + 1) y0 y1 y2 y3 y4 y5 y6 y7 y8 y9 y10))
 | 0 => ⟨fun _ _ _ _ _ r h => by simp [F3.j0] at h, fun _ _ _ _ _ _ _ r h => by simp [F3.l0] at h, fun _ _ _ _ _ _ _ _ _ _ _ r h => by simp [F3.l1] at h⟩
 | k + 1 => by
  obtain ⟨ih0, ih1, ih2⟩ := F3.mono_l k
  refine ⟨?_, ?_, ?_⟩
  all_goals intros
  all_goals first | unfold F3.j0 | unfold F3.l0 | unfold F3.l1
  all_goals
   repeat' with_reducible first | exact ih0 _ _ _ _ _ | exact ih1 _ _ _ _ _ _ _ | exact ih2 _ _ _ _ _ _ _ _ _ _ _ | exact F17.mono _ _ _ _ _ | exact LeO.refl _ | exact LeO.none _ | refine LeO.ite ?_ ?_ | refine LeO.bind ?_ (fun _ => ?_)
theorem F3.mono : ∀ a0 a1 a2 a3 k, LeO (F3.f k a0 a1 a2 a3) (F3.f (k + 1) a0 a1 a2 a3) := by
 intro a0 a1 a2 a3 k
 obtain ⟨ih0, ih1, ih2⟩ := F3.mono_l k
 unfold F3.f
 repeat' with_reducible first | exact ih0 _ _ _ _ _ | exact ih1 _ _ _ _ _ _ _ | exact ih2 _ _ _ _ _ _ _ _ _ _ _ | exact F17.mono _ _ _ _ _ | exact LeO.refl _ | exact LeO.none _ | refine LeO.ite ?_ ?_ | refine LeO.bind ?_ (fun _ => ?_)
def F3.T3 : Bool × List (List Nat × List Nat) := (true, [([], []), ([0], [0]), ([], []), ([2], [2]), ([3], [3]), ([4], [4]), ([5], [5]), ([6], [6]), ([1, 7], [1, 7]), ([0, 1, 2, 3, 4, 5, 6, 7, 8], []), ([9, 8, 3, 0, 1, 2, 3, 4, 5, 6, 7, 8], [8, 9])])
def F3.B3 : List Nat := [0, 1, 0, 4, 12, 28, 60, 124, 255, 511, 1023]
theorem F3.tab3 : rtab .any (opsOf Try.f82 3) = F3.T3 := by kernel_rfl
theorem F3.bits3 : waitsOk F3.T3.2 F3.B3 = true := by kernel_rfl
def F3.T13 : Bool × List (List Nat × List Nat) := (true, [([], []), ([0], [0]), ([], []), ([2], [2]), ([3], [3]), ([4], [4]), ([1, 5, 3], [1, 5]), ([0, 1, 2, 3, 4, 5, 6], []), ([7, 6, 6, 0, 1, 2, 3, 4, 5, 6], [6, 7])])
def F3.B13 : List Nat := [0, 1, 0, 4, 12, 28, 63, 127, 255]
theorem F3.tab13 : rtab .any (opsOf Try.f82 13) = F3.T13 := by kernel_rfl
theorem F3.bits13 : waitsOk F3.T13.2 F3.B13 = true := by kernel_rfl
def F3.T15 : Bool × List (List Nat × List Nat) := (true, [([], []), ([0], [0]), ([], []), ([], []), ([3], [3]), ([2, 4, 4], [2, 4]), ([5], [5]), ([1, 6, 5], [1, 6]), ([0, 1, 2, 3, 4, 5, 6, 7], []), ([8, 7, 7, 0, 1, 2, 3, 4, 5, 6, 7], [7, 8])])
def F3.B15 : List Nat := [0, 1, 0, 0, 8, 28, 60, 127, 255, 511]
theorem F3.tab15 : rtab .any (opsOf Try.f82 15) = F3.T15 := by kernel_rfl
theorem F3.bits15 : waitsOk F3.T15.2 F3.B15 = true := by kernel_rfl
def F3.T17 : Bool × List (List Nat × List Nat) := (true, [([], []), ([0], [0]), ([], []), ([], []), ([3], [3]), ([2, 4], [2, 4]), ([5], [5]), ([6], [6]), ([1, 7, 4], [1, 7]), ([0, 1, 2, 3, 4, 5, 6, 7, 8], []), ([9, 8, 8, 0, 1, 2, 3, 4, 5, 6, 7, 8], [8, 9])])
def F3.B17 : List Nat := [0, 1, 0, 0, 8, 28, 60, 124, 255, 511, 1023]
theorem F3.tab17 : rtab .any (opsOf Try.f82 17) = F3.T17 := by kernel_rfl
theorem F3.bits17 : waitsOk F3.T17.2 F3.B17 = true := by kernel_rfl
set_option maxHeartbeats 8000000 in
set_option maxRecDepth 100000 in
theorem F3.calls (k : Nat) (g : Nat) (s0_0 : List Int) (s0_1 : Int) (s0_2 : Int) (A1_0 : Option Addr) (c1_0 : Nat) (l1_0 : List (S126)) (r1 : ByteArray) (r2 : List (S66)) (r3 : Int) (r4 : Int) (w0 w : World) (hI : IsS106 w0 w g s0_0 s0_1 s0_2) (hB : Below w0.heap.size w0 w) (hr1_0 : ∀ W_, KeepBut w W_ g none → Kd.C k126 W_ A1_0 l1_0.length l1_0) (hc1_0 : l1_0.length ≤ c1_0) (h : F3.f k s0_0 s0_1 s0_2 l1_0 = some (r1, r2, r3, r4)) :
 Calls Try.prog 82 #[.pointer (some ⟨g, 0, none⟩), .agg #[.slice A1_0 l1_0.length c1_0]] w fun e w' => ∃ v1_ : Value, e = .returned (.agg #[.string r1, v1_]) ∧ Kd.S k66 66 w' w.heap.size (fun _ => True) v1_ r2 ∧ IsS106 w0 w' g s0_0 r3 r4 ∧ Below w0.heap.size w0 w' ∧ KeepBut w w' g none := by
 have hu111 := Try.underlying111
 have hu31 := Try.underlying31
 have hu66 := Try.underlying66
 have HR1_0 := zm hr1_0
 have HC1_0 := zm hc1_0
 clear hr1_0 hc1_0
 have HI0 := zm hI
 have HK := zm (KeepBut.refl w g none)
 have HL := zm hB.size
 clear hI
 have HW0 := zm hB.size
 have HB := zm hB
 clear hB
 have H := h
 unfold F3.f at H
 clear h
 replace H := zbi H
 obtain ⟨⟨t382, t383, t384⟩, A3, H⟩ := H
 try dsimp only at H
 obtain ⟨y385, hy385⟩ : ∃ y_ : List Int, y_ = (([(wrap64 (48 + t382)) % 256] : List Int)) := ⟨_, rfl⟩
 replace H : (if 1 + (strOfNums y385).size ≤ 9223372036854775807 then ((F15.f s0_0 t383 t384 3).bind fun bt389 => (if bt389.1 = true then ((F1.f s0_0 bt389.2.1 bt389.2.2 4).bind fun bt392 => ((some (([(wrap64 (97 + bt392.1)) % 256] : List Int) : List Int)).bind fun y395 => (if ((⟨#[100]⟩ : ByteArray) ++ (strOfNums y385)).size + (strOfNums y395).size ≤ 9223372036854775807 then (F3.j0 k s0_0 bt392.2.1 bt392.2.2 l1_0 (((⟨#[100]⟩ : ByteArray) ++ (strOfNums y385)) ++ (strOfNums y395))) else (none)))) else (F3.j0 k s0_0 bt389.2.1 bt389.2.2 l1_0 ((⟨#[100]⟩ : ByteArray) ++ (strOfNums y385))))) else (none)) = some (r1, r2, r3, r4) := zby hy385 H
 have Ny385 := zm hy385
 clear hy385
 by_cases c4 : 1 + (strOfNums y385).size ≤ 9223372036854775807
 rotate_left
 ·rw [if_neg c4] at H
  exact absurd H (by simp)

 rw [if_pos c4] at H
 have c4b0 := eq_true c4
 have c4b1 := decide_eq_true c4
 try have c4b2 : (9223372036854775807 < 1 + (strOfNums y385).size) = False := eq_false (Nat.not_lt.2 c4)
 replace H := zbi H
 obtain ⟨⟨t389, t390, t391⟩, A5, H⟩ := H
 try dsimp only at H
 have HC6 := zm H
 clear H
 go_enter Try.func82, Try.ntmps82
 go_upto_if 18 with (first | ((with_reducible refine gate_dst (N := 3) rfl ?_); refine box_event (by rfl) (N := 3) (by rfl) (cs := #[.slice A1_0 l1_0.length c1_0]) (t := 111) zgs ?_; intro gb380 hg w7 hbox hb; replace HB := zm (below_step (zj106 HB) hb); have BK380 := zm (hbox); have GW380 := zge hg (keep_size (w := w) (g := g) (row := none) (zk HK)); have GE380 := zm ((Nat.le_trans HW0.out (by rw [hg]; exact (keep_size (w := w) (g := g) (row := none) (zk HK)) : w.heap.size ≤ gb380) : w0.heap.size ≤ gb380)); replace HK := zkB HK hb; obtain ⟨NB0_380, NB380_0⟩ := znn hg (IsS106.lt (show IsS106 w0 _ g s0_0 s0_1 s0_2 from zi106 HI0)); replace HI0 := zm (IsS106.below (zi106 HI0) hb); clear hb hbox hg) | ((with_reducible refine gate_dst (N := 4) rfl ?_); refine box_event (by rfl) (N := 4) (by rfl) (cs := #[.string (⟨#[]⟩ : ByteArray), .slice none 0 0]) (t := 31) zgs ?_; intro gb381 hg w8 hbox hb; replace HB := zm (below_step (zj106 HB) hb); have BK381 := zm (hbox); have GW381 := zge hg (keep_size (w := w) (g := g) (row := none) (zk HK)); have GE381 := zm ((Nat.le_trans HW0.out (by rw [hg]; exact (keep_size (w := w) (g := g) (row := none) (zk HK)) : w.heap.size ≤ gb381) : w0.heap.size ≤ gb381)); replace HK := zkB HK hb; obtain ⟨NB380_381, NB381_380⟩ := znn hg (blk_lt (zb BK380)); replace BK380 := zbb BK380 hb; obtain ⟨NB0_381, NB381_0⟩ := znn hg (IsS106.lt (show IsS106 w0 _ g s0_0 s0_1 s0_2 from zi106 HI0)); replace HI0 := zm (IsS106.below (zi106 HI0) hb); clear hb hbox hg) | ((with_reducible refine gate_callee (f := 55) rfl ?_); refine zgl 10 Try.func55 #[.pointer (some ⟨g, 0, none⟩), .int .i64 10] ?_; refine (F1.calls g s0_0 s0_1 s0_2 10 t382 t383 t384 w0 _ (zi106 HI0) (zj106 HB) A3.out).mono ?_; rintro e w9 ⟨rfl, hi, hb, hk⟩; refine ⟨_, rfl, ?_⟩; replace BK380 := zkb BK380 NB380_0 hk; replace BK381 := zkb BK381 NB381_0 hk; replace HK := zkt HK hk; replace HB := zm (hb); replace HI0 := zm (hi); (try clear hb hk hi)) | ((with_reducible refine gate_dst (N := 13) rfl ?_); refine Kd.R_lit (Kd.int .u8) _ 5 ?hg (N := 13) ?hd (xs := ([(wrap64 (48 + t382)) % 256] : List Int)) (inner := [.int .u8 ((wrap64 (48 + t382)) % 256)]) (ok := fun _ => True) (okp := fun _ => True) ?hr ?hp (fun _ hk => hk) trivial (Below.refl _ _) (Nat.le_refl _) (by simp) ?_; (case hd => rfl); (case hg => rfl); (case hr => first | (go_simp; done) | (go_simp; rfl)); (case hp => exact (Reps.one (show Kd.M (Kd.int .u8) _ _ _ ((wrap64 (48 + t382)) % 256) [.int .u8 ((wrap64 (48 + t382)) % 256)] from rfl) (Reps.none _ _))); intro v386 w10 ho11 hb hg_ hnew_; clear hg_ hnew_; (first | rw [← Ny385.out] at ho11 | (simp only [Int.reduceToNat] at ho11; rw [← Ny385.out] at ho11)); have HO387 := zm (Kd.R_lower ho11 (keep_size (w := w) (g := g) (row := none) (zk HK))); replace HI0 := zm (IsS106.below (zi106 HI0) hb); replace BK380 := zbb BK380 hb; replace BK381 := zbb BK381 hb; replace HK := zkB HK hb; replace HB := zm (below_step (zj106 HB) hb); clear hb ho11; have hcv12 := own_string (P := Try.prog) Try.underlying26 Try.underlying5 Try.underlying9 (Kd.own_of_R HO387.out)) | ((with_reducible refine gate_dst (N := 5) rfl ?_); refine box_event (by rfl) (N := 5) (by rfl) (cs := #[.string (⟨#[]⟩ : ByteArray), .slice none 0 0]) (t := 31) zgs ?_; intro gb388 hg w13 hbox hb; replace HO387 := zm (Kd.R_below (zr HO387) hb); replace HB := zm (below_step (zj106 HB) hb); have BK388 := zm (hbox); have GW388 := zge hg (keep_size (w := w) (g := g) (row := none) (zk HK)); have GE388 := zm ((Nat.le_trans HW0.out (by rw [hg]; exact (keep_size (w := w) (g := g) (row := none) (zk HK)) : w.heap.size ≤ gb388) : w0.heap.size ≤ gb388)); replace HK := zkB HK hb; obtain ⟨NB380_388, NB388_380⟩ := znn hg (blk_lt (zb BK380)); replace BK380 := zbb BK380 hb; obtain ⟨NB381_388, NB388_381⟩ := znn hg (blk_lt (zb BK381)); replace BK381 := zbb BK381 hb; obtain ⟨NB0_388, NB388_0⟩ := znn hg (IsS106.lt (show IsS106 w0 _ g s0_0 t383 t384 from zi106 HI0)); replace HI0 := zm (IsS106.below (zi106 HI0) hb); clear hb hbox hg; obtain ⟨_, _⟩ := zne NB388_380; obtain ⟨_, _⟩ := zne NB388_381; obtain ⟨_, _⟩ := zne NB388_0; obtain ⟨⟨hcz17_0, hcz17_1⟩, hfz17_0, hfz17_1⟩ := zc2 BK388) | ((with_reducible refine gate_callee (f := 80) rfl ?_); refine zgl 18 Try.func80 #[.pointer (some ⟨g, 0, none⟩), .int .i64 3] ?_; refine (F15.calls g s0_0 t383 t384 3 t389 t390 t391 w0 _ (zi106 HI0) (zj106 HB) A5.out).mono ?_; rintro e w18 ⟨rfl, hi, hb, hk⟩; refine ⟨_, rfl, ?_⟩; replace BK380 := zm (KeepBut.blk hk (g' := gb380) (o := .cells #[.slice A1_0 l1_0.length c1_0] 111 (0, 0)) (zp BK380) NB380_0.out (by simp)); replace BK381 := zm (KeepBut.blk hk (g' := gb381) (o := .cells #[.string (⟨#[]⟩ : ByteArray), .slice none 0 0] 31 (0, 0)) (zp BK381) NB381_0.out (by simp)); replace HO387 := zm (Kd.R_mono (Kd.R_keep (IsS106.apart (show IsS106 w0 _ g s0_0 t383 t384 from zi106 HI0) (by (with_reducible repeat (first | apply Kd.R_alloc | apply Kd.R_drewN | apply Kd.R_drew)); exact (Kd.R_mono (Kd.R_far (p := ⟨gb388, 1, none⟩) (Kd.R_far (p := ⟨gb388, 0, none⟩) (Kd.R_types HO387.out BK388.out (by decide)) (fun _ hk => hk.2) (.string ((⟨#[100]⟩ : ByteArray) ++ (strOfNums y385)))) (fun _ hk => hk.2) (.slice none 0 0)) (fun _ h_ => h_.1))) (by decide)) hk (fun _ h => h.2)) (fun _ h => h.1)); replace BK388 := zm (KeepBut.blk hk (g' := gb388) (o := .cells #[.string ((⟨#[100]⟩ : ByteArray) ++ (strOfNums y385)), .slice none 0 0] 31 (0, 0)) (zp BK388) NB388_0.out (by simp)); replace HK := zkt HK hk; replace HB := zm (hb); replace HI0 := zm (hi); (try clear hb hk hi)))
 (try simp only [Act.put, List.setIfInBounds_toArray, List.set_cons_zero, List.set_cons_succ])
 go_cut [] (fun wc => ∃ (kq : Nat) (x1001_5 : Int) (x1002_5 : Int) (x389000_5 : ByteArray), Aside0 (F3.j0 kq s0_0 x1001_5 x1002_5 l1_0 x389000_5 = some (r1, r2, r3, r4)) ∧ Aside0 (kq ≤ k) ∧ Aside0 (wc.heap[gb380]? = some (.cells #[(.slice A1_0 l1_0.length c1_0)] 111 (0, 0))) ∧ Aside0 (wc.heap[gb381]? = some (.cells #[.string (⟨#[]⟩ : ByteArray), (.slice none 0 0)] 31 (0, 0))) ∧ Aside0 (wc.heap[gb388]? = some (.cells #[.string x389000_5, (.slice none 0 0)] 31 (0, 0))) ∧ Aside0 (IsS106 w0 wc g s0_0 x1001_5 x1002_5) ∧ Aside0 (KeepBut w wc g none) ∧ Aside0 (Below w0.heap.size w0 wc))
 case first =>
  have H := HC6.out
  clear HC6
  by_cases c19 : t389 = true
  rotate_left
  ·replace c19 := Bool.eq_false_iff.mpr c19
   subst c19
   rw [if_neg (show ¬ (false = true) by decide)] at H
   have H' := zm H
   clear H
   go_wp2
   go_meet
   case rel => exact ⟨_, (t390), (t391), ((⟨#[100]⟩ : ByteArray) ++ (strOfNums y385)), H', ⟨by first | omega | exact Nat.le_refl _⟩, ⟨zb BK380⟩, ⟨zb BK381⟩, ⟨zb BK388⟩, ⟨zi106 HI0⟩, ⟨zk HK⟩, ⟨zj106 HB⟩⟩
  subst c19
  rw [if_pos rfl] at H
  replace H := zbi H
  obtain ⟨⟨t392, t393, t394⟩, A20, H⟩ := H
  try dsimp only at H
  obtain ⟨y395, hy395⟩ : ∃ y_ : List Int, y_ = (([(wrap64 (97 + t392)) % 256] : List Int)) := ⟨_, rfl⟩
  replace H : (if ((⟨#[100]⟩ : ByteArray) ++ (strOfNums y385)).size + (strOfNums y395).size ≤ 9223372036854775807 then (F3.j0 k s0_0 t393 t394 l1_0 (((⟨#[100]⟩ : ByteArray) ++ (strOfNums y385)) ++ (strOfNums y395))) else (none)) = some (r1, r2, r3, r4) := zby hy395 H
  have Ny395 := zm hy395
  clear hy395
  replace H := zif H
  obtain ⟨c21, H⟩ := H
  have c21b0 := eq_true c21
  have c21b1 := decide_eq_true c21
  try have c21b2 : (9223372036854775807 < ((⟨#[100]⟩ : ByteArray) ++ (strOfNums y385)).size + (strOfNums y395).size) = False := eq_false (Nat.not_lt.2 c21)
  have c21b3 : (9223372036854775807 < 1 + (strOfNums y385).size + (strOfNums y395).size) = False := eq_false (Nat.not_lt.2 (by have h_ := c21; rw [ByteArray.size_append] at h_; exact h_))
  have H' := zm H
  clear H
  try go_wp2
  replace HO387 := zm (Kd.R_drew HO387.out)
  replace BK380 := zm (blk_drew BK380.out)
  replace BK381 := zm (blk_drew BK381.out)
  replace BK388 := zm (blk_drew BK388.out)
  replace HI0 := zm (IsS106.drew HI0.out)
  replace HK := zm (keep_drew HK.out)
  replace HB := zm (below_drew1 HB.out)
  refine start_ (n := 11) (S := fun w' => w'.cell? ⟨gb388, 0, none⟩ = some (.string ((⟨#[100]⟩ : ByteArray) ++ (strOfNums y385))) ∧ w'.cell? ⟨gb388, 1, none⟩ = some (.slice none 0 0)) (ds := [10]) (fl10_ 11 0) (by kernel_rfl) rfl rfl ⟨zd BK388 0, zd BK388 1⟩ (fun hHeld => ?_); refine with_tabW F3.tab3 F3.bits3 (fun HT_ HW_ => ?_)
  generalize w18.drew = w22 at HO387 BK380 BK381 BK388 HI0 HK HB hHeld ⊢
  refine zpu HT_ 0 19 (fl10_ 11 1) ?_
  refine zpu HT_ 2 21 (fl10_ 11 5) ?_
  refine ztk HT_ HW_ 1 20 (fl10_ 11 7) hHeld ?_
  refine zon HT_ 3 22 (fl10_ 11 15) (fun K hK => ?_)
  refine goes_ Try.func55 (by kernel_rfl) rfl #[.pointer (some ⟨g, 0, none⟩), .int .i64 4] (by rfl) rfl rfl zar ?_
  refine (F1.calls g s0_0 t390 t391 4 t392 t393 t394 w0 _ (zi106 HI0) (zj106 HB) A20.out).mono ?_
  rintro e w23 ⟨rfl, hi, hb, hk⟩
  refine ⟨_, rfl, ?_⟩
  replace BK380 := zkb BK380 NB380_0 hk
  replace BK381 := zkb BK381 NB381_0 hk
  replace HO387 := zKR106 HI0 HO387 hk
  replace BK388 := zkb BK388 NB388_0 hk
  replace HK := zkt HK hk
  replace HB := zm (hb)
  replace HI0 := zm (hi)
  (try clear hb hk hi)
  refine hK.out _ _ ⟨zd BK388 0, zd BK388 1⟩ (fun hHeld => ?_)
  clear hK K
  refine norm_ zac ?_
  refine zpu HT_ 4 23 (fl10_ 11 31) ?_
  refine zpu HT_ 5 24 (fl10_ 11 63) ?_
  refine zon HT_ 6 25 (fl10_ 11 127) (fun K hK => ?_)
  refine Kd.R_lit_step (Kd.int .u8) _ 5 ?hg (N := 25) ?hd (xs := ([(wrap64 (97 + t392)) % 256] : List Int)) (inner := [.int .u8 ((wrap64 (97 + t392)) % 256)]) (ok := fun _ => True) (okp := fun _ => True) ?hr ?hp (fun _ hk => hk) trivial (Below.refl _ _) (Nat.le_refl _) (by simp) ?_; (case hd => rfl); (case hg => rfl); (case hr => first | (go_simp; done) | (go_simp; rfl)); (case hp => exact (Reps.one (show Kd.M (Kd.int .u8) _ _ _ ((wrap64 (97 + t392)) % 256) [.int .u8 ((wrap64 (97 + t392)) % 256)] from rfl) (Reps.none _ _)))
  intro v396 w24 ho25 hb hg_ hnew_
  clear hg_ hnew_
  (first | rw [← Ny395.out] at ho25 | (simp only [Int.reduceToNat] at ho25; rw [← Ny395.out] at ho25))
  have HO397 := zm (Kd.R_lower (Kd.R_new' ho25 (Kd.R_lt (zr HO387))) (keep_size (w := w) (g := g) (row := none) (zk HK)))
  replace HO387 := zm (Kd.R_elder' (zr HO387) (Kd.R_base ho25) hb)
  replace HI0 := zm (IsS106.below (zi106 HI0) hb)
  replace BK380 := zbb BK380 hb
  replace BK381 := zbb BK381 hb
  replace BK388 := zbb BK388 hb
  replace HK := zkB HK hb
  replace HB := zm (below_step (zj106 HB) hb)
  clear hb ho25
  refine hK.out _ _ ⟨zd BK388 0, zd BK388 1⟩ (fun hHeld => ?_)
  clear hK K
  refine norm_ zac ?_
  refine zon HT_ 7 26 (fl10_ 11 255) (fun K hK => ?_)
  have hcv26 := own_string (P := Try.prog) Try.underlying26 Try.underlying5 Try.underlying9 (Kd.own_of_R HO397.out)
  refine value_ (w1 := ?_) (v := ?_) (by rfl) rfl ?_ ?_
  rotate_left 2
  ·go_simp
   constructor
   ·rfl
   ·rfl
  clear hcv26
  refine hK.out _ _ ⟨zd BK388 0, zd BK388 1⟩ (fun hHeld => ?_)
  clear hK K
  refine norm_ zac ?_
  refine zpu HT_ 8 27 (fl10_ 11 511) ?_
  refine zpu HT_ 9 28 (fl10_ 11 1023) ?_
  refine last_ (i := 10) (N := none) (fl10_ 11 2047) rfl rfl (one_of HT_.out (by kernel_rfl)) (by decide) (fun K hK => ?_)
  have hs27 : w24.cell? ⟨gb388, 0, none⟩ = some (.string ((⟨#[100]⟩ : ByteArray) ++ (strOfNums y385))) := zd BK388 0
  have hfs27 := blk_frozen BK388.out 0
  have hns27_0 := NB380_388.out
  have hns27_1 := NB381_388.out
  have hms27_0 := NB388_380.out
  have hms27_1 := NB388_381.out
  refine skip_ (w1 := ?_) (by rfl) rfl ?_ ?_
  rotate_left
  ·go_simp
   rfl
  refine hK.out _ _ ?_
  clear hK K
  refine done_ (done_of HT_.out (by kernel_rfl)) ?_
  try go_wp2
  go_meet
  case rel => exact ⟨_, (t393), (t394), (((⟨#[100]⟩ : ByteArray) ++ (strOfNums y385)) ++ (strOfNums y395)), H', ⟨by first | omega | exact Nat.le_refl _⟩, ⟨zp BK380⟩, ⟨zp BK381⟩, ⟨zp BK388⟩, ⟨zi106 HI0⟩, ⟨zk HK⟩, ⟨zj106 HB⟩⟩
 case rest =>
  clear HC6
  try clear c4
  try clear c4b0
  try clear c4b1
  try clear c4b2
  try clear hcv12
  try clear hcz17_0 hcz17_1 hfz17_0 hfz17_1
  obtain ⟨kq, x1001_5, x1002_5, x389000_5, HA, HJ5, BK380, BK381, BK388, HI0, HK, HB⟩ := hcut
  cases kq with
  | zero => exact absurd HA.out (by simp [F3.j0])
  | succ kj5 =>
   have H := HA.out
   clear HA
   simp only [F3.j0] at H
   have H' := zm H
   clear H
   go_wp2
   go_loopg [6] kj5 (fun kq v6 w' => ∃ (x6_2 : Int) (x1001_2 : Int) (x1002_2 : Int) (x389001_2 : List (S66)) (u389001 : Value), v6 = .int .i64 x6_2 ∧ Aside0 (F3.l0 kq x6_2 s0_0 x1001_2 x1002_2 l1_0 x389000_5 x389001_2 = some (r1, r2, r3, r4)) ∧ Aside0 (kq ≤ kj5) ∧ Aside0 (Kd.S k66 66 w' w.heap.size (fun _ => True) u389001 x389001_2) ∧ Aside0 (w'.heap[gb380]? = some (.cells #[(.slice A1_0 l1_0.length c1_0)] 111 (0, 0))) ∧ Aside0 (w'.heap[gb381]? = some (.cells #[.string (⟨#[]⟩ : ByteArray), (.slice none 0 0)] 31 (0, 0))) ∧ Aside0 (w'.heap[gb388]? = some (.cells #[.string x389000_5, u389001] 31 (0, 0))) ∧ Aside0 (IsS106 w0 w' g s0_0 x1001_2 x1002_2) ∧ Aside0 (KeepBut w w' g none) ∧ Aside0 (Below w0.heap.size w0 w'))
   case atStart => exact ⟨(0), (x1001_5), (x1002_5), (([] : List (S66))), (.slice none 0 0), zrs, H', ⟨Nat.le_refl _⟩, ⟨by first | exact Kd.S_nil _ _ _ _ _ | exact Kd.N_nil _ _ _ _ _ | exact Kd.V_nil _ _ _ _ _ | exact Kd.Q_nil _ _ _ _ _ | exact Kd.R_nil _ _ _ _ _⟩, ⟨zb BK380⟩, ⟨zb BK381⟩, ⟨zb BK388⟩, ⟨zi106 HI0⟩, ⟨zk HK⟩, ⟨zj106 HB⟩⟩
   case round =>
    clear H'
    try clear c4
    try clear c4b0
    try clear c4b1
    try clear c4b2
    try clear hcv12
    try clear hcz17_0 hcz17_1 hfz17_0 hfz17_1
    obtain ⟨x6_2, x1001_2, x1002_2, x389001_2, u389001, rfl, HA, HK2, HO_389001, BK380, BK381, BK388, HI0, HK, HB⟩ := hrel
    cases gk with
    | zero => exact absurd HA.out (by simp [F3.l0])
    | succ k2 =>
     have H := HA.out
     clear HA
     simp only [F3.l0] at H
     by_cases c28 : x6_2 < (l1_0.length : Int)
     rotate_left
     ·rw [if_neg c28] at H
      have c28b0 := decide_eq_false c28
      clear c28
      simp only [Option.some.injEq, Prod.mk.injEq] at H
      obtain ⟨rfl, rfl, rfl, rfl⟩ := H
      obtain ⟨_, _⟩ := zne NB380_381
      obtain ⟨_, _⟩ := zne NB380_388
      obtain ⟨_, _⟩ := zne NB380_0
      obtain ⟨_, _⟩ := zc1 BK380
      obtain ⟨_, _⟩ := zne NB388_381
      obtain ⟨_, _⟩ := zne NB388_0
      obtain ⟨⟨_, _⟩, _, _⟩ := zc2 BK388
      obtain ⟨_, _⟩ := zne NB381_0
      obtain ⟨⟨_, _⟩, _, _⟩ := zc2 BK381
      obtain ⟨Ao131, co131, eo131⟩ := Kd.S_slice HO_389001.out
      subst eo131
      go_wp2
      refine bodyPost_ret (results_cell_row rfl _ _ gb381 31 #[.string x389000_5, .slice Ao131 x389001_2.length co131] (0, 0) _ rfl (zp BK381) Try.underlying31 rfl (by kernel_rfl)) rfl ?_
      exact ⟨_, zre, zxS (Kd.S_mono (zfS gb381 1 (zfS gb381 0 (Kd.S_types HO_389001.out BK381.out (by decide)) (.string x389000_5)) (.slice Ao131 x389001_2.length co131)) (fun _ hk => trivial)), zi106 HI0, zj106 HB, zk HK⟩
     rw [if_pos c28] at H
     have c28b0 := decide_eq_true c28
     clear c28
     replace H := zif H
     obtain ⟨c29, H⟩ := H
     have c29b0 := decide_eq_true c29
     clear c29
     replace H := zbi H
     obtain ⟨⟨t400, t401, t402⟩, A30, H⟩ := H
     try dsimp only at H
     by_cases c31 : t400 = true
     ·subst c31
      rw [if_pos rfl] at H
      have H' := zm H
      clear H
      obtain ⟨_, _⟩ := zne NB380_381
      obtain ⟨_, _⟩ := zne NB380_388
      obtain ⟨_, _⟩ := zne NB380_0
      obtain ⟨_, _⟩ := zc1 BK380
      have p398 : 0 ≤ (x6_2 : Int) := of_decide_eq_true zas
      have q398 : x6_2 < (l1_0.length : Int) := of_decide_eq_true zas
      obtain ⟨ad398, A398_5, c398_5, A398_6, c398_6, e398, hx398_0, hx398_1, hx398_2, hx398_3, hx398_4, hx398_5, hx398_6, hx398_7, hx398_8, hl398_5, hi398_5, hl398_6, hi398_6⟩ := at_T126 (Kd.C_foot_now HR1_0.out HK.out) x6_2 p398 q398
      cases e398
      have HR398_5 := zm hi398_5
      have HC398_5 := zm hl398_5
      clear hi398_5 hl398_5
      have HR398_6 := zm hi398_6
      have HC398_6 := zm hl398_6
      clear hi398_6 hl398_6
      replace p398 := eq_true p398
      replace q398 := eq_true q398
      go_wp2_with (first | ((with_reducible refine gate_dst (N := 7) rfl ?_); refine box_event (by rfl) (N := 7) (by rfl) (cs := #[.string (⟨#[]⟩ : ByteArray), .slice none 0 0, .slice none 0 0]) (t := 66) zgs ?_; intro gb399 hg w36 hbox hb; replace HO_389001 := zm (Kd.S_below (Kd.S_elderB (zs HO_389001) gb399 (Nat.le_of_eq hg.symm)) hb); replace HR398_5 := zm (Kd.C_below (by repeat (first | (with_reducible exact HR398_5.out) | (with_reducible refine Kd.C_alloc ?_ _) | (with_reducible refine Kd.C_drewN ?_ _) | (with_reducible refine Kd.C_drew ?_) | exact HR398_5.out)) hb); replace HR398_6 := zm (Kd.C_below (by repeat (first | (with_reducible exact HR398_6.out) | (with_reducible refine Kd.C_alloc ?_ _) | (with_reducible refine Kd.C_drewN ?_ _) | (with_reducible refine Kd.C_drew ?_) | exact HR398_6.out)) hb); replace HB := zm (below_step (zj106 HB) hb); have BK399 := zm (hbox); have GW399 := zge hg (keep_size (w := w) (g := g) (row := none) (zk HK)); have GE399 := zm ((Nat.le_trans HW0.out (by rw [hg]; exact (keep_size (w := w) (g := g) (row := none) (zk HK)) : w.heap.size ≤ gb399) : w0.heap.size ≤ gb399)); replace HK := zkB HK hb; obtain ⟨NB380_399, NB399_380⟩ := znn hg (blk_lt (zb BK380)); replace BK380 := zbb BK380 hb; obtain ⟨NB381_399, NB399_381⟩ := znn hg (blk_lt (zb BK381)); replace BK381 := zbb BK381 hb; obtain ⟨NB388_399, NB399_388⟩ := znn hg (blk_lt (zb BK388)); replace BK388 := zbb BK388 hb; obtain ⟨NB0_399, NB399_0⟩ := znn hg (IsS106.lt (show IsS106 w0 _ g s0_0 x1001_2 x1002_2 from zi106 HI0)); replace HI0 := zm (IsS106.below (zi106 HI0) hb); clear hb hbox hg; obtain ⟨_, _⟩ := zne NB399_380; obtain ⟨_, _⟩ := zne NB399_381; obtain ⟨_, _⟩ := zne NB399_388; obtain ⟨_, _⟩ := zne NB399_0; obtain ⟨⟨_, _, _⟩, _, _, _⟩ := zc3 BK399) | ((with_reducible refine gate_callee (f := 80) rfl ?_); refine zgl 44 Try.func80 #[.pointer (some ⟨g, 0, none⟩), .int .i64 5] ?_; refine (F15.calls g s0_0 x1001_2 x1002_2 5 true t401 t402 w0 _ (zi106 HI0) (zj106 HB) A30.out).mono ?_; rintro e w42 ⟨rfl, hi, hb, hk⟩; refine ⟨_, rfl, ?_⟩; replace HO_389001 := zm (Kd.S_mono (Kd.S_keep (IsS106.apartS (show IsS106 w0 _ g s0_0 x1001_2 x1002_2 from zi106 HI0) (by (with_reducible repeat (first | apply Kd.S_alloc | apply Kd.S_drewN | apply Kd.S_drew)); exact (Kd.S_mono (zfS gb399 2 (zfS gb399 1 (zfS gb399 0 (Kd.S_mono HO_389001.out (fun k_ hk => (⟨hk, hk.2⟩ : _ ∧ k_ ≠ gb399))) (.string ((rd_T126 l1_0 x6_2).f0))) (.slice none 0 0)) (.slice none 0 0)) (fun _ h_ => h_.1))) (by decide)) hk (fun _ h => h.2)) (fun _ h => h.1)); replace BK380 := zm (KeepBut.blk hk (g' := gb380) (o := .cells #[.slice (some ad398) l1_0.length c1_0] 111 (0, 0)) (zp BK380) NB380_0.out (by simp)); replace BK381 := zm (KeepBut.blk hk (g' := gb381) (o := .cells #[.string (⟨#[]⟩ : ByteArray), .slice none 0 0] 31 (0, 0)) (zp BK381) NB381_0.out (by simp)); replace BK388 := zm (KeepBut.blk hk (g' := gb388) (o := .cells #[.string x389000_5, u389001] 31 (0, 0)) (zp BK388) NB388_0.out (by simp)); replace BK399 := zm (KeepBut.blk hk (g' := gb399) (o := .cells #[.string ((rd_T126 l1_0 x6_2).f0), .slice none 0 0, .slice none 0 0] 66 (0, 0)) (zp BK399) NB399_0.out (by simp)); replace HK := zkt HK hk; replace HB := zm (hb); replace HI0 := zm (hi); (try clear hb hk hi)))
      go_roundg k2
      case measure => have := HJ5.out; have := HK2.out; omega
      case rel => exact ⟨(wrap64 (x6_2 + 1)), (t401), (t402), (x389001_2), (u389001), zrs, H', ⟨by have := HJ5.out; have := HK2.out; omega⟩, ⟨Kd.S_mono (zs HO_389001) (fun _ hk => trivial)⟩, ⟨zb BK380⟩, ⟨zb BK381⟩, ⟨zb BK388⟩, ⟨zi106 HI0⟩, ⟨zk HK⟩, ⟨zj106 HB⟩⟩
     replace c31 := Bool.eq_false_iff.mpr c31
     subst c31
     rw [if_neg (show ¬ (false = true) by decide)] at H
     replace H := zbi H
     obtain ⟨⟨t403, t404, t405⟩, A43, H⟩ := H
     try dsimp only at H
     have H' := zm H
     clear H
     obtain ⟨_, _⟩ := zne NB380_381
     obtain ⟨_, _⟩ := zne NB380_388
     obtain ⟨_, _⟩ := zne NB380_0
     obtain ⟨hcz47_0, hfz47_0⟩ := zc1 BK380
     have p398 : 0 ≤ (x6_2 : Int) := of_decide_eq_true zas
     have q398 : x6_2 < (l1_0.length : Int) := of_decide_eq_true zas
     obtain ⟨ad398, A398_5, c398_5, A398_6, c398_6, e398, hx398_0, hx398_1, hx398_2, hx398_3, hx398_4, hx398_5, hx398_6, hx398_7, hx398_8, hl398_5, hi398_5, hl398_6, hi398_6⟩ := at_T126 (Kd.C_foot_now HR1_0.out HK.out) x6_2 p398 q398
     cases e398
     have HR398_5 := zm hi398_5
     have HC398_5 := zm hl398_5
     clear hi398_5 hl398_5
     have HR398_6 := zm hi398_6
     have HC398_6 := zm hl398_6
     clear hi398_6 hl398_6
     replace p398 := eq_true p398
     replace q398 := eq_true q398
     go_wp2_with (first | ((with_reducible refine gate_dst (N := 7) rfl ?_); refine box_event (by rfl) (N := 7) (by rfl) (cs := #[.string (⟨#[]⟩ : ByteArray), .slice none 0 0, .slice none 0 0]) (t := 66) zgs ?_; intro gb399 hg w48 hbox hb; replace HO_389001 := zm (Kd.S_below (Kd.S_elderB (zs HO_389001) gb399 (Nat.le_of_eq hg.symm)) hb); replace HR398_5 := zm (Kd.C_below (by repeat (first | (with_reducible exact HR398_5.out) | (with_reducible refine Kd.C_alloc ?_ _) | (with_reducible refine Kd.C_drewN ?_ _) | (with_reducible refine Kd.C_drew ?_) | exact HR398_5.out)) hb); replace HR398_6 := zm (Kd.C_below (by repeat (first | (with_reducible exact HR398_6.out) | (with_reducible refine Kd.C_alloc ?_ _) | (with_reducible refine Kd.C_drewN ?_ _) | (with_reducible refine Kd.C_drew ?_) | exact HR398_6.out)) hb); replace HB := zm (below_step (zj106 HB) hb); have BK399 := zm (hbox); have GW399 := zge hg (keep_size (w := w) (g := g) (row := none) (zk HK)); have GE399 := zm ((Nat.le_trans HW0.out (by rw [hg]; exact (keep_size (w := w) (g := g) (row := none) (zk HK)) : w.heap.size ≤ gb399) : w0.heap.size ≤ gb399)); replace HK := zkB HK hb; obtain ⟨NB380_399, NB399_380⟩ := znn hg (blk_lt (zb BK380)); replace BK380 := zbb BK380 hb; obtain ⟨NB381_399, NB399_381⟩ := znn hg (blk_lt (zb BK381)); replace BK381 := zbb BK381 hb; obtain ⟨NB388_399, NB399_388⟩ := znn hg (blk_lt (zb BK388)); replace BK388 := zbb BK388 hb; obtain ⟨NB0_399, NB399_0⟩ := znn hg (IsS106.lt (show IsS106 w0 _ g s0_0 x1001_2 x1002_2 from zi106 HI0)); replace HI0 := zm (IsS106.below (zi106 HI0) hb); clear hb hbox hg; obtain ⟨_, _⟩ := zne NB399_380; obtain ⟨_, _⟩ := zne NB399_381; obtain ⟨_, _⟩ := zne NB399_388; obtain ⟨_, _⟩ := zne NB399_0; obtain ⟨⟨hcz53_0, hcz53_1, hcz53_2⟩, hfz53_0, hfz53_1, hfz53_2⟩ := zc3 BK399) | ((with_reducible refine gate_callee (f := 80) rfl ?_); refine zgl 44 Try.func80 #[.pointer (some ⟨g, 0, none⟩), .int .i64 5] ?_; refine (F15.calls g s0_0 x1001_2 x1002_2 5 false t401 t402 w0 _ (zi106 HI0) (zj106 HB) A30.out).mono ?_; rintro e w54 ⟨rfl, hi, hb, hk⟩; refine ⟨_, rfl, ?_⟩; replace HO_389001 := zm (Kd.S_mono (Kd.S_keep (IsS106.apartS (show IsS106 w0 _ g s0_0 x1001_2 x1002_2 from zi106 HI0) (by (with_reducible repeat (first | apply Kd.S_alloc | apply Kd.S_drewN | apply Kd.S_drew)); exact (Kd.S_mono (zfS gb399 2 (zfS gb399 1 (zfS gb399 0 (Kd.S_mono HO_389001.out (fun k_ hk => (⟨hk, hk.2⟩ : _ ∧ k_ ≠ gb399))) (.string ((rd_T126 l1_0 x6_2).f0))) (.slice none 0 0)) (.slice none 0 0)) (fun _ h_ => h_.1))) (by decide)) hk (fun _ h => h.2)) (fun _ h => h.1)); replace BK380 := zm (KeepBut.blk hk (g' := gb380) (o := .cells #[.slice (some ad398) l1_0.length c1_0] 111 (0, 0)) (zp BK380) NB380_0.out (by simp)); replace BK381 := zm (KeepBut.blk hk (g' := gb381) (o := .cells #[.string (⟨#[]⟩ : ByteArray), .slice none 0 0] 31 (0, 0)) (zp BK381) NB381_0.out (by simp)); replace BK388 := zm (KeepBut.blk hk (g' := gb388) (o := .cells #[.string x389000_5, u389001] 31 (0, 0)) (zp BK388) NB388_0.out (by simp)); replace BK399 := zm (KeepBut.blk hk (g' := gb399) (o := .cells #[.string ((rd_T126 l1_0 x6_2).f0), .slice none 0 0, .slice none 0 0] 66 (0, 0)) (zp BK399) NB399_0.out (by simp)); replace HK := zkt HK hk; replace HB := zm (hb); replace HI0 := zm (hi); (try clear hb hk hi)) | ((with_reducible refine gate_callee (f := 55) rfl ?_); refine zgl 46 Try.func55 #[.pointer (some ⟨g, 0, none⟩), .int .i64 8] ?_; refine (F1.calls g s0_0 t401 t402 8 t403 t404 t405 w0 _ (zi106 HI0) (zj106 HB) A43.out).mono ?_; rintro e w55 ⟨rfl, hi, hb, hk⟩; refine ⟨_, rfl, ?_⟩; replace HO_389001 := zKS106 HI0 HO_389001 hk; replace BK380 := zkb BK380 NB380_0 hk; replace BK381 := zkb BK381 NB381_0 hk; replace BK388 := zkb BK388 NB388_0 hk; replace BK399 := zkb BK399 NB399_0 hk; replace HK := zkt HK hk; replace HB := zm (hb); replace HI0 := zm (hi); (try clear hb hk hi)))
     go_loopg [8] k2 (fun kq v8 w' => ∃ (x8_3 : Int) (x1001_3 : Int) (x1002_3 : Int) (x400001_3 : List ByteArray) (x400002_3 : List Int) (u400001 : Value) (u400002 : Value), v8 = .int .i64 x8_3 ∧ Aside0 (F3.l1 kq x6_2 x8_3 s0_0 x1001_3 x1002_3 l1_0 x389000_5 x389001_2 ((rd_T126 l1_0 x6_2).f0) x400001_3 x400002_3 = some (r1, r2, r3, r4)) ∧ Aside0 (kq ≤ k2) ∧ Aside0 (Kd.S k66 66 w' w.heap.size (fun k_ => some k_ ≠ (u400001 : Value).ownBlock ∧ some k_ ≠ (u400002 : Value).ownBlock ∧ k_ ≠ gb399) u389001 x389001_2) ∧ Aside0 (Kd.R Kd.string 9 w' w.heap.size (fun _ => True) u400001 x400001_3) ∧ Aside0 (Kd.R (Kd.int .i64) 3 w' w.heap.size (fun _ => True) u400002 x400002_3) ∧ Aside0 (w'.heap[gb380]? = some (.cells #[(.slice (some ad398) l1_0.length c1_0)] 111 (0, 0))) ∧ Aside0 (w'.heap[gb381]? = some (.cells #[.string (⟨#[]⟩ : ByteArray), (.slice none 0 0)] 31 (0, 0))) ∧ Aside0 (w'.heap[gb388]? = some (.cells #[.string x389000_5, u389001] 31 (0, 0))) ∧ Aside0 (w'.heap[gb399]? = some (.cells #[.string ((rd_T126 l1_0 x6_2).f0), u400001, u400002] 66 (0, 0))) ∧ Aside0 (IsS106 w0 w' g s0_0 x1001_3 x1002_3) ∧ Aside0 (KeepBut w w' g none) ∧ Aside0 (Below w0.heap.size w0 w'))
     case atStart => exact ⟨(wrap64 ((wrap64 (Int.tdiv t403 6)) + 1)), (t404), (t405), (([] : List ByteArray)), (([] : List Int)), (.slice none 0 0), (.slice none 0 0), zrs, H', ⟨Nat.le_refl _⟩, ⟨Kd.S_mono (zs HO_389001) (fun _ hk => ⟨(by simp [Value.ownBlock]), ⟨(by simp [Value.ownBlock]), hk.2⟩⟩)⟩, ⟨by first | exact Kd.R_nil _ _ _ _ _ | exact Kd.N_nil _ _ _ _ _ | exact Kd.V_nil _ _ _ _ _ | exact Kd.Q_nil _ _ _ _ _ | exact Kd.S_nil _ _ _ _ _⟩, ⟨by first | exact Kd.R_nil _ _ _ _ _ | exact Kd.N_nil _ _ _ _ _ | exact Kd.V_nil _ _ _ _ _ | exact Kd.Q_nil _ _ _ _ _ | exact Kd.S_nil _ _ _ _ _⟩, ⟨zb BK380⟩, ⟨zb BK381⟩, ⟨zb BK388⟩, ⟨zb BK399⟩, ⟨zi106 HI0⟩, ⟨zk HK⟩, ⟨zj106 HB⟩⟩
     case round =>
      clear H'
      try clear c4
      try clear c4b0
      try clear c4b1
      try clear c4b2
      try clear hcv12
      try clear c28
      try clear c28b0
      try clear c29
      try clear c29b0
      try clear c31
      try clear hcz17_0 hcz17_1
      try clear hcz47_0
      try clear hcz53_0 hcz53_1 hcz53_2
      try clear hfz17_0 hfz17_1
      try clear hfz47_0
      try clear hfz53_0 hfz53_1 hfz53_2
      try clear hx398_0
      try clear hx398_1
      try clear hx398_2
      try clear hx398_3
      try clear hx398_4
      try clear hx398_5
      try clear hx398_6
      try clear hx398_7
      try clear hx398_8
      try clear p398
      try clear q398
      obtain ⟨x8_3, x1001_3, x1002_3, x400001_3, x400002_3, u400001, u400002, rfl, HA, HK3, HO_389001, HO_400001, HO_400002, BK380, BK381, BK388, BK399, HI0, HK, HB⟩ := hrel
      cases gk with
      | zero => exact absurd HA.out (by simp [F3.l1])
      | succ k3 =>
       have H := HA.out
       clear HA
       simp only [F3.l1] at H
       by_cases c56 : x8_3 > 0
       rotate_left
       ·rw [if_neg c56] at H
        have c56b0 := decide_eq_false c56
        clear c56
        replace H := zif H
        obtain ⟨c107, H⟩ := H
        have LMc107 := zm c107
        clear c107
        obtain ⟨y406, hy406⟩ : ∃ y_ : List (S66), y_ = (x389001_2 ++ [(⟨((rd_T126 l1_0 x6_2).f0), x400001_3, x400002_3⟩ : S66)]) := ⟨_, rfl⟩
        replace H : (F3.l0 k3 (wrap64 (x6_2 + 1)) s0_0 x1001_3 x1002_3 l1_0 x389000_5 y406) = some (r1, r2, r3, r4) := zby hy406 H
        have Ny406 := zm hy406
        clear hy406
        have H' := zm H
        clear H
        obtain ⟨_, _⟩ := zne NB388_380
        obtain ⟨_, _⟩ := zne NB388_381
        obtain ⟨_, _⟩ := zne NB388_399
        obtain ⟨_, _⟩ := zne NB388_0
        obtain ⟨⟨_, _⟩, _, _⟩ := zc2 BK388
        obtain ⟨_, _⟩ := zne NB399_380
        obtain ⟨_, _⟩ := zne NB399_381
        obtain ⟨_, _⟩ := zne NB399_0
        obtain ⟨⟨_, _, _⟩, _, _, _⟩ := zc3 BK399
        obtain ⟨Ao118, co118, eo118⟩ := Kd.R_slice HO_400001.out
        subst eo118
        obtain ⟨Ao119, co119, eo119⟩ := Kd.R_slice HO_400002.out
        subst eo119
        go_wp2_with (first | ((with_reducible refine gate_builtin (b := .append) (xs := #[.tmp 91, .tmp 93]) rfl ?_); at_builtin; refine Kd.S_append k66 w.heap.size rfl (.tmp 91) (.tmp 93) 29 66 (.agg #[(.string ⟨#[]⟩), (.slice none 0 0), (.slice none 0 0)]) 64 rfl Try.underlying29 info66 rfl (by decide) (by omega) u389001 x389001_2 (⟨((rd_T126 l1_0 x6_2).f0), x400001_3, x400002_3⟩ : S66) [.string ((rd_T126 l1_0 x6_2).f0), .slice Ao118 x400001_3.length co118, .slice Ao119 x400002_3.length co119] (fun k_ => k_ ≠ gb399) (fun k_ => some k_ = (.slice Ao118 x400001_3.length co118 : Value).ownBlock ∨ some k_ = (.slice Ao119 x400002_3.length co119 : Value).ownBlock) rfl rfl ?aP (fun k_ hk_ => hk_.elim (fun h_ => ((Kd.R_mono (ok' := fun k_ => ((fun k_ => k_ ≠ gb399)) k_ ∧ some k_ ≠ (u389001 : Value).ownBlock) (Kd.R_types (Kd.R_apart' (HO_400001.out) (Kd.S_typed HO_389001.out) (by decide)) BK399.out (by decide)) (fun k_ hk => ⟨hk.2, hk.1.2⟩))).1 k_ h_.symm) (fun h_ => ((Kd.R_mono (ok' := fun k_ => ((fun k_ => k_ ≠ gb399)) k_ ∧ some k_ ≠ (u389001 : Value).ownBlock) (Kd.R_types (Kd.R_apart' (HO_400002.out) (Kd.S_typed HO_389001.out) (by decide)) BK399.out (by decide)) (fun k_ hk => ⟨hk.2, hk.1.2⟩))).1 k_ h_.symm)) ?aF ?aO (Below.refl _ _) ?aS ?aL ?_; (case aP => exact k66_mkM _ _ _ (⟨((rd_T126 l1_0 x6_2).f0), x400001_3, x400002_3⟩ : S66) (Kd.R_mono (Kd.R_tight rfl (Kd.R_mono (ok' := fun k_ => ((fun k_ => k_ ≠ gb399)) k_ ∧ some k_ ≠ (u389001 : Value).ownBlock) (Kd.R_types (Kd.R_apart' (HO_400001.out) (Kd.S_typed HO_389001.out) (by decide)) BK399.out (by decide)) (fun k_ hk => ⟨hk.2, hk.1.2⟩))) (fun _ h_ => Or.inl h_)) (Kd.R_mono (Kd.R_tight rfl (Kd.R_mono (ok' := fun k_ => ((fun k_ => k_ ≠ gb399)) k_ ∧ some k_ ≠ (u389001 : Value).ownBlock) (Kd.R_types (Kd.R_apart' (HO_400002.out) (Kd.S_typed HO_389001.out) (by decide)) BK399.out (by decide)) (fun k_ hk => ⟨hk.2, hk.1.2⟩))) (fun _ h_ => Or.inr (h_)))); (case aF => exact (fun k_ hk => Kd.freshB (zb BK399) k_ hk)); (case aO => exact (Kd.S_mono (zs HO_389001) (fun k_ hk => ⟨hk.2.2, fun e_ => e_.elim (fun h_ => hk.1 h_) (fun h_ => hk.2.1 h_)⟩))); (case aS => exact (keep_size (w := w) (g := g) (row := none) (zk HK))); (case aL => have := LMc107.out; omega); intro v407 w117 ho hb hg hat; rw [← Ny406.out] at ho; replace BK380 := zm (blk_grown (zb BK380) hg (Kd.S_ne HO_389001.out BK380.out (by decide))); replace BK381 := zm (blk_grown (zb BK381) hg (Kd.S_ne HO_389001.out BK381.out (by decide))); replace BK388 := zm (blk_grown (zb BK388) hg (Kd.S_ne HO_389001.out BK388.out (by decide))); replace BK399 := zm (blk_grown (zb BK399) hg (Kd.S_away HO_389001.out (fun _ hk => hk.2.2))); replace HI0 := zm (IsS106.grown (zi106 HI0) hg (IsS106.own_neS HI0.out HO_389001.out (by decide))); replace HB := zm (below_weaken (zj106 HB) HL.out hb); replace HK := zm (KeepBut.trans (zk HK) (KeepBut.of_grown hg g) (Kd.S_base2 HO_389001.out)); have HO408 := zm (ho); clear HO_389001 HO_400001 HO_400002; clear ho hb hg hat; obtain ⟨Ao120, co120, eo120⟩ := Kd.S_slice HO408.out; subst eo120; obtain ⟨⟨_, _⟩, _, _⟩ := zc2 BK388))
        go_roundg k3
        case measure => have := HJ5.out; have := HK2.out; have := HK3.out; omega
        case rel => exact ⟨(wrap64 (x6_2 + 1)), (x1001_3), (x1002_3), (y406), (.slice Ao120 y406.length co120), zrs, H', ⟨by have := HJ5.out; have := HK2.out; have := HK3.out; omega⟩, ⟨by (with_reducible repeat (first | apply Kd.S_alloc | apply Kd.S_drewN | apply Kd.S_drew)); exact Kd.S_mono (zfS gb388 1 (Kd.S_types HO408.out BK388.out (by decide)) (.slice Ao120 y406.length co120)) (fun _ hk => trivial)⟩, ⟨zp BK380⟩, ⟨zp BK381⟩, ⟨zp BK388⟩, ⟨zi106 HI0⟩, ⟨zk HK⟩, ⟨zj106 HB⟩⟩
       rw [if_pos c56] at H
       have c56b0 := decide_eq_true c56
       clear c56
       replace H := zif H
       obtain ⟨c57, H⟩ := H
       have c57b0 := decide_eq_true c57
       clear c57
       replace H := zif H
       obtain ⟨c58, H⟩ := H
       have c58b0 := decide_eq_true c58
       clear c58
       by_cases c59 : ((rd_T126 l1_0 x6_2).f1) = 1
       ·rw [if_pos c59] at H
        have c59b0 := z1 c59
        have c59b1 := z3 c59
        clear c59
        replace H := zbi H
        obtain ⟨⟨t410, t411, t412⟩, A60, H⟩ := H
        try dsimp only at H
        replace H := zbi H
        obtain ⟨⟨t413, t414, t415⟩, A61, H⟩ := H
        try dsimp only at H
        replace H := zif H
        obtain ⟨c62, H⟩ := H
        have LMc62 := zm c62
        clear c62
        obtain ⟨y416, hy416⟩ : ∃ y_ : List ByteArray, y_ = (x400001_3 ++ [t413]) := ⟨_, rfl⟩
        replace H : (F3.l1 k3 x6_2 (wrap64 (x8_3 - 1)) s0_0 t414 t415 l1_0 x389000_5 x389001_2 ((rd_T126 l1_0 x6_2).f0) y416 x400002_3) = some (r1, r2, r3, r4) := zby hy416 H
        have Ny416 := zm hy416
        clear hy416
        have H' := zm H
        clear H
        obtain ⟨_, _⟩ := zne NB380_381
        obtain ⟨_, _⟩ := zne NB380_388
        obtain ⟨_, _⟩ := zne NB380_399
        obtain ⟨_, _⟩ := zne NB380_0
        obtain ⟨_, _⟩ := zc1 BK380
        have p409 : 0 ≤ (x6_2 : Int) := of_decide_eq_true zas
        have q409 : x6_2 < (l1_0.length : Int) := of_decide_eq_true zas
        obtain ⟨ad409, A409_5, c409_5, A409_6, c409_6, e409, hx409_0, hx409_1, hx409_2, hx409_3, hx409_4, hx409_5, hx409_6, hx409_7, hx409_8, hl409_5, hi409_5, hl409_6, hi409_6⟩ := at_T126 (Kd.C_foot_now HR1_0.out HK.out) x6_2 p409 q409
        obtain rfl : ad398 = ad409 := (by injection e409)
        have HR409_5 := zm hi409_5
        have HC409_5 := zm hl409_5
        clear hi409_5 hl409_5
        have HR409_6 := zm hi409_6
        have HC409_6 := zm hl409_6
        clear hi409_6 hl409_6
        replace p409 := eq_true p409
        replace q409 := eq_true q409
        try go_wp2
        replace HO_389001 := zm (Kd.S_drew HO_389001.out)
        replace HO_400001 := zm (Kd.R_drew HO_400001.out)
        replace HO_400002 := zm (Kd.R_drew HO_400002.out)
        replace BK380 := zm (blk_drew BK380.out)
        replace BK381 := zm (blk_drew BK381.out)
        replace BK388 := zm (blk_drew BK388.out)
        replace BK399 := zm (blk_drew BK399.out)
        replace HR409_5 := zm (Kd.C_drew HR409_5.out)
        replace HR409_6 := zm (Kd.C_drew HR409_6.out)
        replace HI0 := zm (IsS106.drew HI0.out)
        replace HK := zm (keep_drew HK.out)
        replace HB := zm (below_drew1 HB.out)
        refine start_ (n := 10) (S := fun w' => w'.cell? ⟨gb399, 0, none⟩ = some (.string ((rd_T126 l1_0 x6_2).f0)) ∧ w'.cell? ⟨gb399, 1, none⟩ = some (u400001) ∧ w'.cell? ⟨gb399, 2, none⟩ = some (u400002)) (ds := [9]) (fl10_ 10 0) (by kernel_rfl) rfl rfl ⟨zd BK399 0, zd BK399 1, zd BK399 2⟩ (fun hHeld => ?_); refine with_tabW F3.tab15 F3.bits15 (fun HT_ HW_ => ?_)
        generalize wr.drew = w68 at HO_389001 HO_400001 HO_400002 BK380 BK381 BK388 BK399 HR409_5 HR409_6 HI0 HK HB hHeld ⊢
        refine zpu HT_ 0 69 (fl10_ 10 1) ?_
        refine zpu HT_ 2 71 (fl10_ 10 5) ?_
        refine zpu HT_ 3 72 (fl10_ 10 13) ?_
        refine ztk HT_ HW_ 1 70 (fl10_ 10 15) hHeld ?_
        refine zon HT_ 4 73 (fl10_ 10 31) (fun K hK => ?_)
        refine goes_ Try.func55 (by kernel_rfl) rfl #[.pointer (some ⟨g, 0, none⟩), .int .i64 12] (by rfl) rfl rfl zar ?_
        refine (F1.calls g s0_0 x1001_3 x1002_3 12 t410 t411 t412 w0 _ (zi106 HI0) (zj106 HB) A60.out).mono ?_
        rintro e w69 ⟨rfl, hi, hb, hk⟩
        refine ⟨_, rfl, ?_⟩
        replace HO_389001 := zKS106 HI0 HO_389001 hk
        replace HO_400001 := zKR106 HI0 HO_400001 hk
        replace HO_400002 := zKR106 HI0 HO_400002 hk
        replace BK380 := zkb BK380 NB380_0 hk
        replace BK381 := zkb BK381 NB381_0 hk
        replace BK388 := zkb BK388 NB388_0 hk
        replace BK399 := zkb BK399 NB399_0 hk
        replace HK := zkt HK hk
        replace HB := zm (hb)
        replace HI0 := zm (hi)
        (try clear hb hk hi)
        refine hK.out _ _ ⟨zd BK399 0, zd BK399 1, zd BK399 2⟩ (fun hHeld => ?_)
        clear hK K
        refine norm_ zac ?_
        refine zon HT_ 5 74 (fl10_ 10 63) (fun K hK => ?_)
        refine goes_ Try.func97 (by kernel_rfl) rfl #[.pointer (some ⟨g, 0, none⟩), .int .i64 t410] (by rfl) rfl rfl zar ?_
        refine (F17.calls k3 g s0_0 t411 t412 t410 t413 t414 t415 w0 _ (zi106 HI0) (zj106 HB) A61.out).mono ?_
        rintro e w70 ⟨rfl, hi, hb, hk⟩
        refine ⟨_, rfl, ?_⟩
        replace HO_389001 := zKS106 HI0 HO_389001 hk
        replace HO_400001 := zKR106 HI0 HO_400001 hk
        replace HO_400002 := zKR106 HI0 HO_400002 hk
        replace BK380 := zkb BK380 NB380_0 hk
        replace BK381 := zkb BK381 NB381_0 hk
        replace BK388 := zkb BK388 NB388_0 hk
        replace BK399 := zkb BK399 NB399_0 hk
        replace HK := zkt HK hk
        replace HB := zm (hb)
        replace HI0 := zm (hi)
        (try clear hb hk hi)
        refine hK.out _ _ ⟨zd BK399 0, zd BK399 1, zd BK399 2⟩ (fun hHeld => ?_)
        clear hK K
        refine norm_ zac ?_
        refine zon HT_ 6 75 (fl10_ 10 127) (fun K hK => ?_)
        refine value_ (w1 := ?_) (v := ?_) (by rfl) rfl ?_ ?_
        rotate_left 2
        ·go_simp
         constructor
         ·rfl
         ·rfl
        refine hK.out _ _ ⟨(blk_cell (blk_alloc BK399.out _) 0).trans rfl, (blk_cell (blk_alloc BK399.out _) 1).trans rfl, (blk_cell (blk_alloc BK399.out _) 2).trans rfl⟩ (fun hHeld => ?_)
        clear hK K
        refine norm_ zac ?_
        refine zon HT_ 7 76 (fl10_ 10 255) (fun K hK => ?_)
        refine Kd.R_append_step Kd.string w.heap.size (by rfl) (.tmp 70) (.tmp 75) 64 9 (.string ⟨#[]⟩) 16 rfl Try.underlying64 info9 rfl (by decide) (by omega) u400001 x400001_3 t413 [.string t413] (fun _ => True) (fun _ => False) rfl rfl ?aP (fun _ hk => hk.elim) ?aF ?aO (Below.refl _ _) ?aS ?aL ?_
        (case aP => exact rfl)
        (case aF => exact (fun _ _ => trivial))
        (case aO => exact (zr HO_400001))
        (case aS => exact (keep_size (w := w) (g := g) (row := none) (zk HK)))
        (case aL => have := LMc62.out; omega)
        intro v417 w71 ho hb hg hat
        rw [← Ny416.out] at ho
        replace HO_389001 := zm (Kd.S_after (ok := (fun k_ => some k_ ≠ (u400002 : Value).ownBlock ∧ k_ ≠ gb399)) (Kd.S_mono (zs HO_389001) (fun _ hk => ⟨⟨hk.2.1, hk.2.2⟩, hk.1⟩)) hg hat)
        replace HO_400002 := zm (Kd.R_over' (zr HO_400002) (Kd.R_typed (zr HO_400001)) (by decide) hg)
        replace BK380 := zm (blk_grown (zb BK380) hg (Kd.R_ne HO_400001.out BK380.out (by decide)))
        replace BK381 := zm (blk_grown (zb BK381) hg (Kd.R_ne HO_400001.out BK381.out (by decide)))
        replace BK388 := zm (blk_grown (zb BK388) hg (Kd.R_ne HO_400001.out BK388.out (by decide)))
        replace BK399 := zm (blk_grown (zb BK399) hg (Kd.R_ne HO_400001.out BK399.out (by decide)))
        replace HI0 := zm (IsS106.grown (zi106 HI0) hg (IsS106.own_ne HI0.out HO_400001.out (by decide)))
        replace HB := zm (below_weaken (zj106 HB) HL.out hb)
        replace HK := zm (KeepBut.trans (zk HK) (KeepBut.of_grown hg g) (Kd.R_base2 HO_400001.out))
        have HO418 := zm (ho)
        clear HO_400001
        clear ho hb hg hat
        obtain ⟨Ao72, co72, eo72⟩ := Kd.R_slice HO418.out
        (first | subst eo72 | (injection eo72 with f1_ f2_ f3_; have f4_ := f1_.symm; have f5_ := f3_.symm; clear f1_ f2_ f3_; subst f4_; subst f5_))
        refine hK.out _ _ ⟨zd BK399 0, zd BK399 1, zd BK399 2⟩ (fun hHeld => ?_)
        clear hK K
        refine norm_ zac ?_
        refine zpu HT_ 8 77 (fl10_ 10 511) ?_
        refine last_ (i := 9) (N := none) (fl10_ 10 1023) rfl rfl (one_of HT_.out (by kernel_rfl)) (by decide) (fun K hK => ?_)
        have hs73 : w71.cell? ⟨gb399, 1, none⟩ = some (u400001) := zd BK399 1
        have hfs73 := blk_frozen BK399.out 1
        have hns73_0 := NB380_399.out
        have hns73_1 := NB381_399.out
        have hns73_2 := NB388_399.out
        have hms73_0 := NB399_380.out
        have hms73_1 := NB399_381.out
        have hms73_2 := NB399_388.out
        refine skip_ (w1 := ?_) (by rfl) rfl ?_ ?_
        rotate_left
        ·go_simp
         rfl
        refine hK.out _ _ ?_
        clear hK K
        refine done_ (done_of HT_.out (by kernel_rfl)) ?_
        try go_wp2
        go_roundg k3
        case measure => have := HJ5.out; have := HK2.out; have := HK3.out; omega
        case rel => exact ⟨(wrap64 (x8_3 - 1)), (t414), (t415), (y416), (x400002_3), (.slice Ao72 y416.length co72), (u400002), zrs, H', ⟨by have := HJ5.out; have := HK2.out; have := HK3.out; omega⟩, ⟨by (with_reducible repeat (first | apply Kd.S_alloc | apply Kd.S_drewN | apply Kd.S_drew)); exact Kd.S_mono (zfS gb399 1 (Kd.S_mono HO_389001.out (fun k_ hk => (⟨hk, hk.1.2⟩ : _ ∧ k_ ≠ gb399))) (.slice Ao72 y416.length co72)) (fun _ hk => ⟨hk.1.2, ⟨hk.1.1.1, hk.1.1.2⟩⟩)⟩, ⟨by (with_reducible repeat (first | apply Kd.R_alloc | apply Kd.R_drewN | apply Kd.R_drew)); exact Kd.R_mono (Kd.R_far (p := ⟨gb399, 1, none⟩) (Kd.R_types HO418.out BK399.out (by decide)) (fun _ hk => hk.2) (.slice Ao72 y416.length co72)) (fun _ hk => trivial)⟩, ⟨by (with_reducible repeat (first | apply Kd.R_alloc | apply Kd.R_drewN | apply Kd.R_drew)); exact Kd.R_mono (Kd.R_far (p := ⟨gb399, 1, none⟩) (Kd.R_types HO_400002.out BK399.out (by decide)) (fun _ hk => hk.2) (.slice Ao72 y416.length co72)) (fun _ hk => trivial)⟩, ⟨zp BK380⟩, ⟨zp BK381⟩, ⟨zp BK388⟩, ⟨zp BK399⟩, ⟨zi106 HI0⟩, ⟨zk HK⟩, ⟨zj106 HB⟩⟩
       rw [if_neg c59] at H
       have c59b0 := z2 c59
       have c59b1 := z4 c59
       by_cases c74 : ((rd_T126 l1_0 x6_2).f1) = 2
       rotate_left
       ·rw [if_neg c74] at H
        have c74b0 := z2 c74
        have c74b1 := z4 c74
        replace H := zbi H
        obtain ⟨⟨t429, t430, t431⟩, A95, H⟩ := H
        try dsimp only at H
        replace H := zif H
        obtain ⟨c96, H⟩ := H
        have LMc96 := zm c96
        clear c96
        obtain ⟨y432, hy432⟩ : ∃ y_ : List Int, y_ = (x400002_3 ++ [wrap64 (t429 - 5)]) := ⟨_, rfl⟩
        replace H : (F3.l1 k3 x6_2 (wrap64 (x8_3 - 1)) s0_0 t430 t431 l1_0 x389000_5 x389001_2 ((rd_T126 l1_0 x6_2).f0) x400001_3 y432) = some (r1, r2, r3, r4) := zby hy432 H
        have Ny432 := zm hy432
        clear hy432
        have H' := zm H
        clear H
        obtain ⟨_, _⟩ := zne NB380_381
        obtain ⟨_, _⟩ := zne NB380_388
        obtain ⟨_, _⟩ := zne NB380_399
        obtain ⟨_, _⟩ := zne NB380_0
        obtain ⟨_, _⟩ := zc1 BK380
        have p409 : 0 ≤ (x6_2 : Int) := of_decide_eq_true zas
        have q409 : x6_2 < (l1_0.length : Int) := of_decide_eq_true zas
        obtain ⟨ad409, A409_5, c409_5, A409_6, c409_6, e409, hx409_0, hx409_1, hx409_2, hx409_3, hx409_4, hx409_5, hx409_6, hx409_7, hx409_8, hl409_5, hi409_5, hl409_6, hi409_6⟩ := at_T126 (Kd.C_foot_now HR1_0.out HK.out) x6_2 p409 q409
        obtain rfl : ad398 = ad409 := (by injection e409)
        have HR409_5 := zm hi409_5
        have HC409_5 := zm hl409_5
        clear hi409_5 hl409_5
        have HR409_6 := zm hi409_6
        have HC409_6 := zm hl409_6
        clear hi409_6 hl409_6
        replace p409 := eq_true p409
        replace q409 := eq_true q409
        try go_wp2
        replace HO_389001 := zm (Kd.S_drew HO_389001.out)
        replace HO_400001 := zm (Kd.R_drew HO_400001.out)
        replace HO_400002 := zm (Kd.R_drew HO_400002.out)
        replace BK380 := zm (blk_drew BK380.out)
        replace BK381 := zm (blk_drew BK381.out)
        replace BK388 := zm (blk_drew BK388.out)
        replace BK399 := zm (blk_drew BK399.out)
        replace HR409_5 := zm (Kd.C_drew HR409_5.out)
        replace HR409_6 := zm (Kd.C_drew HR409_6.out)
        replace HI0 := zm (IsS106.drew HI0.out)
        replace HK := zm (keep_drew HK.out)
        replace HB := zm (below_drew1 HB.out)
        refine start_ (n := 9) (S := fun w' => w'.cell? ⟨gb399, 0, none⟩ = some (.string ((rd_T126 l1_0 x6_2).f0)) ∧ w'.cell? ⟨gb399, 1, none⟩ = some (u400001) ∧ w'.cell? ⟨gb399, 2, none⟩ = some (u400002)) (ds := [8]) (fl10_ 9 0) (by kernel_rfl) rfl rfl ⟨zd BK399 0, zd BK399 1, zd BK399 2⟩ (fun hHeld => ?_); refine with_tabW F3.tab13 F3.bits13 (fun HT_ HW_ => ?_)
        generalize wr.drew = w102 at HO_389001 HO_400001 HO_400002 BK380 BK381 BK388 BK399 HR409_5 HR409_6 HI0 HK HB hHeld ⊢
        refine zpu HT_ 0 59 (fl10_ 9 1) ?_
        refine zpu HT_ 2 61 (fl10_ 9 5) ?_
        refine ztk HT_ HW_ 1 60 (fl10_ 9 7) hHeld ?_
        refine zon HT_ 3 62 (fl10_ 9 15) (fun K hK => ?_)
        refine goes_ Try.func55 (by kernel_rfl) rfl #[.pointer (some ⟨g, 0, none⟩), .int .i64 30] (by rfl) rfl rfl zar ?_
        refine (F1.calls g s0_0 x1001_3 x1002_3 30 t429 t430 t431 w0 _ (zi106 HI0) (zj106 HB) A95.out).mono ?_
        rintro e w103 ⟨rfl, hi, hb, hk⟩
        refine ⟨_, rfl, ?_⟩
        replace HO_389001 := zKS106 HI0 HO_389001 hk
        replace HO_400001 := zKR106 HI0 HO_400001 hk
        replace HO_400002 := zKR106 HI0 HO_400002 hk
        replace BK380 := zkb BK380 NB380_0 hk
        replace BK381 := zkb BK381 NB381_0 hk
        replace BK388 := zkb BK388 NB388_0 hk
        replace BK399 := zkb BK399 NB399_0 hk
        replace HK := zkt HK hk
        replace HB := zm (hb)
        replace HI0 := zm (hi)
        (try clear hb hk hi)
        refine hK.out _ _ ⟨zd BK399 0, zd BK399 1, zd BK399 2⟩ (fun hHeld => ?_)
        clear hK K
        refine norm_ zac ?_
        refine zpu HT_ 4 63 (fl10_ 9 31) ?_
        refine zon HT_ 5 64 (fl10_ 9 63) (fun K hK => ?_)
        refine value_ (w1 := ?_) (v := ?_) (by rfl) rfl ?_ ?_
        rotate_left 2
        ·go_simp
         constructor
         ·rfl
         ·rfl
        refine hK.out _ _ ⟨(blk_cell (blk_alloc BK399.out _) 0).trans rfl, (blk_cell (blk_alloc BK399.out _) 1).trans rfl, (blk_cell (blk_alloc BK399.out _) 2).trans rfl⟩ (fun hHeld => ?_)
        clear hK K
        refine norm_ zac ?_
        refine zon HT_ 6 65 (fl10_ 9 127) (fun K hK => ?_)
        refine Kd.R_append_step (Kd.int .i64) w.heap.size (by rfl) (.tmp 60) (.tmp 64) 52 3 (.int .i64 0) 8 rfl Try.underlying52 info3 rfl (by decide) (by omega) u400002 x400002_3 (wrap64 (t429 - 5)) [.int .i64 (wrap64 (t429 - 5))] (fun _ => True) (fun _ => False) rfl rfl ?aP (fun _ hk => hk.elim) ?aF ?aO (Below.refl _ _) ?aS ?aL ?_
        (case aP => exact rfl)
        (case aF => exact (fun _ _ => trivial))
        (case aO => exact (zr HO_400002))
        (case aS => exact (keep_size (w := w) (g := g) (row := none) (zk HK)))
        (case aL => have := LMc96.out; omega)
        intro v433 w104 ho hb hg hat
        rw [← Ny432.out] at ho
        replace HO_389001 := zm (Kd.S_after (ok := (fun k_ => some k_ ≠ (u400001 : Value).ownBlock ∧ k_ ≠ gb399)) (Kd.S_mono (zs HO_389001) (fun _ hk => ⟨⟨hk.1, hk.2.2⟩, hk.2.1⟩)) hg hat)
        replace HO_400001 := zm (Kd.R_over' (zr HO_400001) (Kd.R_typed (zr HO_400002)) (by decide) hg)
        replace BK380 := zm (blk_grown (zb BK380) hg (Kd.R_ne HO_400002.out BK380.out (by decide)))
        replace BK381 := zm (blk_grown (zb BK381) hg (Kd.R_ne HO_400002.out BK381.out (by decide)))
        replace BK388 := zm (blk_grown (zb BK388) hg (Kd.R_ne HO_400002.out BK388.out (by decide)))
        replace BK399 := zm (blk_grown (zb BK399) hg (Kd.R_ne HO_400002.out BK399.out (by decide)))
        replace HI0 := zm (IsS106.grown (zi106 HI0) hg (IsS106.own_ne HI0.out HO_400002.out (by decide)))
        replace HB := zm (below_weaken (zj106 HB) HL.out hb)
        replace HK := zm (KeepBut.trans (zk HK) (KeepBut.of_grown hg g) (Kd.R_base2 HO_400002.out))
        have HO434 := zm (ho)
        clear HO_400002
        clear ho hb hg hat
        obtain ⟨Ao105, co105, eo105⟩ := Kd.R_slice HO434.out
        (first | subst eo105 | (injection eo105 with f1_ f2_ f3_; have f4_ := f1_.symm; have f5_ := f3_.symm; clear f1_ f2_ f3_; subst f4_; subst f5_))
        refine hK.out _ _ ⟨zd BK399 0, zd BK399 1, zd BK399 2⟩ (fun hHeld => ?_)
        clear hK K
        refine norm_ zac ?_
        refine zpu HT_ 7 66 (fl10_ 9 255) ?_
        refine last_ (i := 8) (N := none) (fl10_ 9 511) rfl rfl (one_of HT_.out (by kernel_rfl)) (by decide) (fun K hK => ?_)
        have hs106 : w104.cell? ⟨gb399, 2, none⟩ = some (u400002) := zd BK399 2
        have hfs106 := blk_frozen BK399.out 2
        have hns106_0 := NB380_399.out
        have hns106_1 := NB381_399.out
        have hns106_2 := NB388_399.out
        have hms106_0 := NB399_380.out
        have hms106_1 := NB399_381.out
        have hms106_2 := NB399_388.out
        refine skip_ (w1 := ?_) (by rfl) rfl ?_ ?_
        rotate_left
        ·go_simp
         rfl
        refine hK.out _ _ ?_
        clear hK K
        refine done_ (done_of HT_.out (by kernel_rfl)) ?_
        try go_wp2
        go_roundg k3
        case measure => have := HJ5.out; have := HK2.out; have := HK3.out; omega
        case rel => exact ⟨(wrap64 (x8_3 - 1)), (t430), (t431), (x400001_3), (y432), (u400001), (.slice Ao105 y432.length co105), zrs, H', ⟨by have := HJ5.out; have := HK2.out; have := HK3.out; omega⟩, ⟨by (with_reducible repeat (first | apply Kd.S_alloc | apply Kd.S_drewN | apply Kd.S_drew)); exact Kd.S_mono (zfS gb399 2 (Kd.S_mono HO_389001.out (fun k_ hk => (⟨hk, hk.1.2⟩ : _ ∧ k_ ≠ gb399))) (.slice Ao105 y432.length co105)) (fun _ hk => ⟨hk.1.1.1, ⟨hk.1.2, hk.1.1.2⟩⟩)⟩, ⟨by (with_reducible repeat (first | apply Kd.R_alloc | apply Kd.R_drewN | apply Kd.R_drew)); exact Kd.R_mono (Kd.R_far (p := ⟨gb399, 2, none⟩) (Kd.R_types HO_400001.out BK399.out (by decide)) (fun _ hk => hk.2) (.slice Ao105 y432.length co105)) (fun _ hk => trivial)⟩, ⟨by (with_reducible repeat (first | apply Kd.R_alloc | apply Kd.R_drewN | apply Kd.R_drew)); exact Kd.R_mono (Kd.R_far (p := ⟨gb399, 2, none⟩) (Kd.R_types HO434.out BK399.out (by decide)) (fun _ hk => hk.2) (.slice Ao105 y432.length co105)) (fun _ hk => trivial)⟩, ⟨zp BK380⟩, ⟨zp BK381⟩, ⟨zp BK388⟩, ⟨zp BK399⟩, ⟨zi106 HI0⟩, ⟨zk HK⟩, ⟨zj106 HB⟩⟩
       rw [if_pos c74] at H
       have c74b0 := z1 c74
       have c74b1 := z3 c74
       clear c74
       obtain ⟨y419, hy419⟩ : ∃ y_ : List ByteArray, y_ = (([(⟨#[114, 101, 100]⟩ : ByteArray), (⟨#[103, 114, 101, 101, 110]⟩ : ByteArray), (⟨#[98, 108, 117, 101]⟩ : ByteArray), (⟨#[82, 101, 100]⟩ : ByteArray), (⟨#[97, 32, 98]⟩ : ByteArray)] : List ByteArray)) := ⟨_, rfl⟩
       replace H : ((F1.f s0_0 x1001_3 x1002_3 5).bind fun bt422 => (if 0 ≤ bt422.1 then (if bt422.1 < (y419.length : Int) then (if x400001_3.length < 8796093022208 then (F3.l1 k3 x6_2 (wrap64 (x8_3 - 1)) s0_0 bt422.2.1 bt422.2.2 l1_0 x389000_5 x389001_2 ((rd_T126 l1_0 x6_2).f0) (x400001_3 ++ [rdOf ByteArray.empty y419 bt422.1]) x400002_3) else (none)) else (none)) else (none))) = some (r1, r2, r3, r4) := zby hy419 H
       have Ny419 := zm hy419
       clear hy419
       replace H := zbi H
       obtain ⟨⟨t422, t423, t424⟩, A75, H⟩ := H
       try dsimp only at H
       replace H := zif H
       obtain ⟨c76, H⟩ := H
       have c76b0 := decide_eq_true c76
       clear c76
       replace H := zif H
       obtain ⟨c77, H⟩ := H
       have c77b0 := decide_eq_true c77
       clear c77
       replace H := zif H
       obtain ⟨c78, H⟩ := H
       have LMc78 := zm c78
       clear c78
       obtain ⟨y426, hy426⟩ : ∃ y_ : List ByteArray, y_ = (x400001_3 ++ [rdOf ByteArray.empty y419 t422]) := ⟨_, rfl⟩
       replace H : (F3.l1 k3 x6_2 (wrap64 (x8_3 - 1)) s0_0 t423 t424 l1_0 x389000_5 x389001_2 ((rd_T126 l1_0 x6_2).f0) y426 x400002_3) = some (r1, r2, r3, r4) := zby hy426 H
       have Ny426 := zm hy426
       clear hy426
       have H' := zm H
       clear H
       obtain ⟨_, _⟩ := zne NB380_381
       obtain ⟨_, _⟩ := zne NB380_388
       obtain ⟨_, _⟩ := zne NB380_399
       obtain ⟨_, _⟩ := zne NB380_0
       obtain ⟨_, _⟩ := zc1 BK380
       have p409 : 0 ≤ (x6_2 : Int) := of_decide_eq_true zas
       have q409 : x6_2 < (l1_0.length : Int) := of_decide_eq_true zas
       obtain ⟨ad409, A409_5, c409_5, A409_6, c409_6, e409, hx409_0, hx409_1, hx409_2, hx409_3, hx409_4, hx409_5, hx409_6, hx409_7, hx409_8, hl409_5, hi409_5, hl409_6, hi409_6⟩ := at_T126 (Kd.C_foot_now HR1_0.out HK.out) x6_2 p409 q409
       obtain rfl : ad398 = ad409 := (by injection e409)
       have HR409_5 := zm hi409_5
       have HC409_5 := zm hl409_5
       clear hi409_5 hl409_5
       have HR409_6 := zm hi409_6
       have HC409_6 := zm hl409_6
       clear hi409_6 hl409_6
       replace p409 := eq_true p409
       replace q409 := eq_true q409
       obtain ⟨Ao84, co84, eo84⟩ := Kd.R_slice HO_400001.out
       subst eo84
       try go_wp2
       have pi425 : (0 ≤ (t422 : Int)) = True := eq_true (of_decide_eq_true zas)
       have qi425 : (t422 < (y419.length : Int)) = True := eq_true (of_decide_eq_true zas)
       replace HO_389001 := zm (Kd.S_drew HO_389001.out)
       replace HO_400001 := zm (Kd.R_drew HO_400001.out)
       replace HO_400002 := zm (Kd.R_drew HO_400002.out)
       replace BK380 := zm (blk_drew BK380.out)
       replace BK381 := zm (blk_drew BK381.out)
       replace BK388 := zm (blk_drew BK388.out)
       replace BK399 := zm (blk_drew BK399.out)
       replace HR409_5 := zm (Kd.C_drew HR409_5.out)
       replace HR409_6 := zm (Kd.C_drew HR409_6.out)
       replace HI0 := zm (IsS106.drew HI0.out)
       replace HK := zm (keep_drew HK.out)
       replace HB := zm (below_drew1 HB.out)
       refine start_ (n := 11) (S := fun w' => w'.cell? ⟨gb399, 0, none⟩ = some (.string ((rd_T126 l1_0 x6_2).f0)) ∧ w'.cell? ⟨gb399, 1, none⟩ = some (.slice Ao84 x400001_3.length co84) ∧ w'.cell? ⟨gb399, 2, none⟩ = some (u400002)) (ds := [10]) (fl10_ 11 0) (by kernel_rfl) rfl rfl ⟨zd BK399 0, zd BK399 1, zd BK399 2⟩ (fun hHeld => ?_); refine with_tabW F3.tab17 F3.bits17 (fun HT_ HW_ => ?_)
       generalize wr.drew = w85 at HO_389001 HO_400001 HO_400002 BK380 BK381 BK388 BK399 HR409_5 HR409_6 HI0 HK HB hHeld ⊢
       refine zpu HT_ 0 80 (fl10_ 11 1) ?_
       refine zpu HT_ 3 83 (fl10_ 11 9) ?_
       refine ztk HT_ HW_ 1 81 (fl10_ 11 11) hHeld ?_
       refine join_ (σ := Value × Addr) 6 (fl10_ 11 31) (fun s_ => [(82, s_.1), (84, .int .i64 t422)]) (fun s_ w' => (w'.cell? ⟨gb399, 0, none⟩ = some (.string ((rd_T126 l1_0 x6_2).f0)) ∧ w'.cell? ⟨gb399, 1, none⟩ = some (.slice Ao84 x400001_3.length co84) ∧ w'.cell? ⟨gb399, 2, none⟩ = some (u400002)) ∧ (Kd.R Kd.string 9 w' w.heap.size (fun k_ => some k_ ≠ (.slice Ao84 x400001_3.length co84 : Value).ownBlock) s_.1 y419) ∧ (Kd.S k66 66 w' w.heap.size (fun k_ => some k_ ≠ (s_.1 : Value).ownBlock ∧ some k_ ≠ (.slice Ao84 x400001_3.length co84 : Value).ownBlock ∧ some k_ ≠ (u400002 : Value).ownBlock ∧ k_ ≠ gb399) u389001 x389001_2) ∧ (Kd.R Kd.string 9 w' w.heap.size (fun k_ => some k_ ≠ (s_.1 : Value).ownBlock) (.slice Ao84 x400001_3.length co84) x400001_3) ∧ (Kd.R (Kd.int .i64) 3 w' w.heap.size (fun _ => True) u400002 x400002_3) ∧ (∃ c_, (s_.1 : Value) = .slice (some s_.2) y419.length c_) ∧ (w'.heap[gb380]? = some (.cells #[.slice (some ad398) l1_0.length c1_0] 111 (0, 0))) ∧ (w'.heap[gb381]? = some (.cells #[.string (⟨#[]⟩ : ByteArray), .slice none 0 0] 31 (0, 0))) ∧ (w'.heap[gb388]? = some (.cells #[.string x389000_5, u389001] 31 (0, 0))) ∧ (w'.heap[gb399]? = some (.cells #[.string ((rd_T126 l1_0 x6_2).f0), .slice Ao84 x400001_3.length co84, u400002] 66 (0, 0))) ∧ (IsS106 w0 w' g s0_0 t423 t424) ∧ (KeepBut w w' g none) ∧ (Below w0.heap.size w0 w')) ?_ ?_
       rotate_left
       ·intro hCont
        refine two_ (i := 2) (j := 4) (Ni := some 82) (Nj := some 84) (fl10_ 11 15) (fl10_ 11 27) rfl rfl rfl rfl (two_of HT_.out (by kernel_rfl)) (by decide) (by decide) (fun K hK => ?_) (fun K hK => ?_)
        ·skip
         refine Kd.R_lit_step Kd.string _ 9 ?hg (N := 82) ?hd (xs := ([(⟨#[114, 101, 100]⟩ : ByteArray), (⟨#[103, 114, 101, 101, 110]⟩ : ByteArray), (⟨#[98, 108, 117, 101]⟩ : ByteArray), (⟨#[82, 101, 100]⟩ : ByteArray), (⟨#[97, 32, 98]⟩ : ByteArray)] : List ByteArray)) (inner := [.string (⟨#[114, 101, 100]⟩ : ByteArray), .string (⟨#[103, 114, 101, 101, 110]⟩ : ByteArray), .string (⟨#[98, 108, 117, 101]⟩ : ByteArray), .string (⟨#[82, 101, 100]⟩ : ByteArray), .string (⟨#[97, 32, 98]⟩ : ByteArray)]) (ok := fun _ => True) (okp := fun _ => True) ?hr ?hp (fun _ hk => hk) trivial (Below.refl _ _) (Nat.le_refl _) (by simp) ?_; (case hd => rfl); (case hg => rfl); (case hr => first | (go_simp; done) | (go_simp; rfl)); (case hp => exact (Reps.one (show Kd.M Kd.string _ _ _ (⟨#[114, 101, 100]⟩ : ByteArray) [.string (⟨#[114, 101, 100]⟩ : ByteArray)] from rfl) (Reps.one (show Kd.M Kd.string _ _ _ (⟨#[103, 114, 101, 101, 110]⟩ : ByteArray) [.string (⟨#[103, 114, 101, 101, 110]⟩ : ByteArray)] from rfl) (Reps.one (show Kd.M Kd.string _ _ _ (⟨#[98, 108, 117, 101]⟩ : ByteArray) [.string (⟨#[98, 108, 117, 101]⟩ : ByteArray)] from rfl) (Reps.one (show Kd.M Kd.string _ _ _ (⟨#[82, 101, 100]⟩ : ByteArray) [.string (⟨#[82, 101, 100]⟩ : ByteArray)] from rfl) (Reps.one (show Kd.M Kd.string _ _ _ (⟨#[97, 32, 98]⟩ : ByteArray) [.string (⟨#[97, 32, 98]⟩ : ByteArray)] from rfl) (Reps.none _ _)))))))
         intro v420 w86 ho87 hb hg_ hnew_
         clear hg_ hnew_
         (first | rw [← Ny419.out] at ho87 | (simp only [Int.reduceToNat] at ho87; rw [← Ny419.out] at ho87))
         replace HO_389001 := zm (Kd.S_elder' (zs HO_389001) (Kd.R_base ho87) hb)
         replace HO_400002 := zm (Kd.R_below (zr HO_400002) hb)
         have HO421 := zm (Kd.R_lower (Kd.R_new' ho87 (Kd.R_lt (zr HO_400001))) (keep_size (w := w) (g := g) (row := none) (zk HK)))
         replace HO_400001 := zm (Kd.R_elder' (zr HO_400001) (Kd.R_base ho87) hb)
         replace BK380 := zbb BK380 hb
         replace BK381 := zbb BK381 hb
         replace BK388 := zbb BK388 hb
         replace BK399 := zbb BK399 hb
         replace HI0 := zm (IsS106.below (zi106 HI0) hb)
         replace HR409_5 := zm (Kd.C_below (by repeat (first | (with_reducible exact HR409_5.out) | (with_reducible refine Kd.C_alloc ?_ _) | (with_reducible refine Kd.C_drewN ?_ _) | (with_reducible refine Kd.C_drew ?_) | exact HR409_5.out)) hb)
         replace HR409_6 := zm (Kd.C_below (by repeat (first | (with_reducible exact HR409_6.out) | (with_reducible refine Kd.C_alloc ?_ _) | (with_reducible refine Kd.C_drewN ?_ _) | (with_reducible refine Kd.C_drew ?_) | exact HR409_6.out)) hb)
         replace HK := zkB HK hb
         replace HB := zm (below_step (zj106 HB) hb)
         clear hb ho87
         obtain ⟨Ao88, co88, eo88⟩ := Kd.R_slice HO421.out
         subst eo88
         obtain ⟨ado88, fo88, _⟩ := Kd.at_string (Kd.R_reads' HO421.out).2.2 0 (by decide) (by rw [Ny419.out]; simp)
         cases fo88
         refine hK.out _ _ ⟨zd BK399 0, zd BK399 1, zd BK399 2⟩ (fun hHeld => ?_)
         clear hK K
         refine norm_ zac ?_
         refine zon HT_ 4 84 (fl10_ 11 31) (fun K hK => ?_)
         refine goes_ Try.func55 (by kernel_rfl) rfl #[.pointer (some ⟨g, 0, none⟩), .int .i64 5] (by rfl) rfl rfl zar ?_
         refine (F1.calls g s0_0 x1001_3 x1002_3 5 t422 t423 t424 w0 _ (zi106 HI0) (zj106 HB) A75.out).mono ?_
         rintro e w89 ⟨rfl, hi, hb, hk⟩
         refine ⟨_, rfl, ?_⟩
         replace HO_389001 := zKS106 HI0 HO_389001 hk
         replace HO_400001 := zKR106 HI0 HO_400001 hk
         replace HO_400002 := zKR106 HI0 HO_400002 hk
         replace BK380 := zkb BK380 NB380_0 hk
         replace BK381 := zkb BK381 NB381_0 hk
         replace BK388 := zkb BK388 NB388_0 hk
         replace BK399 := zkb BK399 NB399_0 hk
         replace HO421 := zKR106 HI0 HO421 hk
         replace HK := zkt HK hk
         replace HB := zm (hb)
         replace HI0 := zm (hi)
         (try clear hb hk hi)
         refine hK.out _ _ ⟨zd BK399 0, zd BK399 1, zd BK399 2⟩ (fun hHeld => ?_)
         clear hK K
         refine norm_ zac ?_
         exact norm_ zpa (hCont (.slice (some ado88) y419.length co88, ado88) _ ⟨hHeld, (Kd.R_mono (zr HO421) (fun _ hk => hk.2)), (Kd.S_mono (zs HO_389001) (fun _ hk => ⟨hk.2, ⟨hk.1.1, ⟨hk.1.2.1, hk.1.2.2⟩⟩⟩)), (Kd.R_mono (zr HO_400001) (fun _ hk => hk.2)), (zr HO_400002), ⟨_, rfl⟩, (zb BK380), (zb BK381), (zb BK388), (zb BK399), (zi106 HI0), (zk HK), (zj106 HB)⟩)
        ·skip
         refine goes_ Try.func55 (by kernel_rfl) rfl #[.pointer (some ⟨g, 0, none⟩), .int .i64 5] (by rfl) rfl rfl zar ?_
         refine (F1.calls g s0_0 x1001_3 x1002_3 5 t422 t423 t424 w0 _ (zi106 HI0) (zj106 HB) A75.out).mono ?_
         rintro e w86 ⟨rfl, hi, hb, hk⟩
         refine ⟨_, rfl, ?_⟩
         replace HO_389001 := zKS106 HI0 HO_389001 hk
         replace HO_400001 := zKR106 HI0 HO_400001 hk
         replace HO_400002 := zKR106 HI0 HO_400002 hk
         replace BK380 := zkb BK380 NB380_0 hk
         replace BK381 := zkb BK381 NB381_0 hk
         replace BK388 := zkb BK388 NB388_0 hk
         replace BK399 := zkb BK399 NB399_0 hk
         replace HK := zkt HK hk
         replace HB := zm (hb)
         replace HI0 := zm (hi)
         (try clear hb hk hi)
         refine hK.out _ _ ⟨zd BK399 0, zd BK399 1, zd BK399 2⟩ (fun hHeld => ?_)
         clear hK K
         refine norm_ zac ?_
         refine zon HT_ 2 82 (fl10_ 11 31) (fun K hK => ?_)
         refine Kd.R_lit_step Kd.string _ 9 ?hg (N := 82) ?hd (xs := ([(⟨#[114, 101, 100]⟩ : ByteArray), (⟨#[103, 114, 101, 101, 110]⟩ : ByteArray), (⟨#[98, 108, 117, 101]⟩ : ByteArray), (⟨#[82, 101, 100]⟩ : ByteArray), (⟨#[97, 32, 98]⟩ : ByteArray)] : List ByteArray)) (inner := [.string (⟨#[114, 101, 100]⟩ : ByteArray), .string (⟨#[103, 114, 101, 101, 110]⟩ : ByteArray), .string (⟨#[98, 108, 117, 101]⟩ : ByteArray), .string (⟨#[82, 101, 100]⟩ : ByteArray), .string (⟨#[97, 32, 98]⟩ : ByteArray)]) (ok := fun _ => True) (okp := fun _ => True) ?hr ?hp (fun _ hk => hk) trivial (Below.refl _ _) (Nat.le_refl _) (by simp) ?_; (case hd => rfl); (case hg => rfl); (case hr => first | (go_simp; done) | (go_simp; rfl)); (case hp => exact (Reps.one (show Kd.M Kd.string _ _ _ (⟨#[114, 101, 100]⟩ : ByteArray) [.string (⟨#[114, 101, 100]⟩ : ByteArray)] from rfl) (Reps.one (show Kd.M Kd.string _ _ _ (⟨#[103, 114, 101, 101, 110]⟩ : ByteArray) [.string (⟨#[103, 114, 101, 101, 110]⟩ : ByteArray)] from rfl) (Reps.one (show Kd.M Kd.string _ _ _ (⟨#[98, 108, 117, 101]⟩ : ByteArray) [.string (⟨#[98, 108, 117, 101]⟩ : ByteArray)] from rfl) (Reps.one (show Kd.M Kd.string _ _ _ (⟨#[82, 101, 100]⟩ : ByteArray) [.string (⟨#[82, 101, 100]⟩ : ByteArray)] from rfl) (Reps.one (show Kd.M Kd.string _ _ _ (⟨#[97, 32, 98]⟩ : ByteArray) [.string (⟨#[97, 32, 98]⟩ : ByteArray)] from rfl) (Reps.none _ _)))))))
         intro v420 w87 ho88 hb hg_ hnew_
         clear hg_ hnew_
         (first | rw [← Ny419.out] at ho88 | (simp only [Int.reduceToNat] at ho88; rw [← Ny419.out] at ho88))
         replace HO_389001 := zm (Kd.S_elder' (zs HO_389001) (Kd.R_base ho88) hb)
         replace HO_400002 := zm (Kd.R_below (zr HO_400002) hb)
         have HO421 := zm (Kd.R_lower (Kd.R_new' ho88 (Kd.R_lt (zr HO_400001))) (keep_size (w := w) (g := g) (row := none) (zk HK)))
         replace HO_400001 := zm (Kd.R_elder' (zr HO_400001) (Kd.R_base ho88) hb)
         replace BK380 := zbb BK380 hb
         replace BK381 := zbb BK381 hb
         replace BK388 := zbb BK388 hb
         replace BK399 := zbb BK399 hb
         replace HI0 := zm (IsS106.below (zi106 HI0) hb)
         replace HK := zkB HK hb
         replace HB := zm (below_step (zj106 HB) hb)
         clear hb ho88
         obtain ⟨Ao89, co89, eo89⟩ := Kd.R_slice HO421.out
         subst eo89
         obtain ⟨ado89, fo89, _⟩ := Kd.at_string (Kd.R_reads' HO421.out).2.2 0 (by decide) (by rw [Ny419.out]; simp)
         cases fo89
         refine hK.out _ _ ⟨zd BK399 0, zd BK399 1, zd BK399 2⟩ (fun hHeld => ?_)
         clear hK K
         refine norm_ zac ?_
         exact norm_ zpa (hCont (.slice (some ado89) y419.length co89, ado89) _ ⟨hHeld, (Kd.R_mono (zr HO421) (fun _ hk => hk.2)), (Kd.S_mono (zs HO_389001) (fun _ hk => ⟨hk.2, ⟨hk.1.1, ⟨hk.1.2.1, hk.1.2.2⟩⟩⟩)), (Kd.R_mono (zr HO_400001) (fun _ hk => hk.2)), (zr HO_400002), ⟨_, rfl⟩, (zb BK380), (zb BK381), (zb BK388), (zb BK399), (zi106 HI0), (zk HK), (zj106 HB)⟩)
       rintro ⟨v420, adz_v420⟩ w90 ⟨hS_, h0_, h1_, h2_, h3_, h4_, h5_, h6_, h7_, h8_, h9_, h10_, h11_⟩
       have n0_ : Aside0 (Kd.R Kd.string 9 w90 w.heap.size (fun k_ => some k_ ≠ (.slice Ao84 x400001_3.length co84 : Value).ownBlock) v420 y419) := ⟨h0_⟩
       have n1_ : Aside0 (Kd.S k66 66 w90 w.heap.size (fun k_ => some k_ ≠ (v420 : Value).ownBlock ∧ some k_ ≠ (.slice Ao84 x400001_3.length co84 : Value).ownBlock ∧ some k_ ≠ (u400002 : Value).ownBlock ∧ k_ ≠ gb399) u389001 x389001_2) := ⟨h1_⟩
       have n2_ : Aside0 (Kd.R Kd.string 9 w90 w.heap.size (fun k_ => some k_ ≠ (v420 : Value).ownBlock) (.slice Ao84 x400001_3.length co84) x400001_3) := ⟨h2_⟩
       have n3_ : Aside0 (Kd.R (Kd.int .i64) 3 w90 w.heap.size (fun _ => True) u400002 x400002_3) := ⟨h3_⟩
       have n4_ : Aside0 (∃ c_, (v420 : Value) = .slice (some adz_v420) y419.length c_) := ⟨h4_⟩
       have n5_ : Aside0 (w90.heap[gb380]? = some (.cells #[.slice (some ad398) l1_0.length c1_0] 111 (0, 0))) := ⟨h5_⟩
       have n6_ : Aside0 (w90.heap[gb381]? = some (.cells #[.string (⟨#[]⟩ : ByteArray), .slice none 0 0] 31 (0, 0))) := ⟨h6_⟩
       have n7_ : Aside0 (w90.heap[gb388]? = some (.cells #[.string x389000_5, u389001] 31 (0, 0))) := ⟨h7_⟩
       have n8_ : Aside0 (w90.heap[gb399]? = some (.cells #[.string ((rd_T126 l1_0 x6_2).f0), .slice Ao84 x400001_3.length co84, u400002] 66 (0, 0))) := ⟨h8_⟩
       have n9_ : Aside0 (IsS106 w0 w90 g s0_0 t423 t424) := ⟨h9_⟩
       have n10_ : Aside0 (KeepBut w w90 g none) := ⟨h10_⟩
       have n11_ : Aside0 (Below w0.heap.size w0 w90) := ⟨h11_⟩
       clear HO_389001
       clear HO_400001
       clear HO_400002
       clear BK380
       clear BK381
       clear BK388
       clear BK399
       clear HR409_5
       clear HR409_6
       clear HI0
       clear HK
       clear HB
       clear h0_ h1_ h2_ h3_ h4_ h5_ h6_ h7_ h8_ h9_ h10_ h11_
       have HO421 := n0_
       have HO_389001 := n1_
       have HO_400001 := n2_
       have HO_400002 := n3_
       have HA_HO421 := n4_
       have BK380 := n5_
       have BK381 := n6_
       have BK388 := n7_
       have BK399 := n8_
       have HI0 := n9_
       have HK := n10_
       have HB := n11_
       clear n0_ n1_ n2_ n3_ n4_ n5_ n6_ n7_ n8_ n9_ n10_ n11_
       have hHeld : w90.cell? ⟨gb399, 0, none⟩ = some (.string ((rd_T126 l1_0 x6_2).f0)) ∧ w90.cell? ⟨gb399, 1, none⟩ = some (.slice Ao84 x400001_3.length co84) ∧ w90.cell? ⟨gb399, 2, none⟩ = some (u400002) := hS_
       obtain ⟨co91, eo91⟩ := HA_HO421.out
       clear HA_HO421
       subst eo91
       refine norm_ (a' := ?_) ?_ ?_
       rotate_left
       ·simp only [putAll, Act.put, List.setIfInBounds_toArray, List.set_cons_zero, List.set_cons_succ]
        rfl
       refine zpu HT_ 5 85 (fl10_ 11 63) ?_
       refine zon HT_ 6 86 (fl10_ 11 127) (fun K hK => ?_)
       (have p425 : 0 ≤ (t422 : Int) := of_decide_eq_true zas; have q425 : t422 < (y419.length : Int) := of_decide_eq_true zas; obtain ⟨ad425, e425, hx425_0⟩ := Kd.at_string (Kd.R_reads' HO421.out).2.2 t422 p425 q425; obtain rfl : adz_v420 = ad425 := (by injection e425))
       refine value_ (w1 := ?_) (v := ?_) (by rfl) rfl ?_ ?_
       rotate_left 2
       ·go_simp
        constructor
        ·rfl
        ·rfl
       clear hx425_0
       refine hK.out _ _ ⟨zd BK399 0, zd BK399 1, zd BK399 2⟩ (fun hHeld => ?_)
       clear hK K
       refine norm_ zac ?_
       refine zon HT_ 7 87 (fl10_ 11 255) (fun K hK => ?_)
       refine value_ (w1 := ?_) (v := ?_) (by rfl) rfl ?_ ?_
       rotate_left 2
       ·go_simp
        constructor
        ·rfl
        ·rfl
       refine hK.out _ _ ⟨(blk_cell (blk_alloc BK399.out _) 0).trans rfl, (blk_cell (blk_alloc BK399.out _) 1).trans rfl, (blk_cell (blk_alloc BK399.out _) 2).trans rfl⟩ (fun hHeld => ?_)
       clear hK K
       refine norm_ zac ?_
       refine zon HT_ 8 88 (fl10_ 11 511) (fun K hK => ?_)
       refine Kd.R_append_step Kd.string w.heap.size (by rfl) (.tmp 81) (.tmp 87) 64 9 (.string ⟨#[]⟩) 16 rfl Try.underlying64 info9 rfl (by decide) (by omega) (.slice Ao84 x400001_3.length co84) x400001_3 (rdOf ByteArray.empty y419 t422) [.string (rdOf ByteArray.empty y419 t422)] (fun k_ => some k_ ≠ (.slice (some adz_v420) y419.length co91 : Value).ownBlock) (fun _ => False) rfl rfl ?aP (fun _ hk => hk.elim) ?aF ?aO (Below.refl _ _) ?aS ?aL ?_
       (case aP => exact rfl)
       (case aF => exact (fun k_ hk => Kd.fresh' (Kd.R_lt (zr HO421)) k_ hk))
       (case aO => exact (zr HO_400001))
       (case aS => exact (keep_size (w := w) (g := g) (row := none) (zk HK)))
       (case aL => have := LMc78.out; omega)
       intro v427 w92 ho hb hg hat
       rw [← Ny426.out] at ho
       replace HO_389001 := zm (Kd.S_after (ok := (fun k_ => some k_ ≠ (u400002 : Value).ownBlock ∧ some k_ ≠ (.slice (some adz_v420) y419.length co91 : Value).ownBlock ∧ k_ ≠ gb399)) (Kd.S_mono (zs HO_389001) (fun _ hk => ⟨⟨hk.2.2.1, ⟨hk.1, hk.2.2.2⟩⟩, hk.2.1⟩)) hg hat)
       replace HO_400002 := zm (Kd.R_over' (zr HO_400002) (Kd.R_typed (zr HO_400001)) (by decide) hg)
       replace BK380 := zm (blk_grown (zb BK380) hg (Kd.R_ne HO_400001.out BK380.out (by decide)))
       replace BK381 := zm (blk_grown (zb BK381) hg (Kd.R_ne HO_400001.out BK381.out (by decide)))
       replace BK388 := zm (blk_grown (zb BK388) hg (Kd.R_ne HO_400001.out BK388.out (by decide)))
       replace BK399 := zm (blk_grown (zb BK399) hg (Kd.R_ne HO_400001.out BK399.out (by decide)))
       replace HI0 := zm (IsS106.grown (zi106 HI0) hg (IsS106.own_ne HI0.out HO_400001.out (by decide)))
       replace HO421 := zm (Kd.R_after (ok := (fun _ => True)) (Kd.R_mono (zr HO421) (fun _ hk => ⟨trivial, hk⟩)) hg hat)
       replace HB := zm (below_weaken (zj106 HB) HL.out hb)
       replace HK := zm (KeepBut.trans (zk HK) (KeepBut.of_grown hg g) (Kd.R_base2 HO_400001.out))
       have HO428 := zm (ho)
       clear HO_400001
       clear ho hb hg hat
       obtain ⟨Ao93, co93, eo93⟩ := Kd.R_slice HO428.out
       (first | subst eo93 | (injection eo93 with f1_ f2_ f3_; have f4_ := f1_.symm; have f5_ := f3_.symm; clear f1_ f2_ f3_; subst f4_; subst f5_))
       refine hK.out _ _ ⟨zd BK399 0, zd BK399 1, zd BK399 2⟩ (fun hHeld => ?_)
       clear hK K
       refine norm_ zac ?_
       refine zpu HT_ 9 89 (fl10_ 11 1023) ?_
       refine last_ (i := 10) (N := none) (fl10_ 11 2047) rfl rfl (one_of HT_.out (by kernel_rfl)) (by decide) (fun K hK => ?_)
       have hs94 : w92.cell? ⟨gb399, 1, none⟩ = some (.slice Ao84 x400001_3.length co84) := zd BK399 1
       have hfs94 := blk_frozen BK399.out 1
       have hns94_0 := NB380_399.out
       have hns94_1 := NB381_399.out
       have hns94_2 := NB388_399.out
       have hms94_0 := NB399_380.out
       have hms94_1 := NB399_381.out
       have hms94_2 := NB399_388.out
       refine skip_ (w1 := ?_) (by rfl) rfl ?_ ?_
       rotate_left
       ·go_simp
        rfl
       refine hK.out _ _ ?_
       clear hK K
       refine done_ (done_of HT_.out (by kernel_rfl)) ?_
       try go_wp2
       go_roundg k3
       case measure => have := HJ5.out; have := HK2.out; have := HK3.out; omega
       case rel => exact ⟨(wrap64 (x8_3 - 1)), (t423), (t424), (y426), (x400002_3), (.slice Ao93 y426.length co93), (u400002), zrs, H', ⟨by have := HJ5.out; have := HK2.out; have := HK3.out; omega⟩, ⟨by (with_reducible repeat (first | apply Kd.S_alloc | apply Kd.S_drewN | apply Kd.S_drew)); exact Kd.S_mono (zfS gb399 1 (Kd.S_mono HO_389001.out (fun k_ hk => (⟨hk, hk.1.2.2⟩ : _ ∧ k_ ≠ gb399))) (.slice Ao93 y426.length co93)) (fun _ hk => ⟨hk.1.2, ⟨hk.1.1.1, hk.1.1.2.2⟩⟩)⟩, ⟨by (with_reducible repeat (first | apply Kd.R_alloc | apply Kd.R_drewN | apply Kd.R_drew)); exact Kd.R_mono (Kd.R_far (p := ⟨gb399, 1, none⟩) (Kd.R_types HO428.out BK399.out (by decide)) (fun _ hk => hk.2) (.slice Ao93 y426.length co93)) (fun _ hk => trivial)⟩, ⟨by (with_reducible repeat (first | apply Kd.R_alloc | apply Kd.R_drewN | apply Kd.R_drew)); exact Kd.R_mono (Kd.R_far (p := ⟨gb399, 1, none⟩) (Kd.R_types HO_400002.out BK399.out (by decide)) (fun _ hk => hk.2) (.slice Ao93 y426.length co93)) (fun _ hk => trivial)⟩, ⟨zp BK380⟩, ⟨zp BK381⟩, ⟨zp BK388⟩, ⟨zp BK399⟩, ⟨zi106 HI0⟩, ⟨zk HK⟩, ⟨zj106 HB⟩⟩
end Go.Proofs.Ytnpdmleglcbobaa.XFnLog
