-- A text of this session: written by its own program (wip/x/xprint.py), which runs the kit's printer with contracts of its own.
import Derived.Test.YtchoncnahlcfjaaDoorXFnExactSketchOfx0
namespace Go.Proofs.YtchoncnahlcfjaaDoor.XFnExactSketchOf
open Go.RowKit Go.Proofs.YtchoncnahlcfjaaDoorW.PrintWords Go.Proofs.YtchoncnahlcfjaaDoorW.PrintLast Go.Proofs.YtchoncnahlcfjaaDoorW.PrintMore
attribute [local go_sem] max2_int min2_int max_two min_two max_three min_three max_four min_four   -- for this text's walks alone
set_option linter.unusedVariables false
set_option linter.unusedSimpArgs false

/-! ### impl_SketchOf_1_contains: slices.ContainsFunc (rows of texts) with function 22 -/
section
open Go.Shelf Go.Lib
def impl_SketchOf_1_contains.p (x : ByteArray) : Bool := decide ((65536 : Int) < (x.size : Int))
theorem impl_SketchOf_1_contains.pred (W : World) : PredAt Tryd.prog 22 #[] Value.string impl_SketchOf_1_contains.p W := fun W x hb => by
  show Calls Tryd.prog 22 #[.string x] W _
  by_cases h : (65536 : Int) < (x.size : Int)
  · have hp : impl_SketchOf_1_contains.p x = true := decide_eq_true h
    rw [hp]
    have hd : decide ((x.size : Int) > 65536) = true := decide_eq_true h
    go_enter Tryd.func22, Tryd.ntmps22
    go_wp2
    go_ret; exact ⟨rfl, 0, rfl⟩
  · have hp : impl_SketchOf_1_contains.p x = false := decide_eq_false h
    rw [hp]
    have hd : decide ((x.size : Int) > 65536) = false := decide_eq_false h
    go_enter Tryd.func22, Tryd.ntmps22
    go_wp2
    go_ret; exact ⟨rfl, 0, rfl⟩
def impl_SketchOf_1_contains.f (l0 : List ByteArray) : Option (Bool) := some (l0.any impl_SketchOf_1_contains.p)
theorem impl_SketchOf_1_contains.calls (A0 : Option Addr) (c0 : Nat) (l0 : List ByteArray) (r : Bool) (w : World) (hr0 : Kd.C Kd.string w A0 l0.length l0) (hc0 : l0.length ≤ c0) (h : impl_SketchOf_1_contains.f l0 = some r) :
    Calls Tryd.prog 21 #[.slice A0 l0.length c0, .func (.func 22) #[] #[]] w fun e w' => e = .returned (.bool r) ∧ Drawn0 w w' := by
  unfold impl_SketchOf_1_contains.f at h
  obtain rfl := Option.some.inj h
  by_cases hz : l0.length = 0
  · have h0 : l0 = [] := List.length_eq_zero_iff.1 hz
    subst h0
    refine (Tryd.slices_ContainsFunc_empty_f21 (α := ByteArray) A0 c0 _ w).mono ?_
    rintro e w' ⟨rfl, rfl⟩
    exact ⟨rfl, Drawn0.refl _⟩
  · obtain ⟨ad, e0, hx⟩ := Kd.at_string hr0 0 (by omega) (by omega)
    subst e0
    have h1 : ad.add 0 = ad := by unfold Addr.add; simp
    have h2 : (w.cell? ad).isSome = true := by
      have h3 := hx
      rw [show ((0 : Int)).toNat = 0 from rfl, h1] at h3
      rw [h3]; rfl
    clear hx h1
    obtain ⟨b, off, sp⟩ := ad
    obtain rfl : sp = none := by
      cases sp with
      | none => rfl
      | some x =>
        unfold World.cell? at h2
        split at h2
        · simp at h2
        · cases h2
    clear h2
    have hcell : ∀ j, j < l0.length → w.cell? ⟨b, off + j, none⟩ = some (Value.string l0[j]!) := by
      intro j hj
      obtain ⟨ad', e1, hx'⟩ := Kd.at_string hr0 (j : Int) (by omega) (by omega)
      injection e1 with e1
      subst e1
      have e2 : (⟨b, off, none⟩ : Addr).add ((j : Int)).toNat = ⟨b, off + j, none⟩ := by
        unfold Addr.add
        split <;> simp_all
      rw [e2] at hx'
      rw [hx']
      show some (Value.string (l0.getD ((j : Int)).toNat ByteArray.empty)) = _
      rw [Int.toNat_natCast, getElem!_pos l0 j hj, List.getD_eq_getElem?_getD, List.getElem?_eq_getElem hj]
      rfl
    have hlen : l0.length ≤ 9223372036854775807 := hr0.2.1
    have eg : ∀ args w, (callFunc 22 args).run Tryd.prog w = .ok (.enter 22 args) w := enters_of Tryd.func22 (by kernel_rfl) rfl
    refine (Tryd.slices_ContainsFunc_f21 Value.string impl_SketchOf_1_contains.p 22 #[] eg b off l0.length c0 l0 w (impl_SketchOf_1_contains.pred _) (Nat.le_refl _) hlen hcell).mono ?_
    rintro e w' ⟨rfl, q, rfl⟩
    rw [List.take_of_length_le (Nat.le_refl _)]
    exact ⟨rfl, q, rfl⟩
end

/-! ### impl_Sum32: function 23 -/
def impl_Sum32.l0 : Nat → Int → List Int → Int → Int → Option (Int)
  | 0, _, _, _, _ => none
  | k + 1, x3, x9, x10, x11 => if x11 < x10 then (if 0 ≤ x11 then (if x11 < (x9.length : Int) then (impl_Sum32.l0 k (((Go.bits .xor .u32 x3 ((rd x9 x11) % 4294967296)) * 16777619) % 4294967296) x9 x10 (wrap64 (x11 + 1))) else (none)) else (none)) else (some (wrap64 (x3)))
def impl_Sum32.f (k : Nat) (l0 : List Int) : Option (Int) := if (l0.length : Int) > 1048576 then (some 0) else (impl_Sum32.l0 k 2166136261 l0 (l0.length : Int) 0)
theorem impl_Sum32.mono_l : ∀ k, (∀ y0 y1 y2 y3, LeO (impl_Sum32.l0 k y0 y1 y2 y3) (impl_Sum32.l0 (k + 1) y0 y1 y2 y3))
  | 0 => fun _ _ _ _ r h => by simp [impl_Sum32.l0] at h
  | k + 1 => by
    have ih0 := impl_Sum32.mono_l k
    · intro y0 y1 y2 y3
      unfold impl_Sum32.l0
      repeat' first
      | (with_reducible exact ih0 _ _ _ _)
      | (with_reducible exact LeO.refl _)
      | (with_reducible exact LeO.none _)
      | (with_reducible refine LeO.ite ?_ ?_)
      | (with_reducible refine LeO.bind ?_ (fun _ => ?_))
      | exact ih0 _ _ _ _
      | exact LeO.none _
      | refine LeO.ite ?_ ?_
      | refine LeO.bind ?_ (fun _ => ?_)
theorem impl_Sum32.mono : ∀ a0 k, LeO (impl_Sum32.f k a0) (impl_Sum32.f (k + 1) a0) := by
  intro a0 k
  have ih0 := impl_Sum32.mono_l k
  unfold impl_Sum32.f
  repeat' first
      | (with_reducible exact ih0 _ _ _ _)
      | (with_reducible exact LeO.refl _)
      | (with_reducible exact LeO.none _)
      | (with_reducible refine LeO.ite ?_ ?_)
      | (with_reducible refine LeO.bind ?_ (fun _ => ?_))
      | exact ih0 _ _ _ _
      | exact LeO.none _
      | refine LeO.ite ?_ ?_
      | refine LeO.bind ?_ (fun _ => ?_)
set_option maxHeartbeats 8000000 in
set_option maxRecDepth 100000 in
theorem impl_Sum32.calls (k : Nat) (A0 : Option Addr) (c0 : Nat) (l0 : List Int) (r : Int) (w : World) (hr0 : Kd.C (Kd.int .u8) w A0 l0.length l0) (hc0 : l0.length ≤ c0) (h : impl_Sum32.f k l0 = some r) :
    Calls Tryd.prog 23 #[.slice A0 l0.length c0] w fun e w' => e = .returned (.int .i64 r) ∧ Drawn0 w w' := by
  have HR0 := Aside0.mk hr0
  have HC0 := Aside0.mk hc0
  clear hr0 hc0
  have H : (if (l0.length : Int) > 1048576 then (some 0) else (impl_Sum32.l0 k 2166136261 l0 (l0.length : Int) 0)) = some r := h
  clear h
  by_cases c2 : (l0.length : Int) > 1048576
  · rw [if_pos c2] at H
    have c2b0 : decide (1048576 < (l0.length : Int)) = true := decide_eq_true c2
    have c2b1 : decide (1048576 < l0.length) = true := decide_eq_true (by omega)
    clear c2
    obtain rfl := Option.some.inj H
    go_enter Tryd.func23, Tryd.ntmps23
    go_wp2
    go_ret
    exact ⟨by first | rfl | (simp; done) | (simp [*]; done), by repeat (first | exact Drawn0.refl _ | apply Drawn0.step)⟩
  · rw [if_neg c2] at H
    have c2b0 : decide (1048576 < (l0.length : Int)) = false := decide_eq_false c2
    have c2b1 : decide (1048576 < l0.length) = false := decide_eq_false (by omega)
    clear c2
    have H' := Aside0.mk H
    clear H
    go_enter Tryd.func23, Tryd.ntmps23
    go_wp2
    go_loopg [3, 11] k (fun kq v3 v11 w' => ∃ (x3_1 : Int) (x11_1 : Int), v3 = .int .u32 x3_1 ∧ v11 = .int .i64 x11_1 ∧ Aside0 (impl_Sum32.l0 kq x3_1 l0 (l0.length : Int) x11_1 = some r) ∧ Aside0 (kq ≤ k) ∧ Drawn0 w w')
    case atStart => exact ⟨(2166136261), (0), (by first | rfl | (simp; done) | (simp [*]; done)), (by first | rfl | (simp; done) | (simp [*]; done)), H', ⟨Nat.le_refl _⟩, by repeat (first | exact Drawn0.refl _ | apply Drawn0.step)⟩
    case round =>
      clear H'
      try clear c2
      try clear c2b0
      try clear c2b1
      try clear p2
      obtain ⟨x3_1, x11_1, rfl, rfl, HA, HK1, ⟨m1, rfl⟩⟩ := hrel
      cases gk with
      | zero => exact absurd HA.out (by simp [impl_Sum32.l0])
      | succ k1 =>
        have H := HA.out
        clear HA
        simp only [impl_Sum32.l0] at H
        by_cases c3 : x11_1 < (l0.length : Int)
        · rw [if_pos c3] at H
          have c3b0 : decide (x11_1 < (l0.length : Int)) = true := decide_eq_true c3
          clear c3
          by_cases c4 : 0 ≤ x11_1
          · rw [if_pos c4] at H
            have c4b0 : decide (0 ≤ x11_1) = true := decide_eq_true c4
            clear c4
            by_cases c5 : x11_1 < (l0.length : Int)
            · rw [if_pos c5] at H
              have c5b0 : decide (x11_1 < (l0.length : Int)) = true := decide_eq_true c5
              clear c5
              have H' := Aside0.mk H
              clear H
              have p124 : 0 ≤ (x11_1 : Int) := of_decide_eq_true (by first | (with_reducible assumption) | assumption)
              have q124 : x11_1 < (l0.length : Int) := of_decide_eq_true (by first | (with_reducible assumption) | assumption)
              obtain ⟨ad124, e124, hx124_0⟩ := Kd.at_int HR0.out x11_1 p124 q124
              cases e124
              replace p124 := eq_true p124
              replace q124 := eq_true q124
              go_wp2
              go_roundg k1
              case measure => have := HK1.out; omega
              case rel => exact ⟨(((Go.bits .xor .u32 x3_1 ((rd l0 x11_1) % 4294967296)) * 16777619) % 4294967296), (wrap64 (x11_1 + 1)), (by first | rfl | (simp; done) | (simp [*]; done)), (by first | rfl | (simp; done) | (simp [*]; done)), H', ⟨by have := HK1.out; omega⟩, by repeat (first | exact Drawn0.refl _ | apply Drawn0.step)⟩
            · rw [if_neg c5] at H
              exact absurd H (by simp)
          · rw [if_neg c4] at H
            exact absurd H (by simp)
        · rw [if_neg c3] at H
          have c3b0 : decide (x11_1 < (l0.length : Int)) = false := decide_eq_false c3
          clear c3
          obtain rfl := Option.some.inj H
          go_wp2
          go_ret
          exact ⟨by first | rfl | (simp; done) | (simp [*]; done), by repeat (first | exact Drawn0.refl _ | apply Drawn0.step)⟩

/-! ### bits_TrailingZeros32: function 24 -/
def bits_TrailingZeros32.f (a0 : Int) : Option (Int) := if 0 ≤ a0 then (if a0 < 4294967296 then (some ((Lib.ctz 32 a0.toNat : Nat) : Int)) else none) else none
theorem bits_TrailingZeros32.calls (a0 : Int) (r : Int) (w : World) (hT : TabW w) (h : bits_TrailingZeros32.f a0 = some r) :
    Calls Tryd.prog 24 #[.int .u32 a0] w fun e w' => e = .returned (.int .i64 r) ∧ Drawn0 w w' := by
  unfold bits_TrailingZeros32.f at h
  by_cases h0 : 0 ≤ a0
  · rw [if_pos h0] at h
    by_cases h1 : a0 < 4294967296
    · rw [if_pos h1] at h
      obtain rfl := Option.some.inj h
      obtain ⟨x, rfl⟩ := Int.eq_ofNat_of_zero_le h0
      refine (tz_contract x (by omega) w hT).mono ?_
      rintro e w' ⟨rfl, rfl⟩
      exact ⟨rfl, Drawn0.refl _⟩
    · rw [if_neg h1] at h; cases h
  · rw [if_neg h0] at h; cases h

/-! ### impl_SketchOf: function 8 -/
mutual
def impl_SketchOf.j0 : Nat → List ByteArray → Bool → Option (List Int × Int)
  | 0, _, _ => none
  | k + 1, x0, x16 => if x16 = true then (some (([] : List Int), 2)) else (if 256 ≤ 35184372088832 then (impl_SketchOf.l0 k x0 (x0.length : Int) 0 (List.replicate 256 0)) else (none))
def impl_SketchOf.l0 : Nat → List ByteArray → Int → Int → List Int → Option (List Int × Int)
  | 0, _, _, _, _ => none
  | k + 1, x20, x21, x22, x131000 => if x22 < x21 then (if 0 ≤ x22 then (if x22 < (x20.length : Int) then (if (rdOf ByteArray.empty x20 x22).size ≤ 9223372036854775807 then ((impl_Sum32.f k (bytesOf (rdOf ByteArray.empty x20 x22))).bind fun t136 => (if ((Int.tdiv (Go.bits .xor .u32 (((Go.bits .xor .u32 ((t136) % 4294967296) (((t136) % 4294967296) / 65536)) * 2146121005) % 4294967296) ((((Go.bits .xor .u32 ((t136) % 4294967296) (((t136) % 4294967296) / 65536)) * 2146121005) % 4294967296) / 8192)) 256) % 4294967296) = 0 then (if 0 ≤ (Int.tmod (Go.bits .xor .u32 (((Go.bits .xor .u32 ((t136) % 4294967296) (((t136) % 4294967296) / 65536)) * 2146121005) % 4294967296) ((((Go.bits .xor .u32 ((t136) % 4294967296) (((t136) % 4294967296) / 65536)) * 2146121005) % 4294967296) / 8192)) 256) then (if (Int.tmod (Go.bits .xor .u32 (((Go.bits .xor .u32 ((t136) % 4294967296) (((t136) % 4294967296) / 65536)) * 2146121005) % 4294967296) ((((Go.bits .xor .u32 ((t136) % 4294967296) (((t136) % 4294967296) / 65536)) * 2146121005) % 4294967296) / 8192)) 256) < (x131000.length : Int) then (impl_SketchOf.l0 k x20 x21 (wrap64 (x22 + 1)) (x131000.set ((Int.tmod (Go.bits .xor .u32 (((Go.bits .xor .u32 ((t136) % 4294967296) (((t136) % 4294967296) / 65536)) * 2146121005) % 4294967296) ((((Go.bits .xor .u32 ((t136) % 4294967296) (((t136) % 4294967296) / 65536)) * 2146121005) % 4294967296) / 8192)) 256) : Int).toNat (mx (rd x131000 (Int.tmod (Go.bits .xor .u32 (((Go.bits .xor .u32 ((t136) % 4294967296) (((t136) % 4294967296) / 65536)) * 2146121005) % 4294967296) ((((Go.bits .xor .u32 ((t136) % 4294967296) (((t136) % 4294967296) / 65536)) * 2146121005) % 4294967296) / 8192)) 256)) 25))) else (none)) else (none)) else ((bits_TrailingZeros32.f ((Int.tdiv (Go.bits .xor .u32 (((Go.bits .xor .u32 ((t136) % 4294967296) (((t136) % 4294967296) / 65536)) * 2146121005) % 4294967296) ((((Go.bits .xor .u32 ((t136) % 4294967296) (((t136) % 4294967296) / 65536)) * 2146121005) % 4294967296) / 8192)) 256) % 4294967296)).bind fun t139 => (if 0 ≤ (Int.tmod (Go.bits .xor .u32 (((Go.bits .xor .u32 ((t136) % 4294967296) (((t136) % 4294967296) / 65536)) * 2146121005) % 4294967296) ((((Go.bits .xor .u32 ((t136) % 4294967296) (((t136) % 4294967296) / 65536)) * 2146121005) % 4294967296) / 8192)) 256) then (if (Int.tmod (Go.bits .xor .u32 (((Go.bits .xor .u32 ((t136) % 4294967296) (((t136) % 4294967296) / 65536)) * 2146121005) % 4294967296) ((((Go.bits .xor .u32 ((t136) % 4294967296) (((t136) % 4294967296) / 65536)) * 2146121005) % 4294967296) / 8192)) 256) < (x131000.length : Int) then (impl_SketchOf.l0 k x20 x21 (wrap64 (x22 + 1)) (x131000.set ((Int.tmod (Go.bits .xor .u32 (((Go.bits .xor .u32 ((t136) % 4294967296) (((t136) % 4294967296) / 65536)) * 2146121005) % 4294967296) ((((Go.bits .xor .u32 ((t136) % 4294967296) (((t136) % 4294967296) / 65536)) * 2146121005) % 4294967296) / 8192)) 256) : Int).toNat (mx (rd x131000 (Int.tmod (Go.bits .xor .u32 (((Go.bits .xor .u32 ((t136) % 4294967296) (((t136) % 4294967296) / 65536)) * 2146121005) % 4294967296) ((((Go.bits .xor .u32 ((t136) % 4294967296) (((t136) % 4294967296) / 65536)) * 2146121005) % 4294967296) / 8192)) 256)) (wrap64 (1 + t139))))) else (none)) else (none))))) else (none)) else (none)) else (none)) else (some (x131000, 0))
end
def impl_SketchOf.f (k : Nat) (l0 : List ByteArray) : Option (List Int × Int) := if (l0.length : Int) > 4096 then (impl_SketchOf.j0 k l0 true) else ((impl_SketchOf_1_contains.f l0).bind fun t126 => (impl_SketchOf.j0 k l0 t126))
theorem impl_SketchOf.mono_l : ∀ k, (∀ y0 y1, LeO (impl_SketchOf.j0 k y0 y1) (impl_SketchOf.j0 (k + 1) y0 y1)) ∧ (∀ y0 y1 y2 y3, LeO (impl_SketchOf.l0 k y0 y1 y2 y3) (impl_SketchOf.l0 (k + 1) y0 y1 y2 y3))
  | 0 => ⟨fun _ _ r h => by simp [impl_SketchOf.j0] at h, fun _ _ _ _ r h => by simp [impl_SketchOf.l0] at h⟩
  | k + 1 => by
    obtain ⟨ih0, ih1⟩ := impl_SketchOf.mono_l k
    refine ⟨?_, ?_⟩
    · intro y0 y1
      unfold impl_SketchOf.j0
      repeat' first
      | (with_reducible exact ih0 _ _)
      | (with_reducible exact ih1 _ _ _ _)
      | (with_reducible exact impl_Sum32.mono _ _)
      | (with_reducible exact LeO.refl _)
      | (with_reducible exact LeO.none _)
      | (with_reducible refine LeO.ite ?_ ?_)
      | (with_reducible refine LeO.bind ?_ (fun _ => ?_))
      | exact ih0 _ _
      | exact ih1 _ _ _ _
      | exact impl_Sum32.mono _ _
      | exact LeO.none _
      | refine LeO.ite ?_ ?_
      | refine LeO.bind ?_ (fun _ => ?_)
    · intro y0 y1 y2 y3
      unfold impl_SketchOf.l0
      repeat' first
      | (with_reducible exact ih0 _ _)
      | (with_reducible exact ih1 _ _ _ _)
      | (with_reducible exact impl_Sum32.mono _ _)
      | (with_reducible exact LeO.refl _)
      | (with_reducible exact LeO.none _)
      | (with_reducible refine LeO.ite ?_ ?_)
      | (with_reducible refine LeO.bind ?_ (fun _ => ?_))
      | exact ih0 _ _
      | exact ih1 _ _ _ _
      | exact impl_Sum32.mono _ _
      | exact LeO.none _
      | refine LeO.ite ?_ ?_
      | refine LeO.bind ?_ (fun _ => ?_)
theorem impl_SketchOf.mono : ∀ a0 k, LeO (impl_SketchOf.f k a0) (impl_SketchOf.f (k + 1) a0) := by
  intro a0 k
  obtain ⟨ih0, ih1⟩ := impl_SketchOf.mono_l k
  unfold impl_SketchOf.f
  repeat' first
      | (with_reducible exact ih0 _ _)
      | (with_reducible exact ih1 _ _ _ _)
      | (with_reducible exact impl_Sum32.mono _ _)
      | (with_reducible exact LeO.refl _)
      | (with_reducible exact LeO.none _)
      | (with_reducible refine LeO.ite ?_ ?_)
      | (with_reducible refine LeO.bind ?_ (fun _ => ?_))
      | exact ih0 _ _
      | exact ih1 _ _ _ _
      | exact impl_Sum32.mono _ _
      | exact LeO.none _
      | refine LeO.ite ?_ ?_
      | refine LeO.bind ?_ (fun _ => ?_)
def impl_SketchOf.T15 : Bool × List (List Nat × List Nat) := (true, [([], []), ([0], [0]), ([], []), ([2], [2]), ([], []), ([4], [4]), ([], []), ([6], [6]), ([5, 7], [5, 7]), ([8], [8]), ([], []), ([9, 10], [9, 10]), ([1, 3, 0, 1, 2, 3, 4, 5, 6, 7, 8, 9, 10, 11], [1, 3]), ([12, 11, 0, 1, 2, 3, 4, 5, 6, 7, 8, 9, 10, 11], [11, 12])])
def impl_SketchOf.B15 : List Nat := [0, 1, 0, 4, 0, 16, 0, 64, 240, 496, 0, 2032, 4095, 8191]
theorem impl_SketchOf.tab15 : rtab .any (opsOf Tryd.f8 15) = impl_SketchOf.T15 := by kernel_rfl
theorem impl_SketchOf.bits15 : waitsOk impl_SketchOf.T15.2 impl_SketchOf.B15 = true := by kernel_rfl
set_option maxHeartbeats 8000000 in
set_option maxRecDepth 100000 in
theorem impl_SketchOf.calls (k : Nat) (A0 : Option Addr) (c0 : Nat) (l0 : List ByteArray) (r1 : List Int) (r2 : Int) (w : World) (hr0 : Kd.C Kd.string w A0 l0.length l0) (hc0 : l0.length ≤ c0) (hT : TabW w) (h : impl_SketchOf.f k l0 = some (r1, r2)) :
    Calls Tryd.prog 8 #[.slice A0 l0.length c0] w fun e w' => ∃ v0_ : Value, e = .returned (.tuple #[.agg #[v0_], .int .i64 r2]) ∧ Kd.R (Kd.int .i64) 3 w' w.heap.size (fun _ => True) v0_ r1 ∧ Below w.heap.size w w' := by
  have hu26 := Tryd.underlying26
  have HR0 := Aside0.mk hr0
  have HC0 := Aside0.mk hc0
  clear hr0 hc0
  have HB := Aside0.mk (Below.refl w.heap.size w)
  have HT := Aside0.mk hT
  clear hT
  have H : (if (l0.length : Int) > 4096 then (impl_SketchOf.j0 k l0 true) else ((impl_SketchOf_1_contains.f l0).bind fun t126 => (impl_SketchOf.j0 k l0 t126))) = some (r1, r2) := h
  clear h
  have HC2 := Aside0.mk H
  clear H
  go_enter Tryd.func8, Tryd.ntmps8
  go_upto_region 1 with (first | ((with_reducible refine gate_dst (N := 2) rfl ?_); refine box_event ?hg (N := 2) ?hd (cs := #[.slice none 0 0]) (t := 26) ?hr ?_; (case hd => rfl); (case hg => rfl); (case hr => first | (go_simp; done) | (go_simp; rfl)); intro gb125 hg w3 hbox hb; have n0_ := Aside0.mk (below_step (by repeat (first | (with_reducible first | exact HB.out | apply below_alloc | apply pw_below_drewN | apply below_drew1) | exact HB.out)) hb); have n1_ := Aside0.mk (hbox); have n2_ := Aside0.mk ((by rw [hg]; exact (below_size (by repeat (first | (with_reducible first | exact HB.out | apply below_alloc | apply pw_below_drewN | apply below_drew1) | exact HB.out))) : w.heap.size ≤ gb125)); have n3_ := Aside0.mk ((by rw [hg]; exact (below_size (by repeat (first | (with_reducible first | exact HB.out | apply below_alloc | apply pw_below_drewN | apply below_drew1) | exact HB.out))) : w.heap.size ≤ gb125)); clear HB; have HB := n0_; have BK125 := n1_; have GW125 := n2_; have GE125 := n3_; clear n0_ n1_ n2_ n3_; clear hb hbox hg))
  (try simp only [Act.put, List.setIfInBounds_toArray, List.set_cons_zero, List.set_cons_succ])
  go_cut [16] (fun v16 wc => ∃ (kq : Nat) (x16_1 : Bool), v16 = .bool x16_1 ∧ Aside0 (impl_SketchOf.j0 kq l0 x16_1 = some (r1, r2)) ∧ Aside0 (kq ≤ k) ∧ Aside0 (wc.heap[gb125]? = some (.cells #[(.slice none 0 0)] 26 (0, 0))) ∧ Aside0 (Below w.heap.size w wc))
  case first =>
    have H := HC2.out
    clear HC2
    by_cases c4 : (l0.length : Int) > 4096
    · rw [if_pos c4] at H
      have c4b0 : decide (4096 < (l0.length : Int)) = true := decide_eq_true c4
      have c4b1 : decide (4096 < l0.length) = true := decide_eq_true (by omega)
      clear c4
      (first | rw [c4b0] | (simp only [i64_w, i32_w]; rw [c4b0]) | skip)
      have H' := Aside0.mk H
      clear H
      go_wp2
      go_meet
      case rel => exact ⟨_, (true), (by first | rfl | (simp; done) | (simp [*]; done)), H', ⟨by first | omega | exact Nat.le_refl _⟩, ⟨by (with_reducible repeat (first | refine blk_drewN ?_ _ | refine blk_drew ?_ | refine blk_alloc ?_ _)); exact BK125.out⟩, ⟨by repeat (first | (with_reducible first | exact HB.out | apply below_alloc | apply pw_below_drewN | apply below_drew1 | refine below_set ?_ GE125.out) | exact HB.out)⟩⟩
    · rw [if_neg c4] at H
      have c4b0 : decide (4096 < (l0.length : Int)) = false := decide_eq_false c4
      have c4b1 : decide (4096 < l0.length) = false := decide_eq_false (by omega)
      clear c4
      (first | rw [c4b0] | (simp only [i64_w, i32_w]; rw [c4b0]) | skip)
      replace H := Option.bind_eq_some_iff.mp H
      obtain ⟨t126, A50, H⟩ := H
      replace H : (impl_SketchOf.j0 k l0 t126) = some (r1, r2) := H
      have A5 := Aside0.mk A50
      clear A50
      have H' := Aside0.mk H
      clear H
      go_wp2_with (first | (go_at_call 21; (with_reducible refine (impl_SketchOf_1_contains.calls _ _ l0 t126 _ ?side1 ?side2 A5.out).mono ?_); (case side1 => repeat (first | exact (Kd.C_below HR0.out HB.out) | (with_reducible refine Kd.C_alloc ?_ _) | (with_reducible refine Kd.C_drewN ?_ _) | (with_reducible refine Kd.C_drew ?_))); (case side2 => exact HC0.out); rintro e w' ⟨rfl, ⟨nd, rfl⟩⟩))
      go_meet
      case rel => exact ⟨_, (t126), (by first | rfl | (simp; done) | (simp [*]; done)), H', ⟨by first | omega | exact Nat.le_refl _⟩, ⟨by (with_reducible repeat (first | refine blk_drewN ?_ _ | refine blk_drew ?_ | refine blk_alloc ?_ _)); exact BK125.out⟩, ⟨by repeat (first | (with_reducible first | exact HB.out | apply below_alloc | apply pw_below_drewN | apply below_drew1 | refine below_set ?_ GE125.out) | exact HB.out)⟩⟩
  case rest =>
    clear HC2
    try clear p2
    try clear c4
    try clear c4b0
    try clear c4b1
    obtain ⟨kq, x16_1, rfl, HA, HJ1, BK125, HB⟩ := hcut
    cases kq with
    | zero => exact absurd HA.out (by simp [impl_SketchOf.j0])
    | succ kj1 =>
      have H := HA.out
      clear HA
      simp only [impl_SketchOf.j0] at H
      by_cases c6 : x16_1 = true
      · subst c6
        have H1 : (some (([] : List Int), 2)) = some (r1, r2) := by rw [if_pos rfl] at H; exact H
        clear H
        have H := H1
        clear H1
        simp only [Option.some.injEq, Prod.mk.injEq] at H
        obtain ⟨rfl, rfl⟩ := H
        have hcz7_0 : wc.cell? ⟨gb125, 0, none⟩ = some (.slice none 0 0) := (blk_cell BK125.out 0).trans rfl
        have hfz7_0 := blk_frozen BK125.out 0
        go_wp2
        refine bodyPost_ret (results_ct rfl _ _ gb125 26 #[.slice none 0 0] (0, 0) _ rfl (by (with_reducible repeat (first | refine blk_drewN ?_ _ | refine blk_drew ?_ | refine blk_alloc ?_ _)); refine blk_put (cs := #[.slice none 0 0]) ?_ 0 _ rfl; (with_reducible repeat (first | refine blk_drewN ?_ _ | refine blk_drew ?_ | refine blk_alloc ?_ _)); exact BK125.out) Tryd.underlying26 rfl (by kernel_rfl)) rfl ?_
        exact ⟨_, by first | rfl | (simp [errW_none, errW_some] <;> rfl) | (simp [*, errW_none, errW_some] <;> rfl), by first | exact Kd.R_nil _ _ _ _ _ | exact Kd.N_nil _ _ _ _ _ | exact Kd.V_nil _ _ _ _ _ | exact Kd.Q_nil _ _ _ _ _ | exact Kd.S_nil _ _ _ _ _, by repeat (first | (with_reducible first | exact HB.out | apply below_alloc | apply pw_below_drewN | apply below_drew1 | refine below_set ?_ GE125.out) | exact HB.out)⟩
      · replace c6 := Bool.eq_false_iff.mpr c6
        subst c6
        have H1 : (if 256 ≤ 35184372088832 then (impl_SketchOf.l0 kj1 l0 (l0.length : Int) 0 (List.replicate 256 0)) else (none)) = some (r1, r2) := by rw [if_neg (show ¬ (false = true) by decide)] at H; exact H
        clear H
        have H := H1
        clear H1
        by_cases c8 : 256 ≤ 35184372088832
        · rw [if_pos c8] at H
          have c8b0 := eq_true c8
          have c8b1 : decide (256 ≤ 35184372088832) = true := decide_eq_true c8
          clear c8
          obtain ⟨y127, hy127⟩ : ∃ y_ : List Int, y_ = (List.replicate 256 0) := ⟨_, rfl⟩
          replace H : (impl_SketchOf.l0 kj1 l0 (l0.length : Int) 0 y127) = some (r1, r2) := by first | (rw [hy127]; with_reducible exact H) | (have H2_ := (Option.bind_some _ _).symm.trans H; rw [hy127]; with_reducible exact H2_) | (have H2_ := (Option.bind_some _ _).symm.trans H; with_reducible exact H2_) | with_reducible exact H | (rw [hy127]; exact H) | exact H
          have Ny127 := Aside0.mk hy127
          clear hy127
          have H' := Aside0.mk H
          clear H
          go_wp2_with (first | ((with_reducible refine gate_dst (N := 18) rfl ?_); refine Kd.R_make (Kd.int .i64) _ 3 rfl (N := 18) rfl 24 _ _ rfl 256 rfl rfl Tryd.underlying24 (.int .i64 0) 8 info3 rfl (by decide) (by omega) 0 (ok := fun _ => True) (okp := fun _ => True) rfl (fun _ hk => hk) trivial (by omega) (by omega) (Below.refl _ _) (Nat.le_refl _) ?_; intro v128 w9 ho10 hb hg_ hnew_; clear hg_ hnew_; (first | rw [← Ny127.out] at ho10 | (simp only [Int.reduceToNat] at ho10; rw [← Ny127.out] at ho10)); have n0_ := Aside0.mk (Kd.R_lower ho10 (below_size (by repeat (first | (with_reducible first | exact HB.out | apply below_alloc | apply pw_below_drewN | apply below_drew1 | refine below_set ?_ GE125.out) | exact HB.out)))); have n1_ := Aside0.mk (blk_below (g := gb125) (o := .cells #[.slice none 0 0] 26 (0, 0)) (by (with_reducible repeat (first | refine blk_drewN ?_ _ | refine blk_drew ?_ | refine blk_alloc ?_ _)); exact BK125.out) hb); have n2_ := Aside0.mk (below_step (by repeat (first | (with_reducible first | exact HB.out | apply below_alloc | apply pw_below_drewN | apply below_drew1 | refine below_set ?_ GE125.out) | exact HB.out)) hb); clear BK125; clear HB; have HO129 := n0_; have BK125 := n1_; have HB := n2_; clear n0_ n1_ n2_; clear hb ho10; obtain ⟨Ao11, co11, eo11⟩ := Kd.R_slice HO129.out; subst eo11) | ((with_reducible refine gate_dst (N := 4) rfl ?_); refine box_event ?hg (N := 4) ?hd (cs := #[.slice none 0 0]) (t := 26) ?hr ?_; (case hd => rfl); (case hg => rfl); (case hr => first | (go_simp; done) | (go_simp; rfl)); intro gb130 hg w12 hbox hb; have n0_ := Aside0.mk (Kd.R_below (by (with_reducible repeat (first | apply Kd.R_alloc | apply Kd.R_drewN | apply Kd.R_drew)); exact HO129.out) hb); have n1_ := Aside0.mk (blk_below (g := gb125) (o := .cells #[.slice none 0 0] 26 (0, 0)) (by (with_reducible repeat (first | refine blk_drewN ?_ _ | refine blk_drew ?_ | refine blk_alloc ?_ _)); exact BK125.out) hb); have n2_ := Aside0.mk (below_step (by repeat (first | (with_reducible first | exact HB.out | apply below_alloc | apply pw_below_drewN | apply below_drew1 | refine below_set ?_ GE125.out) | exact HB.out)) hb); have n3_ := Aside0.mk (hbox); have n4_ := Aside0.mk ((by rw [hg]; exact (below_size (by repeat (first | (with_reducible first | exact HB.out | apply below_alloc | apply pw_below_drewN | apply below_drew1 | refine below_set ?_ GE125.out) | exact HB.out))) : w.heap.size ≤ gb130)); have n5_ := Aside0.mk ((by rw [hg]; exact (below_size (by repeat (first | (with_reducible first | exact HB.out | apply below_alloc | apply pw_below_drewN | apply below_drew1 | refine below_set ?_ GE125.out) | exact HB.out))) : w.heap.size ≤ gb130)); have n6_ := Aside0.mk ((by rw [hg]; exact Nat.ne_of_lt (blk_lt (g := gb125) (o := .cells #[.slice none 0 0] 26 (0, 0)) (by (with_reducible repeat (first | refine blk_drewN ?_ _ | refine blk_drew ?_ | refine blk_alloc ?_ _)); exact BK125.out)) : gb125 ≠ gb130)); have n7_ := Aside0.mk ((by rw [hg]; exact Nat.ne_of_gt (blk_lt (g := gb125) (o := .cells #[.slice none 0 0] 26 (0, 0)) (by (with_reducible repeat (first | refine blk_drewN ?_ _ | refine blk_drew ?_ | refine blk_alloc ?_ _)); exact BK125.out)) : gb130 ≠ gb125)); clear HO129; clear BK125; clear HB; have HO129 := n0_; have BK125 := n1_; have HB := n2_; have BK130 := n3_; have GW130 := n4_; have GE130 := n5_; have NB125_130 := n6_; have NB130_125 := n7_; clear n0_ n1_ n2_ n3_ n4_ n5_ n6_ n7_; clear hb hbox hg; have hnb13 := NB130_125.out; have hnc13 := NB125_130.out; have hcz14_0 : w12.cell? ⟨gb130, 0, none⟩ = some (.slice none 0 0) := (blk_cell BK130.out 0).trans rfl; have hfz14_0 := blk_frozen BK130.out 0))
          go_loopg [22] kj1 (fun kq v22 w' => ∃ (x22_2 : Int) (x131000_2 : List Int) (u131000 : Value), v22 = .int .i64 x22_2 ∧ Aside0 (impl_SketchOf.l0 kq l0 (l0.length : Int) x22_2 x131000_2 = some (r1, r2)) ∧ Aside0 (kq ≤ kj1) ∧ Aside0 (Kd.R (Kd.int .i64) 3 w' w.heap.size (fun _ => True) u131000 x131000_2) ∧ Aside0 (w'.heap[gb125]? = some (.cells #[(.slice none 0 0)] 26 (0, 0))) ∧ Aside0 (w'.heap[gb130]? = some (.cells #[u131000] 26 (0, 0))) ∧ Aside0 (Below w.heap.size w w'))
          case atStart => exact ⟨(0), (y127), (.slice Ao11 y127.length co11), (by first | rfl | (simp; done) | (simp [*]; done)), H', ⟨Nat.le_refl _⟩, ⟨by (with_reducible repeat (first | apply Kd.R_alloc | apply Kd.R_drewN | apply Kd.R_drew)); exact Kd.R_mono (Kd.R_far (p := ⟨gb130, 0, none⟩) (Kd.R_types HO129.out BK130.out (by decide)) (fun _ hk => hk.2) (.slice Ao11 y127.length co11)) (fun _ hk => trivial)⟩, ⟨by (with_reducible repeat (first | refine blk_drewN ?_ _ | refine blk_drew ?_ | refine blk_alloc ?_ _)); refine blk_far ?_ NB125_130.out _; (with_reducible repeat (first | refine blk_drewN ?_ _ | refine blk_drew ?_ | refine blk_alloc ?_ _)); exact BK125.out⟩, ⟨by (with_reducible repeat (first | refine blk_drewN ?_ _ | refine blk_drew ?_ | refine blk_alloc ?_ _)); refine blk_put (cs := #[.slice none 0 0]) ?_ 0 _ rfl; (with_reducible repeat (first | refine blk_drewN ?_ _ | refine blk_drew ?_ | refine blk_alloc ?_ _)); exact BK130.out⟩, ⟨by repeat (first | (with_reducible first | exact HB.out | apply below_alloc | apply pw_below_drewN | apply below_drew1 | refine below_set ?_ GE125.out | refine below_set ?_ GE130.out) | exact HB.out)⟩⟩
          case round =>
            clear H'
            try clear c1
            try clear p2
            try clear c4
            try clear c4b0
            try clear c4b1
            try clear c6
            try clear c8
            try clear c8b0
            try clear c8b1
            try clear c13
            try clear hcz14_0
            try clear hcz7_0
            try clear hfz14_0
            try clear hfz7_0
            try clear p2
            obtain ⟨x22_2, x131000_2, u131000, rfl, HA, HK2, HO_131000, BK125, BK130, HB⟩ := hrel
            cases gk with
            | zero => exact absurd HA.out (by simp [impl_SketchOf.l0])
            | succ k2 =>
              have H := HA.out
              clear HA
              simp only [impl_SketchOf.l0] at H
              by_cases c15 : x22_2 < (l0.length : Int)
              · rw [if_pos c15] at H
                have c15b0 : decide (x22_2 < (l0.length : Int)) = true := decide_eq_true c15
                clear c15
                by_cases c16 : 0 ≤ x22_2
                · rw [if_pos c16] at H
                  have c16b0 : decide (0 ≤ x22_2) = true := decide_eq_true c16
                  clear c16
                  by_cases c17 : x22_2 < (l0.length : Int)
                  · rw [if_pos c17] at H
                    have c17b0 : decide (x22_2 < (l0.length : Int)) = true := decide_eq_true c17
                    clear c17
                    by_cases c18 : (rdOf ByteArray.empty l0 x22_2).size ≤ 9223372036854775807
                    · rw [if_pos c18] at H
                      have c18b0 := eq_true c18
                      have c18b1 : decide ((rdOf ByteArray.empty l0 x22_2).size ≤ 9223372036854775807) = true := decide_eq_true c18
                      try have c18b2 : (9223372036854775807 < (rdOf ByteArray.empty l0 x22_2).size) = False := eq_false (Nat.not_lt.2 c18)
                      clear c18
                      obtain ⟨y132, hy132⟩ : ∃ y_ : List Int, y_ = (bytesOf (rdOf ByteArray.empty l0 x22_2)) := ⟨_, rfl⟩
                      replace H : ((impl_Sum32.f k2 y132).bind fun t136 => (if ((Int.tdiv (Go.bits .xor .u32 (((Go.bits .xor .u32 ((t136) % 4294967296) (((t136) % 4294967296) / 65536)) * 2146121005) % 4294967296) ((((Go.bits .xor .u32 ((t136) % 4294967296) (((t136) % 4294967296) / 65536)) * 2146121005) % 4294967296) / 8192)) 256) % 4294967296) = 0 then (if 0 ≤ (Int.tmod (Go.bits .xor .u32 (((Go.bits .xor .u32 ((t136) % 4294967296) (((t136) % 4294967296) / 65536)) * 2146121005) % 4294967296) ((((Go.bits .xor .u32 ((t136) % 4294967296) (((t136) % 4294967296) / 65536)) * 2146121005) % 4294967296) / 8192)) 256) then (if (Int.tmod (Go.bits .xor .u32 (((Go.bits .xor .u32 ((t136) % 4294967296) (((t136) % 4294967296) / 65536)) * 2146121005) % 4294967296) ((((Go.bits .xor .u32 ((t136) % 4294967296) (((t136) % 4294967296) / 65536)) * 2146121005) % 4294967296) / 8192)) 256) < (x131000_2.length : Int) then (impl_SketchOf.l0 k2 l0 (l0.length : Int) (wrap64 (x22_2 + 1)) (x131000_2.set ((Int.tmod (Go.bits .xor .u32 (((Go.bits .xor .u32 ((t136) % 4294967296) (((t136) % 4294967296) / 65536)) * 2146121005) % 4294967296) ((((Go.bits .xor .u32 ((t136) % 4294967296) (((t136) % 4294967296) / 65536)) * 2146121005) % 4294967296) / 8192)) 256) : Int).toNat (mx (rd x131000_2 (Int.tmod (Go.bits .xor .u32 (((Go.bits .xor .u32 ((t136) % 4294967296) (((t136) % 4294967296) / 65536)) * 2146121005) % 4294967296) ((((Go.bits .xor .u32 ((t136) % 4294967296) (((t136) % 4294967296) / 65536)) * 2146121005) % 4294967296) / 8192)) 256)) 25))) else (none)) else (none)) else ((bits_TrailingZeros32.f ((Int.tdiv (Go.bits .xor .u32 (((Go.bits .xor .u32 ((t136) % 4294967296) (((t136) % 4294967296) / 65536)) * 2146121005) % 4294967296) ((((Go.bits .xor .u32 ((t136) % 4294967296) (((t136) % 4294967296) / 65536)) * 2146121005) % 4294967296) / 8192)) 256) % 4294967296)).bind fun t139 => (if 0 ≤ (Int.tmod (Go.bits .xor .u32 (((Go.bits .xor .u32 ((t136) % 4294967296) (((t136) % 4294967296) / 65536)) * 2146121005) % 4294967296) ((((Go.bits .xor .u32 ((t136) % 4294967296) (((t136) % 4294967296) / 65536)) * 2146121005) % 4294967296) / 8192)) 256) then (if (Int.tmod (Go.bits .xor .u32 (((Go.bits .xor .u32 ((t136) % 4294967296) (((t136) % 4294967296) / 65536)) * 2146121005) % 4294967296) ((((Go.bits .xor .u32 ((t136) % 4294967296) (((t136) % 4294967296) / 65536)) * 2146121005) % 4294967296) / 8192)) 256) < (x131000_2.length : Int) then (impl_SketchOf.l0 k2 l0 (l0.length : Int) (wrap64 (x22_2 + 1)) (x131000_2.set ((Int.tmod (Go.bits .xor .u32 (((Go.bits .xor .u32 ((t136) % 4294967296) (((t136) % 4294967296) / 65536)) * 2146121005) % 4294967296) ((((Go.bits .xor .u32 ((t136) % 4294967296) (((t136) % 4294967296) / 65536)) * 2146121005) % 4294967296) / 8192)) 256) : Int).toNat (mx (rd x131000_2 (Int.tmod (Go.bits .xor .u32 (((Go.bits .xor .u32 ((t136) % 4294967296) (((t136) % 4294967296) / 65536)) * 2146121005) % 4294967296) ((((Go.bits .xor .u32 ((t136) % 4294967296) (((t136) % 4294967296) / 65536)) * 2146121005) % 4294967296) / 8192)) 256)) (wrap64 (1 + t139))))) else (none)) else (none))))) = some (r1, r2) := by first | (rw [hy132]; with_reducible exact H) | (have H2_ := (Option.bind_some _ _).symm.trans H; rw [hy132]; with_reducible exact H2_) | (have H2_ := (Option.bind_some _ _).symm.trans H; with_reducible exact H2_) | with_reducible exact H | (rw [hy132]; exact H) | exact H
                      have Ny132 := Aside0.mk hy132
                      clear hy132
                      replace H := Option.bind_eq_some_iff.mp H
                      obtain ⟨t136, A190, H⟩ := H
                      replace H : (if ((Int.tdiv (Go.bits .xor .u32 (((Go.bits .xor .u32 ((t136) % 4294967296) (((t136) % 4294967296) / 65536)) * 2146121005) % 4294967296) ((((Go.bits .xor .u32 ((t136) % 4294967296) (((t136) % 4294967296) / 65536)) * 2146121005) % 4294967296) / 8192)) 256) % 4294967296) = 0 then (if 0 ≤ (Int.tmod (Go.bits .xor .u32 (((Go.bits .xor .u32 ((t136) % 4294967296) (((t136) % 4294967296) / 65536)) * 2146121005) % 4294967296) ((((Go.bits .xor .u32 ((t136) % 4294967296) (((t136) % 4294967296) / 65536)) * 2146121005) % 4294967296) / 8192)) 256) then (if (Int.tmod (Go.bits .xor .u32 (((Go.bits .xor .u32 ((t136) % 4294967296) (((t136) % 4294967296) / 65536)) * 2146121005) % 4294967296) ((((Go.bits .xor .u32 ((t136) % 4294967296) (((t136) % 4294967296) / 65536)) * 2146121005) % 4294967296) / 8192)) 256) < (x131000_2.length : Int) then (impl_SketchOf.l0 k2 l0 (l0.length : Int) (wrap64 (x22_2 + 1)) (x131000_2.set ((Int.tmod (Go.bits .xor .u32 (((Go.bits .xor .u32 ((t136) % 4294967296) (((t136) % 4294967296) / 65536)) * 2146121005) % 4294967296) ((((Go.bits .xor .u32 ((t136) % 4294967296) (((t136) % 4294967296) / 65536)) * 2146121005) % 4294967296) / 8192)) 256) : Int).toNat (mx (rd x131000_2 (Int.tmod (Go.bits .xor .u32 (((Go.bits .xor .u32 ((t136) % 4294967296) (((t136) % 4294967296) / 65536)) * 2146121005) % 4294967296) ((((Go.bits .xor .u32 ((t136) % 4294967296) (((t136) % 4294967296) / 65536)) * 2146121005) % 4294967296) / 8192)) 256)) 25))) else (none)) else (none)) else ((bits_TrailingZeros32.f ((Int.tdiv (Go.bits .xor .u32 (((Go.bits .xor .u32 ((t136) % 4294967296) (((t136) % 4294967296) / 65536)) * 2146121005) % 4294967296) ((((Go.bits .xor .u32 ((t136) % 4294967296) (((t136) % 4294967296) / 65536)) * 2146121005) % 4294967296) / 8192)) 256) % 4294967296)).bind fun t139 => (if 0 ≤ (Int.tmod (Go.bits .xor .u32 (((Go.bits .xor .u32 ((t136) % 4294967296) (((t136) % 4294967296) / 65536)) * 2146121005) % 4294967296) ((((Go.bits .xor .u32 ((t136) % 4294967296) (((t136) % 4294967296) / 65536)) * 2146121005) % 4294967296) / 8192)) 256) then (if (Int.tmod (Go.bits .xor .u32 (((Go.bits .xor .u32 ((t136) % 4294967296) (((t136) % 4294967296) / 65536)) * 2146121005) % 4294967296) ((((Go.bits .xor .u32 ((t136) % 4294967296) (((t136) % 4294967296) / 65536)) * 2146121005) % 4294967296) / 8192)) 256) < (x131000_2.length : Int) then (impl_SketchOf.l0 k2 l0 (l0.length : Int) (wrap64 (x22_2 + 1)) (x131000_2.set ((Int.tmod (Go.bits .xor .u32 (((Go.bits .xor .u32 ((t136) % 4294967296) (((t136) % 4294967296) / 65536)) * 2146121005) % 4294967296) ((((Go.bits .xor .u32 ((t136) % 4294967296) (((t136) % 4294967296) / 65536)) * 2146121005) % 4294967296) / 8192)) 256) : Int).toNat (mx (rd x131000_2 (Int.tmod (Go.bits .xor .u32 (((Go.bits .xor .u32 ((t136) % 4294967296) (((t136) % 4294967296) / 65536)) * 2146121005) % 4294967296) ((((Go.bits .xor .u32 ((t136) % 4294967296) (((t136) % 4294967296) / 65536)) * 2146121005) % 4294967296) / 8192)) 256)) (wrap64 (1 + t139))))) else (none)) else (none)))) = some (r1, r2) := H
                      have A19 := Aside0.mk A190
                      clear A190
                      by_cases c20 : ((Int.tdiv (Go.bits .xor .u32 (((Go.bits .xor .u32 ((t136) % 4294967296) (((t136) % 4294967296) / 65536)) * 2146121005) % 4294967296) ((((Go.bits .xor .u32 ((t136) % 4294967296) (((t136) % 4294967296) / 65536)) * 2146121005) % 4294967296) / 8192)) 256) % 4294967296) = 0
                      · rw [if_pos c20] at H
                        have c20b0 : (((Int.tdiv (Go.bits .xor .u32 (((Go.bits .xor .u32 ((t136) % 4294967296) (((t136) % 4294967296) / 65536)) * 2146121005) % 4294967296) ((((Go.bits .xor .u32 ((t136) % 4294967296) (((t136) % 4294967296) / 65536)) * 2146121005) % 4294967296) / 8192)) 256) % 4294967296) == 0) = true := beq_iff_eq.mpr c20
                        have c20b1 : (((Int.tdiv (Go.bits .xor .u32 (((Go.bits .xor .u32 ((t136) % 4294967296) (((t136) % 4294967296) / 65536)) * 2146121005) % 4294967296) ((((Go.bits .xor .u32 ((t136) % 4294967296) (((t136) % 4294967296) / 65536)) * 2146121005) % 4294967296) / 8192)) 256) % 4294967296) != 0) = false := bne_eq_false_iff_eq.mpr c20
                        clear c20
                        obtain ⟨ji21, hji21⟩ : ∃ j_ : Int, (Int.tmod (Go.bits .xor .u32 (((Go.bits .xor .u32 ((t136) % 4294967296) (((t136) % 4294967296) / 65536)) * 2146121005) % 4294967296) ((((Go.bits .xor .u32 ((t136) % 4294967296) (((t136) % 4294967296) / 65536)) * 2146121005) % 4294967296) / 8192)) 256) = j_ := ⟨_, rfl⟩
                        replace H : (if 0 ≤ (ji21) then (if (ji21) < (x131000_2.length : Int) then (impl_SketchOf.l0 k2 l0 (l0.length : Int) (wrap64 (x22_2 + 1)) (x131000_2.set ((ji21) : Int).toNat (mx (rd x131000_2 (ji21)) 25))) else (none)) else (none)) = some (r1, r2) := by first | (rw [hji21] at H; exact H) | (simp only [hji21] at H ⊢; exact H)
                        (try rw [hji21] at A19)
                        by_cases c22 : 0 ≤ (ji21)
                        · rw [if_pos c22] at H
                          have c22b0 : decide (0 ≤ (ji21)) = true := decide_eq_true c22
                          clear c22
                          by_cases c23 : (ji21) < (x131000_2.length : Int)
                          · rw [if_pos c23] at H
                            have c23b0 : decide ((ji21) < (x131000_2.length : Int)) = true := decide_eq_true c23
                            clear c23
                            obtain ⟨ji24, hji24⟩ : ∃ j_ : Int, (mx (rd x131000_2 (ji21)) 25) = j_ := ⟨_, rfl⟩
                            replace H : (impl_SketchOf.l0 k2 l0 (l0.length : Int) (wrap64 (x22_2 + 1)) (x131000_2.set ((ji21) : Int).toNat (ji24))) = some (r1, r2) := by first | (rw [hji24] at H; exact H) | (simp only [hji24] at H ⊢; exact H)
                            (try rw [hji24] at A19)
                            have hji24_ : (if (rd x131000_2 (ji21)) < 25 then 25 else (rd x131000_2 (ji21))) = ji24 := hji24
                            obtain ⟨y138, hy138⟩ : ∃ y_ : List Int, y_ = (x131000_2.set ((ji21) : Int).toNat (ji24)) := ⟨_, rfl⟩
                            replace H : (impl_SketchOf.l0 k2 l0 (l0.length : Int) (wrap64 (x22_2 + 1)) y138) = some (r1, r2) := by first | (rw [hy138]; with_reducible exact H) | (have H2_ := (Option.bind_some _ _).symm.trans H; rw [hy138]; with_reducible exact H2_) | (have H2_ := (Option.bind_some _ _).symm.trans H; with_reducible exact H2_) | with_reducible exact H | (rw [hy138]; exact H) | exact H
                            have Ny138 := Aside0.mk hy138
                            clear hy138
                            have H' := Aside0.mk H
                            clear H
                            have p131 : 0 ≤ (x22_2 : Int) := of_decide_eq_true (by first | (with_reducible assumption) | assumption)
                            have q131 : x22_2 < (l0.length : Int) := of_decide_eq_true (by first | (with_reducible assumption) | assumption)
                            obtain ⟨ad131, e131, hx131_0⟩ := Kd.at_string HR0.out x22_2 p131 q131
                            cases e131
                            replace hx131_0 := (HB.out.cell (World.block_lt_of_cell? w _ hx131_0)).trans hx131_0
                            replace p131 := eq_true p131
                            replace q131 := eq_true q131
                            try go_wp2_with (first | ((with_reducible refine gate_dst (N := 27) rfl ?_); refine Kd.C_bytes _ rfl (N := 27) rfl 9 34 5 _ rfl (rdOf ByteArray.empty l0 x22_2) rfl Tryd.underlying9 Tryd.underlying34 Tryd.underlying5 (of_decide_eq_true (by first | (with_reducible assumption) | assumption)) Ny132.out (Below.refl _ _) (Nat.le_refl _) ?_; intro A135 c135 w26 hr_ hc_ hb hg_; clear hg_; have n0_ := Aside0.mk (Kd.R_below (by (with_reducible repeat (first | apply Kd.R_alloc | apply Kd.R_drewN | apply Kd.R_drew)); exact HO_131000.out) hb); have n1_ := Aside0.mk (blk_below (g := gb125) (o := .cells #[.slice none 0 0] 26 (0, 0)) (by (with_reducible repeat (first | refine blk_drewN ?_ _ | refine blk_drew ?_ | refine blk_alloc ?_ _)); exact BK125.out) hb); have n2_ := Aside0.mk (blk_below (g := gb130) (o := .cells #[u131000] 26 (0, 0)) (by (with_reducible repeat (first | refine blk_drewN ?_ _ | refine blk_drew ?_ | refine blk_alloc ?_ _)); exact BK130.out) hb); have n3_ := Aside0.mk (below_step (by repeat (first | (with_reducible first | exact HB.out | apply below_alloc | apply pw_below_drewN | apply below_drew1 | refine below_set ?_ GE125.out | refine below_set ?_ GE130.out) | exact HB.out)) hb); have n4_ := Aside0.mk (hr_); have n5_ := Aside0.mk (hc_); clear HO_131000; clear BK125; clear BK130; clear HB; have HO_131000 := n0_; have BK125 := n1_; have BK130 := n2_; have HB := n3_; have HR135 := n4_; have HC135 := n5_; clear n0_ n1_ n2_ n3_ n4_ n5_; clear hb hr_ hc_) | ((with_reducible refine gate_callee (f := 23) rfl ?_); refine goesL_ (some 28) rfl rfl Tryd.func23 (by kernel_rfl) rfl #[.slice A135 y132.length c135] rfl (by (try simp only [List.map_toArray, List.map_cons, List.map_nil]); first | done | rfl | (simp only [List.length_drop, List.length_take]; rfl)) ?_; (with_reducible refine (impl_Sum32.calls k2 _ _ y132 t136 _ ?side1 ?side2 A19.out).mono ?_); (case side1 => repeat (first | exact (by repeat (first | (with_reducible exact HR135.out) | (with_reducible refine Kd.C_alloc ?_ _) | (with_reducible refine Kd.C_drewN ?_ _) | (with_reducible refine Kd.C_drew ?_) | exact HR135.out)) | (with_reducible refine Kd.C_alloc ?_ _) | (with_reducible refine Kd.C_drewN ?_ _) | (with_reducible refine Kd.C_drew ?_))); (case side2 => exact HC135.out); rintro e w' ⟨rfl, ⟨nd, rfl⟩⟩; refine ⟨_, rfl, ?_⟩; (try (rw [drewN_self w26]; generalize hq_ : World.drewN w26 _ = w26; have n0_ : Aside0 (Kd.R (Kd.int .i64) 3 w26 w.heap.size (fun _ => True) u131000 x131000_2) := ⟨by rw [← hq_]; exact (by (with_reducible repeat (first | apply Kd.R_alloc | apply Kd.R_drewN | apply Kd.R_drew)); exact HO_131000.out)⟩; have n1_ : Aside0 (w26.heap[gb125]? = some (.cells #[.slice none 0 0] 26 (0, 0))) := ⟨by rw [← hq_]; exact (by (with_reducible repeat (first | refine blk_drewN ?_ _ | refine blk_drew ?_ | refine blk_alloc ?_ _)); exact BK125.out)⟩; have n2_ : Aside0 (w26.heap[gb130]? = some (.cells #[u131000] 26 (0, 0))) := ⟨by rw [← hq_]; exact (by (with_reducible repeat (first | refine blk_drewN ?_ _ | refine blk_drew ?_ | refine blk_alloc ?_ _)); exact BK130.out)⟩; have n3_ : Aside0 (Below w.heap.size w w26) := ⟨by rw [← hq_]; exact (by repeat (first | (with_reducible first | exact HB.out | apply below_alloc | apply pw_below_drewN | apply below_drew1 | refine below_set ?_ GE125.out | refine below_set ?_ GE130.out) | exact HB.out))⟩; have n4_ : Aside0 (Kd.C (Kd.int .u8) w26 A135 y132.length y132) := ⟨by rw [← hq_]; exact (by repeat (first | (with_reducible exact HR135.out) | (with_reducible refine Kd.C_alloc ?_ _) | (with_reducible refine Kd.C_drewN ?_ _) | (with_reducible refine Kd.C_drew ?_) | exact HR135.out))⟩; clear HO_131000 BK125 BK130 HB HR135 hq_; have HO_131000 := n0_; have BK125 := n1_; have BK130 := n2_; have HB := n3_; have HR135 := n4_; clear n0_ n1_ n2_ n3_ n4_))))
                            have n0_ := Aside0.mk (Kd.R_drew HO_131000.out)
                            have n1_ := Aside0.mk (blk_drew BK125.out)
                            have n2_ := Aside0.mk (blk_drew BK130.out)
                            have n3_ := Aside0.mk (Kd.C_drew HR135.out)
                            have n4_ := Aside0.mk (below_drew1 HB.out)
                            clear HO_131000
                            clear BK125
                            clear BK130
                            clear HR135
                            clear HB
                            have HO_131000 := n0_
                            have BK125 := n1_
                            have BK130 := n2_
                            have HR135 := n3_
                            have HB := n4_
                            clear n0_ n1_ n2_ n3_ n4_
                            obtain ⟨Ao28, co28, eo28⟩ := Kd.R_slice HO_131000.out
                            (first | subst eo28 | (injection eo28 with f1_ f2_ f3_; have f4_ := f1_.symm; have f5_ := f3_.symm; clear f1_ f2_ f3_; subst f4_; subst f5_))
                            have p137 : 0 ≤ ((ji21) : Int) := of_decide_eq_true (by first | (with_reducible assumption) | assumption)
                            have q137 : (ji21) < (x131000_2.length : Int) := of_decide_eq_true (by first | (with_reducible assumption) | assumption)
                            obtain ⟨ad137, e137, hx137_0⟩ := Kd.at_int (Kd.R_reads' HO_131000.out).2.2 (ji21) p137 q137
                            cases e137
                            replace p137 := eq_true p137
                            replace q137 := eq_true q137
                            have p25 : 0 ≤ ((ji21) : Int) := of_decide_eq_true (by first | (with_reducible assumption) | assumption)
                            have q25 : ((ji21) : Int) < ((x131000_2.length : Int) : Int) := of_decide_eq_true (by first | (with_reducible assumption) | assumption)
                            obtain ⟨go25, co25, eo25, gb25, gl25, cl25, HG25⟩ := Kd.R_form HO_131000.out (by omega)
                            (first | cases eo25 | (injection eo25 with ea_ en_ ec_; (first | subst ea_ | (injection ea_ with ea_; subst ea_)); subst ec_; clear en_))
                            have GB25 := Aside0.mk gb25
                            have GG25 := Aside0.mk HG25
                            clear gb25 gl25 HG25
                            (first | simp only [add_plain] at hx137_0 | skip)
                            obtain ⟨hx25_0, hf25_0⟩ := Kd.R_celln 0 HO_131000.out ((ji21) : Int) p25 q25
                            replace p25 := eq_true p25
                            replace q25 := eq_true q25
                            have HP29 := Kd.R_putn HO_131000.out ((ji21) : Int) ji24
                            rw [← Ny138.out] at HP29
                            have HQ29 := Aside0.mk HP29
                            clear HP29
                            refine start_ (n := 14) (S := fun w' => w'.cell? ⟨gb130, 0, none⟩ = some (.slice (some ⟨go25, 0, none⟩) x131000_2.length co28) ∧ w'.cell? ⟨go25, ((ji21)).toNat, none⟩ = some (.int .i64 (rd x131000_2 (ji21)))) (ds := [13]) #[false, false, false, false, false, false, false, false, false, false, false, false, false, false] (by kernel_rfl) rfl rfl ⟨(blk_cell BK130.out 0).trans rfl, hx137_0⟩ (fun hHeld => ?_); refine with_tabW impl_SketchOf.tab15 impl_SketchOf.bits15 (fun HT_ HW_ => ?_)
                            generalize w26.drew = w27 at HO_131000 BK125 BK130 HR135 HB GG25 HQ29 hf25_0 hx137_0 hx25_0 hHeld ⊢
                            refine pure_ (i := 0) (N := some 47) (v := ?_) (a' := ?_) #[true, false, false, false, false, false, false, false, false, false, false, false, false, false] rfl rfl (any_of HT_.out (by kernel_rfl)) (fun _ _ _ h => h) (Or.inl ⟨by rfl, ?_⟩) ?_ ?_
                            rotate_left
                            · intro w'
                              go_simp
                              with_reducible rfl
                            rotate_left
                            · simp only [Act.put, List.setIfInBounds_toArray, List.set_cons_zero, List.set_cons_succ, i64_w, i32_w]
                              rfl
                            refine pure_ (i := 2) (N := some 49) (v := ?_) (a' := ?_) #[true, false, true, false, false, false, false, false, false, false, false, false, false, false] rfl rfl (any_of HT_.out (by kernel_rfl)) (fun _ _ _ h => h) (Or.inl ⟨by rfl, ?_⟩) ?_ ?_
                            rotate_left
                            · intro w'
                              go_simp
                              with_reducible rfl
                            rotate_left
                            · simp only [Act.put, List.setIfInBounds_toArray, List.set_cons_zero, List.set_cons_succ, i64_w, i32_w]
                              rfl
                            refine pure_ (i := 3) (N := some 50) (v := ?_) (a' := ?_) #[true, false, true, true, false, false, false, false, false, false, false, false, false, false] rfl rfl (any_of HT_.out (by kernel_rfl)) (fun _ _ _ h => h) (Or.inl ⟨by rfl, ?_⟩) ?_ ?_
                            rotate_left
                            · intro w'
                              go_simp
                              with_reducible rfl
                            rotate_left
                            · simp only [Act.put, List.setIfInBounds_toArray, List.set_cons_zero, List.set_cons_succ, i64_w, i32_w]
                              rfl
                            refine pure_ (i := 4) (N := some 51) (v := ?_) (a' := ?_) #[true, false, true, true, true, false, false, false, false, false, false, false, false, false] rfl rfl (any_of HT_.out (by kernel_rfl)) (fun _ _ _ h => h) (Or.inl ⟨by rfl, ?_⟩) ?_ ?_
                            rotate_left
                            · intro w'
                              go_simp
                              with_reducible rfl
                            rotate_left
                            · simp only [Act.put, List.setIfInBounds_toArray, List.set_cons_zero, List.set_cons_succ, i64_w, i32_w]
                              rfl
                            refine pure_ (i := 6) (N := some 53) (v := ?_) (a' := ?_) #[true, false, true, true, true, false, true, false, false, false, false, false, false, false] rfl rfl (any_of HT_.out (by kernel_rfl)) (fun _ _ _ h => h) (Or.inl ⟨by rfl, ?_⟩) ?_ ?_
                            rotate_left
                            · intro w'
                              go_simp
                              with_reducible rfl
                            rotate_left
                            · simp only [Act.put, List.setIfInBounds_toArray, List.set_cons_zero, List.set_cons_succ, i64_w, i32_w]
                              rfl
                            refine pure_ (i := 7) (N := some 54) (v := ?_) (a' := ?_) #[true, false, true, true, true, false, true, true, false, false, false, false, false, false] rfl rfl (any_of HT_.out (by kernel_rfl)) (fun _ _ _ h => h) (Or.inl ⟨by rfl, ?_⟩) ?_ ?_
                            rotate_left
                            · intro w'
                              go_simp
                              with_reducible rfl
                            rotate_left
                            · simp only [Act.put, List.setIfInBounds_toArray, List.set_cons_zero, List.set_cons_succ, i64_w, i32_w]
                              rfl
                            refine pure_ (i := 10) (N := some 57) (v := ?_) (a' := ?_) #[true, false, true, true, true, false, true, true, false, false, true, false, false, false] rfl rfl (any_of HT_.out (by kernel_rfl)) (fun _ _ _ h => h) (Or.inl ⟨by rfl, ?_⟩) ?_ ?_
                            rotate_left
                            · intro w'
                              go_simp
                              with_reducible rfl
                            rotate_left
                            · simp only [Act.put, List.setIfInBounds_toArray, List.set_cons_zero, List.set_cons_succ, i64_w, i32_w]
                              rfl
                            refine take_ (i := 1) (N := some 48) (v := ?_) (a' := ?_) #[true, true, true, true, true, false, true, true, false, false, true, false, false, false] rfl rfl (take_ofW HT_.out HW_.out (by kernel_rfl)) (fun _ _ _ h => h) (Or.inl ⟨by rfl, ?_⟩) hHeld ?_ ?_
                            rotate_left
                            · rintro w' ⟨s0, s1⟩
                              go_simp
                              with_reducible rfl
                            rotate_left
                            · simp only [Act.put, List.setIfInBounds_toArray, List.set_cons_zero, List.set_cons_succ, i64_w, i32_w]
                              rfl
                            refine take_ (i := 5) (N := some 52) (v := ?_) (a' := ?_) #[true, true, true, true, true, true, true, true, false, false, true, false, false, false] rfl rfl (take_ofW HT_.out HW_.out (by kernel_rfl)) (fun _ _ _ h => h) (Or.inl ⟨by rfl, ?_⟩) hHeld ?_ ?_
                            rotate_left
                            · rintro w' ⟨s0, s1⟩
                              go_simp
                              with_reducible rfl
                            rotate_left
                            · simp only [Act.put, List.setIfInBounds_toArray, List.set_cons_zero, List.set_cons_succ, i64_w, i32_w]
                              rfl
                            refine pure_ (i := 8) (N := some 55) (v := ?_) (a' := ?_) #[true, true, true, true, true, true, true, true, true, false, true, false, false, false] rfl rfl (any_of HT_.out (by kernel_rfl)) (fun _ _ _ h => h) (Or.inl ⟨by rfl, ?_⟩) ?_ ?_
                            rotate_left
                            · intro w'
                              go_simp
                              with_reducible rfl
                            rotate_left
                            · simp only [Act.put, List.setIfInBounds_toArray, List.set_cons_zero, List.set_cons_succ, i64_w, i32_w]
                              rfl
                            refine take_ (i := 9) (N := some 56) (v := ?_) (a' := ?_) #[true, true, true, true, true, true, true, true, true, true, true, false, false, false] rfl rfl (take_ofW HT_.out HW_.out (by kernel_rfl)) (fun _ _ _ h => h) (Or.inl ⟨by rfl, ?_⟩) hHeld ?_ ?_
                            rotate_left
                            · rintro w' ⟨s0, s1⟩
                              go_simp
                              with_reducible rfl
                            rotate_left
                            · simp only [Act.put, List.setIfInBounds_toArray, List.set_cons_zero, List.set_cons_succ, i64_w, i32_w]
                              rfl
                            refine pure_ (i := 11) (N := some 58) (v := ?_) (a' := ?_) #[true, true, true, true, true, true, true, true, true, true, true, true, false, false] rfl rfl (any_of HT_.out (by kernel_rfl)) (fun _ _ _ h => h) (Or.inl ⟨by rfl, ?_⟩) ?_ ?_
                            rotate_left
                            · intro w'
                              go_simp
                              with_reducible rfl
                            rotate_left
                            · simp only [Act.put, List.setIfInBounds_toArray, List.set_cons_zero, List.set_cons_succ, i64_w, i32_w]
                              rfl
                            refine pure_ (i := 12) (N := some 59) (v := ?_) (a' := ?_) #[true, true, true, true, true, true, true, true, true, true, true, true, true, false] rfl rfl (any_of HT_.out (by kernel_rfl)) (fun _ _ _ h => h) (Or.inl ⟨by rfl, ?_⟩) ?_ ?_
                            rotate_left
                            · intro w'
                              go_simp
                              with_reducible rfl
                            rotate_left
                            · simp only [Act.put, List.setIfInBounds_toArray, List.set_cons_zero, List.set_cons_succ, i64_w, i32_w]
                              rfl
                            refine last_ (i := 13) (N := none) #[true, true, true, true, true, true, true, true, true, true, true, true, true, true] rfl rfl (one_of HT_.out (by kernel_rfl)) (by decide) (fun K hK => ?_)
                            refine skip_ (w1 := ?_) (by rfl) rfl ?_ ?_
                            rotate_left
                            · go_simp
                              rfl
                            refine hK.out _ _ ?_
                            clear hK K
                            refine done_ (done_of HT_.out (by kernel_rfl)) ?_
                            try go_wp2
                            go_roundg k2
                            case measure => have := HJ1.out; have := HK2.out; omega
                            case rel => exact ⟨(wrap64 (x22_2 + 1)), (y138), (.slice (some ⟨go25, 0, none⟩) x131000_2.length co28), (by first | rfl | (simp; done) | (simp [*]; done)), H', ⟨by have := HJ1.out; have := HK2.out; omega⟩, ⟨by (with_reducible repeat (first | apply Kd.R_alloc | apply Kd.R_drewN | apply Kd.R_drew)); exact HQ29.out⟩, ⟨by (with_reducible repeat (first | refine blk_drewN ?_ _ | refine blk_drew ?_ | refine blk_alloc ?_ _)); refine blk_far ?_ (by have h_ := Kd.R_ne HO_131000.out BK125.out (by decide); intro e_; exact h_ (by rw [e_]; rfl)) _; (with_reducible repeat (first | refine blk_drewN ?_ _ | refine blk_drew ?_ | refine blk_alloc ?_ _)); exact BK125.out⟩, ⟨by (with_reducible repeat (first | refine blk_drewN ?_ _ | refine blk_drew ?_ | refine blk_alloc ?_ _)); refine blk_far ?_ (by have h_ := Kd.R_ne HO_131000.out BK130.out (by decide); intro e_; exact h_ (by rw [e_]; rfl)) _; (with_reducible repeat (first | refine blk_drewN ?_ _ | refine blk_drew ?_ | refine blk_alloc ?_ _)); exact BK130.out⟩, ⟨by repeat (first | (with_reducible first | exact HB.out | apply below_alloc | apply pw_below_drewN | apply below_drew1 | refine below_set ?_ GB25.out | refine below_set ?_ GE125.out | refine below_set ?_ GE130.out) | exact HB.out)⟩⟩
                          · rw [if_neg c23] at H
                            exact absurd H (by simp)
                        · rw [if_neg c22] at H
                          exact absurd H (by simp)
                      · rw [if_neg c20] at H
                        have c20b0 : (((Int.tdiv (Go.bits .xor .u32 (((Go.bits .xor .u32 ((t136) % 4294967296) (((t136) % 4294967296) / 65536)) * 2146121005) % 4294967296) ((((Go.bits .xor .u32 ((t136) % 4294967296) (((t136) % 4294967296) / 65536)) * 2146121005) % 4294967296) / 8192)) 256) % 4294967296) == 0) = false := beq_eq_false_iff_ne.mpr c20
                        have c20b1 : (((Int.tdiv (Go.bits .xor .u32 (((Go.bits .xor .u32 ((t136) % 4294967296) (((t136) % 4294967296) / 65536)) * 2146121005) % 4294967296) ((((Go.bits .xor .u32 ((t136) % 4294967296) (((t136) % 4294967296) / 65536)) * 2146121005) % 4294967296) / 8192)) 256) % 4294967296) != 0) = true := bne_iff_ne.mpr c20
                        replace H := Option.bind_eq_some_iff.mp H
                        obtain ⟨t139, A300, H⟩ := H
                        replace H : (if 0 ≤ (Int.tmod (Go.bits .xor .u32 (((Go.bits .xor .u32 ((t136) % 4294967296) (((t136) % 4294967296) / 65536)) * 2146121005) % 4294967296) ((((Go.bits .xor .u32 ((t136) % 4294967296) (((t136) % 4294967296) / 65536)) * 2146121005) % 4294967296) / 8192)) 256) then (if (Int.tmod (Go.bits .xor .u32 (((Go.bits .xor .u32 ((t136) % 4294967296) (((t136) % 4294967296) / 65536)) * 2146121005) % 4294967296) ((((Go.bits .xor .u32 ((t136) % 4294967296) (((t136) % 4294967296) / 65536)) * 2146121005) % 4294967296) / 8192)) 256) < (x131000_2.length : Int) then (impl_SketchOf.l0 k2 l0 (l0.length : Int) (wrap64 (x22_2 + 1)) (x131000_2.set ((Int.tmod (Go.bits .xor .u32 (((Go.bits .xor .u32 ((t136) % 4294967296) (((t136) % 4294967296) / 65536)) * 2146121005) % 4294967296) ((((Go.bits .xor .u32 ((t136) % 4294967296) (((t136) % 4294967296) / 65536)) * 2146121005) % 4294967296) / 8192)) 256) : Int).toNat (mx (rd x131000_2 (Int.tmod (Go.bits .xor .u32 (((Go.bits .xor .u32 ((t136) % 4294967296) (((t136) % 4294967296) / 65536)) * 2146121005) % 4294967296) ((((Go.bits .xor .u32 ((t136) % 4294967296) (((t136) % 4294967296) / 65536)) * 2146121005) % 4294967296) / 8192)) 256)) (wrap64 (1 + t139))))) else (none)) else (none)) = some (r1, r2) := H
                        have A30 := Aside0.mk A300
                        clear A300
                        obtain ⟨ji31, hji31⟩ : ∃ j_ : Int, (Int.tmod (Go.bits .xor .u32 (((Go.bits .xor .u32 ((t136) % 4294967296) (((t136) % 4294967296) / 65536)) * 2146121005) % 4294967296) ((((Go.bits .xor .u32 ((t136) % 4294967296) (((t136) % 4294967296) / 65536)) * 2146121005) % 4294967296) / 8192)) 256) = j_ := ⟨_, rfl⟩
                        replace H : (if 0 ≤ (ji31) then (if (ji31) < (x131000_2.length : Int) then (impl_SketchOf.l0 k2 l0 (l0.length : Int) (wrap64 (x22_2 + 1)) (x131000_2.set ((ji31) : Int).toNat (mx (rd x131000_2 (ji31)) (wrap64 (1 + t139))))) else (none)) else (none)) = some (r1, r2) := by first | (rw [hji31] at H; exact H) | (simp only [hji31] at H ⊢; exact H)
                        (try rw [hji31] at A19)
                        (try rw [hji31] at A30)
                        by_cases c32 : 0 ≤ (ji31)
                        · rw [if_pos c32] at H
                          have c32b0 : decide (0 ≤ (ji31)) = true := decide_eq_true c32
                          clear c32
                          by_cases c33 : (ji31) < (x131000_2.length : Int)
                          · rw [if_pos c33] at H
                            have c33b0 : decide ((ji31) < (x131000_2.length : Int)) = true := decide_eq_true c33
                            clear c33
                            obtain ⟨ji34, hji34⟩ : ∃ j_ : Int, (mx (rd x131000_2 (ji31)) (wrap64 (1 + t139))) = j_ := ⟨_, rfl⟩
                            replace H : (impl_SketchOf.l0 k2 l0 (l0.length : Int) (wrap64 (x22_2 + 1)) (x131000_2.set ((ji31) : Int).toNat (ji34))) = some (r1, r2) := by first | (rw [hji34] at H; exact H) | (simp only [hji34] at H ⊢; exact H)
                            (try rw [hji34] at A19)
                            (try rw [hji34] at A30)
                            have hji34_ : (if (rd x131000_2 (ji31)) < (wrap64 (1 + t139)) then (wrap64 (1 + t139)) else (rd x131000_2 (ji31))) = ji34 := hji34
                            obtain ⟨y141, hy141⟩ : ∃ y_ : List Int, y_ = (x131000_2.set ((ji31) : Int).toNat (ji34)) := ⟨_, rfl⟩
                            replace H : (impl_SketchOf.l0 k2 l0 (l0.length : Int) (wrap64 (x22_2 + 1)) y141) = some (r1, r2) := by first | (rw [hy141]; with_reducible exact H) | (have H2_ := (Option.bind_some _ _).symm.trans H; rw [hy141]; with_reducible exact H2_) | (have H2_ := (Option.bind_some _ _).symm.trans H; with_reducible exact H2_) | with_reducible exact H | (rw [hy141]; exact H) | exact H
                            have Ny141 := Aside0.mk hy141
                            clear hy141
                            have H' := Aside0.mk H
                            clear H
                            have p131 : 0 ≤ (x22_2 : Int) := of_decide_eq_true (by first | (with_reducible assumption) | assumption)
                            have q131 : x22_2 < (l0.length : Int) := of_decide_eq_true (by first | (with_reducible assumption) | assumption)
                            obtain ⟨ad131, e131, hx131_0⟩ := Kd.at_string HR0.out x22_2 p131 q131
                            cases e131
                            replace hx131_0 := (HB.out.cell (World.block_lt_of_cell? w _ hx131_0)).trans hx131_0
                            replace p131 := eq_true p131
                            replace q131 := eq_true q131
                            try go_wp2_with (first | ((with_reducible refine gate_dst (N := 27) rfl ?_); refine Kd.C_bytes _ rfl (N := 27) rfl 9 34 5 _ rfl (rdOf ByteArray.empty l0 x22_2) rfl Tryd.underlying9 Tryd.underlying34 Tryd.underlying5 (of_decide_eq_true (by first | (with_reducible assumption) | assumption)) Ny132.out (Below.refl _ _) (Nat.le_refl _) ?_; intro A135 c135 w36 hr_ hc_ hb hg_; clear hg_; have n0_ := Aside0.mk (Kd.R_below (by (with_reducible repeat (first | apply Kd.R_alloc | apply Kd.R_drewN | apply Kd.R_drew)); exact HO_131000.out) hb); have n1_ := Aside0.mk (blk_below (g := gb125) (o := .cells #[.slice none 0 0] 26 (0, 0)) (by (with_reducible repeat (first | refine blk_drewN ?_ _ | refine blk_drew ?_ | refine blk_alloc ?_ _)); exact BK125.out) hb); have n2_ := Aside0.mk (blk_below (g := gb130) (o := .cells #[u131000] 26 (0, 0)) (by (with_reducible repeat (first | refine blk_drewN ?_ _ | refine blk_drew ?_ | refine blk_alloc ?_ _)); exact BK130.out) hb); have n3_ := Aside0.mk (below_step (by repeat (first | (with_reducible first | exact HB.out | apply below_alloc | apply pw_below_drewN | apply below_drew1 | refine below_set ?_ GE125.out | refine below_set ?_ GE130.out) | exact HB.out)) hb); have n4_ := Aside0.mk (hr_); have n5_ := Aside0.mk (hc_); clear HO_131000; clear BK125; clear BK130; clear HB; have HO_131000 := n0_; have BK125 := n1_; have BK130 := n2_; have HB := n3_; have HR135 := n4_; have HC135 := n5_; clear n0_ n1_ n2_ n3_ n4_ n5_; clear hb hr_ hc_) | ((with_reducible refine gate_callee (f := 23) rfl ?_); refine goesL_ (some 28) rfl rfl Tryd.func23 (by kernel_rfl) rfl #[.slice A135 y132.length c135] rfl (by (try simp only [List.map_toArray, List.map_cons, List.map_nil]); first | done | rfl | (simp only [List.length_drop, List.length_take]; rfl)) ?_; (with_reducible refine (impl_Sum32.calls k2 _ _ y132 t136 _ ?side1 ?side2 A19.out).mono ?_); (case side1 => repeat (first | exact (by repeat (first | (with_reducible exact HR135.out) | (with_reducible refine Kd.C_alloc ?_ _) | (with_reducible refine Kd.C_drewN ?_ _) | (with_reducible refine Kd.C_drew ?_) | exact HR135.out)) | (with_reducible refine Kd.C_alloc ?_ _) | (with_reducible refine Kd.C_drewN ?_ _) | (with_reducible refine Kd.C_drew ?_))); (case side2 => exact HC135.out); rintro e w' ⟨rfl, ⟨nd, rfl⟩⟩; refine ⟨_, rfl, ?_⟩; (try (rw [drewN_self w36]; generalize hq_ : World.drewN w36 _ = w36; have n0_ : Aside0 (Kd.R (Kd.int .i64) 3 w36 w.heap.size (fun _ => True) u131000 x131000_2) := ⟨by rw [← hq_]; exact (by (with_reducible repeat (first | apply Kd.R_alloc | apply Kd.R_drewN | apply Kd.R_drew)); exact HO_131000.out)⟩; have n1_ : Aside0 (w36.heap[gb125]? = some (.cells #[.slice none 0 0] 26 (0, 0))) := ⟨by rw [← hq_]; exact (by (with_reducible repeat (first | refine blk_drewN ?_ _ | refine blk_drew ?_ | refine blk_alloc ?_ _)); exact BK125.out)⟩; have n2_ : Aside0 (w36.heap[gb130]? = some (.cells #[u131000] 26 (0, 0))) := ⟨by rw [← hq_]; exact (by (with_reducible repeat (first | refine blk_drewN ?_ _ | refine blk_drew ?_ | refine blk_alloc ?_ _)); exact BK130.out)⟩; have n3_ : Aside0 (Below w.heap.size w w36) := ⟨by rw [← hq_]; exact (by repeat (first | (with_reducible first | exact HB.out | apply below_alloc | apply pw_below_drewN | apply below_drew1 | refine below_set ?_ GE125.out | refine below_set ?_ GE130.out) | exact HB.out))⟩; have n4_ : Aside0 (Kd.C (Kd.int .u8) w36 A135 y132.length y132) := ⟨by rw [← hq_]; exact (by repeat (first | (with_reducible exact HR135.out) | (with_reducible refine Kd.C_alloc ?_ _) | (with_reducible refine Kd.C_drewN ?_ _) | (with_reducible refine Kd.C_drew ?_) | exact HR135.out))⟩; clear HO_131000 BK125 BK130 HB HR135 hq_; have HO_131000 := n0_; have BK125 := n1_; have BK130 := n2_; have HB := n3_; have HR135 := n4_; clear n0_ n1_ n2_ n3_ n4_))) | ((with_reducible refine gate_callee (f := 24) rfl ?_); refine goesL_ (some 45) rfl rfl Tryd.func24 (by kernel_rfl) rfl #[.int .u32 ((Int.tdiv (Go.bits .xor .u32 (((Go.bits .xor .u32 ((t136) % 4294967296) (((t136) % 4294967296) / 65536)) * 2146121005) % 4294967296) ((((Go.bits .xor .u32 ((t136) % 4294967296) (((t136) % 4294967296) / 65536)) * 2146121005) % 4294967296) / 8192)) 256) % 4294967296)] rfl (by (try simp only [List.map_toArray, List.map_cons, List.map_nil]); first | done | rfl | (simp only [List.length_drop, List.length_take]; rfl)) ?_; (with_reducible refine (bits_TrailingZeros32.calls ((Int.tdiv (Go.bits .xor .u32 (((Go.bits .xor .u32 ((t136) % 4294967296) (((t136) % 4294967296) / 65536)) * 2146121005) % 4294967296) ((((Go.bits .xor .u32 ((t136) % 4294967296) (((t136) % 4294967296) / 65536)) * 2146121005) % 4294967296) / 8192)) 256) % 4294967296) t139 _ ?side1 A30.out).mono ?_); (case side1 => exact TabW.below HT.out (by repeat (first | (with_reducible first | exact HB.out | apply below_alloc | apply pw_below_drewN | apply below_drew1 | refine below_set ?_ GE125.out | refine below_set ?_ GE130.out) | exact HB.out))); rintro e w' ⟨rfl, ⟨nd, rfl⟩⟩; refine ⟨_, rfl, ?_⟩; (try (rw [drewN_self w36]; generalize hq_ : World.drewN w36 _ = w36; have n0_ : Aside0 (Kd.R (Kd.int .i64) 3 w36 w.heap.size (fun _ => True) u131000 x131000_2) := ⟨by rw [← hq_]; exact (by (with_reducible repeat (first | apply Kd.R_alloc | apply Kd.R_drewN | apply Kd.R_drew)); exact HO_131000.out)⟩; have n1_ : Aside0 (w36.heap[gb125]? = some (.cells #[.slice none 0 0] 26 (0, 0))) := ⟨by rw [← hq_]; exact (by (with_reducible repeat (first | refine blk_drewN ?_ _ | refine blk_drew ?_ | refine blk_alloc ?_ _)); exact BK125.out)⟩; have n2_ : Aside0 (w36.heap[gb130]? = some (.cells #[u131000] 26 (0, 0))) := ⟨by rw [← hq_]; exact (by (with_reducible repeat (first | refine blk_drewN ?_ _ | refine blk_drew ?_ | refine blk_alloc ?_ _)); exact BK130.out)⟩; have n3_ : Aside0 (Below w.heap.size w w36) := ⟨by rw [← hq_]; exact (by repeat (first | (with_reducible first | exact HB.out | apply below_alloc | apply pw_below_drewN | apply below_drew1 | refine below_set ?_ GE125.out | refine below_set ?_ GE130.out) | exact HB.out))⟩; have n4_ : Aside0 (Kd.C (Kd.int .u8) w36 A135 y132.length y132) := ⟨by rw [← hq_]; exact (by repeat (first | (with_reducible exact HR135.out) | (with_reducible refine Kd.C_alloc ?_ _) | (with_reducible refine Kd.C_drewN ?_ _) | (with_reducible refine Kd.C_drew ?_) | exact HR135.out))⟩; clear HO_131000 BK125 BK130 HB HR135 hq_; have HO_131000 := n0_; have BK125 := n1_; have BK130 := n2_; have HB := n3_; have HR135 := n4_; clear n0_ n1_ n2_ n3_ n4_))))
                            have n0_ := Aside0.mk (Kd.R_drew HO_131000.out)
                            have n1_ := Aside0.mk (blk_drew BK125.out)
                            have n2_ := Aside0.mk (blk_drew BK130.out)
                            have n3_ := Aside0.mk (Kd.C_drew HR135.out)
                            have n4_ := Aside0.mk (below_drew1 HB.out)
                            clear HO_131000
                            clear BK125
                            clear BK130
                            clear HR135
                            clear HB
                            have HO_131000 := n0_
                            have BK125 := n1_
                            have BK130 := n2_
                            have HR135 := n3_
                            have HB := n4_
                            clear n0_ n1_ n2_ n3_ n4_
                            obtain ⟨Ao38, co38, eo38⟩ := Kd.R_slice HO_131000.out
                            (first | subst eo38 | (injection eo38 with f1_ f2_ f3_; have f4_ := f1_.symm; have f5_ := f3_.symm; clear f1_ f2_ f3_; subst f4_; subst f5_))
                            have p140 : 0 ≤ ((ji31) : Int) := of_decide_eq_true (by first | (with_reducible assumption) | assumption)
                            have q140 : (ji31) < (x131000_2.length : Int) := of_decide_eq_true (by first | (with_reducible assumption) | assumption)
                            obtain ⟨ad140, e140, hx140_0⟩ := Kd.at_int (Kd.R_reads' HO_131000.out).2.2 (ji31) p140 q140
                            cases e140
                            replace p140 := eq_true p140
                            replace q140 := eq_true q140
                            have p35 : 0 ≤ ((ji31) : Int) := of_decide_eq_true (by first | (with_reducible assumption) | assumption)
                            have q35 : ((ji31) : Int) < ((x131000_2.length : Int) : Int) := of_decide_eq_true (by first | (with_reducible assumption) | assumption)
                            obtain ⟨go35, co35, eo35, gb35, gl35, cl35, HG35⟩ := Kd.R_form HO_131000.out (by omega)
                            (first | cases eo35 | (injection eo35 with ea_ en_ ec_; (first | subst ea_ | (injection ea_ with ea_; subst ea_)); subst ec_; clear en_))
                            have GB35 := Aside0.mk gb35
                            have GG35 := Aside0.mk HG35
                            clear gb35 gl35 HG35
                            (first | simp only [add_plain] at hx140_0 | skip)
                            obtain ⟨hx35_0, hf35_0⟩ := Kd.R_celln 0 HO_131000.out ((ji31) : Int) p35 q35
                            replace p35 := eq_true p35
                            replace q35 := eq_true q35
                            have HP39 := Kd.R_putn HO_131000.out ((ji31) : Int) ji34
                            rw [← Ny141.out] at HP39
                            have HQ39 := Aside0.mk HP39
                            clear HP39
                            refine start_ (n := 14) (S := fun w' => w'.cell? ⟨gb130, 0, none⟩ = some (.slice (some ⟨go35, 0, none⟩) x131000_2.length co38) ∧ w'.cell? ⟨go35, ((ji31)).toNat, none⟩ = some (.int .i64 (rd x131000_2 (ji31)))) (ds := [13]) #[false, false, false, false, false, false, false, false, false, false, false, false, false, false] (by kernel_rfl) rfl rfl ⟨(blk_cell BK130.out 0).trans rfl, hx140_0⟩ (fun hHeld => ?_); refine with_tabW impl_SketchOf.tab15 impl_SketchOf.bits15 (fun HT_ HW_ => ?_)
                            generalize w36.drew = w37 at HO_131000 BK125 BK130 HR135 HB GG35 HQ39 hf35_0 hx140_0 hx35_0 hHeld ⊢
                            refine pure_ (i := 0) (N := some 47) (v := ?_) (a' := ?_) #[true, false, false, false, false, false, false, false, false, false, false, false, false, false] rfl rfl (any_of HT_.out (by kernel_rfl)) (fun _ _ _ h => h) (Or.inl ⟨by rfl, ?_⟩) ?_ ?_
                            rotate_left
                            · intro w'
                              go_simp
                              with_reducible rfl
                            rotate_left
                            · simp only [Act.put, List.setIfInBounds_toArray, List.set_cons_zero, List.set_cons_succ, i64_w, i32_w]
                              rfl
                            refine pure_ (i := 2) (N := some 49) (v := ?_) (a' := ?_) #[true, false, true, false, false, false, false, false, false, false, false, false, false, false] rfl rfl (any_of HT_.out (by kernel_rfl)) (fun _ _ _ h => h) (Or.inl ⟨by rfl, ?_⟩) ?_ ?_
                            rotate_left
                            · intro w'
                              go_simp
                              with_reducible rfl
                            rotate_left
                            · simp only [Act.put, List.setIfInBounds_toArray, List.set_cons_zero, List.set_cons_succ, i64_w, i32_w]
                              rfl
                            refine pure_ (i := 3) (N := some 50) (v := ?_) (a' := ?_) #[true, false, true, true, false, false, false, false, false, false, false, false, false, false] rfl rfl (any_of HT_.out (by kernel_rfl)) (fun _ _ _ h => h) (Or.inl ⟨by rfl, ?_⟩) ?_ ?_
                            rotate_left
                            · intro w'
                              go_simp
                              with_reducible rfl
                            rotate_left
                            · simp only [Act.put, List.setIfInBounds_toArray, List.set_cons_zero, List.set_cons_succ, i64_w, i32_w]
                              rfl
                            refine pure_ (i := 4) (N := some 51) (v := ?_) (a' := ?_) #[true, false, true, true, true, false, false, false, false, false, false, false, false, false] rfl rfl (any_of HT_.out (by kernel_rfl)) (fun _ _ _ h => h) (Or.inl ⟨by rfl, ?_⟩) ?_ ?_
                            rotate_left
                            · intro w'
                              go_simp
                              with_reducible rfl
                            rotate_left
                            · simp only [Act.put, List.setIfInBounds_toArray, List.set_cons_zero, List.set_cons_succ, i64_w, i32_w]
                              rfl
                            refine pure_ (i := 6) (N := some 53) (v := ?_) (a' := ?_) #[true, false, true, true, true, false, true, false, false, false, false, false, false, false] rfl rfl (any_of HT_.out (by kernel_rfl)) (fun _ _ _ h => h) (Or.inl ⟨by rfl, ?_⟩) ?_ ?_
                            rotate_left
                            · intro w'
                              go_simp
                              with_reducible rfl
                            rotate_left
                            · simp only [Act.put, List.setIfInBounds_toArray, List.set_cons_zero, List.set_cons_succ, i64_w, i32_w]
                              rfl
                            refine pure_ (i := 7) (N := some 54) (v := ?_) (a' := ?_) #[true, false, true, true, true, false, true, true, false, false, false, false, false, false] rfl rfl (any_of HT_.out (by kernel_rfl)) (fun _ _ _ h => h) (Or.inl ⟨by rfl, ?_⟩) ?_ ?_
                            rotate_left
                            · intro w'
                              go_simp
                              with_reducible rfl
                            rotate_left
                            · simp only [Act.put, List.setIfInBounds_toArray, List.set_cons_zero, List.set_cons_succ, i64_w, i32_w]
                              rfl
                            refine pure_ (i := 10) (N := some 57) (v := ?_) (a' := ?_) #[true, false, true, true, true, false, true, true, false, false, true, false, false, false] rfl rfl (any_of HT_.out (by kernel_rfl)) (fun _ _ _ h => h) (Or.inl ⟨by rfl, ?_⟩) ?_ ?_
                            rotate_left
                            · intro w'
                              go_simp
                              with_reducible rfl
                            rotate_left
                            · simp only [Act.put, List.setIfInBounds_toArray, List.set_cons_zero, List.set_cons_succ, i64_w, i32_w]
                              rfl
                            refine take_ (i := 1) (N := some 48) (v := ?_) (a' := ?_) #[true, true, true, true, true, false, true, true, false, false, true, false, false, false] rfl rfl (take_ofW HT_.out HW_.out (by kernel_rfl)) (fun _ _ _ h => h) (Or.inl ⟨by rfl, ?_⟩) hHeld ?_ ?_
                            rotate_left
                            · rintro w' ⟨s0, s1⟩
                              go_simp
                              with_reducible rfl
                            rotate_left
                            · simp only [Act.put, List.setIfInBounds_toArray, List.set_cons_zero, List.set_cons_succ, i64_w, i32_w]
                              rfl
                            refine take_ (i := 5) (N := some 52) (v := ?_) (a' := ?_) #[true, true, true, true, true, true, true, true, false, false, true, false, false, false] rfl rfl (take_ofW HT_.out HW_.out (by kernel_rfl)) (fun _ _ _ h => h) (Or.inl ⟨by rfl, ?_⟩) hHeld ?_ ?_
                            rotate_left
                            · rintro w' ⟨s0, s1⟩
                              go_simp
                              with_reducible rfl
                            rotate_left
                            · simp only [Act.put, List.setIfInBounds_toArray, List.set_cons_zero, List.set_cons_succ, i64_w, i32_w]
                              rfl
                            refine pure_ (i := 8) (N := some 55) (v := ?_) (a' := ?_) #[true, true, true, true, true, true, true, true, true, false, true, false, false, false] rfl rfl (any_of HT_.out (by kernel_rfl)) (fun _ _ _ h => h) (Or.inl ⟨by rfl, ?_⟩) ?_ ?_
                            rotate_left
                            · intro w'
                              go_simp
                              with_reducible rfl
                            rotate_left
                            · simp only [Act.put, List.setIfInBounds_toArray, List.set_cons_zero, List.set_cons_succ, i64_w, i32_w]
                              rfl
                            refine take_ (i := 9) (N := some 56) (v := ?_) (a' := ?_) #[true, true, true, true, true, true, true, true, true, true, true, false, false, false] rfl rfl (take_ofW HT_.out HW_.out (by kernel_rfl)) (fun _ _ _ h => h) (Or.inl ⟨by rfl, ?_⟩) hHeld ?_ ?_
                            rotate_left
                            · rintro w' ⟨s0, s1⟩
                              go_simp
                              with_reducible rfl
                            rotate_left
                            · simp only [Act.put, List.setIfInBounds_toArray, List.set_cons_zero, List.set_cons_succ, i64_w, i32_w]
                              rfl
                            refine pure_ (i := 11) (N := some 58) (v := ?_) (a' := ?_) #[true, true, true, true, true, true, true, true, true, true, true, true, false, false] rfl rfl (any_of HT_.out (by kernel_rfl)) (fun _ _ _ h => h) (Or.inl ⟨by rfl, ?_⟩) ?_ ?_
                            rotate_left
                            · intro w'
                              go_simp
                              with_reducible rfl
                            rotate_left
                            · simp only [Act.put, List.setIfInBounds_toArray, List.set_cons_zero, List.set_cons_succ, i64_w, i32_w]
                              rfl
                            refine pure_ (i := 12) (N := some 59) (v := ?_) (a' := ?_) #[true, true, true, true, true, true, true, true, true, true, true, true, true, false] rfl rfl (any_of HT_.out (by kernel_rfl)) (fun _ _ _ h => h) (Or.inl ⟨by rfl, ?_⟩) ?_ ?_
                            rotate_left
                            · intro w'
                              go_simp
                              with_reducible rfl
                            rotate_left
                            · simp only [Act.put, List.setIfInBounds_toArray, List.set_cons_zero, List.set_cons_succ, i64_w, i32_w]
                              rfl
                            refine last_ (i := 13) (N := none) #[true, true, true, true, true, true, true, true, true, true, true, true, true, true] rfl rfl (one_of HT_.out (by kernel_rfl)) (by decide) (fun K hK => ?_)
                            refine skip_ (w1 := ?_) (by rfl) rfl ?_ ?_
                            rotate_left
                            · go_simp
                              rfl
                            refine hK.out _ _ ?_
                            clear hK K
                            refine done_ (done_of HT_.out (by kernel_rfl)) ?_
                            try go_wp2
                            go_roundg k2
                            case measure => have := HJ1.out; have := HK2.out; omega
                            case rel => exact ⟨(wrap64 (x22_2 + 1)), (y141), (.slice (some ⟨go35, 0, none⟩) x131000_2.length co38), (by first | rfl | (simp; done) | (simp [*]; done)), H', ⟨by have := HJ1.out; have := HK2.out; omega⟩, ⟨by (with_reducible repeat (first | apply Kd.R_alloc | apply Kd.R_drewN | apply Kd.R_drew)); exact HQ39.out⟩, ⟨by (with_reducible repeat (first | refine blk_drewN ?_ _ | refine blk_drew ?_ | refine blk_alloc ?_ _)); refine blk_far ?_ (by have h_ := Kd.R_ne HO_131000.out BK125.out (by decide); intro e_; exact h_ (by rw [e_]; rfl)) _; (with_reducible repeat (first | refine blk_drewN ?_ _ | refine blk_drew ?_ | refine blk_alloc ?_ _)); exact BK125.out⟩, ⟨by (with_reducible repeat (first | refine blk_drewN ?_ _ | refine blk_drew ?_ | refine blk_alloc ?_ _)); refine blk_far ?_ (by have h_ := Kd.R_ne HO_131000.out BK130.out (by decide); intro e_; exact h_ (by rw [e_]; rfl)) _; (with_reducible repeat (first | refine blk_drewN ?_ _ | refine blk_drew ?_ | refine blk_alloc ?_ _)); exact BK130.out⟩, ⟨by repeat (first | (with_reducible first | exact HB.out | apply below_alloc | apply pw_below_drewN | apply below_drew1 | refine below_set ?_ GB35.out | refine below_set ?_ GE125.out | refine below_set ?_ GE130.out) | exact HB.out)⟩⟩
                          · rw [if_neg c33] at H
                            exact absurd H (by simp)
                        · rw [if_neg c32] at H
                          exact absurd H (by simp)
                    · rw [if_neg c18] at H
                      exact absurd H (by simp)
                  · rw [if_neg c17] at H
                    exact absurd H (by simp)
                · rw [if_neg c16] at H
                  exact absurd H (by simp)
              · rw [if_neg c15] at H
                have c15b0 : decide (x22_2 < (l0.length : Int)) = false := decide_eq_false c15
                clear c15
                simp only [Option.some.injEq, Prod.mk.injEq] at H
                obtain ⟨rfl, rfl⟩ := H
                have hnb40 := NB130_125.out
                have hnc40 := NB125_130.out
                have hcz41_0 : wr.cell? ⟨gb130, 0, none⟩ = some (u131000) := (blk_cell BK130.out 0).trans rfl
                have hfz41_0 := blk_frozen BK130.out 0
                obtain ⟨Ao42, co42, eo42⟩ := Kd.R_slice HO_131000.out
                subst eo42
                have hcz43_0 : wr.cell? ⟨gb125, 0, none⟩ = some (.slice none 0 0) := (blk_cell BK125.out 0).trans rfl
                have hfz43_0 := blk_frozen BK125.out 0
                go_wp2
                refine bodyPost_ret (results_ct rfl _ _ gb125 26 #[.slice Ao42 x131000_2.length co42] (0, 0) _ rfl (by (with_reducible repeat (first | refine blk_drewN ?_ _ | refine blk_drew ?_ | refine blk_alloc ?_ _)); refine blk_put (cs := #[.slice none 0 0]) ?_ 0 _ rfl; (with_reducible repeat (first | refine blk_drewN ?_ _ | refine blk_drew ?_ | refine blk_alloc ?_ _)); exact BK125.out) Tryd.underlying26 rfl (by kernel_rfl)) rfl ?_
                exact ⟨_, by first | rfl | (simp [errW_none, errW_some] <;> rfl) | (simp [*, errW_none, errW_some] <;> rfl), by (with_reducible repeat (first | apply Kd.R_alloc | apply Kd.R_drewN | apply Kd.R_drew)); exact Kd.R_mono (Kd.R_far (p := ⟨gb125, 0, none⟩) (Kd.R_types HO_131000.out BK125.out (by decide)) (fun _ hk => hk.2) (.slice Ao42 x131000_2.length co42)) (fun _ hk => trivial), by repeat (first | (with_reducible first | exact HB.out | apply below_alloc | apply pw_below_drewN | apply below_drew1 | refine below_set ?_ GE125.out | refine below_set ?_ GE130.out) | exact HB.out)⟩
        · rw [if_neg c8] at H
          exact absurd H (by simp)

end Go.Proofs.YtchoncnahlcfjaaDoor.XFnExactSketchOf
