-- A text of this session: written by its own program (wip/x/xprint.py), which runs the kit's printer with contracts of its own.
import Derived.Test.YtnpdmleglcbobaaXFnExactRecordBytesx0
namespace Go.Proofs.Ytnpdmleglcbobaa.XFnExactRecordBytes
open Go.RowKit Go.Proofs.YtnpdmleglcbobaaW.PrintWords Go.Proofs.YtnpdmleglcbobaaW.PrintLast Go.Proofs.YtnpdmleglcbobaaW.PrintMore
attribute [local go_sem] max2_int min2_int max_two min_two max_three min_three max_four min_four   -- for this text's walks alone
set_option linter.unusedVariables false
set_option linter.unusedSimpArgs false

/-! ### laws_markText: function 60 -/
def laws_markText.l0 : Nat → Int → ByteArray → Option (ByteArray)
  | 0, _, _ => none
  | k + 1, x0, x3 => if x0 > 0 then ((some (([(wrap64 (48 + (Int.tmod x0 10))) % 256] : List Int) : List Int)).bind fun y412 => (if (strOfNums y412).size + x3.size ≤ 9223372036854775807 then (laws_markText.l0 k (wrap64 (Int.tdiv x0 10)) ((strOfNums y412) ++ x3)) else (none))) else (if 1 + x3.size ≤ 9223372036854775807 then (some ((⟨#[109]⟩ : ByteArray) ++ x3)) else (none))
def laws_markText.f (k : Nat) (a0 : Int) : Option (ByteArray) := if a0 ≤ 0 then (some (⟨#[109, 48]⟩ : ByteArray)) else (laws_markText.l0 k a0 (⟨#[]⟩ : ByteArray))
theorem laws_markText.mono_l : ∀ k, (∀ y0 y1, LeO (laws_markText.l0 k y0 y1) (laws_markText.l0 (k + 1) y0 y1))
  | 0 => fun _ _ r h => by simp [laws_markText.l0] at h
  | k + 1 => by
    have ih0 := laws_markText.mono_l k
    · intro y0 y1
      unfold laws_markText.l0
      repeat' first
      | (with_reducible exact ih0 _ _)
      | (with_reducible exact LeO.refl _)
      | (with_reducible exact LeO.none _)
      | (with_reducible refine LeO.ite ?_ ?_)
      | (with_reducible refine LeO.bind ?_ (fun _ => ?_))
      | exact ih0 _ _
      | exact LeO.none _
      | refine LeO.ite ?_ ?_
      | refine LeO.bind ?_ (fun _ => ?_)
theorem laws_markText.mono : ∀ a0 k, LeO (laws_markText.f k a0) (laws_markText.f (k + 1) a0) := by
  intro a0 k
  have ih0 := laws_markText.mono_l k
  unfold laws_markText.f
  repeat' first
      | (with_reducible exact ih0 _ _)
      | (with_reducible exact LeO.refl _)
      | (with_reducible exact LeO.none _)
      | (with_reducible refine LeO.ite ?_ ?_)
      | (with_reducible refine LeO.bind ?_ (fun _ => ?_))
      | exact ih0 _ _
      | exact LeO.none _
      | refine LeO.ite ?_ ?_
      | refine LeO.bind ?_ (fun _ => ?_)
set_option maxHeartbeats 8000000 in
set_option maxRecDepth 100000 in
theorem laws_markText.calls (k : Nat) (a0 : Int) (r : ByteArray) (w : World) (h : laws_markText.f k a0 = some r) :
    Calls Try.prog 60 #[.int .i64 a0] w fun e w' => e = .returned (.string r) ∧ Below w.heap.size w w' := by
  have HB := Aside0.mk (Below.refl w.heap.size w)
  have H : (if a0 ≤ 0 then (some (⟨#[109, 48]⟩ : ByteArray)) else (laws_markText.l0 k a0 (⟨#[]⟩ : ByteArray))) = some r := h
  clear h
  by_cases c2 : a0 ≤ 0
  · rw [if_pos c2] at H
    have c2b0 : decide (a0 ≤ 0) = true := decide_eq_true c2
    clear c2
    obtain rfl := Option.some.inj H
    go_enter Try.func60, Try.ntmps60
    go_wp2
    go_ret
    exact ⟨zre, zh HB⟩
  · rw [if_neg c2] at H
    have c2b0 : decide (a0 ≤ 0) = false := decide_eq_false c2
    clear c2
    have H' := Aside0.mk H
    clear H
    go_enter Try.func60, Try.ntmps60
    go_wp2
    go_loopg [0, 3] k (fun kq v0 v3 w' => ∃ (x0_1 : Int) (x3_1 : ByteArray), v0 = .int .i64 x0_1 ∧ v3 = .string x3_1 ∧ Aside0 (laws_markText.l0 kq x0_1 x3_1 = some r) ∧ Aside0 (kq ≤ k) ∧ Aside0 (Below w.heap.size w w'))
    case atStart => exact ⟨(a0), ((⟨#[]⟩ : ByteArray)), (by first | rfl | (simp; done) | (simp [*]; done)), (by first | rfl | (simp; done) | (simp [*]; done)), H', ⟨Nat.le_refl _⟩, ⟨zh HB⟩⟩
    case round =>
      clear H'
      try clear c2
      try clear c2b0
      try clear p2
      obtain ⟨x0_1, x3_1, rfl, rfl, HA, HK1, HB⟩ := hrel
      cases gk with
      | zero => exact absurd HA.out (by simp [laws_markText.l0])
      | succ k1 =>
        have H := HA.out
        clear HA
        simp only [laws_markText.l0] at H
        by_cases c3 : x0_1 > 0
        · rw [if_pos c3] at H
          have c3b0 : decide (0 < x0_1) = true := decide_eq_true c3
          clear c3
          obtain ⟨y412, hy412⟩ : ∃ y_ : List Int, y_ = (([(wrap64 (48 + (Int.tmod x0_1 10))) % 256] : List Int)) := ⟨_, rfl⟩
          replace H : (if (strOfNums y412).size + x3_1.size ≤ 9223372036854775807 then (laws_markText.l0 k1 (wrap64 (Int.tdiv x0_1 10)) ((strOfNums y412) ++ x3_1)) else (none)) = some r := by first | (rw [hy412]; with_reducible exact H) | (have H2_ := (Option.bind_some _ _).symm.trans H; rw [hy412]; with_reducible exact H2_) | (have H2_ := (Option.bind_some _ _).symm.trans H; with_reducible exact H2_) | with_reducible exact H | (rw [hy412]; exact H) | exact H
          have Ny412 := Aside0.mk hy412
          clear hy412
          by_cases c4 : (strOfNums y412).size + x3_1.size ≤ 9223372036854775807
          · rw [if_pos c4] at H
            have c4b0 := eq_true c4
            have c4b1 : decide ((strOfNums y412).size + x3_1.size ≤ 9223372036854775807) = true := decide_eq_true c4
            try have c4b2 : (9223372036854775807 < (strOfNums y412).size + x3_1.size) = False := eq_false (Nat.not_lt.2 c4)
            have H' := Aside0.mk H
            clear H
            go_wp2_with (first | ((with_reducible refine gate_dst (N := 12) rfl ?_); refine Kd.R_lit (Kd.int .u8) _ 5 ?hg (N := 12) ?hd (xs := ([(wrap64 (48 + (Int.tmod x0_1 10))) % 256] : List Int)) (inner := [.int .u8 ((wrap64 (48 + (Int.tmod x0_1 10))) % 256)]) (ok := fun _ => True) (okp := fun _ => True) ?hr ?hp (fun _ hk => hk) trivial (Below.refl _ _) (Nat.le_refl _) (by simp) ?_; (case hd => rfl); (case hg => rfl); (case hr => first | (go_simp; done) | (go_simp; rfl)); (case hp => exact (Reps.one (show Kd.M (Kd.int .u8) _ _ _ ((wrap64 (48 + (Int.tmod x0_1 10))) % 256) [.int .u8 ((wrap64 (48 + (Int.tmod x0_1 10))) % 256)] from rfl) (Reps.none _ _))); intro v413 w5 ho6 hb hg_ hnew_; clear hg_ hnew_; (first | rw [← Ny412.out] at ho6 | (simp only [Int.reduceToNat] at ho6; rw [← Ny412.out] at ho6)); have n0_ := Aside0.mk (Kd.R_lower ho6 (below_size (zh HB))); have n1_ := Aside0.mk (below_step (zh HB) hb); clear HB; have HO414 := n0_; have HB := n1_; clear n0_ n1_; clear hb ho6; have hcv7 := own_string (P := Try.prog) Try.underlying26 Try.underlying5 Try.underlying9 (Kd.own_of_R HO414.out)))
            go_roundg k1
            case measure => have := HK1.out; omega
            case rel => exact ⟨(wrap64 (Int.tdiv x0_1 10)), ((strOfNums y412) ++ x3_1), (by first | rfl | (simp; done) | (simp [*]; done)), (by first | rfl | (simp; done) | (simp [*]; done)), H', ⟨by have := HK1.out; omega⟩, ⟨zh HB⟩⟩
          · rw [if_neg c4] at H
            exact absurd H (by simp)
        · rw [if_neg c3] at H
          have c3b0 : decide (0 < x0_1) = false := decide_eq_false c3
          clear c3
          by_cases c8 : 1 + x3_1.size ≤ 9223372036854775807
          · rw [if_pos c8] at H
            have c8b0 := eq_true c8
            have c8b1 : decide (1 + x3_1.size ≤ 9223372036854775807) = true := decide_eq_true c8
            try have c8b2 : (9223372036854775807 < 1 + x3_1.size) = False := eq_false (Nat.not_lt.2 c8)
            obtain rfl := Option.some.inj H
            go_wp2
            go_ret
            exact ⟨zre, zh HB⟩
          · rw [if_neg c8] at H
            exact absurd H (by simp)

/-! ### laws_markStringS: function 67 -/
def laws_markStringS.l0 : Nat → List ByteArray → Int → Int → Option (Int × List ByteArray)
  | 0, _, _, _ => none
  | k + 1, x0, x1, x5 => if x5 < (x0.length : Int) then ((laws_markText.f k x1).bind fun t415 => (if 0 ≤ x5 then (laws_markStringS.l0 k (x0.set (x5 : Int).toNat t415) (wrap64 (x1 + 1)) (wrap64 (x5 + 1))) else (none))) else (some (x1, x0))
def laws_markStringS.f (k : Nat) (l0 : List ByteArray) (a1 : Int) : Option (Int × List ByteArray) := laws_markStringS.l0 k l0 a1 0
theorem laws_markStringS.mono_l : ∀ k, (∀ y0 y1 y2, LeO (laws_markStringS.l0 k y0 y1 y2) (laws_markStringS.l0 (k + 1) y0 y1 y2))
  | 0 => fun _ _ _ r h => by simp [laws_markStringS.l0] at h
  | k + 1 => by
    have ih0 := laws_markStringS.mono_l k
    · intro y0 y1 y2
      unfold laws_markStringS.l0
      repeat' first
      | (with_reducible exact ih0 _ _ _)
      | (with_reducible exact laws_markText.mono _ _)
      | (with_reducible exact LeO.refl _)
      | (with_reducible exact LeO.none _)
      | (with_reducible refine LeO.ite ?_ ?_)
      | (with_reducible refine LeO.bind ?_ (fun _ => ?_))
      | exact ih0 _ _ _
      | exact laws_markText.mono _ _
      | exact LeO.none _
      | refine LeO.ite ?_ ?_
      | refine LeO.bind ?_ (fun _ => ?_)
theorem laws_markStringS.mono : ∀ a0 a1 k, LeO (laws_markStringS.f k a0 a1) (laws_markStringS.f (k + 1) a0 a1) := by
  intro a0 a1 k
  have ih0 := laws_markStringS.mono_l k
  unfold laws_markStringS.f
  repeat' first
      | (with_reducible exact ih0 _ _ _)
      | (with_reducible exact laws_markText.mono _ _)
      | (with_reducible exact LeO.refl _)
      | (with_reducible exact LeO.none _)
      | (with_reducible refine LeO.ite ?_ ?_)
      | (with_reducible refine LeO.bind ?_ (fun _ => ?_))
      | exact ih0 _ _ _
      | exact laws_markText.mono _ _
      | exact LeO.none _
      | refine LeO.ite ?_ ?_
      | refine LeO.bind ?_ (fun _ => ?_)
set_option maxHeartbeats 8000000 in
set_option maxRecDepth 100000 in
theorem laws_markStringS.calls (k : Nat) (P0_ : Nat → Prop) (u9000_ : Value) (l0 : List ByteArray) (a1 : Int) (r1 : Int) (r2 : List ByteArray) (w0 w : World) (hB : Below w0.heap.size w0 w) (ho0 : Kd.R Kd.string 9 w w0.heap.size P0_ u9000_ l0) (h : laws_markStringS.f k l0 a1 = some (r1, r2)) :
    Calls Try.prog 67 #[u9000_, .int .i64 a1] w fun e w' => e = .returned (.int .i64 r1) ∧ Kd.R Kd.string 9 w' w0.heap.size (fun k_ => (P0_ k_ ∨ w.heap.size ≤ k_)) u9000_ r2 ∧ Below w0.heap.size w0 w' ∧ Kept w w' (fun k_ => P0_ k_) := by
  have HO0 := Aside0.mk (show Kd.R Kd.string 9 w w0.heap.size (fun k_ => (P0_ k_ ∨ w.heap.size ≤ k_)) u9000_ l0 from Kd.R_mono ho0 (fun k_ hk => (.inl hk)))
  have HK := Aside0.mk (Kept.refl w (fun k_ => P0_ k_))
  have HW0 := Aside0.mk hB.size
  have HB := Aside0.mk hB
  clear hB
  have H : (laws_markStringS.l0 k l0 a1 0) = some (r1, r2) := h
  clear h
  have H' := Aside0.mk H
  clear H
  go_enter Try.func67, Try.ntmps67
  go_wp2
  go_loopg [1, 5] k (fun kq v1 v5 w' => ∃ (x0_1 : List ByteArray) (x1_1 : Int) (x5_1 : Int), v1 = .int .i64 x1_1 ∧ v5 = .int .i64 x5_1 ∧ Aside0 (laws_markStringS.l0 kq x0_1 x1_1 x5_1 = some (r1, r2)) ∧ Aside0 (kq ≤ k) ∧ Aside0 (Kd.R Kd.string 9 w' w0.heap.size (fun k_ => (P0_ k_ ∨ w.heap.size ≤ k_)) u9000_ x0_1) ∧ Aside0 (Kept w w' (fun k_ => P0_ k_)) ∧ Aside0 (Below w0.heap.size w0 w'))
  case atStart => exact ⟨(l0), (a1), (0), (by first | rfl | (simp; done) | (simp [*]; done)), (by first | rfl | (simp; done) | (simp [*]; done)), H', ⟨Nat.le_refl _⟩, ⟨zr HO0⟩, ⟨by repeat (first | (with_reducible first | exact HK.out | apply Kept.alloc | apply Kept.drewN | apply Kept.drew) | exact HK.out)⟩, ⟨zh HB⟩⟩
  case round =>
    clear H'
    try clear p2
    obtain ⟨x0_1, x1_1, x5_1, rfl, rfl, HA, HK1, HO_0, HK, HB⟩ := hrel
    cases gk with
    | zero => exact absurd HA.out (by simp [laws_markStringS.l0])
    | succ k1 =>
      have H := HA.out
      clear HA
      simp only [laws_markStringS.l0] at H
      by_cases c3 : x5_1 < (x0_1.length : Int)
      · rw [if_pos c3] at H
        have c3b0 : decide (x5_1 < (x0_1.length : Int)) = true := decide_eq_true c3
        clear c3
        replace H := Option.bind_eq_some_iff.mp H
        obtain ⟨t415, A40, H⟩ := H
        replace H : (if 0 ≤ x5_1 then (laws_markStringS.l0 k1 (x0_1.set (x5_1 : Int).toNat t415) (wrap64 (x1_1 + 1)) (wrap64 (x5_1 + 1))) else (none)) = some (r1, r2) := H
        have A4 := Aside0.mk A40
        clear A40
        by_cases c5 : 0 ≤ x5_1
        · rw [if_pos c5] at H
          have c5b0 : decide (0 ≤ x5_1) = true := decide_eq_true c5
          clear c5
          obtain ⟨y416, hy416⟩ : ∃ y_ : List ByteArray, y_ = (x0_1.set (x5_1 : Int).toNat t415) := ⟨_, rfl⟩
          replace H : (laws_markStringS.l0 k1 y416 (wrap64 (x1_1 + 1)) (wrap64 (x5_1 + 1))) = some (r1, r2) := by first | (rw [hy416]; with_reducible exact H) | (have H2_ := (Option.bind_some _ _).symm.trans H; rw [hy416]; with_reducible exact H2_) | (have H2_ := (Option.bind_some _ _).symm.trans H; with_reducible exact H2_) | with_reducible exact H | (rw [hy416]; exact H) | exact H
          have Ny416 := Aside0.mk hy416
          clear hy416
          have H' := Aside0.mk H
          clear H
          obtain ⟨Ao7, co7, eo7⟩ := Kd.R_slice HO_0.out
          subst eo7
          go_wp2_with (first | ((with_reducible refine gate_callee (f := 60) rfl ?_); refine goesL_ (some 15) rfl rfl Try.func60 (by kernel_rfl) rfl #[.int .i64 x1_1] rfl zar ?_; (with_reducible refine (laws_markText.calls k1 x1_1 t415 _ A4.out).mono ?_); rintro e w8 ⟨rfl, hb⟩; refine ⟨_, rfl, ?_⟩; have n0_ := Aside0.mk (Kd.R_below (zr HO_0) hb); have n1_ := Aside0.mk (Kept.below (S := (fun k_ => P0_ k_)) (by repeat (first | (with_reducible first | exact HK.out | apply Kept.alloc | apply Kept.drewN | apply Kept.drew) | exact HK.out)) hb); have n2_ := Aside0.mk (below_step (zh HB) hb); clear HO_0; clear HK; clear HB; have HO_0 := n0_; have HK := n1_; have HB := n2_; clear n0_ n1_ n2_; (try clear hb); (try clear hb2); (try clear hk); (try clear hi); have p6 : 0 ≤ (x5_1 : Int) := of_decide_eq_true zas; have q6 : (x5_1 : Int) < ((x0_1.length : Int) : Int) := of_decide_eq_true zas; obtain ⟨go6, co6, eo6, gb6, gl6, cl6, HG6⟩ := Kd.R_form HO_0.out (by omega); (first | cases eo6 | (injection eo6 with ea_ en_ ec_; (first | subst ea_ | (injection ea_ with ea_; subst ea_)); subst ec_; clear en_)); have GB6 := Aside0.mk gb6; have GG6 := Aside0.mk HG6; clear gb6 gl6 HG6; have HMgo6 := Aside0.mk (show (P0_ go6 ∨ w.heap.size ≤ go6) from (HO_0.out.1 _ rfl)); obtain ⟨hx6_0, hf6_0⟩ := Kd.R_celln (⟨#[]⟩ : ByteArray) HO_0.out (x5_1 : Int) p6 q6; replace p6 := eq_true p6; replace q6 := eq_true q6; obtain ⟨hy9_, hz9_⟩ := Kd.R_celln (⟨#[]⟩ : ByteArray) HO_0.out (x5_1 : Int) (of_decide_eq_true zas) (of_decide_eq_true zas); have HP9 := Kd.R_putg HO_0.out (x5_1 : Int) t415) | ((with_reducible refine gate_store (t := 9) (p := 16) rfl ?_); refine store_event (t := 9) (p := 16) (v := ?vo_w10) (w1 := (w8.setCell ⟨go6, (x5_1 : Int).toNat, none⟩ (.string t415))) ?hg ?ho ?hn ?hr ?_; (case ho => rfl); (case hg => rfl); (case hn => rfl); (case hr => first | (go_simp; done) | (go_simp; rfl)); intro w10 hw; have hg : w8.grownBy w10 (some go6) := (by rw [hw]; exact HP9.2); have hp_ : Kd.R Kd.string 9 w10 w0.heap.size (fun k_ => (P0_ k_ ∨ w.heap.size ≤ k_)) (.slice (some ⟨go6, 0, none⟩) x0_1.length co7) y416 := (by rw [hw, Ny416.out]; exact HP9.1); clear HP9; have n0_ := Aside0.mk (hp_); have n1_ := Aside0.mk ((by rw [hw]; exact below_set (HB.out) GB6.out : Below w0.heap.size w0 w10)); have n2_ := Aside0.mk (Kept.of_grown (S := (fun k_ => P0_ k_)) hg (by repeat (first | (with_reducible first | exact HK.out | apply Kept.alloc | apply Kept.drewN | apply Kept.drew) | exact HK.out)) (fun k_ e_ => (HO_0.out.1 k_ e_))); clear HO_0; clear HB; clear HK; have HO_0 := n0_; have HB := n1_; have HK := n2_; clear n0_ n1_ n2_; clear hg hw hp_))
          go_roundg k1
          case measure => have := HK1.out; omega
          case rel => exact ⟨(y416), (wrap64 (x1_1 + 1)), (wrap64 (x5_1 + 1)), (by first | rfl | (simp; done) | (simp [*]; done)), (by first | rfl | (simp; done) | (simp [*]; done)), H', ⟨by have := HK1.out; omega⟩, ⟨zr HO_0⟩, ⟨by repeat (first | (with_reducible first | exact HK.out | apply Kept.alloc | apply Kept.drewN | apply Kept.drew) | exact HK.out)⟩, ⟨zh HB⟩⟩
        · rw [if_neg c5] at H
          exact absurd H (by simp)
      · rw [if_neg c3] at H
        have c3b0 : decide (x5_1 < (x0_1.length : Int)) = false := decide_eq_false c3
        clear c3
        simp only [Option.some.injEq, Prod.mk.injEq] at H
        obtain ⟨rfl, rfl⟩ := H
        obtain ⟨Ao11, co11, eo11⟩ := Kd.R_slice HO_0.out
        subst eo11
        go_wp2
        go_ret
        exact ⟨zre, by (with_reducible repeat (first | apply Kd.R_alloc | apply Kd.R_drewN | apply Kd.R_drew)); exact HO_0.out, zh HB, by repeat (first | (with_reducible first | exact HK.out | apply Kept.alloc | apply Kept.drewN | apply Kept.drew) | exact HK.out)⟩

/-! ### laws_markIntS: function 68 -/
def laws_markIntS.l0 : Nat → List Int → Int → Int → Option (Int × List Int)
  | 0, _, _, _ => none
  | k + 1, x0, x1, x5 => if x5 < (x0.length : Int) then (if 0 ≤ x5 then (laws_markIntS.l0 k (x0.set (x5 : Int).toNat x1) (wrap64 (x1 + 1)) (wrap64 (x5 + 1))) else (none)) else (some (x1, x0))
def laws_markIntS.f (k : Nat) (l0 : List Int) (a1 : Int) : Option (Int × List Int) := laws_markIntS.l0 k l0 a1 0
theorem laws_markIntS.mono_l : ∀ k, (∀ y0 y1 y2, LeO (laws_markIntS.l0 k y0 y1 y2) (laws_markIntS.l0 (k + 1) y0 y1 y2))
  | 0 => fun _ _ _ r h => by simp [laws_markIntS.l0] at h
  | k + 1 => by
    have ih0 := laws_markIntS.mono_l k
    · intro y0 y1 y2
      unfold laws_markIntS.l0
      repeat' first
      | (with_reducible exact ih0 _ _ _)
      | (with_reducible exact LeO.refl _)
      | (with_reducible exact LeO.none _)
      | (with_reducible refine LeO.ite ?_ ?_)
      | (with_reducible refine LeO.bind ?_ (fun _ => ?_))
      | exact ih0 _ _ _
      | exact LeO.none _
      | refine LeO.ite ?_ ?_
      | refine LeO.bind ?_ (fun _ => ?_)
theorem laws_markIntS.mono : ∀ a0 a1 k, LeO (laws_markIntS.f k a0 a1) (laws_markIntS.f (k + 1) a0 a1) := by
  intro a0 a1 k
  have ih0 := laws_markIntS.mono_l k
  unfold laws_markIntS.f
  repeat' first
      | (with_reducible exact ih0 _ _ _)
      | (with_reducible exact LeO.refl _)
      | (with_reducible exact LeO.none _)
      | (with_reducible refine LeO.ite ?_ ?_)
      | (with_reducible refine LeO.bind ?_ (fun _ => ?_))
      | exact ih0 _ _ _
      | exact LeO.none _
      | refine LeO.ite ?_ ?_
      | refine LeO.bind ?_ (fun _ => ?_)
set_option maxHeartbeats 8000000 in
set_option maxRecDepth 100000 in
theorem laws_markIntS.calls (k : Nat) (P0_ : Nat → Prop) (u9000_ : Value) (l0 : List Int) (a1 : Int) (r1 : Int) (r2 : List Int) (w0 w : World) (hB : Below w0.heap.size w0 w) (ho0 : Kd.R (Kd.int .i64) 3 w w0.heap.size P0_ u9000_ l0) (h : laws_markIntS.f k l0 a1 = some (r1, r2)) :
    Calls Try.prog 68 #[u9000_, .int .i64 a1] w fun e w' => e = .returned (.int .i64 r1) ∧ Kd.R (Kd.int .i64) 3 w' w0.heap.size (fun k_ => (P0_ k_ ∨ w.heap.size ≤ k_)) u9000_ r2 ∧ Below w0.heap.size w0 w' ∧ Kept w w' (fun k_ => P0_ k_) := by
  have HO0 := Aside0.mk (show Kd.R (Kd.int .i64) 3 w w0.heap.size (fun k_ => (P0_ k_ ∨ w.heap.size ≤ k_)) u9000_ l0 from Kd.R_mono ho0 (fun k_ hk => (.inl hk)))
  have HK := Aside0.mk (Kept.refl w (fun k_ => P0_ k_))
  have HW0 := Aside0.mk hB.size
  have HB := Aside0.mk hB
  clear hB
  have H : (laws_markIntS.l0 k l0 a1 0) = some (r1, r2) := h
  clear h
  have H' := Aside0.mk H
  clear H
  go_enter Try.func68, Try.ntmps68
  go_wp2
  go_loopg [1, 5] k (fun kq v1 v5 w' => ∃ (x0_1 : List Int) (x1_1 : Int) (x5_1 : Int), v1 = .int .i64 x1_1 ∧ v5 = .int .i64 x5_1 ∧ Aside0 (laws_markIntS.l0 kq x0_1 x1_1 x5_1 = some (r1, r2)) ∧ Aside0 (kq ≤ k) ∧ Aside0 (Kd.R (Kd.int .i64) 3 w' w0.heap.size (fun k_ => (P0_ k_ ∨ w.heap.size ≤ k_)) u9000_ x0_1) ∧ Aside0 (Kept w w' (fun k_ => P0_ k_)) ∧ Aside0 (Below w0.heap.size w0 w'))
  case atStart => exact ⟨(l0), (a1), (0), (by first | rfl | (simp; done) | (simp [*]; done)), (by first | rfl | (simp; done) | (simp [*]; done)), H', ⟨Nat.le_refl _⟩, ⟨zr HO0⟩, ⟨by repeat (first | (with_reducible first | exact HK.out | apply Kept.alloc | apply Kept.drewN | apply Kept.drew) | exact HK.out)⟩, ⟨zh HB⟩⟩
  case round =>
    clear H'
    try clear p2
    obtain ⟨x0_1, x1_1, x5_1, rfl, rfl, HA, HK1, HO_0, HK, HB⟩ := hrel
    cases gk with
    | zero => exact absurd HA.out (by simp [laws_markIntS.l0])
    | succ k1 =>
      have H := HA.out
      clear HA
      simp only [laws_markIntS.l0] at H
      by_cases c3 : x5_1 < (x0_1.length : Int)
      · rw [if_pos c3] at H
        have c3b0 : decide (x5_1 < (x0_1.length : Int)) = true := decide_eq_true c3
        clear c3
        by_cases c4 : 0 ≤ x5_1
        · rw [if_pos c4] at H
          have c4b0 : decide (0 ≤ x5_1) = true := decide_eq_true c4
          clear c4
          obtain ⟨y417, hy417⟩ : ∃ y_ : List Int, y_ = (x0_1.set (x5_1 : Int).toNat x1_1) := ⟨_, rfl⟩
          replace H : (laws_markIntS.l0 k1 y417 (wrap64 (x1_1 + 1)) (wrap64 (x5_1 + 1))) = some (r1, r2) := by first | (rw [hy417]; with_reducible exact H) | (have H2_ := (Option.bind_some _ _).symm.trans H; rw [hy417]; with_reducible exact H2_) | (have H2_ := (Option.bind_some _ _).symm.trans H; with_reducible exact H2_) | with_reducible exact H | (rw [hy417]; exact H) | exact H
          have Ny417 := Aside0.mk hy417
          clear hy417
          have H' := Aside0.mk H
          clear H
          obtain ⟨Ao6, co6, eo6⟩ := Kd.R_slice HO_0.out
          subst eo6
          have p5 : 0 ≤ (x5_1 : Int) := of_decide_eq_true zas
          have q5 : (x5_1 : Int) < ((x0_1.length : Int) : Int) := of_decide_eq_true zas
          obtain ⟨go5, co5, eo5, gb5, gl5, cl5, HG5⟩ := Kd.R_form HO_0.out (by omega)
          (first | cases eo5 | (injection eo5 with ea_ en_ ec_; (first | subst ea_ | (injection ea_ with ea_; subst ea_)); subst ec_; clear en_))
          have GB5 := Aside0.mk gb5
          have GG5 := Aside0.mk HG5
          clear gb5 gl5 HG5
          have HMgo5 := Aside0.mk (show (P0_ go5 ∨ w.heap.size ≤ go5) from (HO_0.out.1 _ rfl))
          obtain ⟨hx5_0, hf5_0⟩ := Kd.R_celln 0 HO_0.out (x5_1 : Int) p5 q5
          replace p5 := eq_true p5
          replace q5 := eq_true q5
          have HP7 := Kd.R_putg HO_0.out (x5_1 : Int) x1_1
          go_wp2_with (first | ((with_reducible refine gate_store (t := 3) (p := 15) rfl ?_); refine store_event (t := 3) (p := 15) (v := ?vo_w8) (w1 := (wr.setCell ⟨go5, (x5_1 : Int).toNat, none⟩ (.int .i64 x1_1))) ?hg ?ho ?hn ?hr ?_; (case ho => rfl); (case hg => rfl); (case hn => rfl); (case hr => first | (go_simp; done) | (go_simp; rfl)); intro w8 hw; have hg : wr.grownBy w8 (some go5) := (by rw [hw]; exact HP7.2); have hp_ : Kd.R (Kd.int .i64) 3 w8 w0.heap.size (fun k_ => (P0_ k_ ∨ w.heap.size ≤ k_)) (.slice (some ⟨go5, 0, none⟩) x0_1.length co6) y417 := (by rw [hw, Ny417.out]; exact HP7.1); clear HP7; have n0_ := Aside0.mk (hp_); have n1_ := Aside0.mk ((by rw [hw]; exact below_set (HB.out) GB5.out : Below w0.heap.size w0 w8)); have n2_ := Aside0.mk (Kept.of_grown (S := (fun k_ => P0_ k_)) hg (by repeat (first | (with_reducible first | exact HK.out | apply Kept.alloc | apply Kept.drewN | apply Kept.drew) | exact HK.out)) (fun k_ e_ => (HO_0.out.1 k_ e_))); clear HO_0; clear HB; clear HK; have HO_0 := n0_; have HB := n1_; have HK := n2_; clear n0_ n1_ n2_; clear hg hw hp_))
          go_roundg k1
          case measure => have := HK1.out; omega
          case rel => exact ⟨(y417), (wrap64 (x1_1 + 1)), (wrap64 (x5_1 + 1)), (by first | rfl | (simp; done) | (simp [*]; done)), (by first | rfl | (simp; done) | (simp [*]; done)), H', ⟨by have := HK1.out; omega⟩, ⟨zr HO_0⟩, ⟨by repeat (first | (with_reducible first | exact HK.out | apply Kept.alloc | apply Kept.drewN | apply Kept.drew) | exact HK.out)⟩, ⟨zh HB⟩⟩
        · rw [if_neg c4] at H
          exact absurd H (by simp)
      · rw [if_neg c3] at H
        have c3b0 : decide (x5_1 < (x0_1.length : Int)) = false := decide_eq_false c3
        clear c3
        simp only [Option.some.injEq, Prod.mk.injEq] at H
        obtain ⟨rfl, rfl⟩ := H
        obtain ⟨Ao9, co9, eo9⟩ := Kd.R_slice HO_0.out
        subst eo9
        go_wp2
        go_ret
        exact ⟨zre, by (with_reducible repeat (first | apply Kd.R_alloc | apply Kd.R_drewN | apply Kd.R_drew)); exact HO_0.out, zh HB, by repeat (first | (with_reducible first | exact HK.out | apply Kept.alloc | apply Kept.drewN | apply Kept.drew) | exact HK.out)⟩

/-! ### laws_markValueS: function 42 -/
def laws_markValueS.l0 : Nat → List S66 → Int → Int → Option (Int × List S66)
  | 0, _, _, _ => none
  | k + 1, x0, x1, x5 => if x5 < (x0.length : Int) then ((laws_markText.f k x1).bind fun t => (if 0 ≤ x5 then ((laws_markStringS.f k (rd_T66 x0 x5).f1 (wrap64 (x1 + 1))).bind fun b1 => ((laws_markIntS.f k (rd_T66 x0 x5).f2 b1.1).bind fun b2 => (laws_markValueS.l0 k (x0.set (x5 : Int).toNat ⟨t, b1.2, b2.2⟩) b2.1 (wrap64 (x5 + 1))))) else (none))) else (some (x1, x0))
def laws_markValueS.f (k : Nat) (l0 : List S66) (a1 : Int) : Option (Int × List S66) := laws_markValueS.l0 k l0 a1 0
theorem laws_markValueS.mono_l : ∀ k, (∀ y0 y1 y2, LeO (laws_markValueS.l0 k y0 y1 y2) (laws_markValueS.l0 (k + 1) y0 y1 y2))
  | 0 => fun _ _ _ r h => by simp [laws_markValueS.l0] at h
  | k + 1 => by
    have ih0 := laws_markValueS.mono_l k
    intro y0 y1 y2
    unfold laws_markValueS.l0
    repeat' first
      | (with_reducible exact ih0 _ _ _)
      | (with_reducible exact laws_markText.mono _ _)
      | (with_reducible exact laws_markStringS.mono _ _ _)
      | (with_reducible exact laws_markIntS.mono _ _ _)
      | (with_reducible exact LeO.refl _)
      | (with_reducible exact LeO.none _)
      | (with_reducible refine LeO.ite ?_ ?_)
      | (with_reducible refine LeO.bind ?_ (fun _ => ?_))
      | exact ih0 _ _ _
      | exact laws_markText.mono _ _
      | exact laws_markStringS.mono _ _ _
      | exact laws_markIntS.mono _ _ _
      | exact LeO.none _
      | refine LeO.ite ?_ ?_
      | refine LeO.bind ?_ (fun _ => ?_)
theorem laws_markValueS.mono : ∀ a0 a1 k, LeO (laws_markValueS.f k a0 a1) (laws_markValueS.f (k + 1) a0 a1) := by
  intro a0 a1 k
  unfold laws_markValueS.f
  exact laws_markValueS.mono_l k _ _ _
section
variable {α : Type} {d : Kd α} {e base b e' : Nat} {W W2 : World} {ok okp : Nat → Prop} {v : Value} {xs : List α} {E' : List Nat}
/-- Rows of other types stay, where the blocks of some types alone were written. -/
theorem Kd.R_keptT (h : d.R e W base ok v xs) (hk : Kept W W2 (fun k => okp k ∧ b ≤ k ∧ k < W.heap.size ∧ ∃ q, q ∈ e' :: E' ∧ ∃ cells, W.heap[k]? = some (.cells cells q (0, 0)))) (ht : ∀ q, q ∈ e :: d.E → q ∉ e' :: E') : d.R e W2 base ok v xs := by
  refine Kd.R_mono (Kd.R_kept (Kd.R_bound h) hk (fun k h1 h2 => ?_)) (fun _ h => h.1)
  obtain ⟨_, _, _, q, hq, c, hc⟩ := h1
  obtain ⟨_, _, _, q', hq', c', hc'⟩ := h2
  rw [hc] at hc'
  injection hc' with hc'
  injection hc' with _ hc'
  subst hc'
  exact ht q hq hq'
theorem Kd.S_keptT (h : d.S e W base ok v xs) (hk : Kept W W2 (fun k => okp k ∧ b ≤ k ∧ k < W.heap.size ∧ ∃ q, q ∈ e' :: E' ∧ ∃ cells, W.heap[k]? = some (.cells cells q (0, 0)))) (ht : ∀ q, q ∈ e :: d.E → q ∉ e' :: E') : d.S e W2 base ok v xs := by
  obtain ⟨f, h⟩ := h
  exact ⟨f, Kd.R_keptT h hk ht⟩
theorem blk_keptT {g t : Nat} {cs : Array Value} (h : W.heap[g]? = some (.cells cs t (0, 0))) (hk : Kept W W2 (fun k => okp k ∧ b ≤ k ∧ k < W.heap.size ∧ ∃ q, q ∈ e' :: E' ∧ ∃ cells, W.heap[k]? = some (.cells cells q (0, 0)))) (ht : t ∉ e' :: E') : W2.heap[g]? = some (.cells cs t (0, 0)) := by
  refine blk_kept h hk (fun h2 => ?_)
  obtain ⟨_, _, _, q', hq', c', hc'⟩ := h2
  rw [h] at hc'
  injection hc' with hc'
  injection hc' with _ hc'
  subst hc'
  exact ht hq'
end
section
variable {W : World} {base g n cap : Nat} {P : Nat → Prop} {xs : List S66}
theorem laws_markValueS.len (h : Kd.S k66 66 W base P (.slice (some ⟨g, 0, none⟩) n cap) xs) : n = xs.length := (Kd.R_reads' (Kd.S_R h)).1
/-- An element's text stored. -/
theorem laws_markValueS.f0 (h : Kd.S k66 66 W base P (.slice (some ⟨g, 0, none⟩) n cap) xs) (i : Int) (h0 : 0 ≤ i) (h1 : i < n) :
    W.cell? ⟨g, i.toNat * 3, none⟩ = some (.string (rd_T66 xs i).f0) ∧ W.frozen? ⟨g, i.toNat * 3, none⟩ = false ∧ P g ∧ ∀ t : ByteArray, Kd.S k66 66 (W.setCell ⟨g, i.toNat * 3, none⟩ (.string t)) base P (.slice (some ⟨g, 0, none⟩) n cap) (xs.set i.toNat ⟨t, (rd_T66 xs i).f1, (rd_T66 xs i).f2⟩) ∧ W.grownBy (W.setCell ⟨g, i.toNat * 3, none⟩ (.string t)) (some g) := by
  have hP : P g := (Kd.S_R h).1 g rfl
  obtain ⟨oki, ce, hcl, hM, hcc, hfr, hoki, hH⟩ := Kd.S_elem h z66 i h0 h1
  obtain ⟨v1, v2, rfl, g1, g2⟩ := k66_openM hM
  refine ⟨hcc 0 _ rfl, hfr 0, hP, fun t => ?_⟩
  exact Kd.S_seg0 hH h0 h1 (seg := [.string t]) (j := 0) (show 1 ≤ 3 from by decide) (x' := ⟨t, (rd_T66 xs i).f1, (rd_T66 xs i).f2⟩) (k66_mkM _ _ _ ⟨t, (rd_T66 xs i).f1, (rd_T66 xs i).f2⟩ g1 g2) (fun _ hk => hk)
theorem laws_markValueS.ne {d1 d2 : Nat} {α β : Type} {k1 : Kd α} {k2 : Kd β} {ok : Nat → Prop} {v1 v2 : Value} {l1 : List α} {l2 : List β} (g1 : k1.R d1 W base ok v1 l1) (g2 : k2.R d2 W base ok v2 l2) (hd : d1 ≠ d2) (k : Nat) (e1 : some k = v1.ownBlock) (e2 : some k = v2.ownBlock) : False := by
  obtain ⟨c1, h1⟩ := Kd.R_typed g1 k e1.symm
  obtain ⟨c2, h2⟩ := Kd.R_typed g2 k e2.symm
  rw [h1] at h2
  injection h2 with h2
  injection h2 with _ h2
  exact hd h2
/-- An element's texts written. -/
theorem laws_markValueS.f1 (h : Kd.S k66 66 W base P (.slice (some ⟨g, 0, none⟩) n cap) xs) (i : Int) (h0 : 0 ≤ i) (h1 : i < n) :
    ∃ A1 c1, W.cell? ⟨g, i.toNat * 3 + 1, none⟩ = some (.slice A1 (rd_T66 xs i).f1.length c1) ∧ Kd.R Kd.string 9 W base (fun k => some k = (Value.slice A1 (rd_T66 xs i).f1.length c1).ownBlock) (.slice A1 (rd_T66 xs i).f1.length c1) (rd_T66 xs i).f1 ∧ (∀ k, some k = (Value.slice A1 (rd_T66 xs i).f1.length c1).ownBlock → P k) ∧
      ∀ (W2 : World) (ok2 : Nat → Prop) (ys : List ByteArray), Kd.R Kd.string 9 W2 base ok2 (.slice A1 (rd_T66 xs i).f1.length c1) ys → Kept W W2 (fun k => some k = (Value.slice A1 (rd_T66 xs i).f1.length c1).ownBlock) → Kd.S k66 66 W2 base P (.slice (some ⟨g, 0, none⟩) n cap) (xs.set i.toNat ⟨(rd_T66 xs i).f0, ys, (rd_T66 xs i).f2⟩) := by
  obtain ⟨oki, ce, hcl, hM, hcc, hfr, hoki, hH⟩ := Kd.S_elem h z66 i h0 h1
  obtain ⟨v1, v2, rfl, g1, g2⟩ := k66_openM hM
  have hx : W.cell? ⟨g, i.toNat * 3 + 1, none⟩ = some v1 := hcc 1 _ rfl
  obtain ⟨A1, c1, rfl⟩ := Kd.R_slice g1
  refine ⟨A1, c1, hx, Kd.R_tight rfl g1, fun k e => (hoki k (g1.1 k e.symm)).1, fun W2 ok2 ys hr hk => ?_⟩
  have g2' := Kd.R_mono (Kd.R_kept (Kd.R_tight rfl g2) hk (fun k e2 e1 => laws_markValueS.ne g1 g2 (by decide) k e1 e2)) (fun k e => g2.1 k e.symm)
  have g1' := Kd.R_reok rfl hr (fun k e => g1.1 k e)
  exact Kd.H_back (Kd.H_step hH (fun k _ hn hlt => hk.2 k hlt (fun e => hn (g1.1 k e.symm)))) (k66_mkM W2 base oki ⟨(rd_T66 xs i).f0, ys, (rd_T66 xs i).f2⟩ g1' g2') (fun _ hk => hk)
/-- An element's numbers written. -/
theorem laws_markValueS.f2 (h : Kd.S k66 66 W base P (.slice (some ⟨g, 0, none⟩) n cap) xs) (i : Int) (h0 : 0 ≤ i) (h1 : i < n) :
    ∃ A1 c1, W.cell? ⟨g, i.toNat * 3 + 2, none⟩ = some (.slice A1 (rd_T66 xs i).f2.length c1) ∧ Kd.R (Kd.int .i64) 3 W base (fun k => some k = (Value.slice A1 (rd_T66 xs i).f2.length c1).ownBlock) (.slice A1 (rd_T66 xs i).f2.length c1) (rd_T66 xs i).f2 ∧ (∀ k, some k = (Value.slice A1 (rd_T66 xs i).f2.length c1).ownBlock → P k) ∧
      ∀ (W2 : World) (ok2 : Nat → Prop) (ys : List Int), Kd.R (Kd.int .i64) 3 W2 base ok2 (.slice A1 (rd_T66 xs i).f2.length c1) ys → Kept W W2 (fun k => some k = (Value.slice A1 (rd_T66 xs i).f2.length c1).ownBlock) → Kd.S k66 66 W2 base P (.slice (some ⟨g, 0, none⟩) n cap) (xs.set i.toNat ⟨(rd_T66 xs i).f0, (rd_T66 xs i).f1, ys⟩) := by
  obtain ⟨oki, ce, hcl, hM, hcc, hfr, hoki, hH⟩ := Kd.S_elem h z66 i h0 h1
  obtain ⟨v1, v2, rfl, g1, g2⟩ := k66_openM hM
  have hx : W.cell? ⟨g, i.toNat * 3 + 2, none⟩ = some v2 := hcc 2 _ rfl
  obtain ⟨A1, c1, rfl⟩ := Kd.R_slice g2
  refine ⟨A1, c1, hx, Kd.R_tight rfl g2, fun k e => (hoki k (g2.1 k e.symm)).1, fun W2 ok2 ys hr hk => ?_⟩
  have g1' := Kd.R_mono (Kd.R_kept (Kd.R_tight rfl g1) hk (fun k e1 e2 => laws_markValueS.ne g1 g2 (by decide) k e1 e2)) (fun k e => g1.1 k e.symm)
  have g2' := Kd.R_reok rfl hr (fun k e => g2.1 k e)
  exact Kd.H_back (Kd.H_step hH (fun k _ hn hlt => hk.2 k hlt (fun e => hn (g2.1 k e.symm)))) (k66_mkM W2 base oki ⟨(rd_T66 xs i).f0, (rd_T66 xs i).f1, ys⟩ g1' g2') (fun _ hk => hk)
theorem laws_markValueS.rdset (xs : List S66) (i : Int) (v : S66) (h0 : 0 ≤ i) (h1 : i < (xs.length : Int)) : rd_T66 (xs.set i.toNat v) i = v := by
  unfold rd_T66
  rw [List.getD_eq_getElem?_getD, List.getElem?_set_self (by omega)]; rfl
end
set_option maxHeartbeats 8000000 in
set_option maxRecDepth 100000 in
theorem laws_markValueS.calls (k : Nat) (P0_ : Nat → Prop) (u9000_ : Value) (l0 : List S66) (a1 : Int) (r1 : Int) (r2 : List S66) (w0 w : World) (hB : Below w0.heap.size w0 w) (ho0 : Kd.S k66 66 w w0.heap.size P0_ u9000_ l0) (h : laws_markValueS.f k l0 a1 = some (r1, r2)) :
    Calls Try.prog 42 #[u9000_, .int .i64 a1] w fun e w' => e = .returned (.int .i64 r1) ∧ Kd.S k66 66 w' w0.heap.size (fun k_ => P0_ k_) u9000_ r2 ∧ Below w0.heap.size w0 w' ∧ Kept w w' (fun k_ => P0_ k_) := by
  have HO0 := Aside0.mk ho0
  have HK := Aside0.mk (Kept.refl w (fun k_ => P0_ k_))
  have HB := Aside0.mk hB
  clear hB ho0
  have H' := Aside0.mk (show laws_markValueS.l0 k l0 a1 0 = some (r1, r2) from h)
  clear h
  go_enter Try.func42, Try.ntmps42
  go_wp2
  go_loopg [1, 5] k (fun kq v1 v5 w' => ∃ (x0_1 : List S66) (x1_1 : Int) (x5_1 : Int), v1 = .int .i64 x1_1 ∧ v5 = .int .i64 x5_1 ∧ Aside0 (laws_markValueS.l0 kq x0_1 x1_1 x5_1 = some (r1, r2)) ∧ Aside0 (kq ≤ k) ∧ Aside0 (Kd.S k66 66 w' w0.heap.size (fun k_ => P0_ k_) u9000_ x0_1) ∧ Aside0 (Kept w w' (fun k_ => P0_ k_)) ∧ Aside0 (Below w0.heap.size w0 w'))
  case atStart => exact ⟨l0, a1, 0, by first | rfl | (simp; done) | (simp [*]; done), by first | rfl | (simp; done) | (simp [*]; done), H', ⟨Nat.le_refl _⟩, ⟨HO0.out⟩, ⟨HK.out⟩, ⟨HB.out⟩⟩
  case round =>
    clear H'
    obtain ⟨x0_1, x1_1, x5_1, rfl, rfl, HA, HK1, HO_0, HK, HB⟩ := hrel
    cases gk with
    | zero => exact absurd HA.out (by simp [laws_markValueS.l0])
    | succ k1 =>
      have H := HA.out
      clear HA
      simp only [laws_markValueS.l0] at H
      by_cases c3 : x5_1 < (x0_1.length : Int)
      · rw [if_pos c3] at H
        have c3b0 : decide (x5_1 < (x0_1.length : Int)) = true := decide_eq_true c3
        replace H := Option.bind_eq_some_iff.mp H
        obtain ⟨t256, A40, H⟩ := H
        have A4 := Aside0.mk A40
        clear A40
        by_cases c5 : 0 ≤ x5_1
        · rw [if_pos c5] at H
          replace H := Option.bind_eq_some_iff.mp H
          obtain ⟨⟨b1, ys1⟩, A50, H⟩ := H
          replace H := Option.bind_eq_some_iff.mp H
          obtain ⟨⟨b2, ys2⟩, A60, H⟩ := H
          simp only at A50 A60 H
          have A5 := Aside0.mk A50
          have A6 := Aside0.mk A60
          have H' := Aside0.mk H
          clear H A50 A60
          obtain ⟨g, cap, rfl, hgb, hgl, cells, hgc⟩ := Kd.S_form HO_0.out (by omega)
          clear hgl hgc cells
          have C3 := Aside0.mk c3
          have C5 := Aside0.mk c5
          have p3 := eq_true c3
          have p5 := eq_true c5
          have HGB := Aside0.mk hgb
          clear c3 c5 hgb
          go_upto_region 5 with (first
            | (go_at_call 60; (with_reducible refine (laws_markText.calls k1 x1_1 t256 _ A4.out).mono ?_); rintro e w8 ⟨rfl, hb⟩
               have HO8 := Aside0.mk (Kd.S_below HO_0.out hb)
               have HK8 := Aside0.mk (Kept.below (S := (fun k_ => P0_ k_)) HK.out hb)
               have HB8 := Aside0.mk (below_step HB.out hb)
               have hq8 := laws_markValueS.f0 HO8.out x5_1 C5.out C3.out
               have HQ8 := Aside0.mk hq8
               have hx8 := hq8.1
               have hf8 := hq8.2.1
               clear HO_0 HK HB hb hq8))
          obtain ⟨w9, hw9⟩ : ∃ w9, w9 = w8.setCell { block := g, off := x5_1.toNat * 3 } (Value.string t256) := ⟨_, rfl⟩
          rw [← hw9]
          have HO9 := Aside0.mk (show Kd.S k66 66 w9 w0.heap.size (fun k_ => P0_ k_) (.slice (some ⟨g, 0, none⟩) x0_1.length cap) (x0_1.set x5_1.toNat ⟨t256, (rd_T66 x0_1 x5_1).f1, (rd_T66 x0_1 x5_1).f2⟩) from by rw [hw9]; exact (HQ8.out.2.2.2 t256).1)
          have HK9 := Aside0.mk (show Kept w w9 (fun k_ => P0_ k_) from by rw [hw9]; exact Kept.setCell HK8.out (.inl HQ8.out.2.2.1) _)
          have HB9 := Aside0.mk (show Below w0.heap.size w0 w9 from by rw [hw9]; exact HB8.out.setCell HGB.out _)
          clear hw9 hx8 hf8 HO8 HK8 HB8 HQ8
          have hset := laws_markValueS.rdset x0_1 x5_1 ⟨t256, (rd_T66 x0_1 x5_1).f1, (rd_T66 x0_1 x5_1).f2⟩ C5.out C3.out
          obtain ⟨A1, c1, hc1, hr1, hp1, hs1⟩ := laws_markValueS.f1 HO9.out x5_1 C5.out C3.out
          rw [hset] at hc1 hr1 hp1 hs1
          simp only [List.set_set] at hs1
          have HR1 := Aside0.mk hr1
          have HP1 := Aside0.mk hp1
          have HS1 := Aside0.mk hs1
          clear hset hr1 hp1 hs1
          have hm1 := fun W => laws_markStringS.calls k1 (fun k => some k = (Value.slice A1 (rd_T66 x0_1 x5_1).f1.length c1).ownBlock) (.slice A1 (rd_T66 x0_1 x5_1).f1.length c1) (rd_T66 x0_1 x5_1).f1 (wrap64 (x1_1 + 1)) b1 ys1 w0 W
          go_upto_region 7 with (first
            | (go_at_call 67; (with_reducible refine (hm1 _ HB9.out HR1.out A5.out).mono ?_); rintro e w10 ⟨rfl, hy, hb, hk⟩
               have HO10 := Aside0.mk (HS1.out _ _ _ hy hk)
               have HK10 := Aside0.mk (Kept.then_ HK9.out hk (fun k_ h_ => .inl (HP1.out k_ h_)))
               have HB10 := Aside0.mk hb
               clear hy hb hk HO9 HK9 HB9 HS1 HP1 HR1))
          clear hm1 hc1
          have hset := laws_markValueS.rdset x0_1 x5_1 ⟨t256, ys1, (rd_T66 x0_1 x5_1).f2⟩ C5.out C3.out
          obtain ⟨A2, c2, hc2, hr2, hp2, hs2⟩ := laws_markValueS.f2 HO10.out x5_1 C5.out C3.out
          rw [hset] at hc2 hr2 hp2 hs2
          simp only [List.set_set] at hs2
          have HR2 := Aside0.mk hr2
          have HP2 := Aside0.mk hp2
          have HS2 := Aside0.mk hs2
          clear hset hr2 hp2 hs2
          have hm2 := fun W => laws_markIntS.calls k1 (fun k => some k = (Value.slice A2 (rd_T66 x0_1 x5_1).f2.length c2).ownBlock) (.slice A2 (rd_T66 x0_1 x5_1).f2.length c2) (rd_T66 x0_1 x5_1).f2 b1 b2 ys2 w0 W
          go_wp2_with (first
            | (go_at_call 68; (with_reducible refine (hm2 _ HB10.out HR2.out A6.out).mono ?_); rintro e w11 ⟨rfl, hy, hb, hk⟩
               have HO11 := Aside0.mk (HS2.out _ _ _ hy hk)
               have HK11 := Aside0.mk (Kept.then_ HK10.out hk (fun k_ h_ => .inl (HP2.out k_ h_)))
               have HB11 := Aside0.mk hb
               clear hy hb hk HO10 HK10 HB10 HS2 HP2 HR2))
          go_roundg k1
          case measure => have := HK1.out; omega
          case rel => exact ⟨_, b2, wrap64 (x5_1 + 1), by first | rfl | (simp; done) | (simp [*]; done), by first | rfl | (simp; done) | (simp [*]; done), H', ⟨by have := HK1.out; omega⟩, HO11, HK11, HB11⟩
        · rw [if_neg c5] at H
          exact absurd H (by simp)
      · rw [if_neg c3] at H
        have c3b0 : decide (x5_1 < (x0_1.length : Int)) = false := decide_eq_false c3
        clear c3
        simp only [Option.some.injEq, Prod.mk.injEq] at H
        obtain ⟨rfl, rfl⟩ := H
        obtain ⟨Ao11, co11, eo11⟩ := Kd.S_slice HO_0.out
        subst eo11
        go_wp2
        go_ret
        exact ⟨zre, HO_0.out, HB.out, HK.out⟩

/-! ### laws_markDoc: function 14 -/
def laws_markDoc.f (k : Nat) (a0_0 : ByteArray) (l0_1 : List S66) (a1 : Int) : Option (Int × List S66) := (laws_markValueS.f k l0_1 a1).bind fun t => some (t.1, t.2)
theorem laws_markDoc.mono : ∀ a0 a1 a2 k, LeO (laws_markDoc.f k a0 a1 a2) (laws_markDoc.f (k + 1) a0 a1 a2) := by
  intro a0 a1 a2 k
  unfold laws_markDoc.f
  exact LeO.bind (laws_markValueS.mono _ _ _) (fun _ => LeO.refl _)
set_option maxHeartbeats 8000000 in
set_option maxRecDepth 100000 in
theorem laws_markDoc.calls (k : Nat) (a0_0 : ByteArray) (P0_1_ : Nat → Prop) (u9001_ : Value) (l0_1 : List S66) (a1 : Int) (r1 : Int) (r2 : List S66) (w0 w : World) (hB : Below w0.heap.size w0 w) (ho0_1 : Kd.S k66 66 w w0.heap.size P0_1_ u9001_ l0_1) (h : laws_markDoc.f k a0_0 l0_1 a1 = some (r1, r2)) :
    Calls Try.prog 14 #[.agg #[.string a0_0, u9001_], .int .i64 a1] w fun e w' => e = .returned (.int .i64 r1) ∧ Kd.S k66 66 w' w0.heap.size (fun k_ => P0_1_ k_) u9001_ r2 ∧ Below w0.heap.size w0 w' ∧ Kept w w' (fun k_ => P0_1_ k_) := by
  have h2 : laws_markValueS.f k l0_1 a1 = some (r1, r2) := by
    unfold laws_markDoc.f at h
    obtain ⟨⟨x, y⟩, hx, hy⟩ := Option.bind_eq_some_iff.mp h
    simp only [Option.some.injEq, Prod.mk.injEq] at hy
    obtain ⟨rfl, rfl⟩ := hy
    exact hx
  clear h
  have hm := fun W => laws_markValueS.calls k P0_1_ u9001_ l0_1 a1 r1 r2 w0 W
  have HH := Aside0.mk h2
  have HO := Aside0.mk ho0_1
  have HB := Aside0.mk hB
  have HL := Aside0.mk hB.size
  obtain ⟨A1, c1, rfl⟩ := Kd.S_slice ho0_1
  clear h2 ho0_1 hB
  go_enter Try.func14, Try.ntmps14
  go_wp2_with (first | (go_at_call 42; refine (hm _ (below_alloc HB.out _) (Kd.S_alloc HO.out _) HH.out).mono ?_; rintro e w3 ⟨rfl, hy, hb, hk⟩; have HY := Aside0.mk hy; have HB2 := Aside0.mk hb; have HK2 := Aside0.mk (Kept.then_ (Kept.alloc (Kept.refl w (fun k_ => P0_1_ k_)) _) hk (fun _ h_ => .inl h_)); clear hy hb hk))
  go_ret
  exact ⟨by first | rfl | (simp [errW_none, errW_some] <;> rfl), HY.out, HB2.out, HK2.out⟩

/-! ### laws_markRecord: function 26 -/
def laws_markRecord.f (k : Nat) (a0_0 : Int) (a0_1 : Int) (a0_2 : ByteArray) (a0_3 : ByteArray) (l0_4 : List S66) (a1 : Int) : Option (Int × List S66) := (laws_markDoc.f k a0_3 l0_4 a1).bind fun t => some (t.1, t.2)
theorem laws_markRecord.mono : ∀ a0 a1 a2 a3 a4 a5 k, LeO (laws_markRecord.f k a0 a1 a2 a3 a4 a5) (laws_markRecord.f (k + 1) a0 a1 a2 a3 a4 a5) := by
  intro a0 a1 a2 a3 a4 a5 k
  unfold laws_markRecord.f
  exact LeO.bind (laws_markDoc.mono _ _ _ _) (fun _ => LeO.refl _)
set_option maxHeartbeats 8000000 in
set_option maxRecDepth 100000 in
theorem laws_markRecord.calls (k : Nat) (a0_0 : Int) (a0_1 : Int) (a0_2 : ByteArray) (a0_3 : ByteArray) (P0_4_ : Nat → Prop) (u9004_ : Value) (l0_4 : List S66) (a1 : Int) (r1 : Int) (r2 : List S66) (w0 w : World) (hB : Below w0.heap.size w0 w) (ho0_4 : Kd.S k66 66 w w0.heap.size P0_4_ u9004_ l0_4) (h : laws_markRecord.f k a0_0 a0_1 a0_2 a0_3 l0_4 a1 = some (r1, r2)) :
    Calls Try.prog 26 #[.agg #[.int .i64 a0_0, .int .i64 a0_1, .string a0_2, .string a0_3, u9004_], .int .i64 a1] w fun e w' => e = .returned (.int .i64 r1) ∧ Kd.S k66 66 w' w0.heap.size (fun k_ => P0_4_ k_) u9004_ r2 ∧ Below w0.heap.size w0 w' ∧ Kept w w' (fun k_ => P0_4_ k_) := by
  have h2 : laws_markDoc.f k a0_3 l0_4 a1 = some (r1, r2) := by
    unfold laws_markRecord.f at h
    obtain ⟨⟨x, y⟩, hx, hy⟩ := Option.bind_eq_some_iff.mp h
    simp only [Option.some.injEq, Prod.mk.injEq] at hy
    obtain ⟨rfl, rfl⟩ := hy
    exact hx
  clear h
  have hm := fun W => laws_markDoc.calls k a0_3 P0_4_ u9004_ l0_4 a1 r1 r2 w0 W
  have HH := Aside0.mk h2
  have HO := Aside0.mk ho0_4
  have HB := Aside0.mk hB
  have HL := Aside0.mk hB.size
  obtain ⟨A1, c1, rfl⟩ := Kd.S_slice ho0_4
  clear h2 ho0_4 hB
  go_enter Try.func26, Try.ntmps26
  go_wp2_with (first | (go_at_call 14; refine (hm _ (below_alloc HB.out _) (Kd.S_alloc HO.out _) HH.out).mono ?_; rintro e w3 ⟨rfl, hy, hb, hk⟩; have HY := Aside0.mk hy; have HB2 := Aside0.mk hb; have HK2 := Aside0.mk (Kept.then_ (Kept.alloc (Kept.refl w (fun k_ => P0_4_ k_)) _) hk (fun _ h_ => .inl h_)); clear hy hb hk))
  go_ret
  exact ⟨by first | rfl | (simp [errW_none, errW_some] <;> rfl), HY.out, HB2.out, HK2.out⟩

end Go.Proofs.Ytnpdmleglcbobaa.XFnExactRecordBytes
