-- A printed text of this session (wip/x/xprint.py).
import Derived.Test.YtmbgncgcddjomaaDoorXFnExactSchemaOKx0
import Derived.Test.YtmbgncgcddjomaaDoorXFnExactSchemaOKx2
namespace Go.Proofs.YtmbgncgcddjomaaDoor.XFnExactSchemaOK
open Go.RowKit Go.Proofs.YtmbgncgcddjomaaDoorW.PrintWords Go.Proofs.YtmbgncgcddjomaaDoorW.PrintLast Go.Proofs.YtmbgncgcddjomaaDoorW.PrintMore
attribute [local go_sem] max2_int min2_int max_two min_two max_three min_three max_four min_four   -- for this text's walks alone
set_option linter.unusedVariables false
set_option linter.unusedSimpArgs false

/-! ### spec_l01At: function 40 -/
mutual
def spec_l01At.j0 : Nat → ByteArray → Int → Int → Int → Option (Int × Int)
 | 0, _, _, _, _ => none
 | k + 1, x0, x1, x6, x8 => if (wrap64 (x1 + x6)) > (x0.size : Int) then (some (0, 0)) else (spec_l01At.l0 k x0 x1 x6 x8 1)
def spec_l01At.l0 : Nat → ByteArray → Int → Int → Int → Int → Option (Int × Int)
 | 0, _, _, _, _, _ => none
 | k + 1, x0, x1, x6, x8, x9 => if x9 < x6 then (if 0 ≤ (wrap64 (x1 + x9)) then (if (wrap64 (x1 + x9)) < (x0.size : Int) then (if (wrap64 (bt x0 (wrap64 (x1 + x9)))) < 128 then (some (0, 0)) else (if (wrap64 (bt x0 (wrap64 (x1 + x9)))) > 191 then (some (0, 0)) else (spec_l01At.l0 k x0 x1 x6 (wrap64 ((wrap64 ((wrap64 (x8 * 64)) + (wrap64 (bt x0 (wrap64 (x1 + x9)))))) - 128)) (wrap64 (x9 + 1))))) else (none)) else (none)) else ((spec_l01CharOK.f x8).bind fun t126 => (if t126 = true then ((spec_l01Bytes.f x8).bind fun t127 => (if (t127.length : Int) = x6 then (some (x8, x6)) else (some (0, 0)))) else (some (0, 0))))
end
def spec_l01At.f (k : Nat) (a0 : ByteArray) (a1 : Int) : Option (Int × Int) := if 0 ≤ a1 then (if a1 < (a0.size : Int) then (if (wrap64 (bt a0 a1)) < 128 then (some (wrap64 (bt a0 a1), 1)) else (if (wrap64 (bt a0 a1)) ≥ 240 then (spec_l01At.j0 k a0 a1 4 (wrap64 ((wrap64 (bt a0 a1)) - 240))) else (if (wrap64 (bt a0 a1)) ≥ 224 then (spec_l01At.j0 k a0 a1 3 (wrap64 ((wrap64 (bt a0 a1)) - 224))) else (if (wrap64 (bt a0 a1)) ≥ 192 then (spec_l01At.j0 k a0 a1 2 (wrap64 ((wrap64 (bt a0 a1)) - 192))) else (some (0, 0)))))) else (none)) else (none)
theorem spec_l01At.mono_l : ∀ k, (∀ y0 y1 y2 y3, LeO (spec_l01At.j0 k y0 y1 y2 y3) (spec_l01At.j0 (k + 1) y0 y1 y2 y3)) ∧ (∀ y0 y1 y2 y3 y4, LeO (spec_l01At.l0 k y0 y1 y2 y3 y4) (spec_l01At.l0 (k + 1) y0 y1 y2 y3 y4))
 | 0 => ⟨fun _ _ _ _ r h => by simp [spec_l01At.j0] at h, fun _ _ _ _ _ r h => by simp [spec_l01At.l0] at h⟩
 | k + 1 => by
  obtain ⟨ih0, ih1⟩ := spec_l01At.mono_l k
  refine ⟨?_, ?_⟩
  all_goals intros
  all_goals first | unfold spec_l01At.j0 | unfold spec_l01At.l0
  all_goals
   repeat' first
   | (with_reducible exact ih0 _ _ _ _)
   | (with_reducible exact ih1 _ _ _ _ _)
   | (with_reducible exact LeO.refl _)
   | (with_reducible exact LeO.none _)
   | (with_reducible refine LeO.ite ?_ ?_)
   | (with_reducible refine LeO.bind ?_ (fun _ => ?_))
theorem spec_l01At.mono : ∀ a0 a1 k, LeO (spec_l01At.f k a0 a1) (spec_l01At.f (k + 1) a0 a1) := by
 intro a0 a1 k
 obtain ⟨ih0, ih1⟩ := spec_l01At.mono_l k
 unfold spec_l01At.f
 repeat' first
  | (with_reducible exact ih0 _ _ _ _)
  | (with_reducible exact ih1 _ _ _ _ _)
  | (with_reducible exact LeO.refl _)
  | (with_reducible exact LeO.none _)
  | (with_reducible refine LeO.ite ?_ ?_)
  | (with_reducible refine LeO.bind ?_ (fun _ => ?_))
set_option maxHeartbeats 8000000 in
set_option maxRecDepth 100000 in
theorem spec_l01At.calls (k : Nat) (a0 : ByteArray) (a1 : Int) (r1 : Int) (r2 : Int) (w : World) (h : spec_l01At.f k a0 a1 = some (r1, r2)) :
 Calls Tryd.prog 40 #[.string a0, .int .i64 a1] w fun e w' => e = .returned (.tuple #[.int .i64 r1, .int .i64 r2]) ∧ Below w.heap.size w w' := by
 have HB := Aside0.mk (Below.refl w.heap.size w)
 have H := h
 unfold spec_l01At.f at H
 clear h
 by_cases c3 : 0 ≤ a1
 rotate_left
 ·rw [if_neg c3] at H
  exact absurd H (by simp)

 rw [if_pos c3] at H
 have c3b0 : decide (0 ≤ a1) = true := decide_eq_true c3
 clear c3
 by_cases c4 : a1 < (a0.size : Int)
 rotate_left
 ·rw [if_neg c4] at H
  exact absurd H (by simp)
 rw [if_pos c4] at H
 have c4b0 : decide (a1 < (a0.size : Int)) = true := decide_eq_true c4
 clear c4
 have HC6 := Aside0.mk H
 clear H
 have p5 : 0 ≤ (a1 : Int) := of_decide_eq_true zas
 have q5 : a1 < (a0.size : Int) := of_decide_eq_true zas
 have hx5 := bt_at a0 a1
 replace p5 := eq_true p5
 replace q5 := eq_true q5
 go_enter Tryd.func40, Tryd.ntmps40
 go_upto_block 0 with (fail)
 go_cut [6, 8] (fun v6 v8 wc => ∃ (kq : Nat) (x6_5 : Int) (x8_5 : Int), v6 = .int .i64 x6_5 ∧ v8 = .int .i64 x8_5 ∧ Aside0 (spec_l01At.j0 kq a0 a1 x6_5 x8_5 = some (r1, r2)) ∧ Aside0 (kq ≤ k) ∧ Aside0 (Below w.heap.size w wc))
 case first =>
  have H := HC6.out
  clear HC6
  by_cases c7 : (wrap64 (bt a0 a1)) < 128
  ·rw [if_pos c7] at H
   have c7b0 : decide ((wrap64 (bt a0 a1)) < 128) = true := decide_eq_true c7
   clear c7
   (first | rw [c7b0] | (simp only [i64_w, i32_w]; rw [c7b0]) | skip)
   simp only [Option.some.injEq, Prod.mk.injEq] at H
   obtain ⟨rfl, rfl⟩ := H
   go_wp2
   go_ret2
   exact ⟨zre, zh HB⟩
  rw [if_neg c7] at H
  have c7b0 : decide ((wrap64 (bt a0 a1)) < 128) = false := decide_eq_false c7
  clear c7
  (first | rw [c7b0] | (simp only [i64_w, i32_w]; rw [c7b0]) | skip)
  by_cases c8 : (wrap64 (bt a0 a1)) ≥ 240
  ·rw [if_pos c8] at H
   have c8b0 : decide (240 ≤ (wrap64 (bt a0 a1))) = true := decide_eq_true c8
   clear c8
   have H' := Aside0.mk H
   clear H
   go_wp2
   go_meet
   case rel => exact ⟨_, (4), (wrap64 ((wrap64 (bt a0 a1)) - 240)), zrs, zrs, H', ⟨by first | omega | exact Nat.le_refl _⟩, ⟨zh HB⟩⟩
  rw [if_neg c8] at H
  have c8b0 : decide (240 ≤ (wrap64 (bt a0 a1))) = false := decide_eq_false c8
  clear c8
  by_cases c9 : (wrap64 (bt a0 a1)) ≥ 224
  ·rw [if_pos c9] at H
   have c9b0 : decide (224 ≤ (wrap64 (bt a0 a1))) = true := decide_eq_true c9
   clear c9
   have H' := Aside0.mk H
   clear H
   go_wp2
   go_meet
   case rel => exact ⟨_, (3), (wrap64 ((wrap64 (bt a0 a1)) - 224)), zrs, zrs, H', ⟨by first | omega | exact Nat.le_refl _⟩, ⟨zh HB⟩⟩
  rw [if_neg c9] at H
  have c9b0 : decide (224 ≤ (wrap64 (bt a0 a1))) = false := decide_eq_false c9
  clear c9
  by_cases c10 : (wrap64 (bt a0 a1)) ≥ 192
  rotate_left
  ·rw [if_neg c10] at H
   have c10b0 : decide (192 ≤ (wrap64 (bt a0 a1))) = false := decide_eq_false c10
   clear c10
   simp only [Option.some.injEq, Prod.mk.injEq] at H
   obtain ⟨rfl, rfl⟩ := H
   go_wp2
   go_ret2
   exact ⟨zre, zh HB⟩
  rw [if_pos c10] at H
  have c10b0 : decide (192 ≤ (wrap64 (bt a0 a1))) = true := decide_eq_true c10
  clear c10
  have H' := Aside0.mk H
  clear H
  go_wp2
  go_meet
  case rel => exact ⟨_, (2), (wrap64 ((wrap64 (bt a0 a1)) - 192)), zrs, zrs, H', ⟨by first | omega | exact Nat.le_refl _⟩, ⟨zh HB⟩⟩
 case rest =>
  clear HC6
  try clear c3
  try clear c3b0
  try clear c4
  try clear c4b0
  try clear p5
  try clear q5
  try clear hx5
  try clear p5
  try clear q5
  obtain ⟨kq, x6_5, x8_5, rfl, rfl, HA, HJ5, HB⟩ := hcut
  cases kq with
  | zero => exact absurd HA.out (by simp [spec_l01At.j0])
  | succ kj5 =>
   have H := HA.out
   clear HA
   simp only [spec_l01At.j0] at H
   by_cases c11 : (wrap64 (a1 + x6_5)) > (a0.size : Int)
   ·rw [if_pos c11] at H
    have c11b0 : decide ((a0.size : Int) < (wrap64 (a1 + x6_5))) = true := decide_eq_true c11
    clear c11
    simp only [Option.some.injEq, Prod.mk.injEq] at H
    obtain ⟨rfl, rfl⟩ := H
    go_wp2
    go_ret2
    exact ⟨zre, zh HB⟩
   rw [if_neg c11] at H
   have c11b0 : decide ((a0.size : Int) < (wrap64 (a1 + x6_5))) = false := decide_eq_false c11
   clear c11
   have H' := Aside0.mk H
   clear H
   go_wp2
   go_loopg [8, 9] kj5 (fun kq v8 v9 w' => ∃ (x8_2 : Int) (x9_2 : Int), v8 = .int .i64 x8_2 ∧ v9 = .int .i64 x9_2 ∧ Aside0 (spec_l01At.l0 kq a0 a1 x6_5 x8_2 x9_2 = some (r1, r2)) ∧ Aside0 (kq ≤ kj5) ∧ Aside0 (Below w.heap.size w w'))
   case atStart => exact ⟨(x8_5), (1), zrs, zrs, H', ⟨Nat.le_refl _⟩, ⟨zh HB⟩⟩
   case round =>
    clear H'
    try clear c3
    try clear c3b0
    try clear c4
    try clear c4b0
    try clear p5
    try clear q5
    try clear hx5
    try clear c11
    try clear c11b0
    try clear p5
    try clear q5
    obtain ⟨x8_2, x9_2, rfl, rfl, HA, HK2, HB⟩ := hrel
    cases gk with
    | zero => exact absurd HA.out (by simp [spec_l01At.l0])
    | succ k2 =>
     have H := HA.out
     clear HA
     simp only [spec_l01At.l0] at H
     by_cases c12 : x9_2 < x6_5
     rotate_left
     ·rw [if_neg c12] at H
      have c12b0 : decide (x9_2 < x6_5) = false := decide_eq_false c12
      clear c12
      replace H := Option.bind_eq_some_iff.mp H
      obtain ⟨t126, A190, H⟩ := H
      try dsimp only at H
      have A19 := Aside0.mk A190
      clear A190
      by_cases c20 : t126 = true
      rotate_left
      ·replace c20 := Bool.eq_false_iff.mpr c20
       subst c20
       rw [if_neg (show ¬ (false = true) by decide)] at H
       simp only [Option.some.injEq, Prod.mk.injEq] at H
       obtain ⟨rfl, rfl⟩ := H
       go_wp2_with (first | ((with_reducible refine gate_callee (f := 51) rfl ?_); refine goesL_ (some 64) rfl rfl Tryd.func51 (by kernel_rfl) rfl #[.int .i64 x8_2] rfl zar ?_; (with_reducible refine (spec_l01CharOK.calls x8_2 false _ A19.out).mono ?_); rintro e w' ⟨rfl, ⟨nd, rfl⟩⟩; refine ⟨_, rfl, ?_⟩))
       go_ret2
       exact ⟨zre, zh HB⟩
      subst c20
      rw [if_pos rfl] at H
      replace H := Option.bind_eq_some_iff.mp H
      obtain ⟨t127, A210, H⟩ := H
      try dsimp only at H
      have A21 := Aside0.mk A210
      clear A210
      by_cases c22 : (t127.length : Int) = x6_5
      rotate_left
      ·rw [if_neg c22] at H
       have c22b0 : ((t127.length : Int) == x6_5) = false := beq_eq_false_iff_ne.mpr c22
       have c22b1 : ((t127.length : Int) != x6_5) = true := bne_iff_ne.mpr c22
       simp only [Option.some.injEq, Prod.mk.injEq] at H
       obtain ⟨rfl, rfl⟩ := H
       go_wp2_with (first | ((with_reducible refine gate_callee (f := 51) rfl ?_); refine goesL_ (some 64) rfl rfl Tryd.func51 (by kernel_rfl) rfl #[.int .i64 x8_2] rfl zar ?_; (with_reducible refine (spec_l01CharOK.calls x8_2 true _ A19.out).mono ?_); rintro e w' ⟨rfl, ⟨nd, rfl⟩⟩; refine ⟨_, rfl, ?_⟩) | (go_at_call 52; (with_reducible refine (spec_l01Bytes.calls x8_2 t127 _ A21.out).mono ?_); rintro e w26 ⟨v128, rfl, ho0, hb⟩; have HO129 := Aside0.mk (Kd.R_lower ho0 (below_size (zh HB))); replace HB := Aside0.mk (below_step (zh HB) hb); (try clear hb ho0); (try clear hb); (try clear hk); (try clear hi); obtain ⟨Ao28, co28, eo28⟩ := Kd.R_slice HO129.out; subst eo28))
       go_ret2
       exact ⟨zre, zh HB⟩
      rw [if_pos c22] at H
      have c22b0 : ((t127.length : Int) == x6_5) = true := beq_iff_eq.mpr c22
      have c22b1 : ((t127.length : Int) != x6_5) = false := bne_eq_false_iff_eq.mpr c22
      clear c22
      simp only [Option.some.injEq, Prod.mk.injEq] at H
      obtain ⟨rfl, rfl⟩ := H
      go_wp2_with (first | ((with_reducible refine gate_callee (f := 51) rfl ?_); refine goesL_ (some 64) rfl rfl Tryd.func51 (by kernel_rfl) rfl #[.int .i64 x8_2] rfl zar ?_; (with_reducible refine (spec_l01CharOK.calls x8_2 true _ A19.out).mono ?_); rintro e w' ⟨rfl, ⟨nd, rfl⟩⟩; refine ⟨_, rfl, ?_⟩) | (go_at_call 52; (with_reducible refine (spec_l01Bytes.calls x8_2 t127 _ A21.out).mono ?_); rintro e w23 ⟨v128, rfl, ho0, hb⟩; have HO129 := Aside0.mk (Kd.R_lower ho0 (below_size (zh HB))); replace HB := Aside0.mk (below_step (zh HB) hb); (try clear hb ho0); (try clear hb); (try clear hk); (try clear hi); obtain ⟨Ao25, co25, eo25⟩ := Kd.R_slice HO129.out; subst eo25))
      go_ret2
      exact ⟨zre, zh HB⟩
     rw [if_pos c12] at H
     have c12b0 : decide (x9_2 < x6_5) = true := decide_eq_true c12
     clear c12
     obtain ⟨ji13, hji13⟩ : ∃ j_ : Int, (wrap64 (a1 + x9_2)) = j_ := ⟨_, rfl⟩
     replace H : (if 0 ≤ (ji13) then (if (ji13) < (a0.size : Int) then (if (wrap64 (bt a0 (ji13))) < 128 then (some (0, 0)) else (if (wrap64 (bt a0 (ji13))) > 191 then (some (0, 0)) else (spec_l01At.l0 k2 a0 a1 x6_5 (wrap64 ((wrap64 ((wrap64 (x8_2 * 64)) + (wrap64 (bt a0 (ji13))))) - 128)) (wrap64 (x9_2 + 1))))) else (none)) else (none)) = some (r1, r2) := by first | (rw [hji13] at H; exact H) | (simp only [hji13] at H ⊢; exact H)
     have hji13w : (IntKind.i64.wrap (a1 + x9_2)) = ji13 := (i64_w _).trans hji13
     by_cases c14 : 0 ≤ (ji13)
     rotate_left
     ·rw [if_neg c14] at H
      exact absurd H (by simp)
     rw [if_pos c14] at H
     have c14b0 : decide (0 ≤ (ji13)) = true := decide_eq_true c14
     clear c14
     by_cases c15 : (ji13) < (a0.size : Int)
     rotate_left
     ·rw [if_neg c15] at H
      exact absurd H (by simp)
     rw [if_pos c15] at H
     have c15b0 : decide ((ji13) < (a0.size : Int)) = true := decide_eq_true c15
     clear c15
     by_cases c17 : (wrap64 (bt a0 (ji13))) < 128
     ·rw [if_pos c17] at H
      have c17b0 : decide ((wrap64 (bt a0 (ji13))) < 128) = true := decide_eq_true c17
      clear c17
      simp only [Option.some.injEq, Prod.mk.injEq] at H
      obtain ⟨rfl, rfl⟩ := H
      have p16 : 0 ≤ ((ji13) : Int) := of_decide_eq_true zas
      have q16 : (ji13) < (a0.size : Int) := of_decide_eq_true zas
      have hx16 := bt_at a0 (ji13)
      replace p16 := eq_true p16
      replace q16 := eq_true q16
      go_wp2
      go_ret2
      exact ⟨by first | rfl | (simp [errW_none, errW_some] <;> rfl) | (simp only [← hji13]; first | rfl | (simp [errW_none, errW_some] <;> rfl)) | (simp [*, errW_none, errW_some] <;> rfl), zh HB⟩
     rw [if_neg c17] at H
     have c17b0 : decide ((wrap64 (bt a0 (ji13))) < 128) = false := decide_eq_false c17
     clear c17
     by_cases c18 : (wrap64 (bt a0 (ji13))) > 191
     ·rw [if_pos c18] at H
      have c18b0 : decide (191 < (wrap64 (bt a0 (ji13)))) = true := decide_eq_true c18
      clear c18
      simp only [Option.some.injEq, Prod.mk.injEq] at H
      obtain ⟨rfl, rfl⟩ := H
      have p16 : 0 ≤ ((ji13) : Int) := of_decide_eq_true zas
      have q16 : (ji13) < (a0.size : Int) := of_decide_eq_true zas
      have hx16 := bt_at a0 (ji13)
      replace p16 := eq_true p16
      replace q16 := eq_true q16
      go_wp2
      go_ret2
      exact ⟨by first | rfl | (simp [errW_none, errW_some] <;> rfl) | (simp only [← hji13]; first | rfl | (simp [errW_none, errW_some] <;> rfl)) | (simp [*, errW_none, errW_some] <;> rfl), zh HB⟩
     rw [if_neg c18] at H
     have c18b0 : decide (191 < (wrap64 (bt a0 (ji13)))) = false := decide_eq_false c18
     clear c18
     have H' := Aside0.mk H
     clear H
     have p16 : 0 ≤ ((ji13) : Int) := of_decide_eq_true zas
     have q16 : (ji13) < (a0.size : Int) := of_decide_eq_true zas
     have hx16 := bt_at a0 (ji13)
     replace p16 := eq_true p16
     replace q16 := eq_true q16
     go_wp2
     go_roundg k2
     case measure => have := HJ5.out; have := HK2.out; omega
     case rel => exact ⟨(wrap64 ((wrap64 ((wrap64 (x8_2 * 64)) + (wrap64 (bt a0 (ji13))))) - 128)), (wrap64 (x9_2 + 1)), (by first | rfl | (simp; done) | (simp only [← hji13] <;> (first | rfl | simp)) | (simp [*]; done)), zrs, H', ⟨by have := HJ5.out; have := HK2.out; omega⟩, ⟨zh HB⟩⟩
/-! ### spec_l01Decode: function 27 -/
def spec_l01Decode.l0 : Nat → ByteArray → List Int → Int → Option (List Int × Bool)
 | 0, _, _, _ => none
 | k + 1, x0, x4, x5 => if x5 < (x0.size : Int) then ((spec_l01At.f k x0 x5).bind fun bt133 => (if bt133.2 = 0 then (some ((([] : List Int)), false)) else (if x4.length < 17592186044416 then (spec_l01Decode.l0 k x0 (x4 ++ [bt133.1]) (wrap64 (x5 + bt133.2))) else (none)))) else (some (x4, true))
def spec_l01Decode.f (k : Nat) (a0 : ByteArray) : Option (List Int × Bool) := spec_l01Decode.l0 k a0 (([] : List Int)) 0
theorem spec_l01Decode.mono_l : ∀ k, (∀ y0 y1 y2, LeO (spec_l01Decode.l0 k y0 y1 y2) (spec_l01Decode.l0 (k + 1) y0 y1 y2))
 | 0 => fun _ _ _ r h => by simp [spec_l01Decode.l0] at h
 | k + 1 => by
  have ih0 := spec_l01Decode.mono_l k
  ·intro y0 y1 y2
   unfold spec_l01Decode.l0
   repeat' first
   | (with_reducible exact ih0 _ _ _)
   | (with_reducible exact spec_l01At.mono _ _ _)
   | (with_reducible exact LeO.refl _)
   | (with_reducible exact LeO.none _)
   | (with_reducible refine LeO.ite ?_ ?_)
   | (with_reducible refine LeO.bind ?_ (fun _ => ?_))
theorem spec_l01Decode.mono : ∀ a0 k, LeO (spec_l01Decode.f k a0) (spec_l01Decode.f (k + 1) a0) := by
 intro a0 k
 have ih0 := spec_l01Decode.mono_l k
 unfold spec_l01Decode.f
 repeat' first
  | (with_reducible exact ih0 _ _ _)
  | (with_reducible exact spec_l01At.mono _ _ _)
  | (with_reducible exact LeO.refl _)
  | (with_reducible exact LeO.none _)
  | (with_reducible refine LeO.ite ?_ ?_)
  | (with_reducible refine LeO.bind ?_ (fun _ => ?_))
set_option maxHeartbeats 8000000 in
set_option maxRecDepth 100000 in
theorem spec_l01Decode.calls (k : Nat) (a0 : ByteArray) (r1 : List Int) (r2 : Bool) (w : World) (h : spec_l01Decode.f k a0 = some (r1, r2)) :
 Calls Tryd.prog 27 #[.string a0] w fun e w' => ∃ v0_ : Value, e = .returned (.tuple #[v0_, .bool r2]) ∧ Kd.R (Kd.int .i64) 3 w' w.heap.size (fun _ => True) v0_ r1 ∧ Below w.heap.size w w' := by
 have HB := Aside0.mk (Below.refl w.heap.size w)
 have H := h
 unfold spec_l01Decode.f at H
 clear h
 obtain ⟨y130, hy130⟩ : ∃ y_ : List Int, y_ = (([] : List Int)) := ⟨_, rfl⟩
 replace H : (spec_l01Decode.l0 k a0 y130 0) = some (r1, r2) := zby hy130 H
 have Ny130 := Aside0.mk hy130
 clear hy130
 have H' := Aside0.mk H
 clear H
 go_enter Tryd.func27, Tryd.ntmps27
 go_wp2_with (first | ((with_reducible refine gate_dst (N := 8) rfl ?_); refine Kd.R_lit (Kd.int .i64) _ 3 ?hg (N := 8) ?hd (xs := ([] : List Int)) (inner := []) (ok := fun _ => True) (okp := fun _ => True) ?hr ?hp (fun _ hk => hk) trivial (Below.refl _ _) (Nat.le_refl _) (by simp) ?_; (case hd => rfl); (case hg => rfl); (case hr => first | (go_simp; done) | (go_simp; rfl)); (case hp => exact (Reps.none _ _)); intro v131 w2 ho3 hb hg_ hnew_; clear hg_ hnew_; (first | rw [← Ny130.out] at ho3 | (simp only [Int.reduceToNat] at ho3; rw [← Ny130.out] at ho3)); have HO132 := Aside0.mk (Kd.R_lower ho3 (below_size (zh HB))); replace HB := Aside0.mk (below_step (zh HB) hb); clear hb ho3))
 go_loopg [4, 5] k (fun kq v4 v5 w' => ∃ (x4_1 : List Int) (x5_1 : Int), v5 = .int .i64 x5_1 ∧ Aside0 (spec_l01Decode.l0 kq a0 x4_1 x5_1 = some (r1, r2)) ∧ Aside0 (kq ≤ k) ∧ Aside0 (Kd.R (Kd.int .i64) 3 w' w.heap.size (fun _ => True) v4 x4_1) ∧ Aside0 (Below w.heap.size w w'))
 case atStart => exact ⟨(y130), (0), zrs, H', ⟨Nat.le_refl _⟩, ⟨zr HO132⟩, ⟨zh HB⟩⟩
 case round =>
  clear H'
  obtain ⟨x4_1, x5_1, rfl, HA, HK1, HO_4, HB⟩ := hrel
  cases gk with
  | zero => exact absurd HA.out (by simp [spec_l01Decode.l0])
  | succ k1 =>
   have H := HA.out
   clear HA
   simp only [spec_l01Decode.l0] at H
   by_cases c4 : x5_1 < (a0.size : Int)
   rotate_left
   ·rw [if_neg c4] at H
    have c4b0 : decide (x5_1 < (a0.size : Int)) = false := decide_eq_false c4
    clear c4
    simp only [Option.some.injEq, Prod.mk.injEq] at H
    obtain ⟨rfl, rfl⟩ := H
    go_wp2
    go_ret2
    exact ⟨_, zre, by (with_reducible repeat (first | apply Kd.R_alloc | apply Kd.R_drewN | apply Kd.R_drew)); exact HO_4.out, zh HB⟩

   rw [if_pos c4] at H
   have c4b0 : decide (x5_1 < (a0.size : Int)) = true := decide_eq_true c4
   clear c4
   replace H := Option.bind_eq_some_iff.mp H
   obtain ⟨⟨t133, t134⟩, A50, H⟩ := H
   try dsimp only at H
   have A5 := Aside0.mk A50
   clear A50
   by_cases c6 : t134 = 0
   ·rw [if_pos c6] at H
    have c6b0 : (t134 == 0) = true := beq_iff_eq.mpr c6
    have c6b1 : (t134 != 0) = false := bne_eq_false_iff_eq.mpr c6
    clear c6
    obtain ⟨y135, hy135⟩ : ∃ y_ : List Int, y_ = (([] : List Int)) := ⟨_, rfl⟩
    replace H : (some (y135, false)) = some (r1, r2) := zby hy135 H
    have Ny135 := Aside0.mk hy135
    clear hy135
    simp only [Option.some.injEq, Prod.mk.injEq] at H
    obtain ⟨rfl, rfl⟩ := H
    go_wp2_with (first | ((with_reducible refine gate_callee (f := 40) rfl ?_); refine goesL_ (some 16) rfl rfl Tryd.func40 (by kernel_rfl) rfl #[.string a0, .int .i64 x5_1] rfl zar ?_; (with_reducible refine (spec_l01At.calls k1 a0 x5_1 t133 t134 _ A5.out).mono ?_); rintro e w7 ⟨rfl, hb⟩; refine ⟨_, rfl, ?_⟩; replace HO_4 := Aside0.mk (Kd.R_below (zr HO_4) hb); replace HB := Aside0.mk (below_step (zh HB) hb); (try clear hb); (try clear hb2); (try clear hk); (try clear hi)) | ((with_reducible refine gate_dst (N := 21) rfl ?_); refine Kd.R_lit (Kd.int .i64) _ 3 ?hg (N := 21) ?hd (xs := ([] : List Int)) (inner := []) (ok := fun _ => True) (okp := fun _ => True) ?hr ?hp (fun _ hk => hk) trivial (Below.refl _ _) (Nat.le_refl _) (by simp) ?_; (case hd => rfl); (case hg => rfl); (case hr => first | (go_simp; done) | (go_simp; rfl)); (case hp => exact (Reps.none _ _)); intro v136 w9 ho10 hb hg_ hnew_; clear hg_ hnew_; (first | rw [← Ny135.out] at ho10 | (simp only [Int.reduceToNat] at ho10; rw [← Ny135.out] at ho10)); have HO137 := Aside0.mk (Kd.R_lower (Kd.R_new' ho10 (Kd.R_lt (zr HO_4))) (below_size (zh HB))); replace HO_4 := Aside0.mk (Kd.R_elder' (zr HO_4) (Kd.R_base ho10) hb); replace HB := Aside0.mk (below_step (zh HB) hb); clear hb ho10))
    go_ret2
    exact ⟨_, zre, Kd.R_mono (zr HO137) (fun _ hk => trivial), zh HB⟩
   rw [if_neg c6] at H
   have c6b0 : (t134 == 0) = false := beq_eq_false_iff_ne.mpr c6
   have c6b1 : (t134 != 0) = true := bne_iff_ne.mpr c6
   by_cases c11 : x4_1.length < 17592186044416
   rotate_left
   ·rw [if_neg c11] at H
    exact absurd H (by simp)
   rw [if_pos c11] at H
   have LMc11 := Aside0.mk c11
   clear c11
   obtain ⟨y138, hy138⟩ : ∃ y_ : List Int, y_ = (x4_1 ++ [t133]) := ⟨_, rfl⟩
   replace H : (spec_l01Decode.l0 k1 a0 y138 (wrap64 (x5_1 + t134))) = some (r1, r2) := zby hy138 H
   have Ny138 := Aside0.mk hy138
   clear hy138
   have H' := Aside0.mk H
   clear H
   go_wp2_with (first | ((with_reducible refine gate_callee (f := 40) rfl ?_); refine goesL_ (some 16) rfl rfl Tryd.func40 (by kernel_rfl) rfl #[.string a0, .int .i64 x5_1] rfl zar ?_; (with_reducible refine (spec_l01At.calls k1 a0 x5_1 t133 t134 _ A5.out).mono ?_); rintro e w12 ⟨rfl, hb⟩; refine ⟨_, rfl, ?_⟩; replace HO_4 := Aside0.mk (Kd.R_below (zr HO_4) hb); replace HB := Aside0.mk (below_step (zh HB) hb); (try clear hb); (try clear hb2); (try clear hk); (try clear hi)) | ((with_reducible refine gate_builtin (b := .append) (xs := #[.tmp 22, .tmp 24]) rfl ?_); at_builtin; refine Kd.R_append (Kd.int .i64) (w0 := w) w.heap.size rfl (.tmp 22) (.tmp 24) 58 3 (.int .i64 0) 8 rfl Tryd.underlying58 info3 rfl (by decide) (by omega) u4 x4_1 t133 [.int .i64 t133] (fun _ => True) (fun _ => False) rfl rfl ?aP (fun _ hk => hk.elim) ?aF ?aO ?aB ?aS ?aL ?_; (case aP => exact rfl); (case aB => exact (zh HB)); (case aF => exact (fun _ _ => trivial)); (case aO => exact (zr HO_4)); (case aS => exact (below_size (zh HB))); (case aL => have := LMc11.out; omega); intro v139 w14 ho hb hg hat; rw [← Ny138.out] at ho; replace HB := Aside0.mk (hb); have HO140 := Aside0.mk (ho); clear HO_4; clear ho hb hg hat))
   go_roundg k1
   case measure => have := HK1.out; omega
   case rel => exact ⟨(y138), (wrap64 (x5_1 + t134)), zrs, H', ⟨by have := HK1.out; omega⟩, ⟨zr HO140⟩, ⟨zh HB⟩⟩
/-! ### spec_l02TermOK: function 20 -/
def spec_l02TermOK.f (k : Nat) (a0 : ByteArray) : Option (Bool) := (spec_l01Decode.f k a0).bind fun bt141 => (if (a0.size : Int) ≥ 1 then (if (a0.size : Int) ≤ 64 then (some bt141.2) else (some false)) else (some false))
theorem spec_l02TermOK.mono : ∀ a0 k, LeO (spec_l02TermOK.f k a0) (spec_l02TermOK.f (k + 1) a0) := by
 intro a0 k
 unfold spec_l02TermOK.f
 repeat' first
  | (with_reducible exact spec_l01Decode.mono _ _)
  | (with_reducible exact LeO.refl _)
  | (with_reducible exact LeO.none _)
  | (with_reducible refine LeO.ite ?_ ?_)
  | (with_reducible refine LeO.bind ?_ (fun _ => ?_))
set_option maxHeartbeats 8000000 in
set_option maxRecDepth 100000 in
theorem spec_l02TermOK.calls (k : Nat) (a0 : ByteArray) (r : Bool) (w : World) (h : spec_l02TermOK.f k a0 = some r) :
 Calls Tryd.prog 20 #[.string a0] w fun e w' => e = .returned (.bool r) ∧ Below w.heap.size w w' := by
 have HB := Aside0.mk (Below.refl w.heap.size w)
 have H := h
 unfold spec_l02TermOK.f at H
 clear h
 replace H := Option.bind_eq_some_iff.mp H
 obtain ⟨⟨t141, t142⟩, A20, H⟩ := H
 try dsimp only at H
 have A2 := Aside0.mk A20
 clear A20
 by_cases c3 : (a0.size : Int) ≥ 1
 rotate_left
 ·rw [if_neg c3] at H
  have c3b0 : decide (1 ≤ (a0.size : Int)) = false := decide_eq_false c3
  have c3b1 : decide (1 ≤ a0.size) = false := decide_eq_false (by omega)
  clear c3
  obtain rfl := Option.some.inj H
  go_enter Tryd.func20, Tryd.ntmps20
  go_wp2_with (first | ((with_reducible refine gate_callee (f := 27) rfl ?_); refine goesL_ (some 7) rfl rfl Tryd.func27 (by kernel_rfl) rfl #[.string a0] rfl zar ?_; (with_reducible refine (spec_l01Decode.calls k a0 t141 t142 _ A2.out).mono ?_); rintro e w9 ⟨v143, rfl, ho0, hb⟩; refine ⟨_, rfl, ?_⟩; have HO144 := Aside0.mk (Kd.R_lower ho0 (below_size (zh HB))); replace HB := Aside0.mk (below_step (zh HB) hb); (try clear hb ho0); (try clear hb); (try clear hk); (try clear hi)))
  go_ret
  exact ⟨zre, zh HB⟩

 rw [if_pos c3] at H
 have c3b0 : decide (1 ≤ (a0.size : Int)) = true := decide_eq_true c3
 have c3b1 : decide (1 ≤ a0.size) = true := decide_eq_true (by omega)
 clear c3
 by_cases c4 : (a0.size : Int) ≤ 64
 ·rw [if_pos c4] at H
  have c4b0 : decide ((a0.size : Int) ≤ 64) = true := decide_eq_true c4
  have c4b1 : decide (a0.size ≤ 64) = true := decide_eq_true (by omega)
  clear c4
  obtain rfl := Option.some.inj H
  go_enter Tryd.func20, Tryd.ntmps20
  go_wp2_with (first | ((with_reducible refine gate_callee (f := 27) rfl ?_); refine goesL_ (some 7) rfl rfl Tryd.func27 (by kernel_rfl) rfl #[.string a0] rfl zar ?_; (with_reducible refine (spec_l01Decode.calls k a0 t141 t142 _ A2.out).mono ?_); rintro e w5 ⟨v143, rfl, ho0, hb⟩; refine ⟨_, rfl, ?_⟩; have HO144 := Aside0.mk (Kd.R_lower ho0 (below_size (zh HB))); replace HB := Aside0.mk (below_step (zh HB) hb); (try clear hb ho0); (try clear hb); (try clear hk); (try clear hi)))
  go_ret
  exact ⟨zre, zh HB⟩
 rw [if_neg c4] at H
 have c4b0 : decide ((a0.size : Int) ≤ 64) = false := decide_eq_false c4
 have c4b1 : decide (a0.size ≤ 64) = false := decide_eq_false (by omega)
 clear c4
 obtain rfl := Option.some.inj H
 go_enter Tryd.func20, Tryd.ntmps20
 go_wp2_with (first | ((with_reducible refine gate_callee (f := 27) rfl ?_); refine goesL_ (some 7) rfl rfl Tryd.func27 (by kernel_rfl) rfl #[.string a0] rfl zar ?_; (with_reducible refine (spec_l01Decode.calls k a0 t141 t142 _ A2.out).mono ?_); rintro e w7 ⟨v143, rfl, ho0, hb⟩; refine ⟨_, rfl, ?_⟩; have HO144 := Aside0.mk (Kd.R_lower ho0 (below_size (zh HB))); replace HB := Aside0.mk (below_step (zh HB) hb); (try clear hb ho0); (try clear hb); (try clear hk); (try clear hi)))
 go_ret
 exact ⟨zre, zh HB⟩
end Go.Proofs.YtmbgncgcddjomaaDoor.XFnExactSchemaOK
