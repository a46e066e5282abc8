-- A printed text of this session (wip/x/xprint.py).
import Derived.Test.YtcokeankiedfcaaDoorXFnSuggestx0
import Derived.Test.YtcokeankiedfcaaDoorXFnSuggestx3
import Derived.Test.YtcokeankiedfcaaDoorXFnSuggestx4
namespace Go.Proofs.YtcokeankiedfcaaDoor.XFnSuggest
open Go.RowKit Go.Proofs.YtcokeankiedfcaaDoorW.PrintWords Go.Proofs.YtcokeankiedfcaaDoorW.PrintLast Go.Proofs.YtcokeankiedfcaaDoorW.PrintMore
attribute [local go_sem] max2_int min2_int max_two min_two max_three min_three max_four min_four   -- for this text's walks alone
set_option linter.unusedVariables false
set_option linter.unusedSimpArgs false

/-! ### spec_Edits: function 22 -/
def spec_Edits.j0 : Nat → ByteArray → ByteArray → Bool → Option (Int × Int)
 | 0, _, _, _ => none
 | k + 1, x0, x1, x16 => if x16 = true then (some (0, 2)) else ((spec_Decode.f k x0).bind fun bt188 => (if bt188.2 = 0 then ((spec_Decode.f k x1).bind fun bt192 => (if bt192.2 = 0 then (if (bt188.1.length : Int) > 200 then (some (0, 12)) else (if (bt192.1.length : Int) > 200 then (some (0, 12)) else ((spec_l05Edits.f k bt188.1 bt192.1).bind fun t196 => (some (t196, 0))))) else (some (0, bt192.2)))) else (some (0, bt188.2))))
def spec_Edits.f (k : Nat) (a0 : ByteArray) (a1 : ByteArray) : Option (Int × Int) := if (a0.size : Int) > 65536 then (spec_Edits.j0 k a0 a1 true) else (spec_Edits.j0 k a0 a1 (decide ((a1.size : Int) > 65536)))
theorem spec_Edits.mono_l : ∀ k, (∀ y0 y1 y2, LeO (spec_Edits.j0 k y0 y1 y2) (spec_Edits.j0 (k + 1) y0 y1 y2))
 | 0 => fun _ _ _ r h => by simp [spec_Edits.j0] at h
 | k + 1 => by
  have ih0 := spec_Edits.mono_l k
  ·intro y0 y1 y2
   unfold spec_Edits.j0
   repeat' first
   | (with_reducible exact ih0 _ _ _)
   | (with_reducible exact spec_Decode.mono _ _)
   | (with_reducible exact spec_l05Edits.mono _ _ _)
   | (with_reducible exact LeO.refl _)
   | (with_reducible exact LeO.none _)
   | (with_reducible refine LeO.ite ?_ ?_)
   | (with_reducible refine LeO.bind ?_ (fun _ => ?_))
theorem spec_Edits.mono : ∀ a0 a1 k, LeO (spec_Edits.f k a0 a1) (spec_Edits.f (k + 1) a0 a1) := by
 intro a0 a1 k
 have ih0 := spec_Edits.mono_l k
 unfold spec_Edits.f
 repeat' first
  | (with_reducible exact ih0 _ _ _)
  | (with_reducible exact spec_Decode.mono _ _)
  | (with_reducible exact spec_l05Edits.mono _ _ _)
  | (with_reducible exact LeO.refl _)
  | (with_reducible exact LeO.none _)
  | (with_reducible refine LeO.ite ?_ ?_)
  | (with_reducible refine LeO.bind ?_ (fun _ => ?_))
set_option maxHeartbeats 8000000 in
set_option maxRecDepth 100000 in
theorem spec_Edits.calls (k : Nat) (a0 : ByteArray) (a1 : ByteArray) (r1 : Int) (r2 : Int) (w : World) (h : spec_Edits.f k a0 a1 = some (r1, r2)) :
 Calls Tryd.prog 22 #[.string a0, .string a1] w fun e w' => e = .returned (.tuple #[.int .i64 r1, .int .i64 r2]) ∧ Below w.heap.size w w' := by
 have HB := Aside0.mk (Below.refl w.heap.size w)
 have H := h
 unfold spec_Edits.f at H
 clear h
 have HC3 := Aside0.mk H
 clear H
 go_enter Tryd.func22, Tryd.ntmps22
 go_upto_region 1 with (fail)
 go_cut [16] (fun v16 wc => ∃ (kq : Nat) (x16_2 : Bool), v16 = .bool x16_2 ∧ Aside0 (spec_Edits.j0 kq a0 a1 x16_2 = some (r1, r2)) ∧ Aside0 (kq ≤ k) ∧ Aside0 (Below w.heap.size w wc))
 case first =>
  have H := HC3.out
  clear HC3
  by_cases c4 : (a0.size : Int) > 65536
  ·rw [if_pos c4] at H
   have c4b0 : decide (65536 < (a0.size : Int)) = true := decide_eq_true c4
   have c4b1 : decide (65536 < a0.size) = true := decide_eq_true (by omega)
   clear c4
   (first | rw [c4b0] | (simp only [i64_w, i32_w]; rw [c4b0]) | skip)
   have H' := Aside0.mk H
   clear H
   go_wp2
   go_meet
   case rel => exact ⟨_, (true), zrs, H', ⟨by first | omega | exact Nat.le_refl _⟩, ⟨zh HB⟩⟩
  rw [if_neg c4] at H
  have c4b0 : decide (65536 < (a0.size : Int)) = false := decide_eq_false c4
  have c4b1 : decide (65536 < a0.size) = false := decide_eq_false (by omega)
  clear c4
  (first | rw [c4b0] | (simp only [i64_w, i32_w]; rw [c4b0]) | skip)
  have H' := Aside0.mk H
  clear H
  go_wp2
  go_meet
  case rel => exact ⟨_, (decide ((a1.size : Int) > 65536)), zrs, H', ⟨by first | omega | exact Nat.le_refl _⟩, ⟨zh HB⟩⟩
 case rest =>
  clear HC3
  obtain ⟨kq, x16_2, rfl, HA, HJ2, HB⟩ := hcut
  cases kq with
  | zero => exact absurd HA.out (by simp [spec_Edits.j0])
  | succ kj2 =>
   have H := HA.out
   clear HA
   simp only [spec_Edits.j0] at H
   by_cases c5 : x16_2 = true
   ·subst c5
    rw [if_pos rfl] at H
    simp only [Option.some.injEq, Prod.mk.injEq] at H
    obtain ⟨rfl, rfl⟩ := H
    go_wp2
    go_ret2
    exact ⟨zre, zh HB⟩
   replace c5 := Bool.eq_false_iff.mpr c5
   subst c5
   rw [if_neg (show ¬ (false = true) by decide)] at H
   replace H := Option.bind_eq_some_iff.mp H
   obtain ⟨⟨t188, t189⟩, A60, H⟩ := H
   try dsimp only at H
   have A6 := Aside0.mk A60
   clear A60
   by_cases c7 : t189 = 0
   rotate_left
   ·rw [if_neg c7] at H
    have c7b0 : (t189 == 0) = false := beq_eq_false_iff_ne.mpr c7
    have c7b1 : (t189 != 0) = true := bne_iff_ne.mpr c7
    simp only [Option.some.injEq, Prod.mk.injEq] at H
    obtain ⟨rfl, rfl⟩ := H
    go_wp2_with (first | ((with_reducible refine gate_callee (f := 15) rfl ?_); refine goesL_ (some 19) rfl rfl Tryd.func15 (by kernel_rfl) rfl #[.string a0] rfl zar ?_; (with_reducible refine (spec_Decode.calls kj2 a0 t188 t189 _ A6.out).mono ?_); rintro e w36 ⟨v190, rfl, ho0, hb⟩; refine ⟨_, rfl, ?_⟩; have HO191 := Aside0.mk (Kd.R_lower ho0 (below_size (zh HB))); replace HB := Aside0.mk (below_step (zh HB) hb); (try clear hb ho0); (try clear hb); (try clear hk); (try clear hi)))
    go_ret2
    exact ⟨zre, zh HB⟩

   rw [if_pos c7] at H
   have c7b0 : (t189 == 0) = true := beq_iff_eq.mpr c7
   have c7b1 : (t189 != 0) = false := bne_eq_false_iff_eq.mpr c7
   clear c7
   replace H := Option.bind_eq_some_iff.mp H
   obtain ⟨⟨t192, t193⟩, A80, H⟩ := H
   try dsimp only at H
   have A8 := Aside0.mk A80
   clear A80
   by_cases c9 : t193 = 0
   rotate_left
   ·rw [if_neg c9] at H
    have c9b0 : (t193 == 0) = false := beq_eq_false_iff_ne.mpr c9
    have c9b1 : (t193 != 0) = true := bne_iff_ne.mpr c9
    simp only [Option.some.injEq, Prod.mk.injEq] at H
    obtain ⟨rfl, rfl⟩ := H
    go_wp2_with (first | ((with_reducible refine gate_callee (f := 15) rfl ?_); refine goesL_ (some 19) rfl rfl Tryd.func15 (by kernel_rfl) rfl #[.string a0] rfl zar ?_; (with_reducible refine (spec_Decode.calls kj2 a0 t188 t189 _ A6.out).mono ?_); rintro e w32 ⟨v190, rfl, ho0, hb⟩; refine ⟨_, rfl, ?_⟩; have HO191 := Aside0.mk (Kd.R_lower ho0 (below_size (zh HB))); replace HB := Aside0.mk (below_step (zh HB) hb); (try clear hb ho0); (try clear hb); (try clear hk); (try clear hi)) | ((with_reducible refine gate_callee (f := 15) rfl ?_); refine goesL_ (some 27) rfl rfl Tryd.func15 (by kernel_rfl) rfl #[.string a1] rfl zar ?_; (with_reducible refine (spec_Decode.calls kj2 a1 t192 t193 _ A8.out).mono ?_); rintro e w34 ⟨v194, rfl, ho0, hb⟩; refine ⟨_, rfl, ?_⟩; have HO195 := Aside0.mk (Kd.R_lower (Kd.R_new' ho0 (Kd.R_lt (zr HO191))) (below_size (zh HB))); replace HO191 := Aside0.mk (Kd.R_elder' (zr HO191) (Kd.R_base ho0) hb); replace HB := Aside0.mk (below_step (zh HB) hb); (try clear hb ho0); (try clear hb); (try clear hk); (try clear hi)))
    go_ret2
    exact ⟨zre, zh HB⟩
   rw [if_pos c9] at H
   have c9b0 : (t193 == 0) = true := beq_iff_eq.mpr c9
   have c9b1 : (t193 != 0) = false := bne_eq_false_iff_eq.mpr c9
   clear c9
   by_cases c10 : (t188.length : Int) > 200
   ·rw [if_pos c10] at H
    have c10b0 : decide (200 < (t188.length : Int)) = true := decide_eq_true c10
    have c10b1 : decide (200 < t188.length) = true := decide_eq_true (by omega)
    clear c10
    simp only [Option.some.injEq, Prod.mk.injEq] at H
    obtain ⟨rfl, rfl⟩ := H
    go_wp2_with (first | ((with_reducible refine gate_callee (f := 15) rfl ?_); refine goesL_ (some 19) rfl rfl Tryd.func15 (by kernel_rfl) rfl #[.string a0] rfl zar ?_; (with_reducible refine (spec_Decode.calls kj2 a0 t188 t189 _ A6.out).mono ?_); rintro e w11 ⟨v190, rfl, ho0, hb⟩; refine ⟨_, rfl, ?_⟩; have HO191 := Aside0.mk (Kd.R_lower ho0 (below_size (zh HB))); replace HB := Aside0.mk (below_step (zh HB) hb); (try clear hb ho0); (try clear hb); (try clear hk); (try clear hi)) | ((with_reducible refine gate_callee (f := 15) rfl ?_); refine goesL_ (some 27) rfl rfl Tryd.func15 (by kernel_rfl) rfl #[.string a1] rfl zar ?_; (with_reducible refine (spec_Decode.calls kj2 a1 t192 t193 _ A8.out).mono ?_); rintro e w13 ⟨v194, rfl, ho0, hb⟩; refine ⟨_, rfl, ?_⟩; have HO195 := Aside0.mk (Kd.R_lower (Kd.R_new' ho0 (Kd.R_lt (zr HO191))) (below_size (zh HB))); replace HO191 := Aside0.mk (Kd.R_elder' (zr HO191) (Kd.R_base ho0) hb); replace HB := Aside0.mk (below_step (zh HB) hb); (try clear hb ho0); (try clear hb); (try clear hk); (try clear hi); obtain ⟨Ao15, co15, eo15⟩ := Kd.R_slice HO191.out; subst eo15))
    go_ret2
    exact ⟨zre, zh HB⟩
   rw [if_neg c10] at H
   have c10b0 : decide (200 < (t188.length : Int)) = false := decide_eq_false c10
   have c10b1 : decide (200 < t188.length) = false := decide_eq_false (by omega)
   clear c10
   by_cases c16 : (t192.length : Int) > 200
   ·rw [if_pos c16] at H
    have c16b0 : decide (200 < (t192.length : Int)) = true := decide_eq_true c16
    have c16b1 : decide (200 < t192.length) = true := decide_eq_true (by omega)
    clear c16
    simp only [Option.some.injEq, Prod.mk.injEq] at H
    obtain ⟨rfl, rfl⟩ := H
    go_wp2_with (first | ((with_reducible refine gate_callee (f := 15) rfl ?_); refine goesL_ (some 19) rfl rfl Tryd.func15 (by kernel_rfl) rfl #[.string a0] rfl zar ?_; (with_reducible refine (spec_Decode.calls kj2 a0 t188 t189 _ A6.out).mono ?_); rintro e w17 ⟨v190, rfl, ho0, hb⟩; refine ⟨_, rfl, ?_⟩; have HO191 := Aside0.mk (Kd.R_lower ho0 (below_size (zh HB))); replace HB := Aside0.mk (below_step (zh HB) hb); (try clear hb ho0); (try clear hb); (try clear hk); (try clear hi)) | ((with_reducible refine gate_callee (f := 15) rfl ?_); refine goesL_ (some 27) rfl rfl Tryd.func15 (by kernel_rfl) rfl #[.string a1] rfl zar ?_; (with_reducible refine (spec_Decode.calls kj2 a1 t192 t193 _ A8.out).mono ?_); rintro e w19 ⟨v194, rfl, ho0, hb⟩; refine ⟨_, rfl, ?_⟩; have HO195 := Aside0.mk (Kd.R_lower (Kd.R_new' ho0 (Kd.R_lt (zr HO191))) (below_size (zh HB))); replace HO191 := Aside0.mk (Kd.R_elder' (zr HO191) (Kd.R_base ho0) hb); replace HB := Aside0.mk (below_step (zh HB) hb); (try clear hb ho0); (try clear hb); (try clear hk); (try clear hi); obtain ⟨Ao21, co21, eo21⟩ := Kd.R_slice HO191.out; subst eo21; obtain ⟨Ao22, co22, eo22⟩ := Kd.R_slice HO195.out; subst eo22))
    go_ret2
    exact ⟨zre, zh HB⟩
   rw [if_neg c16] at H
   have c16b0 : decide (200 < (t192.length : Int)) = false := decide_eq_false c16
   have c16b1 : decide (200 < t192.length) = false := decide_eq_false (by omega)
   clear c16
   replace H := Option.bind_eq_some_iff.mp H
   obtain ⟨t196, A230, H⟩ := H
   try dsimp only at H
   have A23 := Aside0.mk A230
   clear A230
   simp only [Option.some.injEq, Prod.mk.injEq] at H
   obtain ⟨rfl, rfl⟩ := H
   go_wp2_with (first | ((with_reducible refine gate_callee (f := 15) rfl ?_); refine goesL_ (some 19) rfl rfl Tryd.func15 (by kernel_rfl) rfl #[.string a0] rfl zar ?_; (with_reducible refine (spec_Decode.calls kj2 a0 t188 t189 _ A6.out).mono ?_); rintro e w24 ⟨v190, rfl, ho0, hb⟩; refine ⟨_, rfl, ?_⟩; have HO191 := Aside0.mk (Kd.R_lower ho0 (below_size (zh HB))); replace HB := Aside0.mk (below_step (zh HB) hb); (try clear hb ho0); (try clear hb); (try clear hk); (try clear hi)) | ((with_reducible refine gate_callee (f := 15) rfl ?_); refine goesL_ (some 27) rfl rfl Tryd.func15 (by kernel_rfl) rfl #[.string a1] rfl zar ?_; (with_reducible refine (spec_Decode.calls kj2 a1 t192 t193 _ A8.out).mono ?_); rintro e w26 ⟨v194, rfl, ho0, hb⟩; refine ⟨_, rfl, ?_⟩; have HO195 := Aside0.mk (Kd.R_lower (Kd.R_new' ho0 (Kd.R_lt (zr HO191))) (below_size (zh HB))); replace HO191 := Aside0.mk (Kd.R_elder' (zr HO191) (Kd.R_base ho0) hb); replace HB := Aside0.mk (below_step (zh HB) hb); (try clear hb ho0); (try clear hb); (try clear hk); (try clear hi); obtain ⟨Ao28, co28, eo28⟩ := Kd.R_slice HO191.out; subst eo28; obtain ⟨Ao29, co29, eo29⟩ := Kd.R_slice HO195.out; subst eo29) | ((with_reducible refine gate_callee (f := 56) rfl ?_); refine goesL_ (some 43) rfl rfl Tryd.func56 (by kernel_rfl) rfl #[.slice Ao28 t188.length co28, .slice Ao29 t192.length co29] rfl zar ?_; (with_reducible refine (spec_l05Edits.calls kj2 _ _ t188 _ _ t192 t196 _ ?side1 ?side2 ?side3 ?side4 A23.out).mono ?_); (case side1 => exact zC (Kd.R_reads' HO191.out).2.2); (case side2 => exact (Kd.R_reads' HO191.out).2.1); (case side3 => exact zC (Kd.R_reads' HO195.out).2.2); (case side4 => exact (Kd.R_reads' HO195.out).2.1); rintro e w30 ⟨rfl, hb⟩; refine ⟨_, rfl, ?_⟩; replace HO191 := Aside0.mk (Kd.R_below (zr HO191) hb); replace HO195 := Aside0.mk (Kd.R_below (zr HO195) hb); replace HB := Aside0.mk (below_step (zh HB) hb); (try clear hb); (try clear hb2); (try clear hk); (try clear hi)))
   go_ret2
   exact ⟨zre, zh HB⟩
end Go.Proofs.YtcokeankiedfcaaDoor.XFnSuggest
