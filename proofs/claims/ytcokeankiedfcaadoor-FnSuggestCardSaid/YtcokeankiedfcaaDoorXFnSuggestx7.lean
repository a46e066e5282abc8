-- A printed text of this session (wip/x/xprint.py).
import Derived.Test.YtcokeankiedfcaaDoorXFnSuggestx0
import Derived.Test.YtcokeankiedfcaaDoorXFnSuggestx3
import Derived.Test.YtcokeankiedfcaaDoorXFnSuggestx5
import Derived.Test.YtcokeankiedfcaaDoorXFnSuggestx6
namespace Go.Proofs.YtcokeankiedfcaaDoor.XFnSuggest
open Go.RowKit Go.Proofs.YtcokeankiedfcaaDoorW.PrintWords Go.Proofs.YtcokeankiedfcaaDoorW.PrintLast Go.Proofs.YtcokeankiedfcaaDoorW.PrintMore
attribute [local go_sem] max2_int min2_int max_two min_two max_three min_three max_four min_four   -- for this text's walks alone
set_option linter.unusedVariables false
set_option linter.unusedSimpArgs false

/-! ### spec_Suggest: function 48 -/
mutual
def spec_Suggest.j0 : Nat → List ByteArray → ByteArray → Int → Bool → Option (List ByteArray × Int)
 | 0, _, _, _, _ => none
 | k + 1, x0, x1, x2, x26 => if x26 = true then (some ((([] : List ByteArray)), 2)) else ((spec_l01Decode.f k x1).bind fun bt234 => (if bt234.2 = true then (spec_Suggest.l0 k x0 x1 x2 bt234.1 0) else (some ((([] : List ByteArray)), 3))))
def spec_Suggest.l0 : Nat → List ByteArray → ByteArray → Int → List Int → Int → Option (List ByteArray × Int)
 | 0, _, _, _, _, _ => none
 | k + 1, x0, x1, x2, x8, x10 => if x10 < (x0.length : Int) then (if 0 ≤ x10 then ((spec_l01Decode.f k (rdOf ByteArray.empty x0 x10)).bind fun bt242 => (if bt242.2 = true then (spec_Suggest.l0 k x0 x1 x2 x8 (wrap64 (x10 + 1))) else (some ((([] : List ByteArray)), 3)))) else (none)) else (if (x8.length : Int) > 200 then (spec_Suggest.j2 k x0 x1 x2 true) else (if x2 < 0 then (spec_Suggest.j2 k x0 x1 x2 true) else (spec_Suggest.j2 k x0 x1 x2 (decide (x2 > 20)))))
def spec_Suggest.j2 : Nat → List ByteArray → ByteArray → Int → Bool → Option (List ByteArray × Int)
 | 0, _, _, _, _ => none
 | k + 1, x0, x1, x2, x63 => if x63 = true then (some ((([] : List ByteArray)), 12)) else ((spec_l07Names.f k x0).bind fun t255 => (spec_Suggest.l1 k x1 x2 (([] : List ByteArray)) t255 0))
def spec_Suggest.l1 : Nat → ByteArray → Int → List ByteArray → List ByteArray → Int → Option (List ByteArray × Int)
 | 0, _, _, _, _, _ => none
 | k + 1, x1, x2, x13, x14, x15 => if x15 ≤ 2 then (spec_Suggest.l2 k x1 x2 x13 x14 x15 0) else (some (x13, 0))
def spec_Suggest.l2 : Nat → ByteArray → Int → List ByteArray → List ByteArray → Int → Int → Option (List ByteArray × Int)
 | 0, _, _, _, _, _, _ => none
 | k + 1, x1, x2, x13, x14, x15, x16 => if x16 < (x14.length : Int) then (if 0 ≤ x16 then ((spec_Edits.f k x1 (rdOf ByteArray.empty x14 x16)).bind fun bt259 => (if bt259.2 = 0 then (if bt259.1 = x15 then (spec_Suggest.j5 k x1 x2 x13 x14 x15 x16 (decide ((x13.length : Int) < x2))) else (spec_Suggest.j5 k x1 x2 x13 x14 x15 x16 false)) else (spec_Suggest.j5 k x1 x2 x13 x14 x15 x16 false))) else (none)) else (spec_Suggest.l1 k x1 x2 x13 x14 (wrap64 (x15 + 1)))
def spec_Suggest.j5 : Nat → ByteArray → Int → List ByteArray → List ByteArray → Int → Int → Bool → Option (List ByteArray × Int)
 | 0, _, _, _, _, _, _, _ => none
 | k + 1, x1, x2, x13, x14, x15, x16, x99 => if x99 = true then (if 0 ≤ x16 then (if x16 < (x14.length : Int) then (if x13.length < 8796093022208 then (spec_Suggest.l2 k x1 x2 (x13 ++ [rdOf ByteArray.empty x14 x16]) x14 x15 (wrap64 (x16 + 1))) else (none)) else (none)) else (none)) else (spec_Suggest.l2 k x1 x2 x13 x14 x15 (wrap64 (x16 + 1)))
end
def spec_Suggest.f (k : Nat) (l0 : List ByteArray) (a1 : ByteArray) (a2 : Int) : Option (List ByteArray × Int) := if (l0.length : Int) > 4096 then (spec_Suggest.j0 k l0 a1 a2 true) else (spec_Suggest.j0 k l0 a1 a2 (decide ((a1.size : Int) > 65536)))
theorem spec_Suggest.mono_l : ∀ k, (∀ y0 y1 y2 y3, LeO (spec_Suggest.j0 k y0 y1 y2 y3) (spec_Suggest.j0 (k + 1) y0 y1 y2 y3)) ∧ (∀ y0 y1 y2 y3 y4, LeO (spec_Suggest.l0 k y0 y1 y2 y3 y4) (spec_Suggest.l0 (k + 1) y0 y1 y2 y3 y4)) ∧ (∀ y0 y1 y2 y3, LeO (spec_Suggest.j2 k y0 y1 y2 y3) (spec_Suggest.j2 (k + 1) y0 y1 y2 y3)) ∧ (∀ y0 y1 y2 y3 y4, LeO (spec_Suggest.l1 k y0 y1 y2 y3 y4) (spec_Suggest.l1 (k + 1) y0 y1 y2 y3 y4)) ∧ (∀ y0 y1 y2 y3 y4 y5, LeO (spec_Suggest.l2 k y0 y1 y2 y3 y4 y5) (spec_Suggest.l2 (k + 1) y0 y1 y2 y3 y4 y5)) ∧ (∀ y0 y1 y2 y3 y4 y5 y6, LeO (spec_Suggest.j5 k y0 y1 y2 y3 y4 y5 y6) (spec_Suggest.j5 (k + 1) y0 y1 y2 y3 y4 y5 y6))
 | 0 => ⟨fun _ _ _ _ r h => by simp [spec_Suggest.j0] at h, fun _ _ _ _ _ r h => by simp [spec_Suggest.l0] at h, fun _ _ _ _ r h => by simp [spec_Suggest.j2] at h, fun _ _ _ _ _ r h => by simp [spec_Suggest.l1] at h, fun _ _ _ _ _ _ r h => by simp [spec_Suggest.l2] at h, fun _ _ _ _ _ _ _ r h => by simp [spec_Suggest.j5] at h⟩
 | k + 1 => by
  obtain ⟨ih0, ih1, ih2, ih3, ih4, ih5⟩ := spec_Suggest.mono_l k
  refine ⟨?_, ?_, ?_, ?_, ?_, ?_⟩
  all_goals intros
  all_goals first | unfold spec_Suggest.j0 | unfold spec_Suggest.l0 | unfold spec_Suggest.j2 | unfold spec_Suggest.l1 | unfold spec_Suggest.l2 | unfold spec_Suggest.j5
  all_goals
   repeat' first
   | (with_reducible exact ih0 _ _ _ _)
   | (with_reducible exact ih1 _ _ _ _ _)
   | (with_reducible exact ih2 _ _ _ _)
   | (with_reducible exact ih3 _ _ _ _ _)
   | (with_reducible exact ih4 _ _ _ _ _ _)
   | (with_reducible exact ih5 _ _ _ _ _ _ _)
   | (with_reducible exact spec_Edits.mono _ _ _)
   | (with_reducible exact spec_l01Decode.mono _ _)
   | (with_reducible exact spec_l07Names.mono _ _)
   | (with_reducible exact LeO.refl _)
   | (with_reducible exact LeO.none _)
   | (with_reducible refine LeO.ite ?_ ?_)
   | (with_reducible refine LeO.bind ?_ (fun _ => ?_))
theorem spec_Suggest.mono : ∀ a0 a1 a2 k, LeO (spec_Suggest.f k a0 a1 a2) (spec_Suggest.f (k + 1) a0 a1 a2) := by
 intro a0 a1 a2 k
 obtain ⟨ih0, ih1, ih2, ih3, ih4, ih5⟩ := spec_Suggest.mono_l k
 unfold spec_Suggest.f
 repeat' first
  | (with_reducible exact ih0 _ _ _ _)
  | (with_reducible exact ih1 _ _ _ _ _)
  | (with_reducible exact ih2 _ _ _ _)
  | (with_reducible exact ih3 _ _ _ _ _)
  | (with_reducible exact ih4 _ _ _ _ _ _)
  | (with_reducible exact ih5 _ _ _ _ _ _ _)
  | (with_reducible exact spec_Edits.mono _ _ _)
  | (with_reducible exact spec_l01Decode.mono _ _)
  | (with_reducible exact spec_l07Names.mono _ _)
  | (with_reducible exact LeO.refl _)
  | (with_reducible exact LeO.none _)
  | (with_reducible refine LeO.ite ?_ ?_)
  | (with_reducible refine LeO.bind ?_ (fun _ => ?_))
set_option maxHeartbeats 8000000 in
set_option maxRecDepth 100000 in
theorem spec_Suggest.calls (k : Nat) (A0 : Option Addr) (c0 : Nat) (l0 : List ByteArray) (a1 : ByteArray) (a2 : Int) (r1 : List ByteArray) (r2 : Int) (w : World) (hr0 : Kd.C Kd.string w A0 l0.length l0) (hc0 : l0.length ≤ c0) (h : spec_Suggest.f k l0 a1 a2 = some (r1, r2)) :
 Calls Tryd.prog 48 #[.slice A0 l0.length c0, .string a1, .int .i64 a2] w fun e w' => ∃ v0_ : Value, e = .returned (.tuple #[v0_, .int .i64 r2]) ∧ Kd.R Kd.string 9 w' w.heap.size (fun _ => True) v0_ r1 ∧ Below w.heap.size w w' := by
 have HR0 := Aside0.mk hr0
 have HC0 := Aside0.mk hc0
 clear hr0 hc0
 have HB := Aside0.mk (Below.refl w.heap.size w)
 have H := h
 unfold spec_Suggest.f at H
 clear h
 have HC4 := Aside0.mk H
 clear H
 go_enter Tryd.func48, Tryd.ntmps48
 go_upto_region 1 with (fail)
 go_cut [26] (fun v26 wc => ∃ (kq : Nat) (x26_3 : Bool), v26 = .bool x26_3 ∧ Aside0 (spec_Suggest.j0 kq l0 a1 a2 x26_3 = some (r1, r2)) ∧ Aside0 (kq ≤ k) ∧ Aside0 (Below w.heap.size w wc))
 case first =>
  have H := HC4.out
  clear HC4
  by_cases c5 : (l0.length : Int) > 4096
  ·rw [if_pos c5] at H
   have c5b0 : decide (4096 < (l0.length : Int)) = true := decide_eq_true c5
   have c5b1 : decide (4096 < l0.length) = true := decide_eq_true (by omega)
   clear c5
   (first | rw [c5b0] | (simp only [i64_w, i32_w]; rw [c5b0]) | skip)
   have H' := Aside0.mk H
   clear H
   go_wp2
   go_meet
   case rel => exact ⟨_, (true), zrs, H', ⟨by first | omega | exact Nat.le_refl _⟩, ⟨zh HB⟩⟩
  rw [if_neg c5] at H
  have c5b0 : decide (4096 < (l0.length : Int)) = false := decide_eq_false c5
  have c5b1 : decide (4096 < l0.length) = false := decide_eq_false (by omega)
  clear c5
  (first | rw [c5b0] | (simp only [i64_w, i32_w]; rw [c5b0]) | skip)
  have H' := Aside0.mk H
  clear H
  go_wp2
  go_meet
  case rel => exact ⟨_, (decide ((a1.size : Int) > 65536)), zrs, H', ⟨by first | omega | exact Nat.le_refl _⟩, ⟨zh HB⟩⟩
 case rest =>
  clear HC4
  obtain ⟨kq, x26_3, rfl, HA, HJ3, HB⟩ := hcut
  cases kq with
  | zero => exact absurd HA.out (by simp [spec_Suggest.j0])
  | succ kj3 =>
   have H := HA.out
   clear HA
   simp only [spec_Suggest.j0] at H
   by_cases c6 : x26_3 = true
   ·subst c6
    rw [if_pos rfl] at H
    obtain ⟨y231, hy231⟩ : ∃ y_ : List ByteArray, y_ = (([] : List ByteArray)) := ⟨_, rfl⟩
    replace H : (some (y231, 2)) = some (r1, r2) := zby hy231 H
    have Ny231 := Aside0.mk hy231
    clear hy231
    simp only [Option.some.injEq, Prod.mk.injEq] at H
    obtain ⟨rfl, rfl⟩ := H
    go_wp2_with (first | ((with_reducible refine gate_dst (N := 27) rfl ?_); (try (refine gate_guard (by rfl) ?_; dsimp only)); refine Kd.R_lit Kd.string _ 9 ?hg (N := 27) ?hd (xs := ([] : List ByteArray)) (inner := []) (ok := fun _ => True) (okp := fun _ => True) ?hr ?hp (fun _ hk => hk) trivial (Below.refl _ _) (Nat.le_refl _) (by simp) ?_; (case hd => rfl); (case hg => rfl); (case hr => first | (go_simp; done) | (go_simp; rfl)); (case hp => exact (Reps.none _ _)); intro v232 w7 ho8 hb hg_ hnew_; clear hg_ hnew_; (first | rw [← Ny231.out] at ho8 | (simp only [Int.reduceToNat] at ho8; rw [← Ny231.out] at ho8)); have HO233 := Aside0.mk (Kd.R_lower ho8 (below_size (zh HB))); replace HB := Aside0.mk (below_step (zh HB) hb); clear hb ho8))
    go_ret2
    exact ⟨_, zre, by (with_reducible repeat (first | apply Kd.R_alloc | apply Kd.R_drewN | apply Kd.R_drew)); exact HO233.out, zh HB⟩
   replace c6 := Bool.eq_false_iff.mpr c6
   subst c6
   rw [if_neg (show ¬ (false = true) by decide)] at H
   replace H := Option.bind_eq_some_iff.mp H
   obtain ⟨⟨t234, t235⟩, A90, H⟩ := H
   try dsimp only at H
   have A9 := Aside0.mk A90
   clear A90
   by_cases c10 : t235 = true
   rotate_left
   ·replace c10 := Bool.eq_false_iff.mpr c10
    subst c10
    rw [if_neg (show ¬ (false = true) by decide)] at H
    obtain ⟨y238, hy238⟩ : ∃ y_ : List ByteArray, y_ = (([] : List ByteArray)) := ⟨_, rfl⟩
    replace H : (some (y238, 3)) = some (r1, r2) := zby hy238 H
    have Ny238 := Aside0.mk hy238
    clear hy238
    simp only [Option.some.injEq, Prod.mk.injEq] at H
    obtain ⟨rfl, rfl⟩ := H
    go_wp2_with (first | ((with_reducible refine gate_callee (f := 52) rfl ?_); refine goesL_ (some 30) rfl rfl Tryd.func52 (by kernel_rfl) rfl #[.string a1] rfl zar ?_; (with_reducible refine (spec_l01Decode.calls kj3 a1 t234 false _ A9.out).mono ?_); rintro e w54 ⟨v236, rfl, ho0, hb⟩; refine ⟨_, rfl, ?_⟩; have HO237 := Aside0.mk (Kd.R_lower ho0 (below_size (zh HB))); replace HB := Aside0.mk (below_step (zh HB) hb); (try clear hb ho0); (try clear hb); (try clear hk); (try clear hi)) | ((with_reducible refine gate_dst (N := 35) rfl ?_); (try (refine gate_guard (by rfl) ?_; dsimp only)); refine Kd.R_lit Kd.string _ 9 ?hg (N := 35) ?hd (xs := ([] : List ByteArray)) (inner := []) (ok := fun _ => True) (okp := fun _ => True) ?hr ?hp (fun _ hk => hk) trivial (Below.refl _ _) (Nat.le_refl _) (by simp) ?_; (case hd => rfl); (case hg => rfl); (case hr => first | (go_simp; done) | (go_simp; rfl)); (case hp => exact (Reps.none _ _)); intro v239 w56 ho57 hb hg_ hnew_; clear hg_ hnew_; (first | rw [← Ny238.out] at ho57 | (simp only [Int.reduceToNat] at ho57; rw [← Ny238.out] at ho57)); replace HO237 := Aside0.mk (Kd.R_below (zr HO237) hb); have HO240 := Aside0.mk (Kd.R_lower ho57 (below_size (zh HB))); replace HB := Aside0.mk (below_step (zh HB) hb); clear hb ho57))
    go_ret2
    exact ⟨_, zre, by (with_reducible repeat (first | apply Kd.R_alloc | apply Kd.R_drewN | apply Kd.R_drew)); exact HO240.out, zh HB⟩

   subst c10
   rw [if_pos rfl] at H
   have H' := Aside0.mk H
   clear H
   go_wp2_with (first | ((with_reducible refine gate_callee (f := 52) rfl ?_); refine goesL_ (some 30) rfl rfl Tryd.func52 (by kernel_rfl) rfl #[.string a1] rfl zar ?_; (with_reducible refine (spec_l01Decode.calls kj3 a1 t234 true _ A9.out).mono ?_); rintro e w11 ⟨v236, rfl, ho0, hb⟩; refine ⟨_, rfl, ?_⟩; have HO237 := Aside0.mk (Kd.R_lower ho0 (below_size (zh HB))); replace HB := Aside0.mk (below_step (zh HB) hb); (try clear hb ho0); (try clear hb); (try clear hk); (try clear hi)))
   go_loopg [10] kj3 (fun kq v10 w' => ∃ (x10_2 : Int), v10 = .int .i64 x10_2 ∧ Aside0 (spec_Suggest.l0 kq l0 a1 a2 t234 x10_2 = some (r1, r2)) ∧ Aside0 (kq ≤ kj3) ∧ Aside0 (Kd.R (Kd.int .i64) 3 w' w.heap.size (fun _ => True) v236 t234) ∧ Aside0 (Below w.heap.size w w'))
   case atStart => exact ⟨(0), zrs, H', ⟨Nat.le_refl _⟩, ⟨zr HO237⟩, ⟨zh HB⟩⟩
   case round =>
    clear H'
    try clear c6
    try clear c10
    obtain ⟨x10_2, rfl, HA, HK2, HO_8, HB⟩ := hrel
    cases gk with
    | zero => exact absurd HA.out (by simp [spec_Suggest.l0])
    | succ k2 =>
     have H := HA.out
     clear HA
     simp only [spec_Suggest.l0] at H
     by_cases c13 : x10_2 < (l0.length : Int)
     ·rw [if_pos c13] at H
      have c13b0 : decide (x10_2 < (l0.length : Int)) = true := decide_eq_true c13
      clear c13
      by_cases c14 : 0 ≤ x10_2
      rotate_left
      ·rw [if_neg c14] at H
       exact absurd H (by simp)
      rw [if_pos c14] at H
      have c14b0 : decide (0 ≤ x10_2) = true := decide_eq_true c14
      clear c14
      replace H := Option.bind_eq_some_iff.mp H
      obtain ⟨⟨t242, t243⟩, A150, H⟩ := H
      try dsimp only at H
      have A15 := Aside0.mk A150
      clear A150
      by_cases c16 : t243 = true
      ·subst c16
       rw [if_pos rfl] at H
       have H' := Aside0.mk H
       clear H
       have p241 : 0 ≤ (x10_2 : Int) := of_decide_eq_true zas
       have q241 : x10_2 < (l0.length : Int) := of_decide_eq_true zas
       obtain ⟨ad241, e241, hx241_0⟩ := Kd.at_string HR0.out x10_2 p241 q241
       cases e241
       replace hx241_0 := zx HB hx241_0
       replace p241 := eq_true p241
       replace q241 := eq_true q241
       go_wp2_with (first | ((with_reducible refine gate_callee (f := 52) rfl ?_); refine goesL_ (some 47) rfl rfl Tryd.func52 (by kernel_rfl) rfl #[.string (rdOf ByteArray.empty l0 x10_2)] rfl zar ?_; (with_reducible refine (spec_l01Decode.calls k2 (rdOf ByteArray.empty l0 x10_2) t242 true _ A15.out).mono ?_); rintro e w17 ⟨v244, rfl, ho0, hb⟩; refine ⟨_, rfl, ?_⟩; have HO245 := Aside0.mk (Kd.R_lower (Kd.R_new' ho0 (Kd.R_lt (zr HO_8))) (below_size (zh HB))); replace HO_8 := Aside0.mk (Kd.R_elder' (zr HO_8) (Kd.R_base ho0) hb); replace HB := Aside0.mk (below_step (zh HB) hb); (try clear hb ho0); (try clear hb); (try clear hk); (try clear hi)))
       go_roundg k2
       case measure => have := HJ3.out; have := HK2.out; omega
       case rel => exact ⟨(wrap64 (x10_2 + 1)), zrs, H', ⟨by have := HJ3.out; have := HK2.out; omega⟩, ⟨Kd.R_mono (zr HO_8) (fun _ hk => trivial)⟩, ⟨zh HB⟩⟩
      replace c16 := Bool.eq_false_iff.mpr c16
      subst c16
      rw [if_neg (show ¬ (false = true) by decide)] at H
      obtain ⟨y246, hy246⟩ : ∃ y_ : List ByteArray, y_ = (([] : List ByteArray)) := ⟨_, rfl⟩
      replace H : (some (y246, 3)) = some (r1, r2) := zby hy246 H
      have Ny246 := Aside0.mk hy246
      clear hy246
      simp only [Option.some.injEq, Prod.mk.injEq] at H
      obtain ⟨rfl, rfl⟩ := H
      have p241 : 0 ≤ (x10_2 : Int) := of_decide_eq_true zas
      have q241 : x10_2 < (l0.length : Int) := of_decide_eq_true zas
      obtain ⟨ad241, e241, hx241_0⟩ := Kd.at_string HR0.out x10_2 p241 q241
      cases e241
      replace hx241_0 := zx HB hx241_0
      replace p241 := eq_true p241
      replace q241 := eq_true q241
      go_wp2_with (first | ((with_reducible refine gate_callee (f := 52) rfl ?_); refine goesL_ (some 47) rfl rfl Tryd.func52 (by kernel_rfl) rfl #[.string (rdOf ByteArray.empty l0 x10_2)] rfl zar ?_; (with_reducible refine (spec_l01Decode.calls k2 (rdOf ByteArray.empty l0 x10_2) t242 false _ A15.out).mono ?_); rintro e w19 ⟨v244, rfl, ho0, hb⟩; refine ⟨_, rfl, ?_⟩; have HO245 := Aside0.mk (Kd.R_lower (Kd.R_new' ho0 (Kd.R_lt (zr HO_8))) (below_size (zh HB))); replace HO_8 := Aside0.mk (Kd.R_elder' (zr HO_8) (Kd.R_base ho0) hb); replace HB := Aside0.mk (below_step (zh HB) hb); (try clear hb ho0); (try clear hb); (try clear hk); (try clear hi)) | ((with_reducible refine gate_dst (N := 52) rfl ?_); (try (refine gate_guard (by rfl) ?_; dsimp only)); refine Kd.R_lit Kd.string _ 9 ?hg (N := 52) ?hd (xs := ([] : List ByteArray)) (inner := []) (ok := fun _ => True) (okp := fun _ => True) ?hr ?hp (fun _ hk => hk) trivial (Below.refl _ _) (Nat.le_refl _) (by simp) ?_; (case hd => rfl); (case hg => rfl); (case hr => first | (go_simp; done) | (go_simp; rfl)); (case hp => exact (Reps.none _ _)); intro v247 w21 ho22 hb hg_ hnew_; clear hg_ hnew_; (first | rw [← Ny246.out] at ho22 | (simp only [Int.reduceToNat] at ho22; rw [← Ny246.out] at ho22)); replace HO_8 := Aside0.mk (Kd.R_below (zr HO_8) hb); replace HO245 := Aside0.mk (Kd.R_below (zr HO245) hb); have HO248 := Aside0.mk (Kd.R_lower ho22 (below_size (zh HB))); replace HB := Aside0.mk (below_step (zh HB) hb); clear hb ho22))
      go_ret2
      exact ⟨_, zre, by (with_reducible repeat (first | apply Kd.R_alloc | apply Kd.R_drewN | apply Kd.R_drew)); exact HO248.out, zh HB⟩
     rw [if_neg c13] at H
     have c13b0 : decide (x10_2 < (l0.length : Int)) = false := decide_eq_false c13
     clear c13
     have HC23 := Aside0.mk H
     clear H
     go_upto_region 12 with (fail)
     go_cut [63] (fun v63 wc => ∃ (kq : Nat) (x63_22 : Bool), v63 = .bool x63_22 ∧ Aside0 (spec_Suggest.j2 kq l0 a1 a2 x63_22 = some (r1, r2)) ∧ Aside0 (kq ≤ k2) ∧ Aside0 (Below w.heap.size w wc))
     case first =>
      have H := HC23.out
      clear HC23
      by_cases c24 : (t234.length : Int) > 200
      ·rw [if_pos c24] at H
       have c24b0 : decide (200 < (t234.length : Int)) = true := decide_eq_true c24
       have c24b1 : decide (200 < t234.length) = true := decide_eq_true (by omega)
       clear c24
       (first | rw [c24b0] | (simp only [i64_w, i32_w]; rw [c24b0]) | skip)
       have H' := Aside0.mk H
       clear H
       obtain ⟨Ao25, co25, eo25⟩ := Kd.R_slice HO_8.out
       subst eo25
       go_wp2
       go_meet
       case rel => exact ⟨_, (true), zrs, H', ⟨by have := HJ3.out; have := HK2.out; first | omega | exact Nat.le_refl _⟩, ⟨zh HB⟩⟩
      rw [if_neg c24] at H
      have c24b0 : decide (200 < (t234.length : Int)) = false := decide_eq_false c24
      have c24b1 : decide (200 < t234.length) = false := decide_eq_false (by omega)
      clear c24
      (first | rw [c24b0] | (simp only [i64_w, i32_w]; rw [c24b0]) | skip)
      by_cases c26 : a2 < 0
      ·rw [if_pos c26] at H
       have c26b0 : decide (a2 < 0) = true := decide_eq_true c26
       clear c26
       have H' := Aside0.mk H
       clear H
       obtain ⟨Ao27, co27, eo27⟩ := Kd.R_slice HO_8.out
       subst eo27
       go_wp2
       go_meet
       case rel => exact ⟨_, (true), zrs, H', ⟨by have := HJ3.out; have := HK2.out; first | omega | exact Nat.le_refl _⟩, ⟨zh HB⟩⟩
      rw [if_neg c26] at H
      have c26b0 : decide (a2 < 0) = false := decide_eq_false c26
      clear c26
      have H' := Aside0.mk H
      clear H
      obtain ⟨Ao28, co28, eo28⟩ := Kd.R_slice HO_8.out
      subst eo28
      go_wp2
      go_meet
      case rel => exact ⟨_, (decide (a2 > 20)), zrs, H', ⟨by have := HJ3.out; have := HK2.out; first | omega | exact Nat.le_refl _⟩, ⟨zh HB⟩⟩
     case rest =>
      clear HC23
      try clear c6
      try clear c10
      try clear c13
      try clear c13b0
      obtain ⟨kq, x63_22, rfl, HA, HJ22, HB⟩ := hcut
      cases kq with
      | zero => exact absurd HA.out (by simp [spec_Suggest.j2])
      | succ kj22 =>
       have H := HA.out
       clear HA
       simp only [spec_Suggest.j2] at H
       by_cases c29 : x63_22 = true
       ·subst c29
        rw [if_pos rfl] at H
        obtain ⟨y249, hy249⟩ : ∃ y_ : List ByteArray, y_ = (([] : List ByteArray)) := ⟨_, rfl⟩
        replace H : (some (y249, 12)) = some (r1, r2) := zby hy249 H
        have Ny249 := Aside0.mk hy249
        clear hy249
        simp only [Option.some.injEq, Prod.mk.injEq] at H
        obtain ⟨rfl, rfl⟩ := H
        go_wp2_with (first | ((with_reducible refine gate_dst (N := 64) rfl ?_); (try (refine gate_guard (by rfl) ?_; dsimp only)); refine Kd.R_lit Kd.string _ 9 ?hg (N := 64) ?hd (xs := ([] : List ByteArray)) (inner := []) (ok := fun _ => True) (okp := fun _ => True) ?hr ?hp (fun _ hk => hk) trivial (Below.refl _ _) (Nat.le_refl _) (by simp) ?_; (case hd => rfl); (case hg => rfl); (case hr => first | (go_simp; done) | (go_simp; rfl)); (case hp => exact (Reps.none _ _)); intro v250 w30 ho31 hb hg_ hnew_; clear hg_ hnew_; (first | rw [← Ny249.out] at ho31 | (simp only [Int.reduceToNat] at ho31; rw [← Ny249.out] at ho31)); have HO251 := Aside0.mk (Kd.R_lower ho31 (below_size (zh HB))); replace HB := Aside0.mk (below_step (zh HB) hb); clear hb ho31))
        go_ret2
        exact ⟨_, zre, by (with_reducible repeat (first | apply Kd.R_alloc | apply Kd.R_drewN | apply Kd.R_drew)); exact HO251.out, zh HB⟩
       replace c29 := Bool.eq_false_iff.mpr c29
       subst c29
       rw [if_neg (show ¬ (false = true) by decide)] at H
       obtain ⟨y252, hy252⟩ : ∃ y_ : List ByteArray, y_ = (([] : List ByteArray)) := ⟨_, rfl⟩
       replace H : ((spec_l07Names.f kj22 l0).bind fun t255 => (spec_Suggest.l1 kj22 a1 a2 y252 t255 0)) = some (r1, r2) := zby hy252 H
       have Ny252 := Aside0.mk hy252
       clear hy252
       replace H := Option.bind_eq_some_iff.mp H
       obtain ⟨t255, A320, H⟩ := H
       try dsimp only at H
       have A32 := Aside0.mk A320
       clear A320
       have H' := Aside0.mk H
       clear H
       go_wp2_with (first | ((with_reducible refine gate_dst (N := 65) rfl ?_); (try (refine gate_guard (by rfl) ?_; dsimp only)); refine Kd.R_lit Kd.string _ 9 ?hg (N := 65) ?hd (xs := ([] : List ByteArray)) (inner := []) (ok := fun _ => True) (okp := fun _ => True) ?hr ?hp (fun _ hk => hk) trivial (Below.refl _ _) (Nat.le_refl _) (by simp) ?_; (case hd => rfl); (case hg => rfl); (case hr => first | (go_simp; done) | (go_simp; rfl)); (case hp => exact (Reps.none _ _)); intro v253 w33 ho34 hb hg_ hnew_; clear hg_ hnew_; (first | rw [← Ny252.out] at ho34 | (simp only [Int.reduceToNat] at ho34; rw [← Ny252.out] at ho34)); have HO254 := Aside0.mk (Kd.R_lower ho34 (below_size (zh HB))); replace HB := Aside0.mk (below_step (zh HB) hb); clear hb ho34) | ((with_reducible refine gate_callee (f := 91) rfl ?_); refine goesL_ (some 67) rfl rfl Tryd.func91 (by kernel_rfl) rfl #[.slice A0 l0.length c0] rfl zar ?_; (with_reducible refine (spec_l07Names.calls kj22 _ _ l0 t255 _ ?side1 ?side2 A32.out).mono ?_); (case side1 => exact zC (Kd.C_below HR0.out HB.out)); (case side2 => exact HC0.out); rintro e w35 ⟨v256, rfl, ho0, hb⟩; refine ⟨_, rfl, ?_⟩; have HO257 := Aside0.mk (Kd.R_lower (Kd.R_new' ho0 (Kd.R_lt (zr HO254))) (below_size (zh HB))); replace HO254 := Aside0.mk (Kd.R_elder' (zr HO254) (Kd.R_base ho0) hb); replace HB := Aside0.mk (below_step (zh HB) hb); (try clear hb ho0); (try clear hb); (try clear hk); (try clear hi)))
       go_loopg [13, 15] kj22 (fun kq v13 v15 w' => ∃ (x13_4 : List ByteArray) (x15_4 : Int), v15 = .int .i64 x15_4 ∧ Aside0 (spec_Suggest.l1 kq a1 a2 x13_4 t255 x15_4 = some (r1, r2)) ∧ Aside0 (kq ≤ kj22) ∧ Aside0 (Kd.R Kd.string 9 w' w.heap.size (fun k_ => some k_ ≠ (v256 : Value).ownBlock) v13 x13_4) ∧ Aside0 (Kd.R Kd.string 9 w' w.heap.size (fun k_ => some k_ ≠ (v13 : Value).ownBlock) v256 t255) ∧ Aside0 (Below w.heap.size w w'))
       case atStart => exact ⟨(y252), (0), zrs, H', ⟨Nat.le_refl _⟩, ⟨Kd.R_mono (zr HO254) (fun _ hk => hk.2)⟩, ⟨Kd.R_mono (zr HO257) (fun _ hk => hk.2)⟩, ⟨zh HB⟩⟩
       case round =>
        clear H'
        try clear c6
        try clear c10
        try clear c13
        try clear c13b0
        try clear c29
        obtain ⟨x13_4, x15_4, rfl, HA, HK4, HO_13, HO_14, HB⟩ := hrel
        cases gk with
        | zero => exact absurd HA.out (by simp [spec_Suggest.l1])
        | succ k4 =>
         have H := HA.out
         clear HA
         simp only [spec_Suggest.l1] at H
         by_cases c37 : x15_4 ≤ 2
         rotate_left
         ·rw [if_neg c37] at H
          have c37b0 : decide (x15_4 ≤ 2) = false := decide_eq_false c37
          clear c37
          simp only [Option.some.injEq, Prod.mk.injEq] at H
          obtain ⟨rfl, rfl⟩ := H
          go_wp2
          go_ret2
          exact ⟨_, zre, Kd.R_mono (zr HO_13) (fun _ hk => trivial), zh HB⟩
         rw [if_pos c37] at H
         have c37b0 : decide (x15_4 ≤ 2) = true := decide_eq_true c37
         clear c37
         have H' := Aside0.mk H
         clear H
         go_wp2
         go_loopg [13, 16] k4 (fun kq v13 v16 w' => ∃ (x13_5 : List ByteArray) (x16_5 : Int), v16 = .int .i64 x16_5 ∧ Aside0 (spec_Suggest.l2 kq a1 a2 x13_5 t255 x15_4 x16_5 = some (r1, r2)) ∧ Aside0 (kq ≤ k4) ∧ Aside0 (Kd.R Kd.string 9 w' w.heap.size (fun k_ => some k_ ≠ (v256 : Value).ownBlock) v13 x13_5) ∧ Aside0 (Kd.R Kd.string 9 w' w.heap.size (fun k_ => some k_ ≠ (v13 : Value).ownBlock) v256 t255) ∧ Aside0 (Below w.heap.size w w'))
         case atStart => exact ⟨(x13_4), (0), zrs, H', ⟨Nat.le_refl _⟩, ⟨zr HO_13⟩, ⟨zr HO_14⟩, ⟨zh HB⟩⟩
         case round =>
          clear H'
          try clear c6
          try clear c10
          try clear c13
          try clear c13b0
          try clear c29
          try clear c37
          try clear c37b0
          obtain ⟨x13_5, x16_5, rfl, HA, HK5, HO_13, HO_14, HB⟩ := hrel
          cases gk with
          | zero => exact absurd HA.out (by simp [spec_Suggest.l2])
          | succ k5 =>
           have H := HA.out
           clear HA
           simp only [spec_Suggest.l2] at H
           by_cases c38 : x16_5 < (t255.length : Int)
           rotate_left
           ·rw [if_neg c38] at H
            have c38b0 : decide (x16_5 < (t255.length : Int)) = false := decide_eq_false c38
            clear c38
            have H' := Aside0.mk H
            clear H
            obtain ⟨Ao53, co53, eo53⟩ := Kd.R_slice HO_14.out
            subst eo53
            go_wp2
            go_roundg k5
            case measure => have := HJ3.out; have := HK2.out; have := HJ22.out; have := HK4.out; have := HK5.out; omega
            case rel => exact ⟨(x13_5), (wrap64 (x15_4 + 1)), zrs, H', ⟨by have := HJ3.out; have := HK2.out; have := HJ22.out; have := HK4.out; have := HK5.out; omega⟩, ⟨zr HO_13⟩, ⟨zr HO_14⟩, ⟨zh HB⟩⟩
           rw [if_pos c38] at H
           have c38b0 : decide (x16_5 < (t255.length : Int)) = true := decide_eq_true c38
           clear c38
           by_cases c39 : 0 ≤ x16_5
           rotate_left
           ·rw [if_neg c39] at H
            exact absurd H (by simp)
           rw [if_pos c39] at H
           have c39b0 : decide (0 ≤ x16_5) = true := decide_eq_true c39
           clear c39
           replace H := Option.bind_eq_some_iff.mp H
           obtain ⟨⟨t259, t260⟩, A400, H⟩ := H
           try dsimp only at H
           have A40 := Aside0.mk A400
           clear A400
           have HC41 := Aside0.mk H
           clear H
           obtain ⟨Ao42, co42, eo42⟩ := Kd.R_slice HO_14.out
           subst eo42
           have p258 : 0 ≤ (x16_5 : Int) := of_decide_eq_true zas
           have q258 : x16_5 < (t255.length : Int) := of_decide_eq_true zas
           obtain ⟨ad258, e258, hx258_0⟩ := Kd.at_string (Kd.R_reads' HO_14.out).2.2 x16_5 p258 q258
           cases e258
           replace p258 := eq_true p258
           replace q258 := eq_true q258
           go_upto_region 23 with (first | ((with_reducible refine gate_callee (f := 22) rfl ?_); refine goesL_ (some 84) rfl rfl Tryd.func22 (by kernel_rfl) rfl #[.string a1, .string (rdOf ByteArray.empty t255 x16_5)] rfl zar ?_; (with_reducible refine (spec_Edits.calls k5 a1 (rdOf ByteArray.empty t255 x16_5) t259 t260 _ A40.out).mono ?_); rintro e w43 ⟨rfl, hb⟩; refine ⟨_, rfl, ?_⟩; replace HO_13 := Aside0.mk (Kd.R_below (zr HO_13) hb); replace HO_14 := Aside0.mk (Kd.R_below (zr HO_14) hb); replace HB := Aside0.mk (below_step (zh HB) hb); (try clear hb); (try clear hb2); (try clear hk); (try clear hi)))
           (try simp only [Act.put, List.setIfInBounds_toArray, List.set_cons_zero, List.set_cons_succ])
           go_cut [99] (fun v99 wc => ∃ (kq : Nat) (x99_40 : Bool), v99 = .bool x99_40 ∧ Aside0 (spec_Suggest.j5 kq a1 a2 x13_5 t255 x15_4 x16_5 x99_40 = some (r1, r2)) ∧ Aside0 (kq ≤ k5) ∧ Aside0 (Kd.R Kd.string 9 wc w.heap.size (fun k_ => some k_ ≠ ((.slice (some ad258) t255.length co42) : Value).ownBlock) u13 x13_5) ∧ Aside0 (Kd.R Kd.string 9 wc w.heap.size (fun k_ => some k_ ≠ (u13 : Value).ownBlock) (.slice (some ad258) t255.length co42) t255) ∧ Aside0 (Below w.heap.size w wc))
           case first =>
            have H := HC41.out
            clear HC41
            by_cases c45 : t260 = 0
            rotate_left
            ·rw [if_neg c45] at H
             have c45b0 : (t260 == 0) = false := beq_eq_false_iff_ne.mpr c45
             have c45b1 : (t260 != 0) = true := bne_iff_ne.mpr c45
             (first | rw [c45b0] | (simp only [i64_w, i32_w]; rw [c45b0]) | skip)
             have H' := Aside0.mk H
             clear H
             go_wp2
             go_meet
             case rel => exact ⟨_, (false), zrs, H', ⟨by have := HJ3.out; have := HK2.out; have := HJ22.out; have := HK4.out; have := HK5.out; first | omega | exact Nat.le_refl _⟩, ⟨zr HO_13⟩, ⟨zr HO_14⟩, ⟨zh HB⟩⟩
            rw [if_pos c45] at H
            have c45b0 : (t260 == 0) = true := beq_iff_eq.mpr c45
            have c45b1 : (t260 != 0) = false := bne_eq_false_iff_eq.mpr c45
            clear c45
            (first | rw [c45b0] | (simp only [i64_w, i32_w]; rw [c45b0]) | skip)
            by_cases c46 : t259 = x15_4
            rotate_left
            ·rw [if_neg c46] at H
             have c46b0 : (t259 == x15_4) = false := beq_eq_false_iff_ne.mpr c46
             have c46b1 : (t259 != x15_4) = true := bne_iff_ne.mpr c46
             have H' := Aside0.mk H
             clear H
             go_wp2
             go_meet
             case rel => exact ⟨_, (false), zrs, H', ⟨by have := HJ3.out; have := HK2.out; have := HJ22.out; have := HK4.out; have := HK5.out; first | omega | exact Nat.le_refl _⟩, ⟨zr HO_13⟩, ⟨zr HO_14⟩, ⟨zh HB⟩⟩
            rw [if_pos c46] at H
            have c46b0 : (t259 == x15_4) = true := beq_iff_eq.mpr c46
            have c46b1 : (t259 != x15_4) = false := bne_eq_false_iff_eq.mpr c46
            clear c46
            have H' := Aside0.mk H
            clear H
            obtain ⟨Ao47, co47, eo47⟩ := Kd.R_slice HO_13.out
            subst eo47
            go_wp2
            go_meet
            case rel => exact ⟨_, (decide ((x13_5.length : Int) < a2)), zrs, H', ⟨by have := HJ3.out; have := HK2.out; have := HJ22.out; have := HK4.out; have := HK5.out; first | omega | exact Nat.le_refl _⟩, ⟨zr HO_13⟩, ⟨zr HO_14⟩, ⟨zh HB⟩⟩
           case rest =>
            clear HC41
            try clear c6
            try clear c10
            try clear c13
            try clear c13b0
            try clear c29
            try clear c37
            try clear c37b0
            try clear c38
            try clear c38b0
            try clear c39
            try clear c39b0
            try clear hx258_0
            try clear p258
            try clear q258
            obtain ⟨kq, x99_40, rfl, HA, HJ40, HO_13, HO_14, HB⟩ := hcut
            cases kq with
            | zero => exact absurd HA.out (by simp [spec_Suggest.j5])
            | succ kj40 =>
             have H := HA.out
             clear HA
             simp only [spec_Suggest.j5] at H
             by_cases c48 : x99_40 = true
             rotate_left
             ·replace c48 := Bool.eq_false_iff.mpr c48
              subst c48
              rw [if_neg (show ¬ (false = true) by decide)] at H
              have H' := Aside0.mk H
              clear H
              go_wp2
              go_roundg kj40
              case measure => have := HJ3.out; have := HK2.out; have := HJ22.out; have := HK4.out; have := HK5.out; have := HJ40.out; omega
              case rel => exact ⟨(x13_5), (wrap64 (x16_5 + 1)), zrs, H', ⟨by have := HJ3.out; have := HK2.out; have := HJ22.out; have := HK4.out; have := HK5.out; have := HJ40.out; omega⟩, ⟨zr HO_13⟩, ⟨zr HO_14⟩, ⟨zh HB⟩⟩
             subst c48
             rw [if_pos rfl] at H
             by_cases c49 : 0 ≤ x16_5
             rotate_left
             ·rw [if_neg c49] at H
              exact absurd H (by simp)
             rw [if_pos c49] at H
             have c49b0 : decide (0 ≤ x16_5) = true := decide_eq_true c49
             clear c49
             by_cases c50 : x16_5 < (t255.length : Int)
             rotate_left
             ·rw [if_neg c50] at H
              exact absurd H (by simp)
             rw [if_pos c50] at H
             have c50b0 : decide (x16_5 < (t255.length : Int)) = true := decide_eq_true c50
             clear c50
             by_cases c51 : x13_5.length < 8796093022208
             rotate_left
             ·rw [if_neg c51] at H
              exact absurd H (by simp)
             rw [if_pos c51] at H
             have LMc51 := Aside0.mk c51
             clear c51
             obtain ⟨y262, hy262⟩ : ∃ y_ : List ByteArray, y_ = (x13_5 ++ [rdOf ByteArray.empty t255 x16_5]) := ⟨_, rfl⟩
             replace H : (spec_Suggest.l2 kj40 a1 a2 y262 t255 x15_4 (wrap64 (x16_5 + 1))) = some (r1, r2) := zby hy262 H
             have Ny262 := Aside0.mk hy262
             clear hy262
             have H' := Aside0.mk H
             clear H
             have p261 : 0 ≤ (x16_5 : Int) := of_decide_eq_true zas
             have q261 : x16_5 < (t255.length : Int) := of_decide_eq_true zas
             obtain ⟨ad261, e261, hx261_0⟩ := Kd.at_string (Kd.R_reads' HO_14.out).2.2 x16_5 p261 q261
             obtain rfl : ad258 = ad261 := (by injection e261)
             replace p261 := eq_true p261
             replace q261 := eq_true q261
             go_wp2_with (first | ((with_reducible refine gate_builtin (b := .append) (xs := #[.tmp 100, .tmp 105]) rfl ?_); (try (refine gate_guard (by rfl) ?_; dsimp only)); at_builtin; refine Kd.R_append Kd.string (w0 := w) w.heap.size rfl (.tmp 100) (.tmp 105) 39 9 (.string ⟨#[]⟩) 16 rfl Tryd.underlying39 info9 rfl (by decide) (by omega) u13 x13_5 (rdOf ByteArray.empty t255 x16_5) [.string (rdOf ByteArray.empty t255 x16_5)] (fun k_ => some k_ ≠ (.slice (some ad258) t255.length co42 : Value).ownBlock) (fun _ => False) rfl rfl ?aP (fun _ hk => hk.elim) ?aF ?aO ?aB ?aS ?aL ?_; (case aP => exact rfl); (case aB => exact (zh HB)); (case aF => exact (fun k_ hk => Kd.fresh' (Kd.R_lt (zr HO_14)) k_ hk)); (case aO => exact (zr HO_13)); (case aS => exact (below_size (zh HB))); (case aL => have := LMc51.out; omega); intro v263 w52 ho hb hg hat; rw [← Ny262.out] at ho; replace HO_14 := Aside0.mk (Kd.R_after (ok := (fun _ => True)) (Kd.R_mono (zr HO_14) (fun _ hk => ⟨trivial, hk⟩)) hg hat); replace HB := Aside0.mk (hb); have HO264 := Aside0.mk (ho); clear HO_13; clear ho hb hg hat))
             go_roundg kj40
             case measure => have := HJ3.out; have := HK2.out; have := HJ22.out; have := HK4.out; have := HK5.out; have := HJ40.out; omega
             case rel => exact ⟨(y262), (wrap64 (x16_5 + 1)), zrs, H', ⟨by have := HJ3.out; have := HK2.out; have := HJ22.out; have := HK4.out; have := HK5.out; have := HJ40.out; omega⟩, ⟨zr HO264⟩, ⟨Kd.R_mono (zr HO_14) (fun _ hk => hk.2)⟩, ⟨zh HB⟩⟩
end Go.Proofs.YtcokeankiedfcaaDoor.XFnSuggest
