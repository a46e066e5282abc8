-- A printed text of this session (wip/x/xprint.py).
import Derived.Test.YtnpdmleglcbobaaXFnLogx0
import Derived.Test.YtnpdmleglcbobaaXFnLogx5
import Derived.Test.YtnpdmleglcbobaaXFnLogx10
import Derived.Test.YtnpdmleglcbobaaXFnLogx17
namespace Go.Proofs.Ytnpdmleglcbobaa.XFnLog
open Go.RowKit Go.Proofs.YtnpdmleglcbobaaW.PrintWords Go.Proofs.YtnpdmleglcbobaaW.PrintLast Go.Proofs.YtnpdmleglcbobaaW.PrintMore
attribute [local go_sem] max2_int min2_int max_two min_two max_three min_three max_four min_four   -- for this text's walks alone
set_option linter.unusedVariables false
set_option linter.unusedSimpArgs false

/-! ### laws_FnLog: function 6 -/
theorem zCn_ {α : Type} {d : Kd α} {w : World} {A : Option Addr} {n m : Nat} {xs : List α} (e : n = m) (h : Kd.C d w A n xs) : Kd.C d w A m xs := by subst e; exact h
mutual
def laws_FnLog.j0 : Nat → List Int → List Int → Bool → Option (Bool)
 | 0, _, _, _ => none
 | k + 1, x0, x1, x28 => if x28 = true then (some true) else (laws_FnLog.l0 k x0 x1 (([] : List Int)) (([0] : List Int)) 0)
def laws_FnLog.l0 : Nat → List Int → List Int → List Int → List Int → Int → Option (Bool)
 | 0, _, _, _, _, _ => none
 | k + 1, x0, x1, x5, x6, x7 => if x7 < 6 then ((some (([(wrap64 (60 * x7)) % 256] : List Int) : List Int)).bind fun y784 => (if 0 ≤ (mn (x0.length : Int) 50) then (if (mn (x0.length : Int) 50) ≤ (x0.length : Int) then (if y784.length + (x0.take ((mn (x0.length : Int) 50) : Int).toNat).length < 140737488355328 then ((F28.f k (y784 ++ (x0.take ((mn (x0.length : Int) 50) : Int).toNat))).bind fun bt791 => (if bt791.2.1 ≥ 1 then (laws_FnLog.j2 k x0 x1 x5 x6 x7 bt791.1 (x6.length : Int) bt791.2.2.1 bt791.2.2.2.1 bt791.2.2.2.2) else (laws_FnLog.j2 k x0 x1 x5 x6 x7 bt791.1 bt791.2.1 bt791.2.2.1 bt791.2.2.2.1 bt791.2.2.2.2))) else (none)) else (none)) else (none))) else ((some (([] : List Int) : List Int)).bind fun y813 => (if y813.length + x5.length < 140737488355328 then ((F21.f k (y813 ++ x5)).bind fun bt819 => (if bt819.2.2 = 0 then (if bt819.2.1 = (x5.length : Int) then (laws_FnLog.j4 k x1 x5 x6 ((bt819.1.length : Int) != (wrap64 ((x6.length : Int) - 1)))) else (laws_FnLog.j4 k x1 x5 x6 true)) else (laws_FnLog.j4 k x1 x5 x6 true))) else (none)))
def laws_FnLog.j2 : Nat → List Int → List Int → List Int → List Int → Int → Int → Int → ByteArray → ByteArray → List (S66) → Option (Bool)
 | 0, _, _, _, _, _, _, _, _, _, _ => none
 | k + 1, x0, x1, x5, x6, x7, x799000, x799001, x799002, x799003, x799004 => (F4.f k x799000 x799001 x799002 x799003 x799004).bind fun bt799 => ((F31.f k x799000 x799001 x799002 x799003 x799004).bind fun bt803 => (if bt799.2 = bt803.2 then (laws_FnLog.j3 k x0 x1 x5 x6 x7 bt799.1 bt799.2 ((strOfNums bt799.1).toList != (strOfNums bt803.1).toList)) else (laws_FnLog.j3 k x0 x1 x5 x6 x7 bt799.1 bt799.2 true)))
def laws_FnLog.j3 : Nat → List Int → List Int → List Int → List Int → Int → List Int → Int → Bool → Option (Bool)
 | 0, _, _, _, _, _, _, _, _ => none
 | k + 1, x0, x1, x5, x6, x7, x9, x10, x71 => if x71 = true then (some false) else (if x10 = 0 then (if (wrap64 ((x5.length : Int) + (x9.length : Int))) ≤ 1048576 then (if x5.length + x9.length < 140737488355328 then ((some (x5 ++ x9 : List Int)).bind fun y807 => (if x6.length < 17592186044416 then (laws_FnLog.l0 k x0 x1 y807 (x6 ++ [(y807.length : Int)]) (wrap64 (x7 + 1))) else (none))) else (none)) else (laws_FnLog.l0 k x0 x1 x5 x6 (wrap64 (x7 + 1)))) else (laws_FnLog.l0 k x0 x1 x5 x6 (wrap64 (x7 + 1))))
def laws_FnLog.j4 : Nat → List Int → List Int → List Int → Bool → Option (Bool)
 | 0, _, _, _, _ => none
 | k + 1, x1, x5, x6, x113 => if x113 = true then (some false) else ((F49.f x1 0 (wrap64 ((x5.length : Int) + 1))).bind fun t824 => (if 0 ≤ t824 then (if t824 ≤ (x5.length : Int) then ((F21.f k (x5.take (t824 : Int).toNat)).bind fun bt830 => (laws_FnLog.l1 k x6 t824 bt830.1 bt830.2.1 bt830.2.2 0)) else (none)) else (none)))
def laws_FnLog.l1 : Nat → List Int → Int → List (S47) → Int → Int → Int → Option (Bool)
 | 0, _, _, _, _, _, _ => none
 | k + 1, x6, x16, x17, x18, x19, x20 => if (wrap64 (x20 + 1)) < (x6.length : Int) then (if 0 ≤ (wrap64 (x20 + 1)) then (if (rd x6 (wrap64 (x20 + 1))) ≤ x16 then (laws_FnLog.l1 k x6 x16 x17 x18 x19 (wrap64 (x20 + 1))) else (if x19 = 0 then (if 0 ≤ x20 then (if x20 < (x6.length : Int) then (if x18 = (rd x6 x20) then (some ((x17.length : Int) == x20)) else (some false)) else (none)) else (none)) else (some false))) else (none)) else (if x19 = 0 then (if 0 ≤ x20 then (if x20 < (x6.length : Int) then (if x18 = (rd x6 x20) then (some ((x17.length : Int) == x20)) else (some false)) else (none)) else (none)) else (some false))
end
def laws_FnLog.f (k : Nat) (l0 : List Int) (l1 : List Int) : Option (Bool) := if (l0.length : Int) > 1048576 then (laws_FnLog.j0 k l0 l1 true) else (laws_FnLog.j0 k l0 l1 (decide ((l1.length : Int) > 1048576)))
theorem laws_FnLog.mono_l : ∀ k, (∀ y0 y1 y2, LeO (laws_FnLog.j0 k y0 y1 y2) (laws_FnLog.j0 (k + 1) y0 y1 y2)) ∧ (∀ y0 y1 y2 y3 y4, LeO (laws_FnLog.l0 k y0 y1 y2 y3 y4) (laws_FnLog.l0 (k + 1) y0 y1 y2 y3 y4)) ∧ (∀ y0 y1 y2 y3 y4 y5 y6 y7 y8 y9, LeO (laws_FnLog.j2 k y0 y1 y2 y3 y4 y5 y6 y7 y8 y9) (laws_FnLog.j2 (k + 1) y0 y1 y2 y3 y4 y5 y6 y7 y8 y9)) ∧ (∀ y0 y1 y2 y3 y4 y5 y6 y7, LeO (laws_FnLog.j3 k y0 y1 y2 y3 y4 y5 y6 y7) (laws_FnLog.j3 (k + 1) y0 y1 y2 y3 y4 y5 y6 y7)) ∧ (∀ y0 y1 y2 y3, LeO (laws_FnLog.j4 k y0 y1 y2 y3) (laws_FnLog.j4 (k + 1) y0 y1 y2 y3)) ∧ (∀ y0 y1 y2 y3 y4 y5, LeO (laws_FnLog.l1 k y0 y1 y2 y3 y4 y5) (laws_FnLog.l1 (k + 1) y0 y1 y2 y3 y4 y5))
 | 0 => ⟨fun _ _ _ r h => by simp [laws_FnLog.j0] at h, fun _ _ _ _ _ r h => by simp [laws_FnLog.l0] at h, fun _ _ _ _ _ _ _ _ _ _ r h => by simp [laws_FnLog.j2] at h, fun _ _ _ _ _ _ _ _ r h => by simp [laws_FnLog.j3] at h, fun _ _ _ _ r h => by simp [laws_FnLog.j4] at h, fun _ _ _ _ _ _ r h => by simp [laws_FnLog.l1] at h⟩
 | k + 1 => by
  obtain ⟨ih0, ih1, ih2, ih3, ih4, ih5⟩ := laws_FnLog.mono_l k
  refine ⟨?_, ?_, ?_, ?_, ?_, ?_⟩
  all_goals intros
  all_goals first | unfold laws_FnLog.j0 | unfold laws_FnLog.l0 | unfold laws_FnLog.j2 | unfold laws_FnLog.j3 | unfold laws_FnLog.j4 | unfold laws_FnLog.l1
  all_goals
   repeat' with_reducible first | exact ih0 _ _ _ | exact ih1 _ _ _ _ _ | exact ih2 _ _ _ _ _ _ _ _ _ _ | exact ih3 _ _ _ _ _ _ _ _ | exact ih4 _ _ _ _ | exact ih5 _ _ _ _ _ _ | exact F21.mono _ _ | exact F4.mono _ _ _ _ _ _ | exact F28.mono _ _ | exact F31.mono _ _ _ _ _ _ | exact LeO.refl _ | exact LeO.none _ | refine LeO.ite ?_ ?_ | refine LeO.bind ?_ (fun _ => ?_)
theorem laws_FnLog.mono : ∀ a0 a1 k, LeO (laws_FnLog.f k a0 a1) (laws_FnLog.f (k + 1) a0 a1) := by
 intro a0 a1 k
 obtain ⟨ih0, ih1, ih2, ih3, ih4, ih5⟩ := laws_FnLog.mono_l k
 unfold laws_FnLog.f
 repeat' with_reducible first | exact ih0 _ _ _ | exact ih1 _ _ _ _ _ | exact ih2 _ _ _ _ _ _ _ _ _ _ | exact ih3 _ _ _ _ _ _ _ _ | exact ih4 _ _ _ _ | exact ih5 _ _ _ _ _ _ | exact F21.mono _ _ | exact F4.mono _ _ _ _ _ _ | exact F28.mono _ _ | exact F31.mono _ _ _ _ _ _ | exact LeO.refl _ | exact LeO.none _ | refine LeO.ite ?_ ?_ | refine LeO.bind ?_ (fun _ => ?_)
set_option maxHeartbeats 8000000 in
set_option maxRecDepth 100000 in
theorem laws_FnLog.calls (k : Nat) (A0 : Option Addr) (c0 : Nat) (l0 : List Int) (A1 : Option Addr) (c1 : Nat) (l1 : List Int) (r : Bool) (w : World) (hr0 : Kd.C (Kd.int .u8) w A0 l0.length l0) (hc0 : l0.length ≤ c0) (hr1 : Kd.C (Kd.int .u8) w A1 l1.length l1) (hc1 : l1.length ≤ c1) (h : laws_FnLog.f k l0 l1 = some r) :
 Calls Try.prog 6 #[.slice A0 l0.length c0, .slice A1 l1.length c1] w fun e w' => e = .returned (.bool r) ∧ Below w.heap.size w w' := by
 have hu47 := Try.underlying47
 have HR0 := zm hr0
 have HC0 := zm hc0
 clear hr0 hc0
 have HR1 := zm hr1
 have HC1 := zm hc1
 clear hr1 hc1
 have HB := zm (Below.refl w.heap.size w)
 have H := h
 unfold laws_FnLog.f at H
 clear h
 have HC3 := zm H
 clear H
 go_enter Try.func6, Try.ntmps6
 go_upto_region 1 with (fail)
 go_cut [28] (fun v28 wc => ∃ (kq : Nat) (x28_2 : Bool), v28 = .bool x28_2 ∧ Aside0 (laws_FnLog.j0 kq l0 l1 x28_2 = some r) ∧ Aside0 (kq ≤ k) ∧ Aside0 (Below w.heap.size w wc))
 case first =>
  have H := HC3.out
  clear HC3
  by_cases c4 : (l0.length : Int) > 1048576
  ·rw [if_pos c4] at H
   have c4b0 := decide_eq_true c4
   have c4b1 : decide (1048576 < l0.length) = true := decide_eq_true (by omega)
   clear c4
   (first | rw [c4b0] | (simp only [i64_w, i32_w]; rw [c4b0]) | skip)
   have H' := zm H
   clear H
   go_wp2
   go_meet
   case rel => exact ⟨_, (true), zrs, H', ⟨by first | omega | exact Nat.le_refl _⟩, ⟨zh HB⟩⟩
  rw [if_neg c4] at H
  have c4b0 := decide_eq_false c4
  have c4b1 : decide (1048576 < l0.length) = false := decide_eq_false (by omega)
  clear c4
  (first | rw [c4b0] | (simp only [i64_w, i32_w]; rw [c4b0]) | skip)
  have H' := zm H
  clear H
  go_wp2
  go_meet
  case rel => exact ⟨_, (decide ((l1.length : Int) > 1048576)), zrs, H', ⟨by first | omega | exact Nat.le_refl _⟩, ⟨zh HB⟩⟩
 case rest =>
  clear HC3
  try clear c1
  obtain ⟨kq, x28_2, rfl, HA, HJ2, HB⟩ := hcut
  cases kq with
  | zero => exact absurd HA.out (by simp [laws_FnLog.j0])
  | succ kj2 =>
   have H := HA.out
   clear HA
   simp only [laws_FnLog.j0] at H
   by_cases c5 : x28_2 = true
   ·subst c5
    rw [if_pos rfl] at H
    obtain rfl := Option.some.inj H
    go_wp2
    go_ret
    exact ⟨zre, zh HB⟩
   replace c5 := Bool.eq_false_iff.mpr c5
   subst c5
   rw [if_neg (show ¬ (false = true) by decide)] at H
   obtain ⟨y778, hy778⟩ : ∃ y_ : List Int, y_ = (([] : List Int)) := ⟨_, rfl⟩
   replace H : (laws_FnLog.l0 kj2 l0 l1 y778 (([0] : List Int)) 0) = some r := zby hy778 H
   have Ny778 := zm hy778
   clear hy778
   obtain ⟨y781, hy781⟩ : ∃ y_ : List Int, y_ = (([0] : List Int)) := ⟨_, rfl⟩
   replace H : (laws_FnLog.l0 kj2 l0 l1 y778 y781 0) = some r := zby hy781 H
   have Ny781 := zm hy781
   clear hy781
   have H' := zm H
   clear H
   go_wp2_with (first | ((with_reducible refine gate_dst (N := 29) rfl ?_); (try (refine gate_guard (by rfl) ?_; dsimp only)); refine Kd.R_lit (Kd.int .u8) _ 5 ?hg (N := 29) ?hd (xs := ([] : List Int)) (inner := []) (ok := fun _ => True) (okp := fun _ => True) ?hr ?hp (fun _ hk => hk) trivial (Below.refl _ _) (Nat.le_refl _) (by simp) ?_; (case hd => rfl); (case hg => rfl); (case hr => first | (go_simp; done) | (go_simp; rfl)); (case hp => exact (Reps.none _ _)); intro v779 w6 ho7 hb hg_ hnew_; clear hg_ hnew_; (first | rw [← Ny778.out] at ho7 | (simp only [Int.reduceToNat] at ho7; rw [← Ny778.out] at ho7)); have HO780 := zm (Kd.R_lower ho7 (below_size (zh HB))); replace HB := zm (below_step (zh HB) hb); clear hb ho7) | ((with_reducible refine gate_dst (N := 30) rfl ?_); (try (refine gate_guard (by rfl) ?_; dsimp only)); refine Kd.R_lit (Kd.int .i64) _ 3 ?hg (N := 30) ?hd (xs := ([0] : List Int)) (inner := [.int .i64 0]) (ok := fun _ => True) (okp := fun _ => True) ?hr ?hp (fun _ hk => hk) trivial (Below.refl _ _) (Nat.le_refl _) (by simp) ?_; (case hd => rfl); (case hg => rfl); (case hr => first | (go_simp; done) | (go_simp; rfl)); (case hp => exact (Reps.one (show Kd.M (Kd.int .i64) _ _ _ 0 [.int .i64 0] from rfl) (Reps.none _ _))); intro v782 w8 ho9 hb hg_ hnew_; clear hg_ hnew_; (first | rw [← Ny781.out] at ho9 | (simp only [Int.reduceToNat] at ho9; rw [← Ny781.out] at ho9)); replace HO780 := zm (Kd.R_below (zr HO780) hb); have HO783 := zm (Kd.R_lower ho9 (below_size (zh HB))); replace HB := zm (below_step (zh HB) hb); clear hb ho9))
   go_loopg [5, 6, 7] kj2 (fun kq v5 v6 v7 w' => ∃ (x5_2 : List Int) (x6_2 : List Int) (x7_2 : Int), v7 = .int .i64 x7_2 ∧ Aside0 (laws_FnLog.l0 kq l0 l1 x5_2 x6_2 x7_2 = some r) ∧ Aside0 (kq ≤ kj2) ∧ Aside0 (Kd.R (Kd.int .u8) 5 w' w.heap.size (fun _ => True) v5 x5_2) ∧ Aside0 (Kd.R (Kd.int .i64) 3 w' w.heap.size (fun _ => True) v6 x6_2) ∧ Aside0 (Below w.heap.size w w'))
   case atStart => exact ⟨(y778), (y781), (0), zrs, H', ⟨Nat.le_refl _⟩, ⟨zr HO780⟩, ⟨zr HO783⟩, ⟨zh HB⟩⟩
   case round =>
    clear H'
    try clear c1
    try clear c5
    obtain ⟨x5_2, x6_2, x7_2, rfl, HA, HK2, HO_5, HO_6, HB⟩ := hrel
    cases gk with
    | zero => exact absurd HA.out (by simp [laws_FnLog.l0])
    | succ k2 =>
     have H := HA.out
     clear HA
     simp only [laws_FnLog.l0] at H
     by_cases c10 : x7_2 < 6
     rotate_left
     ·rw [if_neg c10] at H
      have c10b0 := decide_eq_false c10
      clear c10
      obtain ⟨y813, hy813⟩ : ∃ y_ : List Int, y_ = (([] : List Int)) := ⟨_, rfl⟩
      replace H : (if y813.length + x5_2.length < 140737488355328 then ((F21.f k2 (y813 ++ x5_2)).bind fun bt819 => (if bt819.2.2 = 0 then (if bt819.2.1 = (x5_2.length : Int) then (laws_FnLog.j4 k2 l1 x5_2 x6_2 ((bt819.1.length : Int) != (wrap64 ((x6_2.length : Int) - 1)))) else (laws_FnLog.j4 k2 l1 x5_2 x6_2 true)) else (laws_FnLog.j4 k2 l1 x5_2 x6_2 true))) else (none)) = some r := zby hy813 H
      have Ny813 := zm hy813
      clear hy813
      by_cases c54 : y813.length + x5_2.length < 140737488355328
      rotate_left
      ·rw [if_neg c54] at H
       exact absurd H (by simp)

      rw [if_pos c54] at H
      have LMc54 := zm c54
      clear c54
      obtain ⟨y816, hy816⟩ : ∃ y_ : List Int, y_ = (y813 ++ x5_2) := ⟨_, rfl⟩
      replace H : ((F21.f k2 y816).bind fun bt819 => (if bt819.2.2 = 0 then (if bt819.2.1 = (x5_2.length : Int) then (laws_FnLog.j4 k2 l1 x5_2 x6_2 ((bt819.1.length : Int) != (wrap64 ((x6_2.length : Int) - 1)))) else (laws_FnLog.j4 k2 l1 x5_2 x6_2 true)) else (laws_FnLog.j4 k2 l1 x5_2 x6_2 true))) = some r := zby hy816 H
      have Ny816 := zm hy816
      clear hy816
      replace H := zbi H
      obtain ⟨⟨t819, t820, t821⟩, A55, H⟩ := H
      try dsimp only at H
      have HC56 := zm H
      clear H
      go_upto_region 19 with (first | ((with_reducible refine gate_dst (N := 91) rfl ?_); (try (refine gate_guard (by rfl) ?_; dsimp only)); refine Kd.R_lit (Kd.int .u8) _ 5 ?hg (N := 91) ?hd (xs := ([] : List Int)) (inner := []) (ok := fun _ => True) (okp := fun _ => True) ?hr ?hp (fun _ hk => hk) trivial (Below.refl _ _) (Nat.le_refl _) (by simp) ?_; (case hd => rfl); (case hg => rfl); (case hr => first | (go_simp; done) | (go_simp; rfl)); (case hp => exact (Reps.none _ _)); intro v814 w57 ho58 hb hg_ hnew_; clear hg_ hnew_; (first | rw [← Ny813.out] at ho58 | (simp only [Int.reduceToNat] at ho58; rw [← Ny813.out] at ho58)); replace HO_6 := zm (Kd.R_below (zr HO_6) hb); have HO815 := zm (Kd.R_lower (Kd.R_new' ho58 (Kd.R_lt (zr HO_5))) (below_size (zh HB))); replace HO_5 := zm (Kd.R_elder' (zr HO_5) (Kd.R_base ho58) hb); replace HB := zm (below_step (zh HB) hb); clear hb ho58; obtain ⟨Ao60, co60, eo60⟩ := Kd.R_slice HO_5.out; subst eo60) | ((with_reducible refine gate_builtin (b := .append) (xs := #[.tmp 91, .tmp 92]) rfl ?_); (try (refine gate_guard (by rfl) ?_; dsimp only)); at_builtin; refine Kd.R_append_rows (Kd.int .u8) (w0 := w) w.heap.size rfl (.tmp 91) (.tmp 92) 26 5 (.int .u8 0) 1 rfl Try.underlying26 info5 rfl (by decide) (by omega) v814 y813 x5_2 _ _ _ (fun k_ => some k_ ≠ (.slice Ao60 x5_2.length co60 : Value).ownBlock) (fun _ => False) rfl rfl ?aO ?aR (fun _ _ h => h) (fun _ h => h.elim) ?aF ?aB ?aS ?aL ?_; (case aR => repeat (first | exact (Kd.R_reads' HO_5.out).2.2 | (with_reducible refine Kd.C_alloc ?_ _) | (with_reducible refine Kd.C_drewN ?_ _) | (with_reducible refine Kd.C_drew ?_))); (case aB => exact (zh HB)); (case aF => exact (fun k_ hk => Kd.fresh' (Kd.R_lt (zr HO_5)) k_ hk)); (case aO => exact (Kd.R_mono (zr HO815) (fun _ hk => hk.2))); (case aS => exact (below_size (zh HB))); (case aL => have := LMc54.out; omega); intro v817 w59 ho hb hg hat; rw [← Ny816.out] at ho; replace HO_5 := zm (Kd.R_after (ok := (fun _ => True)) (zr HO_5) hg hat); replace HO_6 := zm (Kd.R_over' (zr HO_6) (Kd.R_typed (zr HO815)) (by decide) hg); replace HB := zm (hb); have HO818 := zm (ho); clear HO815; clear ho hb hg hat; obtain ⟨Ao61, co61, eo61⟩ := Kd.R_slice HO818.out; subst eo61) | ((with_reducible refine gate_callee (f := 28) rfl ?_); refine zgl 94 Try.func28 #[.slice Ao61 y816.length co61] ?_; (with_reducible refine (F21.calls k2 _ _ y816 t819 t820 t821 _ ?side1 ?side2 A55.out).mono ?_); (case side1 => exact zC (Kd.R_reads' HO818.out).2.2); (case side2 => exact (Kd.R_reads' HO818.out).2.1); rintro e w62 ⟨v822, rfl, ho0, hb⟩; refine ⟨_, rfl, ?_⟩; have HO823 := zm (Kd.N_lower (Kd.N_mono (ok' := fun k_ => some k_ ≠ (.slice Ao60 x5_2.length co60 : Value).ownBlock ∧ some k_ ≠ (u6 : Value).ownBlock ∧ some k_ ≠ (.slice Ao61 y816.length co61 : Value).ownBlock) (Kd.S_N (Kd.S_bound ho0)) (fun k_ hk_ => ⟨(Kd.fresh' (Kd.R_lt (zr HO_5)) k_ hk_.2.1), (Kd.fresh' (Kd.R_lt (zr HO_6)) k_ hk_.2.1), (Kd.fresh' (Kd.R_lt (zr HO818)) k_ hk_.2.1)⟩)) (below_size (zh HB))); replace HO_5 := zm (Kd.R_below (zr HO_5) hb); replace HO_6 := zm (Kd.R_below (zr HO_6) hb); replace HO818 := zm (Kd.R_below (zr HO818) hb); replace HB := zm (below_step (zh HB) hb); (try clear hb ho0)))
      (try simp only [Act.put, List.setIfInBounds_toArray, List.set_cons_zero, List.set_cons_succ])
      go_cut [113] (fun v113 wc => ∃ (kq : Nat) (x113_55 : Bool), v113 = .bool x113_55 ∧ Aside0 (laws_FnLog.j4 kq l1 x5_2 x6_2 x113_55 = some r) ∧ Aside0 (kq ≤ k2) ∧ Aside0 (Kd.R (Kd.int .u8) 5 wc w.heap.size (fun _ => True) (.slice Ao60 x5_2.length co60) x5_2) ∧ Aside0 (Kd.R (Kd.int .i64) 3 wc w.heap.size (fun _ => True) u6 x6_2) ∧ Aside0 (Below w.heap.size w wc))
      case first =>
       have H := HC56.out
       clear HC56
       by_cases c64 : t821 = 0
       rotate_left
       ·rw [if_neg c64] at H
        have c64b0 := z2 c64
        have c64b1 := z4 c64
        (first | rw [c64b0] | (simp only [i64_w, i32_w]; rw [c64b0]) | skip)
        have H' := zm H
        clear H
        go_wp2
        go_meet
        case rel => exact ⟨_, (true), zrs, H', ⟨by have := HJ2.out; have := HK2.out; first | omega | exact Nat.le_refl _⟩, ⟨Kd.R_mono (zr HO_5) (fun _ hk => trivial)⟩, ⟨zr HO_6⟩, ⟨zh HB⟩⟩
       rw [if_pos c64] at H
       have c64b0 := z1 c64
       have c64b1 := z3 c64
       clear c64
       (first | rw [c64b0] | (simp only [i64_w, i32_w]; rw [c64b0]) | skip)
       by_cases c65 : t820 = (x5_2.length : Int)
       rotate_left
       ·rw [if_neg c65] at H
        have c65b0 := z2 c65
        have c65b1 := z4 c65
        have H' := zm H
        clear H
        go_wp2
        go_meet
        case rel => exact ⟨_, (true), zrs, H', ⟨by have := HJ2.out; have := HK2.out; first | omega | exact Nat.le_refl _⟩, ⟨Kd.R_mono (zr HO_5) (fun _ hk => trivial)⟩, ⟨zr HO_6⟩, ⟨zh HB⟩⟩
       rw [if_pos c65] at H
       have c65b0 := z1 c65
       have c65b1 := z3 c65
       clear c65
       have H' := zm H
       clear H
       obtain ⟨Ao66, co66, eo66⟩ := Kd.N_slice HO823.out
       subst eo66
       obtain ⟨Ao67, co67, eo67⟩ := Kd.R_slice HO_6.out
       subst eo67
       go_wp2
       go_meet
       case rel => exact ⟨_, (((t819.length : Int) != (wrap64 ((x6_2.length : Int) - 1)))), zrs, H', ⟨by have := HJ2.out; have := HK2.out; first | omega | exact Nat.le_refl _⟩, ⟨Kd.R_mono (zr HO_5) (fun _ hk => trivial)⟩, ⟨zr HO_6⟩, ⟨zh HB⟩⟩
      case rest =>
       clear HC56
       try clear c1
       try clear c5
       try clear c10
       try clear c10b0
       try clear c54
       obtain ⟨kq, x113_55, rfl, HA, HJ55, HO_5, HO_6, HB⟩ := hcut
       cases kq with
       | zero => exact absurd HA.out (by simp [laws_FnLog.j4])
       | succ kj55 =>
        have H := HA.out
        clear HA
        simp only [laws_FnLog.j4] at H
        by_cases c68 : x113_55 = true
        ·subst c68
         rw [if_pos rfl] at H
         obtain rfl := Option.some.inj H
         go_wp2
         go_ret
         exact ⟨zre, zh HB⟩
        replace c68 := Bool.eq_false_iff.mpr c68
        subst c68
        rw [if_neg (show ¬ (false = true) by decide)] at H
        replace H := zbi H
        obtain ⟨t824, A69, H⟩ := H
        try dsimp only at H
        replace H := zif H
        obtain ⟨c70, H⟩ := H
        have c70b0 := eq_true c70
        have c70b1 := decide_eq_true c70
        clear c70
        replace H := zif H
        obtain ⟨c71, H⟩ := H
        have c71b0 := eq_true c71
        have c71b1 := decide_eq_true c71
        clear c71
        obtain ⟨y825, hy825⟩ : ∃ y_ : List Int, y_ = (x5_2.take (t824 : Int).toNat) := ⟨_, rfl⟩
        replace H : ((F21.f kj55 y825).bind fun bt830 => (laws_FnLog.l1 kj55 x6_2 t824 bt830.1 bt830.2.1 bt830.2.2 0)) = some r := zby hy825 H
        have Ny825 := zm hy825
        clear hy825
        replace H := zbi H
        obtain ⟨⟨t830, t831, t832⟩, A72, H⟩ := H
        try dsimp only at H
        have H' := zm H
        clear H
        go_wp2_with (first | ((with_reducible refine gate_callee (f := 29) rfl ?_); refine zgl 118 Try.func29 #[.slice A1 l1.length c1, .int .i64 0, .int .i64 (wrap64 ((x5_2.length : Int) + 1))] ?_; (with_reducible refine (F49.calls _ _ l1 0 (wrap64 ((x5_2.length : Int) + 1)) t824 _ ?side1 ?side2 A69.out).mono ?_); (case side1 => exact zC (Kd.C_below HR1.out HB.out)); (case side2 => exact HC1.out); rintro e w' ⟨rfl, ⟨nd, rfl⟩⟩; refine ⟨_, rfl, ?_⟩; have q73 : (t824 : Int) ≤ ((x5_2.length : Int) : Int) := of_decide_eq_true zas; obtain ⟨i073, hi073, _, hsz73, _⟩ := info_parts info5; have hroom73 : x5_2.length ≤ co60 := (Kd.R_reads' HO_5.out).2.1; have hC73 : Kd.F (Kd.int .u8) _ _ Ao60 x5_2.length x5_2 := (Kd.V_at (base := w.heap.size) (Kd.R_V (Kd.R_apart' (HO_5.out) (Kd.R_typed HO_6.out) (by decide)))).2.2; have hcut73 := cut_to (P := Try.prog) 26 5 .i64 Try.underlying26 hi073 Ao60 x5_2.length co60 t824 (of_decide_eq_true zas) q73 hroom73; have hr73 := Kd.F_take (m := (t824 : Int).toNat) hC73 (by omega); have hy73 : y825.length = (t824 : Int).toNat := (by rw [Ny825.out, List.length_take]; omega); rw [← Ny825.out] at hr73; rw [← hy73] at hcut73; have HO829 := zm (show Kd.V (Kd.int .u8) 5 _ w.heap.size _ (.slice Ao60 y825.length co60) y825 from Kd.V_mk (by omega) hr73); have HC829 := zm (show y825.length ≤ co60 from by omega); clear hr73 hC73 hroom73 hi073 hsz73; have KY73 := zm hy73; clear hy73; replace q73 := eq_true q73) | ((with_reducible refine gate_callee (f := 28) rfl ?_); refine zgl 123 Try.func28 #[.slice Ao60 y825.length co60] ?_; (with_reducible refine (F21.calls kj55 _ _ y825 t830 t831 t832 _ ?side1 ?side2 A72.out).mono ?_); (case side1 => exact zC (Kd.V_reads' HO829.out).2.2); (case side2 => exact (Kd.V_reads' HO829.out).2.1); rintro e w74 ⟨v833, rfl, ho0, hb⟩; refine ⟨_, rfl, ?_⟩; replace HO829 := zm (Kd.V_elder' (zv HO829) (by first | exact Kd.N_base ho0 | exact Kd.S_base ho0) hb); have HO834 := zm (Kd.N_lower (Kd.N_mono (ok' := fun k_ => some k_ ≠ (.slice Ao60 x5_2.length co60 : Value).ownBlock ∧ some k_ ≠ (u6 : Value).ownBlock) (Kd.S_N (Kd.S_bound ho0)) (fun k_ hk_ => ⟨(Kd.fresh' (Kd.R_lt (zr HO_5)) k_ hk_.2.1), (Kd.fresh' (Kd.R_lt (zr HO_6)) k_ hk_.2.1)⟩)) (below_size (zh HB))); replace HO_5 := zm (Kd.R_below (zr HO_5) hb); replace HO_6 := zm (Kd.R_below (zr HO_6) hb); replace HB := zm (below_step (zh HB) hb); (try clear hb ho0)))
        go_loopg [20] kj55 (fun kq v20 w' => ∃ (x20_4 : Int), v20 = .int .i64 x20_4 ∧ Aside0 (laws_FnLog.l1 kq x6_2 t824 t830 t831 t832 x20_4 = some r) ∧ Aside0 (kq ≤ kj55) ∧ Aside0 (Kd.R (Kd.int .i64) 3 w' w.heap.size (fun _ => True) u6 x6_2) ∧ Aside0 (Kd.N k47 47 w' w.heap.size (fun k_ => some k_ ≠ (u6 : Value).ownBlock) v833 t830) ∧ Aside0 (Below w.heap.size w w'))
        case atStart => exact ⟨(0), zrs, H', ⟨Nat.le_refl _⟩, ⟨zr HO_6⟩, ⟨Kd.N_mono (zn HO834) (fun _ hk => hk.2)⟩, ⟨zh HB⟩⟩
        case round =>
         clear H'
         try clear c1
         try clear c5
         try clear c10
         try clear c10b0
         try clear c54
         try clear c68
         try clear c70
         try clear c70b0
         try clear c70b1
         try clear c71
         try clear c71b0
         try clear c71b1
         try clear q73
         try clear q73
         obtain ⟨x20_4, rfl, HA, HK4, HO_6, HO_17, HB⟩ := hrel
         cases gk with
         | zero => exact absurd HA.out (by simp [laws_FnLog.l1])
         | succ k4 =>
          have H := HA.out
          clear HA
          simp only [laws_FnLog.l1] at H
          by_cases c76 : (wrap64 (x20_4 + 1)) < (x6_2.length : Int)
          rotate_left
          ·rw [if_neg c76] at H
           have c76b0 := decide_eq_false c76
           clear c76
           by_cases c89 : t832 = 0
           rotate_left
           ·rw [if_neg c89] at H
            have c89b0 := z2 c89
            have c89b1 := z4 c89
            obtain rfl := Option.some.inj H
            obtain ⟨Ao96, co96, eo96⟩ := Kd.R_slice HO_6.out
            subst eo96
            go_wp2
            go_ret
            exact ⟨zre, zh HB⟩
           rw [if_pos c89] at H
           have c89b0 := z1 c89
           have c89b1 := z3 c89
           clear c89
           replace H := zif H
           obtain ⟨c90, H⟩ := H
           have c90b0 := decide_eq_true c90
           clear c90
           replace H := zif H
           obtain ⟨c91, H⟩ := H
           have c91b0 := decide_eq_true c91
           clear c91
           by_cases c92 : t831 = (rd x6_2 x20_4)
           rotate_left
           ·rw [if_neg c92] at H
            have c92b0 := z2 c92
            have c92b1 := z4 c92
            obtain rfl := Option.some.inj H
            obtain ⟨Ao95, co95, eo95⟩ := Kd.R_slice HO_6.out
            subst eo95
            have p837 : 0 ≤ (x20_4 : Int) := of_decide_eq_true zas
            have q837 : x20_4 < (x6_2.length : Int) := of_decide_eq_true zas
            obtain ⟨ad837, e837, hx837_0⟩ := Kd.at_int (Kd.R_reads' HO_6.out).2.2 x20_4 p837 q837
            cases e837
            replace p837 := eq_true p837
            replace q837 := eq_true q837
            go_wp2
            go_ret
            exact ⟨zre, zh HB⟩
           rw [if_pos c92] at H
           have c92b0 := z1 c92
           have c92b1 := z3 c92
           clear c92
           obtain rfl := Option.some.inj H
           obtain ⟨Ao93, co93, eo93⟩ := Kd.R_slice HO_6.out
           subst eo93
           have p837 : 0 ≤ (x20_4 : Int) := of_decide_eq_true zas
           have q837 : x20_4 < (x6_2.length : Int) := of_decide_eq_true zas
           obtain ⟨ad837, e837, hx837_0⟩ := Kd.at_int (Kd.R_reads' HO_6.out).2.2 x20_4 p837 q837
           cases e837
           replace p837 := eq_true p837
           replace q837 := eq_true q837
           obtain ⟨Ao94, co94, eo94⟩ := Kd.N_slice HO_17.out
           subst eo94
           go_wp2
           go_ret
           exact ⟨zre, zh HB⟩
          rw [if_pos c76] at H
          have c76b0 := decide_eq_true c76
          clear c76
          obtain ⟨ji77, hji77⟩ : ∃ j_ : Int, (wrap64 (x20_4 + 1)) = j_ := ⟨_, rfl⟩
          replace H : (if 0 ≤ (ji77) then (if (rd x6_2 (ji77)) ≤ t824 then (laws_FnLog.l1 k4 x6_2 t824 t830 t831 t832 ji77) else (if t832 = 0 then (if 0 ≤ x20_4 then (if x20_4 < (x6_2.length : Int) then (if t831 = (rd x6_2 x20_4) then (some ((t830.length : Int) == x20_4)) else (some false)) else (none)) else (none)) else (some false))) else (none)) = some r := by first | (rw [hji77] at H; exact H) | (simp only [hji77] at H ⊢; exact H)
          (try rw [hji77] at c76b0)
          have hji77w : (IntKind.i64.wrap (x20_4 + 1)) = ji77 := (i64_w _).trans hji77
          replace H := zif H
          obtain ⟨c78, H⟩ := H
          have c78b0 := decide_eq_true c78
          clear c78
          by_cases c79 : (rd x6_2 (ji77)) ≤ t824
          ·rw [if_pos c79] at H
           have c79b0 := decide_eq_true c79
           clear c79
           have H' := zm H
           clear H
           obtain ⟨Ao80, co80, eo80⟩ := Kd.R_slice HO_6.out
           subst eo80
           have p835 : 0 ≤ ((ji77) : Int) := of_decide_eq_true zas
           have q835 : (ji77) < (x6_2.length : Int) := of_decide_eq_true zas
           obtain ⟨ad835, e835, hx835_0⟩ := Kd.at_int (Kd.R_reads' HO_6.out).2.2 (ji77) p835 q835
           cases e835
           replace p835 := eq_true p835
           replace q835 := eq_true q835
           go_wp2
           go_roundg k4
           case measure => have := HJ2.out; have := HK2.out; have := HJ55.out; have := HK4.out; omega
           case rel => exact ⟨(ji77), (by first | rfl | (simp; done) | (simp only [← hji77] <;> (first | rfl | simp)) | (simp [*]; done)), H', ⟨by have := HJ2.out; have := HK2.out; have := HJ55.out; have := HK4.out; omega⟩, ⟨zr HO_6⟩, ⟨zn HO_17⟩, ⟨zh HB⟩⟩
          rw [if_neg c79] at H
          have c79b0 := decide_eq_false c79
          clear c79
          by_cases c81 : t832 = 0
          rotate_left
          ·rw [if_neg c81] at H
           have c81b0 := z2 c81
           have c81b1 := z4 c81
           obtain rfl := Option.some.inj H
           obtain ⟨Ao88, co88, eo88⟩ := Kd.R_slice HO_6.out
           subst eo88
           have p835 : 0 ≤ ((ji77) : Int) := of_decide_eq_true zas
           have q835 : (ji77) < (x6_2.length : Int) := of_decide_eq_true zas
           obtain ⟨ad835, e835, hx835_0⟩ := Kd.at_int (Kd.R_reads' HO_6.out).2.2 (ji77) p835 q835
           cases e835
           replace p835 := eq_true p835
           replace q835 := eq_true q835
           go_wp2
           go_ret
           exact ⟨by first | rfl | (simp [errW_none, errW_some] <;> rfl) | (simp only [← hji77]; first | rfl | (simp [errW_none, errW_some] <;> rfl)) | (simp [*, errW_none, errW_some] <;> rfl), zh HB⟩
          rw [if_pos c81] at H
          have c81b0 := z1 c81
          have c81b1 := z3 c81
          clear c81
          replace H := zif H
          obtain ⟨c82, H⟩ := H
          have c82b0 := decide_eq_true c82
          clear c82
          replace H := zif H
          obtain ⟨c83, H⟩ := H
          have c83b0 := decide_eq_true c83
          clear c83
          by_cases c84 : t831 = (rd x6_2 x20_4)
          rotate_left
          ·rw [if_neg c84] at H
           have c84b0 := z2 c84
           have c84b1 := z4 c84
           obtain rfl := Option.some.inj H
           obtain ⟨Ao87, co87, eo87⟩ := Kd.R_slice HO_6.out
           subst eo87
           have p835 : 0 ≤ ((ji77) : Int) := of_decide_eq_true zas
           have q835 : (ji77) < (x6_2.length : Int) := of_decide_eq_true zas
           obtain ⟨ad835, e835, hx835_0⟩ := Kd.at_int (Kd.R_reads' HO_6.out).2.2 (ji77) p835 q835
           cases e835
           replace p835 := eq_true p835
           replace q835 := eq_true q835
           have p836 : 0 ≤ (x20_4 : Int) := of_decide_eq_true zas
           have q836 : x20_4 < (x6_2.length : Int) := of_decide_eq_true zas
           obtain ⟨ad836, e836, hx836_0⟩ := Kd.at_int (Kd.R_reads' HO_6.out).2.2 x20_4 p836 q836
           obtain rfl : ad835 = ad836 := (by injection e836)
           replace p836 := eq_true p836
           replace q836 := eq_true q836
           go_wp2
           go_ret
           exact ⟨by first | rfl | (simp [errW_none, errW_some] <;> rfl) | (simp only [← hji77]; first | rfl | (simp [errW_none, errW_some] <;> rfl)) | (simp [*, errW_none, errW_some] <;> rfl), zh HB⟩
          rw [if_pos c84] at H
          have c84b0 := z1 c84
          have c84b1 := z3 c84
          clear c84
          obtain rfl := Option.some.inj H
          obtain ⟨Ao85, co85, eo85⟩ := Kd.R_slice HO_6.out
          subst eo85
          have p835 : 0 ≤ ((ji77) : Int) := of_decide_eq_true zas
          have q835 : (ji77) < (x6_2.length : Int) := of_decide_eq_true zas
          obtain ⟨ad835, e835, hx835_0⟩ := Kd.at_int (Kd.R_reads' HO_6.out).2.2 (ji77) p835 q835
          cases e835
          replace p835 := eq_true p835
          replace q835 := eq_true q835
          have p836 : 0 ≤ (x20_4 : Int) := of_decide_eq_true zas
          have q836 : x20_4 < (x6_2.length : Int) := of_decide_eq_true zas
          obtain ⟨ad836, e836, hx836_0⟩ := Kd.at_int (Kd.R_reads' HO_6.out).2.2 x20_4 p836 q836
          obtain rfl : ad835 = ad836 := (by injection e836)
          replace p836 := eq_true p836
          replace q836 := eq_true q836
          obtain ⟨Ao86, co86, eo86⟩ := Kd.N_slice HO_17.out
          subst eo86
          go_wp2
          go_ret
          exact ⟨by first | rfl | (simp [errW_none, errW_some] <;> rfl) | (simp only [← hji77]; first | rfl | (simp [errW_none, errW_some] <;> rfl)) | (simp [*, errW_none, errW_some] <;> rfl), zh HB⟩
     rw [if_pos c10] at H
     have c10b0 := decide_eq_true c10
     clear c10
     obtain ⟨y784, hy784⟩ : ∃ y_ : List Int, y_ = (([(wrap64 (60 * x7_2)) % 256] : List Int)) := ⟨_, rfl⟩
     replace H : (if 0 ≤ (mn (l0.length : Int) 50) then (if (mn (l0.length : Int) 50) ≤ (l0.length : Int) then (if y784.length + (l0.take ((mn (l0.length : Int) 50) : Int).toNat).length < 140737488355328 then ((F28.f k2 (y784 ++ (l0.take ((mn (l0.length : Int) 50) : Int).toNat))).bind fun bt791 => (if bt791.2.1 ≥ 1 then (laws_FnLog.j2 k2 l0 l1 x5_2 x6_2 x7_2 bt791.1 (x6_2.length : Int) bt791.2.2.1 bt791.2.2.2.1 bt791.2.2.2.2) else (laws_FnLog.j2 k2 l0 l1 x5_2 x6_2 x7_2 bt791.1 bt791.2.1 bt791.2.2.1 bt791.2.2.2.1 bt791.2.2.2.2))) else (none)) else (none)) else (none)) = some r := zby hy784 H
     have Ny784 := zm hy784
     clear hy784
     obtain ⟨ji11, hji11⟩ : ∃ j_ : Int, (mn (l0.length : Int) 50) = j_ := ⟨_, rfl⟩
     replace H : (if 0 ≤ (ji11) then (if (ji11) ≤ (l0.length : Int) then (if y784.length + (l0.take ((ji11) : Int).toNat).length < 140737488355328 then ((F28.f k2 (y784 ++ (l0.take ((ji11) : Int).toNat))).bind fun bt791 => (if bt791.2.1 ≥ 1 then (laws_FnLog.j2 k2 l0 l1 x5_2 x6_2 x7_2 bt791.1 (x6_2.length : Int) bt791.2.2.1 bt791.2.2.2.1 bt791.2.2.2.2) else (laws_FnLog.j2 k2 l0 l1 x5_2 x6_2 x7_2 bt791.1 bt791.2.1 bt791.2.2.1 bt791.2.2.2.1 bt791.2.2.2.2))) else (none)) else (none)) else (none)) = some r := by first | (rw [hji11] at H; exact H) | (simp only [hji11] at H ⊢; exact H)
     have hji11_ : (if 50 < (l0.length : Int) then 50 else (l0.length : Int)) = ji11 := hji11
     replace H := zif H
     obtain ⟨c12, H⟩ := H
     have c12b0 := eq_true c12
     have c12b1 := decide_eq_true c12
     clear c12
     replace H := zif H
     obtain ⟨c13, H⟩ := H
     have c13b0 := eq_true c13
     have c13b1 := decide_eq_true c13
     clear c13
     replace H := zif H
     obtain ⟨c14, H⟩ := H
     have LMc14 := zm c14
     clear c14
     obtain ⟨y788, hy788⟩ : ∃ y_ : List Int, y_ = (y784 ++ (l0.take ((ji11) : Int).toNat)) := ⟨_, rfl⟩
     replace H : ((F28.f k2 y788).bind fun bt791 => (if bt791.2.1 ≥ 1 then (laws_FnLog.j2 k2 l0 l1 x5_2 x6_2 x7_2 bt791.1 (x6_2.length : Int) bt791.2.2.1 bt791.2.2.2.1 bt791.2.2.2.2) else (laws_FnLog.j2 k2 l0 l1 x5_2 x6_2 x7_2 bt791.1 bt791.2.1 bt791.2.2.1 bt791.2.2.2.1 bt791.2.2.2.2))) = some r := zby hy788 H
     have Ny788 := zm hy788
     clear hy788
     replace H := zbi H
     obtain ⟨⟨t791, t792, t793, t794, t795⟩, A15, H⟩ := H
     try dsimp only at H
     have HC16 := zm H
     clear H
     go_upto_if 48 with (first | ((with_reducible refine gate_dst (N := 38) rfl ?_); (try (refine gate_guard (by rfl) ?_; dsimp only)); refine Kd.R_lit (Kd.int .u8) _ 5 ?hg (N := 38) ?hd (xs := ([(wrap64 (60 * x7_2)) % 256] : List Int)) (inner := [.int .u8 ((wrap64 (60 * x7_2)) % 256)]) (ok := fun _ => True) (okp := fun _ => True) ?hr ?hp (fun _ hk => hk) trivial (Below.refl _ _) (Nat.le_refl _) (by simp) ?_; (case hd => rfl); (case hg => rfl); (case hr => first | (go_simp; done) | (go_simp; rfl)); (case hp => exact (Reps.one (show Kd.M (Kd.int .u8) _ _ _ ((wrap64 (60 * x7_2)) % 256) [.int .u8 ((wrap64 (60 * x7_2)) % 256)] from rfl) (Reps.none _ _))); intro v785 w17 ho18 hb hg_ hnew_; clear hg_ hnew_; (first | rw [← Ny784.out] at ho18 | (simp only [Int.reduceToNat] at ho18; rw [← Ny784.out] at ho18)); replace HO_6 := zm (Kd.R_below (zr HO_6) hb); have HO786 := zm (Kd.R_lower (Kd.R_new' ho18 (Kd.R_lt (zr HO_5))) (below_size (zh HB))); replace HO_5 := zm (Kd.R_elder' (zr HO_5) (Kd.R_base ho18) hb); replace HB := zm (below_step (zh HB) hb); clear hb ho18; obtain ⟨i019, hi019, _, hsz19, _⟩ := info_parts info5; obtain ⟨hcut19, hA19, hC19⟩ := print_take_of (P := Try.prog) (Value.int .u8) 0 26 5 .i64 Try.underlying26 hi019 hsz19 A0 c0 l0 (ji11) (of_decide_eq_true zas) (of_decide_eq_true zas) HC0.out; have HR787 := zm (Kd.C_of_reads (h1 := fun _ => rfl) (hA19 _ (Kd.reads_of_C HR0.out))); have HC787 := zm hC19; clear hA19 hC19 hi019 hsz19) | ((with_reducible refine gate_builtin (b := .append) (xs := #[.tmp 38, .tmp 43]) rfl ?_); (try (refine gate_guard (by rfl) ?_; dsimp only)); at_builtin; refine Kd.R_append_rows (Kd.int .u8) (w0 := w) w.heap.size rfl (.tmp 38) (.tmp 43) 26 5 (.int .u8 0) 1 rfl Try.underlying26 info5 rfl (by decide) (by omega) v785 y784 (l0.take ((ji11) : Int).toNat) _ _ _ (fun k_ => some k_ ≠ (u5 : Value).ownBlock) (fun _ => False) rfl rfl ?aO ?aR (fun _ _ h => h) (fun _ h => h.elim) ?aF ?aB ?aS ?aL ?_; (case aR => first | exact zCn_ (show (l0.take ((ji11) : Int).toNat).length = (ji11).toNat from (by rw [List.length_take]; have h_ : ((ji11) : Int) ≤ (l0.length : Int) := of_decide_eq_true zas; omega)) (by repeat (first | exact (Kd.C_below HR787.out HB.out) | (with_reducible refine Kd.C_alloc ?_ _) | (with_reducible refine Kd.C_drewN ?_ _) | (with_reducible refine Kd.C_drew ?_))) | (rw [← show (l0.take ((ji11) : Int).toNat).length = (ji11).toNat from (by rw [List.length_take]; have h_ : ((ji11) : Int) ≤ (l0.length : Int) := of_decide_eq_true zas; omega)]; repeat (first | exact (Kd.C_below HR787.out HB.out) | (with_reducible refine Kd.C_alloc ?_ _) | (with_reducible refine Kd.C_drewN ?_ _) | (with_reducible refine Kd.C_drew ?_))) | (repeat (first | exact (Kd.C_below HR787.out HB.out) | (with_reducible refine Kd.C_alloc ?_ _) | (with_reducible refine Kd.C_drewN ?_ _) | (with_reducible refine Kd.C_drew ?_)))); (case aB => exact (zh HB)); (case aF => exact (fun k_ hk => Kd.fresh' (Kd.R_lt (zr HO_5)) k_ hk)); (case aO => exact (Kd.R_mono (zr HO786) (fun _ hk => hk.2))); (case aS => exact (below_size (zh HB))); (case aL => have := LMc14.out; have hlx_ := (show (l0.take ((ji11) : Int).toNat).length = (ji11).toNat from (by rw [List.length_take]; have h_ : ((ji11) : Int) ≤ (l0.length : Int) := of_decide_eq_true zas; omega)); omega); intro v789 w20 ho hb hg hat; rw [← Ny788.out] at ho; replace HO_5 := zm (Kd.R_after (ok := (fun _ => True)) (zr HO_5) hg hat); replace HO_6 := zm (Kd.R_over' (zr HO_6) (Kd.R_typed (zr HO786)) (by decide) hg); replace HB := zm (hb); have HO790 := zm (ho); clear HO786; clear ho hb hg hat; obtain ⟨Ao21, co21, eo21⟩ := Kd.R_slice HO790.out; subst eo21) | ((with_reducible refine gate_callee (f := 27) rfl ?_); refine zgl 45 Try.func27 #[.slice Ao21 y788.length co21] ?_; (with_reducible refine (F28.calls k2 _ _ y788 t791 t792 t793 t794 t795 _ ?side1 ?side2 A15.out).mono ?_); (case side1 => exact zC (Kd.R_reads' HO790.out).2.2); (case side2 => exact (Kd.R_reads' HO790.out).2.1); rintro e w22 ⟨v796, rfl, ho0, hb⟩; refine ⟨_, rfl, ?_⟩; have HO797 := zm (Kd.N_lower (Kd.N_mono (ok' := fun k_ => some k_ ≠ (u5 : Value).ownBlock ∧ some k_ ≠ (u6 : Value).ownBlock ∧ some k_ ≠ (.slice Ao21 y788.length co21 : Value).ownBlock) ho0 (fun k_ hk_ => ⟨(Kd.fresh' (Kd.R_lt (zr HO_5)) k_ hk_), (Kd.fresh' (Kd.R_lt (zr HO_6)) k_ hk_), (Kd.fresh' (Kd.R_lt (zr HO790)) k_ hk_)⟩)) (below_size (zh HB))); replace HO_5 := zm (Kd.R_below (zr HO_5) hb); replace HO_6 := zm (Kd.R_below (zr HO_6) hb); replace HO790 := zm (Kd.R_below (zr HO790) hb); replace HB := zm (below_step (zh HB) hb); (try clear hb ho0)) | ((with_reducible refine gate_dst (N := 8) rfl ?_); (try (refine gate_guard (by rfl) ?_; dsimp only)); refine box_event (by rfl) (N := 8) (by rfl) (cs := #[.int .i64 0, .int .i64 0, .string (⟨#[]⟩ : ByteArray), .string (⟨#[]⟩ : ByteArray), .slice none 0 0]) (t := 47) zgs ?_; intro gb798 hg w24 hbox hb; replace HO_5 := zm (Kd.R_below (zr HO_5) hb); replace HO_6 := zm (Kd.R_below (zr HO_6) hb); replace HO790 := zm (Kd.R_below (zr HO790) hb); replace HO797 := zm (Kd.N_below (Kd.N_elderB (zn HO797) gb798 (Nat.le_of_eq hg.symm)) hb); have BK798 := zm (hbox); have GW798 := zge hg (below_size (zh HB)); have GE798 := zge hg (below_size (zh HB)); replace HB := zm (below_step (zh HB) hb); clear hb hbox hg; obtain ⟨⟨hcz25_0, hcz25_1, hcz25_2, hcz25_3, hcz25_4⟩, hfz25_0, hfz25_1, hfz25_2, hfz25_3, hfz25_4⟩ := zc5 BK798; obtain ⟨Ao26, co26, eo26⟩ := Kd.N_slice HO797.out; subst eo26))
     (try simp only [Act.put, List.setIfInBounds_toArray, List.set_cons_zero, List.set_cons_succ])
     go_cut [] (fun wc => ∃ (kq : Nat) (x799001_15 : Int), Aside0 (laws_FnLog.j2 kq l0 l1 x5_2 x6_2 x7_2 t791 x799001_15 t793 t794 t795 = some r) ∧ Aside0 (kq ≤ k2) ∧ Aside0 (Kd.R (Kd.int .u8) 5 wc w.heap.size (fun _ => True) u5 x5_2) ∧ Aside0 (Kd.R (Kd.int .i64) 3 wc w.heap.size (fun _ => True) u6 x6_2) ∧ Aside0 (Kd.N k66 66 wc w.heap.size (fun k_ => some k_ ≠ (u5 : Value).ownBlock ∧ some k_ ≠ (u6 : Value).ownBlock ∧ k_ ≠ gb798) (.slice Ao26 t795.length co26) t795) ∧ Aside0 (wc.heap[gb798]? = some (.cells #[.int .i64 t791, .int .i64 x799001_15, .string t793, .string t794, (.slice Ao26 t795.length co26)] 47 (0, 0))) ∧ Aside0 (Below w.heap.size w wc))
     case first =>
      have H := HC16.out
      clear HC16
      by_cases c27 : t792 ≥ 1
      rotate_left
      ·rw [if_neg c27] at H
       have c27b0 := decide_eq_false c27
       clear c27
       (first | rw [c27b0] | (simp only [i64_w, i32_w]; rw [c27b0]) | skip)
       have H' := zm H
       clear H
       go_wp2
       go_meet
       case rel => exact ⟨_, (t792), H', ⟨by have := HJ2.out; have := HK2.out; first | omega | exact Nat.le_refl _⟩, ⟨by (with_reducible repeat (first | apply Kd.R_alloc | apply Kd.R_drewN | apply Kd.R_drew)); exact Kd.R_mono (Kd.R_far (p := ⟨gb798, 4, none⟩) (Kd.R_far (p := ⟨gb798, 3, none⟩) (Kd.R_far (p := ⟨gb798, 2, none⟩) (Kd.R_far (p := ⟨gb798, 1, none⟩) (Kd.R_far (p := ⟨gb798, 0, none⟩) (Kd.R_types HO_5.out BK798.out (by decide)) (fun _ hk => hk.2) (.int .i64 t791)) (fun _ hk => hk.2) (.int .i64 t792)) (fun _ hk => hk.2) (.string t793)) (fun _ hk => hk.2) (.string t794)) (fun _ hk => hk.2) (.slice Ao26 t795.length co26)) (fun _ hk => trivial)⟩, ⟨by (with_reducible repeat (first | apply Kd.R_alloc | apply Kd.R_drewN | apply Kd.R_drew)); exact Kd.R_mono (Kd.R_far (p := ⟨gb798, 4, none⟩) (Kd.R_far (p := ⟨gb798, 3, none⟩) (Kd.R_far (p := ⟨gb798, 2, none⟩) (Kd.R_far (p := ⟨gb798, 1, none⟩) (Kd.R_far (p := ⟨gb798, 0, none⟩) (Kd.R_types HO_6.out BK798.out (by decide)) (fun _ hk => hk.2) (.int .i64 t791)) (fun _ hk => hk.2) (.int .i64 t792)) (fun _ hk => hk.2) (.string t793)) (fun _ hk => hk.2) (.string t794)) (fun _ hk => hk.2) (.slice Ao26 t795.length co26)) (fun _ hk => trivial)⟩, ⟨by (with_reducible repeat (first | apply Kd.N_alloc | apply Kd.N_drewN | apply Kd.N_drew)); exact Kd.N_mono (zfN gb798 4 (zfN gb798 3 (zfN gb798 2 (zfN gb798 1 (zfN gb798 0 (Kd.N_mono HO797.out (fun k_ hk => (⟨hk, hk.2⟩ : _ ∧ k_ ≠ gb798))) (.int .i64 t791)) (.int .i64 t792)) (.string t793)) (.string t794)) (.slice Ao26 t795.length co26)) (fun _ hk => ⟨hk.1.1.1, ⟨hk.1.1.2.1, hk.1.2⟩⟩)⟩, ⟨zp BK798⟩, ⟨zg HB⟩⟩
      rw [if_pos c27] at H
      have c27b0 := decide_eq_true c27
      clear c27
      (first | rw [c27b0] | (simp only [i64_w, i32_w]; rw [c27b0]) | skip)
      have H' := zm H
      clear H
      obtain ⟨Ao28, co28, eo28⟩ := Kd.R_slice HO_6.out
      subst eo28
      obtain ⟨⟨_, _, _, _, _⟩, _, _, _, _, _⟩ := zc5 BK798
      go_wp2
      go_meet
      case rel => exact ⟨_, ((x6_2.length : Int)), H', ⟨by have := HJ2.out; have := HK2.out; first | omega | exact Nat.le_refl _⟩, ⟨by (with_reducible repeat (first | apply Kd.R_alloc | apply Kd.R_drewN | apply Kd.R_drew)); exact Kd.R_mono (Kd.R_far (p := ⟨gb798, 1, none⟩) (Kd.R_far (p := ⟨gb798, 4, none⟩) (Kd.R_far (p := ⟨gb798, 3, none⟩) (Kd.R_far (p := ⟨gb798, 2, none⟩) (Kd.R_far (p := ⟨gb798, 1, none⟩) (Kd.R_far (p := ⟨gb798, 0, none⟩) (Kd.R_types HO_5.out BK798.out (by decide)) (fun _ hk => hk.2) (.int .i64 t791)) (fun _ hk => hk.2) (.int .i64 t792)) (fun _ hk => hk.2) (.string t793)) (fun _ hk => hk.2) (.string t794)) (fun _ hk => hk.2) (.slice Ao26 t795.length co26)) (fun _ hk => hk.2) (.int .i64 (x6_2.length : Int))) (fun _ hk => trivial)⟩, ⟨by (with_reducible repeat (first | apply Kd.R_alloc | apply Kd.R_drewN | apply Kd.R_drew)); exact Kd.R_mono (Kd.R_far (p := ⟨gb798, 1, none⟩) (Kd.R_far (p := ⟨gb798, 4, none⟩) (Kd.R_far (p := ⟨gb798, 3, none⟩) (Kd.R_far (p := ⟨gb798, 2, none⟩) (Kd.R_far (p := ⟨gb798, 1, none⟩) (Kd.R_far (p := ⟨gb798, 0, none⟩) (Kd.R_types HO_6.out BK798.out (by decide)) (fun _ hk => hk.2) (.int .i64 t791)) (fun _ hk => hk.2) (.int .i64 t792)) (fun _ hk => hk.2) (.string t793)) (fun _ hk => hk.2) (.string t794)) (fun _ hk => hk.2) (.slice Ao26 t795.length co26)) (fun _ hk => hk.2) (.int .i64 (x6_2.length : Int))) (fun _ hk => trivial)⟩, ⟨by (with_reducible repeat (first | apply Kd.N_alloc | apply Kd.N_drewN | apply Kd.N_drew)); exact Kd.N_mono (zfN gb798 1 (zfN gb798 4 (zfN gb798 3 (zfN gb798 2 (zfN gb798 1 (zfN gb798 0 (Kd.N_mono HO797.out (fun k_ hk => (⟨hk, hk.2⟩ : _ ∧ k_ ≠ gb798))) (.int .i64 t791)) (.int .i64 t792)) (.string t793)) (.string t794)) (.slice Ao26 t795.length co26)) (.int .i64 (x6_2.length : Int))) (fun _ hk => ⟨hk.1.1.1, ⟨hk.1.1.2.1, hk.1.2⟩⟩)⟩, ⟨zp BK798⟩, ⟨zg HB⟩⟩
     case rest =>
      clear HC16
      try clear c1
      try clear c5
      try clear c10
      try clear c10b0
      try clear c12
      try clear c12b0
      try clear c12b1
      try clear c13
      try clear c13b0
      try clear c13b1
      try clear c14
      try clear hcz25_0 hcz25_1 hcz25_2 hcz25_3 hcz25_4
      try clear hfz25_0 hfz25_1 hfz25_2 hfz25_3 hfz25_4
      obtain ⟨kq, x799001_15, HA, HJ15, HO_5, HO_6, HO_799004, BK798, HB⟩ := hcut
      cases kq with
      | zero => exact absurd HA.out (by simp [laws_FnLog.j2])
      | succ kj15 =>
       have H := HA.out
       clear HA
       simp only [laws_FnLog.j2] at H
       replace H := zbi H
       obtain ⟨⟨t799, t802⟩, A30, H⟩ := H
       try dsimp only at H
       replace H := zbi H
       obtain ⟨⟨t803, t806⟩, A31, H⟩ := H
       try dsimp only at H
       have HC32 := zm H
       clear H
       obtain ⟨⟨hcz33_0, hcz33_1, hcz33_2, hcz33_3, hcz33_4⟩, hfz33_0, hfz33_1, hfz33_2, hfz33_3, hfz33_4⟩ := zc5 BK798
       go_upto_region 13 with (first | ((with_reducible refine gate_callee (f := 24) rfl ?_); refine zgl 54 Try.func24 #[.agg #[.int .i64 t791, .int .i64 x799001_15, .string t793, .string t794, .slice Ao26 t795.length co26]] ?_; (with_reducible refine (F4.calls kj15 t791 x799001_15 t793 t794 _ _ t795 t799 t802 _ ?side1 ?side2 A30.out).mono ?_); (case side1 => exact zC (Kd.N_reads' HO_799004.out).2.2); (case side2 => exact (Kd.N_reads' HO_799004.out).2.1); rintro e w34 ⟨v800, rfl, ho0, hb⟩; refine ⟨_, rfl, ?_⟩; replace HO_6 := zm (Kd.R_below (zr HO_6) hb); replace HO_799004 := zm (Kd.N_elder' (zn HO_799004) (Kd.R_base ho0) hb); have HO801 := zm (Kd.R_lower (Kd.R_new' ho0 (Kd.R_lt (zr HO_5))) (below_size (zg HB))); replace HO_5 := zm (Kd.R_elder' (zr HO_5) (Kd.R_base ho0) hb); replace BK798 := zbb BK798 hb; replace HB := zm (below_step (zg HB) hb); (try clear hb ho0); obtain ⟨⟨hcz36_0, hcz36_1, hcz36_2, hcz36_3, hcz36_4⟩, hfz36_0, hfz36_1, hfz36_2, hfz36_3, hfz36_4⟩ := zc5 BK798) | ((with_reducible refine gate_callee (f := 22) rfl ?_); refine zgl 59 Try.func22 #[.agg #[.int .i64 t791, .int .i64 x799001_15, .string t793, .string t794, .slice Ao26 t795.length co26]] ?_; (with_reducible refine (F31.calls kj15 t791 x799001_15 t793 t794 _ _ t795 t803 t806 _ ?side1 ?side2 A31.out).mono ?_); (case side1 => exact zC (Kd.N_reads' HO_799004.out).2.2); (case side2 => exact (Kd.N_reads' HO_799004.out).2.1); rintro e w37 ⟨v804, rfl, ho0, hb⟩; refine ⟨_, rfl, ?_⟩; replace HO_6 := zm (Kd.R_below (zr HO_6) hb); replace HO_799004 := zm (Kd.N_elder' (zn HO_799004) (Kd.R_base ho0) hb); have HO805 := zm (Kd.R_lower (Kd.R_new' (Kd.R_new' ho0 (Kd.R_lt (zr HO_5))) (Kd.R_lt (zr HO801))) (below_size (zg HB))); replace HO_5 := zm (Kd.R_elder' (zr HO_5) (Kd.R_base ho0) hb); replace HO801 := zm (Kd.R_elder' (zr HO801) (Kd.R_base ho0) hb); replace BK798 := zbb BK798 hb; replace HB := zm (below_step (zg HB) hb); (try clear hb ho0)))
       (try simp only [Act.put, List.setIfInBounds_toArray, List.set_cons_zero, List.set_cons_succ])
       go_cut [71] (fun v71 wc => ∃ (kq : Nat) (x71_31 : Bool), v71 = .bool x71_31 ∧ Aside0 (laws_FnLog.j3 kq l0 l1 x5_2 x6_2 x7_2 t799 t802 x71_31 = some r) ∧ Aside0 (kq ≤ kj15) ∧ Aside0 (Kd.R (Kd.int .u8) 5 wc w.heap.size (fun k_ => some k_ ≠ (v800 : Value).ownBlock) u5 x5_2) ∧ Aside0 (Kd.R (Kd.int .i64) 3 wc w.heap.size (fun _ => True) u6 x6_2) ∧ Aside0 (Kd.R (Kd.int .u8) 5 wc w.heap.size (fun k_ => some k_ ≠ (u5 : Value).ownBlock) v800 t799) ∧ Aside0 (Kd.N k66 66 wc w.heap.size (fun k_ => some k_ ≠ (u5 : Value).ownBlock ∧ some k_ ≠ (u6 : Value).ownBlock ∧ some k_ ≠ (v800 : Value).ownBlock ∧ k_ ≠ gb798) (.slice Ao26 t795.length co26) t795) ∧ Aside0 (wc.heap[gb798]? = some (.cells #[.int .i64 t791, .int .i64 x799001_15, .string t793, .string t794, (.slice Ao26 t795.length co26)] 47 (0, 0))) ∧ Aside0 (Below w.heap.size w wc))
       case first =>
        have H := HC32.out
        clear HC32
        by_cases c39 : t802 = t806
        rotate_left
        ·rw [if_neg c39] at H
         have c39b0 := z2 c39
         have c39b1 := z4 c39
         (first | rw [c39b0] | (simp only [i64_w, i32_w]; rw [c39b0]) | skip)
         have H' := zm H
         clear H
         go_wp2
         go_meet
         case rel => exact ⟨_, (true), zrs, H', ⟨by have := HJ2.out; have := HK2.out; have := HJ15.out; first | omega | exact Nat.le_refl _⟩, ⟨Kd.R_mono (zr HO_5) (fun _ hk => hk.1.2)⟩, ⟨zr HO_6⟩, ⟨Kd.R_mono (zr HO801) (fun _ hk => hk.1.2)⟩, ⟨Kd.N_mono (zn HO_799004) (fun _ hk => ⟨hk.1.1.1, ⟨hk.1.1.2.1, ⟨hk.1.2, hk.1.1.2.2⟩⟩⟩)⟩, ⟨zb BK798⟩, ⟨zg HB⟩⟩
        rw [if_pos c39] at H
        have c39b0 := z1 c39
        have c39b1 := z3 c39
        clear c39
        (first | rw [c39b0] | (simp only [i64_w, i32_w]; rw [c39b0]) | skip)
        have H' := zm H
        clear H
        have hcv40 := own_string (P := Try.prog) Try.underlying26 Try.underlying5 Try.underlying9 (Kd.own_of_R HO801.out)
        have hcv41 := own_string (P := Try.prog) Try.underlying26 Try.underlying5 Try.underlying9 (Kd.own_of_R HO805.out)
        go_wp2
        go_meet
        case rel => exact ⟨_, (((strOfNums t799).toList != (strOfNums t803).toList)), zrs, H', ⟨by have := HJ2.out; have := HK2.out; have := HJ15.out; first | omega | exact Nat.le_refl _⟩, ⟨Kd.R_mono (zr HO_5) (fun _ hk => hk.1.2)⟩, ⟨zr HO_6⟩, ⟨Kd.R_mono (zr HO801) (fun _ hk => hk.1.2)⟩, ⟨Kd.N_mono (zn HO_799004) (fun _ hk => ⟨hk.1.1.1, ⟨hk.1.1.2.1, ⟨hk.1.2, hk.1.1.2.2⟩⟩⟩)⟩, ⟨zb BK798⟩, ⟨zg HB⟩⟩
       case rest =>
        clear HC32
        try clear c1
        try clear c5
        try clear c10
        try clear c10b0
        try clear c12
        try clear c12b0
        try clear c12b1
        try clear c13
        try clear c13b0
        try clear c13b1
        try clear c14
        try clear hcz25_0 hcz25_1 hcz25_2 hcz25_3 hcz25_4
        try clear hcz33_0 hcz33_1 hcz33_2 hcz33_3 hcz33_4
        try clear hcz36_0 hcz36_1 hcz36_2 hcz36_3 hcz36_4
        try clear hfz25_0 hfz25_1 hfz25_2 hfz25_3 hfz25_4
        try clear hfz33_0 hfz33_1 hfz33_2 hfz33_3 hfz33_4
        try clear hfz36_0 hfz36_1 hfz36_2 hfz36_3 hfz36_4
        obtain ⟨kq, x71_31, rfl, HA, HJ31, HO_5, HO_6, HO_9, HO_799004, BK798, HB⟩ := hcut
        cases kq with
        | zero => exact absurd HA.out (by simp [laws_FnLog.j3])
        | succ kj31 =>
         have H := HA.out
         clear HA
         simp only [laws_FnLog.j3] at H
         by_cases c42 : x71_31 = true
         ·subst c42
          rw [if_pos rfl] at H
          obtain rfl := Option.some.inj H
          go_wp2
          go_ret
          exact ⟨by first | rfl | (simp [errW_none, errW_some] <;> rfl) | (simp only [← hji11]; first | rfl | (simp [errW_none, errW_some] <;> rfl)) | (simp [*, errW_none, errW_some] <;> rfl), zg HB⟩
         replace c42 := Bool.eq_false_iff.mpr c42
         subst c42
         rw [if_neg (show ¬ (false = true) by decide)] at H
         by_cases c43 : t802 = 0
         rotate_left
         ·rw [if_neg c43] at H
          have c43b0 := z2 c43
          have c43b1 := z4 c43
          have H' := zm H
          clear H
          go_wp2
          go_roundg kj31
          case measure => have := HJ2.out; have := HK2.out; have := HJ15.out; have := HJ31.out; omega
          case rel => exact ⟨(x5_2), (x6_2), (wrap64 (x7_2 + 1)), zrs, H', ⟨by have := HJ2.out; have := HK2.out; have := HJ15.out; have := HJ31.out; omega⟩, ⟨Kd.R_mono (zr HO_5) (fun _ hk => trivial)⟩, ⟨zr HO_6⟩, ⟨zg HB⟩⟩
         rw [if_pos c43] at H
         have c43b0 := z1 c43
         have c43b1 := z3 c43
         clear c43
         by_cases c44 : (wrap64 ((x5_2.length : Int) + (t799.length : Int))) ≤ 1048576
         rotate_left
         ·rw [if_neg c44] at H
          have c44b0 := decide_eq_false c44
          clear c44
          have H' := zm H
          clear H
          obtain ⟨Ao52, co52, eo52⟩ := Kd.R_slice HO_5.out
          subst eo52
          obtain ⟨Ao53, co53, eo53⟩ := Kd.R_slice HO_9.out
          subst eo53
          go_wp2
          go_roundg kj31
          case measure => have := HJ2.out; have := HK2.out; have := HJ15.out; have := HJ31.out; omega
          case rel => exact ⟨(x5_2), (x6_2), (wrap64 (x7_2 + 1)), zrs, H', ⟨by have := HJ2.out; have := HK2.out; have := HJ15.out; have := HJ31.out; omega⟩, ⟨Kd.R_mono (zr HO_5) (fun _ hk => trivial)⟩, ⟨zr HO_6⟩, ⟨zg HB⟩⟩
         rw [if_pos c44] at H
         have c44b0 := decide_eq_true c44
         clear c44
         replace H := zif H
         obtain ⟨c45, H⟩ := H
         have LMc45 := zm c45
         clear c45
         obtain ⟨y807, hy807⟩ : ∃ y_ : List Int, y_ = (x5_2 ++ t799) := ⟨_, rfl⟩
         replace H : (if x6_2.length < 17592186044416 then (laws_FnLog.l0 kj31 l0 l1 y807 (x6_2 ++ [(y807.length : Int)]) (wrap64 (x7_2 + 1))) else (none)) = some r := zby hy807 H
         have Ny807 := zm hy807
         clear hy807
         replace H := zif H
         obtain ⟨c46, H⟩ := H
         have LMc46 := zm c46
         clear c46
         obtain ⟨y810, hy810⟩ : ∃ y_ : List Int, y_ = (x6_2 ++ [(y807.length : Int)]) := ⟨_, rfl⟩
         replace H : (laws_FnLog.l0 kj31 l0 l1 y807 y810 (wrap64 (x7_2 + 1))) = some r := zby hy810 H
         have Ny810 := zm hy810
         clear hy810
         have H' := zm H
         clear H
         obtain ⟨Ao47, co47, eo47⟩ := Kd.R_slice HO_5.out
         subst eo47
         obtain ⟨Ao48, co48, eo48⟩ := Kd.R_slice HO_9.out
         subst eo48
         go_wp2_with (first | ((with_reducible refine gate_builtin (b := .append) (xs := #[.tmp 82, .tmp 83]) rfl ?_); (try (refine gate_guard (by rfl) ?_; dsimp only)); at_builtin; refine Kd.R_append_rows (Kd.int .u8) (w0 := w) w.heap.size rfl (.tmp 82) (.tmp 83) 26 5 (.int .u8 0) 1 rfl Try.underlying26 info5 rfl (by decide) (by omega) (.slice Ao47 x5_2.length co47) x5_2 t799 _ _ _ (fun k_ => some k_ ≠ (.slice Ao48 t799.length co48 : Value).ownBlock) (fun _ => False) rfl rfl ?aO ?aR (fun _ _ h => h) (fun _ h => h.elim) ?aF ?aB ?aS ?aL ?_; (case aR => repeat (first | exact (Kd.R_reads' HO_9.out).2.2 | (with_reducible refine Kd.C_alloc ?_ _) | (with_reducible refine Kd.C_drewN ?_ _) | (with_reducible refine Kd.C_drew ?_))); (case aB => exact (zg HB)); (case aF => exact (fun k_ hk => Kd.fresh' (Kd.R_lt (zr HO_9)) k_ hk)); (case aO => exact (zr HO_5)); (case aS => exact (below_size (zg HB))); (case aL => have := LMc45.out; omega); intro v808 w49 ho hb hg hat; rw [← Ny807.out] at ho; replace HO_6 := zm (Kd.R_over' (zr HO_6) (Kd.R_typed (zr HO_5)) (by decide) hg); replace HO_9 := zm (Kd.R_after (ok := (fun _ => True)) (Kd.R_mono (zr HO_9) (fun _ hk => ⟨trivial, hk⟩)) hg hat); replace HO_799004 := zm (Kd.N_afterv (ok := (fun k_ => some k_ ≠ (u6 : Value).ownBlock ∧ some k_ ≠ (.slice Ao48 t799.length co48 : Value).ownBlock ∧ k_ ≠ gb798)) (Kd.N_mono (zn HO_799004) (fun _ hk => ⟨⟨hk.2.1, ⟨hk.2.2.1, hk.2.2.2⟩⟩, hk.1⟩)) hg hat); replace BK798 := zm (blk_grown (zb BK798) hg (Kd.R_ne HO_5.out BK798.out (by decide))); replace HB := zm (hb); have HO809 := zm (ho); clear HO_5; clear ho hb hg hat; obtain ⟨Ao50, co50, eo50⟩ := Kd.R_slice HO809.out; subst eo50) | ((with_reducible refine gate_builtin (b := .append) (xs := #[.tmp 85, .tmp 88]) rfl ?_); (try (refine gate_guard (by rfl) ?_; dsimp only)); at_builtin; refine Kd.R_append (Kd.int .i64) (w0 := w) w.heap.size rfl (.tmp 85) (.tmp 88) 52 3 (.int .i64 0) 8 rfl Try.underlying52 info3 rfl (by decide) (by omega) u6 x6_2 (y807.length : Int) [.int .i64 (y807.length : Int)] (fun _ => True) (fun _ => False) rfl rfl ?aP (fun _ hk => hk.elim) ?aF ?aO ?aB ?aS ?aL ?_; (case aP => exact rfl); (case aB => exact (zg HB)); (case aF => exact (fun _ _ => trivial)); (case aO => exact (zr HO_6)); (case aS => exact (below_size (zg HB))); (case aL => have := LMc46.out; omega); intro v811 w51 ho hb hg hat; rw [← Ny810.out] at ho; replace HO_9 := zm (Kd.R_over' (zr HO_9) (Kd.R_typed (zr HO_6)) (by decide) hg); replace HO_799004 := zm (Kd.N_afterv (ok := (fun k_ => some k_ ≠ (.slice Ao48 t799.length co48 : Value).ownBlock ∧ some k_ ≠ (.slice Ao50 y807.length co50 : Value).ownBlock ∧ k_ ≠ gb798)) (Kd.N_mono (zn HO_799004) (fun _ hk => ⟨⟨hk.1.2.1, ⟨hk.2, hk.1.2.2⟩⟩, hk.1.1⟩)) hg hat); replace BK798 := zm (blk_grown (zb BK798) hg (Kd.R_ne HO_6.out BK798.out (by decide))); replace HO809 := zm (Kd.R_over' (zr HO809) (Kd.R_typed (zr HO_6)) (by decide) hg); replace HB := zm (hb); have HO812 := zm (ho); clear HO_6; clear ho hb hg hat))
         go_roundg kj31
         case measure => have := HJ2.out; have := HK2.out; have := HJ15.out; have := HJ31.out; omega
         case rel => exact ⟨(y807), (y810), (wrap64 (x7_2 + 1)), zrs, H', ⟨by have := HJ2.out; have := HK2.out; have := HJ15.out; have := HJ31.out; omega⟩, ⟨Kd.R_mono (zr HO809) (fun _ hk => trivial)⟩, ⟨zr HO812⟩, ⟨zg HB⟩⟩
/-- THE ONE PURE STATEMENT of laws_FnLog: yours. -/
def laws_FnLog.Pure : Prop := ∀ (l0 : List Int) (l1 : List Int), l0.length ≤ maxLen → l0.length * 1 ≤ 140737488351232 → (∀ x ∈ l0, (Lit.int .u8 x).wf = true) → l1.length ≤ maxLen → l1.length * 1 ≤ 140737488351232 → (∀ x ∈ l1, (Lit.int .u8 x).wf = true) → ∃ k, laws_FnLog.f k l0 l1 = some true
theorem laws_FnLog.walk (P : laws_FnLog.Pure) (a0 : Option Addr) (len0 cap0 : Nat) (z0 : List Int) (a1 : Option Addr) (len1 cap1 : Nat) (z1 : List Int) (w : World) (w0 : (a0 = none ∧ len0 = 0 ∧ cap0 = 0 ∧ z0 = []) ∨ ∃ x, a0 = some x ∧ len0 ≤ cap0 ∧ cap0 ≤ maxLen ∧ z0.length = cap0 ∧ (∀ i, i < z0.length → w.cell? (x.add i) = some (.int .u8 (z0.getD i 0))) ∧ ∀ n ∈ z0, (Lit.int .u8 n).wf = true) (y0 : len0 * 1 ≤ 140737488351232) (w1 : (a1 = none ∧ len1 = 0 ∧ cap1 = 0 ∧ z1 = []) ∨ ∃ x, a1 = some x ∧ len1 ≤ cap1 ∧ cap1 ≤ maxLen ∧ z1.length = cap1 ∧ (∀ i, i < z1.length → w.cell? (x.add i) = some (.int .u8 (z1.getD i 0))) ∧ ∀ n ∈ z1, (Lit.int .u8 n).wf = true) (y1 : len1 * 1 ≤ 140737488351232) :
 Calls Try.prog 6 #[.slice a0 len0 cap0, .slice a1 len1 cap1] w fun e w' => e = .returned (.bool true) ∧ Below w.heap.size w w' := by
 obtain ⟨l0, rfl, hr0, hm0, hw0, hc0⟩ := ReadsInt.ofRowC w0
 obtain ⟨l1, rfl, hr1, hm1, hw1, hc1⟩ := ReadsInt.ofRowC w1
 obtain ⟨k, h⟩ := P l0 l1 hm0 y0 hw0 hm1 y1 hw1
 refine (laws_FnLog.calls k _ _ l0 _ _ l1 true w (Kd.C_of_reads (d := (0 : Int)) (h1 := fun _ => rfl) hr0) hc0 (Kd.C_of_reads (d := (0 : Int)) (h1 := fun _ => rfl) hr1) hc1 h).mono ?_
 rintro e w' ⟨rfl, hd⟩
 exact ⟨rfl, hd⟩

end Go.Proofs.Ytnpdmleglcbobaa.XFnLog
