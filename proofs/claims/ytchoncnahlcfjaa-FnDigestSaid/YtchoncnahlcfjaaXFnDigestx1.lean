-- A text of this session: written by its own program (wip/x/xprint.py), which runs the kit's printer with contracts of its own.
import Derived.Test.YtchoncnahlcfjaaXFnDigestx0
namespace Go.Proofs.Ytchoncnahlcfjaa.XFnDigest
open Go.RowKit Go.Proofs.YtchoncnahlcfjaaW.PrintWords Go.Proofs.YtchoncnahlcfjaaW.PrintLast Go.Proofs.YtchoncnahlcfjaaW.PrintMore
attribute [local go_sem] max2_int min2_int max_two min_two max_three min_three max_four min_four   -- for this text's walks alone
set_option linter.unusedVariables false
set_option linter.unusedSimpArgs false

/-! ### spec_l17Sort: function 55 -/
mutual
def spec_l17Sort.l0 : Nat → List Int → List Int → List Int → Option (List Int)
  | 0, _, _, _ => none
  | k + 1, x3, x4, x5 => if (x3.length : Int) > 0 then (spec_l17Sort.j1 k x3 x4 x5 true) else (spec_l17Sort.j1 k x3 x4 x5 (decide ((x4.length : Int) > 0)))
def spec_l17Sort.j1 : Nat → List Int → List Int → List Int → Bool → Option (List Int)
  | 0, _, _, _, _ => none
  | k + 1, x3, x4, x5, x32 => if x32 = true then (if (x4.length : Int) = 0 then (if 0 < (x3.length : Int) then (if x5.length < 17592186044416 then (if 1 ≤ (x3.length : Int) then (spec_l17Sort.l0 k (x3.drop (1 : Int).toNat) x4 (x5 ++ [rd x3 0])) else (none)) else (none)) else (none)) else (if (x3.length : Int) > 0 then (if 0 < (x3.length : Int) then (if 0 < (x4.length : Int) then (if (rd x3 0) ≤ (rd x4 0) then (if x5.length < 17592186044416 then (if 1 ≤ (x3.length : Int) then (spec_l17Sort.l0 k (x3.drop (1 : Int).toNat) x4 (x5 ++ [rd x3 0])) else (none)) else (none)) else (if x5.length < 17592186044416 then (if 1 ≤ (x4.length : Int) then (spec_l17Sort.l0 k x3 (x4.drop (1 : Int).toNat) (x5 ++ [rd x4 0])) else (none)) else (none))) else (none)) else (none)) else (if 0 < (x4.length : Int) then (if x5.length < 17592186044416 then (if 1 ≤ (x4.length : Int) then (spec_l17Sort.l0 k x3 (x4.drop (1 : Int).toNat) (x5 ++ [rd x4 0])) else (none)) else (none)) else (none)))) else (some x5)
def spec_l17Sort.f : Nat → List Int → Option (List Int)
  | 0, _ => none
  | k + 1, l0 => if (l0.length : Int) < 2 then ((some (([] : List Int) : List Int)).bind fun y101 => (if y101.length + l0.length < 17592186044416 then (some (y101 ++ l0)) else (none))) else (if 0 ≤ (wrap64 ((l0.length : Int) / 2)) then (if (wrap64 ((l0.length : Int) / 2)) ≤ (l0.length : Int) then ((spec_l17Sort.f k (l0.take ((wrap64 ((l0.length : Int) / 2)) : Int).toNat)).bind fun t108 => ((spec_l17Sort.f k (l0.drop ((wrap64 ((l0.length : Int) / 2)) : Int).toNat)).bind fun t112 => (spec_l17Sort.l0 k t108 t112 (([] : List Int))))) else (none)) else (none))
end
theorem spec_l17Sort.mono_l : ∀ k, (∀ y0, LeO (spec_l17Sort.f k y0) (spec_l17Sort.f (k + 1) y0)) ∧ (∀ y0 y1 y2, LeO (spec_l17Sort.l0 k y0 y1 y2) (spec_l17Sort.l0 (k + 1) y0 y1 y2)) ∧ (∀ y0 y1 y2 y3, LeO (spec_l17Sort.j1 k y0 y1 y2 y3) (spec_l17Sort.j1 (k + 1) y0 y1 y2 y3))
  | 0 => ⟨fun _ r h => by simp [spec_l17Sort.f] at h, fun _ _ _ r h => by simp [spec_l17Sort.l0] at h, fun _ _ _ _ r h => by simp [spec_l17Sort.j1] at h⟩
  | k + 1 => by
    obtain ⟨ih0, ih1, ih2⟩ := spec_l17Sort.mono_l k
    refine ⟨?_, ?_, ?_⟩
    · intro y0
      unfold spec_l17Sort.f
      repeat' first
      | (with_reducible exact ih0 _)
      | (with_reducible exact ih1 _ _ _)
      | (with_reducible exact ih2 _ _ _ _)
      | (with_reducible exact LeO.refl _)
      | (with_reducible exact LeO.none _)
      | (with_reducible refine LeO.ite ?_ ?_)
      | (with_reducible refine LeO.bind ?_ (fun _ => ?_))
      | exact ih0 _
      | exact ih1 _ _ _
      | exact ih2 _ _ _ _
      | exact LeO.none _
      | refine LeO.ite ?_ ?_
      | refine LeO.bind ?_ (fun _ => ?_)
    · intro y0 y1 y2
      unfold spec_l17Sort.l0
      repeat' first
      | (with_reducible exact ih0 _)
      | (with_reducible exact ih1 _ _ _)
      | (with_reducible exact ih2 _ _ _ _)
      | (with_reducible exact LeO.refl _)
      | (with_reducible exact LeO.none _)
      | (with_reducible refine LeO.ite ?_ ?_)
      | (with_reducible refine LeO.bind ?_ (fun _ => ?_))
      | exact ih0 _
      | exact ih1 _ _ _
      | exact ih2 _ _ _ _
      | exact LeO.none _
      | refine LeO.ite ?_ ?_
      | refine LeO.bind ?_ (fun _ => ?_)
    · intro y0 y1 y2 y3
      unfold spec_l17Sort.j1
      repeat' first
      | (with_reducible exact ih0 _)
      | (with_reducible exact ih1 _ _ _)
      | (with_reducible exact ih2 _ _ _ _)
      | (with_reducible exact LeO.refl _)
      | (with_reducible exact LeO.none _)
      | (with_reducible refine LeO.ite ?_ ?_)
      | (with_reducible refine LeO.bind ?_ (fun _ => ?_))
      | exact ih0 _
      | exact ih1 _ _ _
      | exact ih2 _ _ _ _
      | exact LeO.none _
      | refine LeO.ite ?_ ?_
      | refine LeO.bind ?_ (fun _ => ?_)
theorem spec_l17Sort.mono : ∀ a0 k, LeO (spec_l17Sort.f k a0) (spec_l17Sort.f (k + 1) a0) := by
  intro a0 k
  obtain ⟨ih0, ih1, ih2⟩ := spec_l17Sort.mono_l k
  exact ih0 a0
set_option maxHeartbeats 8000000 in
set_option maxRecDepth 100000 in
theorem spec_l17Sort.calls (k : Nat) : ∀ (A0 : Option Addr) (c0 : Nat) (l0 : List Int) (r : List Int) (w : World) (hr0 : Kd.C (Kd.int .i64) w A0 l0.length l0) (hc0 : l0.length ≤ c0) (h : spec_l17Sort.f k l0 = some r),
    Calls Try.prog 55 #[.slice A0 l0.length c0] w fun e w' => ∃ v0_ : Value, e = .returned (v0_) ∧ Kd.R (Kd.int .i64) 3 w' w.heap.size (fun _ => True) v0_ r ∧ Below w.heap.size w w' := by
  induction k using Nat.strongRecOn with
  | _ k ih =>
  intro A0 c0 l0 r w hr0 hc0 h
  cases k with
  | zero => exact absurd h (by simp [spec_l17Sort.f])
  | succ k =>
  simp only [spec_l17Sort.f] at h
  have HR0 := Aside0.mk hr0
  have HC0 := Aside0.mk hc0
  clear hr0 hc0
  have HB := Aside0.mk (Below.refl w.heap.size w)
  have H : (if (l0.length : Int) < 2 then ((some (([] : List Int) : List Int)).bind fun y101 => (if y101.length + l0.length < 17592186044416 then (some (y101 ++ l0)) else (none))) else (if 0 ≤ (wrap64 ((l0.length : Int) / 2)) then (if (wrap64 ((l0.length : Int) / 2)) ≤ (l0.length : Int) then ((spec_l17Sort.f k (l0.take ((wrap64 ((l0.length : Int) / 2)) : Int).toNat)).bind fun t108 => ((spec_l17Sort.f k (l0.drop ((wrap64 ((l0.length : Int) / 2)) : Int).toNat)).bind fun t112 => (spec_l17Sort.l0 k t108 t112 (([] : List Int))))) else (none)) else (none))) = some r := h
  clear h
  by_cases c2 : (l0.length : Int) < 2
  · rw [if_pos c2] at H
    have c2b0 : decide ((l0.length : Int) < 2) = true := decide_eq_true c2
    have c2b1 : decide (l0.length < 2) = true := decide_eq_true (by omega)
    clear c2
    obtain ⟨y101, hy101⟩ : ∃ y_ : List Int, y_ = (([] : List Int)) := ⟨_, rfl⟩
    replace H : (if y101.length + l0.length < 17592186044416 then (some (y101 ++ l0)) else (none)) = some r := by first | (rw [hy101]; with_reducible exact H) | (have H2_ := (Option.bind_some _ _).symm.trans H; rw [hy101]; with_reducible exact H2_) | (have H2_ := (Option.bind_some _ _).symm.trans H; with_reducible exact H2_) | with_reducible exact H | (rw [hy101]; exact H) | exact H
    have Ny101 := Aside0.mk hy101
    clear hy101
    by_cases c3 : y101.length + l0.length < 17592186044416
    · rw [if_pos c3] at H
      have LMc3 := Aside0.mk c3
      clear c3
      obtain ⟨y104, hy104⟩ : ∃ y_ : List Int, y_ = (y101 ++ l0) := ⟨_, rfl⟩
      replace H : (some y104) = some r := by first | (rw [hy104]; with_reducible exact H) | (have H2_ := (Option.bind_some _ _).symm.trans H; rw [hy104]; with_reducible exact H2_) | (have H2_ := (Option.bind_some _ _).symm.trans H; with_reducible exact H2_) | with_reducible exact H | (rw [hy104]; exact H) | exact H
      have Ny104 := Aside0.mk hy104
      clear hy104
      obtain rfl := Option.some.inj H
      go_enter Try.func55, Try.ntmps55
      go_wp2_with (first | ((with_reducible refine gate_dst (N := 9) rfl ?_); (try (refine gate_guard (by rfl) ?_; dsimp only)); refine Kd.R_lit (Kd.int .i64) _ 3 ?hg (N := 9) ?hd (xs := ([] : List Int)) (inner := []) (ok := fun _ => True) (okp := fun _ => True) ?hr ?hp (fun _ hk => hk) trivial (Below.refl _ _) (Nat.le_refl _) (by simp) ?_; (case hd => rfl); (case hg => rfl); (case hr => first | (go_simp; done) | (go_simp; rfl)); (case hp => exact (Reps.none _ _)); intro v102 w4 ho5 hb hg_ hnew_; clear hg_ hnew_; (first | rw [← Ny101.out] at ho5 | (simp only [Int.reduceToNat] at ho5; rw [← Ny101.out] at ho5)); have n0_ := Aside0.mk (Kd.R_lower ho5 (below_size (zh HB))); have n1_ := Aside0.mk (below_step (zh HB) hb); clear HB; have HO103 := n0_; have HB := n1_; clear n0_ n1_; clear hb ho5) | ((with_reducible refine gate_builtin (b := .append) (xs := #[.tmp 9, .tmp 10]) rfl ?_); (try (refine gate_guard (by rfl) ?_; dsimp only)); at_builtin; refine Kd.R_append_rows (Kd.int .i64) (w0 := w) w.heap.size rfl (.tmp 9) (.tmp 10) 22 3 (.int .i64 0) 8 rfl Try.underlying22 info3 rfl (by decide) (by omega) v102 y101 l0 _ _ _ (fun _ => True) (fun _ => False) rfl rfl ?aO ?aR (fun _ _ h => h) (fun _ h => h.elim) ?aF ?aB ?aS ?aL ?_; (case aR => repeat (first | exact (Kd.C_below HR0.out HB.out) | (with_reducible refine Kd.C_alloc ?_ _) | (with_reducible refine Kd.C_drewN ?_ _) | (with_reducible refine Kd.C_drew ?_))); (case aB => exact (zh HB)); (case aF => exact (fun _ _ => trivial)); (case aO => exact (zr HO103)); (case aS => exact (below_size (zh HB))); (case aL => have := LMc3.out; omega); intro v105 w6 ho hb hg hat; rw [← Ny104.out] at ho; have n0_ := Aside0.mk (hb); have n1_ := Aside0.mk (ho); clear HB; clear HO103; have HB := n0_; have HO106 := n1_; clear n0_ n1_; clear ho hb hg hat))
      repeat (go_quiet (first | ((with_reducible refine gate_dst (N := 9) rfl ?_); (try (refine gate_guard (by rfl) ?_; dsimp only)); refine Kd.R_lit (Kd.int .i64) _ 3 ?hg (N := 9) ?hd (xs := ([] : List Int)) (inner := []) (ok := fun _ => True) (okp := fun _ => True) ?hr ?hp (fun _ hk => hk) trivial (Below.refl _ _) (Nat.le_refl _) (by simp) ?_; (case hd => rfl); (case hg => rfl); (case hr => first | (go_simp; done) | (go_simp; rfl)); (case hp => exact (Reps.none _ _)); intro v102 w4 ho5 hb hg_ hnew_; clear hg_ hnew_; (first | rw [← Ny101.out] at ho5 | (simp only [Int.reduceToNat] at ho5; rw [← Ny101.out] at ho5)); have n0_ := Aside0.mk (Kd.R_lower ho5 (below_size (zh HB))); have n1_ := Aside0.mk (below_step (zh HB) hb); clear HB; have HO103 := n0_; have HB := n1_; clear n0_ n1_; clear hb ho5) | ((with_reducible refine gate_builtin (b := .append) (xs := #[.tmp 9, .tmp 10]) rfl ?_); (try (refine gate_guard (by rfl) ?_; dsimp only)); at_builtin; refine Kd.R_append_rows (Kd.int .i64) (w0 := w) w.heap.size rfl (.tmp 9) (.tmp 10) 22 3 (.int .i64 0) 8 rfl Try.underlying22 info3 rfl (by decide) (by omega) v102 y101 l0 _ _ _ (fun _ => True) (fun _ => False) rfl rfl ?aO ?aR (fun _ _ h => h) (fun _ h => h.elim) ?aF ?aB ?aS ?aL ?_; (case aR => repeat (first | exact (Kd.C_below HR0.out HB.out) | (with_reducible refine Kd.C_alloc ?_ _) | (with_reducible refine Kd.C_drewN ?_ _) | (with_reducible refine Kd.C_drew ?_))); (case aB => exact (zh HB)); (case aF => exact (fun _ _ => trivial)); (case aO => exact (zr HO103)); (case aS => exact (below_size (zh HB))); (case aL => have := LMc3.out; omega); intro v105 w6 ho hb hg hat; rw [← Ny104.out] at ho; have n0_ := Aside0.mk (hb); have n1_ := Aside0.mk (ho); clear HB; clear HO103; have HB := n0_; have HO106 := n1_; clear n0_ n1_; clear ho hb hg hat)); try go_wp2_with (first | ((with_reducible refine gate_dst (N := 9) rfl ?_); (try (refine gate_guard (by rfl) ?_; dsimp only)); refine Kd.R_lit (Kd.int .i64) _ 3 ?hg (N := 9) ?hd (xs := ([] : List Int)) (inner := []) (ok := fun _ => True) (okp := fun _ => True) ?hr ?hp (fun _ hk => hk) trivial (Below.refl _ _) (Nat.le_refl _) (by simp) ?_; (case hd => rfl); (case hg => rfl); (case hr => first | (go_simp; done) | (go_simp; rfl)); (case hp => exact (Reps.none _ _)); intro v102 w4 ho5 hb hg_ hnew_; clear hg_ hnew_; (first | rw [← Ny101.out] at ho5 | (simp only [Int.reduceToNat] at ho5; rw [← Ny101.out] at ho5)); have n0_ := Aside0.mk (Kd.R_lower ho5 (below_size (zh HB))); have n1_ := Aside0.mk (below_step (zh HB) hb); clear HB; have HO103 := n0_; have HB := n1_; clear n0_ n1_; clear hb ho5) | ((with_reducible refine gate_builtin (b := .append) (xs := #[.tmp 9, .tmp 10]) rfl ?_); (try (refine gate_guard (by rfl) ?_; dsimp only)); at_builtin; refine Kd.R_append_rows (Kd.int .i64) (w0 := w) w.heap.size rfl (.tmp 9) (.tmp 10) 22 3 (.int .i64 0) 8 rfl Try.underlying22 info3 rfl (by decide) (by omega) v102 y101 l0 _ _ _ (fun _ => True) (fun _ => False) rfl rfl ?aO ?aR (fun _ _ h => h) (fun _ h => h.elim) ?aF ?aB ?aS ?aL ?_; (case aR => repeat (first | exact (Kd.C_below HR0.out HB.out) | (with_reducible refine Kd.C_alloc ?_ _) | (with_reducible refine Kd.C_drewN ?_ _) | (with_reducible refine Kd.C_drew ?_))); (case aB => exact (zh HB)); (case aF => exact (fun _ _ => trivial)); (case aO => exact (zr HO103)); (case aS => exact (below_size (zh HB))); (case aL => have := LMc3.out; omega); intro v105 w6 ho hb hg hat; rw [← Ny104.out] at ho; have n0_ := Aside0.mk (hb); have n1_ := Aside0.mk (ho); clear HB; clear HO103; have HB := n0_; have HO106 := n1_; clear n0_ n1_; clear ho hb hg hat)))
      go_ret
      exact ⟨_, zre, by (with_reducible repeat (first | apply Kd.R_alloc | apply Kd.R_drewN | apply Kd.R_drew)); exact HO106.out, zh HB⟩
    · rw [if_neg c3] at H
      exact absurd H (by simp)
  · rw [if_neg c2] at H
    have c2b0 : decide ((l0.length : Int) < 2) = false := decide_eq_false c2
    have c2b1 : decide (l0.length < 2) = false := decide_eq_false (by omega)
    clear c2
    obtain ⟨ji7, hji7⟩ : ∃ j_ : Int, (wrap64 ((l0.length : Int) / 2)) = j_ := ⟨_, rfl⟩
    replace H : (if 0 ≤ (ji7) then (if (ji7) ≤ (l0.length : Int) then ((spec_l17Sort.f k (l0.take ((ji7) : Int).toNat)).bind fun t108 => ((spec_l17Sort.f k (l0.drop ((ji7) : Int).toNat)).bind fun t112 => (spec_l17Sort.l0 k t108 t112 (([] : List Int))))) else (none)) else (none)) = some r := by first | (rw [hji7] at H; exact H) | (simp only [hji7] at H ⊢; exact H)
    have hji7w : (IntKind.i64.wrap ((l0.length : Int) / 2)) = ji7 := (i64_w _).trans hji7
    by_cases c8 : 0 ≤ (ji7)
    · rw [if_pos c8] at H
      have c8b0 := eq_true c8
      have c8b1 : decide (0 ≤ (ji7)) = true := decide_eq_true c8
      clear c8
      by_cases c9 : (ji7) ≤ (l0.length : Int)
      · rw [if_pos c9] at H
        have c9b0 := eq_true c9
        have c9b1 : decide ((ji7) ≤ (l0.length : Int)) = true := decide_eq_true c9
        clear c9
        replace H := Option.bind_eq_some_iff.mp H
        obtain ⟨t108, A100, H⟩ := H
        replace H : ((spec_l17Sort.f k (l0.drop ((ji7) : Int).toNat)).bind fun t112 => (spec_l17Sort.l0 k t108 t112 (([] : List Int)))) = some r := H
        have A10 := Aside0.mk A100
        clear A100
        have c11b0 := eq_true (of_decide_eq_true zas : 0 ≤ (ji7))
        have c12b0 := eq_true (of_decide_eq_true zas : (ji7) ≤ (l0.length : Int))
        replace H := Option.bind_eq_some_iff.mp H
        obtain ⟨t112, A130, H⟩ := H
        replace H : (spec_l17Sort.l0 k t108 t112 (([] : List Int))) = some r := H
        have A13 := Aside0.mk A130
        clear A130
        obtain ⟨y115, hy115⟩ : ∃ y_ : List Int, y_ = (([] : List Int)) := ⟨_, rfl⟩
        replace H : (spec_l17Sort.l0 k t108 t112 y115) = some r := by first | (rw [hy115]; with_reducible exact H) | (have H2_ := (Option.bind_some _ _).symm.trans H; rw [hy115]; with_reducible exact H2_) | (have H2_ := (Option.bind_some _ _).symm.trans H; with_reducible exact H2_) | with_reducible exact H | (rw [hy115]; exact H) | exact H
        have Ny115 := Aside0.mk hy115
        clear hy115
        have H' := Aside0.mk H
        clear H
        obtain ⟨i014, hi014, _, hsz14, _⟩ := info_parts info3
        obtain ⟨hcut14, hA14, hC14⟩ := print_take_of (P := Try.prog) (Value.int .i64) 0 22 3 .i64 Try.underlying22 hi014 hsz14 A0 c0 l0 (ji7) (of_decide_eq_true zas) (of_decide_eq_true zas) HC0.out
        have HR107 := Aside0.mk (Kd.C_of_reads (h1 := fun _ => rfl) (hA14 _ (Kd.reads_of_C HR0.out)))
        have HC107 := Aside0.mk hC14
        clear hA14 hC14 hi014 hsz14
        go_enter Try.func55, Try.ntmps55
        go_wp2_with (first | (go_at_call 55; refine calls_of_args (args' := #[.slice A0 (l0.take ((ji7) : Int).toNat).length c0]) (by first | (rw [show (l0.take ((ji7) : Int).toNat).length = (ji7).toNat from (by rw [List.length_take]; have h_ : ((ji7) : Int) ≤ (l0.length : Int) := of_decide_eq_true zas; omega)] <;> rfl) | rfl) ?_; (with_reducible refine (ih k (by omega) _ _ (l0.take ((ji7) : Int).toNat) t108 _ ?side1 ?side2 A10.out).mono ?_); (case side1 => repeat (first | exact HR107.out | (with_reducible refine Kd.C_alloc ?_ _) | (with_reducible refine Kd.C_drewN ?_ _) | (with_reducible refine Kd.C_drew ?_))); (case side2 => exact HC107.out); rintro e w15 ⟨v109, rfl, ho0, hb⟩; have n0_ := Aside0.mk (Kd.R_lower ho0 (below_size (zh HB))); have n1_ := Aside0.mk (below_step (zh HB) hb); clear HB; have HO110 := n0_; have HB := n1_; clear n0_ n1_; (try clear hb); (try clear hb2); (try clear hk); (try clear hi); (try clear ho0); obtain ⟨i016, hi016, _, hsz16, _⟩ := info_parts info3; obtain ⟨A16, hcut16, hA16, hC16⟩ := print_drop_of (P := Try.prog) (Value.int .i64) 0 22 3 .i64 Try.underlying22 hi016 hsz16 A0 c0 l0 (ji7) (of_decide_eq_true zas) (of_decide_eq_true zas) HC0.out; have HR111 := Aside0.mk (Kd.C_of_reads (h1 := fun _ => rfl) (hA16 _ (Kd.reads_of_C HR0.out))); have HC111 := Aside0.mk hC16; clear hA16 hC16 hi016 hsz16) | (go_at_call 55; refine calls_of_args (args' := #[.slice A16 (l0.drop ((ji7) : Int).toNat).length (c0 - (ji7).toNat)]) (by first | (rw [show (l0.drop ((ji7) : Int).toNat).length = (l0.length - (ji7).toNat) from List.length_drop] <;> rfl) | rfl) ?_; (with_reducible refine (ih k (by omega) _ _ (l0.drop ((ji7) : Int).toNat) t112 _ ?side1 ?side2 A13.out).mono ?_); (case side1 => repeat (first | exact (Kd.C_below HR111.out HB.out) | (with_reducible refine Kd.C_alloc ?_ _) | (with_reducible refine Kd.C_drewN ?_ _) | (with_reducible refine Kd.C_drew ?_))); (case side2 => exact HC111.out); rintro e w17 ⟨v113, rfl, ho0, hb⟩; have n0_ := Aside0.mk (Kd.R_elder' (zr HO110) (Kd.R_base ho0) hb); have n1_ := Aside0.mk (Kd.R_lower (Kd.R_new' ho0 (Kd.R_lt (zr HO110))) (below_size (zh HB))); have n2_ := Aside0.mk (below_step (zh HB) hb); clear HO110; clear HB; have HO110 := n0_; have HO114 := n1_; have HB := n2_; clear n0_ n1_ n2_; (try clear hb); (try clear hb2); (try clear hk); (try clear hi); (try clear ho0)) | ((with_reducible refine gate_dst (N := 24) rfl ?_); (try (refine gate_guard (by rfl) ?_; dsimp only)); refine Kd.R_lit (Kd.int .i64) _ 3 ?hg (N := 24) ?hd (xs := ([] : List Int)) (inner := []) (ok := fun _ => True) (okp := fun _ => True) ?hr ?hp (fun _ hk => hk) trivial (Below.refl _ _) (Nat.le_refl _) (by simp) ?_; (case hd => rfl); (case hg => rfl); (case hr => first | (go_simp; done) | (go_simp; rfl)); (case hp => exact (Reps.none _ _)); intro v116 w18 ho19 hb hg_ hnew_; clear hg_ hnew_; (first | rw [← Ny115.out] at ho19 | (simp only [Int.reduceToNat] at ho19; rw [← Ny115.out] at ho19)); have n0_ := Aside0.mk (Kd.R_elder' (zr HO110) (Kd.R_base ho19) hb); have n1_ := Aside0.mk (Kd.R_elder' (zr HO114) (Kd.R_base ho19) hb); have n2_ := Aside0.mk (Kd.R_lower (Kd.R_new' (Kd.R_new' ho19 (Kd.R_lt (zr HO110))) (Kd.R_lt (zr HO114))) (below_size (zh HB))); have n3_ := Aside0.mk (below_step (zh HB) hb); clear HO110; clear HO114; clear HB; have HO110 := n0_; have HO114 := n1_; have HO117 := n2_; have HB := n3_; clear n0_ n1_ n2_ n3_; clear hb ho19))
        repeat (go_quiet (first | (go_at_call 55; refine calls_of_args (args' := #[.slice A0 (l0.take ((ji7) : Int).toNat).length c0]) (by first | (rw [show (l0.take ((ji7) : Int).toNat).length = (ji7).toNat from (by rw [List.length_take]; have h_ : ((ji7) : Int) ≤ (l0.length : Int) := of_decide_eq_true zas; omega)] <;> rfl) | rfl) ?_; (with_reducible refine (ih k (by omega) _ _ (l0.take ((ji7) : Int).toNat) t108 _ ?side1 ?side2 A10.out).mono ?_); (case side1 => repeat (first | exact HR107.out | (with_reducible refine Kd.C_alloc ?_ _) | (with_reducible refine Kd.C_drewN ?_ _) | (with_reducible refine Kd.C_drew ?_))); (case side2 => exact HC107.out); rintro e w15 ⟨v109, rfl, ho0, hb⟩; have n0_ := Aside0.mk (Kd.R_lower ho0 (below_size (zh HB))); have n1_ := Aside0.mk (below_step (zh HB) hb); clear HB; have HO110 := n0_; have HB := n1_; clear n0_ n1_; (try clear hb); (try clear hb2); (try clear hk); (try clear hi); (try clear ho0); obtain ⟨i016, hi016, _, hsz16, _⟩ := info_parts info3; obtain ⟨A16, hcut16, hA16, hC16⟩ := print_drop_of (P := Try.prog) (Value.int .i64) 0 22 3 .i64 Try.underlying22 hi016 hsz16 A0 c0 l0 (ji7) (of_decide_eq_true zas) (of_decide_eq_true zas) HC0.out; have HR111 := Aside0.mk (Kd.C_of_reads (h1 := fun _ => rfl) (hA16 _ (Kd.reads_of_C HR0.out))); have HC111 := Aside0.mk hC16; clear hA16 hC16 hi016 hsz16) | (go_at_call 55; refine calls_of_args (args' := #[.slice A16 (l0.drop ((ji7) : Int).toNat).length (c0 - (ji7).toNat)]) (by first | (rw [show (l0.drop ((ji7) : Int).toNat).length = (l0.length - (ji7).toNat) from List.length_drop] <;> rfl) | rfl) ?_; (with_reducible refine (ih k (by omega) _ _ (l0.drop ((ji7) : Int).toNat) t112 _ ?side1 ?side2 A13.out).mono ?_); (case side1 => repeat (first | exact (Kd.C_below HR111.out HB.out) | (with_reducible refine Kd.C_alloc ?_ _) | (with_reducible refine Kd.C_drewN ?_ _) | (with_reducible refine Kd.C_drew ?_))); (case side2 => exact HC111.out); rintro e w17 ⟨v113, rfl, ho0, hb⟩; have n0_ := Aside0.mk (Kd.R_elder' (zr HO110) (Kd.R_base ho0) hb); have n1_ := Aside0.mk (Kd.R_lower (Kd.R_new' ho0 (Kd.R_lt (zr HO110))) (below_size (zh HB))); have n2_ := Aside0.mk (below_step (zh HB) hb); clear HO110; clear HB; have HO110 := n0_; have HO114 := n1_; have HB := n2_; clear n0_ n1_ n2_; (try clear hb); (try clear hb2); (try clear hk); (try clear hi); (try clear ho0)) | ((with_reducible refine gate_dst (N := 24) rfl ?_); (try (refine gate_guard (by rfl) ?_; dsimp only)); refine Kd.R_lit (Kd.int .i64) _ 3 ?hg (N := 24) ?hd (xs := ([] : List Int)) (inner := []) (ok := fun _ => True) (okp := fun _ => True) ?hr ?hp (fun _ hk => hk) trivial (Below.refl _ _) (Nat.le_refl _) (by simp) ?_; (case hd => rfl); (case hg => rfl); (case hr => first | (go_simp; done) | (go_simp; rfl)); (case hp => exact (Reps.none _ _)); intro v116 w18 ho19 hb hg_ hnew_; clear hg_ hnew_; (first | rw [← Ny115.out] at ho19 | (simp only [Int.reduceToNat] at ho19; rw [← Ny115.out] at ho19)); have n0_ := Aside0.mk (Kd.R_elder' (zr HO110) (Kd.R_base ho19) hb); have n1_ := Aside0.mk (Kd.R_elder' (zr HO114) (Kd.R_base ho19) hb); have n2_ := Aside0.mk (Kd.R_lower (Kd.R_new' (Kd.R_new' ho19 (Kd.R_lt (zr HO110))) (Kd.R_lt (zr HO114))) (below_size (zh HB))); have n3_ := Aside0.mk (below_step (zh HB) hb); clear HO110; clear HO114; clear HB; have HO110 := n0_; have HO114 := n1_; have HO117 := n2_; have HB := n3_; clear n0_ n1_ n2_ n3_; clear hb ho19)); try go_wp2_with (first | (go_at_call 55; refine calls_of_args (args' := #[.slice A0 (l0.take ((ji7) : Int).toNat).length c0]) (by first | (rw [show (l0.take ((ji7) : Int).toNat).length = (ji7).toNat from (by rw [List.length_take]; have h_ : ((ji7) : Int) ≤ (l0.length : Int) := of_decide_eq_true zas; omega)] <;> rfl) | rfl) ?_; (with_reducible refine (ih k (by omega) _ _ (l0.take ((ji7) : Int).toNat) t108 _ ?side1 ?side2 A10.out).mono ?_); (case side1 => repeat (first | exact HR107.out | (with_reducible refine Kd.C_alloc ?_ _) | (with_reducible refine Kd.C_drewN ?_ _) | (with_reducible refine Kd.C_drew ?_))); (case side2 => exact HC107.out); rintro e w15 ⟨v109, rfl, ho0, hb⟩; have n0_ := Aside0.mk (Kd.R_lower ho0 (below_size (zh HB))); have n1_ := Aside0.mk (below_step (zh HB) hb); clear HB; have HO110 := n0_; have HB := n1_; clear n0_ n1_; (try clear hb); (try clear hb2); (try clear hk); (try clear hi); (try clear ho0); obtain ⟨i016, hi016, _, hsz16, _⟩ := info_parts info3; obtain ⟨A16, hcut16, hA16, hC16⟩ := print_drop_of (P := Try.prog) (Value.int .i64) 0 22 3 .i64 Try.underlying22 hi016 hsz16 A0 c0 l0 (ji7) (of_decide_eq_true zas) (of_decide_eq_true zas) HC0.out; have HR111 := Aside0.mk (Kd.C_of_reads (h1 := fun _ => rfl) (hA16 _ (Kd.reads_of_C HR0.out))); have HC111 := Aside0.mk hC16; clear hA16 hC16 hi016 hsz16) | (go_at_call 55; refine calls_of_args (args' := #[.slice A16 (l0.drop ((ji7) : Int).toNat).length (c0 - (ji7).toNat)]) (by first | (rw [show (l0.drop ((ji7) : Int).toNat).length = (l0.length - (ji7).toNat) from List.length_drop] <;> rfl) | rfl) ?_; (with_reducible refine (ih k (by omega) _ _ (l0.drop ((ji7) : Int).toNat) t112 _ ?side1 ?side2 A13.out).mono ?_); (case side1 => repeat (first | exact (Kd.C_below HR111.out HB.out) | (with_reducible refine Kd.C_alloc ?_ _) | (with_reducible refine Kd.C_drewN ?_ _) | (with_reducible refine Kd.C_drew ?_))); (case side2 => exact HC111.out); rintro e w17 ⟨v113, rfl, ho0, hb⟩; have n0_ := Aside0.mk (Kd.R_elder' (zr HO110) (Kd.R_base ho0) hb); have n1_ := Aside0.mk (Kd.R_lower (Kd.R_new' ho0 (Kd.R_lt (zr HO110))) (below_size (zh HB))); have n2_ := Aside0.mk (below_step (zh HB) hb); clear HO110; clear HB; have HO110 := n0_; have HO114 := n1_; have HB := n2_; clear n0_ n1_ n2_; (try clear hb); (try clear hb2); (try clear hk); (try clear hi); (try clear ho0)) | ((with_reducible refine gate_dst (N := 24) rfl ?_); (try (refine gate_guard (by rfl) ?_; dsimp only)); refine Kd.R_lit (Kd.int .i64) _ 3 ?hg (N := 24) ?hd (xs := ([] : List Int)) (inner := []) (ok := fun _ => True) (okp := fun _ => True) ?hr ?hp (fun _ hk => hk) trivial (Below.refl _ _) (Nat.le_refl _) (by simp) ?_; (case hd => rfl); (case hg => rfl); (case hr => first | (go_simp; done) | (go_simp; rfl)); (case hp => exact (Reps.none _ _)); intro v116 w18 ho19 hb hg_ hnew_; clear hg_ hnew_; (first | rw [← Ny115.out] at ho19 | (simp only [Int.reduceToNat] at ho19; rw [← Ny115.out] at ho19)); have n0_ := Aside0.mk (Kd.R_elder' (zr HO110) (Kd.R_base ho19) hb); have n1_ := Aside0.mk (Kd.R_elder' (zr HO114) (Kd.R_base ho19) hb); have n2_ := Aside0.mk (Kd.R_lower (Kd.R_new' (Kd.R_new' ho19 (Kd.R_lt (zr HO110))) (Kd.R_lt (zr HO114))) (below_size (zh HB))); have n3_ := Aside0.mk (below_step (zh HB) hb); clear HO110; clear HO114; clear HB; have HO110 := n0_; have HO114 := n1_; have HO117 := n2_; have HB := n3_; clear n0_ n1_ n2_ n3_; clear hb ho19)))
        go_loopg [3, 4, 5] k (fun kq v3 v4 v5 w' => ∃ (x3_1 : List Int) (x4_1 : List Int) (x5_1 : List Int), Aside0 (spec_l17Sort.l0 kq x3_1 x4_1 x5_1 = some r) ∧ Aside0 (kq ≤ k) ∧ Aside0 (Kd.Q (Kd.int .i64) 3 w' w.heap.size (fun k_ => some k_ ≠ (v4 : Value).ownBlock ∧ some k_ ≠ (v5 : Value).ownBlock) v3 x3_1) ∧ Aside0 (Kd.Q (Kd.int .i64) 3 w' w.heap.size (fun k_ => some k_ ≠ (v3 : Value).ownBlock ∧ some k_ ≠ (v5 : Value).ownBlock) v4 x4_1) ∧ Aside0 (Kd.R (Kd.int .i64) 3 w' w.heap.size (fun k_ => some k_ ≠ (v3 : Value).ownBlock ∧ some k_ ≠ (v4 : Value).ownBlock) v5 x5_1) ∧ Aside0 (Below w.heap.size w w'))
        case atStart => exact ⟨(t108), (t112), (y115), H', ⟨Nat.le_refl _⟩, ⟨Kd.Q_of_R (Kd.R_mono (zr HO110) (fun _ hk => ⟨hk.1.2, hk.2⟩))⟩, ⟨Kd.Q_of_R (Kd.R_mono (zr HO114) (fun _ hk => ⟨hk.1.2, hk.2⟩))⟩, ⟨Kd.R_mono (zr HO117) (fun _ hk => ⟨hk.1.2, hk.2⟩)⟩, ⟨zh HB⟩⟩
        case round =>
          clear H'
          try clear c1
          try clear c2
          try clear c2b0
          try clear c2b1
          try clear p2
          try clear c3
          try clear c5
          try clear p6
          try clear c8
          try clear c8b0
          try clear c8b1
          try clear c9
          try clear c9b0
          try clear c9b1
          try clear c11
          try clear c11b0
          try clear c12
          try clear c12b0
          obtain ⟨x3_1, x4_1, x5_1, HA, HK1, HO_3, HO_4, HO_5, HB⟩ := hrel
          cases gk with
          | zero => exact absurd HA.out (by simp [spec_l17Sort.l0])
          | succ k1 =>
            have H := HA.out
            clear HA
            simp only [spec_l17Sort.l0] at H
            have HC20 := Aside0.mk H
            clear H
            go_upto_region 6 with (fail)
            repeat (go_quiet (fail); go_upto_region 6 with (fail))
            go_cut [32] (fun v32 wc => ∃ (kq : Nat) (x32_19 : Bool), v32 = .bool x32_19 ∧ Aside0 (spec_l17Sort.j1 kq x3_1 x4_1 x5_1 x32_19 = some r) ∧ Aside0 (kq ≤ k1) ∧ Aside0 (Kd.Q (Kd.int .i64) 3 wc w.heap.size (fun k_ => some k_ ≠ (u4 : Value).ownBlock ∧ some k_ ≠ (u5 : Value).ownBlock) u3 x3_1) ∧ Aside0 (Kd.Q (Kd.int .i64) 3 wc w.heap.size (fun k_ => some k_ ≠ (u3 : Value).ownBlock ∧ some k_ ≠ (u5 : Value).ownBlock) u4 x4_1) ∧ Aside0 (Kd.R (Kd.int .i64) 3 wc w.heap.size (fun k_ => some k_ ≠ (u3 : Value).ownBlock ∧ some k_ ≠ (u4 : Value).ownBlock) u5 x5_1) ∧ Aside0 (Below w.heap.size w wc))
            case first =>
              have H := HC20.out
              clear HC20
              by_cases c21 : (x3_1.length : Int) > 0
              · rw [if_pos c21] at H
                have c21b0 : decide (0 < (x3_1.length : Int)) = true := decide_eq_true c21
                have c21b1 : decide (0 < x3_1.length) = true := decide_eq_true (by omega)
                clear c21
                (first | rw [c21b0] | (simp only [i64_w, i32_w]; rw [c21b0]) | skip)
                have H' := Aside0.mk H
                clear H
                obtain ⟨Ao22, co22, eo22, _⟩ := Kd.Q_slice HO_3.out
                subst eo22
                go_wp2
                repeat (go_quiet (fail); try go_wp2)
                go_meet
                case rel => exact ⟨_, (true), (by first | rfl | (simp; done) | (simp [*]; done)), H', ⟨by have := HK1.out; first | omega | exact Nat.le_refl _⟩, ⟨zq HO_3⟩, ⟨zq HO_4⟩, ⟨zr HO_5⟩, ⟨zh HB⟩⟩
              · rw [if_neg c21] at H
                have c21b0 : decide (0 < (x3_1.length : Int)) = false := decide_eq_false c21
                have c21b1 : decide (0 < x3_1.length) = false := decide_eq_false (by omega)
                clear c21
                (first | rw [c21b0] | (simp only [i64_w, i32_w]; rw [c21b0]) | skip)
                have H' := Aside0.mk H
                clear H
                obtain ⟨Ao23, co23, eo23, _⟩ := Kd.Q_slice HO_3.out
                subst eo23
                obtain ⟨Ao24, co24, eo24, _⟩ := Kd.Q_slice HO_4.out
                subst eo24
                go_wp2
                repeat (go_quiet (fail); try go_wp2)
                go_meet
                case rel => exact ⟨_, (decide ((x4_1.length : Int) > 0)), (by first | rfl | (simp; done) | (simp [*]; done)), H', ⟨by have := HK1.out; first | omega | exact Nat.le_refl _⟩, ⟨zq HO_3⟩, ⟨zq HO_4⟩, ⟨zr HO_5⟩, ⟨zh HB⟩⟩
            case rest =>
              clear HC20
              try clear c1
              try clear c2
              try clear c2b0
              try clear c2b1
              try clear p2
              try clear c3
              try clear c5
              try clear p6
              try clear c8
              try clear c8b0
              try clear c8b1
              try clear c9
              try clear c9b0
              try clear c9b1
              try clear c11
              try clear c11b0
              try clear c12
              try clear c12b0
              try clear c21
              try clear c21b0
              try clear c21b1
              try clear p2
              try clear p6
              obtain ⟨kq, x32_19, rfl, HA, HJ19, HO_3, HO_4, HO_5, HB⟩ := hcut
              cases kq with
              | zero => exact absurd HA.out (by simp [spec_l17Sort.j1])
              | succ kj19 =>
                have H := HA.out
                clear HA
                simp only [spec_l17Sort.j1] at H
                by_cases c25 : x32_19 = true
                · subst c25
                  have H1 : (if (x4_1.length : Int) = 0 then (if 0 < (x3_1.length : Int) then (if x5_1.length < 17592186044416 then (if 1 ≤ (x3_1.length : Int) then (spec_l17Sort.l0 kj19 (x3_1.drop (1 : Int).toNat) x4_1 (x5_1 ++ [rd x3_1 0])) else (none)) else (none)) else (none)) else (if (x3_1.length : Int) > 0 then (if 0 < (x3_1.length : Int) then (if 0 < (x4_1.length : Int) then (if (rd x3_1 0) ≤ (rd x4_1 0) then (if x5_1.length < 17592186044416 then (if 1 ≤ (x3_1.length : Int) then (spec_l17Sort.l0 kj19 (x3_1.drop (1 : Int).toNat) x4_1 (x5_1 ++ [rd x3_1 0])) else (none)) else (none)) else (if x5_1.length < 17592186044416 then (if 1 ≤ (x4_1.length : Int) then (spec_l17Sort.l0 kj19 x3_1 (x4_1.drop (1 : Int).toNat) (x5_1 ++ [rd x4_1 0])) else (none)) else (none))) else (none)) else (none)) else (if 0 < (x4_1.length : Int) then (if x5_1.length < 17592186044416 then (if 1 ≤ (x4_1.length : Int) then (spec_l17Sort.l0 kj19 x3_1 (x4_1.drop (1 : Int).toNat) (x5_1 ++ [rd x4_1 0])) else (none)) else (none)) else (none)))) = some r := by rw [if_pos rfl] at H; exact H
                  clear H
                  have H := H1
                  clear H1
                  by_cases c26 : (x4_1.length : Int) = 0
                  · rw [if_pos c26] at H
                    have c26b0 : ((x4_1.length : Int) == 0) = true := beq_iff_eq.mpr c26
                    have c26b1 : ((x4_1.length : Int) != 0) = false := bne_eq_false_iff_eq.mpr c26
                    clear c26
                    by_cases c27 : 0 < (x3_1.length : Int)
                    · rw [if_pos c27] at H
                      have c27b0 : decide (0 < (x3_1.length : Int)) = true := decide_eq_true c27
                      have c27b1 : decide (0 < x3_1.length) = true := decide_eq_true (by omega)
                      clear c27
                      by_cases c28 : x5_1.length < 17592186044416
                      · rw [if_pos c28] at H
                        have LMc28 := Aside0.mk c28
                        clear c28
                        obtain ⟨y119, hy119⟩ : ∃ y_ : List Int, y_ = (x5_1 ++ [rd x3_1 0]) := ⟨_, rfl⟩
                        replace H : (if 1 ≤ (x3_1.length : Int) then (spec_l17Sort.l0 kj19 (x3_1.drop (1 : Int).toNat) x4_1 y119) else (none)) = some r := by first | (rw [hy119]; with_reducible exact H) | (have H2_ := (Option.bind_some _ _).symm.trans H; rw [hy119]; with_reducible exact H2_) | (have H2_ := (Option.bind_some _ _).symm.trans H; with_reducible exact H2_) | with_reducible exact H | (rw [hy119]; exact H) | exact H
                        have Ny119 := Aside0.mk hy119
                        clear hy119
                        by_cases c29 : 1 ≤ (x3_1.length : Int)
                        · rw [if_pos c29] at H
                          have c29b0 := eq_true c29
                          have c29b1 : decide (1 ≤ (x3_1.length : Int)) = true := decide_eq_true c29
                          clear c29
                          obtain ⟨y122, hy122⟩ : ∃ y_ : List Int, y_ = (x3_1.drop (1 : Int).toNat) := ⟨_, rfl⟩
                          replace H : (spec_l17Sort.l0 kj19 y122 x4_1 y119) = some r := by first | (rw [hy122]; with_reducible exact H) | (have H2_ := (Option.bind_some _ _).symm.trans H; rw [hy122]; with_reducible exact H2_) | (have H2_ := (Option.bind_some _ _).symm.trans H; with_reducible exact H2_) | with_reducible exact H | (rw [hy122]; exact H) | exact H
                          have Ny122 := Aside0.mk hy122
                          clear hy122
                          have H' := Aside0.mk H
                          clear H
                          obtain ⟨Ao30, co30, eo30, _⟩ := Kd.Q_slice HO_4.out
                          subst eo30
                          obtain ⟨Ao31, co31, eo31, _⟩ := Kd.Q_slice HO_3.out
                          subst eo31
                          have p118 : 0 ≤ (0 : Int) := (by omega)
                          have q118 : 0 < (x3_1.length : Int) := of_decide_eq_true zas
                          obtain ⟨ad118, e118, hx118_0⟩ := Kd.at_int (Kd.Q_reads' HO_3.out).2.2 0 p118 q118
                          cases e118
                          have qi118 : (0 < x3_1.length) = True := eq_true (by omega)
                          (try rw [show ((0 : Int)).toNat = 0 from rfl] at hx118_0)
                          (try rw [Addr.add_zero'] at hx118_0)
                          replace p118 := eq_true p118
                          replace q118 := eq_true q118
                          go_wp2_with (first | ((with_reducible refine gate_builtin (b := .append) (xs := #[.tmp 50, .tmp 54]) rfl ?_); (try (refine gate_guard (by rfl) ?_; dsimp only)); at_builtin; refine Kd.R_append (Kd.int .i64) (w0 := w) w.heap.size rfl (.tmp 50) (.tmp 54) 22 3 (.int .i64 0) 8 rfl Try.underlying22 info3 rfl (by decide) (by omega) u5 x5_1 (rd x3_1 0) [.int .i64 (rd x3_1 0)] (fun k_ => some k_ ≠ (.slice (some ad118) x3_1.length co31 : Value).ownBlock ∧ some k_ ≠ (.slice Ao30 x4_1.length co30 : Value).ownBlock) (fun _ => False) rfl rfl ?aP (fun _ hk => hk.elim) ?aF ?aO ?aB ?aS ?aL ?_; (case aP => exact rfl); (case aB => exact (zh HB)); (case aF => exact (fun k_ hk => ⟨Kd.fresh' (Kd.Q_lt (zq HO_3)) k_ hk, Kd.fresh' (Kd.Q_lt (zq HO_4)) k_ hk⟩)); (case aO => exact (zr HO_5)); (case aS => exact (below_size (zh HB))); (case aL => have := LMc28.out; omega); intro v120 w32 ho hb hg hat; rw [← Ny119.out] at ho; have n0_ := Aside0.mk (Kd.Q_after (ok := (fun k_ => some k_ ≠ (.slice Ao30 x4_1.length co30 : Value).ownBlock)) (zq HO_3) hg hat); have n1_ := Aside0.mk (Kd.Q_after (ok := (fun k_ => some k_ ≠ (.slice (some ad118) x3_1.length co31 : Value).ownBlock)) (zq HO_4) hg hat); have n2_ := Aside0.mk (hb); have n3_ := Aside0.mk (ho); clear HO_3; clear HO_4; clear HB; clear HO_5; have HO_3 := n0_; have HO_4 := n1_; have HB := n2_; have HO121 := n3_; clear n0_ n1_ n2_ n3_; clear ho hb hg hat; have q33 : (1 : Int) ≤ ((x3_1.length : Int) : Int) := of_decide_eq_true zas; obtain ⟨i033, hi033, _, hsz33, _⟩ := info_parts info3; have hcut33 := cut_from (P := Try.prog) 22 3 .i64 Try.underlying22 hi033 1 hsz33 (some ad118) x3_1.length co31 1 (by omega) q33; have hr33 := Kd.Q_drop (k := (1 : Int).toNat) HO_3.out (by omega); obtain ⟨A33, hA33⟩ : ∃ A1, A1 = (if co31 = (1 : Int).toNat then (some ad118) else ((some ad118) : Option Addr).map (·.add ((1 : Int).toNat * 1))) := ⟨_, rfl⟩; obtain ⟨c33, hc33⟩ : ∃ c1, c1 = co31 - (1 : Int).toNat := ⟨_, rfl⟩; have hy33 : y122.length = x3_1.length - (1 : Int).toNat := (by rw [Ny122.out, List.length_drop]); rw [← Ny122.out] at hr33; rw [← hy33, ← hA33, ← hc33] at hcut33; replace hr33 : Kd.Q (Kd.int .i64) 3 w32 w.heap.size (fun k_ => some k_ ≠ (.slice Ao30 x4_1.length co30 : Value).ownBlock ∧ some k_ ≠ (v120 : Value).ownBlock) (.slice A33 y122.length c33) y122 := (by rw [hA33, hc33, hy33]; exact hr33); have HE33 : Aside0 ((Value.slice A33 y122.length c33).ownBlock = (.slice (some ad118) x3_1.length co31 : Value).ownBlock) := ⟨by rw [hA33]; split <;> (cases ((some ad118) : Option Addr) <;> rfl)⟩; clear hy33 hi033 hsz33 HO_3 hA33 hc33; have HO124 := Aside0.mk hr33; clear hr33; replace q33 := eq_true q33; have n_ := Aside0.mk (Kd.Q_mono (ok' := fun k_ => (some k_ ≠ (.slice A33 y122.length c33 : Value).ownBlock ∧ some k_ ≠ (v120 : Value).ownBlock)) HO_4.out (fun k_ hk => ⟨(by rw [HE33.out]; exact hk.1), hk.2⟩)); clear HO_4; have HO_4 := n_; clear n_; have n_ := Aside0.mk (Kd.R_mono (ok' := fun k_ => (some k_ ≠ (.slice A33 y122.length c33 : Value).ownBlock ∧ some k_ ≠ (.slice Ao30 x4_1.length co30 : Value).ownBlock)) HO121.out (fun k_ hk => ⟨(by rw [HE33.out]; exact hk.1), hk.2⟩)); clear HO121; have HO121 := n_; clear n_))
                          repeat (go_quiet (first | ((with_reducible refine gate_builtin (b := .append) (xs := #[.tmp 50, .tmp 54]) rfl ?_); (try (refine gate_guard (by rfl) ?_; dsimp only)); at_builtin; refine Kd.R_append (Kd.int .i64) (w0 := w) w.heap.size rfl (.tmp 50) (.tmp 54) 22 3 (.int .i64 0) 8 rfl Try.underlying22 info3 rfl (by decide) (by omega) u5 x5_1 (rd x3_1 0) [.int .i64 (rd x3_1 0)] (fun k_ => some k_ ≠ (.slice (some ad118) x3_1.length co31 : Value).ownBlock ∧ some k_ ≠ (.slice Ao30 x4_1.length co30 : Value).ownBlock) (fun _ => False) rfl rfl ?aP (fun _ hk => hk.elim) ?aF ?aO ?aB ?aS ?aL ?_; (case aP => exact rfl); (case aB => exact (zh HB)); (case aF => exact (fun k_ hk => ⟨Kd.fresh' (Kd.Q_lt (zq HO_3)) k_ hk, Kd.fresh' (Kd.Q_lt (zq HO_4)) k_ hk⟩)); (case aO => exact (zr HO_5)); (case aS => exact (below_size (zh HB))); (case aL => have := LMc28.out; omega); intro v120 w32 ho hb hg hat; rw [← Ny119.out] at ho; have n0_ := Aside0.mk (Kd.Q_after (ok := (fun k_ => some k_ ≠ (.slice Ao30 x4_1.length co30 : Value).ownBlock)) (zq HO_3) hg hat); have n1_ := Aside0.mk (Kd.Q_after (ok := (fun k_ => some k_ ≠ (.slice (some ad118) x3_1.length co31 : Value).ownBlock)) (zq HO_4) hg hat); have n2_ := Aside0.mk (hb); have n3_ := Aside0.mk (ho); clear HO_3; clear HO_4; clear HB; clear HO_5; have HO_3 := n0_; have HO_4 := n1_; have HB := n2_; have HO121 := n3_; clear n0_ n1_ n2_ n3_; clear ho hb hg hat; have q33 : (1 : Int) ≤ ((x3_1.length : Int) : Int) := of_decide_eq_true zas; obtain ⟨i033, hi033, _, hsz33, _⟩ := info_parts info3; have hcut33 := cut_from (P := Try.prog) 22 3 .i64 Try.underlying22 hi033 1 hsz33 (some ad118) x3_1.length co31 1 (by omega) q33; have hr33 := Kd.Q_drop (k := (1 : Int).toNat) HO_3.out (by omega); obtain ⟨A33, hA33⟩ : ∃ A1, A1 = (if co31 = (1 : Int).toNat then (some ad118) else ((some ad118) : Option Addr).map (·.add ((1 : Int).toNat * 1))) := ⟨_, rfl⟩; obtain ⟨c33, hc33⟩ : ∃ c1, c1 = co31 - (1 : Int).toNat := ⟨_, rfl⟩; have hy33 : y122.length = x3_1.length - (1 : Int).toNat := (by rw [Ny122.out, List.length_drop]); rw [← Ny122.out] at hr33; rw [← hy33, ← hA33, ← hc33] at hcut33; replace hr33 : Kd.Q (Kd.int .i64) 3 w32 w.heap.size (fun k_ => some k_ ≠ (.slice Ao30 x4_1.length co30 : Value).ownBlock ∧ some k_ ≠ (v120 : Value).ownBlock) (.slice A33 y122.length c33) y122 := (by rw [hA33, hc33, hy33]; exact hr33); have HE33 : Aside0 ((Value.slice A33 y122.length c33).ownBlock = (.slice (some ad118) x3_1.length co31 : Value).ownBlock) := ⟨by rw [hA33]; split <;> (cases ((some ad118) : Option Addr) <;> rfl)⟩; clear hy33 hi033 hsz33 HO_3 hA33 hc33; have HO124 := Aside0.mk hr33; clear hr33; replace q33 := eq_true q33; have n_ := Aside0.mk (Kd.Q_mono (ok' := fun k_ => (some k_ ≠ (.slice A33 y122.length c33 : Value).ownBlock ∧ some k_ ≠ (v120 : Value).ownBlock)) HO_4.out (fun k_ hk => ⟨(by rw [HE33.out]; exact hk.1), hk.2⟩)); clear HO_4; have HO_4 := n_; clear n_; have n_ := Aside0.mk (Kd.R_mono (ok' := fun k_ => (some k_ ≠ (.slice A33 y122.length c33 : Value).ownBlock ∧ some k_ ≠ (.slice Ao30 x4_1.length co30 : Value).ownBlock)) HO121.out (fun k_ hk => ⟨(by rw [HE33.out]; exact hk.1), hk.2⟩)); clear HO121; have HO121 := n_; clear n_)); try go_wp2_with (first | ((with_reducible refine gate_builtin (b := .append) (xs := #[.tmp 50, .tmp 54]) rfl ?_); (try (refine gate_guard (by rfl) ?_; dsimp only)); at_builtin; refine Kd.R_append (Kd.int .i64) (w0 := w) w.heap.size rfl (.tmp 50) (.tmp 54) 22 3 (.int .i64 0) 8 rfl Try.underlying22 info3 rfl (by decide) (by omega) u5 x5_1 (rd x3_1 0) [.int .i64 (rd x3_1 0)] (fun k_ => some k_ ≠ (.slice (some ad118) x3_1.length co31 : Value).ownBlock ∧ some k_ ≠ (.slice Ao30 x4_1.length co30 : Value).ownBlock) (fun _ => False) rfl rfl ?aP (fun _ hk => hk.elim) ?aF ?aO ?aB ?aS ?aL ?_; (case aP => exact rfl); (case aB => exact (zh HB)); (case aF => exact (fun k_ hk => ⟨Kd.fresh' (Kd.Q_lt (zq HO_3)) k_ hk, Kd.fresh' (Kd.Q_lt (zq HO_4)) k_ hk⟩)); (case aO => exact (zr HO_5)); (case aS => exact (below_size (zh HB))); (case aL => have := LMc28.out; omega); intro v120 w32 ho hb hg hat; rw [← Ny119.out] at ho; have n0_ := Aside0.mk (Kd.Q_after (ok := (fun k_ => some k_ ≠ (.slice Ao30 x4_1.length co30 : Value).ownBlock)) (zq HO_3) hg hat); have n1_ := Aside0.mk (Kd.Q_after (ok := (fun k_ => some k_ ≠ (.slice (some ad118) x3_1.length co31 : Value).ownBlock)) (zq HO_4) hg hat); have n2_ := Aside0.mk (hb); have n3_ := Aside0.mk (ho); clear HO_3; clear HO_4; clear HB; clear HO_5; have HO_3 := n0_; have HO_4 := n1_; have HB := n2_; have HO121 := n3_; clear n0_ n1_ n2_ n3_; clear ho hb hg hat; have q33 : (1 : Int) ≤ ((x3_1.length : Int) : Int) := of_decide_eq_true zas; obtain ⟨i033, hi033, _, hsz33, _⟩ := info_parts info3; have hcut33 := cut_from (P := Try.prog) 22 3 .i64 Try.underlying22 hi033 1 hsz33 (some ad118) x3_1.length co31 1 (by omega) q33; have hr33 := Kd.Q_drop (k := (1 : Int).toNat) HO_3.out (by omega); obtain ⟨A33, hA33⟩ : ∃ A1, A1 = (if co31 = (1 : Int).toNat then (some ad118) else ((some ad118) : Option Addr).map (·.add ((1 : Int).toNat * 1))) := ⟨_, rfl⟩; obtain ⟨c33, hc33⟩ : ∃ c1, c1 = co31 - (1 : Int).toNat := ⟨_, rfl⟩; have hy33 : y122.length = x3_1.length - (1 : Int).toNat := (by rw [Ny122.out, List.length_drop]); rw [← Ny122.out] at hr33; rw [← hy33, ← hA33, ← hc33] at hcut33; replace hr33 : Kd.Q (Kd.int .i64) 3 w32 w.heap.size (fun k_ => some k_ ≠ (.slice Ao30 x4_1.length co30 : Value).ownBlock ∧ some k_ ≠ (v120 : Value).ownBlock) (.slice A33 y122.length c33) y122 := (by rw [hA33, hc33, hy33]; exact hr33); have HE33 : Aside0 ((Value.slice A33 y122.length c33).ownBlock = (.slice (some ad118) x3_1.length co31 : Value).ownBlock) := ⟨by rw [hA33]; split <;> (cases ((some ad118) : Option Addr) <;> rfl)⟩; clear hy33 hi033 hsz33 HO_3 hA33 hc33; have HO124 := Aside0.mk hr33; clear hr33; replace q33 := eq_true q33; have n_ := Aside0.mk (Kd.Q_mono (ok' := fun k_ => (some k_ ≠ (.slice A33 y122.length c33 : Value).ownBlock ∧ some k_ ≠ (v120 : Value).ownBlock)) HO_4.out (fun k_ hk => ⟨(by rw [HE33.out]; exact hk.1), hk.2⟩)); clear HO_4; have HO_4 := n_; clear n_; have n_ := Aside0.mk (Kd.R_mono (ok' := fun k_ => (some k_ ≠ (.slice A33 y122.length c33 : Value).ownBlock ∧ some k_ ≠ (.slice Ao30 x4_1.length co30 : Value).ownBlock)) HO121.out (fun k_ hk => ⟨(by rw [HE33.out]; exact hk.1), hk.2⟩)); clear HO121; have HO121 := n_; clear n_)))
                          go_roundg kj19
                          case measure => have := HK1.out; have := HJ19.out; omega
                          case rel => exact ⟨(y122), (x4_1), (y119), H', ⟨by have := HK1.out; have := HJ19.out; omega⟩, ⟨zq HO124⟩, ⟨zq HO_4⟩, ⟨zr HO121⟩, ⟨zh HB⟩⟩
                        · rw [if_neg c29] at H
                          exact absurd H (by simp)
                      · rw [if_neg c28] at H
                        exact absurd H (by simp)
                    · rw [if_neg c27] at H
                      exact absurd H (by simp)
                  · rw [if_neg c26] at H
                    have c26b0 : ((x4_1.length : Int) == 0) = false := beq_eq_false_iff_ne.mpr c26
                    have c26b1 : ((x4_1.length : Int) != 0) = true := bne_iff_ne.mpr c26
                    have c26b2 : ¬ (x4_1 = []) := fun h_ => c26 (by rw [h_]; rfl)
                    by_cases c34 : (x3_1.length : Int) > 0
                    · rw [if_pos c34] at H
                      have c34b0 : decide (0 < (x3_1.length : Int)) = true := decide_eq_true c34
                      have c34b1 : decide (0 < x3_1.length) = true := decide_eq_true (by omega)
                      clear c34
                      by_cases c35 : 0 < (x3_1.length : Int)
                      · rw [if_pos c35] at H
                        have c35b0 : decide (0 < (x3_1.length : Int)) = true := decide_eq_true c35
                        have c35b1 : decide (0 < x3_1.length) = true := decide_eq_true (by omega)
                        clear c35
                        by_cases c36 : 0 < (x4_1.length : Int)
                        · rw [if_pos c36] at H
                          have c36b0 : decide (0 < (x4_1.length : Int)) = true := decide_eq_true c36
                          have c36b1 : decide (0 < x4_1.length) = true := decide_eq_true (by omega)
                          clear c36
                          by_cases c37 : (rd x3_1 0) ≤ (rd x4_1 0)
                          · rw [if_pos c37] at H
                            have c37b0 : decide ((rd x3_1 0) ≤ (rd x4_1 0)) = true := decide_eq_true c37
                            clear c37
                            by_cases c38 : x5_1.length < 17592186044416
                            · rw [if_pos c38] at H
                              have LMc38 := Aside0.mk c38
                              clear c38
                              obtain ⟨y128, hy128⟩ : ∃ y_ : List Int, y_ = (x5_1 ++ [rd x3_1 0]) := ⟨_, rfl⟩
                              replace H : (if 1 ≤ (x3_1.length : Int) then (spec_l17Sort.l0 kj19 (x3_1.drop (1 : Int).toNat) x4_1 y128) else (none)) = some r := by first | (rw [hy128]; with_reducible exact H) | (have H2_ := (Option.bind_some _ _).symm.trans H; rw [hy128]; with_reducible exact H2_) | (have H2_ := (Option.bind_some _ _).symm.trans H; with_reducible exact H2_) | with_reducible exact H | (rw [hy128]; exact H) | exact H
                              have Ny128 := Aside0.mk hy128
                              clear hy128
                              by_cases c39 : 1 ≤ (x3_1.length : Int)
                              · rw [if_pos c39] at H
                                have c39b0 := eq_true c39
                                have c39b1 : decide (1 ≤ (x3_1.length : Int)) = true := decide_eq_true c39
                                clear c39
                                obtain ⟨y131, hy131⟩ : ∃ y_ : List Int, y_ = (x3_1.drop (1 : Int).toNat) := ⟨_, rfl⟩
                                replace H : (spec_l17Sort.l0 kj19 y131 x4_1 y128) = some r := by first | (rw [hy131]; with_reducible exact H) | (have H2_ := (Option.bind_some _ _).symm.trans H; rw [hy131]; with_reducible exact H2_) | (have H2_ := (Option.bind_some _ _).symm.trans H; with_reducible exact H2_) | with_reducible exact H | (rw [hy131]; exact H) | exact H
                                have Ny131 := Aside0.mk hy131
                                clear hy131
                                have H' := Aside0.mk H
                                clear H
                                obtain ⟨Ao40, co40, eo40, _⟩ := Kd.Q_slice HO_4.out
                                subst eo40
                                obtain ⟨Ao41, co41, eo41, _⟩ := Kd.Q_slice HO_3.out
                                subst eo41
                                have p125 : 0 ≤ (0 : Int) := (by omega)
                                have q125 : 0 < (x3_1.length : Int) := of_decide_eq_true zas
                                obtain ⟨ad125, e125, hx125_0⟩ := Kd.at_int (Kd.Q_reads' HO_3.out).2.2 0 p125 q125
                                cases e125
                                have qi125 : (0 < x3_1.length) = True := eq_true (by omega)
                                (try rw [show ((0 : Int)).toNat = 0 from rfl] at hx125_0)
                                (try rw [Addr.add_zero'] at hx125_0)
                                replace p125 := eq_true p125
                                replace q125 := eq_true q125
                                have p126 : 0 ≤ (0 : Int) := (by omega)
                                have q126 : 0 < (x4_1.length : Int) := of_decide_eq_true zas
                                obtain ⟨ad126, e126, hx126_0⟩ := Kd.at_int (Kd.Q_reads' HO_4.out).2.2 0 p126 q126
                                cases e126
                                have qi126 : (0 < x4_1.length) = True := eq_true (by omega)
                                (try rw [show ((0 : Int)).toNat = 0 from rfl] at hx126_0)
                                (try rw [Addr.add_zero'] at hx126_0)
                                replace p126 := eq_true p126
                                replace q126 := eq_true q126
                                have p127 : 0 ≤ (0 : Int) := (by omega)
                                have q127 : 0 < (x3_1.length : Int) := of_decide_eq_true zas
                                obtain ⟨ad127, e127, hx127_0⟩ := Kd.at_int (Kd.Q_reads' HO_3.out).2.2 0 p127 q127
                                obtain rfl : ad125 = ad127 := (by injection e127)
                                have qi127 : (0 < x3_1.length) = True := eq_true (by omega)
                                (try rw [show ((0 : Int)).toNat = 0 from rfl] at hx127_0)
                                (try rw [Addr.add_zero'] at hx127_0)
                                replace p127 := eq_true p127
                                replace q127 := eq_true q127
                                go_wp2_with (first | ((with_reducible refine gate_builtin (b := .append) (xs := #[.tmp 50, .tmp 54]) rfl ?_); (try (refine gate_guard (by rfl) ?_; dsimp only)); at_builtin; refine Kd.R_append (Kd.int .i64) (w0 := w) w.heap.size rfl (.tmp 50) (.tmp 54) 22 3 (.int .i64 0) 8 rfl Try.underlying22 info3 rfl (by decide) (by omega) u5 x5_1 (rd x3_1 0) [.int .i64 (rd x3_1 0)] (fun k_ => some k_ ≠ (.slice (some ad125) x3_1.length co41 : Value).ownBlock ∧ some k_ ≠ (.slice (some ad126) x4_1.length co40 : Value).ownBlock) (fun _ => False) rfl rfl ?aP (fun _ hk => hk.elim) ?aF ?aO ?aB ?aS ?aL ?_; (case aP => exact rfl); (case aB => exact (zh HB)); (case aF => exact (fun k_ hk => ⟨Kd.fresh' (Kd.Q_lt (zq HO_3)) k_ hk, Kd.fresh' (Kd.Q_lt (zq HO_4)) k_ hk⟩)); (case aO => exact (zr HO_5)); (case aS => exact (below_size (zh HB))); (case aL => have := LMc38.out; omega); intro v129 w42 ho hb hg hat; rw [← Ny128.out] at ho; have n0_ := Aside0.mk (Kd.Q_after (ok := (fun k_ => some k_ ≠ (.slice (some ad126) x4_1.length co40 : Value).ownBlock)) (zq HO_3) hg hat); have n1_ := Aside0.mk (Kd.Q_after (ok := (fun k_ => some k_ ≠ (.slice (some ad125) x3_1.length co41 : Value).ownBlock)) (zq HO_4) hg hat); have n2_ := Aside0.mk (hb); have n3_ := Aside0.mk (ho); clear HO_3; clear HO_4; clear HB; clear HO_5; have HO_3 := n0_; have HO_4 := n1_; have HB := n2_; have HO130 := n3_; clear n0_ n1_ n2_ n3_; clear ho hb hg hat; have q43 : (1 : Int) ≤ ((x3_1.length : Int) : Int) := of_decide_eq_true zas; obtain ⟨i043, hi043, _, hsz43, _⟩ := info_parts info3; have hcut43 := cut_from (P := Try.prog) 22 3 .i64 Try.underlying22 hi043 1 hsz43 (some ad125) x3_1.length co41 1 (by omega) q43; have hr43 := Kd.Q_drop (k := (1 : Int).toNat) HO_3.out (by omega); obtain ⟨A43, hA43⟩ : ∃ A1, A1 = (if co41 = (1 : Int).toNat then (some ad125) else ((some ad125) : Option Addr).map (·.add ((1 : Int).toNat * 1))) := ⟨_, rfl⟩; obtain ⟨c43, hc43⟩ : ∃ c1, c1 = co41 - (1 : Int).toNat := ⟨_, rfl⟩; have hy43 : y131.length = x3_1.length - (1 : Int).toNat := (by rw [Ny131.out, List.length_drop]); rw [← Ny131.out] at hr43; rw [← hy43, ← hA43, ← hc43] at hcut43; replace hr43 : Kd.Q (Kd.int .i64) 3 w42 w.heap.size (fun k_ => some k_ ≠ (.slice (some ad126) x4_1.length co40 : Value).ownBlock ∧ some k_ ≠ (v129 : Value).ownBlock) (.slice A43 y131.length c43) y131 := (by rw [hA43, hc43, hy43]; exact hr43); have HE43 : Aside0 ((Value.slice A43 y131.length c43).ownBlock = (.slice (some ad125) x3_1.length co41 : Value).ownBlock) := ⟨by rw [hA43]; split <;> (cases ((some ad125) : Option Addr) <;> rfl)⟩; clear hy43 hi043 hsz43 HO_3 hA43 hc43; have HO133 := Aside0.mk hr43; clear hr43; replace q43 := eq_true q43; have n_ := Aside0.mk (Kd.Q_mono (ok' := fun k_ => (some k_ ≠ (.slice A43 y131.length c43 : Value).ownBlock ∧ some k_ ≠ (v129 : Value).ownBlock)) HO_4.out (fun k_ hk => ⟨(by rw [HE43.out]; exact hk.1), hk.2⟩)); clear HO_4; have HO_4 := n_; clear n_; have n_ := Aside0.mk (Kd.R_mono (ok' := fun k_ => (some k_ ≠ (.slice A43 y131.length c43 : Value).ownBlock ∧ some k_ ≠ (.slice (some ad126) x4_1.length co40 : Value).ownBlock)) HO130.out (fun k_ hk => ⟨(by rw [HE43.out]; exact hk.1), hk.2⟩)); clear HO130; have HO130 := n_; clear n_))
                                repeat (go_quiet (first | ((with_reducible refine gate_builtin (b := .append) (xs := #[.tmp 50, .tmp 54]) rfl ?_); (try (refine gate_guard (by rfl) ?_; dsimp only)); at_builtin; refine Kd.R_append (Kd.int .i64) (w0 := w) w.heap.size rfl (.tmp 50) (.tmp 54) 22 3 (.int .i64 0) 8 rfl Try.underlying22 info3 rfl (by decide) (by omega) u5 x5_1 (rd x3_1 0) [.int .i64 (rd x3_1 0)] (fun k_ => some k_ ≠ (.slice (some ad125) x3_1.length co41 : Value).ownBlock ∧ some k_ ≠ (.slice (some ad126) x4_1.length co40 : Value).ownBlock) (fun _ => False) rfl rfl ?aP (fun _ hk => hk.elim) ?aF ?aO ?aB ?aS ?aL ?_; (case aP => exact rfl); (case aB => exact (zh HB)); (case aF => exact (fun k_ hk => ⟨Kd.fresh' (Kd.Q_lt (zq HO_3)) k_ hk, Kd.fresh' (Kd.Q_lt (zq HO_4)) k_ hk⟩)); (case aO => exact (zr HO_5)); (case aS => exact (below_size (zh HB))); (case aL => have := LMc38.out; omega); intro v129 w42 ho hb hg hat; rw [← Ny128.out] at ho; have n0_ := Aside0.mk (Kd.Q_after (ok := (fun k_ => some k_ ≠ (.slice (some ad126) x4_1.length co40 : Value).ownBlock)) (zq HO_3) hg hat); have n1_ := Aside0.mk (Kd.Q_after (ok := (fun k_ => some k_ ≠ (.slice (some ad125) x3_1.length co41 : Value).ownBlock)) (zq HO_4) hg hat); have n2_ := Aside0.mk (hb); have n3_ := Aside0.mk (ho); clear HO_3; clear HO_4; clear HB; clear HO_5; have HO_3 := n0_; have HO_4 := n1_; have HB := n2_; have HO130 := n3_; clear n0_ n1_ n2_ n3_; clear ho hb hg hat; have q43 : (1 : Int) ≤ ((x3_1.length : Int) : Int) := of_decide_eq_true zas; obtain ⟨i043, hi043, _, hsz43, _⟩ := info_parts info3; have hcut43 := cut_from (P := Try.prog) 22 3 .i64 Try.underlying22 hi043 1 hsz43 (some ad125) x3_1.length co41 1 (by omega) q43; have hr43 := Kd.Q_drop (k := (1 : Int).toNat) HO_3.out (by omega); obtain ⟨A43, hA43⟩ : ∃ A1, A1 = (if co41 = (1 : Int).toNat then (some ad125) else ((some ad125) : Option Addr).map (·.add ((1 : Int).toNat * 1))) := ⟨_, rfl⟩; obtain ⟨c43, hc43⟩ : ∃ c1, c1 = co41 - (1 : Int).toNat := ⟨_, rfl⟩; have hy43 : y131.length = x3_1.length - (1 : Int).toNat := (by rw [Ny131.out, List.length_drop]); rw [← Ny131.out] at hr43; rw [← hy43, ← hA43, ← hc43] at hcut43; replace hr43 : Kd.Q (Kd.int .i64) 3 w42 w.heap.size (fun k_ => some k_ ≠ (.slice (some ad126) x4_1.length co40 : Value).ownBlock ∧ some k_ ≠ (v129 : Value).ownBlock) (.slice A43 y131.length c43) y131 := (by rw [hA43, hc43, hy43]; exact hr43); have HE43 : Aside0 ((Value.slice A43 y131.length c43).ownBlock = (.slice (some ad125) x3_1.length co41 : Value).ownBlock) := ⟨by rw [hA43]; split <;> (cases ((some ad125) : Option Addr) <;> rfl)⟩; clear hy43 hi043 hsz43 HO_3 hA43 hc43; have HO133 := Aside0.mk hr43; clear hr43; replace q43 := eq_true q43; have n_ := Aside0.mk (Kd.Q_mono (ok' := fun k_ => (some k_ ≠ (.slice A43 y131.length c43 : Value).ownBlock ∧ some k_ ≠ (v129 : Value).ownBlock)) HO_4.out (fun k_ hk => ⟨(by rw [HE43.out]; exact hk.1), hk.2⟩)); clear HO_4; have HO_4 := n_; clear n_; have n_ := Aside0.mk (Kd.R_mono (ok' := fun k_ => (some k_ ≠ (.slice A43 y131.length c43 : Value).ownBlock ∧ some k_ ≠ (.slice (some ad126) x4_1.length co40 : Value).ownBlock)) HO130.out (fun k_ hk => ⟨(by rw [HE43.out]; exact hk.1), hk.2⟩)); clear HO130; have HO130 := n_; clear n_)); try go_wp2_with (first | ((with_reducible refine gate_builtin (b := .append) (xs := #[.tmp 50, .tmp 54]) rfl ?_); (try (refine gate_guard (by rfl) ?_; dsimp only)); at_builtin; refine Kd.R_append (Kd.int .i64) (w0 := w) w.heap.size rfl (.tmp 50) (.tmp 54) 22 3 (.int .i64 0) 8 rfl Try.underlying22 info3 rfl (by decide) (by omega) u5 x5_1 (rd x3_1 0) [.int .i64 (rd x3_1 0)] (fun k_ => some k_ ≠ (.slice (some ad125) x3_1.length co41 : Value).ownBlock ∧ some k_ ≠ (.slice (some ad126) x4_1.length co40 : Value).ownBlock) (fun _ => False) rfl rfl ?aP (fun _ hk => hk.elim) ?aF ?aO ?aB ?aS ?aL ?_; (case aP => exact rfl); (case aB => exact (zh HB)); (case aF => exact (fun k_ hk => ⟨Kd.fresh' (Kd.Q_lt (zq HO_3)) k_ hk, Kd.fresh' (Kd.Q_lt (zq HO_4)) k_ hk⟩)); (case aO => exact (zr HO_5)); (case aS => exact (below_size (zh HB))); (case aL => have := LMc38.out; omega); intro v129 w42 ho hb hg hat; rw [← Ny128.out] at ho; have n0_ := Aside0.mk (Kd.Q_after (ok := (fun k_ => some k_ ≠ (.slice (some ad126) x4_1.length co40 : Value).ownBlock)) (zq HO_3) hg hat); have n1_ := Aside0.mk (Kd.Q_after (ok := (fun k_ => some k_ ≠ (.slice (some ad125) x3_1.length co41 : Value).ownBlock)) (zq HO_4) hg hat); have n2_ := Aside0.mk (hb); have n3_ := Aside0.mk (ho); clear HO_3; clear HO_4; clear HB; clear HO_5; have HO_3 := n0_; have HO_4 := n1_; have HB := n2_; have HO130 := n3_; clear n0_ n1_ n2_ n3_; clear ho hb hg hat; have q43 : (1 : Int) ≤ ((x3_1.length : Int) : Int) := of_decide_eq_true zas; obtain ⟨i043, hi043, _, hsz43, _⟩ := info_parts info3; have hcut43 := cut_from (P := Try.prog) 22 3 .i64 Try.underlying22 hi043 1 hsz43 (some ad125) x3_1.length co41 1 (by omega) q43; have hr43 := Kd.Q_drop (k := (1 : Int).toNat) HO_3.out (by omega); obtain ⟨A43, hA43⟩ : ∃ A1, A1 = (if co41 = (1 : Int).toNat then (some ad125) else ((some ad125) : Option Addr).map (·.add ((1 : Int).toNat * 1))) := ⟨_, rfl⟩; obtain ⟨c43, hc43⟩ : ∃ c1, c1 = co41 - (1 : Int).toNat := ⟨_, rfl⟩; have hy43 : y131.length = x3_1.length - (1 : Int).toNat := (by rw [Ny131.out, List.length_drop]); rw [← Ny131.out] at hr43; rw [← hy43, ← hA43, ← hc43] at hcut43; replace hr43 : Kd.Q (Kd.int .i64) 3 w42 w.heap.size (fun k_ => some k_ ≠ (.slice (some ad126) x4_1.length co40 : Value).ownBlock ∧ some k_ ≠ (v129 : Value).ownBlock) (.slice A43 y131.length c43) y131 := (by rw [hA43, hc43, hy43]; exact hr43); have HE43 : Aside0 ((Value.slice A43 y131.length c43).ownBlock = (.slice (some ad125) x3_1.length co41 : Value).ownBlock) := ⟨by rw [hA43]; split <;> (cases ((some ad125) : Option Addr) <;> rfl)⟩; clear hy43 hi043 hsz43 HO_3 hA43 hc43; have HO133 := Aside0.mk hr43; clear hr43; replace q43 := eq_true q43; have n_ := Aside0.mk (Kd.Q_mono (ok' := fun k_ => (some k_ ≠ (.slice A43 y131.length c43 : Value).ownBlock ∧ some k_ ≠ (v129 : Value).ownBlock)) HO_4.out (fun k_ hk => ⟨(by rw [HE43.out]; exact hk.1), hk.2⟩)); clear HO_4; have HO_4 := n_; clear n_; have n_ := Aside0.mk (Kd.R_mono (ok' := fun k_ => (some k_ ≠ (.slice A43 y131.length c43 : Value).ownBlock ∧ some k_ ≠ (.slice (some ad126) x4_1.length co40 : Value).ownBlock)) HO130.out (fun k_ hk => ⟨(by rw [HE43.out]; exact hk.1), hk.2⟩)); clear HO130; have HO130 := n_; clear n_)))
                                go_roundg kj19
                                case measure => have := HK1.out; have := HJ19.out; omega
                                case rel => exact ⟨(y131), (x4_1), (y128), H', ⟨by have := HK1.out; have := HJ19.out; omega⟩, ⟨zq HO133⟩, ⟨zq HO_4⟩, ⟨zr HO130⟩, ⟨zh HB⟩⟩
                              · rw [if_neg c39] at H
                                exact absurd H (by simp)
                            · rw [if_neg c38] at H
                              exact absurd H (by simp)
                          · rw [if_neg c37] at H
                            have c37b0 : decide ((rd x3_1 0) ≤ (rd x4_1 0)) = false := decide_eq_false c37
                            clear c37
                            by_cases c44 : x5_1.length < 17592186044416
                            · rw [if_pos c44] at H
                              have LMc44 := Aside0.mk c44
                              clear c44
                              obtain ⟨y135, hy135⟩ : ∃ y_ : List Int, y_ = (x5_1 ++ [rd x4_1 0]) := ⟨_, rfl⟩
                              replace H : (if 1 ≤ (x4_1.length : Int) then (spec_l17Sort.l0 kj19 x3_1 (x4_1.drop (1 : Int).toNat) y135) else (none)) = some r := by first | (rw [hy135]; with_reducible exact H) | (have H2_ := (Option.bind_some _ _).symm.trans H; rw [hy135]; with_reducible exact H2_) | (have H2_ := (Option.bind_some _ _).symm.trans H; with_reducible exact H2_) | with_reducible exact H | (rw [hy135]; exact H) | exact H
                              have Ny135 := Aside0.mk hy135
                              clear hy135
                              by_cases c45 : 1 ≤ (x4_1.length : Int)
                              · rw [if_pos c45] at H
                                have c45b0 := eq_true c45
                                have c45b1 : decide (1 ≤ (x4_1.length : Int)) = true := decide_eq_true c45
                                clear c45
                                obtain ⟨y138, hy138⟩ : ∃ y_ : List Int, y_ = (x4_1.drop (1 : Int).toNat) := ⟨_, rfl⟩
                                replace H : (spec_l17Sort.l0 kj19 x3_1 y138 y135) = some r := by first | (rw [hy138]; with_reducible exact H) | (have H2_ := (Option.bind_some _ _).symm.trans H; rw [hy138]; with_reducible exact H2_) | (have H2_ := (Option.bind_some _ _).symm.trans H; with_reducible exact H2_) | with_reducible exact H | (rw [hy138]; exact H) | exact H
                                have Ny138 := Aside0.mk hy138
                                clear hy138
                                have H' := Aside0.mk H
                                clear H
                                obtain ⟨Ao46, co46, eo46, _⟩ := Kd.Q_slice HO_4.out
                                subst eo46
                                obtain ⟨Ao47, co47, eo47, _⟩ := Kd.Q_slice HO_3.out
                                subst eo47
                                have p125 : 0 ≤ (0 : Int) := (by omega)
                                have q125 : 0 < (x3_1.length : Int) := of_decide_eq_true zas
                                obtain ⟨ad125, e125, hx125_0⟩ := Kd.at_int (Kd.Q_reads' HO_3.out).2.2 0 p125 q125
                                cases e125
                                have qi125 : (0 < x3_1.length) = True := eq_true (by omega)
                                (try rw [show ((0 : Int)).toNat = 0 from rfl] at hx125_0)
                                (try rw [Addr.add_zero'] at hx125_0)
                                replace p125 := eq_true p125
                                replace q125 := eq_true q125
                                have p126 : 0 ≤ (0 : Int) := (by omega)
                                have q126 : 0 < (x4_1.length : Int) := of_decide_eq_true zas
                                obtain ⟨ad126, e126, hx126_0⟩ := Kd.at_int (Kd.Q_reads' HO_4.out).2.2 0 p126 q126
                                cases e126
                                have qi126 : (0 < x4_1.length) = True := eq_true (by omega)
                                (try rw [show ((0 : Int)).toNat = 0 from rfl] at hx126_0)
                                (try rw [Addr.add_zero'] at hx126_0)
                                replace p126 := eq_true p126
                                replace q126 := eq_true q126
                                have p134 : 0 ≤ (0 : Int) := (by omega)
                                have q134 : 0 < (x4_1.length : Int) := of_decide_eq_true zas
                                obtain ⟨ad134, e134, hx134_0⟩ := Kd.at_int (Kd.Q_reads' HO_4.out).2.2 0 p134 q134
                                obtain rfl : ad126 = ad134 := (by injection e134)
                                have qi134 : (0 < x4_1.length) = True := eq_true (by omega)
                                (try rw [show ((0 : Int)).toNat = 0 from rfl] at hx134_0)
                                (try rw [Addr.add_zero'] at hx134_0)
                                replace p134 := eq_true p134
                                replace q134 := eq_true q134
                                go_wp2_with (first | ((with_reducible refine gate_builtin (b := .append) (xs := #[.tmp 58, .tmp 62]) rfl ?_); (try (refine gate_guard (by rfl) ?_; dsimp only)); at_builtin; refine Kd.R_append (Kd.int .i64) (w0 := w) w.heap.size rfl (.tmp 58) (.tmp 62) 22 3 (.int .i64 0) 8 rfl Try.underlying22 info3 rfl (by decide) (by omega) u5 x5_1 (rd x4_1 0) [.int .i64 (rd x4_1 0)] (fun k_ => some k_ ≠ (.slice (some ad125) x3_1.length co47 : Value).ownBlock ∧ some k_ ≠ (.slice (some ad126) x4_1.length co46 : Value).ownBlock) (fun _ => False) rfl rfl ?aP (fun _ hk => hk.elim) ?aF ?aO ?aB ?aS ?aL ?_; (case aP => exact rfl); (case aB => exact (zh HB)); (case aF => exact (fun k_ hk => ⟨Kd.fresh' (Kd.Q_lt (zq HO_3)) k_ hk, Kd.fresh' (Kd.Q_lt (zq HO_4)) k_ hk⟩)); (case aO => exact (zr HO_5)); (case aS => exact (below_size (zh HB))); (case aL => have := LMc44.out; omega); intro v136 w48 ho hb hg hat; rw [← Ny135.out] at ho; have n0_ := Aside0.mk (Kd.Q_after (ok := (fun k_ => some k_ ≠ (.slice (some ad126) x4_1.length co46 : Value).ownBlock)) (zq HO_3) hg hat); have n1_ := Aside0.mk (Kd.Q_after (ok := (fun k_ => some k_ ≠ (.slice (some ad125) x3_1.length co47 : Value).ownBlock)) (zq HO_4) hg hat); have n2_ := Aside0.mk (hb); have n3_ := Aside0.mk (ho); clear HO_3; clear HO_4; clear HB; clear HO_5; have HO_3 := n0_; have HO_4 := n1_; have HB := n2_; have HO137 := n3_; clear n0_ n1_ n2_ n3_; clear ho hb hg hat; have q49 : (1 : Int) ≤ ((x4_1.length : Int) : Int) := of_decide_eq_true zas; obtain ⟨i049, hi049, _, hsz49, _⟩ := info_parts info3; have hcut49 := cut_from (P := Try.prog) 22 3 .i64 Try.underlying22 hi049 1 hsz49 (some ad126) x4_1.length co46 1 (by omega) q49; have hr49 := Kd.Q_drop (k := (1 : Int).toNat) HO_4.out (by omega); obtain ⟨A49, hA49⟩ : ∃ A1, A1 = (if co46 = (1 : Int).toNat then (some ad126) else ((some ad126) : Option Addr).map (·.add ((1 : Int).toNat * 1))) := ⟨_, rfl⟩; obtain ⟨c49, hc49⟩ : ∃ c1, c1 = co46 - (1 : Int).toNat := ⟨_, rfl⟩; have hy49 : y138.length = x4_1.length - (1 : Int).toNat := (by rw [Ny138.out, List.length_drop]); rw [← Ny138.out] at hr49; rw [← hy49, ← hA49, ← hc49] at hcut49; replace hr49 : Kd.Q (Kd.int .i64) 3 w48 w.heap.size (fun k_ => some k_ ≠ (.slice (some ad125) x3_1.length co47 : Value).ownBlock ∧ some k_ ≠ (v136 : Value).ownBlock) (.slice A49 y138.length c49) y138 := (by rw [hA49, hc49, hy49]; exact hr49); have HE49 : Aside0 ((Value.slice A49 y138.length c49).ownBlock = (.slice (some ad126) x4_1.length co46 : Value).ownBlock) := ⟨by rw [hA49]; split <;> (cases ((some ad126) : Option Addr) <;> rfl)⟩; clear hy49 hi049 hsz49 HO_4 hA49 hc49; have HO140 := Aside0.mk hr49; clear hr49; replace q49 := eq_true q49; have n_ := Aside0.mk (Kd.Q_mono (ok' := fun k_ => (some k_ ≠ (.slice A49 y138.length c49 : Value).ownBlock ∧ some k_ ≠ (v136 : Value).ownBlock)) HO_3.out (fun k_ hk => ⟨(by rw [HE49.out]; exact hk.1), hk.2⟩)); clear HO_3; have HO_3 := n_; clear n_; have n_ := Aside0.mk (Kd.R_mono (ok' := fun k_ => (some k_ ≠ (.slice (some ad125) x3_1.length co47 : Value).ownBlock ∧ some k_ ≠ (.slice A49 y138.length c49 : Value).ownBlock)) HO137.out (fun k_ hk => ⟨hk.1, (by rw [HE49.out]; exact hk.2)⟩)); clear HO137; have HO137 := n_; clear n_))
                                repeat (go_quiet (first | ((with_reducible refine gate_builtin (b := .append) (xs := #[.tmp 58, .tmp 62]) rfl ?_); (try (refine gate_guard (by rfl) ?_; dsimp only)); at_builtin; refine Kd.R_append (Kd.int .i64) (w0 := w) w.heap.size rfl (.tmp 58) (.tmp 62) 22 3 (.int .i64 0) 8 rfl Try.underlying22 info3 rfl (by decide) (by omega) u5 x5_1 (rd x4_1 0) [.int .i64 (rd x4_1 0)] (fun k_ => some k_ ≠ (.slice (some ad125) x3_1.length co47 : Value).ownBlock ∧ some k_ ≠ (.slice (some ad126) x4_1.length co46 : Value).ownBlock) (fun _ => False) rfl rfl ?aP (fun _ hk => hk.elim) ?aF ?aO ?aB ?aS ?aL ?_; (case aP => exact rfl); (case aB => exact (zh HB)); (case aF => exact (fun k_ hk => ⟨Kd.fresh' (Kd.Q_lt (zq HO_3)) k_ hk, Kd.fresh' (Kd.Q_lt (zq HO_4)) k_ hk⟩)); (case aO => exact (zr HO_5)); (case aS => exact (below_size (zh HB))); (case aL => have := LMc44.out; omega); intro v136 w48 ho hb hg hat; rw [← Ny135.out] at ho; have n0_ := Aside0.mk (Kd.Q_after (ok := (fun k_ => some k_ ≠ (.slice (some ad126) x4_1.length co46 : Value).ownBlock)) (zq HO_3) hg hat); have n1_ := Aside0.mk (Kd.Q_after (ok := (fun k_ => some k_ ≠ (.slice (some ad125) x3_1.length co47 : Value).ownBlock)) (zq HO_4) hg hat); have n2_ := Aside0.mk (hb); have n3_ := Aside0.mk (ho); clear HO_3; clear HO_4; clear HB; clear HO_5; have HO_3 := n0_; have HO_4 := n1_; have HB := n2_; have HO137 := n3_; clear n0_ n1_ n2_ n3_; clear ho hb hg hat; have q49 : (1 : Int) ≤ ((x4_1.length : Int) : Int) := of_decide_eq_true zas; obtain ⟨i049, hi049, _, hsz49, _⟩ := info_parts info3; have hcut49 := cut_from (P := Try.prog) 22 3 .i64 Try.underlying22 hi049 1 hsz49 (some ad126) x4_1.length co46 1 (by omega) q49; have hr49 := Kd.Q_drop (k := (1 : Int).toNat) HO_4.out (by omega); obtain ⟨A49, hA49⟩ : ∃ A1, A1 = (if co46 = (1 : Int).toNat then (some ad126) else ((some ad126) : Option Addr).map (·.add ((1 : Int).toNat * 1))) := ⟨_, rfl⟩; obtain ⟨c49, hc49⟩ : ∃ c1, c1 = co46 - (1 : Int).toNat := ⟨_, rfl⟩; have hy49 : y138.length = x4_1.length - (1 : Int).toNat := (by rw [Ny138.out, List.length_drop]); rw [← Ny138.out] at hr49; rw [← hy49, ← hA49, ← hc49] at hcut49; replace hr49 : Kd.Q (Kd.int .i64) 3 w48 w.heap.size (fun k_ => some k_ ≠ (.slice (some ad125) x3_1.length co47 : Value).ownBlock ∧ some k_ ≠ (v136 : Value).ownBlock) (.slice A49 y138.length c49) y138 := (by rw [hA49, hc49, hy49]; exact hr49); have HE49 : Aside0 ((Value.slice A49 y138.length c49).ownBlock = (.slice (some ad126) x4_1.length co46 : Value).ownBlock) := ⟨by rw [hA49]; split <;> (cases ((some ad126) : Option Addr) <;> rfl)⟩; clear hy49 hi049 hsz49 HO_4 hA49 hc49; have HO140 := Aside0.mk hr49; clear hr49; replace q49 := eq_true q49; have n_ := Aside0.mk (Kd.Q_mono (ok' := fun k_ => (some k_ ≠ (.slice A49 y138.length c49 : Value).ownBlock ∧ some k_ ≠ (v136 : Value).ownBlock)) HO_3.out (fun k_ hk => ⟨(by rw [HE49.out]; exact hk.1), hk.2⟩)); clear HO_3; have HO_3 := n_; clear n_; have n_ := Aside0.mk (Kd.R_mono (ok' := fun k_ => (some k_ ≠ (.slice (some ad125) x3_1.length co47 : Value).ownBlock ∧ some k_ ≠ (.slice A49 y138.length c49 : Value).ownBlock)) HO137.out (fun k_ hk => ⟨hk.1, (by rw [HE49.out]; exact hk.2)⟩)); clear HO137; have HO137 := n_; clear n_)); try go_wp2_with (first | ((with_reducible refine gate_builtin (b := .append) (xs := #[.tmp 58, .tmp 62]) rfl ?_); (try (refine gate_guard (by rfl) ?_; dsimp only)); at_builtin; refine Kd.R_append (Kd.int .i64) (w0 := w) w.heap.size rfl (.tmp 58) (.tmp 62) 22 3 (.int .i64 0) 8 rfl Try.underlying22 info3 rfl (by decide) (by omega) u5 x5_1 (rd x4_1 0) [.int .i64 (rd x4_1 0)] (fun k_ => some k_ ≠ (.slice (some ad125) x3_1.length co47 : Value).ownBlock ∧ some k_ ≠ (.slice (some ad126) x4_1.length co46 : Value).ownBlock) (fun _ => False) rfl rfl ?aP (fun _ hk => hk.elim) ?aF ?aO ?aB ?aS ?aL ?_; (case aP => exact rfl); (case aB => exact (zh HB)); (case aF => exact (fun k_ hk => ⟨Kd.fresh' (Kd.Q_lt (zq HO_3)) k_ hk, Kd.fresh' (Kd.Q_lt (zq HO_4)) k_ hk⟩)); (case aO => exact (zr HO_5)); (case aS => exact (below_size (zh HB))); (case aL => have := LMc44.out; omega); intro v136 w48 ho hb hg hat; rw [← Ny135.out] at ho; have n0_ := Aside0.mk (Kd.Q_after (ok := (fun k_ => some k_ ≠ (.slice (some ad126) x4_1.length co46 : Value).ownBlock)) (zq HO_3) hg hat); have n1_ := Aside0.mk (Kd.Q_after (ok := (fun k_ => some k_ ≠ (.slice (some ad125) x3_1.length co47 : Value).ownBlock)) (zq HO_4) hg hat); have n2_ := Aside0.mk (hb); have n3_ := Aside0.mk (ho); clear HO_3; clear HO_4; clear HB; clear HO_5; have HO_3 := n0_; have HO_4 := n1_; have HB := n2_; have HO137 := n3_; clear n0_ n1_ n2_ n3_; clear ho hb hg hat; have q49 : (1 : Int) ≤ ((x4_1.length : Int) : Int) := of_decide_eq_true zas; obtain ⟨i049, hi049, _, hsz49, _⟩ := info_parts info3; have hcut49 := cut_from (P := Try.prog) 22 3 .i64 Try.underlying22 hi049 1 hsz49 (some ad126) x4_1.length co46 1 (by omega) q49; have hr49 := Kd.Q_drop (k := (1 : Int).toNat) HO_4.out (by omega); obtain ⟨A49, hA49⟩ : ∃ A1, A1 = (if co46 = (1 : Int).toNat then (some ad126) else ((some ad126) : Option Addr).map (·.add ((1 : Int).toNat * 1))) := ⟨_, rfl⟩; obtain ⟨c49, hc49⟩ : ∃ c1, c1 = co46 - (1 : Int).toNat := ⟨_, rfl⟩; have hy49 : y138.length = x4_1.length - (1 : Int).toNat := (by rw [Ny138.out, List.length_drop]); rw [← Ny138.out] at hr49; rw [← hy49, ← hA49, ← hc49] at hcut49; replace hr49 : Kd.Q (Kd.int .i64) 3 w48 w.heap.size (fun k_ => some k_ ≠ (.slice (some ad125) x3_1.length co47 : Value).ownBlock ∧ some k_ ≠ (v136 : Value).ownBlock) (.slice A49 y138.length c49) y138 := (by rw [hA49, hc49, hy49]; exact hr49); have HE49 : Aside0 ((Value.slice A49 y138.length c49).ownBlock = (.slice (some ad126) x4_1.length co46 : Value).ownBlock) := ⟨by rw [hA49]; split <;> (cases ((some ad126) : Option Addr) <;> rfl)⟩; clear hy49 hi049 hsz49 HO_4 hA49 hc49; have HO140 := Aside0.mk hr49; clear hr49; replace q49 := eq_true q49; have n_ := Aside0.mk (Kd.Q_mono (ok' := fun k_ => (some k_ ≠ (.slice A49 y138.length c49 : Value).ownBlock ∧ some k_ ≠ (v136 : Value).ownBlock)) HO_3.out (fun k_ hk => ⟨(by rw [HE49.out]; exact hk.1), hk.2⟩)); clear HO_3; have HO_3 := n_; clear n_; have n_ := Aside0.mk (Kd.R_mono (ok' := fun k_ => (some k_ ≠ (.slice (some ad125) x3_1.length co47 : Value).ownBlock ∧ some k_ ≠ (.slice A49 y138.length c49 : Value).ownBlock)) HO137.out (fun k_ hk => ⟨hk.1, (by rw [HE49.out]; exact hk.2)⟩)); clear HO137; have HO137 := n_; clear n_)))
                                go_roundg kj19
                                case measure => have := HK1.out; have := HJ19.out; omega
                                case rel => exact ⟨(x3_1), (y138), (y135), H', ⟨by have := HK1.out; have := HJ19.out; omega⟩, ⟨zq HO_3⟩, ⟨zq HO140⟩, ⟨zr HO137⟩, ⟨zh HB⟩⟩
                              · rw [if_neg c45] at H
                                exact absurd H (by simp)
                            · rw [if_neg c44] at H
                              exact absurd H (by simp)
                        · rw [if_neg c36] at H
                          exact absurd H (by simp)
                      · rw [if_neg c35] at H
                        exact absurd H (by simp)
                    · rw [if_neg c34] at H
                      have c34b0 : decide (0 < (x3_1.length : Int)) = false := decide_eq_false c34
                      have c34b1 : decide (0 < x3_1.length) = false := decide_eq_false (by omega)
                      clear c34
                      by_cases c50 : 0 < (x4_1.length : Int)
                      · rw [if_pos c50] at H
                        have c50b0 : decide (0 < (x4_1.length : Int)) = true := decide_eq_true c50
                        have c50b1 : decide (0 < x4_1.length) = true := decide_eq_true (by omega)
                        clear c50
                        by_cases c51 : x5_1.length < 17592186044416
                        · rw [if_pos c51] at H
                          have LMc51 := Aside0.mk c51
                          clear c51
                          obtain ⟨y142, hy142⟩ : ∃ y_ : List Int, y_ = (x5_1 ++ [rd x4_1 0]) := ⟨_, rfl⟩
                          replace H : (if 1 ≤ (x4_1.length : Int) then (spec_l17Sort.l0 kj19 x3_1 (x4_1.drop (1 : Int).toNat) y142) else (none)) = some r := by first | (rw [hy142]; with_reducible exact H) | (have H2_ := (Option.bind_some _ _).symm.trans H; rw [hy142]; with_reducible exact H2_) | (have H2_ := (Option.bind_some _ _).symm.trans H; with_reducible exact H2_) | with_reducible exact H | (rw [hy142]; exact H) | exact H
                          have Ny142 := Aside0.mk hy142
                          clear hy142
                          by_cases c52 : 1 ≤ (x4_1.length : Int)
                          · rw [if_pos c52] at H
                            have c52b0 := eq_true c52
                            have c52b1 : decide (1 ≤ (x4_1.length : Int)) = true := decide_eq_true c52
                            clear c52
                            obtain ⟨y145, hy145⟩ : ∃ y_ : List Int, y_ = (x4_1.drop (1 : Int).toNat) := ⟨_, rfl⟩
                            replace H : (spec_l17Sort.l0 kj19 x3_1 y145 y142) = some r := by first | (rw [hy145]; with_reducible exact H) | (have H2_ := (Option.bind_some _ _).symm.trans H; rw [hy145]; with_reducible exact H2_) | (have H2_ := (Option.bind_some _ _).symm.trans H; with_reducible exact H2_) | with_reducible exact H | (rw [hy145]; exact H) | exact H
                            have Ny145 := Aside0.mk hy145
                            clear hy145
                            have H' := Aside0.mk H
                            clear H
                            obtain ⟨Ao53, co53, eo53, _⟩ := Kd.Q_slice HO_4.out
                            subst eo53
                            obtain ⟨Ao54, co54, eo54, _⟩ := Kd.Q_slice HO_3.out
                            subst eo54
                            have p141 : 0 ≤ (0 : Int) := (by omega)
                            have q141 : 0 < (x4_1.length : Int) := of_decide_eq_true zas
                            obtain ⟨ad141, e141, hx141_0⟩ := Kd.at_int (Kd.Q_reads' HO_4.out).2.2 0 p141 q141
                            cases e141
                            have qi141 : (0 < x4_1.length) = True := eq_true (by omega)
                            (try rw [show ((0 : Int)).toNat = 0 from rfl] at hx141_0)
                            (try rw [Addr.add_zero'] at hx141_0)
                            replace p141 := eq_true p141
                            replace q141 := eq_true q141
                            go_wp2_with (first | ((with_reducible refine gate_builtin (b := .append) (xs := #[.tmp 58, .tmp 62]) rfl ?_); (try (refine gate_guard (by rfl) ?_; dsimp only)); at_builtin; refine Kd.R_append (Kd.int .i64) (w0 := w) w.heap.size rfl (.tmp 58) (.tmp 62) 22 3 (.int .i64 0) 8 rfl Try.underlying22 info3 rfl (by decide) (by omega) u5 x5_1 (rd x4_1 0) [.int .i64 (rd x4_1 0)] (fun k_ => some k_ ≠ (.slice Ao54 x3_1.length co54 : Value).ownBlock ∧ some k_ ≠ (.slice (some ad141) x4_1.length co53 : Value).ownBlock) (fun _ => False) rfl rfl ?aP (fun _ hk => hk.elim) ?aF ?aO ?aB ?aS ?aL ?_; (case aP => exact rfl); (case aB => exact (zh HB)); (case aF => exact (fun k_ hk => ⟨Kd.fresh' (Kd.Q_lt (zq HO_3)) k_ hk, Kd.fresh' (Kd.Q_lt (zq HO_4)) k_ hk⟩)); (case aO => exact (zr HO_5)); (case aS => exact (below_size (zh HB))); (case aL => have := LMc51.out; omega); intro v143 w55 ho hb hg hat; rw [← Ny142.out] at ho; have n0_ := Aside0.mk (Kd.Q_after (ok := (fun k_ => some k_ ≠ (.slice (some ad141) x4_1.length co53 : Value).ownBlock)) (zq HO_3) hg hat); have n1_ := Aside0.mk (Kd.Q_after (ok := (fun k_ => some k_ ≠ (.slice Ao54 x3_1.length co54 : Value).ownBlock)) (zq HO_4) hg hat); have n2_ := Aside0.mk (hb); have n3_ := Aside0.mk (ho); clear HO_3; clear HO_4; clear HB; clear HO_5; have HO_3 := n0_; have HO_4 := n1_; have HB := n2_; have HO144 := n3_; clear n0_ n1_ n2_ n3_; clear ho hb hg hat; have q56 : (1 : Int) ≤ ((x4_1.length : Int) : Int) := of_decide_eq_true zas; obtain ⟨i056, hi056, _, hsz56, _⟩ := info_parts info3; have hcut56 := cut_from (P := Try.prog) 22 3 .i64 Try.underlying22 hi056 1 hsz56 (some ad141) x4_1.length co53 1 (by omega) q56; have hr56 := Kd.Q_drop (k := (1 : Int).toNat) HO_4.out (by omega); obtain ⟨A56, hA56⟩ : ∃ A1, A1 = (if co53 = (1 : Int).toNat then (some ad141) else ((some ad141) : Option Addr).map (·.add ((1 : Int).toNat * 1))) := ⟨_, rfl⟩; obtain ⟨c56, hc56⟩ : ∃ c1, c1 = co53 - (1 : Int).toNat := ⟨_, rfl⟩; have hy56 : y145.length = x4_1.length - (1 : Int).toNat := (by rw [Ny145.out, List.length_drop]); rw [← Ny145.out] at hr56; rw [← hy56, ← hA56, ← hc56] at hcut56; replace hr56 : Kd.Q (Kd.int .i64) 3 w55 w.heap.size (fun k_ => some k_ ≠ (.slice Ao54 x3_1.length co54 : Value).ownBlock ∧ some k_ ≠ (v143 : Value).ownBlock) (.slice A56 y145.length c56) y145 := (by rw [hA56, hc56, hy56]; exact hr56); have HE56 : Aside0 ((Value.slice A56 y145.length c56).ownBlock = (.slice (some ad141) x4_1.length co53 : Value).ownBlock) := ⟨by rw [hA56]; split <;> (cases ((some ad141) : Option Addr) <;> rfl)⟩; clear hy56 hi056 hsz56 HO_4 hA56 hc56; have HO147 := Aside0.mk hr56; clear hr56; replace q56 := eq_true q56; have n_ := Aside0.mk (Kd.Q_mono (ok' := fun k_ => (some k_ ≠ (.slice A56 y145.length c56 : Value).ownBlock ∧ some k_ ≠ (v143 : Value).ownBlock)) HO_3.out (fun k_ hk => ⟨(by rw [HE56.out]; exact hk.1), hk.2⟩)); clear HO_3; have HO_3 := n_; clear n_; have n_ := Aside0.mk (Kd.R_mono (ok' := fun k_ => (some k_ ≠ (.slice Ao54 x3_1.length co54 : Value).ownBlock ∧ some k_ ≠ (.slice A56 y145.length c56 : Value).ownBlock)) HO144.out (fun k_ hk => ⟨hk.1, (by rw [HE56.out]; exact hk.2)⟩)); clear HO144; have HO144 := n_; clear n_))
                            repeat (go_quiet (first | ((with_reducible refine gate_builtin (b := .append) (xs := #[.tmp 58, .tmp 62]) rfl ?_); (try (refine gate_guard (by rfl) ?_; dsimp only)); at_builtin; refine Kd.R_append (Kd.int .i64) (w0 := w) w.heap.size rfl (.tmp 58) (.tmp 62) 22 3 (.int .i64 0) 8 rfl Try.underlying22 info3 rfl (by decide) (by omega) u5 x5_1 (rd x4_1 0) [.int .i64 (rd x4_1 0)] (fun k_ => some k_ ≠ (.slice Ao54 x3_1.length co54 : Value).ownBlock ∧ some k_ ≠ (.slice (some ad141) x4_1.length co53 : Value).ownBlock) (fun _ => False) rfl rfl ?aP (fun _ hk => hk.elim) ?aF ?aO ?aB ?aS ?aL ?_; (case aP => exact rfl); (case aB => exact (zh HB)); (case aF => exact (fun k_ hk => ⟨Kd.fresh' (Kd.Q_lt (zq HO_3)) k_ hk, Kd.fresh' (Kd.Q_lt (zq HO_4)) k_ hk⟩)); (case aO => exact (zr HO_5)); (case aS => exact (below_size (zh HB))); (case aL => have := LMc51.out; omega); intro v143 w55 ho hb hg hat; rw [← Ny142.out] at ho; have n0_ := Aside0.mk (Kd.Q_after (ok := (fun k_ => some k_ ≠ (.slice (some ad141) x4_1.length co53 : Value).ownBlock)) (zq HO_3) hg hat); have n1_ := Aside0.mk (Kd.Q_after (ok := (fun k_ => some k_ ≠ (.slice Ao54 x3_1.length co54 : Value).ownBlock)) (zq HO_4) hg hat); have n2_ := Aside0.mk (hb); have n3_ := Aside0.mk (ho); clear HO_3; clear HO_4; clear HB; clear HO_5; have HO_3 := n0_; have HO_4 := n1_; have HB := n2_; have HO144 := n3_; clear n0_ n1_ n2_ n3_; clear ho hb hg hat; have q56 : (1 : Int) ≤ ((x4_1.length : Int) : Int) := of_decide_eq_true zas; obtain ⟨i056, hi056, _, hsz56, _⟩ := info_parts info3; have hcut56 := cut_from (P := Try.prog) 22 3 .i64 Try.underlying22 hi056 1 hsz56 (some ad141) x4_1.length co53 1 (by omega) q56; have hr56 := Kd.Q_drop (k := (1 : Int).toNat) HO_4.out (by omega); obtain ⟨A56, hA56⟩ : ∃ A1, A1 = (if co53 = (1 : Int).toNat then (some ad141) else ((some ad141) : Option Addr).map (·.add ((1 : Int).toNat * 1))) := ⟨_, rfl⟩; obtain ⟨c56, hc56⟩ : ∃ c1, c1 = co53 - (1 : Int).toNat := ⟨_, rfl⟩; have hy56 : y145.length = x4_1.length - (1 : Int).toNat := (by rw [Ny145.out, List.length_drop]); rw [← Ny145.out] at hr56; rw [← hy56, ← hA56, ← hc56] at hcut56; replace hr56 : Kd.Q (Kd.int .i64) 3 w55 w.heap.size (fun k_ => some k_ ≠ (.slice Ao54 x3_1.length co54 : Value).ownBlock ∧ some k_ ≠ (v143 : Value).ownBlock) (.slice A56 y145.length c56) y145 := (by rw [hA56, hc56, hy56]; exact hr56); have HE56 : Aside0 ((Value.slice A56 y145.length c56).ownBlock = (.slice (some ad141) x4_1.length co53 : Value).ownBlock) := ⟨by rw [hA56]; split <;> (cases ((some ad141) : Option Addr) <;> rfl)⟩; clear hy56 hi056 hsz56 HO_4 hA56 hc56; have HO147 := Aside0.mk hr56; clear hr56; replace q56 := eq_true q56; have n_ := Aside0.mk (Kd.Q_mono (ok' := fun k_ => (some k_ ≠ (.slice A56 y145.length c56 : Value).ownBlock ∧ some k_ ≠ (v143 : Value).ownBlock)) HO_3.out (fun k_ hk => ⟨(by rw [HE56.out]; exact hk.1), hk.2⟩)); clear HO_3; have HO_3 := n_; clear n_; have n_ := Aside0.mk (Kd.R_mono (ok' := fun k_ => (some k_ ≠ (.slice Ao54 x3_1.length co54 : Value).ownBlock ∧ some k_ ≠ (.slice A56 y145.length c56 : Value).ownBlock)) HO144.out (fun k_ hk => ⟨hk.1, (by rw [HE56.out]; exact hk.2)⟩)); clear HO144; have HO144 := n_; clear n_)); try go_wp2_with (first | ((with_reducible refine gate_builtin (b := .append) (xs := #[.tmp 58, .tmp 62]) rfl ?_); (try (refine gate_guard (by rfl) ?_; dsimp only)); at_builtin; refine Kd.R_append (Kd.int .i64) (w0 := w) w.heap.size rfl (.tmp 58) (.tmp 62) 22 3 (.int .i64 0) 8 rfl Try.underlying22 info3 rfl (by decide) (by omega) u5 x5_1 (rd x4_1 0) [.int .i64 (rd x4_1 0)] (fun k_ => some k_ ≠ (.slice Ao54 x3_1.length co54 : Value).ownBlock ∧ some k_ ≠ (.slice (some ad141) x4_1.length co53 : Value).ownBlock) (fun _ => False) rfl rfl ?aP (fun _ hk => hk.elim) ?aF ?aO ?aB ?aS ?aL ?_; (case aP => exact rfl); (case aB => exact (zh HB)); (case aF => exact (fun k_ hk => ⟨Kd.fresh' (Kd.Q_lt (zq HO_3)) k_ hk, Kd.fresh' (Kd.Q_lt (zq HO_4)) k_ hk⟩)); (case aO => exact (zr HO_5)); (case aS => exact (below_size (zh HB))); (case aL => have := LMc51.out; omega); intro v143 w55 ho hb hg hat; rw [← Ny142.out] at ho; have n0_ := Aside0.mk (Kd.Q_after (ok := (fun k_ => some k_ ≠ (.slice (some ad141) x4_1.length co53 : Value).ownBlock)) (zq HO_3) hg hat); have n1_ := Aside0.mk (Kd.Q_after (ok := (fun k_ => some k_ ≠ (.slice Ao54 x3_1.length co54 : Value).ownBlock)) (zq HO_4) hg hat); have n2_ := Aside0.mk (hb); have n3_ := Aside0.mk (ho); clear HO_3; clear HO_4; clear HB; clear HO_5; have HO_3 := n0_; have HO_4 := n1_; have HB := n2_; have HO144 := n3_; clear n0_ n1_ n2_ n3_; clear ho hb hg hat; have q56 : (1 : Int) ≤ ((x4_1.length : Int) : Int) := of_decide_eq_true zas; obtain ⟨i056, hi056, _, hsz56, _⟩ := info_parts info3; have hcut56 := cut_from (P := Try.prog) 22 3 .i64 Try.underlying22 hi056 1 hsz56 (some ad141) x4_1.length co53 1 (by omega) q56; have hr56 := Kd.Q_drop (k := (1 : Int).toNat) HO_4.out (by omega); obtain ⟨A56, hA56⟩ : ∃ A1, A1 = (if co53 = (1 : Int).toNat then (some ad141) else ((some ad141) : Option Addr).map (·.add ((1 : Int).toNat * 1))) := ⟨_, rfl⟩; obtain ⟨c56, hc56⟩ : ∃ c1, c1 = co53 - (1 : Int).toNat := ⟨_, rfl⟩; have hy56 : y145.length = x4_1.length - (1 : Int).toNat := (by rw [Ny145.out, List.length_drop]); rw [← Ny145.out] at hr56; rw [← hy56, ← hA56, ← hc56] at hcut56; replace hr56 : Kd.Q (Kd.int .i64) 3 w55 w.heap.size (fun k_ => some k_ ≠ (.slice Ao54 x3_1.length co54 : Value).ownBlock ∧ some k_ ≠ (v143 : Value).ownBlock) (.slice A56 y145.length c56) y145 := (by rw [hA56, hc56, hy56]; exact hr56); have HE56 : Aside0 ((Value.slice A56 y145.length c56).ownBlock = (.slice (some ad141) x4_1.length co53 : Value).ownBlock) := ⟨by rw [hA56]; split <;> (cases ((some ad141) : Option Addr) <;> rfl)⟩; clear hy56 hi056 hsz56 HO_4 hA56 hc56; have HO147 := Aside0.mk hr56; clear hr56; replace q56 := eq_true q56; have n_ := Aside0.mk (Kd.Q_mono (ok' := fun k_ => (some k_ ≠ (.slice A56 y145.length c56 : Value).ownBlock ∧ some k_ ≠ (v143 : Value).ownBlock)) HO_3.out (fun k_ hk => ⟨(by rw [HE56.out]; exact hk.1), hk.2⟩)); clear HO_3; have HO_3 := n_; clear n_; have n_ := Aside0.mk (Kd.R_mono (ok' := fun k_ => (some k_ ≠ (.slice Ao54 x3_1.length co54 : Value).ownBlock ∧ some k_ ≠ (.slice A56 y145.length c56 : Value).ownBlock)) HO144.out (fun k_ hk => ⟨hk.1, (by rw [HE56.out]; exact hk.2)⟩)); clear HO144; have HO144 := n_; clear n_)))
                            go_roundg kj19
                            case measure => have := HK1.out; have := HJ19.out; omega
                            case rel => exact ⟨(x3_1), (y145), (y142), H', ⟨by have := HK1.out; have := HJ19.out; omega⟩, ⟨zq HO_3⟩, ⟨zq HO147⟩, ⟨zr HO144⟩, ⟨zh HB⟩⟩
                          · rw [if_neg c52] at H
                            exact absurd H (by simp)
                        · rw [if_neg c51] at H
                          exact absurd H (by simp)
                      · rw [if_neg c50] at H
                        exact absurd H (by simp)
                · replace c25 := Bool.eq_false_iff.mpr c25
                  subst c25
                  have H1 : (some x5_1) = some r := by rw [if_neg (show ¬ (false = true) by decide)] at H; exact H
                  clear H
                  have H := H1
                  clear H1
                  obtain rfl := Option.some.inj H
                  go_wp2
                  repeat (go_quiet (fail); try go_wp2)
                  go_ret
                  exact ⟨_, by first | rfl | (simp [errW_none, errW_some] <;> rfl) | (simp only [← hji7]; first | rfl | (simp [errW_none, errW_some] <;> rfl)) | (simp [*, errW_none, errW_some] <;> rfl), Kd.R_mono (zr HO_5) (fun _ hk => trivial), zh HB⟩
      · rw [if_neg c9] at H
        exact absurd H (by simp)
    · rw [if_neg c8] at H
      exact absurd H (by simp)

end Go.Proofs.Ytchoncnahlcfjaa.XFnDigest
