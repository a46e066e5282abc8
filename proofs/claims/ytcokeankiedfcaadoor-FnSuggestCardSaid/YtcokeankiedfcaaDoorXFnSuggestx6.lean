-- A printed text of this session (wip/x/xprint.py).
import Derived.Test.YtcokeankiedfcaaDoorXFnSuggestx0
namespace Go.Proofs.YtcokeankiedfcaaDoor.XFnSuggest
open Go.RowKit Go.Proofs.YtcokeankiedfcaaDoorW.PrintWords Go.Proofs.YtcokeankiedfcaaDoorW.PrintLast Go.Proofs.YtcokeankiedfcaaDoorW.PrintMore
attribute [local go_sem] leq_str max2_int min2_int max_two min_two max_three min_three max_four min_four   -- for this text's walks alone
set_option linter.unusedVariables false
set_option linter.unusedSimpArgs false

/-! ### spec_l07Names: function 91 -/
mutual
def spec_l07Names.l0 : Nat → List ByteArray → List ByteArray → List ByteArray → Option (List ByteArray)
 | 0, _, _, _ => none
 | k + 1, x3, x4, x5 => if (x3.length : Int) > 0 then (spec_l07Names.j1 k x3 x4 x5 true) else (spec_l07Names.j1 k x3 x4 x5 (decide ((x4.length : Int) > 0)))
def spec_l07Names.j1 : Nat → List ByteArray → List ByteArray → List ByteArray → Bool → Option (List ByteArray)
 | 0, _, _, _, _ => none
 | k + 1, x3, x4, x5, x33 => if x33 = true then (if (x4.length : Int) = 0 then (spec_l07Names.j2 k x3 x4 x5 true) else (if (x3.length : Int) > 0 then (if 0 < (x3.length : Int) then (if 0 < (x4.length : Int) then (spec_l07Names.j2 k x3 x4 x5 (!(Op.bytesLess ((rdOf ByteArray.empty x4 0).toList) ((rdOf ByteArray.empty x3 0).toList)))) else (none)) else (none)) else (spec_l07Names.j2 k x3 x4 x5 false))) else (some x5)
def spec_l07Names.j2 : Nat → List ByteArray → List ByteArray → List ByteArray → Bool → Option (List ByteArray)
 | 0, _, _, _, _ => none
 | k + 1, x3, x4, x5, x50 => if x50 = true then (if 0 < (x3.length : Int) then (if 1 ≤ (x3.length : Int) then (spec_l07Names.j3 k (x3.drop (1 : Int).toNat) x4 x5 (rdOf ByteArray.empty x3 0)) else (none)) else (none)) else (if 0 < (x4.length : Int) then (if 1 ≤ (x4.length : Int) then (spec_l07Names.j3 k x3 (x4.drop (1 : Int).toNat) x5 (rdOf ByteArray.empty x4 0)) else (none)) else (none))
def spec_l07Names.j3 : Nat → List ByteArray → List ByteArray → List ByteArray → ByteArray → Option (List ByteArray)
 | 0, _, _, _, _ => none
 | k + 1, x3, x4, x5, x6 => if (x5.length : Int) = 0 then (if x5.length < 8796093022208 then (spec_l07Names.l0 k x3 x4 (x5 ++ [x6])) else (none)) else (if 0 ≤ (wrap64 ((x5.length : Int) - 1)) then (if (wrap64 ((x5.length : Int) - 1)) < (x5.length : Int) then (if (rdOf ByteArray.empty x5 (wrap64 ((x5.length : Int) - 1))).toList = x6.toList then (spec_l07Names.l0 k x3 x4 x5) else (if x5.length < 8796093022208 then (spec_l07Names.l0 k x3 x4 (x5 ++ [x6])) else (none))) else (none)) else (none))
def spec_l07Names.f : Nat → List ByteArray → Option (List ByteArray)
 | 0, _ => none
 | k + 1, l0 => if (l0.length : Int) < 2 then ((some (([] : List ByteArray) : List ByteArray)).bind fun y197 => (if y197.length + l0.length < 8796093022208 then (some (y197 ++ l0)) else (none))) else (if 0 ≤ (wrap64 ((l0.length : Int) / 2)) then (if (wrap64 ((l0.length : Int) / 2)) ≤ (l0.length : Int) then ((spec_l07Names.f k (l0.take ((wrap64 ((l0.length : Int) / 2)) : Int).toNat)).bind fun t204 => ((spec_l07Names.f k (l0.drop ((wrap64 ((l0.length : Int) / 2)) : Int).toNat)).bind fun t208 => (spec_l07Names.l0 k t204 t208 (([] : List ByteArray))))) else (none)) else (none))
end
theorem spec_l07Names.mono_l : ∀ k, (∀ y0, LeO (spec_l07Names.f k y0) (spec_l07Names.f (k + 1) y0)) ∧ (∀ y0 y1 y2, LeO (spec_l07Names.l0 k y0 y1 y2) (spec_l07Names.l0 (k + 1) y0 y1 y2)) ∧ (∀ y0 y1 y2 y3, LeO (spec_l07Names.j1 k y0 y1 y2 y3) (spec_l07Names.j1 (k + 1) y0 y1 y2 y3)) ∧ (∀ y0 y1 y2 y3, LeO (spec_l07Names.j2 k y0 y1 y2 y3) (spec_l07Names.j2 (k + 1) y0 y1 y2 y3)) ∧ (∀ y0 y1 y2 y3, LeO (spec_l07Names.j3 k y0 y1 y2 y3) (spec_l07Names.j3 (k + 1) y0 y1 y2 y3))
 | 0 => ⟨fun _ r h => by simp [spec_l07Names.f] at h, fun _ _ _ r h => by simp [spec_l07Names.l0] at h, fun _ _ _ _ r h => by simp [spec_l07Names.j1] at h, fun _ _ _ _ r h => by simp [spec_l07Names.j2] at h, fun _ _ _ _ r h => by simp [spec_l07Names.j3] at h⟩
 | k + 1 => by
  obtain ⟨ih0, ih1, ih2, ih3, ih4⟩ := spec_l07Names.mono_l k
  refine ⟨?_, ?_, ?_, ?_, ?_⟩
  all_goals intros
  all_goals first | unfold spec_l07Names.f | unfold spec_l07Names.l0 | unfold spec_l07Names.j1 | unfold spec_l07Names.j2 | unfold spec_l07Names.j3
  all_goals
   repeat' first
   | (with_reducible exact ih0 _)
   | (with_reducible exact ih1 _ _ _)
   | (with_reducible exact ih2 _ _ _ _)
   | (with_reducible exact ih3 _ _ _ _)
   | (with_reducible exact ih4 _ _ _ _)
   | (with_reducible exact LeO.refl _)
   | (with_reducible exact LeO.none _)
   | (with_reducible refine LeO.ite ?_ ?_)
   | (with_reducible refine LeO.bind ?_ (fun _ => ?_))
theorem spec_l07Names.mono : ∀ a0 k, LeO (spec_l07Names.f k a0) (spec_l07Names.f (k + 1) a0) := by
 intro a0 k
 obtain ⟨ih0, ih1, ih2, ih3, ih4⟩ := spec_l07Names.mono_l k
 exact ih0 a0
set_option maxHeartbeats 8000000 in
set_option maxRecDepth 100000 in
theorem spec_l07Names.calls (k : Nat) : ∀ (A0 : Option Addr) (c0 : Nat) (l0 : List ByteArray) (r : List ByteArray) (w : World) (hr0 : Kd.C Kd.string w A0 l0.length l0) (hc0 : l0.length ≤ c0) (h : spec_l07Names.f k l0 = some r),
 Calls Tryd.prog 91 #[.slice A0 l0.length c0] w fun e w' => ∃ v0_ : Value, e = .returned (v0_) ∧ Kd.R Kd.string 9 w' w.heap.size (fun _ => True) v0_ r ∧ Below w.heap.size w w' := by
 induction k using Nat.strongRecOn with
 | _ k ih =>
 intro A0 c0 l0 r w hr0 hc0 h
 cases k with
 | zero => exact absurd h (by simp [spec_l07Names.f])
 | succ k =>
 simp only [spec_l07Names.f] at h
 have HR0 := Aside0.mk hr0
 have HC0 := Aside0.mk hc0
 clear hr0 hc0
 have HB := Aside0.mk (Below.refl w.heap.size w)
 have H : (if (l0.length : Int) < 2 then ((some (([] : List ByteArray) : List ByteArray)).bind fun y197 => (if y197.length + l0.length < 8796093022208 then (some (y197 ++ l0)) else (none))) else (if 0 ≤ (wrap64 ((l0.length : Int) / 2)) then (if (wrap64 ((l0.length : Int) / 2)) ≤ (l0.length : Int) then ((spec_l07Names.f k (l0.take ((wrap64 ((l0.length : Int) / 2)) : Int).toNat)).bind fun t204 => ((spec_l07Names.f k (l0.drop ((wrap64 ((l0.length : Int) / 2)) : Int).toNat)).bind fun t208 => (spec_l07Names.l0 k t204 t208 (([] : List ByteArray))))) else (none)) else (none))) = some r := h
 clear h
 by_cases c2 : (l0.length : Int) < 2
 ·rw [if_pos c2] at H
  have c2b0 : decide ((l0.length : Int) < 2) = true := decide_eq_true c2
  have c2b1 : decide (l0.length < 2) = true := decide_eq_true (by omega)
  clear c2
  obtain ⟨y197, hy197⟩ : ∃ y_ : List ByteArray, y_ = (([] : List ByteArray)) := ⟨_, rfl⟩
  replace H : (if y197.length + l0.length < 8796093022208 then (some (y197 ++ l0)) else (none)) = some r := zby hy197 H
  have Ny197 := Aside0.mk hy197
  clear hy197
  by_cases c3 : y197.length + l0.length < 8796093022208
  rotate_left
  ·rw [if_neg c3] at H
   exact absurd H (by simp)
  rw [if_pos c3] at H
  have LMc3 := Aside0.mk c3
  clear c3
  obtain ⟨y200, hy200⟩ : ∃ y_ : List ByteArray, y_ = (y197 ++ l0) := ⟨_, rfl⟩
  replace H : (some y200) = some r := zby hy200 H
  have Ny200 := Aside0.mk hy200
  clear hy200
  obtain rfl := Option.some.inj H
  go_enter Tryd.func91, Tryd.ntmps91
  go_wp2_with (first | ((with_reducible refine gate_dst (N := 10) rfl ?_); (try (refine gate_guard (by rfl) ?_; dsimp only)); refine Kd.R_lit Kd.string _ 9 ?hg (N := 10) ?hd (xs := ([] : List ByteArray)) (inner := []) (ok := fun _ => True) (okp := fun _ => True) ?hr ?hp (fun _ hk => hk) trivial (Below.refl _ _) (Nat.le_refl _) (by simp) ?_; (case hd => rfl); (case hg => rfl); (case hr => first | (go_simp; done) | (go_simp; rfl)); (case hp => exact (Reps.none _ _)); intro v198 w4 ho5 hb hg_ hnew_; clear hg_ hnew_; (first | rw [← Ny197.out] at ho5 | (simp only [Int.reduceToNat] at ho5; rw [← Ny197.out] at ho5)); have HO199 := Aside0.mk (Kd.R_lower ho5 (below_size (zh HB))); replace HB := Aside0.mk (below_step (zh HB) hb); clear hb ho5) | ((with_reducible refine gate_builtin (b := .append) (xs := #[.tmp 10, .tmp 11]) rfl ?_); (try (refine gate_guard (by rfl) ?_; dsimp only)); at_builtin; refine Kd.R_append_rows Kd.string (w0 := w) w.heap.size rfl (.tmp 10) (.tmp 11) 39 9 (.string ⟨#[]⟩) 16 rfl Tryd.underlying39 info9 rfl (by decide) (by omega) v198 y197 l0 _ _ _ (fun _ => True) (fun _ => False) rfl rfl ?aO ?aR (fun _ _ h => h) (fun _ h => h.elim) ?aF ?aB ?aS ?aL ?_; (case aR => repeat (first | exact (Kd.C_below HR0.out HB.out) | (with_reducible refine Kd.C_alloc ?_ _) | (with_reducible refine Kd.C_drewN ?_ _) | (with_reducible refine Kd.C_drew ?_))); (case aB => exact (zh HB)); (case aF => exact (fun _ _ => trivial)); (case aO => exact (zr HO199)); (case aS => exact (below_size (zh HB))); (case aL => have := LMc3.out; omega); intro v201 w6 ho hb hg hat; rw [← Ny200.out] at ho; replace HB := Aside0.mk (hb); have HO202 := Aside0.mk (ho); clear HO199; clear ho hb hg hat))
  repeat (go_quiet (first | ((with_reducible refine gate_dst (N := 10) rfl ?_); (try (refine gate_guard (by rfl) ?_; dsimp only)); refine Kd.R_lit Kd.string _ 9 ?hg (N := 10) ?hd (xs := ([] : List ByteArray)) (inner := []) (ok := fun _ => True) (okp := fun _ => True) ?hr ?hp (fun _ hk => hk) trivial (Below.refl _ _) (Nat.le_refl _) (by simp) ?_; (case hd => rfl); (case hg => rfl); (case hr => first | (go_simp; done) | (go_simp; rfl)); (case hp => exact (Reps.none _ _)); intro v198 w4 ho5 hb hg_ hnew_; clear hg_ hnew_; (first | rw [← Ny197.out] at ho5 | (simp only [Int.reduceToNat] at ho5; rw [← Ny197.out] at ho5)); have HO199 := Aside0.mk (Kd.R_lower ho5 (below_size (zh HB))); replace HB := Aside0.mk (below_step (zh HB) hb); clear hb ho5) | ((with_reducible refine gate_builtin (b := .append) (xs := #[.tmp 10, .tmp 11]) rfl ?_); (try (refine gate_guard (by rfl) ?_; dsimp only)); at_builtin; refine Kd.R_append_rows Kd.string (w0 := w) w.heap.size rfl (.tmp 10) (.tmp 11) 39 9 (.string ⟨#[]⟩) 16 rfl Tryd.underlying39 info9 rfl (by decide) (by omega) v198 y197 l0 _ _ _ (fun _ => True) (fun _ => False) rfl rfl ?aO ?aR (fun _ _ h => h) (fun _ h => h.elim) ?aF ?aB ?aS ?aL ?_; (case aR => repeat (first | exact (Kd.C_below HR0.out HB.out) | (with_reducible refine Kd.C_alloc ?_ _) | (with_reducible refine Kd.C_drewN ?_ _) | (with_reducible refine Kd.C_drew ?_))); (case aB => exact (zh HB)); (case aF => exact (fun _ _ => trivial)); (case aO => exact (zr HO199)); (case aS => exact (below_size (zh HB))); (case aL => have := LMc3.out; omega); intro v201 w6 ho hb hg hat; rw [← Ny200.out] at ho; replace HB := Aside0.mk (hb); have HO202 := Aside0.mk (ho); clear HO199; clear ho hb hg hat)); try go_wp2_with (first | ((with_reducible refine gate_dst (N := 10) rfl ?_); (try (refine gate_guard (by rfl) ?_; dsimp only)); refine Kd.R_lit Kd.string _ 9 ?hg (N := 10) ?hd (xs := ([] : List ByteArray)) (inner := []) (ok := fun _ => True) (okp := fun _ => True) ?hr ?hp (fun _ hk => hk) trivial (Below.refl _ _) (Nat.le_refl _) (by simp) ?_; (case hd => rfl); (case hg => rfl); (case hr => first | (go_simp; done) | (go_simp; rfl)); (case hp => exact (Reps.none _ _)); intro v198 w4 ho5 hb hg_ hnew_; clear hg_ hnew_; (first | rw [← Ny197.out] at ho5 | (simp only [Int.reduceToNat] at ho5; rw [← Ny197.out] at ho5)); have HO199 := Aside0.mk (Kd.R_lower ho5 (below_size (zh HB))); replace HB := Aside0.mk (below_step (zh HB) hb); clear hb ho5) | ((with_reducible refine gate_builtin (b := .append) (xs := #[.tmp 10, .tmp 11]) rfl ?_); (try (refine gate_guard (by rfl) ?_; dsimp only)); at_builtin; refine Kd.R_append_rows Kd.string (w0 := w) w.heap.size rfl (.tmp 10) (.tmp 11) 39 9 (.string ⟨#[]⟩) 16 rfl Tryd.underlying39 info9 rfl (by decide) (by omega) v198 y197 l0 _ _ _ (fun _ => True) (fun _ => False) rfl rfl ?aO ?aR (fun _ _ h => h) (fun _ h => h.elim) ?aF ?aB ?aS ?aL ?_; (case aR => repeat (first | exact (Kd.C_below HR0.out HB.out) | (with_reducible refine Kd.C_alloc ?_ _) | (with_reducible refine Kd.C_drewN ?_ _) | (with_reducible refine Kd.C_drew ?_))); (case aB => exact (zh HB)); (case aF => exact (fun _ _ => trivial)); (case aO => exact (zr HO199)); (case aS => exact (below_size (zh HB))); (case aL => have := LMc3.out; omega); intro v201 w6 ho hb hg hat; rw [← Ny200.out] at ho; replace HB := Aside0.mk (hb); have HO202 := Aside0.mk (ho); clear HO199; clear ho hb hg hat)))
  go_ret
  exact ⟨_, zre, by (with_reducible repeat (first | apply Kd.R_alloc | apply Kd.R_drewN | apply Kd.R_drew)); exact HO202.out, zh HB⟩
 rw [if_neg c2] at H
 have c2b0 : decide ((l0.length : Int) < 2) = false := decide_eq_false c2
 have c2b1 : decide (l0.length < 2) = false := decide_eq_false (by omega)
 clear c2
 obtain ⟨ji7, hji7⟩ : ∃ j_ : Int, (wrap64 ((l0.length : Int) / 2)) = j_ := ⟨_, rfl⟩
 replace H : (if 0 ≤ (ji7) then (if (ji7) ≤ (l0.length : Int) then ((spec_l07Names.f k (l0.take ((ji7) : Int).toNat)).bind fun t204 => ((spec_l07Names.f k (l0.drop ((ji7) : Int).toNat)).bind fun t208 => (spec_l07Names.l0 k t204 t208 (([] : List ByteArray))))) else (none)) else (none)) = some r := by first | (rw [hji7] at H; exact H) | (simp only [hji7] at H ⊢; exact H)
 have hji7w : (IntKind.i64.wrap ((l0.length : Int) / 2)) = ji7 := (i64_w _).trans hji7
 by_cases c8 : 0 ≤ (ji7)
 rotate_left
 ·rw [if_neg c8] at H
  exact absurd H (by simp)

 rw [if_pos c8] at H
 have c8b0 := eq_true c8
 have c8b1 : decide (0 ≤ (ji7)) = true := decide_eq_true c8
 clear c8
 by_cases c9 : (ji7) ≤ (l0.length : Int)
 rotate_left
 ·rw [if_neg c9] at H
  exact absurd H (by simp)
 rw [if_pos c9] at H
 have c9b0 := eq_true c9
 have c9b1 : decide ((ji7) ≤ (l0.length : Int)) = true := decide_eq_true c9
 clear c9
 replace H := Option.bind_eq_some_iff.mp H
 obtain ⟨t204, A100, H⟩ := H
 try dsimp only at H
 have A10 := Aside0.mk A100
 clear A100
 have c11b0 := eq_true (of_decide_eq_true zas : 0 ≤ (ji7))
 have c12b0 := eq_true (of_decide_eq_true zas : (ji7) ≤ (l0.length : Int))
 replace H := Option.bind_eq_some_iff.mp H
 obtain ⟨t208, A130, H⟩ := H
 try dsimp only at H
 have A13 := Aside0.mk A130
 clear A130
 obtain ⟨y211, hy211⟩ : ∃ y_ : List ByteArray, y_ = (([] : List ByteArray)) := ⟨_, rfl⟩
 replace H : (spec_l07Names.l0 k t204 t208 y211) = some r := zby hy211 H
 have Ny211 := Aside0.mk hy211
 clear hy211
 have H' := Aside0.mk H
 clear H
 obtain ⟨i014, hi014, _, hsz14, _⟩ := info_parts info9
 obtain ⟨hcut14, hA14, hC14⟩ := print_take_of (P := Tryd.prog) Value.string (⟨#[]⟩ : ByteArray) 39 9 .i64 Tryd.underlying39 hi014 hsz14 A0 c0 l0 (ji7) (of_decide_eq_true zas) (of_decide_eq_true zas) HC0.out
 have HR203 := Aside0.mk (Kd.C_of_reads (h1 := fun _ => rfl) (hA14 _ (Kd.reads_of_C HR0.out)))
 have HC203 := Aside0.mk hC14
 clear hA14 hC14 hi014 hsz14
 go_enter Tryd.func91, Tryd.ntmps91
 go_wp2_with (first | (go_at_call 91; refine calls_of_args (args' := #[.slice A0 (l0.take ((ji7) : Int).toNat).length c0]) (by first | (rw [show (l0.take ((ji7) : Int).toNat).length = (ji7).toNat from (by rw [List.length_take]; have h_ : ((ji7) : Int) ≤ (l0.length : Int) := of_decide_eq_true zas; omega)] <;> rfl) | rfl) ?_; (with_reducible refine (ih k (by omega) _ _ (l0.take ((ji7) : Int).toNat) t204 _ ?side1 ?side2 A10.out).mono ?_); (case side1 => exact zC HR203.out); (case side2 => exact HC203.out); rintro e w15 ⟨v205, rfl, ho0, hb⟩; have HO206 := Aside0.mk (Kd.R_lower ho0 (below_size (zh HB))); replace HB := Aside0.mk (below_step (zh HB) hb); (try clear hb ho0); (try clear hb); (try clear hk); (try clear hi); obtain ⟨i017, hi017, _, hsz17, _⟩ := info_parts info9; obtain ⟨A17, hcut17, hA17, hC17⟩ := print_drop_of (P := Tryd.prog) Value.string (⟨#[]⟩ : ByteArray) 39 9 .i64 Tryd.underlying39 hi017 hsz17 A0 c0 l0 (ji7) (of_decide_eq_true zas) (of_decide_eq_true zas) HC0.out; have HR207 := Aside0.mk (Kd.C_of_reads (h1 := fun _ => rfl) (hA17 _ (Kd.reads_of_C HR0.out))); have HC207 := Aside0.mk hC17; clear hA17 hC17 hi017 hsz17) | (go_at_call 91; refine calls_of_args (args' := #[.slice A17 (l0.drop ((ji7) : Int).toNat).length (c0 - (ji7).toNat)]) (by first | (rw [show (l0.drop ((ji7) : Int).toNat).length = (l0.length - (ji7).toNat) from List.length_drop] <;> rfl) | rfl) ?_; (with_reducible refine (ih k (by omega) _ _ (l0.drop ((ji7) : Int).toNat) t208 _ ?side1 ?side2 A13.out).mono ?_); (case side1 => exact zC (Kd.C_below HR207.out HB.out)); (case side2 => exact HC207.out); rintro e w18 ⟨v209, rfl, ho0, hb⟩; have HO210 := Aside0.mk (Kd.R_lower (Kd.R_new' ho0 (Kd.R_lt (zr HO206))) (below_size (zh HB))); replace HO206 := Aside0.mk (Kd.R_elder' (zr HO206) (Kd.R_base ho0) hb); replace HB := Aside0.mk (below_step (zh HB) hb); (try clear hb ho0); (try clear hb); (try clear hk); (try clear hi)) | ((with_reducible refine gate_dst (N := 25) rfl ?_); (try (refine gate_guard (by rfl) ?_; dsimp only)); refine Kd.R_lit Kd.string _ 9 ?hg (N := 25) ?hd (xs := ([] : List ByteArray)) (inner := []) (ok := fun _ => True) (okp := fun _ => True) ?hr ?hp (fun _ hk => hk) trivial (Below.refl _ _) (Nat.le_refl _) (by simp) ?_; (case hd => rfl); (case hg => rfl); (case hr => first | (go_simp; done) | (go_simp; rfl)); (case hp => exact (Reps.none _ _)); intro v212 w20 ho21 hb hg_ hnew_; clear hg_ hnew_; (first | rw [← Ny211.out] at ho21 | (simp only [Int.reduceToNat] at ho21; rw [← Ny211.out] at ho21)); have HO213 := Aside0.mk (Kd.R_lower (Kd.R_new' (Kd.R_new' ho21 (Kd.R_lt (zr HO206))) (Kd.R_lt (zr HO210))) (below_size (zh HB))); replace HO206 := Aside0.mk (Kd.R_elder' (zr HO206) (Kd.R_base ho21) hb); replace HO210 := Aside0.mk (Kd.R_elder' (zr HO210) (Kd.R_base ho21) hb); replace HB := Aside0.mk (below_step (zh HB) hb); clear hb ho21))
 repeat (go_quiet (first | (go_at_call 91; refine calls_of_args (args' := #[.slice A0 (l0.take ((ji7) : Int).toNat).length c0]) (by first | (rw [show (l0.take ((ji7) : Int).toNat).length = (ji7).toNat from (by rw [List.length_take]; have h_ : ((ji7) : Int) ≤ (l0.length : Int) := of_decide_eq_true zas; omega)] <;> rfl) | rfl) ?_; (with_reducible refine (ih k (by omega) _ _ (l0.take ((ji7) : Int).toNat) t204 _ ?side1 ?side2 A10.out).mono ?_); (case side1 => exact zC HR203.out); (case side2 => exact HC203.out); rintro e w15 ⟨v205, rfl, ho0, hb⟩; have HO206 := Aside0.mk (Kd.R_lower ho0 (below_size (zh HB))); replace HB := Aside0.mk (below_step (zh HB) hb); (try clear hb ho0); (try clear hb); (try clear hk); (try clear hi); obtain ⟨i017, hi017, _, hsz17, _⟩ := info_parts info9; obtain ⟨A17, hcut17, hA17, hC17⟩ := print_drop_of (P := Tryd.prog) Value.string (⟨#[]⟩ : ByteArray) 39 9 .i64 Tryd.underlying39 hi017 hsz17 A0 c0 l0 (ji7) (of_decide_eq_true zas) (of_decide_eq_true zas) HC0.out; have HR207 := Aside0.mk (Kd.C_of_reads (h1 := fun _ => rfl) (hA17 _ (Kd.reads_of_C HR0.out))); have HC207 := Aside0.mk hC17; clear hA17 hC17 hi017 hsz17) | (go_at_call 91; refine calls_of_args (args' := #[.slice A17 (l0.drop ((ji7) : Int).toNat).length (c0 - (ji7).toNat)]) (by first | (rw [show (l0.drop ((ji7) : Int).toNat).length = (l0.length - (ji7).toNat) from List.length_drop] <;> rfl) | rfl) ?_; (with_reducible refine (ih k (by omega) _ _ (l0.drop ((ji7) : Int).toNat) t208 _ ?side1 ?side2 A13.out).mono ?_); (case side1 => exact zC (Kd.C_below HR207.out HB.out)); (case side2 => exact HC207.out); rintro e w18 ⟨v209, rfl, ho0, hb⟩; have HO210 := Aside0.mk (Kd.R_lower (Kd.R_new' ho0 (Kd.R_lt (zr HO206))) (below_size (zh HB))); replace HO206 := Aside0.mk (Kd.R_elder' (zr HO206) (Kd.R_base ho0) hb); replace HB := Aside0.mk (below_step (zh HB) hb); (try clear hb ho0); (try clear hb); (try clear hk); (try clear hi)) | ((with_reducible refine gate_dst (N := 25) rfl ?_); (try (refine gate_guard (by rfl) ?_; dsimp only)); refine Kd.R_lit Kd.string _ 9 ?hg (N := 25) ?hd (xs := ([] : List ByteArray)) (inner := []) (ok := fun _ => True) (okp := fun _ => True) ?hr ?hp (fun _ hk => hk) trivial (Below.refl _ _) (Nat.le_refl _) (by simp) ?_; (case hd => rfl); (case hg => rfl); (case hr => first | (go_simp; done) | (go_simp; rfl)); (case hp => exact (Reps.none _ _)); intro v212 w20 ho21 hb hg_ hnew_; clear hg_ hnew_; (first | rw [← Ny211.out] at ho21 | (simp only [Int.reduceToNat] at ho21; rw [← Ny211.out] at ho21)); have HO213 := Aside0.mk (Kd.R_lower (Kd.R_new' (Kd.R_new' ho21 (Kd.R_lt (zr HO206))) (Kd.R_lt (zr HO210))) (below_size (zh HB))); replace HO206 := Aside0.mk (Kd.R_elder' (zr HO206) (Kd.R_base ho21) hb); replace HO210 := Aside0.mk (Kd.R_elder' (zr HO210) (Kd.R_base ho21) hb); replace HB := Aside0.mk (below_step (zh HB) hb); clear hb ho21)); try go_wp2_with (first | (go_at_call 91; refine calls_of_args (args' := #[.slice A0 (l0.take ((ji7) : Int).toNat).length c0]) (by first | (rw [show (l0.take ((ji7) : Int).toNat).length = (ji7).toNat from (by rw [List.length_take]; have h_ : ((ji7) : Int) ≤ (l0.length : Int) := of_decide_eq_true zas; omega)] <;> rfl) | rfl) ?_; (with_reducible refine (ih k (by omega) _ _ (l0.take ((ji7) : Int).toNat) t204 _ ?side1 ?side2 A10.out).mono ?_); (case side1 => exact zC HR203.out); (case side2 => exact HC203.out); rintro e w15 ⟨v205, rfl, ho0, hb⟩; have HO206 := Aside0.mk (Kd.R_lower ho0 (below_size (zh HB))); replace HB := Aside0.mk (below_step (zh HB) hb); (try clear hb ho0); (try clear hb); (try clear hk); (try clear hi); obtain ⟨i017, hi017, _, hsz17, _⟩ := info_parts info9; obtain ⟨A17, hcut17, hA17, hC17⟩ := print_drop_of (P := Tryd.prog) Value.string (⟨#[]⟩ : ByteArray) 39 9 .i64 Tryd.underlying39 hi017 hsz17 A0 c0 l0 (ji7) (of_decide_eq_true zas) (of_decide_eq_true zas) HC0.out; have HR207 := Aside0.mk (Kd.C_of_reads (h1 := fun _ => rfl) (hA17 _ (Kd.reads_of_C HR0.out))); have HC207 := Aside0.mk hC17; clear hA17 hC17 hi017 hsz17) | (go_at_call 91; refine calls_of_args (args' := #[.slice A17 (l0.drop ((ji7) : Int).toNat).length (c0 - (ji7).toNat)]) (by first | (rw [show (l0.drop ((ji7) : Int).toNat).length = (l0.length - (ji7).toNat) from List.length_drop] <;> rfl) | rfl) ?_; (with_reducible refine (ih k (by omega) _ _ (l0.drop ((ji7) : Int).toNat) t208 _ ?side1 ?side2 A13.out).mono ?_); (case side1 => exact zC (Kd.C_below HR207.out HB.out)); (case side2 => exact HC207.out); rintro e w18 ⟨v209, rfl, ho0, hb⟩; have HO210 := Aside0.mk (Kd.R_lower (Kd.R_new' ho0 (Kd.R_lt (zr HO206))) (below_size (zh HB))); replace HO206 := Aside0.mk (Kd.R_elder' (zr HO206) (Kd.R_base ho0) hb); replace HB := Aside0.mk (below_step (zh HB) hb); (try clear hb ho0); (try clear hb); (try clear hk); (try clear hi)) | ((with_reducible refine gate_dst (N := 25) rfl ?_); (try (refine gate_guard (by rfl) ?_; dsimp only)); refine Kd.R_lit Kd.string _ 9 ?hg (N := 25) ?hd (xs := ([] : List ByteArray)) (inner := []) (ok := fun _ => True) (okp := fun _ => True) ?hr ?hp (fun _ hk => hk) trivial (Below.refl _ _) (Nat.le_refl _) (by simp) ?_; (case hd => rfl); (case hg => rfl); (case hr => first | (go_simp; done) | (go_simp; rfl)); (case hp => exact (Reps.none _ _)); intro v212 w20 ho21 hb hg_ hnew_; clear hg_ hnew_; (first | rw [← Ny211.out] at ho21 | (simp only [Int.reduceToNat] at ho21; rw [← Ny211.out] at ho21)); have HO213 := Aside0.mk (Kd.R_lower (Kd.R_new' (Kd.R_new' ho21 (Kd.R_lt (zr HO206))) (Kd.R_lt (zr HO210))) (below_size (zh HB))); replace HO206 := Aside0.mk (Kd.R_elder' (zr HO206) (Kd.R_base ho21) hb); replace HO210 := Aside0.mk (Kd.R_elder' (zr HO210) (Kd.R_base ho21) hb); replace HB := Aside0.mk (below_step (zh HB) hb); clear hb ho21)))
 go_loopg [3, 4, 5] k (fun kq v3 v4 v5 w' => ∃ (x3_1 : List ByteArray) (x4_1 : List ByteArray) (x5_1 : List ByteArray), Aside0 (spec_l07Names.l0 kq x3_1 x4_1 x5_1 = some r) ∧ Aside0 (kq ≤ k) ∧ Aside0 (Kd.Q Kd.string 9 w' w.heap.size (fun k_ => some k_ ≠ (v4 : Value).ownBlock ∧ some k_ ≠ (v5 : Value).ownBlock) v3 x3_1) ∧ Aside0 (Kd.Q Kd.string 9 w' w.heap.size (fun k_ => some k_ ≠ (v3 : Value).ownBlock ∧ some k_ ≠ (v5 : Value).ownBlock) v4 x4_1) ∧ Aside0 (Kd.R Kd.string 9 w' w.heap.size (fun k_ => some k_ ≠ (v3 : Value).ownBlock ∧ some k_ ≠ (v4 : Value).ownBlock) v5 x5_1) ∧ Aside0 (Below w.heap.size w w'))
 case atStart => exact ⟨(t204), (t208), (y211), H', ⟨Nat.le_refl _⟩, ⟨Kd.Q_of_R (Kd.R_mono (zr HO206) (fun _ hk => ⟨hk.1.2, hk.2⟩))⟩, ⟨Kd.Q_of_R (Kd.R_mono (zr HO210) (fun _ hk => ⟨hk.1.2, hk.2⟩))⟩, ⟨Kd.R_mono (zr HO213) (fun _ hk => ⟨hk.1.2, hk.2⟩)⟩, ⟨zh HB⟩⟩
 case round =>
  clear H'
  try clear c2
  try clear c2b0
  try clear c2b1
  try clear c8
  try clear c8b0
  try clear c8b1
  try clear c9
  try clear c9b0
  try clear c9b1
  try clear c11b0
  try clear c12b0
  obtain ⟨x3_1, x4_1, x5_1, HA, HK1, HO_3, HO_4, HO_5, HB⟩ := hrel
  cases gk with
  | zero => exact absurd HA.out (by simp [spec_l07Names.l0])
  | succ k1 =>
   have H := HA.out
   clear HA
   simp only [spec_l07Names.l0] at H
   have HC22 := Aside0.mk H
   clear H
   go_upto_region 6 with (fail)
   repeat (go_quiet (fail); go_upto_region 6 with (fail))
   go_cut [33] (fun v33 wc => ∃ (kq : Nat) (x33_21 : Bool), v33 = .bool x33_21 ∧ Aside0 (spec_l07Names.j1 kq x3_1 x4_1 x5_1 x33_21 = some r) ∧ Aside0 (kq ≤ k1) ∧ Aside0 (Kd.Q Kd.string 9 wc w.heap.size (fun k_ => some k_ ≠ (u4 : Value).ownBlock ∧ some k_ ≠ (u5 : Value).ownBlock) u3 x3_1) ∧ Aside0 (Kd.Q Kd.string 9 wc w.heap.size (fun k_ => some k_ ≠ (u3 : Value).ownBlock ∧ some k_ ≠ (u5 : Value).ownBlock) u4 x4_1) ∧ Aside0 (Kd.R Kd.string 9 wc w.heap.size (fun k_ => some k_ ≠ (u3 : Value).ownBlock ∧ some k_ ≠ (u4 : Value).ownBlock) u5 x5_1) ∧ Aside0 (Below w.heap.size w wc))
   case first =>
    have H := HC22.out
    clear HC22
    by_cases c23 : (x3_1.length : Int) > 0
    ·rw [if_pos c23] at H
     have c23b0 : decide (0 < (x3_1.length : Int)) = true := decide_eq_true c23
     have c23b1 : decide (0 < x3_1.length) = true := decide_eq_true (by omega)
     clear c23
     (first | rw [c23b0] | (simp only [i64_w, i32_w]; rw [c23b0]) | skip)
     have H' := Aside0.mk H
     clear H
     obtain ⟨Ao24, co24, eo24, _⟩ := Kd.Q_slice HO_3.out
     subst eo24
     go_wp2
     repeat (go_quiet (fail); try go_wp2)
     go_meet
     case rel => exact ⟨_, (true), zrs, H', ⟨by have := HK1.out; first | omega | exact Nat.le_refl _⟩, ⟨zq HO_3⟩, ⟨zq HO_4⟩, ⟨zr HO_5⟩, ⟨zh HB⟩⟩
    rw [if_neg c23] at H
    have c23b0 : decide (0 < (x3_1.length : Int)) = false := decide_eq_false c23
    have c23b1 : decide (0 < x3_1.length) = false := decide_eq_false (by omega)
    clear c23
    (first | rw [c23b0] | (simp only [i64_w, i32_w]; rw [c23b0]) | skip)
    have H' := Aside0.mk H
    clear H
    obtain ⟨Ao25, co25, eo25, _⟩ := Kd.Q_slice HO_3.out
    subst eo25
    obtain ⟨Ao26, co26, eo26, _⟩ := Kd.Q_slice HO_4.out
    subst eo26
    go_wp2
    repeat (go_quiet (fail); try go_wp2)
    go_meet
    case rel => exact ⟨_, (decide ((x4_1.length : Int) > 0)), zrs, H', ⟨by have := HK1.out; first | omega | exact Nat.le_refl _⟩, ⟨zq HO_3⟩, ⟨zq HO_4⟩, ⟨zr HO_5⟩, ⟨zh HB⟩⟩
   case rest =>
    clear HC22
    try clear c2
    try clear c2b0
    try clear c2b1
    try clear c8
    try clear c8b0
    try clear c8b1
    try clear c9
    try clear c9b0
    try clear c9b1
    try clear c11b0
    try clear c12b0
    obtain ⟨kq, x33_21, rfl, HA, HJ21, HO_3, HO_4, HO_5, HB⟩ := hcut
    cases kq with
    | zero => exact absurd HA.out (by simp [spec_l07Names.j1])
    | succ kj21 =>
     have H := HA.out
     clear HA
     simp only [spec_l07Names.j1] at H
     by_cases c27 : x33_21 = true
     rotate_left
     ·replace c27 := Bool.eq_false_iff.mpr c27
      subst c27
      rw [if_neg (show ¬ (false = true) by decide)] at H
      obtain rfl := Option.some.inj H
      go_wp2
      repeat (go_quiet (fail); try go_wp2)
      go_ret
      exact ⟨_, by first | rfl | (simp [errW_none, errW_some] <;> rfl) | (simp only [← hji7]; first | rfl | (simp [errW_none, errW_some] <;> rfl)) | (simp [*, errW_none, errW_some] <;> rfl), Kd.R_mono (zr HO_5) (fun _ hk => trivial), zh HB⟩
     subst c27
     rw [if_pos rfl] at H
     have HC28 := Aside0.mk H
     clear H
     go_upto_region 8 with (fail)
     repeat (go_quiet (fail); go_upto_region 8 with (fail))
     go_cut [50] (fun v50 wc => ∃ (kq : Nat) (x50_27 : Bool), v50 = .bool x50_27 ∧ Aside0 (spec_l07Names.j2 kq x3_1 x4_1 x5_1 x50_27 = some r) ∧ Aside0 (kq ≤ kj21) ∧ Aside0 (Kd.Q Kd.string 9 wc w.heap.size (fun k_ => some k_ ≠ (u4 : Value).ownBlock ∧ some k_ ≠ (u5 : Value).ownBlock) u3 x3_1) ∧ Aside0 (Kd.Q Kd.string 9 wc w.heap.size (fun k_ => some k_ ≠ (u3 : Value).ownBlock ∧ some k_ ≠ (u5 : Value).ownBlock) u4 x4_1) ∧ Aside0 (Kd.R Kd.string 9 wc w.heap.size (fun k_ => some k_ ≠ (u3 : Value).ownBlock ∧ some k_ ≠ (u4 : Value).ownBlock) u5 x5_1) ∧ Aside0 (Below w.heap.size w wc))
     case first =>
      have H := HC28.out
      clear HC28
      by_cases c29 : (x4_1.length : Int) = 0
      ·rw [if_pos c29] at H
       have c29b0 : ((x4_1.length : Int) == 0) = true := beq_iff_eq.mpr c29
       have c29b1 : ((x4_1.length : Int) != 0) = false := bne_eq_false_iff_eq.mpr c29
       clear c29
       (first | rw [c29b0] | (simp only [i64_w, i32_w]; rw [c29b0]) | skip)
       have H' := Aside0.mk H
       clear H
       obtain ⟨Ao30, co30, eo30, _⟩ := Kd.Q_slice HO_4.out
       subst eo30
       go_wp2
       repeat (go_quiet (fail); try go_wp2)
       go_meet
       case rel => exact ⟨_, (true), zrs, H', ⟨by have := HK1.out; have := HJ21.out; first | omega | exact Nat.le_refl _⟩, ⟨zq HO_3⟩, ⟨zq HO_4⟩, ⟨zr HO_5⟩, ⟨zh HB⟩⟩
      rw [if_neg c29] at H
      have c29b0 : ((x4_1.length : Int) == 0) = false := beq_eq_false_iff_ne.mpr c29
      have c29b1 : ((x4_1.length : Int) != 0) = true := bne_iff_ne.mpr c29
      have c29b2 : ¬ (x4_1 = []) := fun h_ => c29 (by rw [h_]; rfl)
      (first | rw [c29b0] | (simp only [i64_w, i32_w]; rw [c29b0]) | skip)
      by_cases c31 : (x3_1.length : Int) > 0
      rotate_left
      ·rw [if_neg c31] at H
       have c31b0 : decide (0 < (x3_1.length : Int)) = false := decide_eq_false c31
       have c31b1 : decide (0 < x3_1.length) = false := decide_eq_false (by omega)
       clear c31
       have H' := Aside0.mk H
       clear H
       obtain ⟨Ao36, co36, eo36, _⟩ := Kd.Q_slice HO_4.out
       subst eo36
       obtain ⟨Ao37, co37, eo37, _⟩ := Kd.Q_slice HO_3.out
       subst eo37
       go_wp2
       repeat (go_quiet (fail); try go_wp2)
       go_meet
       case rel => exact ⟨_, (false), zrs, H', ⟨by have := HK1.out; have := HJ21.out; first | omega | exact Nat.le_refl _⟩, ⟨zq HO_3⟩, ⟨zq HO_4⟩, ⟨zr HO_5⟩, ⟨zh HB⟩⟩
      rw [if_pos c31] at H
      have c31b0 : decide (0 < (x3_1.length : Int)) = true := decide_eq_true c31
      have c31b1 : decide (0 < x3_1.length) = true := decide_eq_true (by omega)
      clear c31
      by_cases c32 : 0 < (x3_1.length : Int)
      rotate_left
      ·rw [if_neg c32] at H
       exact absurd H (by simp)
      rw [if_pos c32] at H
      have c32b0 : decide (0 < (x3_1.length : Int)) = true := decide_eq_true c32
      have c32b1 : decide (0 < x3_1.length) = true := decide_eq_true (by omega)
      clear c32
      by_cases c33 : 0 < (x4_1.length : Int)
      rotate_left
      ·rw [if_neg c33] at H
       exact absurd H (by simp)
      rw [if_pos c33] at H
      have c33b0 : decide (0 < (x4_1.length : Int)) = true := decide_eq_true c33
      have c33b1 : decide (0 < x4_1.length) = true := decide_eq_true (by omega)
      clear c33
      have H' := Aside0.mk H
      clear H
      obtain ⟨Ao34, co34, eo34, _⟩ := Kd.Q_slice HO_4.out
      subst eo34
      obtain ⟨Ao35, co35, eo35, _⟩ := Kd.Q_slice HO_3.out
      subst eo35
      have p214 : 0 ≤ (0 : Int) := (by omega)
      have q214 : 0 < (x3_1.length : Int) := of_decide_eq_true zas
      obtain ⟨ad214, e214, hx214_0⟩ := Kd.at_string (Kd.Q_reads' HO_3.out).2.2 0 p214 q214
      cases e214
      have qi214 : (0 < x3_1.length) = True := eq_true (by omega)
      (try rw [show ((0 : Int)).toNat = 0 from rfl] at hx214_0)
      (try rw [Addr.add_zero'] at hx214_0)
      replace p214 := eq_true p214
      replace q214 := eq_true q214
      have p215 : 0 ≤ (0 : Int) := (by omega)
      have q215 : 0 < (x4_1.length : Int) := of_decide_eq_true zas
      obtain ⟨ad215, e215, hx215_0⟩ := Kd.at_string (Kd.Q_reads' HO_4.out).2.2 0 p215 q215
      cases e215
      have qi215 : (0 < x4_1.length) = True := eq_true (by omega)
      (try rw [show ((0 : Int)).toNat = 0 from rfl] at hx215_0)
      (try rw [Addr.add_zero'] at hx215_0)
      replace p215 := eq_true p215
      replace q215 := eq_true q215
      go_wp2
      repeat (go_quiet (fail); try go_wp2)
      go_meet
      case rel => exact ⟨_, (!(Op.bytesLess ((rdOf ByteArray.empty x4_1 0).toList) ((rdOf ByteArray.empty x3_1 0).toList))), zrs, H', ⟨by have := HK1.out; have := HJ21.out; first | omega | exact Nat.le_refl _⟩, ⟨zq HO_3⟩, ⟨zq HO_4⟩, ⟨zr HO_5⟩, ⟨zh HB⟩⟩
     case rest =>
      clear HC28
      try clear c2
      try clear c2b0
      try clear c2b1
      try clear c8
      try clear c8b0
      try clear c8b1
      try clear c9
      try clear c9b0
      try clear c9b1
      try clear c11b0
      try clear c12b0
      try clear c27
      obtain ⟨kq, x50_27, rfl, HA, HJ27, HO_3, HO_4, HO_5, HB⟩ := hcut
      cases kq with
      | zero => exact absurd HA.out (by simp [spec_l07Names.j2])
      | succ kj27 =>
       have H := HA.out
       clear HA
       simp only [spec_l07Names.j2] at H
       have HC38 := Aside0.mk H
       clear H
       go_upto_if 50 with (fail)
       repeat (go_quiet (fail); go_upto_if 50 with (fail))
       go_cut [3, 4, 6] (fun v3 v4 v6 wc => ∃ (kq : Nat) (x3_37 : List ByteArray) (x4_37 : List ByteArray) (x6_37 : ByteArray), v6 = .string x6_37 ∧ Aside0 (spec_l07Names.j3 kq x3_37 x4_37 x5_1 x6_37 = some r) ∧ Aside0 (kq ≤ kj27) ∧ Aside0 (Kd.Q Kd.string 9 wc w.heap.size (fun k_ => some k_ ≠ (v4 : Value).ownBlock ∧ some k_ ≠ (u5 : Value).ownBlock) v3 x3_37) ∧ Aside0 (Kd.Q Kd.string 9 wc w.heap.size (fun k_ => some k_ ≠ (v3 : Value).ownBlock ∧ some k_ ≠ (u5 : Value).ownBlock) v4 x4_37) ∧ Aside0 (Kd.R Kd.string 9 wc w.heap.size (fun k_ => some k_ ≠ (v3 : Value).ownBlock ∧ some k_ ≠ (v4 : Value).ownBlock) u5 x5_1) ∧ Aside0 (Below w.heap.size w wc))
       case first =>
        have H := HC38.out
        clear HC38
        by_cases c39 : x50_27 = true
        rotate_left
        ·replace c39 := Bool.eq_false_iff.mpr c39
         subst c39
         rw [if_neg (show ¬ (false = true) by decide)] at H
         by_cases c44 : 0 < (x4_1.length : Int)
         rotate_left
         ·rw [if_neg c44] at H
          exact absurd H (by simp)
         rw [if_pos c44] at H
         have c44b0 : decide (0 < (x4_1.length : Int)) = true := decide_eq_true c44
         have c44b1 : decide (0 < x4_1.length) = true := decide_eq_true (by omega)
         clear c44
         by_cases c45 : 1 ≤ (x4_1.length : Int)
         rotate_left
         ·rw [if_neg c45] at H
          exact absurd H (by simp)
         rw [if_pos c45] at H
         have c45b0 := eq_true c45
         have c45b1 : decide (1 ≤ (x4_1.length : Int)) = true := decide_eq_true c45
         clear c45
         obtain ⟨y221, hy221⟩ : ∃ y_ : List ByteArray, y_ = (x4_1.drop (1 : Int).toNat) := ⟨_, rfl⟩
         replace H : (spec_l07Names.j3 kj27 x3_1 y221 x5_1 (rdOf ByteArray.empty x4_1 0)) = some r := zby hy221 H
         have Ny221 := Aside0.mk hy221
         clear hy221
         have H' := Aside0.mk H
         clear H
         obtain ⟨Ao46, co46, eo46, _⟩ := Kd.Q_slice HO_4.out
         subst eo46
         have p220 : 0 ≤ (0 : Int) := (by omega)
         have q220 : 0 < (x4_1.length : Int) := of_decide_eq_true zas
         obtain ⟨ad220, e220, hx220_0⟩ := Kd.at_string (Kd.Q_reads' HO_4.out).2.2 0 p220 q220
         cases e220
         have qi220 : (0 < x4_1.length) = True := eq_true (by omega)
         (try rw [show ((0 : Int)).toNat = 0 from rfl] at hx220_0)
         (try rw [Addr.add_zero'] at hx220_0)
         replace p220 := eq_true p220
         replace q220 := eq_true q220
         have q47 : (1 : Int) ≤ ((x4_1.length : Int) : Int) := of_decide_eq_true zas
         obtain ⟨i047, hi047, _, hsz47, _⟩ := info_parts info9
         have hcut47 := cut_from (P := Tryd.prog) 39 9 .i64 Tryd.underlying39 hi047 1 hsz47 (some ad220) x4_1.length co46 1 (by omega) q47
         have hr47 := Kd.Q_drop (k := (1 : Int).toNat) HO_4.out (by omega)
         obtain ⟨A47, hA47⟩ : ∃ A1, A1 = (if co46 = (1 : Int).toNat then (some ad220) else ((some ad220) : Option Addr).map (·.add ((1 : Int).toNat * 1))) := ⟨_, rfl⟩
         obtain ⟨c47, hc47⟩ : ∃ c1, c1 = co46 - (1 : Int).toNat := ⟨_, rfl⟩
         have hy47 : y221.length = x4_1.length - (1 : Int).toNat := (by rw [Ny221.out, List.length_drop])
         rw [← Ny221.out] at hr47
         rw [← hy47, ← hA47, ← hc47] at hcut47
         replace hr47 : Kd.Q Kd.string 9 wc w.heap.size (fun k_ => some k_ ≠ (u3 : Value).ownBlock ∧ some k_ ≠ (u5 : Value).ownBlock) (.slice A47 y221.length c47) y221 := (by rw [hA47, hc47, hy47]; exact hr47)
         have HE47 : Aside0 ((Value.slice A47 y221.length c47).ownBlock = (.slice (some ad220) x4_1.length co46 : Value).ownBlock) := ⟨by rw [hA47]; split <;> (cases ((some ad220) : Option Addr) <;> rfl)⟩
         clear hy47 hi047 hsz47 HO_4 hA47 hc47
         have HO223 := Aside0.mk hr47
         clear hr47
         replace q47 := eq_true q47
         have n_ := Aside0.mk (Kd.Q_mono (ok' := fun k_ => (some k_ ≠ (.slice A47 y221.length c47 : Value).ownBlock ∧ some k_ ≠ (u5 : Value).ownBlock)) HO_3.out (fun k_ hk => ⟨(by rw [HE47.out]; exact hk.1), hk.2⟩))
         clear HO_3
         have HO_3 := n_
         clear n_
         have n_ := Aside0.mk (Kd.R_mono (ok' := fun k_ => (some k_ ≠ (u3 : Value).ownBlock ∧ some k_ ≠ (.slice A47 y221.length c47 : Value).ownBlock)) HO_5.out (fun k_ hk => ⟨hk.1, (by rw [HE47.out]; exact hk.2)⟩))
         clear HO_5
         have HO_5 := n_
         clear n_
         go_wp2
         repeat (go_quiet (fail); try go_wp2)
         go_meet
         case rel => exact ⟨_, (x3_1), (y221), (rdOf ByteArray.empty x4_1 0), zrs, H', ⟨by have := HK1.out; have := HJ21.out; have := HJ27.out; first | omega | exact Nat.le_refl _⟩, ⟨zq HO_3⟩, ⟨zq HO223⟩, ⟨zr HO_5⟩, ⟨zh HB⟩⟩
        subst c39
        rw [if_pos rfl] at H
        by_cases c40 : 0 < (x3_1.length : Int)
        rotate_left
        ·rw [if_neg c40] at H
         exact absurd H (by simp)
        rw [if_pos c40] at H
        have c40b0 : decide (0 < (x3_1.length : Int)) = true := decide_eq_true c40
        have c40b1 : decide (0 < x3_1.length) = true := decide_eq_true (by omega)
        clear c40
        (first | rw [c40b0] | (simp only [i64_w, i32_w]; rw [c40b0]) | skip)
        by_cases c41 : 1 ≤ (x3_1.length : Int)
        rotate_left
        ·rw [if_neg c41] at H
         exact absurd H (by simp)
        rw [if_pos c41] at H
        have c41b0 := eq_true c41
        have c41b1 : decide (1 ≤ (x3_1.length : Int)) = true := decide_eq_true c41
        clear c41
        obtain ⟨y217, hy217⟩ : ∃ y_ : List ByteArray, y_ = (x3_1.drop (1 : Int).toNat) := ⟨_, rfl⟩
        replace H : (spec_l07Names.j3 kj27 y217 x4_1 x5_1 (rdOf ByteArray.empty x3_1 0)) = some r := zby hy217 H
        have Ny217 := Aside0.mk hy217
        clear hy217
        have H' := Aside0.mk H
        clear H
        obtain ⟨Ao42, co42, eo42, _⟩ := Kd.Q_slice HO_3.out
        subst eo42
        have p216 : 0 ≤ (0 : Int) := (by omega)
        have q216 : 0 < (x3_1.length : Int) := of_decide_eq_true zas
        obtain ⟨ad216, e216, hx216_0⟩ := Kd.at_string (Kd.Q_reads' HO_3.out).2.2 0 p216 q216
        cases e216
        have qi216 : (0 < x3_1.length) = True := eq_true (by omega)
        (try rw [show ((0 : Int)).toNat = 0 from rfl] at hx216_0)
        (try rw [Addr.add_zero'] at hx216_0)
        replace p216 := eq_true p216
        replace q216 := eq_true q216
        have q43 : (1 : Int) ≤ ((x3_1.length : Int) : Int) := of_decide_eq_true zas
        obtain ⟨i043, hi043, _, hsz43, _⟩ := info_parts info9
        have hcut43 := cut_from (P := Tryd.prog) 39 9 .i64 Tryd.underlying39 hi043 1 hsz43 (some ad216) x3_1.length co42 1 (by omega) q43
        have hr43 := Kd.Q_drop (k := (1 : Int).toNat) HO_3.out (by omega)
        obtain ⟨A43, hA43⟩ : ∃ A1, A1 = (if co42 = (1 : Int).toNat then (some ad216) else ((some ad216) : Option Addr).map (·.add ((1 : Int).toNat * 1))) := ⟨_, rfl⟩
        obtain ⟨c43, hc43⟩ : ∃ c1, c1 = co42 - (1 : Int).toNat := ⟨_, rfl⟩
        have hy43 : y217.length = x3_1.length - (1 : Int).toNat := (by rw [Ny217.out, List.length_drop])
        rw [← Ny217.out] at hr43
        rw [← hy43, ← hA43, ← hc43] at hcut43
        replace hr43 : Kd.Q Kd.string 9 wc w.heap.size (fun k_ => some k_ ≠ (u4 : Value).ownBlock ∧ some k_ ≠ (u5 : Value).ownBlock) (.slice A43 y217.length c43) y217 := (by rw [hA43, hc43, hy43]; exact hr43)
        have HE43 : Aside0 ((Value.slice A43 y217.length c43).ownBlock = (.slice (some ad216) x3_1.length co42 : Value).ownBlock) := ⟨by rw [hA43]; split <;> (cases ((some ad216) : Option Addr) <;> rfl)⟩
        clear hy43 hi043 hsz43 HO_3 hA43 hc43
        have HO219 := Aside0.mk hr43
        clear hr43
        replace q43 := eq_true q43
        have n_ := Aside0.mk (Kd.Q_mono (ok' := fun k_ => (some k_ ≠ (.slice A43 y217.length c43 : Value).ownBlock ∧ some k_ ≠ (u5 : Value).ownBlock)) HO_4.out (fun k_ hk => ⟨(by rw [HE43.out]; exact hk.1), hk.2⟩))
        clear HO_4
        have HO_4 := n_
        clear n_
        have n_ := Aside0.mk (Kd.R_mono (ok' := fun k_ => (some k_ ≠ (.slice A43 y217.length c43 : Value).ownBlock ∧ some k_ ≠ (u4 : Value).ownBlock)) HO_5.out (fun k_ hk => ⟨(by rw [HE43.out]; exact hk.1), hk.2⟩))
        clear HO_5
        have HO_5 := n_
        clear n_
        go_wp2
        repeat (go_quiet (fail); try go_wp2)
        go_meet
        case rel => exact ⟨_, (y217), (x4_1), (rdOf ByteArray.empty x3_1 0), zrs, H', ⟨by have := HK1.out; have := HJ21.out; have := HJ27.out; first | omega | exact Nat.le_refl _⟩, ⟨zq HO219⟩, ⟨zq HO_4⟩, ⟨zr HO_5⟩, ⟨zh HB⟩⟩
       case rest =>
        clear HC38
        try clear c2
        try clear c2b0
        try clear c2b1
        try clear c8
        try clear c8b0
        try clear c8b1
        try clear c9
        try clear c9b0
        try clear c9b1
        try clear c11b0
        try clear c12b0
        try clear c27
        obtain ⟨kq, x3_37, x4_37, x6_37, rfl, HA, HJ37, HO_3, HO_4, HO_5, HB⟩ := hcut
        cases kq with
        | zero => exact absurd HA.out (by simp [spec_l07Names.j3])
        | succ kj37 =>
         have H := HA.out
         clear HA
         simp only [spec_l07Names.j3] at H
         by_cases c48 : (x5_1.length : Int) = 0
         ·rw [if_pos c48] at H
          have c48b0 : ((x5_1.length : Int) == 0) = true := beq_iff_eq.mpr c48
          have c48b1 : ((x5_1.length : Int) != 0) = false := bne_eq_false_iff_eq.mpr c48
          clear c48
          by_cases c49 : x5_1.length < 8796093022208
          rotate_left
          ·rw [if_neg c49] at H
           exact absurd H (by simp)
          rw [if_pos c49] at H
          have LMc49 := Aside0.mk c49
          clear c49
          obtain ⟨y225, hy225⟩ : ∃ y_ : List ByteArray, y_ = (x5_1 ++ [x6_37]) := ⟨_, rfl⟩
          replace H : (spec_l07Names.l0 kj37 x3_37 x4_37 y225) = some r := zby hy225 H
          have Ny225 := Aside0.mk hy225
          clear hy225
          have H' := Aside0.mk H
          clear H
          obtain ⟨Ao50, co50, eo50⟩ := Kd.R_slice HO_5.out
          subst eo50
          go_wp2_with (first | ((with_reducible refine gate_builtin (b := .append) (xs := #[.tmp 74, .tmp 76]) rfl ?_); (try (refine gate_guard (by rfl) ?_; dsimp only)); at_builtin; refine Kd.R_append Kd.string (w0 := w) w.heap.size rfl (.tmp 74) (.tmp 76) 39 9 (.string ⟨#[]⟩) 16 rfl Tryd.underlying39 info9 rfl (by decide) (by omega) (.slice Ao50 x5_1.length co50) x5_1 x6_37 [.string x6_37] (fun k_ => some k_ ≠ (u3 : Value).ownBlock ∧ some k_ ≠ (u4 : Value).ownBlock) (fun _ => False) rfl rfl ?aP (fun _ hk => hk.elim) ?aF ?aO ?aB ?aS ?aL ?_; (case aP => exact rfl); (case aB => exact (zh HB)); (case aF => exact (fun k_ hk => ⟨Kd.fresh' (Kd.Q_lt (zq HO_3)) k_ hk, Kd.fresh' (Kd.Q_lt (zq HO_4)) k_ hk⟩)); (case aO => exact (zr HO_5)); (case aS => exact (below_size (zh HB))); (case aL => have := LMc49.out; omega); intro v226 w51 ho hb hg hat; rw [← Ny225.out] at ho; replace HO_3 := Aside0.mk (Kd.Q_after (ok := (fun k_ => some k_ ≠ (u4 : Value).ownBlock)) (zq HO_3) hg hat); replace HO_4 := Aside0.mk (Kd.Q_after (ok := (fun k_ => some k_ ≠ (u3 : Value).ownBlock)) (zq HO_4) hg hat); replace HB := Aside0.mk (hb); have HO227 := Aside0.mk (ho); clear HO_5; clear ho hb hg hat))
          repeat (go_quiet (first | ((with_reducible refine gate_builtin (b := .append) (xs := #[.tmp 74, .tmp 76]) rfl ?_); (try (refine gate_guard (by rfl) ?_; dsimp only)); at_builtin; refine Kd.R_append Kd.string (w0 := w) w.heap.size rfl (.tmp 74) (.tmp 76) 39 9 (.string ⟨#[]⟩) 16 rfl Tryd.underlying39 info9 rfl (by decide) (by omega) (.slice Ao50 x5_1.length co50) x5_1 x6_37 [.string x6_37] (fun k_ => some k_ ≠ (u3 : Value).ownBlock ∧ some k_ ≠ (u4 : Value).ownBlock) (fun _ => False) rfl rfl ?aP (fun _ hk => hk.elim) ?aF ?aO ?aB ?aS ?aL ?_; (case aP => exact rfl); (case aB => exact (zh HB)); (case aF => exact (fun k_ hk => ⟨Kd.fresh' (Kd.Q_lt (zq HO_3)) k_ hk, Kd.fresh' (Kd.Q_lt (zq HO_4)) k_ hk⟩)); (case aO => exact (zr HO_5)); (case aS => exact (below_size (zh HB))); (case aL => have := LMc49.out; omega); intro v226 w51 ho hb hg hat; rw [← Ny225.out] at ho; replace HO_3 := Aside0.mk (Kd.Q_after (ok := (fun k_ => some k_ ≠ (u4 : Value).ownBlock)) (zq HO_3) hg hat); replace HO_4 := Aside0.mk (Kd.Q_after (ok := (fun k_ => some k_ ≠ (u3 : Value).ownBlock)) (zq HO_4) hg hat); replace HB := Aside0.mk (hb); have HO227 := Aside0.mk (ho); clear HO_5; clear ho hb hg hat)); try go_wp2_with (first | ((with_reducible refine gate_builtin (b := .append) (xs := #[.tmp 74, .tmp 76]) rfl ?_); (try (refine gate_guard (by rfl) ?_; dsimp only)); at_builtin; refine Kd.R_append Kd.string (w0 := w) w.heap.size rfl (.tmp 74) (.tmp 76) 39 9 (.string ⟨#[]⟩) 16 rfl Tryd.underlying39 info9 rfl (by decide) (by omega) (.slice Ao50 x5_1.length co50) x5_1 x6_37 [.string x6_37] (fun k_ => some k_ ≠ (u3 : Value).ownBlock ∧ some k_ ≠ (u4 : Value).ownBlock) (fun _ => False) rfl rfl ?aP (fun _ hk => hk.elim) ?aF ?aO ?aB ?aS ?aL ?_; (case aP => exact rfl); (case aB => exact (zh HB)); (case aF => exact (fun k_ hk => ⟨Kd.fresh' (Kd.Q_lt (zq HO_3)) k_ hk, Kd.fresh' (Kd.Q_lt (zq HO_4)) k_ hk⟩)); (case aO => exact (zr HO_5)); (case aS => exact (below_size (zh HB))); (case aL => have := LMc49.out; omega); intro v226 w51 ho hb hg hat; rw [← Ny225.out] at ho; replace HO_3 := Aside0.mk (Kd.Q_after (ok := (fun k_ => some k_ ≠ (u4 : Value).ownBlock)) (zq HO_3) hg hat); replace HO_4 := Aside0.mk (Kd.Q_after (ok := (fun k_ => some k_ ≠ (u3 : Value).ownBlock)) (zq HO_4) hg hat); replace HB := Aside0.mk (hb); have HO227 := Aside0.mk (ho); clear HO_5; clear ho hb hg hat)))
          go_roundg kj37
          case measure => have := HK1.out; have := HJ21.out; have := HJ27.out; have := HJ37.out; omega
          case rel => exact ⟨(x3_37), (x4_37), (y225), H', ⟨by have := HK1.out; have := HJ21.out; have := HJ27.out; have := HJ37.out; omega⟩, ⟨zq HO_3⟩, ⟨zq HO_4⟩, ⟨zr HO227⟩, ⟨zh HB⟩⟩
         rw [if_neg c48] at H
         have c48b0 : ((x5_1.length : Int) == 0) = false := beq_eq_false_iff_ne.mpr c48
         have c48b1 : ((x5_1.length : Int) != 0) = true := bne_iff_ne.mpr c48
         have c48b2 : ¬ (x5_1 = []) := fun h_ => c48 (by rw [h_]; rfl)
         obtain ⟨ji52, hji52⟩ : ∃ j_ : Int, (wrap64 ((x5_1.length : Int) - 1)) = j_ := ⟨_, rfl⟩
         replace H : (if 0 ≤ (ji52) then (if (ji52) < (x5_1.length : Int) then (if (rdOf ByteArray.empty x5_1 (ji52)).toList = x6_37.toList then (spec_l07Names.l0 kj37 x3_37 x4_37 x5_1) else (if x5_1.length < 8796093022208 then (spec_l07Names.l0 kj37 x3_37 x4_37 (x5_1 ++ [x6_37])) else (none))) else (none)) else (none)) = some r := by first | (rw [hji52] at H; exact H) | (simp only [hji52] at H ⊢; exact H)
         have hji52w : (IntKind.i64.wrap ((x5_1.length : Int) - 1)) = ji52 := (i64_w _).trans hji52
         by_cases c53 : 0 ≤ (ji52)
         rotate_left
         ·rw [if_neg c53] at H
          exact absurd H (by simp)
         rw [if_pos c53] at H
         have c53b0 : decide (0 ≤ (ji52)) = true := decide_eq_true c53
         clear c53
         by_cases c54 : (ji52) < (x5_1.length : Int)
         rotate_left
         ·rw [if_neg c54] at H
          exact absurd H (by simp)
         rw [if_pos c54] at H
         have c54b0 : decide ((ji52) < (x5_1.length : Int)) = true := decide_eq_true c54
         clear c54
         by_cases c55 : (rdOf ByteArray.empty x5_1 (ji52)).toList = x6_37.toList
         ·rw [if_pos c55] at H
          have c55b0 : ((rdOf ByteArray.empty x5_1 (ji52)).toList == x6_37.toList) = true := beq_iff_eq.mpr c55
          have c55b1 : ((rdOf ByteArray.empty x5_1 (ji52)).toList != x6_37.toList) = false := bne_eq_false_iff_eq.mpr c55
          clear c55
          have H' := Aside0.mk H
          clear H
          obtain ⟨Ao56, co56, eo56⟩ := Kd.R_slice HO_5.out
          subst eo56
          have p224 : 0 ≤ ((ji52) : Int) := of_decide_eq_true zas
          have q224 : (ji52) < (x5_1.length : Int) := of_decide_eq_true zas
          obtain ⟨ad224, e224, hx224_0⟩ := Kd.at_string (Kd.R_reads' HO_5.out).2.2 (ji52) p224 q224
          cases e224
          replace p224 := eq_true p224
          replace q224 := eq_true q224
          go_wp2
          repeat (go_quiet (fail); try go_wp2)
          go_roundg kj37
          case measure => have := HK1.out; have := HJ21.out; have := HJ27.out; have := HJ37.out; omega
          case rel => exact ⟨(x3_37), (x4_37), (x5_1), H', ⟨by have := HK1.out; have := HJ21.out; have := HJ27.out; have := HJ37.out; omega⟩, ⟨zq HO_3⟩, ⟨zq HO_4⟩, ⟨zr HO_5⟩, ⟨zh HB⟩⟩
         rw [if_neg c55] at H
         have c55b0 : ((rdOf ByteArray.empty x5_1 (ji52)).toList == x6_37.toList) = false := beq_eq_false_iff_ne.mpr c55
         have c55b1 : ((rdOf ByteArray.empty x5_1 (ji52)).toList != x6_37.toList) = true := bne_iff_ne.mpr c55
         by_cases c57 : x5_1.length < 8796093022208
         rotate_left
         ·rw [if_neg c57] at H
          exact absurd H (by simp)
         rw [if_pos c57] at H
         have LMc57 := Aside0.mk c57
         clear c57
         obtain ⟨y228, hy228⟩ : ∃ y_ : List ByteArray, y_ = (x5_1 ++ [x6_37]) := ⟨_, rfl⟩
         replace H : (spec_l07Names.l0 kj37 x3_37 x4_37 y228) = some r := zby hy228 H
         have Ny228 := Aside0.mk hy228
         clear hy228
         have H' := Aside0.mk H
         clear H
         obtain ⟨Ao58, co58, eo58⟩ := Kd.R_slice HO_5.out
         subst eo58
         have p224 : 0 ≤ ((ji52) : Int) := of_decide_eq_true zas
         have q224 : (ji52) < (x5_1.length : Int) := of_decide_eq_true zas
         obtain ⟨ad224, e224, hx224_0⟩ := Kd.at_string (Kd.R_reads' HO_5.out).2.2 (ji52) p224 q224
         cases e224
         replace p224 := eq_true p224
         replace q224 := eq_true q224
         go_wp2_with (first | ((with_reducible refine gate_builtin (b := .append) (xs := #[.tmp 74, .tmp 76]) rfl ?_); (try (refine gate_guard (by rfl) ?_; dsimp only)); at_builtin; refine Kd.R_append Kd.string (w0 := w) w.heap.size rfl (.tmp 74) (.tmp 76) 39 9 (.string ⟨#[]⟩) 16 rfl Tryd.underlying39 info9 rfl (by decide) (by omega) (.slice (some ad224) x5_1.length co58) x5_1 x6_37 [.string x6_37] (fun k_ => some k_ ≠ (u3 : Value).ownBlock ∧ some k_ ≠ (u4 : Value).ownBlock) (fun _ => False) rfl rfl ?aP (fun _ hk => hk.elim) ?aF ?aO ?aB ?aS ?aL ?_; (case aP => exact rfl); (case aB => exact (zh HB)); (case aF => exact (fun k_ hk => ⟨Kd.fresh' (Kd.Q_lt (zq HO_3)) k_ hk, Kd.fresh' (Kd.Q_lt (zq HO_4)) k_ hk⟩)); (case aO => exact (zr HO_5)); (case aS => exact (below_size (zh HB))); (case aL => have := LMc57.out; omega); intro v229 w59 ho hb hg hat; rw [← Ny228.out] at ho; replace HO_3 := Aside0.mk (Kd.Q_after (ok := (fun k_ => some k_ ≠ (u4 : Value).ownBlock)) (zq HO_3) hg hat); replace HO_4 := Aside0.mk (Kd.Q_after (ok := (fun k_ => some k_ ≠ (u3 : Value).ownBlock)) (zq HO_4) hg hat); replace HB := Aside0.mk (hb); have HO230 := Aside0.mk (ho); clear HO_5; clear ho hb hg hat))
         repeat (go_quiet (first | ((with_reducible refine gate_builtin (b := .append) (xs := #[.tmp 74, .tmp 76]) rfl ?_); (try (refine gate_guard (by rfl) ?_; dsimp only)); at_builtin; refine Kd.R_append Kd.string (w0 := w) w.heap.size rfl (.tmp 74) (.tmp 76) 39 9 (.string ⟨#[]⟩) 16 rfl Tryd.underlying39 info9 rfl (by decide) (by omega) (.slice (some ad224) x5_1.length co58) x5_1 x6_37 [.string x6_37] (fun k_ => some k_ ≠ (u3 : Value).ownBlock ∧ some k_ ≠ (u4 : Value).ownBlock) (fun _ => False) rfl rfl ?aP (fun _ hk => hk.elim) ?aF ?aO ?aB ?aS ?aL ?_; (case aP => exact rfl); (case aB => exact (zh HB)); (case aF => exact (fun k_ hk => ⟨Kd.fresh' (Kd.Q_lt (zq HO_3)) k_ hk, Kd.fresh' (Kd.Q_lt (zq HO_4)) k_ hk⟩)); (case aO => exact (zr HO_5)); (case aS => exact (below_size (zh HB))); (case aL => have := LMc57.out; omega); intro v229 w59 ho hb hg hat; rw [← Ny228.out] at ho; replace HO_3 := Aside0.mk (Kd.Q_after (ok := (fun k_ => some k_ ≠ (u4 : Value).ownBlock)) (zq HO_3) hg hat); replace HO_4 := Aside0.mk (Kd.Q_after (ok := (fun k_ => some k_ ≠ (u3 : Value).ownBlock)) (zq HO_4) hg hat); replace HB := Aside0.mk (hb); have HO230 := Aside0.mk (ho); clear HO_5; clear ho hb hg hat)); try go_wp2_with (first | ((with_reducible refine gate_builtin (b := .append) (xs := #[.tmp 74, .tmp 76]) rfl ?_); (try (refine gate_guard (by rfl) ?_; dsimp only)); at_builtin; refine Kd.R_append Kd.string (w0 := w) w.heap.size rfl (.tmp 74) (.tmp 76) 39 9 (.string ⟨#[]⟩) 16 rfl Tryd.underlying39 info9 rfl (by decide) (by omega) (.slice (some ad224) x5_1.length co58) x5_1 x6_37 [.string x6_37] (fun k_ => some k_ ≠ (u3 : Value).ownBlock ∧ some k_ ≠ (u4 : Value).ownBlock) (fun _ => False) rfl rfl ?aP (fun _ hk => hk.elim) ?aF ?aO ?aB ?aS ?aL ?_; (case aP => exact rfl); (case aB => exact (zh HB)); (case aF => exact (fun k_ hk => ⟨Kd.fresh' (Kd.Q_lt (zq HO_3)) k_ hk, Kd.fresh' (Kd.Q_lt (zq HO_4)) k_ hk⟩)); (case aO => exact (zr HO_5)); (case aS => exact (below_size (zh HB))); (case aL => have := LMc57.out; omega); intro v229 w59 ho hb hg hat; rw [← Ny228.out] at ho; replace HO_3 := Aside0.mk (Kd.Q_after (ok := (fun k_ => some k_ ≠ (u4 : Value).ownBlock)) (zq HO_3) hg hat); replace HO_4 := Aside0.mk (Kd.Q_after (ok := (fun k_ => some k_ ≠ (u3 : Value).ownBlock)) (zq HO_4) hg hat); replace HB := Aside0.mk (hb); have HO230 := Aside0.mk (ho); clear HO_5; clear ho hb hg hat)))
         go_roundg kj37
         case measure => have := HK1.out; have := HJ21.out; have := HJ27.out; have := HJ37.out; omega
         case rel => exact ⟨(x3_37), (x4_37), (y228), H', ⟨by have := HK1.out; have := HJ21.out; have := HJ27.out; have := HJ37.out; omega⟩, ⟨zq HO_3⟩, ⟨zq HO_4⟩, ⟨zr HO230⟩, ⟨zh HB⟩⟩
end Go.Proofs.YtcokeankiedfcaaDoor.XFnSuggest
