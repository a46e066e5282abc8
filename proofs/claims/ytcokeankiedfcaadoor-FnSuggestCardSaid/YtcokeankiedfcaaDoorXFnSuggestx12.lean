-- A printed text of this session (wip/x/xprint.py).
import Derived.Test.YtcokeankiedfcaaDoorXFnSuggestx0
import Derived.Test.YtcokeankiedfcaaDoorXFnSuggestx3
import Derived.Test.YtcokeankiedfcaaDoorXFnSuggestx7
import Derived.Test.YtcokeankiedfcaaDoorXFnSuggestx8
import Derived.Test.YtcokeankiedfcaaDoorXFnSuggestx11
namespace Go.Proofs.YtcokeankiedfcaaDoor.XFnSuggest
open Go.RowKit Go.Proofs.YtcokeankiedfcaaDoorW.PrintWords Go.Proofs.YtcokeankiedfcaaDoorW.PrintLast Go.Proofs.YtcokeankiedfcaaDoorW.PrintMore
attribute [local go_sem] leq_str max2_int min2_int max_two min_two max_three min_three max_four min_four   -- for this text's walks alone
set_option linter.unusedVariables false
set_option linter.unusedSimpArgs false

/-! ### laws_FnSuggest: function 14 -/
mutual
def laws_FnSuggest.l0 : Nat → List ByteArray → ByteArray → Int → List ByteArray → Int → Int → Option (Bool)
 | 0, _, _, _, _, _, _ => none
 | k + 1, x3, x4, x5, x8, x10, x11 => if x11 < (x8.length : Int) then (if 0 ≤ x11 then ((impl_Edits.f k x4 (rdOf ByteArray.empty x8 x11)).bind fun bt367 => (if bt367.2 = 0 then (if bt367.1 > 2 then (laws_FnSuggest.j1 k x3 x4 x5 x8 x11 bt367.1 true) else (if bt367.1 < x10 then (laws_FnSuggest.j1 k x3 x4 x5 x8 x11 bt367.1 true) else (if x11 > 0 then (if bt367.1 = x10 then (if 0 ≤ (wrap64 (x11 - 1)) then (if (wrap64 (x11 - 1)) < (x8.length : Int) then (laws_FnSuggest.j1 k x3 x4 x5 x8 x11 bt367.1 (!(Op.bytesLess ((rdOf ByteArray.empty x8 (wrap64 (x11 - 1))).toList) ((rdOf ByteArray.empty x8 x11).toList)))) else (none)) else (none)) else (laws_FnSuggest.j1 k x3 x4 x5 x8 x11 bt367.1 false)) else (laws_FnSuggest.j1 k x3 x4 x5 x8 x11 bt367.1 false)))) else (laws_FnSuggest.j1 k x3 x4 x5 x8 x11 bt367.1 true))) else (none)) else (laws_FnSuggest.l1 k x3 x4 x5 x8 x10 0)
def laws_FnSuggest.j1 : Nat → List ByteArray → ByteArray → Int → List ByteArray → Int → Int → Bool → Option (Bool)
 | 0, _, _, _, _, _, _, _ => none
 | k + 1, x3, x4, x5, x8, x11, x12, x93 => if x93 = true then (some false) else (laws_FnSuggest.l0 k x3 x4 x5 x8 x12 (wrap64 (x11 + 1)))
def laws_FnSuggest.l1 : Nat → List ByteArray → ByteArray → Int → List ByteArray → Int → Int → Option (Bool)
 | 0, _, _, _, _, _, _ => none
 | k + 1, x3, x4, x5, x8, x10, x14 => if x14 < (x3.length : Int) then (if 0 ≤ x14 then ((impl_Edits.f k x4 (rdOf ByteArray.empty x3 x14)).bind fun bt372 => (laws_FnSuggest.l2 k x3 x4 x5 x8 x10 x14 bt372.1 bt372.2 false 0)) else (none)) else (some (decide ((x8.length : Int) ≤ x5)))
def laws_FnSuggest.l2 : Nat → List ByteArray → ByteArray → Int → List ByteArray → Int → Int → Int → Int → Bool → Int → Option (Bool)
 | 0, _, _, _, _, _, _, _, _, _, _ => none
 | k + 1, x3, x4, x5, x8, x10, x14, x15, x16, x17, x18 => if x18 < (x8.length : Int) then (if x17 = true then (laws_FnSuggest.l2 k x3 x4 x5 x8 x10 x14 x15 x16 true (wrap64 (x18 + 1))) else (if 0 ≤ x18 then (if 0 ≤ x14 then (if x14 < (x3.length : Int) then (laws_FnSuggest.l2 k x3 x4 x5 x8 x10 x14 x15 x16 ((rdOf ByteArray.empty x8 x18).toList == (rdOf ByteArray.empty x3 x14).toList) (wrap64 (x18 + 1))) else (none)) else (none)) else (none))) else (if x16 = 0 then (if x15 ≤ 2 then (if x17 = true then (laws_FnSuggest.j4 k x3 x4 x5 x8 x10 x14 false) else (if (x8.length : Int) < x5 then (laws_FnSuggest.j4 k x3 x4 x5 x8 x10 x14 true) else (laws_FnSuggest.j4 k x3 x4 x5 x8 x10 x14 (decide (x15 < x10))))) else (laws_FnSuggest.j4 k x3 x4 x5 x8 x10 x14 false)) else (laws_FnSuggest.j4 k x3 x4 x5 x8 x10 x14 false))
def laws_FnSuggest.j4 : Nat → List ByteArray → ByteArray → Int → List ByteArray → Int → Int → Bool → Option (Bool)
 | 0, _, _, _, _, _, _, _ => none
 | k + 1, x3, x4, x5, x8, x10, x14, x148 => if x148 = true then (some false) else (laws_FnSuggest.l1 k x3 x4 x5 x8 x10 (wrap64 (x14 + 1)))
end
def laws_FnSuggest.f (k : Nat) (l0 : List Int) : Option (Bool) := if (l0.length : Int) > 1048576 then (some true) else ((spec_DrawSuggest.f k l0).bind fun bt353 => ((spec_Suggest.f k bt353.1 bt353.2.1 bt353.2.2).bind fun bt358 => ((impl_Suggest.f k bt353.1 bt353.2.1 bt353.2.2).bind fun bt362 => (if bt362.2 = bt358.2 then (if bt362.2 = 0 then (laws_FnSuggest.l0 k bt353.1 bt353.2.1 bt353.2.2 bt362.1 0 0) else (some true)) else (some false)))))
theorem laws_FnSuggest.mono_l : ∀ k, (∀ y0 y1 y2 y3 y4 y5, LeO (laws_FnSuggest.l0 k y0 y1 y2 y3 y4 y5) (laws_FnSuggest.l0 (k + 1) y0 y1 y2 y3 y4 y5)) ∧ (∀ y0 y1 y2 y3 y4 y5 y6, LeO (laws_FnSuggest.j1 k y0 y1 y2 y3 y4 y5 y6) (laws_FnSuggest.j1 (k + 1) y0 y1 y2 y3 y4 y5 y6)) ∧ (∀ y0 y1 y2 y3 y4 y5, LeO (laws_FnSuggest.l1 k y0 y1 y2 y3 y4 y5) (laws_FnSuggest.l1 (k + 1) y0 y1 y2 y3 y4 y5)) ∧ (∀ y0 y1 y2 y3 y4 y5 y6 y7 y8 y9, LeO (laws_FnSuggest.l2 k y0 y1 y2 y3 y4 y5 y6 y7 y8 y9) (laws_FnSuggest.l2 (k + 1) y0 y1 y2 y3 y4 y5 y6 y7 y8 y9)) ∧ (∀ y0 y1 y2 y3 y4 y5 y6, LeO (laws_FnSuggest.j4 k y0 y1 y2 y3 y4 y5 y6) (laws_FnSuggest.j4 (k + 1) y0 y1 y2 y3 y4 y5 y6))
 | 0 => ⟨fun _ _ _ _ _ _ r h => by simp [laws_FnSuggest.l0] at h, fun _ _ _ _ _ _ _ r h => by simp [laws_FnSuggest.j1] at h, fun _ _ _ _ _ _ r h => by simp [laws_FnSuggest.l1] at h, fun _ _ _ _ _ _ _ _ _ _ r h => by simp [laws_FnSuggest.l2] at h, fun _ _ _ _ _ _ _ r h => by simp [laws_FnSuggest.j4] at h⟩
 | k + 1 => by
  obtain ⟨ih0, ih1, ih2, ih3, ih4⟩ := laws_FnSuggest.mono_l k
  refine ⟨?_, ?_, ?_, ?_, ?_⟩
  all_goals intros
  all_goals first | unfold laws_FnSuggest.l0 | unfold laws_FnSuggest.j1 | unfold laws_FnSuggest.l1 | unfold laws_FnSuggest.l2 | unfold laws_FnSuggest.j4
  all_goals
   repeat' first
   | (with_reducible exact ih0 _ _ _ _ _ _)
   | (with_reducible exact ih1 _ _ _ _ _ _ _)
   | (with_reducible exact ih2 _ _ _ _ _ _)
   | (with_reducible exact ih3 _ _ _ _ _ _ _ _ _ _)
   | (with_reducible exact ih4 _ _ _ _ _ _ _)
   | (with_reducible exact impl_Edits.mono _ _ _)
   | (with_reducible exact impl_Suggest.mono _ _ _ _)
   | (with_reducible exact spec_DrawSuggest.mono _ _)
   | (with_reducible exact spec_Suggest.mono _ _ _ _)
   | (with_reducible exact LeO.refl _)
   | (with_reducible exact LeO.none _)
   | (with_reducible refine LeO.ite ?_ ?_)
   | (with_reducible refine LeO.bind ?_ (fun _ => ?_))
theorem laws_FnSuggest.mono : ∀ a0 k, LeO (laws_FnSuggest.f k a0) (laws_FnSuggest.f (k + 1) a0) := by
 intro a0 k
 obtain ⟨ih0, ih1, ih2, ih3, ih4⟩ := laws_FnSuggest.mono_l k
 unfold laws_FnSuggest.f
 repeat' first
  | (with_reducible exact ih0 _ _ _ _ _ _)
  | (with_reducible exact ih1 _ _ _ _ _ _ _)
  | (with_reducible exact ih2 _ _ _ _ _ _)
  | (with_reducible exact ih3 _ _ _ _ _ _ _ _ _ _)
  | (with_reducible exact ih4 _ _ _ _ _ _ _)
  | (with_reducible exact impl_Edits.mono _ _ _)
  | (with_reducible exact impl_Suggest.mono _ _ _ _)
  | (with_reducible exact spec_DrawSuggest.mono _ _)
  | (with_reducible exact spec_Suggest.mono _ _ _ _)
  | (with_reducible exact LeO.refl _)
  | (with_reducible exact LeO.none _)
  | (with_reducible refine LeO.ite ?_ ?_)
  | (with_reducible refine LeO.bind ?_ (fun _ => ?_))
set_option maxHeartbeats 8000000 in
set_option maxRecDepth 100000 in
theorem laws_FnSuggest.calls (k : Nat) (A0 : Option Addr) (c0 : Nat) (l0 : List Int) (r : Bool) (w : World) (hr0 : Kd.C (Kd.int .u8) w A0 l0.length l0) (hc0 : l0.length ≤ c0) (hT : TabW w) (h : laws_FnSuggest.f k l0 = some r) :
 Calls Tryd.prog 14 #[.slice A0 l0.length c0] w fun e w' => e = .returned (.bool r) ∧ Below w.heap.size w w' := by
 have HR0 := Aside0.mk hr0
 have HC0 := Aside0.mk hc0
 clear hr0 hc0
 have HB := Aside0.mk (Below.refl w.heap.size w)
 have HT := Aside0.mk hT
 clear hT
 have H := h
 unfold laws_FnSuggest.f at H
 clear h
 by_cases c2 : (l0.length : Int) > 1048576
 ·rw [if_pos c2] at H
  have c2b0 : decide (1048576 < (l0.length : Int)) = true := decide_eq_true c2
  have c2b1 : decide (1048576 < l0.length) = true := decide_eq_true (by omega)
  clear c2
  obtain rfl := Option.some.inj H
  go_enter Tryd.func14, Tryd.ntmps14
  go_wp2
  repeat (go_quiet (fail); try go_wp2)
  go_ret
  exact ⟨zre, zh HB⟩
 rw [if_neg c2] at H
 have c2b0 : decide (1048576 < (l0.length : Int)) = false := decide_eq_false c2
 have c2b1 : decide (1048576 < l0.length) = false := decide_eq_false (by omega)
 clear c2
 replace H := Option.bind_eq_some_iff.mp H
 obtain ⟨⟨t353, t354, t355⟩, A30, H⟩ := H
 try dsimp only at H
 have A3 := Aside0.mk A30
 clear A30
 replace H := Option.bind_eq_some_iff.mp H
 obtain ⟨⟨t358, t359⟩, A40, H⟩ := H
 try dsimp only at H
 have A4 := Aside0.mk A40
 clear A40
 replace H := Option.bind_eq_some_iff.mp H
 obtain ⟨⟨t362, t363⟩, A50, H⟩ := H
 try dsimp only at H
 have A5 := Aside0.mk A50
 clear A50
 by_cases c6 : t363 = t359
 rotate_left
 ·rw [if_neg c6] at H
  have c6b0 : (t363 == t359) = false := beq_eq_false_iff_ne.mpr c6
  have c6b1 : (t363 != t359) = true := bne_iff_ne.mpr c6
  obtain rfl := Option.some.inj H
  go_enter Tryd.func14, Tryd.ntmps14
  go_wp2_with (first | (go_at_call 51; (with_reducible refine (spec_DrawSuggest.calls k _ _ l0 t353 t354 t355 _ ?side1 ?side2 A3.out).mono ?_); (case side1 => exact zC HR0.out); (case side2 => exact HC0.out); rintro e w55 ⟨v356, rfl, ho0, hb⟩; have HO357 := Aside0.mk (Kd.R_lower ho0 (below_size (zh HB))); replace HB := Aside0.mk (below_step (zh HB) hb); (try clear hb ho0); (try clear hb); (try clear hk); (try clear hi); obtain ⟨Ao57, co57, eo57⟩ := Kd.R_slice HO357.out; subst eo57) | (go_at_call 48; (with_reducible refine (spec_Suggest.calls k _ _ t353 t354 t355 t358 t359 _ ?side1 ?side2 A4.out).mono ?_); (case side1 => exact zC (Kd.R_reads' HO357.out).2.2); (case side2 => exact (Kd.R_reads' HO357.out).2.1); rintro e w58 ⟨v360, rfl, ho0, hb⟩; have HO361 := Aside0.mk (Kd.R_lower (Kd.R_new' ho0 (Kd.R_lt (zr HO357))) (below_size (zh HB))); replace HO357 := Aside0.mk (Kd.R_elder' (zr HO357) (Kd.R_base ho0) hb); replace HB := Aside0.mk (below_step (zh HB) hb); (try clear hb ho0); (try clear hb); (try clear hk); (try clear hi)) | (go_at_call 50; (with_reducible refine (impl_Suggest.calls k _ _ t353 t354 t355 t362 t363 _ ?side1 ?side2 ?side3 A5.out).mono ?_); (case side1 => exact zC (Kd.R_reads' HO357.out).2.2); (case side2 => exact (Kd.R_reads' HO357.out).2.1); (case side3 => exact TabW.below HT.out (zh HB)); rintro e w60 ⟨v364, rfl, ho0, hb⟩; have HO365 := Aside0.mk (Kd.R_lower (Kd.R_new' (Kd.R_new' ho0 (Kd.R_lt (zr HO357))) (Kd.R_lt (zr HO361))) (below_size (zh HB))); replace HO357 := Aside0.mk (Kd.R_elder' (zr HO357) (Kd.R_base ho0) hb); replace HO361 := Aside0.mk (Kd.R_elder' (zr HO361) (Kd.R_base ho0) hb); replace HB := Aside0.mk (below_step (zh HB) hb); (try clear hb ho0); (try clear hb); (try clear hk); (try clear hi)))
  repeat (go_quiet (first | (go_at_call 51; (with_reducible refine (spec_DrawSuggest.calls k _ _ l0 t353 t354 t355 _ ?side1 ?side2 A3.out).mono ?_); (case side1 => exact zC HR0.out); (case side2 => exact HC0.out); rintro e w55 ⟨v356, rfl, ho0, hb⟩; have HO357 := Aside0.mk (Kd.R_lower ho0 (below_size (zh HB))); replace HB := Aside0.mk (below_step (zh HB) hb); (try clear hb ho0); (try clear hb); (try clear hk); (try clear hi); obtain ⟨Ao57, co57, eo57⟩ := Kd.R_slice HO357.out; subst eo57) | (go_at_call 48; (with_reducible refine (spec_Suggest.calls k _ _ t353 t354 t355 t358 t359 _ ?side1 ?side2 A4.out).mono ?_); (case side1 => exact zC (Kd.R_reads' HO357.out).2.2); (case side2 => exact (Kd.R_reads' HO357.out).2.1); rintro e w58 ⟨v360, rfl, ho0, hb⟩; have HO361 := Aside0.mk (Kd.R_lower (Kd.R_new' ho0 (Kd.R_lt (zr HO357))) (below_size (zh HB))); replace HO357 := Aside0.mk (Kd.R_elder' (zr HO357) (Kd.R_base ho0) hb); replace HB := Aside0.mk (below_step (zh HB) hb); (try clear hb ho0); (try clear hb); (try clear hk); (try clear hi)) | (go_at_call 50; (with_reducible refine (impl_Suggest.calls k _ _ t353 t354 t355 t362 t363 _ ?side1 ?side2 ?side3 A5.out).mono ?_); (case side1 => exact zC (Kd.R_reads' HO357.out).2.2); (case side2 => exact (Kd.R_reads' HO357.out).2.1); (case side3 => exact TabW.below HT.out (zh HB)); rintro e w60 ⟨v364, rfl, ho0, hb⟩; have HO365 := Aside0.mk (Kd.R_lower (Kd.R_new' (Kd.R_new' ho0 (Kd.R_lt (zr HO357))) (Kd.R_lt (zr HO361))) (below_size (zh HB))); replace HO357 := Aside0.mk (Kd.R_elder' (zr HO357) (Kd.R_base ho0) hb); replace HO361 := Aside0.mk (Kd.R_elder' (zr HO361) (Kd.R_base ho0) hb); replace HB := Aside0.mk (below_step (zh HB) hb); (try clear hb ho0); (try clear hb); (try clear hk); (try clear hi))); try go_wp2_with (first | (go_at_call 51; (with_reducible refine (spec_DrawSuggest.calls k _ _ l0 t353 t354 t355 _ ?side1 ?side2 A3.out).mono ?_); (case side1 => exact zC HR0.out); (case side2 => exact HC0.out); rintro e w55 ⟨v356, rfl, ho0, hb⟩; have HO357 := Aside0.mk (Kd.R_lower ho0 (below_size (zh HB))); replace HB := Aside0.mk (below_step (zh HB) hb); (try clear hb ho0); (try clear hb); (try clear hk); (try clear hi); obtain ⟨Ao57, co57, eo57⟩ := Kd.R_slice HO357.out; subst eo57) | (go_at_call 48; (with_reducible refine (spec_Suggest.calls k _ _ t353 t354 t355 t358 t359 _ ?side1 ?side2 A4.out).mono ?_); (case side1 => exact zC (Kd.R_reads' HO357.out).2.2); (case side2 => exact (Kd.R_reads' HO357.out).2.1); rintro e w58 ⟨v360, rfl, ho0, hb⟩; have HO361 := Aside0.mk (Kd.R_lower (Kd.R_new' ho0 (Kd.R_lt (zr HO357))) (below_size (zh HB))); replace HO357 := Aside0.mk (Kd.R_elder' (zr HO357) (Kd.R_base ho0) hb); replace HB := Aside0.mk (below_step (zh HB) hb); (try clear hb ho0); (try clear hb); (try clear hk); (try clear hi)) | (go_at_call 50; (with_reducible refine (impl_Suggest.calls k _ _ t353 t354 t355 t362 t363 _ ?side1 ?side2 ?side3 A5.out).mono ?_); (case side1 => exact zC (Kd.R_reads' HO357.out).2.2); (case side2 => exact (Kd.R_reads' HO357.out).2.1); (case side3 => exact TabW.below HT.out (zh HB)); rintro e w60 ⟨v364, rfl, ho0, hb⟩; have HO365 := Aside0.mk (Kd.R_lower (Kd.R_new' (Kd.R_new' ho0 (Kd.R_lt (zr HO357))) (Kd.R_lt (zr HO361))) (below_size (zh HB))); replace HO357 := Aside0.mk (Kd.R_elder' (zr HO357) (Kd.R_base ho0) hb); replace HO361 := Aside0.mk (Kd.R_elder' (zr HO361) (Kd.R_base ho0) hb); replace HB := Aside0.mk (below_step (zh HB) hb); (try clear hb ho0); (try clear hb); (try clear hk); (try clear hi))))
  go_ret
  exact ⟨zre, zh HB⟩

 rw [if_pos c6] at H
 have c6b0 : (t363 == t359) = true := beq_iff_eq.mpr c6
 have c6b1 : (t363 != t359) = false := bne_eq_false_iff_eq.mpr c6
 clear c6
 by_cases c7 : t363 = 0
 rotate_left
 ·rw [if_neg c7] at H
  have c7b0 : (t363 == 0) = false := beq_eq_false_iff_ne.mpr c7
  have c7b1 : (t363 != 0) = true := bne_iff_ne.mpr c7
  obtain rfl := Option.some.inj H
  go_enter Tryd.func14, Tryd.ntmps14
  go_wp2_with (first | (go_at_call 51; (with_reducible refine (spec_DrawSuggest.calls k _ _ l0 t353 t354 t355 _ ?side1 ?side2 A3.out).mono ?_); (case side1 => exact zC HR0.out); (case side2 => exact HC0.out); rintro e w48 ⟨v356, rfl, ho0, hb⟩; have HO357 := Aside0.mk (Kd.R_lower ho0 (below_size (zh HB))); replace HB := Aside0.mk (below_step (zh HB) hb); (try clear hb ho0); (try clear hb); (try clear hk); (try clear hi); obtain ⟨Ao50, co50, eo50⟩ := Kd.R_slice HO357.out; subst eo50) | (go_at_call 48; (with_reducible refine (spec_Suggest.calls k _ _ t353 t354 t355 t358 t359 _ ?side1 ?side2 A4.out).mono ?_); (case side1 => exact zC (Kd.R_reads' HO357.out).2.2); (case side2 => exact (Kd.R_reads' HO357.out).2.1); rintro e w51 ⟨v360, rfl, ho0, hb⟩; have HO361 := Aside0.mk (Kd.R_lower (Kd.R_new' ho0 (Kd.R_lt (zr HO357))) (below_size (zh HB))); replace HO357 := Aside0.mk (Kd.R_elder' (zr HO357) (Kd.R_base ho0) hb); replace HB := Aside0.mk (below_step (zh HB) hb); (try clear hb ho0); (try clear hb); (try clear hk); (try clear hi)) | (go_at_call 50; (with_reducible refine (impl_Suggest.calls k _ _ t353 t354 t355 t362 t363 _ ?side1 ?side2 ?side3 A5.out).mono ?_); (case side1 => exact zC (Kd.R_reads' HO357.out).2.2); (case side2 => exact (Kd.R_reads' HO357.out).2.1); (case side3 => exact TabW.below HT.out (zh HB)); rintro e w53 ⟨v364, rfl, ho0, hb⟩; have HO365 := Aside0.mk (Kd.R_lower (Kd.R_new' (Kd.R_new' ho0 (Kd.R_lt (zr HO357))) (Kd.R_lt (zr HO361))) (below_size (zh HB))); replace HO357 := Aside0.mk (Kd.R_elder' (zr HO357) (Kd.R_base ho0) hb); replace HO361 := Aside0.mk (Kd.R_elder' (zr HO361) (Kd.R_base ho0) hb); replace HB := Aside0.mk (below_step (zh HB) hb); (try clear hb ho0); (try clear hb); (try clear hk); (try clear hi)))
  repeat (go_quiet (first | (go_at_call 51; (with_reducible refine (spec_DrawSuggest.calls k _ _ l0 t353 t354 t355 _ ?side1 ?side2 A3.out).mono ?_); (case side1 => exact zC HR0.out); (case side2 => exact HC0.out); rintro e w48 ⟨v356, rfl, ho0, hb⟩; have HO357 := Aside0.mk (Kd.R_lower ho0 (below_size (zh HB))); replace HB := Aside0.mk (below_step (zh HB) hb); (try clear hb ho0); (try clear hb); (try clear hk); (try clear hi); obtain ⟨Ao50, co50, eo50⟩ := Kd.R_slice HO357.out; subst eo50) | (go_at_call 48; (with_reducible refine (spec_Suggest.calls k _ _ t353 t354 t355 t358 t359 _ ?side1 ?side2 A4.out).mono ?_); (case side1 => exact zC (Kd.R_reads' HO357.out).2.2); (case side2 => exact (Kd.R_reads' HO357.out).2.1); rintro e w51 ⟨v360, rfl, ho0, hb⟩; have HO361 := Aside0.mk (Kd.R_lower (Kd.R_new' ho0 (Kd.R_lt (zr HO357))) (below_size (zh HB))); replace HO357 := Aside0.mk (Kd.R_elder' (zr HO357) (Kd.R_base ho0) hb); replace HB := Aside0.mk (below_step (zh HB) hb); (try clear hb ho0); (try clear hb); (try clear hk); (try clear hi)) | (go_at_call 50; (with_reducible refine (impl_Suggest.calls k _ _ t353 t354 t355 t362 t363 _ ?side1 ?side2 ?side3 A5.out).mono ?_); (case side1 => exact zC (Kd.R_reads' HO357.out).2.2); (case side2 => exact (Kd.R_reads' HO357.out).2.1); (case side3 => exact TabW.below HT.out (zh HB)); rintro e w53 ⟨v364, rfl, ho0, hb⟩; have HO365 := Aside0.mk (Kd.R_lower (Kd.R_new' (Kd.R_new' ho0 (Kd.R_lt (zr HO357))) (Kd.R_lt (zr HO361))) (below_size (zh HB))); replace HO357 := Aside0.mk (Kd.R_elder' (zr HO357) (Kd.R_base ho0) hb); replace HO361 := Aside0.mk (Kd.R_elder' (zr HO361) (Kd.R_base ho0) hb); replace HB := Aside0.mk (below_step (zh HB) hb); (try clear hb ho0); (try clear hb); (try clear hk); (try clear hi))); try go_wp2_with (first | (go_at_call 51; (with_reducible refine (spec_DrawSuggest.calls k _ _ l0 t353 t354 t355 _ ?side1 ?side2 A3.out).mono ?_); (case side1 => exact zC HR0.out); (case side2 => exact HC0.out); rintro e w48 ⟨v356, rfl, ho0, hb⟩; have HO357 := Aside0.mk (Kd.R_lower ho0 (below_size (zh HB))); replace HB := Aside0.mk (below_step (zh HB) hb); (try clear hb ho0); (try clear hb); (try clear hk); (try clear hi); obtain ⟨Ao50, co50, eo50⟩ := Kd.R_slice HO357.out; subst eo50) | (go_at_call 48; (with_reducible refine (spec_Suggest.calls k _ _ t353 t354 t355 t358 t359 _ ?side1 ?side2 A4.out).mono ?_); (case side1 => exact zC (Kd.R_reads' HO357.out).2.2); (case side2 => exact (Kd.R_reads' HO357.out).2.1); rintro e w51 ⟨v360, rfl, ho0, hb⟩; have HO361 := Aside0.mk (Kd.R_lower (Kd.R_new' ho0 (Kd.R_lt (zr HO357))) (below_size (zh HB))); replace HO357 := Aside0.mk (Kd.R_elder' (zr HO357) (Kd.R_base ho0) hb); replace HB := Aside0.mk (below_step (zh HB) hb); (try clear hb ho0); (try clear hb); (try clear hk); (try clear hi)) | (go_at_call 50; (with_reducible refine (impl_Suggest.calls k _ _ t353 t354 t355 t362 t363 _ ?side1 ?side2 ?side3 A5.out).mono ?_); (case side1 => exact zC (Kd.R_reads' HO357.out).2.2); (case side2 => exact (Kd.R_reads' HO357.out).2.1); (case side3 => exact TabW.below HT.out (zh HB)); rintro e w53 ⟨v364, rfl, ho0, hb⟩; have HO365 := Aside0.mk (Kd.R_lower (Kd.R_new' (Kd.R_new' ho0 (Kd.R_lt (zr HO357))) (Kd.R_lt (zr HO361))) (below_size (zh HB))); replace HO357 := Aside0.mk (Kd.R_elder' (zr HO357) (Kd.R_base ho0) hb); replace HO361 := Aside0.mk (Kd.R_elder' (zr HO361) (Kd.R_base ho0) hb); replace HB := Aside0.mk (below_step (zh HB) hb); (try clear hb ho0); (try clear hb); (try clear hk); (try clear hi))))
  go_ret
  exact ⟨zre, zh HB⟩
 rw [if_pos c7] at H
 have c7b0 : (t363 == 0) = true := beq_iff_eq.mpr c7
 have c7b1 : (t363 != 0) = false := bne_eq_false_iff_eq.mpr c7
 clear c7
 have H' := Aside0.mk H
 clear H
 go_enter Tryd.func14, Tryd.ntmps14
 go_wp2_with (first | (go_at_call 51; (with_reducible refine (spec_DrawSuggest.calls k _ _ l0 t353 t354 t355 _ ?side1 ?side2 A3.out).mono ?_); (case side1 => exact zC HR0.out); (case side2 => exact HC0.out); rintro e w8 ⟨v356, rfl, ho0, hb⟩; have HO357 := Aside0.mk (Kd.R_lower ho0 (below_size (zh HB))); replace HB := Aside0.mk (below_step (zh HB) hb); (try clear hb ho0); (try clear hb); (try clear hk); (try clear hi); obtain ⟨Ao10, co10, eo10⟩ := Kd.R_slice HO357.out; subst eo10) | (go_at_call 48; (with_reducible refine (spec_Suggest.calls k _ _ t353 t354 t355 t358 t359 _ ?side1 ?side2 A4.out).mono ?_); (case side1 => exact zC (Kd.R_reads' HO357.out).2.2); (case side2 => exact (Kd.R_reads' HO357.out).2.1); rintro e w11 ⟨v360, rfl, ho0, hb⟩; have HO361 := Aside0.mk (Kd.R_lower (Kd.R_new' ho0 (Kd.R_lt (zr HO357))) (below_size (zh HB))); replace HO357 := Aside0.mk (Kd.R_elder' (zr HO357) (Kd.R_base ho0) hb); replace HB := Aside0.mk (below_step (zh HB) hb); (try clear hb ho0); (try clear hb); (try clear hk); (try clear hi)) | (go_at_call 50; (with_reducible refine (impl_Suggest.calls k _ _ t353 t354 t355 t362 t363 _ ?side1 ?side2 ?side3 A5.out).mono ?_); (case side1 => exact zC (Kd.R_reads' HO357.out).2.2); (case side2 => exact (Kd.R_reads' HO357.out).2.1); (case side3 => exact TabW.below HT.out (zh HB)); rintro e w13 ⟨v364, rfl, ho0, hb⟩; have HO365 := Aside0.mk (Kd.R_lower (Kd.R_new' (Kd.R_new' ho0 (Kd.R_lt (zr HO357))) (Kd.R_lt (zr HO361))) (below_size (zh HB))); replace HO357 := Aside0.mk (Kd.R_elder' (zr HO357) (Kd.R_base ho0) hb); replace HO361 := Aside0.mk (Kd.R_elder' (zr HO361) (Kd.R_base ho0) hb); replace HB := Aside0.mk (below_step (zh HB) hb); (try clear hb ho0); (try clear hb); (try clear hk); (try clear hi)))
 repeat (go_quiet (first | (go_at_call 51; (with_reducible refine (spec_DrawSuggest.calls k _ _ l0 t353 t354 t355 _ ?side1 ?side2 A3.out).mono ?_); (case side1 => exact zC HR0.out); (case side2 => exact HC0.out); rintro e w8 ⟨v356, rfl, ho0, hb⟩; have HO357 := Aside0.mk (Kd.R_lower ho0 (below_size (zh HB))); replace HB := Aside0.mk (below_step (zh HB) hb); (try clear hb ho0); (try clear hb); (try clear hk); (try clear hi); obtain ⟨Ao10, co10, eo10⟩ := Kd.R_slice HO357.out; subst eo10) | (go_at_call 48; (with_reducible refine (spec_Suggest.calls k _ _ t353 t354 t355 t358 t359 _ ?side1 ?side2 A4.out).mono ?_); (case side1 => exact zC (Kd.R_reads' HO357.out).2.2); (case side2 => exact (Kd.R_reads' HO357.out).2.1); rintro e w11 ⟨v360, rfl, ho0, hb⟩; have HO361 := Aside0.mk (Kd.R_lower (Kd.R_new' ho0 (Kd.R_lt (zr HO357))) (below_size (zh HB))); replace HO357 := Aside0.mk (Kd.R_elder' (zr HO357) (Kd.R_base ho0) hb); replace HB := Aside0.mk (below_step (zh HB) hb); (try clear hb ho0); (try clear hb); (try clear hk); (try clear hi)) | (go_at_call 50; (with_reducible refine (impl_Suggest.calls k _ _ t353 t354 t355 t362 t363 _ ?side1 ?side2 ?side3 A5.out).mono ?_); (case side1 => exact zC (Kd.R_reads' HO357.out).2.2); (case side2 => exact (Kd.R_reads' HO357.out).2.1); (case side3 => exact TabW.below HT.out (zh HB)); rintro e w13 ⟨v364, rfl, ho0, hb⟩; have HO365 := Aside0.mk (Kd.R_lower (Kd.R_new' (Kd.R_new' ho0 (Kd.R_lt (zr HO357))) (Kd.R_lt (zr HO361))) (below_size (zh HB))); replace HO357 := Aside0.mk (Kd.R_elder' (zr HO357) (Kd.R_base ho0) hb); replace HO361 := Aside0.mk (Kd.R_elder' (zr HO361) (Kd.R_base ho0) hb); replace HB := Aside0.mk (below_step (zh HB) hb); (try clear hb ho0); (try clear hb); (try clear hk); (try clear hi))); try go_wp2_with (first | (go_at_call 51; (with_reducible refine (spec_DrawSuggest.calls k _ _ l0 t353 t354 t355 _ ?side1 ?side2 A3.out).mono ?_); (case side1 => exact zC HR0.out); (case side2 => exact HC0.out); rintro e w8 ⟨v356, rfl, ho0, hb⟩; have HO357 := Aside0.mk (Kd.R_lower ho0 (below_size (zh HB))); replace HB := Aside0.mk (below_step (zh HB) hb); (try clear hb ho0); (try clear hb); (try clear hk); (try clear hi); obtain ⟨Ao10, co10, eo10⟩ := Kd.R_slice HO357.out; subst eo10) | (go_at_call 48; (with_reducible refine (spec_Suggest.calls k _ _ t353 t354 t355 t358 t359 _ ?side1 ?side2 A4.out).mono ?_); (case side1 => exact zC (Kd.R_reads' HO357.out).2.2); (case side2 => exact (Kd.R_reads' HO357.out).2.1); rintro e w11 ⟨v360, rfl, ho0, hb⟩; have HO361 := Aside0.mk (Kd.R_lower (Kd.R_new' ho0 (Kd.R_lt (zr HO357))) (below_size (zh HB))); replace HO357 := Aside0.mk (Kd.R_elder' (zr HO357) (Kd.R_base ho0) hb); replace HB := Aside0.mk (below_step (zh HB) hb); (try clear hb ho0); (try clear hb); (try clear hk); (try clear hi)) | (go_at_call 50; (with_reducible refine (impl_Suggest.calls k _ _ t353 t354 t355 t362 t363 _ ?side1 ?side2 ?side3 A5.out).mono ?_); (case side1 => exact zC (Kd.R_reads' HO357.out).2.2); (case side2 => exact (Kd.R_reads' HO357.out).2.1); (case side3 => exact TabW.below HT.out (zh HB)); rintro e w13 ⟨v364, rfl, ho0, hb⟩; have HO365 := Aside0.mk (Kd.R_lower (Kd.R_new' (Kd.R_new' ho0 (Kd.R_lt (zr HO357))) (Kd.R_lt (zr HO361))) (below_size (zh HB))); replace HO357 := Aside0.mk (Kd.R_elder' (zr HO357) (Kd.R_base ho0) hb); replace HO361 := Aside0.mk (Kd.R_elder' (zr HO361) (Kd.R_base ho0) hb); replace HB := Aside0.mk (below_step (zh HB) hb); (try clear hb ho0); (try clear hb); (try clear hk); (try clear hi))))
 go_loopg [10, 11] k (fun kq v10 v11 w' => ∃ (x10_1 : Int) (x11_1 : Int), v10 = .int .i64 x10_1 ∧ v11 = .int .i64 x11_1 ∧ Aside0 (laws_FnSuggest.l0 kq t353 t354 t355 t362 x10_1 x11_1 = some r) ∧ Aside0 (kq ≤ k) ∧ Aside0 (Kd.R Kd.string 9 w' w.heap.size (fun k_ => some k_ ≠ (v364 : Value).ownBlock) (.slice Ao10 t353.length co10) t353) ∧ Aside0 (Kd.R Kd.string 9 w' w.heap.size (fun k_ => some k_ ≠ ((.slice Ao10 t353.length co10) : Value).ownBlock) v364 t362) ∧ Aside0 (Below w.heap.size w w'))
 case atStart => exact ⟨(0), (0), zrs, zrs, H', ⟨Nat.le_refl _⟩, ⟨Kd.R_mono (zr HO357) (fun _ hk => hk.2)⟩, ⟨Kd.R_mono (zr HO365) (fun _ hk => hk.1.2)⟩, ⟨zh HB⟩⟩
 case round =>
  clear H'
  try clear c2
  try clear c2b0
  try clear c2b1
  try clear c6
  try clear c6b0
  try clear c6b1
  try clear c7
  try clear c7b0
  try clear c7b1
  obtain ⟨x10_1, x11_1, rfl, rfl, HA, HK1, HO_3, HO_8, HB⟩ := hrel
  cases gk with
  | zero => exact absurd HA.out (by simp [laws_FnSuggest.l0])
  | succ k1 =>
   have H := HA.out
   clear HA
   simp only [laws_FnSuggest.l0] at H
   by_cases c15 : x11_1 < (t362.length : Int)
   ·rw [if_pos c15] at H
    have c15b0 : decide (x11_1 < (t362.length : Int)) = true := decide_eq_true c15
    clear c15
    by_cases c16 : 0 ≤ x11_1
    rotate_left
    ·rw [if_neg c16] at H
     exact absurd H (by simp)
    rw [if_pos c16] at H
    have c16b0 : decide (0 ≤ x11_1) = true := decide_eq_true c16
    clear c16
    replace H := Option.bind_eq_some_iff.mp H
    obtain ⟨⟨t367, t368⟩, A170, H⟩ := H
    try dsimp only at H
    have A17 := Aside0.mk A170
    clear A170
    have HC18 := Aside0.mk H
    clear H
    obtain ⟨Ao19, co19, eo19⟩ := Kd.R_slice HO_8.out
    subst eo19
    have p366 : 0 ≤ (x11_1 : Int) := of_decide_eq_true zas
    have q366 : x11_1 < (t362.length : Int) := of_decide_eq_true zas
    obtain ⟨ad366, e366, hx366_0⟩ := Kd.at_string (Kd.R_reads' HO_8.out).2.2 x11_1 p366 q366
    cases e366
    replace p366 := eq_true p366
    replace q366 := eq_true q366
    go_upto_region 15 with (first | (go_at_call 23; (with_reducible refine (impl_Edits.calls k1 t354 (rdOf ByteArray.empty t362 x11_1) t367 t368 _ ?side1 A17.out).mono ?_); (case side1 => exact TabW.below HT.out (zh HB)); rintro e w20 ⟨rfl, hb⟩; replace HO_3 := Aside0.mk (Kd.R_below (zr HO_3) hb); replace HO_8 := Aside0.mk (Kd.R_below (zr HO_8) hb); replace HB := Aside0.mk (below_step (zh HB) hb); (try clear hb); (try clear hb2); (try clear hk); (try clear hi)))
    repeat (go_quiet (first | (go_at_call 23; (with_reducible refine (impl_Edits.calls k1 t354 (rdOf ByteArray.empty t362 x11_1) t367 t368 _ ?side1 A17.out).mono ?_); (case side1 => exact TabW.below HT.out (zh HB)); rintro e w20 ⟨rfl, hb⟩; replace HO_3 := Aside0.mk (Kd.R_below (zr HO_3) hb); replace HO_8 := Aside0.mk (Kd.R_below (zr HO_8) hb); replace HB := Aside0.mk (below_step (zh HB) hb); (try clear hb); (try clear hb2); (try clear hk); (try clear hi))); go_upto_region 15 with (first | (go_at_call 23; (with_reducible refine (impl_Edits.calls k1 t354 (rdOf ByteArray.empty t362 x11_1) t367 t368 _ ?side1 A17.out).mono ?_); (case side1 => exact TabW.below HT.out (zh HB)); rintro e w20 ⟨rfl, hb⟩; replace HO_3 := Aside0.mk (Kd.R_below (zr HO_3) hb); replace HO_8 := Aside0.mk (Kd.R_below (zr HO_8) hb); replace HB := Aside0.mk (below_step (zh HB) hb); (try clear hb); (try clear hb2); (try clear hk); (try clear hi))))
    (try simp only [Act.put, List.setIfInBounds_toArray, List.set_cons_zero, List.set_cons_succ])
    go_cut [93] (fun v93 wc => ∃ (kq : Nat) (x93_17 : Bool), v93 = .bool x93_17 ∧ Aside0 (laws_FnSuggest.j1 kq t353 t354 t355 t362 x11_1 t367 x93_17 = some r) ∧ Aside0 (kq ≤ k1) ∧ Aside0 (Kd.R Kd.string 9 wc w.heap.size (fun k_ => some k_ ≠ ((.slice (some ad366) t362.length co19) : Value).ownBlock) (.slice Ao10 t353.length co10) t353) ∧ Aside0 (Kd.R Kd.string 9 wc w.heap.size (fun k_ => some k_ ≠ ((.slice Ao10 t353.length co10) : Value).ownBlock) (.slice (some ad366) t362.length co19) t362) ∧ Aside0 (Below w.heap.size w wc))
    case first =>
     have H := HC18.out
     clear HC18
     by_cases c22 : t368 = 0
     rotate_left
     ·rw [if_neg c22] at H
      have c22b0 : (t368 == 0) = false := beq_eq_false_iff_ne.mpr c22
      have c22b1 : (t368 != 0) = true := bne_iff_ne.mpr c22
      (first | rw [c22b0] | (simp only [i64_w, i32_w]; rw [c22b0]) | skip)
      have H' := Aside0.mk H
      clear H
      go_wp2
      repeat (go_quiet (fail); try go_wp2)
      go_meet
      case rel => exact ⟨_, (true), zrs, H', ⟨by have := HK1.out; first | omega | exact Nat.le_refl _⟩, ⟨zr HO_3⟩, ⟨zr HO_8⟩, ⟨zh HB⟩⟩
     rw [if_pos c22] at H
     have c22b0 : (t368 == 0) = true := beq_iff_eq.mpr c22
     have c22b1 : (t368 != 0) = false := bne_eq_false_iff_eq.mpr c22
     clear c22
     (first | rw [c22b0] | (simp only [i64_w, i32_w]; rw [c22b0]) | skip)
     by_cases c23 : t367 > 2
     ·rw [if_pos c23] at H
      have c23b0 : decide (2 < t367) = true := decide_eq_true c23
      clear c23
      have H' := Aside0.mk H
      clear H
      go_wp2
      repeat (go_quiet (fail); try go_wp2)
      go_meet
      case rel => exact ⟨_, (true), zrs, H', ⟨by have := HK1.out; first | omega | exact Nat.le_refl _⟩, ⟨zr HO_3⟩, ⟨zr HO_8⟩, ⟨zh HB⟩⟩
     rw [if_neg c23] at H
     have c23b0 : decide (2 < t367) = false := decide_eq_false c23
     clear c23
     by_cases c24 : t367 < x10_1
     ·rw [if_pos c24] at H
      have c24b0 : decide (t367 < x10_1) = true := decide_eq_true c24
      clear c24
      have H' := Aside0.mk H
      clear H
      go_wp2
      repeat (go_quiet (fail); try go_wp2)
      go_meet
      case rel => exact ⟨_, (true), zrs, H', ⟨by have := HK1.out; first | omega | exact Nat.le_refl _⟩, ⟨zr HO_3⟩, ⟨zr HO_8⟩, ⟨zh HB⟩⟩
     rw [if_neg c24] at H
     have c24b0 : decide (t367 < x10_1) = false := decide_eq_false c24
     clear c24
     by_cases c25 : x11_1 > 0
     rotate_left
     ·rw [if_neg c25] at H
      have c25b0 : decide (0 < x11_1) = false := decide_eq_false c25
      clear c25
      have H' := Aside0.mk H
      clear H
      go_wp2
      repeat (go_quiet (fail); try go_wp2)
      go_meet
      case rel => exact ⟨_, (false), zrs, H', ⟨by have := HK1.out; first | omega | exact Nat.le_refl _⟩, ⟨zr HO_3⟩, ⟨zr HO_8⟩, ⟨zh HB⟩⟩
     rw [if_pos c25] at H
     have c25b0 : decide (0 < x11_1) = true := decide_eq_true c25
     clear c25
     by_cases c26 : t367 = x10_1
     rotate_left
     ·rw [if_neg c26] at H
      have c26b0 : (t367 == x10_1) = false := beq_eq_false_iff_ne.mpr c26
      have c26b1 : (t367 != x10_1) = true := bne_iff_ne.mpr c26
      have H' := Aside0.mk H
      clear H
      go_wp2
      repeat (go_quiet (fail); try go_wp2)
      go_meet
      case rel => exact ⟨_, (false), zrs, H', ⟨by have := HK1.out; first | omega | exact Nat.le_refl _⟩, ⟨zr HO_3⟩, ⟨zr HO_8⟩, ⟨zh HB⟩⟩
     rw [if_pos c26] at H
     have c26b0 : (t367 == x10_1) = true := beq_iff_eq.mpr c26
     have c26b1 : (t367 != x10_1) = false := bne_eq_false_iff_eq.mpr c26
     clear c26
     obtain ⟨ji27, hji27⟩ : ∃ j_ : Int, (wrap64 (x11_1 - 1)) = j_ := ⟨_, rfl⟩
     replace H : (if 0 ≤ (ji27) then (if (ji27) < (t362.length : Int) then (laws_FnSuggest.j1 k1 t353 t354 t355 t362 x11_1 t367 (!(Op.bytesLess ((rdOf ByteArray.empty t362 (ji27)).toList) ((rdOf ByteArray.empty t362 x11_1).toList)))) else (none)) else (none)) = some r := by first | (rw [hji27] at H; exact H) | (simp only [hji27] at H ⊢; exact H)
     have hji27w : (IntKind.i64.wrap (x11_1 - 1)) = ji27 := (i64_w _).trans hji27
     by_cases c28 : 0 ≤ (ji27)
     rotate_left
     ·rw [if_neg c28] at H
      exact absurd H (by simp)
     rw [if_pos c28] at H
     have c28b0 : decide (0 ≤ (ji27)) = true := decide_eq_true c28
     clear c28
     by_cases c29 : (ji27) < (t362.length : Int)
     rotate_left
     ·rw [if_neg c29] at H
      exact absurd H (by simp)
     rw [if_pos c29] at H
     have c29b0 : decide ((ji27) < (t362.length : Int)) = true := decide_eq_true c29
     clear c29
     have H' := Aside0.mk H
     clear H
     have p369 : 0 ≤ (x11_1 : Int) := of_decide_eq_true zas
     have q369 : x11_1 < (t362.length : Int) := of_decide_eq_true zas
     obtain ⟨ad369, e369, hx369_0⟩ := Kd.at_string (Kd.R_reads' HO_8.out).2.2 x11_1 p369 q369
     obtain rfl : ad366 = ad369 := (by injection e369)
     replace p369 := eq_true p369
     replace q369 := eq_true q369
     have p370 : 0 ≤ ((ji27) : Int) := of_decide_eq_true zas
     have q370 : (ji27) < (t362.length : Int) := of_decide_eq_true zas
     obtain ⟨ad370, e370, hx370_0⟩ := Kd.at_string (Kd.R_reads' HO_8.out).2.2 (ji27) p370 q370
     obtain rfl : ad366 = ad370 := (by injection e370)
     replace p370 := eq_true p370
     replace q370 := eq_true q370
     go_wp2
     repeat (go_quiet (fail); try go_wp2)
     go_meet
     case rel => exact ⟨_, (!(Op.bytesLess ((rdOf ByteArray.empty t362 (ji27)).toList) ((rdOf ByteArray.empty t362 x11_1).toList))), (by first | rfl | (simp; done) | (simp only [← hji27] <;> (first | rfl | simp)) | (simp [*]; done)), H', ⟨by have := HK1.out; first | omega | exact Nat.le_refl _⟩, ⟨zr HO_3⟩, ⟨zr HO_8⟩, ⟨zh HB⟩⟩
    case rest =>
     clear HC18
     try clear c2
     try clear c2b0
     try clear c2b1
     try clear c6
     try clear c6b0
     try clear c6b1
     try clear c7
     try clear c7b0
     try clear c7b1
     try clear c15
     try clear c15b0
     try clear c16
     try clear c16b0
     try clear hx366_0
     try clear p366
     try clear q366
     obtain ⟨kq, x93_17, rfl, HA, HJ17, HO_3, HO_8, HB⟩ := hcut
     cases kq with
     | zero => exact absurd HA.out (by simp [laws_FnSuggest.j1])
     | succ kj17 =>
      have H := HA.out
      clear HA
      simp only [laws_FnSuggest.j1] at H
      by_cases c30 : x93_17 = true
      ·subst c30
       rw [if_pos rfl] at H
       obtain rfl := Option.some.inj H
       go_wp2
       repeat (go_quiet (fail); try go_wp2)
       go_ret
       exact ⟨zre, zh HB⟩
      replace c30 := Bool.eq_false_iff.mpr c30
      subst c30
      rw [if_neg (show ¬ (false = true) by decide)] at H
      have H' := Aside0.mk H
      clear H
      go_wp2
      repeat (go_quiet (fail); try go_wp2)
      go_roundg kj17
      case measure => have := HK1.out; have := HJ17.out; omega
      case rel => exact ⟨(t367), (wrap64 (x11_1 + 1)), zrs, zrs, H', ⟨by have := HK1.out; have := HJ17.out; omega⟩, ⟨zr HO_3⟩, ⟨zr HO_8⟩, ⟨zh HB⟩⟩
   rw [if_neg c15] at H
   have c15b0 : decide (x11_1 < (t362.length : Int)) = false := decide_eq_false c15
   clear c15
   have H' := Aside0.mk H
   clear H
   obtain ⟨Ao31, co31, eo31⟩ := Kd.R_slice HO_8.out
   subst eo31
   go_wp2
   repeat (go_quiet (fail); try go_wp2)
   go_loopg [14] k1 (fun kq v14 w' => ∃ (x14_2 : Int), v14 = .int .i64 x14_2 ∧ Aside0 (laws_FnSuggest.l1 kq t353 t354 t355 t362 x10_1 x14_2 = some r) ∧ Aside0 (kq ≤ k1) ∧ Aside0 (Kd.R Kd.string 9 w' w.heap.size (fun k_ => some k_ ≠ ((.slice Ao31 t362.length co31) : Value).ownBlock) (.slice Ao10 t353.length co10) t353) ∧ Aside0 (Kd.R Kd.string 9 w' w.heap.size (fun k_ => some k_ ≠ ((.slice Ao10 t353.length co10) : Value).ownBlock) (.slice Ao31 t362.length co31) t362) ∧ Aside0 (Below w.heap.size w w'))
   case atStart => exact ⟨(0), zrs, H', ⟨Nat.le_refl _⟩, ⟨zr HO_3⟩, ⟨zr HO_8⟩, ⟨zh HB⟩⟩
   case round =>
    clear H'
    try clear c2
    try clear c2b0
    try clear c2b1
    try clear c6
    try clear c6b0
    try clear c6b1
    try clear c7
    try clear c7b0
    try clear c7b1
    try clear c15
    try clear c15b0
    obtain ⟨x14_2, rfl, HA, HK2, HO_3, HO_8, HB⟩ := hrel
    cases gk with
    | zero => exact absurd HA.out (by simp [laws_FnSuggest.l1])
    | succ k2 =>
     have H := HA.out
     clear HA
     simp only [laws_FnSuggest.l1] at H
     by_cases c32 : x14_2 < (t353.length : Int)
     rotate_left
     ·rw [if_neg c32] at H
      have c32b0 : decide (x14_2 < (t353.length : Int)) = false := decide_eq_false c32
      clear c32
      obtain rfl := Option.some.inj H
      go_wp2
      repeat (go_quiet (fail); try go_wp2)
      go_ret
      exact ⟨zre, zh HB⟩
     rw [if_pos c32] at H
     have c32b0 : decide (x14_2 < (t353.length : Int)) = true := decide_eq_true c32
     clear c32
     by_cases c33 : 0 ≤ x14_2
     rotate_left
     ·rw [if_neg c33] at H
      exact absurd H (by simp)
     rw [if_pos c33] at H
     have c33b0 : decide (0 ≤ x14_2) = true := decide_eq_true c33
     clear c33
     replace H := Option.bind_eq_some_iff.mp H
     obtain ⟨⟨t372, t373⟩, A340, H⟩ := H
     try dsimp only at H
     have A34 := Aside0.mk A340
     clear A340
     have H' := Aside0.mk H
     clear H
     have p371 : 0 ≤ (x14_2 : Int) := of_decide_eq_true zas
     have q371 : x14_2 < (t353.length : Int) := of_decide_eq_true zas
     obtain ⟨ad371, e371, hx371_0⟩ := Kd.at_string (Kd.R_reads' HO_3.out).2.2 x14_2 p371 q371
     cases e371
     replace p371 := eq_true p371
     replace q371 := eq_true q371
     go_wp2_with (first | (go_at_call 23; (with_reducible refine (impl_Edits.calls k2 t354 (rdOf ByteArray.empty t353 x14_2) t372 t373 _ ?side1 A34.out).mono ?_); (case side1 => exact TabW.below HT.out (zh HB)); rintro e w35 ⟨rfl, hb⟩; replace HO_3 := Aside0.mk (Kd.R_below (zr HO_3) hb); replace HO_8 := Aside0.mk (Kd.R_below (zr HO_8) hb); replace HB := Aside0.mk (below_step (zh HB) hb); (try clear hb); (try clear hb2); (try clear hk); (try clear hi)))
     repeat (go_quiet (first | (go_at_call 23; (with_reducible refine (impl_Edits.calls k2 t354 (rdOf ByteArray.empty t353 x14_2) t372 t373 _ ?side1 A34.out).mono ?_); (case side1 => exact TabW.below HT.out (zh HB)); rintro e w35 ⟨rfl, hb⟩; replace HO_3 := Aside0.mk (Kd.R_below (zr HO_3) hb); replace HO_8 := Aside0.mk (Kd.R_below (zr HO_8) hb); replace HB := Aside0.mk (below_step (zh HB) hb); (try clear hb); (try clear hb2); (try clear hk); (try clear hi))); try go_wp2_with (first | (go_at_call 23; (with_reducible refine (impl_Edits.calls k2 t354 (rdOf ByteArray.empty t353 x14_2) t372 t373 _ ?side1 A34.out).mono ?_); (case side1 => exact TabW.below HT.out (zh HB)); rintro e w35 ⟨rfl, hb⟩; replace HO_3 := Aside0.mk (Kd.R_below (zr HO_3) hb); replace HO_8 := Aside0.mk (Kd.R_below (zr HO_8) hb); replace HB := Aside0.mk (below_step (zh HB) hb); (try clear hb); (try clear hb2); (try clear hk); (try clear hi))))
     go_loopg [17, 18] k2 (fun kq v17 v18 w' => ∃ (x17_3 : Bool) (x18_3 : Int), v17 = .bool x17_3 ∧ v18 = .int .i64 x18_3 ∧ Aside0 (laws_FnSuggest.l2 kq t353 t354 t355 t362 x10_1 x14_2 t372 t373 x17_3 x18_3 = some r) ∧ Aside0 (kq ≤ k2) ∧ Aside0 (Kd.R Kd.string 9 w' w.heap.size (fun k_ => some k_ ≠ ((.slice Ao31 t362.length co31) : Value).ownBlock) (.slice (some ad371) t353.length co10) t353) ∧ Aside0 (Kd.R Kd.string 9 w' w.heap.size (fun k_ => some k_ ≠ ((.slice (some ad371) t353.length co10) : Value).ownBlock) (.slice Ao31 t362.length co31) t362) ∧ Aside0 (Below w.heap.size w w'))
     case atStart => exact ⟨(false), (0), zrs, zrs, H', ⟨Nat.le_refl _⟩, ⟨zr HO_3⟩, ⟨zr HO_8⟩, ⟨zh HB⟩⟩
     case round =>
      clear H'
      try clear c2
      try clear c2b0
      try clear c2b1
      try clear c6
      try clear c6b0
      try clear c6b1
      try clear c7
      try clear c7b0
      try clear c7b1
      try clear c15
      try clear c15b0
      try clear c32
      try clear c32b0
      try clear c33
      try clear c33b0
      try clear hx371_0
      try clear p371
      try clear q371
      obtain ⟨x17_3, x18_3, rfl, rfl, HA, HK3, HO_3, HO_8, HB⟩ := hrel
      cases gk with
      | zero => exact absurd HA.out (by simp [laws_FnSuggest.l2])
      | succ k3 =>
       have H := HA.out
       clear HA
       simp only [laws_FnSuggest.l2] at H
       by_cases c37 : x18_3 < (t362.length : Int)
       ·rw [if_pos c37] at H
        have c37b0 : decide (x18_3 < (t362.length : Int)) = true := decide_eq_true c37
        clear c37
        by_cases c38 : x17_3 = true
        ·subst c38
         rw [if_pos rfl] at H
         have H' := Aside0.mk H
         clear H
         go_wp2
         repeat (go_quiet (fail); try go_wp2)
         go_roundg k3
         case measure => have := HK1.out; have := HK2.out; have := HK3.out; omega
         case rel => exact ⟨(true), (wrap64 (x18_3 + 1)), zrs, zrs, H', ⟨by have := HK1.out; have := HK2.out; have := HK3.out; omega⟩, ⟨zr HO_3⟩, ⟨zr HO_8⟩, ⟨zh HB⟩⟩
        replace c38 := Bool.eq_false_iff.mpr c38
        subst c38
        rw [if_neg (show ¬ (false = true) by decide)] at H
        by_cases c39 : 0 ≤ x18_3
        rotate_left
        ·rw [if_neg c39] at H
         exact absurd H (by simp)
        rw [if_pos c39] at H
        have c39b0 : decide (0 ≤ x18_3) = true := decide_eq_true c39
        clear c39
        by_cases c40 : 0 ≤ x14_2
        rotate_left
        ·rw [if_neg c40] at H
         exact absurd H (by simp)
        rw [if_pos c40] at H
        have c40b0 : decide (0 ≤ x14_2) = true := decide_eq_true c40
        clear c40
        by_cases c41 : x14_2 < (t353.length : Int)
        rotate_left
        ·rw [if_neg c41] at H
         exact absurd H (by simp)
        rw [if_pos c41] at H
        have c41b0 : decide (x14_2 < (t353.length : Int)) = true := decide_eq_true c41
        clear c41
        have H' := Aside0.mk H
        clear H
        have p374 : 0 ≤ (x18_3 : Int) := of_decide_eq_true zas
        have q374 : x18_3 < (t362.length : Int) := of_decide_eq_true zas
        obtain ⟨ad374, e374, hx374_0⟩ := Kd.at_string (Kd.R_reads' HO_8.out).2.2 x18_3 p374 q374
        cases e374
        replace p374 := eq_true p374
        replace q374 := eq_true q374
        have p375 : 0 ≤ (x14_2 : Int) := of_decide_eq_true zas
        have q375 : x14_2 < (t353.length : Int) := of_decide_eq_true zas
        obtain ⟨ad375, e375, hx375_0⟩ := Kd.at_string (Kd.R_reads' HO_3.out).2.2 x14_2 p375 q375
        obtain rfl : ad371 = ad375 := (by injection e375)
        replace p375 := eq_true p375
        replace q375 := eq_true q375
        go_wp2
        repeat (go_quiet (fail); try go_wp2)
        go_roundg k3
        case measure => have := HK1.out; have := HK2.out; have := HK3.out; omega
        case rel => exact ⟨(((rdOf ByteArray.empty t362 x18_3).toList == (rdOf ByteArray.empty t353 x14_2).toList)), (wrap64 (x18_3 + 1)), zrs, zrs, H', ⟨by have := HK1.out; have := HK2.out; have := HK3.out; omega⟩, ⟨zr HO_3⟩, ⟨zr HO_8⟩, ⟨zh HB⟩⟩
       rw [if_neg c37] at H
       have c37b0 : decide (x18_3 < (t362.length : Int)) = false := decide_eq_false c37
       clear c37
       have HC42 := Aside0.mk H
       clear H
       go_upto_region 27 with (fail)
       repeat (go_quiet (fail); go_upto_region 27 with (fail))
       go_cut [148] (fun v148 wc => ∃ (kq : Nat) (x148_41 : Bool), v148 = .bool x148_41 ∧ Aside0 (laws_FnSuggest.j4 kq t353 t354 t355 t362 x10_1 x14_2 x148_41 = some r) ∧ Aside0 (kq ≤ k3) ∧ Aside0 (Kd.R Kd.string 9 wc w.heap.size (fun k_ => some k_ ≠ ((.slice Ao31 t362.length co31) : Value).ownBlock) (.slice (some ad371) t353.length co10) t353) ∧ Aside0 (Kd.R Kd.string 9 wc w.heap.size (fun k_ => some k_ ≠ ((.slice (some ad371) t353.length co10) : Value).ownBlock) (.slice Ao31 t362.length co31) t362) ∧ Aside0 (Below w.heap.size w wc))
       case first =>
        have H := HC42.out
        clear HC42
        by_cases c43 : t373 = 0
        rotate_left
        ·rw [if_neg c43] at H
         have c43b0 : (t373 == 0) = false := beq_eq_false_iff_ne.mpr c43
         have c43b1 : (t373 != 0) = true := bne_iff_ne.mpr c43
         (first | rw [c43b0] | (simp only [i64_w, i32_w]; rw [c43b0]) | skip)
         have H' := Aside0.mk H
         clear H
         go_wp2
         repeat (go_quiet (fail); try go_wp2)
         go_meet
         case rel => exact ⟨_, (false), zrs, H', ⟨by have := HK1.out; have := HK2.out; have := HK3.out; first | omega | exact Nat.le_refl _⟩, ⟨zr HO_3⟩, ⟨zr HO_8⟩, ⟨zh HB⟩⟩
        rw [if_pos c43] at H
        have c43b0 : (t373 == 0) = true := beq_iff_eq.mpr c43
        have c43b1 : (t373 != 0) = false := bne_eq_false_iff_eq.mpr c43
        clear c43
        (first | rw [c43b0] | (simp only [i64_w, i32_w]; rw [c43b0]) | skip)
        by_cases c44 : t372 ≤ 2
        rotate_left
        ·rw [if_neg c44] at H
         have c44b0 : decide (t372 ≤ 2) = false := decide_eq_false c44
         clear c44
         have H' := Aside0.mk H
         clear H
         go_wp2
         repeat (go_quiet (fail); try go_wp2)
         go_meet
         case rel => exact ⟨_, (false), zrs, H', ⟨by have := HK1.out; have := HK2.out; have := HK3.out; first | omega | exact Nat.le_refl _⟩, ⟨zr HO_3⟩, ⟨zr HO_8⟩, ⟨zh HB⟩⟩
        rw [if_pos c44] at H
        have c44b0 : decide (t372 ≤ 2) = true := decide_eq_true c44
        clear c44
        by_cases c45 : x17_3 = true
        ·subst c45
         rw [if_pos rfl] at H
         have H' := Aside0.mk H
         clear H
         go_wp2
         repeat (go_quiet (fail); try go_wp2)
         go_meet
         case rel => exact ⟨_, (false), zrs, H', ⟨by have := HK1.out; have := HK2.out; have := HK3.out; first | omega | exact Nat.le_refl _⟩, ⟨zr HO_3⟩, ⟨zr HO_8⟩, ⟨zh HB⟩⟩
        replace c45 := Bool.eq_false_iff.mpr c45
        subst c45
        rw [if_neg (show ¬ (false = true) by decide)] at H
        by_cases c46 : (t362.length : Int) < t355
        ·rw [if_pos c46] at H
         have c46b0 : decide ((t362.length : Int) < t355) = true := decide_eq_true c46
         clear c46
         have H' := Aside0.mk H
         clear H
         go_wp2
         repeat (go_quiet (fail); try go_wp2)
         go_meet
         case rel => exact ⟨_, (true), zrs, H', ⟨by have := HK1.out; have := HK2.out; have := HK3.out; first | omega | exact Nat.le_refl _⟩, ⟨zr HO_3⟩, ⟨zr HO_8⟩, ⟨zh HB⟩⟩
        rw [if_neg c46] at H
        have c46b0 : decide ((t362.length : Int) < t355) = false := decide_eq_false c46
        clear c46
        have H' := Aside0.mk H
        clear H
        go_wp2
        repeat (go_quiet (fail); try go_wp2)
        go_meet
        case rel => exact ⟨_, (decide (t372 < x10_1)), zrs, H', ⟨by have := HK1.out; have := HK2.out; have := HK3.out; first | omega | exact Nat.le_refl _⟩, ⟨zr HO_3⟩, ⟨zr HO_8⟩, ⟨zh HB⟩⟩
       case rest =>
        clear HC42
        try clear c2
        try clear c2b0
        try clear c2b1
        try clear c6
        try clear c6b0
        try clear c6b1
        try clear c7
        try clear c7b0
        try clear c7b1
        try clear c15
        try clear c15b0
        try clear c32
        try clear c32b0
        try clear c33
        try clear c33b0
        try clear c37
        try clear c37b0
        try clear hx371_0
        try clear p371
        try clear q371
        obtain ⟨kq, x148_41, rfl, HA, HJ41, HO_3, HO_8, HB⟩ := hcut
        cases kq with
        | zero => exact absurd HA.out (by simp [laws_FnSuggest.j4])
        | succ kj41 =>
         have H := HA.out
         clear HA
         simp only [laws_FnSuggest.j4] at H
         by_cases c47 : x148_41 = true
         ·subst c47
          rw [if_pos rfl] at H
          obtain rfl := Option.some.inj H
          go_wp2
          repeat (go_quiet (fail); try go_wp2)
          go_ret
          exact ⟨zre, zh HB⟩
         replace c47 := Bool.eq_false_iff.mpr c47
         subst c47
         rw [if_neg (show ¬ (false = true) by decide)] at H
         have H' := Aside0.mk H
         clear H
         go_wp2
         repeat (go_quiet (fail); try go_wp2)
         go_roundg kj41
         case measure => have := HK1.out; have := HK2.out; have := HK3.out; have := HJ41.out; omega
         case rel => exact ⟨(wrap64 (x14_2 + 1)), zrs, H', ⟨by have := HK1.out; have := HK2.out; have := HK3.out; have := HJ41.out; omega⟩, ⟨zr HO_3⟩, ⟨zr HO_8⟩, ⟨zh HB⟩⟩
/-- THE ONE PURE STATEMENT of laws_FnSuggest: yours. -/
def laws_FnSuggest.Pure : Prop := ∀ (l0 : List Int), l0.length ≤ maxLen → l0.length * 1 ≤ 140737488351232 → (∀ x ∈ l0, (Lit.int .u8 x).wf = true) → ∃ k, laws_FnSuggest.f k l0 = some true
theorem laws_FnSuggest.walk (P : laws_FnSuggest.Pure) (a0 : Option Addr) (len0 cap0 : Nat) (z0 : List Int) (w : World) (w0 : (a0 = none ∧ len0 = 0 ∧ cap0 = 0 ∧ z0 = []) ∨ ∃ x, a0 = some x ∧ len0 ≤ cap0 ∧ cap0 ≤ maxLen ∧ z0.length = cap0 ∧ (∀ i, i < z0.length → w.cell? (x.add i) = some (.int .u8 (z0.getD i 0))) ∧ ∀ n ∈ z0, (Lit.int .u8 n).wf = true) (y0 : len0 * 1 ≤ 140737488351232) (hT : TabW w) :
 Calls Tryd.prog 14 #[.slice a0 len0 cap0] w fun e w' => e = .returned (.bool true) ∧ Below w.heap.size w w' := by
 obtain ⟨l0, rfl, hr0, hm0, hw0, hc0⟩ := ReadsInt.ofRowC w0
 obtain ⟨k, h⟩ := P l0 hm0 y0 hw0
 refine (laws_FnSuggest.calls k _ _ l0 true w (Kd.C_of_reads (d := (0 : Int)) (h1 := fun _ => rfl) hr0) hc0 hT h).mono ?_
 rintro e w' ⟨rfl, hd⟩
 exact ⟨rfl, hd⟩

end Go.Proofs.YtcokeankiedfcaaDoor.XFnSuggest
