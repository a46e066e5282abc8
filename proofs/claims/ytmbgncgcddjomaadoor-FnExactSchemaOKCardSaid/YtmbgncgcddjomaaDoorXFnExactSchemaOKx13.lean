-- A printed text of this session (wip/x/xprint.py).
import Derived.Test.YtmbgncgcddjomaaDoorXFnExactSchemaOKx0
import Derived.Test.YtmbgncgcddjomaaDoorXFnExactSchemaOKx1
import Derived.Test.YtmbgncgcddjomaaDoorXFnExactSchemaOKx6
import Derived.Test.YtmbgncgcddjomaaDoorXFnExactSchemaOKx7
import Derived.Test.YtmbgncgcddjomaaDoorXFnExactSchemaOKx10
import Derived.Test.YtmbgncgcddjomaaDoorXFnExactSchemaOKx12
namespace Go.Proofs.YtmbgncgcddjomaaDoor.XFnExactSchemaOK
open Go.RowKit Go.Proofs.YtmbgncgcddjomaaDoorW.PrintWords Go.Proofs.YtmbgncgcddjomaaDoorW.PrintLast Go.Proofs.YtmbgncgcddjomaaDoorW.PrintMore
attribute [local go_sem] max2_int min2_int max_two min_two max_three min_three max_four min_four   -- for this text's walks alone
set_option linter.unusedVariables false
set_option linter.unusedSimpArgs false

/-! ### laws_FnExactSchemaOK: function 3 -/
def laws_FnExactSchemaOK.f (k : Nat) (l0_0 : List (S50)) : Option (Bool) := (laws_szSchema.f k l0_0 1048576).bind fun t270 => (if t270 < 0 then (some true) else ((laws_toSchema.f k l0_0).bind fun t271 => ((spec_SchemaOK.f k t271).bind fun t274 => ((laws_toSchema.f k l0_0).bind fun t275 => ((impl_SchemaOK.f k t275).bind fun t279 => (if (t279 != t274) = true then (some false) else ((laws_toSchema.f k l0_0).bind fun t280 => ((laws_eqSchema.f k t275 t280).bind fun t283 => (if t283 = true then (some true) else (some false))))))))))
theorem laws_FnExactSchemaOK.mono : ∀ a0 k, LeO (laws_FnExactSchemaOK.f k a0) (laws_FnExactSchemaOK.f (k + 1) a0) := by
 intro a0 k
 unfold laws_FnExactSchemaOK.f
 repeat' first
  | (with_reducible exact impl_SchemaOK.mono _ _)
  | (with_reducible exact laws_eqSchema.mono _ _ _)
  | (with_reducible exact laws_szSchema.mono _ _ _)
  | (with_reducible exact laws_toSchema.mono _ _)
  | (with_reducible exact spec_SchemaOK.mono _ _)
  | (with_reducible exact LeO.refl _)
  | (with_reducible exact LeO.none _)
  | (with_reducible refine LeO.ite ?_ ?_)
  | (with_reducible refine LeO.bind ?_ (fun _ => ?_))
set_option maxHeartbeats 8000000 in
set_option maxRecDepth 100000 in
theorem laws_FnExactSchemaOK.calls (k : Nat) (A0_0 : Option Addr) (c0_0 : Nat) (l0_0 : List (S50)) (r : Bool) (w : World) (hr0_0 : Kd.C k50 w A0_0 l0_0.length l0_0) (hc0_0 : l0_0.length ≤ c0_0) (hT : TabW w) (h : laws_FnExactSchemaOK.f k l0_0 = some r) :
 Calls Tryd.prog 3 #[.agg #[.slice A0_0 l0_0.length c0_0]] w fun e w' => e = .returned (.bool r) ∧ Below w.heap.size w w' := by
 have hu24 := Tryd.underlying24
 have hu29 := Tryd.underlying29
 have HR0_0 := Aside0.mk hr0_0
 have HC0_0 := Aside0.mk hc0_0
 clear hr0_0 hc0_0
 have HB := Aside0.mk (Below.refl w.heap.size w)
 have HT := Aside0.mk hT
 clear hT
 have H := h
 unfold laws_FnExactSchemaOK.f at H
 clear h
 replace H := Option.bind_eq_some_iff.mp H
 obtain ⟨t270, A20, H⟩ := H
 try dsimp only at H
 have A2 := Aside0.mk A20
 clear A20
 by_cases c3 : t270 < 0
 ·rw [if_pos c3] at H
  have c3b0 : decide (t270 < 0) = true := decide_eq_true c3
  clear c3
  obtain rfl := Option.some.inj H
  go_enter Tryd.func3, Tryd.ntmps3
  go_wp2_with (first | ((with_reducible refine gate_dst (N := 1) rfl ?_); refine box_event (by rfl) (N := 1) (by rfl) (cs := #[.slice A0_0 l0_0.length c0_0]) (t := 24) zgs ?_; intro gb269 hg w4 hbox hb; have BK269 := Aside0.mk (hbox); have GW269 := zge hg (below_size (zh HB)); have GE269 := zge hg (below_size (zh HB)); replace HB := Aside0.mk (below_step (zh HB) hb); clear hb hbox hg; obtain ⟨hcz5_0, hfz5_0⟩ := zc1 BK269) | ((with_reducible refine gate_callee (f := 4) rfl ?_); refine goesL_ (some 9) rfl rfl Tryd.func4 (by kernel_rfl) rfl #[.agg #[.slice A0_0 l0_0.length c0_0], .int .i64 1048576] rfl zar ?_; (with_reducible refine (laws_szSchema.calls k _ _ l0_0 1048576 t270 _ ?side1 ?side2 A2.out).mono ?_); (case side1 => exact zC (Kd.C_below HR0_0.out HB.out)); (case side2 => exact HC0_0.out); rintro e w6 ⟨rfl, hb⟩; refine ⟨_, rfl, ?_⟩; replace BK269 := Aside0.mk (blk_below (zb BK269) hb); replace HB := Aside0.mk (below_step (zg HB) hb); (try clear hb); (try clear hb2); (try clear hk); (try clear hi)))
  go_ret
  exact ⟨zre, zg HB⟩
 rw [if_neg c3] at H
 have c3b0 : decide (t270 < 0) = false := decide_eq_false c3
 clear c3
 replace H := Option.bind_eq_some_iff.mp H
 obtain ⟨t271, A80, H⟩ := H
 try dsimp only at H
 have A8 := Aside0.mk A80
 clear A80
 replace H := Option.bind_eq_some_iff.mp H
 obtain ⟨t274, A90, H⟩ := H
 try dsimp only at H
 have A9 := Aside0.mk A90
 clear A90
 replace H := Option.bind_eq_some_iff.mp H
 obtain ⟨t275, A100, H⟩ := H
 try dsimp only at H
 have A10 := Aside0.mk A100
 clear A100
 replace H := Option.bind_eq_some_iff.mp H
 obtain ⟨t279, A110, H⟩ := H
 try dsimp only at H
 have A11 := Aside0.mk A110
 clear A110
 by_cases c12 : (t279 != t274) = true
 ·rw [if_pos c12] at H
  have c12b0 : (t279 != t274) = true := c12
  (try (have c12b1 : decide (t279 = t274) = false := by simpa using c12))
  (try (have c12b2 : (t279 == t274) = false := by simpa using c12))
  (try (have c12b3 : ¬ (t279 = t274) := by simpa using c12))
  clear c12
  obtain rfl := Option.some.inj H
  go_enter Tryd.func3, Tryd.ntmps3
  go_wp2_with (first | ((with_reducible refine gate_dst (N := 1) rfl ?_); refine box_event (by rfl) (N := 1) (by rfl) (cs := #[.slice A0_0 l0_0.length c0_0]) (t := 24) zgs ?_; intro gb269 hg w13 hbox hb; have BK269 := Aside0.mk (hbox); have GW269 := zge hg (below_size (zh HB)); have GE269 := zge hg (below_size (zh HB)); replace HB := Aside0.mk (below_step (zh HB) hb); clear hb hbox hg; obtain ⟨hcz14_0, hfz14_0⟩ := zc1 BK269) | ((with_reducible refine gate_callee (f := 4) rfl ?_); refine goesL_ (some 9) rfl rfl Tryd.func4 (by kernel_rfl) rfl #[.agg #[.slice A0_0 l0_0.length c0_0], .int .i64 1048576] rfl zar ?_; (with_reducible refine (laws_szSchema.calls k _ _ l0_0 1048576 t270 _ ?side1 ?side2 A2.out).mono ?_); (case side1 => exact zC (Kd.C_below HR0_0.out HB.out)); (case side2 => exact HC0_0.out); rintro e w15 ⟨rfl, hb⟩; refine ⟨_, rfl, ?_⟩; replace BK269 := Aside0.mk (blk_below (zb BK269) hb); replace HB := Aside0.mk (below_step (zg HB) hb); (try clear hb); (try clear hb2); (try clear hk); (try clear hi); obtain ⟨hcz17_0, hfz17_0⟩ := zc1 BK269) | ((with_reducible refine gate_callee (f := 6) rfl ?_); refine goesL_ (some 13) rfl rfl Tryd.func6 (by kernel_rfl) rfl #[.agg #[.slice A0_0 l0_0.length c0_0]] rfl zar ?_; (with_reducible refine (laws_toSchema.calls k _ _ l0_0 t271 _ ?side1 ?side2 A8.out).mono ?_); (case side1 => exact zC (Kd.C_below HR0_0.out HB.out)); (case side2 => exact HC0_0.out); rintro e w18 ⟨v272, rfl, ho0, hb⟩; refine ⟨_, rfl, ?_⟩; have HO273 := Aside0.mk (Kd.S_lower ho0 (below_size (zg HB))); replace BK269 := Aside0.mk (blk_below (zb BK269) hb); replace HB := Aside0.mk (below_step (zg HB) hb); (try clear hb ho0); (try clear hb); (try clear hk); (try clear hi); obtain ⟨Ao20, co20, eo20⟩ := Kd.S_slice HO273.out; subst eo20) | ((with_reducible refine gate_callee (f := 5) rfl ?_); refine goesL_ (some 14) rfl rfl Tryd.func5 (by kernel_rfl) rfl #[.agg #[.slice Ao20 t271.length co20]] rfl zar ?_; (with_reducible refine (spec_SchemaOK.calls k _ _ t271 t274 _ ?side1 ?side2 A9.out).mono ?_); (case side1 => exact zC (Kd.S_reads' HO273.out).2.2); (case side2 => exact (Kd.S_reads' HO273.out).2.1); rintro e w21 ⟨rfl, hb⟩; refine ⟨_, rfl, ?_⟩; replace HO273 := Aside0.mk (Kd.S_below (zs HO273) hb); replace BK269 := Aside0.mk (blk_below (zb BK269) hb); replace HB := Aside0.mk (below_step (zg HB) hb); (try clear hb); (try clear hb2); (try clear hk); (try clear hi); obtain ⟨hcz23_0, hfz23_0⟩ := zc1 BK269) | ((with_reducible refine gate_callee (f := 6) rfl ?_); refine goesL_ (some 16) rfl rfl Tryd.func6 (by kernel_rfl) rfl #[.agg #[.slice A0_0 l0_0.length c0_0]] rfl zar ?_; (with_reducible refine (laws_toSchema.calls k _ _ l0_0 t275 _ ?side1 ?side2 A10.out).mono ?_); (case side1 => exact zC (Kd.C_below HR0_0.out HB.out)); (case side2 => exact HC0_0.out); rintro e w24 ⟨v276, rfl, ho0, hb⟩; refine ⟨_, rfl, ?_⟩; obtain ⟨nb25, hnb_⟩ := Kd.pivot_ hb; have HNB25 := Aside0.mk hnb_; clear hnb_; have HO277 := Aside0.mk (Kd.S_lower (Kd.S_geN (Kd.S_new' ho0 (Kd.S_lt (zs HO273))) HNB25.out) (below_size (zg HB))); replace HO273 := Aside0.mk (Kd.S_elderN (zs HO273) (Kd.S_base ho0) hb HNB25.out); replace BK269 := Aside0.mk (blk_below (zb BK269) hb); replace HB := Aside0.mk (below_step (zg HB) hb); (try clear hb ho0); (try clear hb); (try clear hk); (try clear hi)) | ((with_reducible refine gate_dst (N := 5) rfl ?_); refine box_event (by rfl) (N := 5) (by rfl) (cs := #[.slice none 0 0]) (t := 29) zgs ?_; intro gb278 hg w26 hbox hb; replace HO273 := Aside0.mk (Kd.S_below (zs HO273) hb); replace HO277 := Aside0.mk (Kd.S_below (zs HO277) hb); have BK278 := Aside0.mk (hbox); have GW278 := zge hg (below_size (zg HB)); have GE278 := zge hg (below_size (zg HB)); replace HB := Aside0.mk (below_step (zg HB) hb); have NB269_278 := znl hg (blk_lt (zb BK269)); have NB278_269 := zng hg (blk_lt (zb BK269)); replace BK269 := Aside0.mk (blk_below (zb BK269) hb); clear hb hbox hg; obtain ⟨Ao27, co27, eo27⟩ := Kd.S_slice HO277.out; subst eo27; have hnb28 := NB278_269.out; have hnc28 := NB269_278.out; obtain ⟨hcz29_0, hfz29_0⟩ := zc1 BK278) | ((with_reducible refine gate_callee (f := 7) rfl ?_); refine goesL_ (some 18) rfl rfl Tryd.func7 (by kernel_rfl) rfl #[.agg #[.slice Ao27 t275.length co27]] rfl zar ?_; (with_reducible refine (impl_SchemaOK.calls k _ _ t275 t279 _ ?side1 ?side2 ?side3 A11.out).mono ?_); (case side1 => refine (Kd.S_reads' (e := 39) (base := w.heap.size) (ok := fun k_ => ((True ∧ some k_ ≠ (.slice Ao20 t271.length co20 : Value).ownBlock) ∧ nb25 ≤ k_)) (n := t275.length) (c := co27) ?_).2.2; exact (by (with_reducible repeat (first | apply Kd.S_alloc | apply Kd.S_drewN | apply Kd.S_drew)); exact (Kd.S_mono (Kd.S_far (p := ⟨gb278, 0, none⟩) (Kd.S_types HO277.out BK278.out (by decide)) (fun _ hk => hk.2) (.slice Ao27 t275.length co27)) (fun _ h_ => h_.1)))); (case side2 => exact (Kd.S_reads' HO277.out).2.1); (case side3 => exact TabW.below HT.out (zg HB)); rintro e w30 ⟨rfl, hb⟩; refine ⟨_, rfl, ?_⟩; replace HO273 := Aside0.mk (Kd.S_below (by (with_reducible repeat (first | apply Kd.S_alloc | apply Kd.S_drewN | apply Kd.S_drew)); exact (Kd.S_mono (Kd.S_far (p := ⟨gb278, 0, none⟩) (Kd.S_types HO273.out BK278.out (by decide)) (fun _ hk => hk.2) (.slice Ao27 t275.length co27)) (fun _ h_ => h_.1))) hb); replace HO277 := Aside0.mk (Kd.S_below (by (with_reducible repeat (first | apply Kd.S_alloc | apply Kd.S_drewN | apply Kd.S_drew)); exact (Kd.S_mono (Kd.S_far (p := ⟨gb278, 0, none⟩) (Kd.S_types HO277.out BK278.out (by decide)) (fun _ hk => hk.2) (.slice Ao27 t275.length co27)) (fun _ h_ => h_.1))) hb); replace BK269 := Aside0.mk (blk_below (g := gb269) (o := .cells #[.slice A0_0 l0_0.length c0_0] 24 (0, 0)) (zp BK269) hb); replace BK278 := Aside0.mk (blk_below (g := gb278) (o := .cells #[.slice Ao27 t275.length co27] 29 (0, 0)) (zp BK278) hb); replace HB := Aside0.mk (below_step (zg HB) hb); (try clear hb); (try clear hb2); (try clear hk); (try clear hi)))
  go_ret
  exact ⟨zre, zg HB⟩
 rw [if_neg c12] at H
 have c12b0 : (t279 != t274) = false := by simpa using c12
 (try (have c12b1 : decide (t279 = t274) = true := by simpa using c12))
 (try (have c12b2 : (t279 == t274) = true := by simpa using c12))
 clear c12
 replace H := Option.bind_eq_some_iff.mp H
 obtain ⟨t280, A320, H⟩ := H
 try dsimp only at H
 have A32 := Aside0.mk A320
 clear A320
 replace H := Option.bind_eq_some_iff.mp H
 obtain ⟨t283, A330, H⟩ := H
 try dsimp only at H
 have A33 := Aside0.mk A330
 clear A330
 by_cases c34 : t283 = true
 ·subst c34
  rw [if_pos rfl] at H
  obtain rfl := Option.some.inj H
  go_enter Tryd.func3, Tryd.ntmps3
  try go_wp2_with (first | ((with_reducible refine gate_dst (N := 1) rfl ?_); refine box_event (by rfl) (N := 1) (by rfl) (cs := #[.slice A0_0 l0_0.length c0_0]) (t := 24) zgs ?_; intro gb269 hg w35 hbox hb; have BK269 := Aside0.mk (hbox); have GW269 := zge hg (below_size (zh HB)); have GE269 := zge hg (below_size (zh HB)); replace HB := Aside0.mk (below_step (zh HB) hb); clear hb hbox hg; obtain ⟨hcz36_0, hfz36_0⟩ := zc1 BK269) | ((with_reducible refine gate_callee (f := 4) rfl ?_); refine goesL_ (some 9) rfl rfl Tryd.func4 (by kernel_rfl) rfl #[.agg #[.slice A0_0 l0_0.length c0_0], .int .i64 1048576] rfl zar ?_; (with_reducible refine (laws_szSchema.calls k _ _ l0_0 1048576 t270 _ ?side1 ?side2 A2.out).mono ?_); (case side1 => exact zC (Kd.C_below HR0_0.out HB.out)); (case side2 => exact HC0_0.out); rintro e w37 ⟨rfl, hb⟩; refine ⟨_, rfl, ?_⟩; replace BK269 := Aside0.mk (blk_below (zb BK269) hb); replace HB := Aside0.mk (below_step (zg HB) hb); (try clear hb); (try clear hb2); (try clear hk); (try clear hi); obtain ⟨hcz39_0, hfz39_0⟩ := zc1 BK269) | ((with_reducible refine gate_callee (f := 6) rfl ?_); refine goesL_ (some 13) rfl rfl Tryd.func6 (by kernel_rfl) rfl #[.agg #[.slice A0_0 l0_0.length c0_0]] rfl zar ?_; (with_reducible refine (laws_toSchema.calls k _ _ l0_0 t271 _ ?side1 ?side2 A8.out).mono ?_); (case side1 => exact zC (Kd.C_below HR0_0.out HB.out)); (case side2 => exact HC0_0.out); rintro e w40 ⟨v272, rfl, ho0, hb⟩; refine ⟨_, rfl, ?_⟩; have HO273 := Aside0.mk (Kd.S_lower ho0 (below_size (zg HB))); replace BK269 := Aside0.mk (blk_below (zb BK269) hb); replace HB := Aside0.mk (below_step (zg HB) hb); (try clear hb ho0); (try clear hb); (try clear hk); (try clear hi); obtain ⟨Ao42, co42, eo42⟩ := Kd.S_slice HO273.out; subst eo42) | ((with_reducible refine gate_callee (f := 5) rfl ?_); refine goesL_ (some 14) rfl rfl Tryd.func5 (by kernel_rfl) rfl #[.agg #[.slice Ao42 t271.length co42]] rfl zar ?_; (with_reducible refine (spec_SchemaOK.calls k _ _ t271 t274 _ ?side1 ?side2 A9.out).mono ?_); (case side1 => exact zC (Kd.S_reads' HO273.out).2.2); (case side2 => exact (Kd.S_reads' HO273.out).2.1); rintro e w43 ⟨rfl, hb⟩; refine ⟨_, rfl, ?_⟩; replace HO273 := Aside0.mk (Kd.S_below (zs HO273) hb); replace BK269 := Aside0.mk (blk_below (zb BK269) hb); replace HB := Aside0.mk (below_step (zg HB) hb); (try clear hb); (try clear hb2); (try clear hk); (try clear hi); obtain ⟨hcz45_0, hfz45_0⟩ := zc1 BK269) | ((with_reducible refine gate_callee (f := 6) rfl ?_); refine goesL_ (some 16) rfl rfl Tryd.func6 (by kernel_rfl) rfl #[.agg #[.slice A0_0 l0_0.length c0_0]] rfl zar ?_; (with_reducible refine (laws_toSchema.calls k _ _ l0_0 t275 _ ?side1 ?side2 A10.out).mono ?_); (case side1 => exact zC (Kd.C_below HR0_0.out HB.out)); (case side2 => exact HC0_0.out); rintro e w46 ⟨v276, rfl, ho0, hb⟩; refine ⟨_, rfl, ?_⟩; obtain ⟨nb47, hnb_⟩ := Kd.pivot_ hb; have HNB47 := Aside0.mk hnb_; clear hnb_; have HO277 := Aside0.mk (Kd.S_lower (Kd.S_geN (Kd.S_new' ho0 (Kd.S_lt (zs HO273))) HNB47.out) (below_size (zg HB))); replace HO273 := Aside0.mk (Kd.S_elderN (zs HO273) (Kd.S_base ho0) hb HNB47.out); replace BK269 := Aside0.mk (blk_below (zb BK269) hb); replace HB := Aside0.mk (below_step (zg HB) hb); (try clear hb ho0); (try clear hb); (try clear hk); (try clear hi)) | ((with_reducible refine gate_dst (N := 5) rfl ?_); refine box_event (by rfl) (N := 5) (by rfl) (cs := #[.slice none 0 0]) (t := 29) zgs ?_; intro gb278 hg w48 hbox hb; replace HO273 := Aside0.mk (Kd.S_below (zs HO273) hb); replace HO277 := Aside0.mk (Kd.S_below (zs HO277) hb); have BK278 := Aside0.mk (hbox); have GW278 := zge hg (below_size (zg HB)); have GE278 := zge hg (below_size (zg HB)); replace HB := Aside0.mk (below_step (zg HB) hb); have NB269_278 := znl hg (blk_lt (zb BK269)); have NB278_269 := zng hg (blk_lt (zb BK269)); replace BK269 := Aside0.mk (blk_below (zb BK269) hb); clear hb hbox hg; obtain ⟨Ao49, co49, eo49⟩ := Kd.S_slice HO277.out; subst eo49; have hnb50 := NB278_269.out; have hnc50 := NB269_278.out; obtain ⟨hcz51_0, hfz51_0⟩ := zc1 BK278) | ((with_reducible refine gate_callee (f := 7) rfl ?_); refine goesL_ (some 18) rfl rfl Tryd.func7 (by kernel_rfl) rfl #[.agg #[.slice Ao49 t275.length co49]] rfl zar ?_; (with_reducible refine (impl_SchemaOK.calls k _ _ t275 t279 _ ?side1 ?side2 ?side3 A11.out).mono ?_); (case side1 => refine (Kd.S_reads' (e := 39) (base := w.heap.size) (ok := fun k_ => ((True ∧ some k_ ≠ (.slice Ao42 t271.length co42 : Value).ownBlock) ∧ nb47 ≤ k_)) (n := t275.length) (c := co49) ?_).2.2; exact (by (with_reducible repeat (first | apply Kd.S_alloc | apply Kd.S_drewN | apply Kd.S_drew)); exact (Kd.S_mono (Kd.S_far (p := ⟨gb278, 0, none⟩) (Kd.S_types HO277.out BK278.out (by decide)) (fun _ hk => hk.2) (.slice Ao49 t275.length co49)) (fun _ h_ => h_.1)))); (case side2 => exact (Kd.S_reads' HO277.out).2.1); (case side3 => exact TabW.below HT.out (zg HB)); rintro e w52 ⟨rfl, hb⟩; refine ⟨_, rfl, ?_⟩; replace HO273 := Aside0.mk (Kd.S_below (by (with_reducible repeat (first | apply Kd.S_alloc | apply Kd.S_drewN | apply Kd.S_drew)); exact (Kd.S_mono (Kd.S_far (p := ⟨gb278, 0, none⟩) (Kd.S_types HO273.out BK278.out (by decide)) (fun _ hk => hk.2) (.slice Ao49 t275.length co49)) (fun _ h_ => h_.1))) hb); replace HO277 := Aside0.mk (Kd.S_below (by (with_reducible repeat (first | apply Kd.S_alloc | apply Kd.S_drewN | apply Kd.S_drew)); exact (Kd.S_mono (Kd.S_far (p := ⟨gb278, 0, none⟩) (Kd.S_types HO277.out BK278.out (by decide)) (fun _ hk => hk.2) (.slice Ao49 t275.length co49)) (fun _ h_ => h_.1))) hb); replace BK269 := Aside0.mk (blk_below (g := gb269) (o := .cells #[.slice A0_0 l0_0.length c0_0] 24 (0, 0)) (zp BK269) hb); replace BK278 := Aside0.mk (blk_below (g := gb278) (o := .cells #[.slice Ao49 t275.length co49] 29 (0, 0)) (zp BK278) hb); replace HB := Aside0.mk (below_step (zg HB) hb); (try clear hb); (try clear hb2); (try clear hk); (try clear hi)))
  replace HO273 := Aside0.mk (Kd.S_drew HO273.out)
  replace HO277 := Aside0.mk (Kd.S_drew HO277.out)
  replace BK269 := Aside0.mk (blk_drew BK269.out)
  replace BK278 := Aside0.mk (blk_drew BK278.out)
  replace HB := Aside0.mk (below_drew1 HB.out)
  refine start_ (n := 5) (S := fun w' => w'.cell? ⟨gb278, 0, none⟩ = some (.slice Ao49 t275.length co49) ∧ w'.cell? ⟨gb269, 0, none⟩ = some (.slice A0_0 l0_0.length c0_0)) (ds := []) #[false, false, false, false, false] (by kernel_rfl) rfl rfl ⟨(blk_cell BK278.out 0).trans rfl, (blk_cell BK269.out 0).trans rfl⟩ (fun hHeld => ?_)
  generalize w52.drew = w54 at HO273 HO277 BK269 BK278 HB hHeld ⊢
  refine take_ (i := 0) (N := some 22) (v := ?_) (a' := ?_) #[true, false, false, false, false] rfl rfl (by kernel_rfl) (fun _ _ _ h => h) (Or.inl ⟨by rfl, ?_⟩) hHeld ?_ ?_
  rotate_left
  ·rintro w' ⟨s0, s1⟩
   go_simp
   with_reducible rfl
  rotate_left
  ·simp only [Act.put, List.setIfInBounds_toArray, List.set_cons_zero, List.set_cons_succ, i64_w, i32_w]
   rfl
  refine take_ (i := 1) (N := some 23) (v := ?_) (a' := ?_) #[true, true, false, false, false] rfl rfl (by kernel_rfl) (fun _ _ _ h => h) (Or.inl ⟨by rfl, ?_⟩) hHeld ?_ ?_
  rotate_left
  ·rintro w' ⟨s0, s1⟩
   go_simp
   with_reducible rfl
  rotate_left
  ·simp only [Act.put, List.setIfInBounds_toArray, List.set_cons_zero, List.set_cons_succ, i64_w, i32_w]
   rfl
  refine one_ (i := 2) (N := some 24) #[true, true, true, false, false] rfl rfl (by kernel_rfl) (by decide) (fun K hK => ?_)
  refine goes_ Tryd.func6 (by kernel_rfl) rfl #[.agg #[.slice A0_0 l0_0.length c0_0]] (by rfl) rfl rfl zar ?_
  with_reducible refine (laws_toSchema.calls k _ _ l0_0 t280 _ ?side1 ?side2 A32.out).mono ?_
  (case side1 => exact zC (Kd.C_below HR0_0.out HB.out))
  (case side2 => exact HC0_0.out)
  rintro e w55 ⟨v281, rfl, ho0, hb⟩
  refine ⟨_, rfl, ?_⟩
  have HO282 := Aside0.mk (Kd.S_lower (Kd.S_new' (Kd.S_new' ho0 (Kd.S_lt (zs HO273))) (Kd.S_lt (zs HO277))) (below_size (zg HB)))
  replace HO273 := Aside0.mk (Kd.S_elder' (zs HO273) (Kd.S_base ho0) hb)
  replace HO277 := Aside0.mk (Kd.S_elder' (zs HO277) (Kd.S_base ho0) hb)
  replace BK269 := Aside0.mk (blk_below (zb BK269) hb)
  replace BK278 := Aside0.mk (blk_below (zb BK278) hb)
  replace HB := Aside0.mk (below_step (zg HB) hb)
  (try clear hb)
  (try clear hb2)
  (try clear hk)
  (try clear hi)
  (try clear ho0)
  obtain ⟨Ao57, co57, eo57⟩ := Kd.S_slice HO282.out
  (first | subst eo57 | (injection eo57 with f1_ f2_ f3_; have f4_ := f1_.symm; have f5_ := f3_.symm; clear f1_ f2_ f3_; subst f4_; subst f5_))
  refine hK.out _ _ ⟨(blk_cell BK278.out 0).trans rfl, (blk_cell BK269.out 0).trans rfl⟩ (fun hHeld => ?_)
  clear hK K
  refine norm_ (a' := ?_) ?_ ?_
  rotate_left
  ·show Act.put _ (some 24) _ = _
   simp only [Act.put, List.setIfInBounds_toArray, List.set_cons_zero, List.set_cons_succ, i64_w, i32_w]
   rfl
  refine one_ (i := 3) (N := some 25) #[true, true, true, true, false] rfl rfl (by kernel_rfl) (by decide) (fun K hK => ?_)
  refine goes_ Tryd.func8 (by kernel_rfl) rfl #[.agg #[.slice Ao49 t275.length co49], .agg #[.slice Ao57 t280.length co57]] (by rfl) rfl rfl zar ?_
  with_reducible refine (laws_eqSchema.calls k _ _ t275 _ _ t280 true _ ?side1 ?side2 ?side3 ?side4 A33.out).mono ?_
  (case side1 => exact zC (Kd.S_reads' HO277.out).2.2)
  (case side2 => exact (Kd.S_reads' HO277.out).2.1)
  (case side3 => exact zC (Kd.S_reads' HO282.out).2.2)
  (case side4 => exact (Kd.S_reads' HO282.out).2.1)
  rintro e w58 ⟨rfl, hb⟩
  refine ⟨_, rfl, ?_⟩
  replace HO273 := Aside0.mk (Kd.S_below (zs HO273) hb)
  replace HO277 := Aside0.mk (Kd.S_below (zs HO277) hb)
  replace HO282 := Aside0.mk (Kd.S_below (zs HO282) hb)
  replace BK269 := Aside0.mk (blk_below (zb BK269) hb)
  replace BK278 := Aside0.mk (blk_below (zb BK278) hb)
  replace HB := Aside0.mk (below_step (zg HB) hb)
  (try clear hb)
  (try clear hb2)
  (try clear hk)
  (try clear hi)
  refine hK.out _ _ ⟨(blk_cell BK278.out 0).trans rfl, (blk_cell BK269.out 0).trans rfl⟩ (fun hHeld => ?_)
  clear hK K
  refine norm_ (a' := ?_) ?_ ?_
  rotate_left
  ·show Act.put _ (some 25) _ = _
   simp only [Act.put, List.setIfInBounds_toArray, List.set_cons_zero, List.set_cons_succ, i64_w, i32_w]
   rfl
  refine pure_ (i := 4) (N := some 26) (v := ?_) (a' := ?_) #[true, true, true, true, true] rfl rfl (by kernel_rfl) (fun _ _ _ h => h) (Or.inl ⟨by rfl, ?_⟩) ?_ ?_
  rotate_left
  ·intro w'
   go_simp
   with_reducible rfl
  rotate_left
  ·simp only [Act.put, List.setIfInBounds_toArray, List.set_cons_zero, List.set_cons_succ, i64_w, i32_w]
   rfl
  refine done_ (by kernel_rfl) ?_
  try go_wp2
  go_ret
  exact ⟨zre, zg HB⟩
 replace c34 := Bool.eq_false_iff.mpr c34
 subst c34
 rw [if_neg (show ¬ (false = true) by decide)] at H
 obtain rfl := Option.some.inj H
 go_enter Tryd.func3, Tryd.ntmps3
 try go_wp2_with (first | ((with_reducible refine gate_dst (N := 1) rfl ?_); refine box_event (by rfl) (N := 1) (by rfl) (cs := #[.slice A0_0 l0_0.length c0_0]) (t := 24) zgs ?_; intro gb269 hg w60 hbox hb; have BK269 := Aside0.mk (hbox); have GW269 := zge hg (below_size (zh HB)); have GE269 := zge hg (below_size (zh HB)); replace HB := Aside0.mk (below_step (zh HB) hb); clear hb hbox hg; obtain ⟨hcz61_0, hfz61_0⟩ := zc1 BK269) | ((with_reducible refine gate_callee (f := 4) rfl ?_); refine goesL_ (some 9) rfl rfl Tryd.func4 (by kernel_rfl) rfl #[.agg #[.slice A0_0 l0_0.length c0_0], .int .i64 1048576] rfl zar ?_; (with_reducible refine (laws_szSchema.calls k _ _ l0_0 1048576 t270 _ ?side1 ?side2 A2.out).mono ?_); (case side1 => exact zC (Kd.C_below HR0_0.out HB.out)); (case side2 => exact HC0_0.out); rintro e w62 ⟨rfl, hb⟩; refine ⟨_, rfl, ?_⟩; replace BK269 := Aside0.mk (blk_below (zb BK269) hb); replace HB := Aside0.mk (below_step (zg HB) hb); (try clear hb); (try clear hb2); (try clear hk); (try clear hi); obtain ⟨hcz64_0, hfz64_0⟩ := zc1 BK269) | ((with_reducible refine gate_callee (f := 6) rfl ?_); refine goesL_ (some 13) rfl rfl Tryd.func6 (by kernel_rfl) rfl #[.agg #[.slice A0_0 l0_0.length c0_0]] rfl zar ?_; (with_reducible refine (laws_toSchema.calls k _ _ l0_0 t271 _ ?side1 ?side2 A8.out).mono ?_); (case side1 => exact zC (Kd.C_below HR0_0.out HB.out)); (case side2 => exact HC0_0.out); rintro e w65 ⟨v272, rfl, ho0, hb⟩; refine ⟨_, rfl, ?_⟩; have HO273 := Aside0.mk (Kd.S_lower ho0 (below_size (zg HB))); replace BK269 := Aside0.mk (blk_below (zb BK269) hb); replace HB := Aside0.mk (below_step (zg HB) hb); (try clear hb ho0); (try clear hb); (try clear hk); (try clear hi); obtain ⟨Ao67, co67, eo67⟩ := Kd.S_slice HO273.out; subst eo67) | ((with_reducible refine gate_callee (f := 5) rfl ?_); refine goesL_ (some 14) rfl rfl Tryd.func5 (by kernel_rfl) rfl #[.agg #[.slice Ao67 t271.length co67]] rfl zar ?_; (with_reducible refine (spec_SchemaOK.calls k _ _ t271 t274 _ ?side1 ?side2 A9.out).mono ?_); (case side1 => exact zC (Kd.S_reads' HO273.out).2.2); (case side2 => exact (Kd.S_reads' HO273.out).2.1); rintro e w68 ⟨rfl, hb⟩; refine ⟨_, rfl, ?_⟩; replace HO273 := Aside0.mk (Kd.S_below (zs HO273) hb); replace BK269 := Aside0.mk (blk_below (zb BK269) hb); replace HB := Aside0.mk (below_step (zg HB) hb); (try clear hb); (try clear hb2); (try clear hk); (try clear hi); obtain ⟨hcz70_0, hfz70_0⟩ := zc1 BK269) | ((with_reducible refine gate_callee (f := 6) rfl ?_); refine goesL_ (some 16) rfl rfl Tryd.func6 (by kernel_rfl) rfl #[.agg #[.slice A0_0 l0_0.length c0_0]] rfl zar ?_; (with_reducible refine (laws_toSchema.calls k _ _ l0_0 t275 _ ?side1 ?side2 A10.out).mono ?_); (case side1 => exact zC (Kd.C_below HR0_0.out HB.out)); (case side2 => exact HC0_0.out); rintro e w71 ⟨v276, rfl, ho0, hb⟩; refine ⟨_, rfl, ?_⟩; obtain ⟨nb72, hnb_⟩ := Kd.pivot_ hb; have HNB72 := Aside0.mk hnb_; clear hnb_; have HO277 := Aside0.mk (Kd.S_lower (Kd.S_geN (Kd.S_new' ho0 (Kd.S_lt (zs HO273))) HNB72.out) (below_size (zg HB))); replace HO273 := Aside0.mk (Kd.S_elderN (zs HO273) (Kd.S_base ho0) hb HNB72.out); replace BK269 := Aside0.mk (blk_below (zb BK269) hb); replace HB := Aside0.mk (below_step (zg HB) hb); (try clear hb ho0); (try clear hb); (try clear hk); (try clear hi)) | ((with_reducible refine gate_dst (N := 5) rfl ?_); refine box_event (by rfl) (N := 5) (by rfl) (cs := #[.slice none 0 0]) (t := 29) zgs ?_; intro gb278 hg w73 hbox hb; replace HO273 := Aside0.mk (Kd.S_below (zs HO273) hb); replace HO277 := Aside0.mk (Kd.S_below (zs HO277) hb); have BK278 := Aside0.mk (hbox); have GW278 := zge hg (below_size (zg HB)); have GE278 := zge hg (below_size (zg HB)); replace HB := Aside0.mk (below_step (zg HB) hb); have NB269_278 := znl hg (blk_lt (zb BK269)); have NB278_269 := zng hg (blk_lt (zb BK269)); replace BK269 := Aside0.mk (blk_below (zb BK269) hb); clear hb hbox hg; obtain ⟨Ao74, co74, eo74⟩ := Kd.S_slice HO277.out; subst eo74; have hnb75 := NB278_269.out; have hnc75 := NB269_278.out; obtain ⟨hcz76_0, hfz76_0⟩ := zc1 BK278) | ((with_reducible refine gate_callee (f := 7) rfl ?_); refine goesL_ (some 18) rfl rfl Tryd.func7 (by kernel_rfl) rfl #[.agg #[.slice Ao74 t275.length co74]] rfl zar ?_; (with_reducible refine (impl_SchemaOK.calls k _ _ t275 t279 _ ?side1 ?side2 ?side3 A11.out).mono ?_); (case side1 => refine (Kd.S_reads' (e := 39) (base := w.heap.size) (ok := fun k_ => ((True ∧ some k_ ≠ (.slice Ao67 t271.length co67 : Value).ownBlock) ∧ nb72 ≤ k_)) (n := t275.length) (c := co74) ?_).2.2; exact (by (with_reducible repeat (first | apply Kd.S_alloc | apply Kd.S_drewN | apply Kd.S_drew)); exact (Kd.S_mono (Kd.S_far (p := ⟨gb278, 0, none⟩) (Kd.S_types HO277.out BK278.out (by decide)) (fun _ hk => hk.2) (.slice Ao74 t275.length co74)) (fun _ h_ => h_.1)))); (case side2 => exact (Kd.S_reads' HO277.out).2.1); (case side3 => exact TabW.below HT.out (zg HB)); rintro e w77 ⟨rfl, hb⟩; refine ⟨_, rfl, ?_⟩; replace HO273 := Aside0.mk (Kd.S_below (by (with_reducible repeat (first | apply Kd.S_alloc | apply Kd.S_drewN | apply Kd.S_drew)); exact (Kd.S_mono (Kd.S_far (p := ⟨gb278, 0, none⟩) (Kd.S_types HO273.out BK278.out (by decide)) (fun _ hk => hk.2) (.slice Ao74 t275.length co74)) (fun _ h_ => h_.1))) hb); replace HO277 := Aside0.mk (Kd.S_below (by (with_reducible repeat (first | apply Kd.S_alloc | apply Kd.S_drewN | apply Kd.S_drew)); exact (Kd.S_mono (Kd.S_far (p := ⟨gb278, 0, none⟩) (Kd.S_types HO277.out BK278.out (by decide)) (fun _ hk => hk.2) (.slice Ao74 t275.length co74)) (fun _ h_ => h_.1))) hb); replace BK269 := Aside0.mk (blk_below (g := gb269) (o := .cells #[.slice A0_0 l0_0.length c0_0] 24 (0, 0)) (zp BK269) hb); replace BK278 := Aside0.mk (blk_below (g := gb278) (o := .cells #[.slice Ao74 t275.length co74] 29 (0, 0)) (zp BK278) hb); replace HB := Aside0.mk (below_step (zg HB) hb); (try clear hb); (try clear hb2); (try clear hk); (try clear hi)))
 replace HO273 := Aside0.mk (Kd.S_drew HO273.out)
 replace HO277 := Aside0.mk (Kd.S_drew HO277.out)
 replace BK269 := Aside0.mk (blk_drew BK269.out)
 replace BK278 := Aside0.mk (blk_drew BK278.out)
 replace HB := Aside0.mk (below_drew1 HB.out)
 refine start_ (n := 5) (S := fun w' => w'.cell? ⟨gb278, 0, none⟩ = some (.slice Ao74 t275.length co74) ∧ w'.cell? ⟨gb269, 0, none⟩ = some (.slice A0_0 l0_0.length c0_0)) (ds := []) #[false, false, false, false, false] (by kernel_rfl) rfl rfl ⟨(blk_cell BK278.out 0).trans rfl, (blk_cell BK269.out 0).trans rfl⟩ (fun hHeld => ?_)
 generalize w77.drew = w79 at HO273 HO277 BK269 BK278 HB hHeld ⊢
 refine take_ (i := 0) (N := some 22) (v := ?_) (a' := ?_) #[true, false, false, false, false] rfl rfl (by kernel_rfl) (fun _ _ _ h => h) (Or.inl ⟨by rfl, ?_⟩) hHeld ?_ ?_
 rotate_left
 ·rintro w' ⟨s0, s1⟩
  go_simp
  with_reducible rfl
 rotate_left
 ·simp only [Act.put, List.setIfInBounds_toArray, List.set_cons_zero, List.set_cons_succ, i64_w, i32_w]
  rfl
 refine take_ (i := 1) (N := some 23) (v := ?_) (a' := ?_) #[true, true, false, false, false] rfl rfl (by kernel_rfl) (fun _ _ _ h => h) (Or.inl ⟨by rfl, ?_⟩) hHeld ?_ ?_
 rotate_left
 ·rintro w' ⟨s0, s1⟩
  go_simp
  with_reducible rfl
 rotate_left
 ·simp only [Act.put, List.setIfInBounds_toArray, List.set_cons_zero, List.set_cons_succ, i64_w, i32_w]
  rfl
 refine one_ (i := 2) (N := some 24) #[true, true, true, false, false] rfl rfl (by kernel_rfl) (by decide) (fun K hK => ?_)
 refine goes_ Tryd.func6 (by kernel_rfl) rfl #[.agg #[.slice A0_0 l0_0.length c0_0]] (by rfl) rfl rfl zar ?_
 with_reducible refine (laws_toSchema.calls k _ _ l0_0 t280 _ ?side1 ?side2 A32.out).mono ?_
 (case side1 => exact zC (Kd.C_below HR0_0.out HB.out))
 (case side2 => exact HC0_0.out)
 rintro e w80 ⟨v281, rfl, ho0, hb⟩
 refine ⟨_, rfl, ?_⟩
 have HO282 := Aside0.mk (Kd.S_lower (Kd.S_new' (Kd.S_new' ho0 (Kd.S_lt (zs HO273))) (Kd.S_lt (zs HO277))) (below_size (zg HB)))
 replace HO273 := Aside0.mk (Kd.S_elder' (zs HO273) (Kd.S_base ho0) hb)
 replace HO277 := Aside0.mk (Kd.S_elder' (zs HO277) (Kd.S_base ho0) hb)
 replace BK269 := Aside0.mk (blk_below (zb BK269) hb)
 replace BK278 := Aside0.mk (blk_below (zb BK278) hb)
 replace HB := Aside0.mk (below_step (zg HB) hb)
 (try clear hb)
 (try clear hb2)
 (try clear hk)
 (try clear hi)
 (try clear ho0)
 obtain ⟨Ao82, co82, eo82⟩ := Kd.S_slice HO282.out
 (first | subst eo82 | (injection eo82 with f1_ f2_ f3_; have f4_ := f1_.symm; have f5_ := f3_.symm; clear f1_ f2_ f3_; subst f4_; subst f5_))
 refine hK.out _ _ ⟨(blk_cell BK278.out 0).trans rfl, (blk_cell BK269.out 0).trans rfl⟩ (fun hHeld => ?_)
 clear hK K
 refine norm_ (a' := ?_) ?_ ?_
 rotate_left
 ·show Act.put _ (some 24) _ = _
  simp only [Act.put, List.setIfInBounds_toArray, List.set_cons_zero, List.set_cons_succ, i64_w, i32_w]
  rfl
 refine one_ (i := 3) (N := some 25) #[true, true, true, true, false] rfl rfl (by kernel_rfl) (by decide) (fun K hK => ?_)
 refine goes_ Tryd.func8 (by kernel_rfl) rfl #[.agg #[.slice Ao74 t275.length co74], .agg #[.slice Ao82 t280.length co82]] (by rfl) rfl rfl zar ?_
 with_reducible refine (laws_eqSchema.calls k _ _ t275 _ _ t280 false _ ?side1 ?side2 ?side3 ?side4 A33.out).mono ?_
 (case side1 => exact zC (Kd.S_reads' HO277.out).2.2)
 (case side2 => exact (Kd.S_reads' HO277.out).2.1)
 (case side3 => exact zC (Kd.S_reads' HO282.out).2.2)
 (case side4 => exact (Kd.S_reads' HO282.out).2.1)
 rintro e w83 ⟨rfl, hb⟩
 refine ⟨_, rfl, ?_⟩
 replace HO273 := Aside0.mk (Kd.S_below (zs HO273) hb)
 replace HO277 := Aside0.mk (Kd.S_below (zs HO277) hb)
 replace HO282 := Aside0.mk (Kd.S_below (zs HO282) hb)
 replace BK269 := Aside0.mk (blk_below (zb BK269) hb)
 replace BK278 := Aside0.mk (blk_below (zb BK278) hb)
 replace HB := Aside0.mk (below_step (zg HB) hb)
 (try clear hb)
 (try clear hb2)
 (try clear hk)
 (try clear hi)
 refine hK.out _ _ ⟨(blk_cell BK278.out 0).trans rfl, (blk_cell BK269.out 0).trans rfl⟩ (fun hHeld => ?_)
 clear hK K
 refine norm_ (a' := ?_) ?_ ?_
 rotate_left
 ·show Act.put _ (some 25) _ = _
  simp only [Act.put, List.setIfInBounds_toArray, List.set_cons_zero, List.set_cons_succ, i64_w, i32_w]
  rfl
 refine pure_ (i := 4) (N := some 26) (v := ?_) (a' := ?_) #[true, true, true, true, true] rfl rfl (by kernel_rfl) (fun _ _ _ h => h) (Or.inl ⟨by rfl, ?_⟩) ?_ ?_
 rotate_left
 ·intro w'
  go_simp
  with_reducible rfl
 rotate_left
 ·simp only [Act.put, List.setIfInBounds_toArray, List.set_cons_zero, List.set_cons_succ, i64_w, i32_w]
  rfl
 refine done_ (by kernel_rfl) ?_
 try go_wp2
 go_ret
 exact ⟨zre, zg HB⟩

end Go.Proofs.YtmbgncgcddjomaaDoor.XFnExactSchemaOK
