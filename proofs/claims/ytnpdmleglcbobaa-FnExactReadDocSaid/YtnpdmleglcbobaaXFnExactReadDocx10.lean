-- A text of this session: written by its own program (wip/x/xprint.py), which runs the kit's printer with contracts of its own.
import Derived.Test.YtnpdmleglcbobaaXFnExactReadDocx0
import Derived.Test.YtnpdmleglcbobaaXFnExactReadDocx1
import Derived.Test.YtnpdmleglcbobaaXFnExactReadDocx2
import Derived.Test.YtnpdmleglcbobaaXFnExactReadDocx3
import Derived.Test.YtnpdmleglcbobaaXFnExactReadDocx6
import Derived.Test.YtnpdmleglcbobaaXFnExactReadDocx8
import Derived.Test.YtnpdmleglcbobaaXFnExactReadDocx9
namespace Go.Proofs.Ytnpdmleglcbobaa.XFnExactReadDoc
open Go.RowKit Go.Proofs.YtnpdmleglcbobaaW.PrintWords Go.Proofs.YtnpdmleglcbobaaW.PrintLast Go.Proofs.YtnpdmleglcbobaaW.PrintMore
attribute [local go_sem] max2_int min2_int max_two min_two max_three min_three max_four min_four   -- for this text's walks alone
set_option linter.unusedVariables false
set_option linter.unusedSimpArgs false

/-! ### laws_FnExactReadDoc: function 4 -/
mutual
def laws_FnExactReadDoc.j0 : Nat → List Int → Int → List Int → Int → Bool → ByteArray → List (S66) → ByteArray → List (S66) → Option (Bool)
 | 0, _, _, _, _, _, _, _, _, _ => none
 | k + 1, x0, x4, x5, x7, x37, x254000, x254001, x263000, x263001 => if x37 = true then (some false) else ((laws_toByteS.f k x0).bind fun t264 => ((laws_eqByteS.f k x5 t264).bind fun t267 => (if t267 = true then ((laws_markByteS.f k x5 1).bind fun bt268 => (if bt268.1 < 0 then (laws_FnExactReadDoc.j1 k x0 x4 true x254000 x254001 x263000 x263001) else ((laws_eqDoc.f k x263000 x263001 x254000 x254001).bind fun t270 => (if t270 = true then (laws_FnExactReadDoc.j1 k x0 x4 (x7 != x4) x254000 x254001 x263000 x263001) else (laws_FnExactReadDoc.j1 k x0 x4 true x254000 x254001 x263000 x263001))))) else (some false))))
def laws_FnExactReadDoc.j1 : Nat → List Int → Int → Bool → ByteArray → List (S66) → ByteArray → List (S66) → Option (Bool)
 | 0, _, _, _, _, _, _, _ => none
 | k + 1, x0, x4, x58, x254000, x254001, x263000, x263001 => if x58 = true then (some false) else ((laws_markDoc.f k x263000 x263001 1).bind fun bt271 => ((laws_heldDoc.f k x263000 bt271.2 1).bind fun t273 => (if t273 < 0 then (some false) else (if t273 = bt271.1 then ((laws_toByteS.f k x0).bind fun t274 => ((impl_ReadDoc.f k t274).bind fun bt277 => ((laws_eqDoc.f k bt277.1 bt277.2.1 x254000 x254001).bind fun t283 => (if t283 = true then (laws_FnExactReadDoc.j2 k bt271.1 (bt277.2.2 != x4) x263000 bt271.2) else (laws_FnExactReadDoc.j2 k bt271.1 true x263000 bt271.2))))) else (some false)))))
def laws_FnExactReadDoc.j2 : Nat → Int → Bool → ByteArray → List (S66) → Option (Bool)
 | 0, _, _, _, _ => none
 | k + 1, x9, x84, x263000, x263001 => if x84 = true then (some false) else ((laws_heldDoc.f k x263000 x263001 1).bind fun t284 => (if t284 < 0 then (some false) else (if t284 = x9 then (some true) else (some false))))
end
def laws_FnExactReadDoc.f (k : Nat) (l0 : List Int) : Option (Bool) := if (l0.length : Int) > 1048576 then (some true) else ((laws_toByteS.f k l0).bind fun t245 => ((spec_ReadDoc.f k t245).bind fun bt248 => ((laws_toByteS.f k l0).bind fun t254 => ((impl_ReadDoc.f k t254).bind fun bt257 => ((laws_eqDoc.f k bt257.1 bt257.2.1 bt248.1 bt248.2.1).bind fun t263 => (if t263 = true then (laws_FnExactReadDoc.j0 k l0 bt248.2.2 t254 bt257.2.2 (bt257.2.2 != bt248.2.2) bt248.1 bt248.2.1 bt257.1 bt257.2.1) else (laws_FnExactReadDoc.j0 k l0 bt248.2.2 t254 bt257.2.2 true bt248.1 bt248.2.1 bt257.1 bt257.2.1)))))))
theorem laws_FnExactReadDoc.mono_l : ∀ k, (∀ y0 y1 y2 y3 y4 y5 y6 y7 y8, LeO (laws_FnExactReadDoc.j0 k y0 y1 y2 y3 y4 y5 y6 y7 y8) (laws_FnExactReadDoc.j0 (k + 1) y0 y1 y2 y3 y4 y5 y6 y7 y8)) ∧ (∀ y0 y1 y2 y3 y4 y5 y6, LeO (laws_FnExactReadDoc.j1 k y0 y1 y2 y3 y4 y5 y6) (laws_FnExactReadDoc.j1 (k + 1) y0 y1 y2 y3 y4 y5 y6)) ∧ (∀ y0 y1 y2 y3, LeO (laws_FnExactReadDoc.j2 k y0 y1 y2 y3) (laws_FnExactReadDoc.j2 (k + 1) y0 y1 y2 y3))
 | 0 => ⟨fun _ _ _ _ _ _ _ _ _ r h => by simp [laws_FnExactReadDoc.j0] at h, fun _ _ _ _ _ _ _ r h => by simp [laws_FnExactReadDoc.j1] at h, fun _ _ _ _ r h => by simp [laws_FnExactReadDoc.j2] at h⟩
 | k + 1 => by
  obtain ⟨ih0, ih1, ih2⟩ := laws_FnExactReadDoc.mono_l k
  refine ⟨?_, ?_, ?_⟩
  ·intro y0 y1 y2 y3 y4 y5 y6 y7 y8
   unfold laws_FnExactReadDoc.j0
   repeat' first
   | (with_reducible exact ih0 _ _ _ _ _ _ _ _ _)
   | (with_reducible exact ih1 _ _ _ _ _ _ _)
   | (with_reducible exact ih2 _ _ _ _)
   | (with_reducible exact impl_ReadDoc.mono _ _)
   | (with_reducible exact laws_eqByteS.mono _ _ _)
   | (with_reducible exact laws_eqDoc.mono _ _ _ _ _)
   | (with_reducible exact laws_heldDoc.mono _ _ _ _)
   | (with_reducible exact laws_markByteS.mono _ _ _)
   | (with_reducible exact laws_markDoc.mono _ _ _ _)
   | (with_reducible exact laws_toByteS.mono _ _)
   | (with_reducible exact spec_ReadDoc.mono _ _)
   | (with_reducible exact LeO.refl _)
   | (with_reducible exact LeO.none _)
   | (with_reducible refine LeO.ite ?_ ?_)
   | (with_reducible refine LeO.bind ?_ (fun _ => ?_))
   | exact ih0 _ _ _ _ _ _ _ _ _
   | exact ih1 _ _ _ _ _ _ _
   | exact ih2 _ _ _ _
   | exact impl_ReadDoc.mono _ _
   | exact laws_eqByteS.mono _ _ _
   | exact laws_eqDoc.mono _ _ _ _ _
   | exact laws_heldDoc.mono _ _ _ _
   | exact laws_markByteS.mono _ _ _
   | exact laws_markDoc.mono _ _ _ _
   | exact laws_toByteS.mono _ _
   | exact spec_ReadDoc.mono _ _
   | exact LeO.none _
   | refine LeO.ite ?_ ?_
   | refine LeO.bind ?_ (fun _ => ?_)
  ·intro y0 y1 y2 y3 y4 y5 y6
   unfold laws_FnExactReadDoc.j1
   repeat' first
   | (with_reducible exact ih0 _ _ _ _ _ _ _ _ _)
   | (with_reducible exact ih1 _ _ _ _ _ _ _)
   | (with_reducible exact ih2 _ _ _ _)
   | (with_reducible exact impl_ReadDoc.mono _ _)
   | (with_reducible exact laws_eqByteS.mono _ _ _)
   | (with_reducible exact laws_eqDoc.mono _ _ _ _ _)
   | (with_reducible exact laws_heldDoc.mono _ _ _ _)
   | (with_reducible exact laws_markByteS.mono _ _ _)
   | (with_reducible exact laws_markDoc.mono _ _ _ _)
   | (with_reducible exact laws_toByteS.mono _ _)
   | (with_reducible exact spec_ReadDoc.mono _ _)
   | (with_reducible exact LeO.refl _)
   | (with_reducible exact LeO.none _)
   | (with_reducible refine LeO.ite ?_ ?_)
   | (with_reducible refine LeO.bind ?_ (fun _ => ?_))
   | exact ih0 _ _ _ _ _ _ _ _ _
   | exact ih1 _ _ _ _ _ _ _
   | exact ih2 _ _ _ _
   | exact impl_ReadDoc.mono _ _
   | exact laws_eqByteS.mono _ _ _
   | exact laws_eqDoc.mono _ _ _ _ _
   | exact laws_heldDoc.mono _ _ _ _
   | exact laws_markByteS.mono _ _ _
   | exact laws_markDoc.mono _ _ _ _
   | exact laws_toByteS.mono _ _
   | exact spec_ReadDoc.mono _ _
   | exact LeO.none _
   | refine LeO.ite ?_ ?_
   | refine LeO.bind ?_ (fun _ => ?_)
  ·intro y0 y1 y2 y3
   unfold laws_FnExactReadDoc.j2
   repeat' first
   | (with_reducible exact ih0 _ _ _ _ _ _ _ _ _)
   | (with_reducible exact ih1 _ _ _ _ _ _ _)
   | (with_reducible exact ih2 _ _ _ _)
   | (with_reducible exact impl_ReadDoc.mono _ _)
   | (with_reducible exact laws_eqByteS.mono _ _ _)
   | (with_reducible exact laws_eqDoc.mono _ _ _ _ _)
   | (with_reducible exact laws_heldDoc.mono _ _ _ _)
   | (with_reducible exact laws_markByteS.mono _ _ _)
   | (with_reducible exact laws_markDoc.mono _ _ _ _)
   | (with_reducible exact laws_toByteS.mono _ _)
   | (with_reducible exact spec_ReadDoc.mono _ _)
   | (with_reducible exact LeO.refl _)
   | (with_reducible exact LeO.none _)
   | (with_reducible refine LeO.ite ?_ ?_)
   | (with_reducible refine LeO.bind ?_ (fun _ => ?_))
   | exact ih0 _ _ _ _ _ _ _ _ _
   | exact ih1 _ _ _ _ _ _ _
   | exact ih2 _ _ _ _
   | exact impl_ReadDoc.mono _ _
   | exact laws_eqByteS.mono _ _ _
   | exact laws_eqDoc.mono _ _ _ _ _
   | exact laws_heldDoc.mono _ _ _ _
   | exact laws_markByteS.mono _ _ _
   | exact laws_markDoc.mono _ _ _ _
   | exact laws_toByteS.mono _ _
   | exact spec_ReadDoc.mono _ _
   | exact LeO.none _
   | refine LeO.ite ?_ ?_
   | refine LeO.bind ?_ (fun _ => ?_)
theorem laws_FnExactReadDoc.mono : ∀ a0 k, LeO (laws_FnExactReadDoc.f k a0) (laws_FnExactReadDoc.f (k + 1) a0) := by
 intro a0 k
 obtain ⟨ih0, ih1, ih2⟩ := laws_FnExactReadDoc.mono_l k
 unfold laws_FnExactReadDoc.f
 repeat' first
  | (with_reducible exact ih0 _ _ _ _ _ _ _ _ _)
  | (with_reducible exact ih1 _ _ _ _ _ _ _)
  | (with_reducible exact ih2 _ _ _ _)
  | (with_reducible exact impl_ReadDoc.mono _ _)
  | (with_reducible exact laws_eqByteS.mono _ _ _)
  | (with_reducible exact laws_eqDoc.mono _ _ _ _ _)
  | (with_reducible exact laws_heldDoc.mono _ _ _ _)
  | (with_reducible exact laws_markByteS.mono _ _ _)
  | (with_reducible exact laws_markDoc.mono _ _ _ _)
  | (with_reducible exact laws_toByteS.mono _ _)
  | (with_reducible exact spec_ReadDoc.mono _ _)
  | (with_reducible exact LeO.refl _)
  | (with_reducible exact LeO.none _)
  | (with_reducible refine LeO.ite ?_ ?_)
  | (with_reducible refine LeO.bind ?_ (fun _ => ?_))
  | exact ih0 _ _ _ _ _ _ _ _ _
  | exact ih1 _ _ _ _ _ _ _
  | exact ih2 _ _ _ _
  | exact impl_ReadDoc.mono _ _
  | exact laws_eqByteS.mono _ _ _
  | exact laws_eqDoc.mono _ _ _ _ _
  | exact laws_heldDoc.mono _ _ _ _
  | exact laws_markByteS.mono _ _ _
  | exact laws_markDoc.mono _ _ _ _
  | exact laws_toByteS.mono _ _
  | exact spec_ReadDoc.mono _ _
  | exact LeO.none _
  | refine LeO.ite ?_ ?_
  | refine LeO.bind ?_ (fun _ => ?_)
set_option maxHeartbeats 8000000 in
set_option maxRecDepth 100000 in
theorem laws_FnExactReadDoc.calls (k : Nat) (A0 : Option Addr) (c0 : Nat) (l0 : List Int) (r : Bool) (w : World) (hr0 : Kd.C (Kd.int .u8) w A0 l0.length l0) (hc0 : l0.length ≤ c0) (h : laws_FnExactReadDoc.f k l0 = some r) :
 Calls Try.prog 4 #[.slice A0 l0.length c0] w fun e w' => e = .returned (.bool r) ∧ Below w.heap.size w w' := by
 have hu31 := Try.underlying31
 have HR0 := Aside0.mk hr0
 have HC0 := Aside0.mk hc0
 clear hr0 hc0
 have HB := Aside0.mk (Below.refl w.heap.size w)
 have H : (if (l0.length : Int) > 1048576 then (some true) else ((laws_toByteS.f k l0).bind fun t245 => ((spec_ReadDoc.f k t245).bind fun bt248 => ((laws_toByteS.f k l0).bind fun t254 => ((impl_ReadDoc.f k t254).bind fun bt257 => ((laws_eqDoc.f k bt257.1 bt257.2.1 bt248.1 bt248.2.1).bind fun t263 => (if t263 = true then (laws_FnExactReadDoc.j0 k l0 bt248.2.2 t254 bt257.2.2 (bt257.2.2 != bt248.2.2) bt248.1 bt248.2.1 bt257.1 bt257.2.1) else (laws_FnExactReadDoc.j0 k l0 bt248.2.2 t254 bt257.2.2 true bt248.1 bt248.2.1 bt257.1 bt257.2.1)))))))) = some r := h
 clear h
 by_cases c2 : (l0.length : Int) > 1048576
 ·rw [if_pos c2] at H
  have c2b0 : decide (1048576 < (l0.length : Int)) = true := decide_eq_true c2
  have c2b1 : decide (1048576 < l0.length) = true := decide_eq_true (by omega)
  clear c2
  obtain rfl := Option.some.inj H
  go_enter Try.func4, Try.ntmps4
  go_wp2
  go_ret
  exact ⟨zre, zh HB⟩
 ·rw [if_neg c2] at H
  have c2b0 : decide (1048576 < (l0.length : Int)) = false := decide_eq_false c2
  have c2b1 : decide (1048576 < l0.length) = false := decide_eq_false (by omega)
  clear c2
  replace H := Option.bind_eq_some_iff.mp H
  obtain ⟨t245, A30, H⟩ := H
  replace H : ((spec_ReadDoc.f k t245).bind fun bt248 => ((laws_toByteS.f k l0).bind fun t254 => ((impl_ReadDoc.f k t254).bind fun bt257 => ((laws_eqDoc.f k bt257.1 bt257.2.1 bt248.1 bt248.2.1).bind fun t263 => (if t263 = true then (laws_FnExactReadDoc.j0 k l0 bt248.2.2 t254 bt257.2.2 (bt257.2.2 != bt248.2.2) bt248.1 bt248.2.1 bt257.1 bt257.2.1) else (laws_FnExactReadDoc.j0 k l0 bt248.2.2 t254 bt257.2.2 true bt248.1 bt248.2.1 bt257.1 bt257.2.1)))))) = some r := H
  have A3 := Aside0.mk A30
  clear A30
  replace H := Option.bind_eq_some_iff.mp H
  obtain ⟨⟨t248, t249, t252⟩, A40, H⟩ := H
  replace H : ((laws_toByteS.f k l0).bind fun t254 => ((impl_ReadDoc.f k t254).bind fun bt257 => ((laws_eqDoc.f k bt257.1 bt257.2.1 t248 t249).bind fun t263 => (if t263 = true then (laws_FnExactReadDoc.j0 k l0 t252 t254 bt257.2.2 (bt257.2.2 != t252) t248 t249 bt257.1 bt257.2.1) else (laws_FnExactReadDoc.j0 k l0 t252 t254 bt257.2.2 true t248 t249 bt257.1 bt257.2.1))))) = some r := H
  have A4 := Aside0.mk A40
  clear A40
  replace H := Option.bind_eq_some_iff.mp H
  obtain ⟨t254, A50, H⟩ := H
  replace H : ((impl_ReadDoc.f k t254).bind fun bt257 => ((laws_eqDoc.f k bt257.1 bt257.2.1 t248 t249).bind fun t263 => (if t263 = true then (laws_FnExactReadDoc.j0 k l0 t252 t254 bt257.2.2 (bt257.2.2 != t252) t248 t249 bt257.1 bt257.2.1) else (laws_FnExactReadDoc.j0 k l0 t252 t254 bt257.2.2 true t248 t249 bt257.1 bt257.2.1)))) = some r := H
  have A5 := Aside0.mk A50
  clear A50
  replace H := Option.bind_eq_some_iff.mp H
  obtain ⟨⟨t257, t258, t261⟩, A60, H⟩ := H
  replace H : ((laws_eqDoc.f k t257 t258 t248 t249).bind fun t263 => (if t263 = true then (laws_FnExactReadDoc.j0 k l0 t252 t254 t261 (t261 != t252) t248 t249 t257 t258) else (laws_FnExactReadDoc.j0 k l0 t252 t254 t261 true t248 t249 t257 t258))) = some r := H
  have A6 := Aside0.mk A60
  clear A60
  have HC7 := Aside0.mk H
  clear H
  go_enter Try.func4, Try.ntmps4
  go_upto_region 6 with (first | ((with_reducible refine gate_callee (f := 18) rfl ?_); refine goesL_ (some 18) rfl rfl Try.func18 (by kernel_rfl) rfl #[.slice A0 l0.length c0] rfl zar ?_; (with_reducible refine (laws_toByteS.calls k _ _ l0 t245 _ ?side1 ?side2 A3.out).mono ?_); (case side1 => repeat (first | exact HR0.out | (with_reducible refine Kd.C_alloc ?_ _) | (with_reducible refine Kd.C_drewN ?_ _) | (with_reducible refine Kd.C_drew ?_))); (case side2 => exact HC0.out); rintro e w8 ⟨v246, rfl, ho0, hb⟩; refine ⟨_, rfl, ?_⟩; have n0_ := Aside0.mk (Kd.R_lower ho0 (below_size (zh HB))); have n1_ := Aside0.mk (below_step (zh HB) hb); clear HB; have HO247 := n0_; have HB := n1_; clear n0_ n1_; (try clear hb); (try clear hb2); (try clear hk); (try clear hi); (try clear ho0); obtain ⟨Ao10, co10, eo10⟩ := Kd.R_slice HO247.out; subst eo10) | ((with_reducible refine gate_callee (f := 17) rfl ?_); refine goesL_ (some 19) rfl rfl Try.func17 (by kernel_rfl) rfl #[.slice Ao10 t245.length co10] rfl zar ?_; (with_reducible refine (spec_ReadDoc.calls k _ _ t245 t248 t249 t252 _ ?side1 ?side2 A4.out).mono ?_); (case side1 => repeat (first | exact (Kd.R_reads' HO247.out).2.2 | (with_reducible refine Kd.C_alloc ?_ _) | (with_reducible refine Kd.C_drewN ?_ _) | (with_reducible refine Kd.C_drew ?_))); (case side2 => exact (Kd.R_reads' HO247.out).2.1); rintro e w11 ⟨v250, rfl, ho0, hb⟩; refine ⟨_, rfl, ?_⟩; have n0_ := Aside0.mk (Kd.R_below (zr HO247) hb); have n1_ := Aside0.mk (Kd.S_lower ho0 (below_size (zh HB))); have n2_ := Aside0.mk (below_step (zh HB) hb); clear HO247; clear HB; have HO247 := n0_; have HO251 := n1_; have HB := n2_; clear n0_ n1_ n2_; (try clear hb); (try clear hb2); (try clear hk); (try clear hi); (try clear ho0)) | ((with_reducible refine gate_dst (N := 3) rfl ?_); refine box_event ?hg (N := 3) ?hd (cs := #[.string (⟨#[]⟩ : ByteArray), .slice none 0 0]) (t := 31) ?hr ?_; (case hd => rfl); (case hg => rfl); (case hr => first | (go_simp; done) | (go_simp; rfl)); intro gb253 hg w13 hbox hb; have n0_ := Aside0.mk (Kd.R_below (zr HO247) hb); have n1_ := Aside0.mk (Kd.S_below (zs HO251) hb); have n2_ := Aside0.mk (below_step (zh HB) hb); have n3_ := Aside0.mk (hbox); have n4_ := Aside0.mk ((by rw [hg]; exact (below_size (zh HB)) : w.heap.size ≤ gb253)); have n5_ := Aside0.mk ((by rw [hg]; exact (below_size (zh HB)) : w.heap.size ≤ gb253)); clear HO247; clear HO251; clear HB; have HO247 := n0_; have HO251 := n1_; have HB := n2_; have BK253 := n3_; have GW253 := n4_; have GE253 := n5_; clear n0_ n1_ n2_ n3_ n4_ n5_; clear hb hbox hg; have hcz14_0 : w13.cell? ⟨gb253, 0, none⟩ = some (.string (⟨#[]⟩ : ByteArray)) := (blk_cell BK253.out 0).trans rfl; have hcz14_1 : w13.cell? ⟨gb253, 1, none⟩ = some (.slice none 0 0) := (blk_cell BK253.out 1).trans rfl; have hfz14_0 := blk_frozen BK253.out 0; have hfz14_1 := blk_frozen BK253.out 1; obtain ⟨Ao15, co15, eo15⟩ := Kd.S_slice HO251.out; subst eo15) | ((with_reducible refine gate_callee (f := 18) rfl ?_); refine goesL_ (some 23) rfl rfl Try.func18 (by kernel_rfl) rfl #[.slice A0 l0.length c0] rfl zar ?_; (with_reducible refine (laws_toByteS.calls k _ _ l0 t254 _ ?side1 ?side2 A5.out).mono ?_); (case side1 => exact Kd.C_below HR0.out (zg HB)); (case side2 => exact HC0.out); rintro e w16 ⟨v255, rfl, ho0, hb⟩; refine ⟨_, rfl, ?_⟩; have n0_ := Aside0.mk (Kd.R_elder' (by (with_reducible repeat (first | apply Kd.R_alloc | apply Kd.R_drewN | apply Kd.R_drew)); exact (Kd.R_mono (Kd.R_far (p := ⟨gb253, 1, none⟩) (Kd.R_far (p := ⟨gb253, 0, none⟩) (Kd.R_types HO247.out BK253.out (by decide)) (fun _ hk => hk.2) (.string t248)) (fun _ hk => hk.2) (.slice Ao15 t249.length co15)) (fun _ h_ => h_.1))) (Kd.R_base ho0) hb); have n1_ := Aside0.mk (Kd.S_below (by (with_reducible repeat (first | apply Kd.S_alloc | apply Kd.S_drewN | apply Kd.S_drew)); exact (Kd.S_mono (Kd.S_far (p := ⟨gb253, 1, none⟩) (Kd.S_far (p := ⟨gb253, 0, none⟩) (Kd.S_types HO251.out BK253.out (by decide)) (fun _ hk => hk.2) (.string t248)) (fun _ hk => hk.2) (.slice Ao15 t249.length co15)) (fun _ h_ => h_.1))) hb); have n2_ := Aside0.mk (Kd.R_lower (Kd.R_new' ho0 (Kd.R_lt (by (with_reducible repeat (first | apply Kd.R_alloc | apply Kd.R_drewN | apply Kd.R_drew)); exact (Kd.R_mono (Kd.R_far (p := ⟨gb253, 1, none⟩) (Kd.R_far (p := ⟨gb253, 0, none⟩) (Kd.R_types HO247.out BK253.out (by decide)) (fun _ hk => hk.2) (.string t248)) (fun _ hk => hk.2) (.slice Ao15 t249.length co15)) (fun _ h_ => h_.1))))) (below_size (zg HB))); have n3_ := Aside0.mk (blk_below (g := gb253) (o := .cells #[.string t248, .slice Ao15 t249.length co15] 31 (0, 0)) (by (with_reducible repeat (first | refine blk_drewN ?_ _ | refine blk_drew ?_ | refine blk_alloc ?_ _)); refine blk_put (cs := #[.string t248, .slice none 0 0]) ?_ 1 _ rfl; (with_reducible repeat (first | refine blk_drewN ?_ _ | refine blk_drew ?_ | refine blk_alloc ?_ _)); refine blk_put (cs := #[.string (⟨#[]⟩ : ByteArray), .slice none 0 0]) ?_ 0 _ rfl; (with_reducible repeat (first | refine blk_drewN ?_ _ | refine blk_drew ?_ | refine blk_alloc ?_ _)); exact BK253.out) hb); have n4_ := Aside0.mk (below_step (zg HB) hb); clear HO247; clear HO251; clear BK253; clear HB; have HO247 := n0_; have HO251 := n1_; have HO256 := n2_; have BK253 := n3_; have HB := n4_; clear n0_ n1_ n2_ n3_ n4_; (try clear hb); (try clear hb2); (try clear hk); (try clear hi); (try clear ho0); obtain ⟨Ao18, co18, eo18⟩ := Kd.R_slice HO256.out; subst eo18) | ((with_reducible refine gate_callee (f := 19) rfl ?_); refine goesL_ (some 26) rfl rfl Try.func19 (by kernel_rfl) rfl #[.slice Ao18 t254.length co18] rfl zar ?_; (with_reducible refine (impl_ReadDoc.calls k _ _ t254 t257 t258 t261 _ ?side1 ?side2 A6.out).mono ?_); (case side1 => repeat (first | exact (Kd.R_reads' HO256.out).2.2 | (with_reducible refine Kd.C_alloc ?_ _) | (with_reducible refine Kd.C_drewN ?_ _) | (with_reducible refine Kd.C_drew ?_))); (case side2 => exact (Kd.R_reads' HO256.out).2.1); rintro e w19 ⟨v259, rfl, ho0, hb⟩; refine ⟨_, rfl, ?_⟩; obtain ⟨nb20, hnb_⟩ := Kd.pivot_ hb; have HNB20 := Aside0.mk hnb_; clear hnb_; have n0_ := Aside0.mk (Kd.R_below (zr HO247) hb); have n1_ := Aside0.mk (Kd.S_elderN (zs HO251) (Kd.S_base ho0) hb HNB20.out); have n2_ := Aside0.mk (Kd.R_below (zr HO256) hb); have n3_ := Aside0.mk (Kd.S_lower (Kd.S_geN (Kd.S_new' ho0 (Kd.S_lt (zs HO251))) HNB20.out) (below_size (zg HB))); have n4_ := Aside0.mk (blk_below (zb BK253) hb); have n5_ := Aside0.mk (below_step (zg HB) hb); clear HO247; clear HO251; clear HO256; clear BK253; clear HB; have HO247 := n0_; have HO251 := n1_; have HO256 := n2_; have HO260 := n3_; have BK253 := n4_; have HB := n5_; clear n0_ n1_ n2_ n3_ n4_ n5_; (try clear hb); (try clear hb2); (try clear hk); (try clear hi); (try clear ho0)) | ((with_reducible refine gate_dst (N := 6) rfl ?_); refine box_event ?hg (N := 6) ?hd (cs := #[.string (⟨#[]⟩ : ByteArray), .slice none 0 0]) (t := 31) ?hr ?_; (case hd => rfl); (case hg => rfl); (case hr => first | (go_simp; done) | (go_simp; rfl)); intro gb262 hg w21 hbox hb; have n0_ := Aside0.mk (Kd.R_below (zr HO247) hb); have n1_ := Aside0.mk (Kd.S_below (zs HO251) hb); have n2_ := Aside0.mk (Kd.R_below (zr HO256) hb); have n3_ := Aside0.mk (Kd.S_below (zs HO260) hb); have n4_ := Aside0.mk (blk_below (zb BK253) hb); have n5_ := Aside0.mk (below_step (zg HB) hb); have n6_ := Aside0.mk (hbox); have n7_ := Aside0.mk ((by rw [hg]; exact (below_size (zg HB)) : w.heap.size ≤ gb262)); have n8_ := Aside0.mk ((by rw [hg]; exact (below_size (zg HB)) : w.heap.size ≤ gb262)); have n9_ := Aside0.mk ((by rw [hg]; exact Nat.ne_of_lt (blk_lt (zb BK253)) : gb253 ≠ gb262)); have n10_ := Aside0.mk ((by rw [hg]; exact Nat.ne_of_gt (blk_lt (zb BK253)) : gb262 ≠ gb253)); clear HO247; clear HO251; clear HO256; clear HO260; clear BK253; clear HB; have HO247 := n0_; have HO251 := n1_; have HO256 := n2_; have HO260 := n3_; have BK253 := n4_; have HB := n5_; have BK262 := n6_; have GW262 := n7_; have GE262 := n8_; have NB253_262 := n9_; have NB262_253 := n10_; clear n0_ n1_ n2_ n3_ n4_ n5_ n6_ n7_ n8_ n9_ n10_; clear hb hbox hg; have hnb22 := NB262_253.out; have hnc22 := NB253_262.out; have hcz23_0 : w21.cell? ⟨gb262, 0, none⟩ = some (.string (⟨#[]⟩ : ByteArray)) := (blk_cell BK262.out 0).trans rfl; have hcz23_1 : w21.cell? ⟨gb262, 1, none⟩ = some (.slice none 0 0) := (blk_cell BK262.out 1).trans rfl; have hfz23_0 := blk_frozen BK262.out 0; have hfz23_1 := blk_frozen BK262.out 1; obtain ⟨Ao24, co24, eo24⟩ := Kd.S_slice HO260.out; subst eo24))
  (try simp only [Act.put, List.setIfInBounds_toArray, List.set_cons_zero, List.set_cons_succ])
  go_cut [37] (fun v37 wc => ∃ (kq : Nat) (x37_6 : Bool), v37 = .bool x37_6 ∧ Aside0 (laws_FnExactReadDoc.j0 kq l0 t252 t254 t261 x37_6 t248 t249 t257 t258 = some r) ∧ Aside0 (kq ≤ k) ∧ Aside0 (Kd.R (Kd.int .u8) 5 wc w.heap.size (fun _ => True) (.slice Ao18 t254.length co18) t254) ∧ Aside0 (Kd.S k66 66 wc w.heap.size (fun k_ => some k_ ≠ ((.slice Ao24 t258.length co24) : Value).ownBlock ∧ k_ < nb20) (.slice Ao15 t249.length co15) t249) ∧ Aside0 (Kd.S k66 66 wc w.heap.size (fun k_ => some k_ ≠ ((.slice Ao15 t249.length co15) : Value).ownBlock ∧ nb20 ≤ k_) (.slice Ao24 t258.length co24) t258) ∧ Aside0 (wc.heap[gb253]? = some (.cells #[.string t248, (.slice Ao15 t249.length co15)] 31 (0, 0))) ∧ Aside0 (wc.heap[gb262]? = some (.cells #[.string t257, (.slice Ao24 t258.length co24)] 31 (0, 0))) ∧ Aside0 (Below w.heap.size w wc))
  case first =>
   have H := HC7.out
   clear HC7
   replace H := Option.bind_eq_some_iff.mp H
   obtain ⟨t263, A250, H⟩ := H
   replace H : (if t263 = true then (laws_FnExactReadDoc.j0 k l0 t252 t254 t261 (t261 != t252) t248 t249 t257 t258) else (laws_FnExactReadDoc.j0 k l0 t252 t254 t261 true t248 t249 t257 t258)) = some r := H
   have A25 := Aside0.mk A250
   clear A250
   by_cases c26 : t263 = true
   ·subst c26
    have H1 : (laws_FnExactReadDoc.j0 k l0 t252 t254 t261 (t261 != t252) t248 t249 t257 t258) = some r := by rw [if_pos rfl] at H; exact H
    clear H
    have H := H1
    clear H1
    have H' := Aside0.mk H
    clear H
    have hnb27 := NB262_253.out
    have hnc27 := NB253_262.out
    have hcz28_0 : w21.cell? ⟨gb262, 0, none⟩ = some (.string (⟨#[]⟩ : ByteArray)) := (blk_cell BK262.out 0).trans rfl
    have hcz28_1 : w21.cell? ⟨gb262, 1, none⟩ = some (.slice none 0 0) := (blk_cell BK262.out 1).trans rfl
    have hfz28_0 := blk_frozen BK262.out 0
    have hfz28_1 := blk_frozen BK262.out 1
    have hcz29_0 : w21.cell? ⟨gb253, 0, none⟩ = some (.string t248) := (blk_cell BK253.out 0).trans rfl
    have hcz29_1 : w21.cell? ⟨gb253, 1, none⟩ = some (.slice Ao15 t249.length co15) := (blk_cell BK253.out 1).trans rfl
    have hfz29_0 := blk_frozen BK253.out 0
    have hfz29_1 := blk_frozen BK253.out 1
    go_wp2_with (first | ((with_reducible refine gate_callee (f := 13) rfl ?_); refine goesL_ (some 31) rfl rfl Try.func13 (by kernel_rfl) rfl #[.agg #[.string t257, .slice Ao24 t258.length co24], .agg #[.string t248, .slice Ao15 t249.length co15]] rfl zar ?_; (with_reducible refine (laws_eqDoc.calls k t257 _ _ t258 t248 _ _ t249 true _ ?side1 ?side2 ?side3 ?side4 A25.out).mono ?_); (case side1 => refine (Kd.S_reads' (e := 66) (base := w.heap.size) (ok := fun k_ => ((True ∧ some k_ ≠ (.slice Ao15 t249.length co15 : Value).ownBlock) ∧ nb20 ≤ k_)) (n := t258.length) (c := co24) ?_).2.2; exact (by (with_reducible repeat (first | apply Kd.S_alloc | apply Kd.S_drewN | apply Kd.S_drew)); exact (Kd.S_mono (Kd.S_far (p := ⟨gb262, 1, none⟩) (Kd.S_far (p := ⟨gb262, 0, none⟩) (Kd.S_types HO260.out BK262.out (by decide)) (fun _ hk => hk.2) (.string t257)) (fun _ hk => hk.2) (.slice Ao24 t258.length co24)) (fun _ h_ => h_.1)))); (case side2 => exact (Kd.S_reads' HO260.out).2.1); (case side3 => refine (Kd.S_reads' (e := 66) (base := w.heap.size) (ok := fun k_ => ((True ∧ some k_ ≠ (.slice Ao24 t258.length co24 : Value).ownBlock) ∧ k_ < nb20)) (n := t249.length) (c := co15) ?_).2.2; exact (by (with_reducible repeat (first | apply Kd.S_alloc | apply Kd.S_drewN | apply Kd.S_drew)); exact (Kd.S_mono (Kd.S_far (p := ⟨gb262, 1, none⟩) (Kd.S_far (p := ⟨gb262, 0, none⟩) (Kd.S_types HO251.out BK262.out (by decide)) (fun _ hk => hk.2) (.string t257)) (fun _ hk => hk.2) (.slice Ao24 t258.length co24)) (fun _ h_ => h_.1)))); (case side4 => exact (Kd.S_reads' HO251.out).2.1); rintro e w30 ⟨rfl, hb⟩; refine ⟨_, rfl, ?_⟩; have n0_ := Aside0.mk (Kd.R_below (by (with_reducible repeat (first | apply Kd.R_alloc | apply Kd.R_drewN | apply Kd.R_drew)); exact (Kd.R_mono (Kd.R_far (p := ⟨gb262, 1, none⟩) (Kd.R_far (p := ⟨gb262, 0, none⟩) (Kd.R_types HO247.out BK262.out (by decide)) (fun _ hk => hk.2) (.string t257)) (fun _ hk => hk.2) (.slice Ao24 t258.length co24)) (fun _ h_ => h_.1))) hb); have n1_ := Aside0.mk (Kd.S_below (by (with_reducible repeat (first | apply Kd.S_alloc | apply Kd.S_drewN | apply Kd.S_drew)); exact (Kd.S_mono (Kd.S_far (p := ⟨gb262, 1, none⟩) (Kd.S_far (p := ⟨gb262, 0, none⟩) (Kd.S_types HO251.out BK262.out (by decide)) (fun _ hk => hk.2) (.string t257)) (fun _ hk => hk.2) (.slice Ao24 t258.length co24)) (fun _ h_ => h_.1))) hb); have n2_ := Aside0.mk (Kd.R_below (by (with_reducible repeat (first | apply Kd.R_alloc | apply Kd.R_drewN | apply Kd.R_drew)); exact (Kd.R_mono (Kd.R_far (p := ⟨gb262, 1, none⟩) (Kd.R_far (p := ⟨gb262, 0, none⟩) (Kd.R_types HO256.out BK262.out (by decide)) (fun _ hk => hk.2) (.string t257)) (fun _ hk => hk.2) (.slice Ao24 t258.length co24)) (fun _ h_ => h_.1))) hb); have n3_ := Aside0.mk (Kd.S_below (by (with_reducible repeat (first | apply Kd.S_alloc | apply Kd.S_drewN | apply Kd.S_drew)); exact (Kd.S_mono (Kd.S_far (p := ⟨gb262, 1, none⟩) (Kd.S_far (p := ⟨gb262, 0, none⟩) (Kd.S_types HO260.out BK262.out (by decide)) (fun _ hk => hk.2) (.string t257)) (fun _ hk => hk.2) (.slice Ao24 t258.length co24)) (fun _ h_ => h_.1))) hb); have n4_ := Aside0.mk (blk_below (g := gb253) (o := .cells #[.string t248, .slice Ao15 t249.length co15] 31 (0, 0)) (by (with_reducible repeat (first | refine blk_drewN ?_ _ | refine blk_drew ?_ | refine blk_alloc ?_ _)); refine blk_far ?_ NB253_262.out _; (with_reducible repeat (first | refine blk_drewN ?_ _ | refine blk_drew ?_ | refine blk_alloc ?_ _)); refine blk_far ?_ NB253_262.out _; (with_reducible repeat (first | refine blk_drewN ?_ _ | refine blk_drew ?_ | refine blk_alloc ?_ _)); exact BK253.out) hb); have n5_ := Aside0.mk (blk_below (g := gb262) (o := .cells #[.string t257, .slice Ao24 t258.length co24] 31 (0, 0)) (by (with_reducible repeat (first | refine blk_drewN ?_ _ | refine blk_drew ?_ | refine blk_alloc ?_ _)); refine blk_put (cs := #[.string t257, .slice none 0 0]) ?_ 1 _ rfl; (with_reducible repeat (first | refine blk_drewN ?_ _ | refine blk_drew ?_ | refine blk_alloc ?_ _)); refine blk_put (cs := #[.string (⟨#[]⟩ : ByteArray), .slice none 0 0]) ?_ 0 _ rfl; (with_reducible repeat (first | refine blk_drewN ?_ _ | refine blk_drew ?_ | refine blk_alloc ?_ _)); exact BK262.out) hb); have n6_ := Aside0.mk (below_step (zg HB) hb); clear HO247; clear HO251; clear HO256; clear HO260; clear BK253; clear BK262; clear HB; have HO247 := n0_; have HO251 := n1_; have HO256 := n2_; have HO260 := n3_; have BK253 := n4_; have BK262 := n5_; have HB := n6_; clear n0_ n1_ n2_ n3_ n4_ n5_ n6_; (try clear hb); (try clear hb2); (try clear hk); (try clear hi)))
    go_meet
    case rel => exact ⟨_, ((t261 != t252)), (by first | rfl | (simp; done) | (simp [*]; done)), H', ⟨by first | omega | exact Nat.le_refl _⟩, ⟨Kd.R_mono (zr HO256) (fun _ hk => trivial)⟩, ⟨Kd.S_mono (zs HO251) (fun _ hk => ⟨hk.1.2, hk.2⟩)⟩, ⟨Kd.S_mono (zs HO260) (fun _ hk => ⟨hk.1.2, hk.2⟩)⟩, ⟨zb BK253⟩, ⟨zb BK262⟩, ⟨zg HB⟩⟩
   ·replace c26 := Bool.eq_false_iff.mpr c26
    subst c26
    have H1 : (laws_FnExactReadDoc.j0 k l0 t252 t254 t261 true t248 t249 t257 t258) = some r := by rw [if_neg (show ¬ (false = true) by decide)] at H; exact H
    clear H
    have H := H1
    clear H1
    have H' := Aside0.mk H
    clear H
    have hnb32 := NB262_253.out
    have hnc32 := NB253_262.out
    have hcz33_0 : w21.cell? ⟨gb262, 0, none⟩ = some (.string (⟨#[]⟩ : ByteArray)) := (blk_cell BK262.out 0).trans rfl
    have hcz33_1 : w21.cell? ⟨gb262, 1, none⟩ = some (.slice none 0 0) := (blk_cell BK262.out 1).trans rfl
    have hfz33_0 := blk_frozen BK262.out 0
    have hfz33_1 := blk_frozen BK262.out 1
    have hcz34_0 : w21.cell? ⟨gb253, 0, none⟩ = some (.string t248) := (blk_cell BK253.out 0).trans rfl
    have hcz34_1 : w21.cell? ⟨gb253, 1, none⟩ = some (.slice Ao15 t249.length co15) := (blk_cell BK253.out 1).trans rfl
    have hfz34_0 := blk_frozen BK253.out 0
    have hfz34_1 := blk_frozen BK253.out 1
    go_wp2_with (first | ((with_reducible refine gate_callee (f := 13) rfl ?_); refine goesL_ (some 31) rfl rfl Try.func13 (by kernel_rfl) rfl #[.agg #[.string t257, .slice Ao24 t258.length co24], .agg #[.string t248, .slice Ao15 t249.length co15]] rfl zar ?_; (with_reducible refine (laws_eqDoc.calls k t257 _ _ t258 t248 _ _ t249 false _ ?side1 ?side2 ?side3 ?side4 A25.out).mono ?_); (case side1 => refine (Kd.S_reads' (e := 66) (base := w.heap.size) (ok := fun k_ => ((True ∧ some k_ ≠ (.slice Ao15 t249.length co15 : Value).ownBlock) ∧ nb20 ≤ k_)) (n := t258.length) (c := co24) ?_).2.2; exact (by (with_reducible repeat (first | apply Kd.S_alloc | apply Kd.S_drewN | apply Kd.S_drew)); exact (Kd.S_mono (Kd.S_far (p := ⟨gb262, 1, none⟩) (Kd.S_far (p := ⟨gb262, 0, none⟩) (Kd.S_types HO260.out BK262.out (by decide)) (fun _ hk => hk.2) (.string t257)) (fun _ hk => hk.2) (.slice Ao24 t258.length co24)) (fun _ h_ => h_.1)))); (case side2 => exact (Kd.S_reads' HO260.out).2.1); (case side3 => refine (Kd.S_reads' (e := 66) (base := w.heap.size) (ok := fun k_ => ((True ∧ some k_ ≠ (.slice Ao24 t258.length co24 : Value).ownBlock) ∧ k_ < nb20)) (n := t249.length) (c := co15) ?_).2.2; exact (by (with_reducible repeat (first | apply Kd.S_alloc | apply Kd.S_drewN | apply Kd.S_drew)); exact (Kd.S_mono (Kd.S_far (p := ⟨gb262, 1, none⟩) (Kd.S_far (p := ⟨gb262, 0, none⟩) (Kd.S_types HO251.out BK262.out (by decide)) (fun _ hk => hk.2) (.string t257)) (fun _ hk => hk.2) (.slice Ao24 t258.length co24)) (fun _ h_ => h_.1)))); (case side4 => exact (Kd.S_reads' HO251.out).2.1); rintro e w35 ⟨rfl, hb⟩; refine ⟨_, rfl, ?_⟩; have n0_ := Aside0.mk (Kd.R_below (by (with_reducible repeat (first | apply Kd.R_alloc | apply Kd.R_drewN | apply Kd.R_drew)); exact (Kd.R_mono (Kd.R_far (p := ⟨gb262, 1, none⟩) (Kd.R_far (p := ⟨gb262, 0, none⟩) (Kd.R_types HO247.out BK262.out (by decide)) (fun _ hk => hk.2) (.string t257)) (fun _ hk => hk.2) (.slice Ao24 t258.length co24)) (fun _ h_ => h_.1))) hb); have n1_ := Aside0.mk (Kd.S_below (by (with_reducible repeat (first | apply Kd.S_alloc | apply Kd.S_drewN | apply Kd.S_drew)); exact (Kd.S_mono (Kd.S_far (p := ⟨gb262, 1, none⟩) (Kd.S_far (p := ⟨gb262, 0, none⟩) (Kd.S_types HO251.out BK262.out (by decide)) (fun _ hk => hk.2) (.string t257)) (fun _ hk => hk.2) (.slice Ao24 t258.length co24)) (fun _ h_ => h_.1))) hb); have n2_ := Aside0.mk (Kd.R_below (by (with_reducible repeat (first | apply Kd.R_alloc | apply Kd.R_drewN | apply Kd.R_drew)); exact (Kd.R_mono (Kd.R_far (p := ⟨gb262, 1, none⟩) (Kd.R_far (p := ⟨gb262, 0, none⟩) (Kd.R_types HO256.out BK262.out (by decide)) (fun _ hk => hk.2) (.string t257)) (fun _ hk => hk.2) (.slice Ao24 t258.length co24)) (fun _ h_ => h_.1))) hb); have n3_ := Aside0.mk (Kd.S_below (by (with_reducible repeat (first | apply Kd.S_alloc | apply Kd.S_drewN | apply Kd.S_drew)); exact (Kd.S_mono (Kd.S_far (p := ⟨gb262, 1, none⟩) (Kd.S_far (p := ⟨gb262, 0, none⟩) (Kd.S_types HO260.out BK262.out (by decide)) (fun _ hk => hk.2) (.string t257)) (fun _ hk => hk.2) (.slice Ao24 t258.length co24)) (fun _ h_ => h_.1))) hb); have n4_ := Aside0.mk (blk_below (g := gb253) (o := .cells #[.string t248, .slice Ao15 t249.length co15] 31 (0, 0)) (by (with_reducible repeat (first | refine blk_drewN ?_ _ | refine blk_drew ?_ | refine blk_alloc ?_ _)); refine blk_far ?_ NB253_262.out _; (with_reducible repeat (first | refine blk_drewN ?_ _ | refine blk_drew ?_ | refine blk_alloc ?_ _)); refine blk_far ?_ NB253_262.out _; (with_reducible repeat (first | refine blk_drewN ?_ _ | refine blk_drew ?_ | refine blk_alloc ?_ _)); exact BK253.out) hb); have n5_ := Aside0.mk (blk_below (g := gb262) (o := .cells #[.string t257, .slice Ao24 t258.length co24] 31 (0, 0)) (by (with_reducible repeat (first | refine blk_drewN ?_ _ | refine blk_drew ?_ | refine blk_alloc ?_ _)); refine blk_put (cs := #[.string t257, .slice none 0 0]) ?_ 1 _ rfl; (with_reducible repeat (first | refine blk_drewN ?_ _ | refine blk_drew ?_ | refine blk_alloc ?_ _)); refine blk_put (cs := #[.string (⟨#[]⟩ : ByteArray), .slice none 0 0]) ?_ 0 _ rfl; (with_reducible repeat (first | refine blk_drewN ?_ _ | refine blk_drew ?_ | refine blk_alloc ?_ _)); exact BK262.out) hb); have n6_ := Aside0.mk (below_step (zg HB) hb); clear HO247; clear HO251; clear HO256; clear HO260; clear BK253; clear BK262; clear HB; have HO247 := n0_; have HO251 := n1_; have HO256 := n2_; have HO260 := n3_; have BK253 := n4_; have BK262 := n5_; have HB := n6_; clear n0_ n1_ n2_ n3_ n4_ n5_ n6_; (try clear hb); (try clear hb2); (try clear hk); (try clear hi)))
    go_meet
    case rel => exact ⟨_, (true), (by first | rfl | (simp; done) | (simp [*]; done)), H', ⟨by first | omega | exact Nat.le_refl _⟩, ⟨Kd.R_mono (zr HO256) (fun _ hk => trivial)⟩, ⟨Kd.S_mono (zs HO251) (fun _ hk => ⟨hk.1.2, hk.2⟩)⟩, ⟨Kd.S_mono (zs HO260) (fun _ hk => ⟨hk.1.2, hk.2⟩)⟩, ⟨zb BK253⟩, ⟨zb BK262⟩, ⟨zg HB⟩⟩
  case rest =>
   clear HC7
   try clear c1
   try clear c2
   try clear c2b0
   try clear c2b1
   try clear p2
   try clear c3
   try clear c4
   try clear c13
   try clear c17
   try clear c18
   try clear c19
   try clear c22
   try clear c26
   try clear c27
   try clear c32
   try clear hcz14_0
   try clear hcz14_1
   try clear hcz23_0
   try clear hcz23_1
   try clear hcz28_0
   try clear hcz28_1
   try clear hcz29_0
   try clear hcz29_1
   try clear hcz33_0
   try clear hcz33_1
   try clear hcz34_0
   try clear hcz34_1
   try clear hfz14_0
   try clear hfz14_1
   try clear hfz23_0
   try clear hfz23_1
   try clear hfz28_0
   try clear hfz28_1
   try clear hfz29_0
   try clear hfz29_1
   try clear hfz33_0
   try clear hfz33_1
   try clear hfz34_0
   try clear hfz34_1
   obtain ⟨kq, x37_6, rfl, HA, HJ6, HO_5, HO_254001, HO_263001, BK253, BK262, HB⟩ := hcut
   cases kq with
   | zero => exact absurd HA.out (by simp [laws_FnExactReadDoc.j0])
   | succ kj6 =>
    have H := HA.out
    clear HA
    simp only [laws_FnExactReadDoc.j0] at H
    by_cases c37 : x37_6 = true
    ·subst c37
     have H1 : (some false) = some r := by rw [if_pos rfl] at H; exact H
     clear H
     have H := H1
     clear H1
     obtain rfl := Option.some.inj H
     go_wp2
     go_ret
     exact ⟨zre, zg HB⟩
    ·replace c37 := Bool.eq_false_iff.mpr c37
     subst c37
     have H1 : ((laws_toByteS.f kj6 l0).bind fun t264 => ((laws_eqByteS.f kj6 t254 t264).bind fun t267 => (if t267 = true then ((laws_markByteS.f kj6 t254 1).bind fun bt268 => (if bt268.1 < 0 then (laws_FnExactReadDoc.j1 kj6 l0 t252 true t248 t249 t257 t258) else ((laws_eqDoc.f kj6 t257 t258 t248 t249).bind fun t270 => (if t270 = true then (laws_FnExactReadDoc.j1 kj6 l0 t252 (t261 != t252) t248 t249 t257 t258) else (laws_FnExactReadDoc.j1 kj6 l0 t252 true t248 t249 t257 t258))))) else (some false)))) = some r := by rw [if_neg (show ¬ (false = true) by decide)] at H; exact H
     clear H
     have H := H1
     clear H1
     replace H := Option.bind_eq_some_iff.mp H
     obtain ⟨t264, A380, H⟩ := H
     replace H : ((laws_eqByteS.f kj6 t254 t264).bind fun t267 => (if t267 = true then ((laws_markByteS.f kj6 t254 1).bind fun bt268 => (if bt268.1 < 0 then (laws_FnExactReadDoc.j1 kj6 l0 t252 true t248 t249 t257 t258) else ((laws_eqDoc.f kj6 t257 t258 t248 t249).bind fun t270 => (if t270 = true then (laws_FnExactReadDoc.j1 kj6 l0 t252 (t261 != t252) t248 t249 t257 t258) else (laws_FnExactReadDoc.j1 kj6 l0 t252 true t248 t249 t257 t258))))) else (some false))) = some r := H
     have A38 := Aside0.mk A380
     clear A380
     replace H := Option.bind_eq_some_iff.mp H
     obtain ⟨t267, A390, H⟩ := H
     replace H : (if t267 = true then ((laws_markByteS.f kj6 t254 1).bind fun bt268 => (if bt268.1 < 0 then (laws_FnExactReadDoc.j1 kj6 l0 t252 true t248 t249 t257 t258) else ((laws_eqDoc.f kj6 t257 t258 t248 t249).bind fun t270 => (if t270 = true then (laws_FnExactReadDoc.j1 kj6 l0 t252 (t261 != t252) t248 t249 t257 t258) else (laws_FnExactReadDoc.j1 kj6 l0 t252 true t248 t249 t257 t258))))) else (some false)) = some r := H
     have A39 := Aside0.mk A390
     clear A390
     by_cases c40 : t267 = true
     ·subst c40
      have H1 : ((laws_markByteS.f kj6 t254 1).bind fun bt268 => (if bt268.1 < 0 then (laws_FnExactReadDoc.j1 kj6 l0 t252 true t248 t249 t257 t258) else ((laws_eqDoc.f kj6 t257 t258 t248 t249).bind fun t270 => (if t270 = true then (laws_FnExactReadDoc.j1 kj6 l0 t252 (t261 != t252) t248 t249 t257 t258) else (laws_FnExactReadDoc.j1 kj6 l0 t252 true t248 t249 t257 t258))))) = some r := by rw [if_pos rfl] at H; exact H
      clear H
      have H := H1
      clear H1
      replace H := Option.bind_eq_some_iff.mp H
      obtain ⟨⟨t268, t269⟩, A410, H⟩ := H
      replace H : (if t268 < 0 then (laws_FnExactReadDoc.j1 kj6 l0 t252 true t248 t249 t257 t258) else ((laws_eqDoc.f kj6 t257 t258 t248 t249).bind fun t270 => (if t270 = true then (laws_FnExactReadDoc.j1 kj6 l0 t252 (t261 != t252) t248 t249 t257 t258) else (laws_FnExactReadDoc.j1 kj6 l0 t252 true t248 t249 t257 t258)))) = some r := H
      have A41 := Aside0.mk A410
      clear A410
      have HC42 := Aside0.mk H
      clear H
      go_upto_region 12 with (first | ((with_reducible refine gate_callee (f := 18) rfl ?_); refine goesL_ (some 40) rfl rfl Try.func18 (by kernel_rfl) rfl #[.slice A0 l0.length c0] rfl zar ?_; (with_reducible refine (laws_toByteS.calls kj6 _ _ l0 t264 _ ?side1 ?side2 A38.out).mono ?_); (case side1 => repeat (first | exact (Kd.C_below HR0.out HB.out) | (with_reducible refine Kd.C_alloc ?_ _) | (with_reducible refine Kd.C_drewN ?_ _) | (with_reducible refine Kd.C_drew ?_))); (case side2 => exact HC0.out); rintro e w43 ⟨v265, rfl, ho0, hb⟩; refine ⟨_, rfl, ?_⟩; have n0_ := Aside0.mk (Kd.R_elder' (zr HO_5) (Kd.R_base ho0) hb); have n1_ := Aside0.mk (Kd.S_below (zs HO_254001) hb); have n2_ := Aside0.mk (Kd.S_below (zs HO_263001) hb); have n3_ := Aside0.mk (Kd.R_lower (Kd.R_new' ho0 (Kd.R_lt (zr HO_5))) (below_size (zg HB))); have n4_ := Aside0.mk (blk_below (zb BK253) hb); have n5_ := Aside0.mk (blk_below (zb BK262) hb); have n6_ := Aside0.mk (below_step (zg HB) hb); clear HO_5; clear HO_254001; clear HO_263001; clear BK253; clear BK262; clear HB; have HO_5 := n0_; have HO_254001 := n1_; have HO_263001 := n2_; have HO266 := n3_; have BK253 := n4_; have BK262 := n5_; have HB := n6_; clear n0_ n1_ n2_ n3_ n4_ n5_ n6_; (try clear hb); (try clear hb2); (try clear hk); (try clear hi); (try clear ho0); obtain ⟨Ao45, co45, eo45⟩ := Kd.R_slice HO266.out; subst eo45) | ((with_reducible refine gate_callee (f := 12) rfl ?_); refine goesL_ (some 41) rfl rfl Try.func12 (by kernel_rfl) rfl #[.slice Ao18 t254.length co18, .slice Ao45 t264.length co45] rfl zar ?_; (with_reducible refine (laws_eqByteS.calls kj6 _ _ t254 _ _ t264 true _ ?side1 ?side2 ?side3 ?side4 A39.out).mono ?_); (case side1 => repeat (first | exact (Kd.R_reads' HO_5.out).2.2 | (with_reducible refine Kd.C_alloc ?_ _) | (with_reducible refine Kd.C_drewN ?_ _) | (with_reducible refine Kd.C_drew ?_))); (case side2 => exact (Kd.R_reads' HO_5.out).2.1); (case side3 => repeat (first | exact (Kd.R_reads' HO266.out).2.2 | (with_reducible refine Kd.C_alloc ?_ _) | (with_reducible refine Kd.C_drewN ?_ _) | (with_reducible refine Kd.C_drew ?_))); (case side4 => exact (Kd.R_reads' HO266.out).2.1); rintro e w' ⟨rfl, ⟨nd, rfl⟩⟩; refine ⟨_, rfl, ?_⟩) | ((with_reducible refine gate_callee (f := 15) rfl ?_); refine goesL_ (some 45) rfl rfl Try.func15 (by kernel_rfl) rfl #[.slice Ao18 t254.length co18, .int .i64 1] rfl zar ?_; (with_reducible refine (laws_markByteS.calls kj6 (fun k_ => some k_ = (.slice Ao18 t254.length co18 : Value).ownBlock) (.slice Ao18 t254.length co18) t254 1 t268 t269 w _ ?side1 ?side2 A41.out).mono ?_); (case side1 => repeat (first | (with_reducible first | exact HB.out | apply below_alloc | apply pw_below_drewN | apply below_drew1 | refine below_set ?_ GE253.out | refine below_set ?_ GE262.out) | exact HB.out)); (case side2 => exact Kd.R_tight rfl HO_5.out); rintro e w46 ⟨rfl, hy0, hb, hkp⟩; refine ⟨_, rfl, ?_⟩; have n0_ := Aside0.mk (Kd.R_reok rfl hy0 (fun k_ e_ => HO_5.out.1 k_ e_)); have n1_ := Aside0.mk (Kd.S_mono (ok' := fun k_ => some k_ ≠ (.slice Ao24 t258.length co24 : Value).ownBlock ∧ k_ < nb20) (Kd.S_keptB ((Kd.S_apart' HO_254001.out (Kd.R_typed HO_5.out) (by decide))) hkp (fun k_ hk_ hs_ => (hk_.2) hs_)) (fun k_ hk_ => ⟨hk_.1.1.1, hk_.1.1.2⟩)); have n2_ := Aside0.mk (Kd.S_mono (ok' := fun k_ => some k_ ≠ (.slice Ao15 t249.length co15 : Value).ownBlock ∧ nb20 ≤ k_) (Kd.S_keptB ((Kd.S_apart' HO_263001.out (Kd.R_typed HO_5.out) (by decide))) hkp (fun k_ hk_ hs_ => (hk_.2) hs_)) (fun k_ hk_ => ⟨hk_.1.1.1, hk_.1.1.2⟩)); have n3_ := Aside0.mk (blk_kept (zb BK253) hkp (fun hs_ => (fun e_ => (Kd.R_ne HO_5.out BK253.out (by decide)) e_) hs_)); have n4_ := Aside0.mk (blk_kept (zb BK262) hkp (fun hs_ => (fun e_ => (Kd.R_ne HO_5.out BK262.out (by decide)) e_) hs_)); have n5_ := Aside0.mk (Kd.R_mono (ok' := fun k_ => some k_ ≠ (.slice Ao18 t254.length co18 : Value).ownBlock) (Kd.R_keptB (HO266.out) hkp (fun k_ hk_ hs_ => (hk_.2) hs_)) (fun k_ hk_ => hk_.1.2)); have n6_ := Aside0.mk (hb); clear HO_5; clear HO_254001; clear HO_263001; clear BK253; clear BK262; clear HO266; clear HB; have HO_5 := n0_; have HO_254001 := n1_; have HO_263001 := n2_; have BK253 := n3_; have BK262 := n4_; have HO266 := n5_; have HB := n6_; clear n0_ n1_ n2_ n3_ n4_ n5_ n6_; (try clear hb); (try clear hkp); (try clear hy0)))
      (try simp only [Act.put, List.setIfInBounds_toArray, List.set_cons_zero, List.set_cons_succ])
      go_cut [58] (fun v58 wc => ∃ (kq : Nat) (x58_41 : Bool), v58 = .bool x58_41 ∧ Aside0 (laws_FnExactReadDoc.j1 kq l0 t252 x58_41 t248 t249 t257 t258 = some r) ∧ Aside0 (kq ≤ kj6) ∧ Aside0 (Kd.S k66 66 wc w.heap.size (fun k_ => some k_ ≠ ((.slice Ao24 t258.length co24) : Value).ownBlock ∧ k_ < nb20) (.slice Ao15 t249.length co15) t249) ∧ Aside0 (Kd.S k66 66 wc w.heap.size (fun k_ => some k_ ≠ ((.slice Ao15 t249.length co15) : Value).ownBlock ∧ nb20 ≤ k_) (.slice Ao24 t258.length co24) t258) ∧ Aside0 (wc.heap[gb253]? = some (.cells #[.string t248, (.slice Ao15 t249.length co15)] 31 (0, 0))) ∧ Aside0 (wc.heap[gb262]? = some (.cells #[.string t257, (.slice Ao24 t258.length co24)] 31 (0, 0))) ∧ Aside0 (Below w.heap.size w wc))
      case first =>
       have H := HC42.out
       clear HC42
       by_cases c47 : t268 < 0
       ·rw [if_pos c47] at H
        have c47b0 : decide (t268 < 0) = true := decide_eq_true c47
        clear c47
        (first | rw [c47b0] | (simp only [i64_w, i32_w]; rw [c47b0]) | skip)
        have H' := Aside0.mk H
        clear H
        go_wp2
        go_meet
        case rel => exact ⟨_, (true), (by first | rfl | (simp; done) | (simp [*]; done)), H', ⟨by have := HJ6.out; first | omega | exact Nat.le_refl _⟩, ⟨zs HO_254001⟩, ⟨zs HO_263001⟩, ⟨zb BK253⟩, ⟨zb BK262⟩, ⟨zg HB⟩⟩
       ·rw [if_neg c47] at H
        have c47b0 : decide (t268 < 0) = false := decide_eq_false c47
        clear c47
        (first | rw [c47b0] | (simp only [i64_w, i32_w]; rw [c47b0]) | skip)
        replace H := Option.bind_eq_some_iff.mp H
        obtain ⟨t270, A480, H⟩ := H
        replace H : (if t270 = true then (laws_FnExactReadDoc.j1 kj6 l0 t252 (t261 != t252) t248 t249 t257 t258) else (laws_FnExactReadDoc.j1 kj6 l0 t252 true t248 t249 t257 t258)) = some r := H
        have A48 := Aside0.mk A480
        clear A480
        by_cases c49 : t270 = true
        ·subst c49
         have H1 : (laws_FnExactReadDoc.j1 kj6 l0 t252 (t261 != t252) t248 t249 t257 t258) = some r := by rw [if_pos rfl] at H; exact H
         clear H
         have H := H1
         clear H1
         have H' := Aside0.mk H
         clear H
         have hnb50 := NB262_253.out
         have hnc50 := NB253_262.out
         have hcz51_0 : w46.cell? ⟨gb262, 0, none⟩ = some (.string t257) := (blk_cell BK262.out 0).trans rfl
         have hcz51_1 : w46.cell? ⟨gb262, 1, none⟩ = some (.slice Ao24 t258.length co24) := (blk_cell BK262.out 1).trans rfl
         have hfz51_0 := blk_frozen BK262.out 0
         have hfz51_1 := blk_frozen BK262.out 1
         have hcz52_0 : w46.cell? ⟨gb253, 0, none⟩ = some (.string t248) := (blk_cell BK253.out 0).trans rfl
         have hcz52_1 : w46.cell? ⟨gb253, 1, none⟩ = some (.slice Ao15 t249.length co15) := (blk_cell BK253.out 1).trans rfl
         have hfz52_0 := blk_frozen BK253.out 0
         have hfz52_1 := blk_frozen BK253.out 1
         go_wp2_with (first | (go_at_call 13; (with_reducible refine (laws_eqDoc.calls kj6 t257 _ _ t258 t248 _ _ t249 true _ ?side1 ?side2 ?side3 ?side4 A48.out).mono ?_); (case side1 => repeat (first | exact (Kd.S_reads' HO_263001.out).2.2 | (with_reducible refine Kd.C_alloc ?_ _) | (with_reducible refine Kd.C_drewN ?_ _) | (with_reducible refine Kd.C_drew ?_))); (case side2 => exact (Kd.S_reads' HO_263001.out).2.1); (case side3 => repeat (first | exact (Kd.S_reads' HO_254001.out).2.2 | (with_reducible refine Kd.C_alloc ?_ _) | (with_reducible refine Kd.C_drewN ?_ _) | (with_reducible refine Kd.C_drew ?_))); (case side4 => exact (Kd.S_reads' HO_254001.out).2.1); rintro e w53 ⟨rfl, hb⟩; have n0_ := Aside0.mk (Kd.R_below (zr HO_5) hb); have n1_ := Aside0.mk (Kd.S_below (zs HO_254001) hb); have n2_ := Aside0.mk (Kd.S_below (zs HO_263001) hb); have n3_ := Aside0.mk (Kd.R_below (zr HO266) hb); have n4_ := Aside0.mk (blk_below (zb BK253) hb); have n5_ := Aside0.mk (blk_below (zb BK262) hb); have n6_ := Aside0.mk (below_step (zg HB) hb); clear HO_5; clear HO_254001; clear HO_263001; clear HO266; clear BK253; clear BK262; clear HB; have HO_5 := n0_; have HO_254001 := n1_; have HO_263001 := n2_; have HO266 := n3_; have BK253 := n4_; have BK262 := n5_; have HB := n6_; clear n0_ n1_ n2_ n3_ n4_ n5_ n6_; (try clear hb); (try clear hb2); (try clear hk); (try clear hi)))
         go_meet
         case rel => exact ⟨_, ((t261 != t252)), (by first | rfl | (simp; done) | (simp [*]; done)), H', ⟨by have := HJ6.out; first | omega | exact Nat.le_refl _⟩, ⟨zs HO_254001⟩, ⟨zs HO_263001⟩, ⟨zb BK253⟩, ⟨zb BK262⟩, ⟨zg HB⟩⟩
        ·replace c49 := Bool.eq_false_iff.mpr c49
         subst c49
         have H1 : (laws_FnExactReadDoc.j1 kj6 l0 t252 true t248 t249 t257 t258) = some r := by rw [if_neg (show ¬ (false = true) by decide)] at H; exact H
         clear H
         have H := H1
         clear H1
         have H' := Aside0.mk H
         clear H
         have hnb55 := NB262_253.out
         have hnc55 := NB253_262.out
         have hcz56_0 : w46.cell? ⟨gb262, 0, none⟩ = some (.string t257) := (blk_cell BK262.out 0).trans rfl
         have hcz56_1 : w46.cell? ⟨gb262, 1, none⟩ = some (.slice Ao24 t258.length co24) := (blk_cell BK262.out 1).trans rfl
         have hfz56_0 := blk_frozen BK262.out 0
         have hfz56_1 := blk_frozen BK262.out 1
         have hcz57_0 : w46.cell? ⟨gb253, 0, none⟩ = some (.string t248) := (blk_cell BK253.out 0).trans rfl
         have hcz57_1 : w46.cell? ⟨gb253, 1, none⟩ = some (.slice Ao15 t249.length co15) := (blk_cell BK253.out 1).trans rfl
         have hfz57_0 := blk_frozen BK253.out 0
         have hfz57_1 := blk_frozen BK253.out 1
         go_wp2_with (first | (go_at_call 13; (with_reducible refine (laws_eqDoc.calls kj6 t257 _ _ t258 t248 _ _ t249 false _ ?side1 ?side2 ?side3 ?side4 A48.out).mono ?_); (case side1 => repeat (first | exact (Kd.S_reads' HO_263001.out).2.2 | (with_reducible refine Kd.C_alloc ?_ _) | (with_reducible refine Kd.C_drewN ?_ _) | (with_reducible refine Kd.C_drew ?_))); (case side2 => exact (Kd.S_reads' HO_263001.out).2.1); (case side3 => repeat (first | exact (Kd.S_reads' HO_254001.out).2.2 | (with_reducible refine Kd.C_alloc ?_ _) | (with_reducible refine Kd.C_drewN ?_ _) | (with_reducible refine Kd.C_drew ?_))); (case side4 => exact (Kd.S_reads' HO_254001.out).2.1); rintro e w58 ⟨rfl, hb⟩; have n0_ := Aside0.mk (Kd.R_below (zr HO_5) hb); have n1_ := Aside0.mk (Kd.S_below (zs HO_254001) hb); have n2_ := Aside0.mk (Kd.S_below (zs HO_263001) hb); have n3_ := Aside0.mk (Kd.R_below (zr HO266) hb); have n4_ := Aside0.mk (blk_below (zb BK253) hb); have n5_ := Aside0.mk (blk_below (zb BK262) hb); have n6_ := Aside0.mk (below_step (zg HB) hb); clear HO_5; clear HO_254001; clear HO_263001; clear HO266; clear BK253; clear BK262; clear HB; have HO_5 := n0_; have HO_254001 := n1_; have HO_263001 := n2_; have HO266 := n3_; have BK253 := n4_; have BK262 := n5_; have HB := n6_; clear n0_ n1_ n2_ n3_ n4_ n5_ n6_; (try clear hb); (try clear hb2); (try clear hk); (try clear hi)))
         go_meet
         case rel => exact ⟨_, (true), (by first | rfl | (simp; done) | (simp [*]; done)), H', ⟨by have := HJ6.out; first | omega | exact Nat.le_refl _⟩, ⟨zs HO_254001⟩, ⟨zs HO_263001⟩, ⟨zb BK253⟩, ⟨zb BK262⟩, ⟨zg HB⟩⟩
      case rest =>
       clear HC42
       try clear c1
       try clear c2
       try clear c2b0
       try clear c2b1
       try clear p2
       try clear c3
       try clear c4
       try clear c5
       try clear c12
       try clear c13
       try clear c15
       try clear c17
       try clear c18
       try clear c19
       try clear c22
       try clear c26
       try clear c27
       try clear c32
       try clear c37
       try clear c40
       try clear c47
       try clear c47b0
       try clear c49
       try clear c50
       try clear c55
       try clear hcz14_0
       try clear hcz14_1
       try clear hcz23_0
       try clear hcz23_1
       try clear hcz28_0
       try clear hcz28_1
       try clear hcz29_0
       try clear hcz29_1
       try clear hcz33_0
       try clear hcz33_1
       try clear hcz34_0
       try clear hcz34_1
       try clear hcz51_0
       try clear hcz51_1
       try clear hcz52_0
       try clear hcz52_1
       try clear hcz56_0
       try clear hcz56_1
       try clear hcz57_0
       try clear hcz57_1
       try clear hfz14_0
       try clear hfz14_1
       try clear hfz23_0
       try clear hfz23_1
       try clear hfz28_0
       try clear hfz28_1
       try clear hfz29_0
       try clear hfz29_1
       try clear hfz33_0
       try clear hfz33_1
       try clear hfz34_0
       try clear hfz34_1
       try clear hfz51_0
       try clear hfz51_1
       try clear hfz52_0
       try clear hfz52_1
       try clear hfz56_0
       try clear hfz56_1
       try clear hfz57_0
       try clear hfz57_1
       try clear p2
       obtain ⟨kq, x58_41, rfl, HA, HJ41, HO_254001, HO_263001, BK253, BK262, HB⟩ := hcut
       cases kq with
       | zero => exact absurd HA.out (by simp [laws_FnExactReadDoc.j1])
       | succ kj41 =>
        have H := HA.out
        clear HA
        simp only [laws_FnExactReadDoc.j1] at H
        by_cases c60 : x58_41 = true
        ·subst c60
         have H1 : (some false) = some r := by rw [if_pos rfl] at H; exact H
         clear H
         have H := H1
         clear H1
         obtain rfl := Option.some.inj H
         go_wp2
         go_ret
         exact ⟨zre, zg HB⟩
        ·replace c60 := Bool.eq_false_iff.mpr c60
         subst c60
         have H1 : ((laws_markDoc.f kj41 t257 t258 1).bind fun bt271 => ((laws_heldDoc.f kj41 t257 bt271.2 1).bind fun t273 => (if t273 < 0 then (some false) else (if t273 = bt271.1 then ((laws_toByteS.f kj41 l0).bind fun t274 => ((impl_ReadDoc.f kj41 t274).bind fun bt277 => ((laws_eqDoc.f kj41 bt277.1 bt277.2.1 t248 t249).bind fun t283 => (if t283 = true then (laws_FnExactReadDoc.j2 kj41 bt271.1 (bt277.2.2 != t252) t257 bt271.2) else (laws_FnExactReadDoc.j2 kj41 bt271.1 true t257 bt271.2))))) else (some false))))) = some r := by rw [if_neg (show ¬ (false = true) by decide)] at H; exact H
         clear H
         have H := H1
         clear H1
         replace H := Option.bind_eq_some_iff.mp H
         obtain ⟨⟨t271, t272⟩, A610, H⟩ := H
         replace H : ((laws_heldDoc.f kj41 t257 t272 1).bind fun t273 => (if t273 < 0 then (some false) else (if t273 = t271 then ((laws_toByteS.f kj41 l0).bind fun t274 => ((impl_ReadDoc.f kj41 t274).bind fun bt277 => ((laws_eqDoc.f kj41 bt277.1 bt277.2.1 t248 t249).bind fun t283 => (if t283 = true then (laws_FnExactReadDoc.j2 kj41 t271 (bt277.2.2 != t252) t257 t272) else (laws_FnExactReadDoc.j2 kj41 t271 true t257 t272))))) else (some false)))) = some r := H
         have A61 := Aside0.mk A610
         clear A610
         replace H := Option.bind_eq_some_iff.mp H
         obtain ⟨t273, A620, H⟩ := H
         replace H : (if t273 < 0 then (some false) else (if t273 = t271 then ((laws_toByteS.f kj41 l0).bind fun t274 => ((impl_ReadDoc.f kj41 t274).bind fun bt277 => ((laws_eqDoc.f kj41 bt277.1 bt277.2.1 t248 t249).bind fun t283 => (if t283 = true then (laws_FnExactReadDoc.j2 kj41 t271 (bt277.2.2 != t252) t257 t272) else (laws_FnExactReadDoc.j2 kj41 t271 true t257 t272))))) else (some false))) = some r := H
         have A62 := Aside0.mk A620
         clear A620
         by_cases c63 : t273 < 0
         ·rw [if_pos c63] at H
          have c63b0 : decide (t273 < 0) = true := decide_eq_true c63
          clear c63
          obtain rfl := Option.some.inj H
          have hnb64 := NB262_253.out
          have hnc64 := NB253_262.out
          have hcz65_0 : wc.cell? ⟨gb262, 0, none⟩ = some (.string t257) := (blk_cell BK262.out 0).trans rfl
          have hcz65_1 : wc.cell? ⟨gb262, 1, none⟩ = some (.slice Ao24 t258.length co24) := (blk_cell BK262.out 1).trans rfl
          have hfz65_0 := blk_frozen BK262.out 0
          have hfz65_1 := blk_frozen BK262.out 1
          go_wp2_with (first | ((with_reducible refine gate_callee (f := 14) rfl ?_); refine goesL_ (some 61) rfl rfl Try.func14 (by kernel_rfl) rfl #[.agg #[.string t257, .slice Ao24 t258.length co24], .int .i64 1] rfl zar ?_; (with_reducible refine (laws_markDoc.calls kj41 t257 ?pz_ (.slice Ao24 t258.length co24) t258 1 t271 t272 w _ ?side1 ?side2 A61.out).mono ?_); (case side1 => repeat (first | (with_reducible first | exact HB.out | apply below_alloc | apply pw_below_drewN | apply below_drew1 | refine below_set ?_ GE253.out | refine below_set ?_ GE262.out) | exact HB.out)); (case side2 => exact Kd.S_bound (HO_263001.out)); rintro e w66 ⟨rfl, hy0, hb, hkp⟩; refine ⟨_, rfl, ?_⟩; have n0_ := Aside0.mk (Kd.S_kept (ok := fun k_ => (some k_ ≠ (.slice Ao24 t258.length co24 : Value).ownBlock ∧ k_ < nb20)) (zs HO_254001) hkp (fun k_ h1_ h2_ => Nat.not_le.2 h1_.2 h2_.1.2)); have n1_ := Aside0.mk (Kd.S_mono hy0 (fun k_ h_ => h_.1)); have n2_ := Aside0.mk (blk_keptT (zb BK253) hkp (by decide)); have n3_ := Aside0.mk (blk_keptT (zb BK262) hkp (by decide)); have n4_ := Aside0.mk (hb); clear HO_254001; clear HO_263001; clear BK253; clear BK262; clear HB; have HO_254001 := n0_; have HO_263001 := n1_; have BK253 := n2_; have BK262 := n3_; have HB := n4_; clear n0_ n1_ n2_ n3_ n4_; (try clear hb); (try clear hkp); (try clear hy0); have hcz67_0 : w66.cell? ⟨gb262, 0, none⟩ = some (.string t257) := (blk_cell BK262.out 0).trans rfl; have hcz67_1 : w66.cell? ⟨gb262, 1, none⟩ = some (.slice Ao24 t258.length co24) := (blk_cell BK262.out 1).trans rfl; have hfz67_0 := blk_frozen BK262.out 0; have hfz67_1 := blk_frozen BK262.out 1) | ((with_reducible refine gate_callee (f := 20) rfl ?_); refine goesL_ (some 64) rfl rfl Try.func20 (by kernel_rfl) rfl #[.agg #[.string t257, .slice Ao24 t272.length co24], .int .i64 1] rfl (by (try simp only [List.map_toArray, List.map_cons, List.map_nil]); first | done | (rw [show t272.length = t258.length from (Kd.S_reads' HO_263001.out).1.symm] <;> rfl) | rfl | (simp only [List.length_drop, List.length_take]; rfl)) ?_; (with_reducible refine (laws_heldDoc.calls kj41 t257 _ _ t272 1 t273 _ ?side1 ?side2 A62.out).mono ?_); (case side1 => repeat (first | exact (Kd.S_reads' HO_263001.out).2.2 | (with_reducible refine Kd.C_alloc ?_ _) | (with_reducible refine Kd.C_drewN ?_ _) | (with_reducible refine Kd.C_drew ?_))); (case side2 => rw [show t272.length = t258.length from (Kd.S_reads' HO_263001.out).1.symm]; exact (Kd.S_reads' HO_263001.out).2.1); rintro e w68 ⟨rfl, hb⟩; refine ⟨_, rfl, ?_⟩; have n0_ := Aside0.mk (Kd.S_below (zs HO_254001) hb); have n1_ := Aside0.mk (Kd.S_below (zs HO_263001) hb); have n2_ := Aside0.mk (blk_below (zb BK253) hb); have n3_ := Aside0.mk (blk_below (zb BK262) hb); have n4_ := Aside0.mk (below_step (zg HB) hb); clear HO_254001; clear HO_263001; clear BK253; clear BK262; clear HB; have HO_254001 := n0_; have HO_263001 := n1_; have BK253 := n2_; have BK262 := n3_; have HB := n4_; clear n0_ n1_ n2_ n3_ n4_; (try clear hb); (try clear hb2); (try clear hk); (try clear hi)))
          go_ret
          exact ⟨zre, zg HB⟩
         ·rw [if_neg c63] at H
          have c63b0 : decide (t273 < 0) = false := decide_eq_false c63
          clear c63
          by_cases c70 : t273 = t271
          ·rw [if_pos c70] at H
           have c70b0 : (t273 == t271) = true := beq_iff_eq.mpr c70
           have c70b1 : (t273 != t271) = false := bne_eq_false_iff_eq.mpr c70
           clear c70
           replace H := Option.bind_eq_some_iff.mp H
           obtain ⟨t274, A710, H⟩ := H
           replace H : ((impl_ReadDoc.f kj41 t274).bind fun bt277 => ((laws_eqDoc.f kj41 bt277.1 bt277.2.1 t248 t249).bind fun t283 => (if t283 = true then (laws_FnExactReadDoc.j2 kj41 t271 (bt277.2.2 != t252) t257 t272) else (laws_FnExactReadDoc.j2 kj41 t271 true t257 t272)))) = some r := H
           have A71 := Aside0.mk A710
           clear A710
           replace H := Option.bind_eq_some_iff.mp H
           obtain ⟨⟨t277, t278, t281⟩, A720, H⟩ := H
           replace H : ((laws_eqDoc.f kj41 t277 t278 t248 t249).bind fun t283 => (if t283 = true then (laws_FnExactReadDoc.j2 kj41 t271 (t281 != t252) t257 t272) else (laws_FnExactReadDoc.j2 kj41 t271 true t257 t272))) = some r := H
           have A72 := Aside0.mk A720
           clear A720
           have HC73 := Aside0.mk H
           clear H
           have hnb74 := NB262_253.out
           have hnc74 := NB253_262.out
           have hcz75_0 : wc.cell? ⟨gb262, 0, none⟩ = some (.string t257) := (blk_cell BK262.out 0).trans rfl
           have hcz75_1 : wc.cell? ⟨gb262, 1, none⟩ = some (.slice Ao24 t258.length co24) := (blk_cell BK262.out 1).trans rfl
           have hfz75_0 := blk_frozen BK262.out 0
           have hfz75_1 := blk_frozen BK262.out 1
           go_upto_region 23 with (first | ((with_reducible refine gate_callee (f := 14) rfl ?_); refine goesL_ (some 61) rfl rfl Try.func14 (by kernel_rfl) rfl #[.agg #[.string t257, .slice Ao24 t258.length co24], .int .i64 1] rfl zar ?_; (with_reducible refine (laws_markDoc.calls kj41 t257 ?pz_ (.slice Ao24 t258.length co24) t258 1 t271 t272 w _ ?side1 ?side2 A61.out).mono ?_); (case side1 => repeat (first | (with_reducible first | exact HB.out | apply below_alloc | apply pw_below_drewN | apply below_drew1 | refine below_set ?_ GE253.out | refine below_set ?_ GE262.out) | exact HB.out)); (case side2 => exact Kd.S_bound (HO_263001.out)); rintro e w76 ⟨rfl, hy0, hb, hkp⟩; refine ⟨_, rfl, ?_⟩; have n0_ := Aside0.mk (Kd.S_kept (ok := fun k_ => (some k_ ≠ (.slice Ao24 t258.length co24 : Value).ownBlock ∧ k_ < nb20)) (zs HO_254001) hkp (fun k_ h1_ h2_ => Nat.not_le.2 h1_.2 h2_.1.2)); have n1_ := Aside0.mk (Kd.S_mono hy0 (fun k_ h_ => h_.1)); have n2_ := Aside0.mk (blk_keptT (zb BK253) hkp (by decide)); have n3_ := Aside0.mk (blk_keptT (zb BK262) hkp (by decide)); have n4_ := Aside0.mk (hb); clear HO_254001; clear HO_263001; clear BK253; clear BK262; clear HB; have HO_254001 := n0_; have HO_263001 := n1_; have BK253 := n2_; have BK262 := n3_; have HB := n4_; clear n0_ n1_ n2_ n3_ n4_; (try clear hb); (try clear hkp); (try clear hy0); have hcz77_0 : w76.cell? ⟨gb262, 0, none⟩ = some (.string t257) := (blk_cell BK262.out 0).trans rfl; have hcz77_1 : w76.cell? ⟨gb262, 1, none⟩ = some (.slice Ao24 t258.length co24) := (blk_cell BK262.out 1).trans rfl; have hfz77_0 := blk_frozen BK262.out 0; have hfz77_1 := blk_frozen BK262.out 1) | ((with_reducible refine gate_callee (f := 20) rfl ?_); refine goesL_ (some 64) rfl rfl Try.func20 (by kernel_rfl) rfl #[.agg #[.string t257, .slice Ao24 t272.length co24], .int .i64 1] rfl (by (try simp only [List.map_toArray, List.map_cons, List.map_nil]); first | done | (rw [show t272.length = t258.length from (Kd.S_reads' HO_263001.out).1.symm] <;> rfl) | rfl | (simp only [List.length_drop, List.length_take]; rfl)) ?_; (with_reducible refine (laws_heldDoc.calls kj41 t257 _ _ t272 1 t273 _ ?side1 ?side2 A62.out).mono ?_); (case side1 => repeat (first | exact (Kd.S_reads' HO_263001.out).2.2 | (with_reducible refine Kd.C_alloc ?_ _) | (with_reducible refine Kd.C_drewN ?_ _) | (with_reducible refine Kd.C_drew ?_))); (case side2 => rw [show t272.length = t258.length from (Kd.S_reads' HO_263001.out).1.symm]; exact (Kd.S_reads' HO_263001.out).2.1); rintro e w78 ⟨rfl, hb⟩; refine ⟨_, rfl, ?_⟩; have n0_ := Aside0.mk (Kd.S_below (zs HO_254001) hb); have n1_ := Aside0.mk (Kd.S_below (zs HO_263001) hb); have n2_ := Aside0.mk (blk_below (zb BK253) hb); have n3_ := Aside0.mk (blk_below (zb BK262) hb); have n4_ := Aside0.mk (below_step (zg HB) hb); clear HO_254001; clear HO_263001; clear BK253; clear BK262; clear HB; have HO_254001 := n0_; have HO_263001 := n1_; have BK253 := n2_; have BK262 := n3_; have HB := n4_; clear n0_ n1_ n2_ n3_ n4_; (try clear hb); (try clear hb2); (try clear hk); (try clear hi)) | ((with_reducible refine gate_callee (f := 18) rfl ?_); refine goesL_ (some 72) rfl rfl Try.func18 (by kernel_rfl) rfl #[.slice A0 l0.length c0] rfl zar ?_; (with_reducible refine (laws_toByteS.calls kj41 _ _ l0 t274 _ ?side1 ?side2 A71.out).mono ?_); (case side1 => repeat (first | exact (Kd.C_below HR0.out HB.out) | (with_reducible refine Kd.C_alloc ?_ _) | (with_reducible refine Kd.C_drewN ?_ _) | (with_reducible refine Kd.C_drew ?_))); (case side2 => exact HC0.out); rintro e w80 ⟨v275, rfl, ho0, hb⟩; refine ⟨_, rfl, ?_⟩; have n0_ := Aside0.mk (Kd.S_below (zs HO_254001) hb); have n1_ := Aside0.mk (Kd.S_below (zs HO_263001) hb); have n2_ := Aside0.mk (Kd.R_lower ho0 (below_size (zg HB))); have n3_ := Aside0.mk (blk_below (zb BK253) hb); have n4_ := Aside0.mk (blk_below (zb BK262) hb); have n5_ := Aside0.mk (below_step (zg HB) hb); clear HO_254001; clear HO_263001; clear BK253; clear BK262; clear HB; have HO_254001 := n0_; have HO_263001 := n1_; have HO276 := n2_; have BK253 := n3_; have BK262 := n4_; have HB := n5_; clear n0_ n1_ n2_ n3_ n4_ n5_; (try clear hb); (try clear hb2); (try clear hk); (try clear hi); (try clear ho0); obtain ⟨Ao82, co82, eo82⟩ := Kd.R_slice HO276.out; subst eo82) | ((with_reducible refine gate_callee (f := 19) rfl ?_); refine goesL_ (some 73) rfl rfl Try.func19 (by kernel_rfl) rfl #[.slice Ao82 t274.length co82] rfl zar ?_; (with_reducible refine (impl_ReadDoc.calls kj41 _ _ t274 t277 t278 t281 _ ?side1 ?side2 A72.out).mono ?_); (case side1 => repeat (first | exact (Kd.R_reads' HO276.out).2.2 | (with_reducible refine Kd.C_alloc ?_ _) | (with_reducible refine Kd.C_drewN ?_ _) | (with_reducible refine Kd.C_drew ?_))); (case side2 => exact (Kd.R_reads' HO276.out).2.1); rintro e w83 ⟨v279, rfl, ho0, hb⟩; refine ⟨_, rfl, ?_⟩; have n0_ := Aside0.mk (Kd.S_elder' (zs HO_254001) (Kd.S_base ho0) hb); have n1_ := Aside0.mk (Kd.S_elder' (zs HO_263001) (Kd.S_base ho0) hb); have n2_ := Aside0.mk (Kd.R_below (zr HO276) hb); have n3_ := Aside0.mk (Kd.S_lower (Kd.S_new' (Kd.S_new' ho0 (Kd.S_lt (zs HO_254001))) (Kd.S_lt (zs HO_263001))) (below_size (zg HB))); have n4_ := Aside0.mk (blk_below (zb BK253) hb); have n5_ := Aside0.mk (blk_below (zb BK262) hb); have n6_ := Aside0.mk (below_step (zg HB) hb); clear HO_254001; clear HO_263001; clear HO276; clear BK253; clear BK262; clear HB; have HO_254001 := n0_; have HO_263001 := n1_; have HO276 := n2_; have HO280 := n3_; have BK253 := n4_; have BK262 := n5_; have HB := n6_; clear n0_ n1_ n2_ n3_ n4_ n5_ n6_; (try clear hb); (try clear hb2); (try clear hk); (try clear hi); (try clear ho0)) | ((with_reducible refine gate_dst (N := 11) rfl ?_); refine box_event ?hg (N := 11) ?hd (cs := #[.string (⟨#[]⟩ : ByteArray), .slice none 0 0]) (t := 31) ?hr ?_; (case hd => rfl); (case hg => rfl); (case hr => first | (go_simp; done) | (go_simp; rfl)); intro gb282 hg w85 hbox hb; have n0_ := Aside0.mk (Kd.S_below (zs HO_254001) hb); have n1_ := Aside0.mk (Kd.S_below (zs HO_263001) hb); have n2_ := Aside0.mk (Kd.R_below (zr HO276) hb); have n3_ := Aside0.mk (Kd.S_below (zs HO280) hb); have n4_ := Aside0.mk (blk_below (zb BK253) hb); have n5_ := Aside0.mk (blk_below (zb BK262) hb); have n6_ := Aside0.mk (below_step (zg HB) hb); have n7_ := Aside0.mk (hbox); have n8_ := Aside0.mk ((by rw [hg]; exact (below_size (zg HB)) : w.heap.size ≤ gb282)); have n9_ := Aside0.mk ((by rw [hg]; exact (below_size (zg HB)) : w.heap.size ≤ gb282)); have n10_ := Aside0.mk ((by rw [hg]; exact Nat.ne_of_lt (blk_lt (zb BK253)) : gb253 ≠ gb282)); have n11_ := Aside0.mk ((by rw [hg]; exact Nat.ne_of_gt (blk_lt (zb BK253)) : gb282 ≠ gb253)); have n12_ := Aside0.mk ((by rw [hg]; exact Nat.ne_of_lt (blk_lt (zb BK262)) : gb262 ≠ gb282)); have n13_ := Aside0.mk ((by rw [hg]; exact Nat.ne_of_gt (blk_lt (zb BK262)) : gb282 ≠ gb262)); clear HO_254001; clear HO_263001; clear HO276; clear HO280; clear BK253; clear BK262; clear HB; have HO_254001 := n0_; have HO_263001 := n1_; have HO276 := n2_; have HO280 := n3_; have BK253 := n4_; have BK262 := n5_; have HB := n6_; have BK282 := n7_; have GW282 := n8_; have GE282 := n9_; have NB253_282 := n10_; have NB282_253 := n11_; have NB262_282 := n12_; have NB282_262 := n13_; clear n0_ n1_ n2_ n3_ n4_ n5_ n6_ n7_ n8_ n9_ n10_ n11_ n12_ n13_; clear hb hbox hg; have hnb86 := NB282_253.out; have hnc86 := NB253_282.out; have hnb87 := NB282_262.out; have hnc87 := NB262_282.out; have hcz88_0 : w85.cell? ⟨gb282, 0, none⟩ = some (.string (⟨#[]⟩ : ByteArray)) := (blk_cell BK282.out 0).trans rfl; have hcz88_1 : w85.cell? ⟨gb282, 1, none⟩ = some (.slice none 0 0) := (blk_cell BK282.out 1).trans rfl; have hfz88_0 := blk_frozen BK282.out 0; have hfz88_1 := blk_frozen BK282.out 1; obtain ⟨Ao89, co89, eo89⟩ := Kd.S_slice HO280.out; subst eo89))
           (try simp only [Act.put, List.setIfInBounds_toArray, List.set_cons_zero, List.set_cons_succ])
           go_cut [84] (fun v84 wc => ∃ (kq : Nat) (x84_72 : Bool), v84 = .bool x84_72 ∧ Aside0 (laws_FnExactReadDoc.j2 kq t271 x84_72 t257 t272 = some r) ∧ Aside0 (kq ≤ kj41) ∧ Aside0 (Kd.S k66 66 wc w.heap.size (fun k_ => some k_ ≠ ((.slice Ao24 t258.length co24) : Value).ownBlock ∧ some k_ ≠ ((.slice Ao89 t278.length co89) : Value).ownBlock ∧ k_ < nb20) (.slice Ao15 t249.length co15) t249) ∧ Aside0 (Kd.S k66 66 wc w.heap.size (fun k_ => some k_ ≠ ((.slice Ao15 t249.length co15) : Value).ownBlock ∧ some k_ ≠ ((.slice Ao89 t278.length co89) : Value).ownBlock ∧ nb20 ≤ k_) (.slice Ao24 t258.length co24) t272) ∧ Aside0 (Kd.S k66 66 wc w.heap.size (fun k_ => some k_ ≠ ((.slice Ao15 t249.length co15) : Value).ownBlock ∧ some k_ ≠ ((.slice Ao24 t258.length co24) : Value).ownBlock) (.slice Ao89 t278.length co89) t278) ∧ Aside0 (wc.heap[gb253]? = some (.cells #[.string t248, (.slice Ao15 t249.length co15)] 31 (0, 0))) ∧ Aside0 (wc.heap[gb262]? = some (.cells #[.string t257, (.slice Ao24 t258.length co24)] 31 (0, 0))) ∧ Aside0 (wc.heap[gb282]? = some (.cells #[.string t277, (.slice Ao89 t278.length co89)] 31 (0, 0))) ∧ Aside0 (Below w.heap.size w wc))
           case first =>
            have H := HC73.out
            clear HC73
            replace H := Option.bind_eq_some_iff.mp H
            obtain ⟨t283, A900, H⟩ := H
            replace H : (if t283 = true then (laws_FnExactReadDoc.j2 kj41 t271 (t281 != t252) t257 t272) else (laws_FnExactReadDoc.j2 kj41 t271 true t257 t272)) = some r := H
            have A90 := Aside0.mk A900
            clear A900
            by_cases c91 : t283 = true
            ·subst c91
             have H1 : (laws_FnExactReadDoc.j2 kj41 t271 (t281 != t252) t257 t272) = some r := by rw [if_pos rfl] at H; exact H
             clear H
             have H := H1
             clear H1
             have H' := Aside0.mk H
             clear H
             have hnb92 := NB282_253.out
             have hnc92 := NB253_282.out
             have hnb93 := NB282_262.out
             have hnc93 := NB262_282.out
             have hcz94_0 : w85.cell? ⟨gb282, 0, none⟩ = some (.string (⟨#[]⟩ : ByteArray)) := (blk_cell BK282.out 0).trans rfl
             have hcz94_1 : w85.cell? ⟨gb282, 1, none⟩ = some (.slice none 0 0) := (blk_cell BK282.out 1).trans rfl
             have hfz94_0 := blk_frozen BK282.out 0
             have hfz94_1 := blk_frozen BK282.out 1
             have hnb95 := NB253_262.out
             have hnc95 := NB262_253.out
             have hcz96_0 : w85.cell? ⟨gb253, 0, none⟩ = some (.string t248) := (blk_cell BK253.out 0).trans rfl
             have hcz96_1 : w85.cell? ⟨gb253, 1, none⟩ = some (.slice Ao15 t249.length co15) := (blk_cell BK253.out 1).trans rfl
             have hfz96_0 := blk_frozen BK253.out 0
             have hfz96_1 := blk_frozen BK253.out 1
             go_wp2_with (first | ((with_reducible refine gate_callee (f := 13) rfl ?_); refine goesL_ (some 78) rfl rfl Try.func13 (by kernel_rfl) rfl #[.agg #[.string t277, .slice Ao89 t278.length co89], .agg #[.string t248, .slice Ao15 t249.length co15]] rfl zar ?_; (with_reducible refine (laws_eqDoc.calls kj41 t277 _ _ t278 t248 _ _ t249 true _ ?side1 ?side2 ?side3 ?side4 A90.out).mono ?_); (case side1 => refine (Kd.S_reads' (e := 66) (base := w.heap.size) (ok := fun k_ => ((True ∧ some k_ ≠ (.slice Ao15 t249.length co15 : Value).ownBlock) ∧ some k_ ≠ (.slice Ao24 t258.length co24 : Value).ownBlock)) (n := t278.length) (c := co89) ?_).2.2; exact (by (with_reducible repeat (first | apply Kd.S_alloc | apply Kd.S_drewN | apply Kd.S_drew)); exact (Kd.S_mono (Kd.S_far (p := ⟨gb282, 1, none⟩) (Kd.S_far (p := ⟨gb282, 0, none⟩) (Kd.S_types HO280.out BK282.out (by decide)) (fun _ hk => hk.2) (.string t277)) (fun _ hk => hk.2) (.slice Ao89 t278.length co89)) (fun _ h_ => h_.1)))); (case side2 => exact (Kd.S_reads' HO280.out).2.1); (case side3 => refine (Kd.S_reads' (e := 66) (base := w.heap.size) (ok := fun k_ => ((some k_ ≠ (.slice Ao24 t258.length co24 : Value).ownBlock ∧ k_ < nb20) ∧ some k_ ≠ (.slice Ao89 t278.length co89 : Value).ownBlock)) (n := t249.length) (c := co15) ?_).2.2; exact (by (with_reducible repeat (first | apply Kd.S_alloc | apply Kd.S_drewN | apply Kd.S_drew)); exact (Kd.S_mono (Kd.S_far (p := ⟨gb282, 1, none⟩) (Kd.S_far (p := ⟨gb282, 0, none⟩) (Kd.S_types HO_254001.out BK282.out (by decide)) (fun _ hk => hk.2) (.string t277)) (fun _ hk => hk.2) (.slice Ao89 t278.length co89)) (fun _ h_ => h_.1)))); (case side4 => exact (Kd.S_reads' HO_254001.out).2.1); rintro e w97 ⟨rfl, hb⟩; refine ⟨_, rfl, ?_⟩; have n0_ := Aside0.mk (Kd.S_below (by (with_reducible repeat (first | apply Kd.S_alloc | apply Kd.S_drewN | apply Kd.S_drew)); exact (Kd.S_mono (Kd.S_far (p := ⟨gb282, 1, none⟩) (Kd.S_far (p := ⟨gb282, 0, none⟩) (Kd.S_types HO_254001.out BK282.out (by decide)) (fun _ hk => hk.2) (.string t277)) (fun _ hk => hk.2) (.slice Ao89 t278.length co89)) (fun _ h_ => h_.1))) hb); have n1_ := Aside0.mk (Kd.S_below (by (with_reducible repeat (first | apply Kd.S_alloc | apply Kd.S_drewN | apply Kd.S_drew)); exact (Kd.S_mono (Kd.S_far (p := ⟨gb282, 1, none⟩) (Kd.S_far (p := ⟨gb282, 0, none⟩) (Kd.S_types HO_263001.out BK282.out (by decide)) (fun _ hk => hk.2) (.string t277)) (fun _ hk => hk.2) (.slice Ao89 t278.length co89)) (fun _ h_ => h_.1))) hb); have n2_ := Aside0.mk (Kd.R_below (by (with_reducible repeat (first | apply Kd.R_alloc | apply Kd.R_drewN | apply Kd.R_drew)); exact (Kd.R_mono (Kd.R_far (p := ⟨gb282, 1, none⟩) (Kd.R_far (p := ⟨gb282, 0, none⟩) (Kd.R_types HO276.out BK282.out (by decide)) (fun _ hk => hk.2) (.string t277)) (fun _ hk => hk.2) (.slice Ao89 t278.length co89)) (fun _ h_ => h_.1))) hb); have n3_ := Aside0.mk (Kd.S_below (by (with_reducible repeat (first | apply Kd.S_alloc | apply Kd.S_drewN | apply Kd.S_drew)); exact (Kd.S_mono (Kd.S_far (p := ⟨gb282, 1, none⟩) (Kd.S_far (p := ⟨gb282, 0, none⟩) (Kd.S_types HO280.out BK282.out (by decide)) (fun _ hk => hk.2) (.string t277)) (fun _ hk => hk.2) (.slice Ao89 t278.length co89)) (fun _ h_ => h_.1))) hb); have n4_ := Aside0.mk (blk_below (g := gb253) (o := .cells #[.string t248, .slice Ao15 t249.length co15] 31 (0, 0)) (by (with_reducible repeat (first | refine blk_drewN ?_ _ | refine blk_drew ?_ | refine blk_alloc ?_ _)); refine blk_far ?_ NB253_282.out _; (with_reducible repeat (first | refine blk_drewN ?_ _ | refine blk_drew ?_ | refine blk_alloc ?_ _)); refine blk_far ?_ NB253_282.out _; (with_reducible repeat (first | refine blk_drewN ?_ _ | refine blk_drew ?_ | refine blk_alloc ?_ _)); exact BK253.out) hb); have n5_ := Aside0.mk (blk_below (g := gb262) (o := .cells #[.string t257, .slice Ao24 t258.length co24] 31 (0, 0)) (by (with_reducible repeat (first | refine blk_drewN ?_ _ | refine blk_drew ?_ | refine blk_alloc ?_ _)); refine blk_far ?_ NB262_282.out _; (with_reducible repeat (first | refine blk_drewN ?_ _ | refine blk_drew ?_ | refine blk_alloc ?_ _)); refine blk_far ?_ NB262_282.out _; (with_reducible repeat (first | refine blk_drewN ?_ _ | refine blk_drew ?_ | refine blk_alloc ?_ _)); exact BK262.out) hb); have n6_ := Aside0.mk (blk_below (g := gb282) (o := .cells #[.string t277, .slice Ao89 t278.length co89] 31 (0, 0)) (by (with_reducible repeat (first | refine blk_drewN ?_ _ | refine blk_drew ?_ | refine blk_alloc ?_ _)); refine blk_put (cs := #[.string t277, .slice none 0 0]) ?_ 1 _ rfl; (with_reducible repeat (first | refine blk_drewN ?_ _ | refine blk_drew ?_ | refine blk_alloc ?_ _)); refine blk_put (cs := #[.string (⟨#[]⟩ : ByteArray), .slice none 0 0]) ?_ 0 _ rfl; (with_reducible repeat (first | refine blk_drewN ?_ _ | refine blk_drew ?_ | refine blk_alloc ?_ _)); exact BK282.out) hb); have n7_ := Aside0.mk (below_step (zg HB) hb); clear HO_254001; clear HO_263001; clear HO276; clear HO280; clear BK253; clear BK262; clear BK282; clear HB; have HO_254001 := n0_; have HO_263001 := n1_; have HO276 := n2_; have HO280 := n3_; have BK253 := n4_; have BK262 := n5_; have BK282 := n6_; have HB := n7_; clear n0_ n1_ n2_ n3_ n4_ n5_ n6_ n7_; (try clear hb); (try clear hb2); (try clear hk); (try clear hi)))
             go_meet
             case rel => exact ⟨_, ((t281 != t252)), (by first | rfl | (simp; done) | (simp [*]; done)), H', ⟨by have := HJ6.out; have := HJ41.out; first | omega | exact Nat.le_refl _⟩, ⟨Kd.S_mono (zs HO_254001) (fun _ hk => ⟨hk.1.1, ⟨hk.2, hk.1.2⟩⟩)⟩, ⟨Kd.S_mono (zs HO_263001) (fun _ hk => ⟨hk.1.1, ⟨hk.2, hk.1.2⟩⟩)⟩, ⟨Kd.S_mono (zs HO280) (fun _ hk => ⟨hk.1.2, hk.2⟩)⟩, ⟨zb BK253⟩, ⟨zb BK262⟩, ⟨zb BK282⟩, ⟨zg HB⟩⟩
            ·replace c91 := Bool.eq_false_iff.mpr c91
             subst c91
             have H1 : (laws_FnExactReadDoc.j2 kj41 t271 true t257 t272) = some r := by rw [if_neg (show ¬ (false = true) by decide)] at H; exact H
             clear H
             have H := H1
             clear H1
             have H' := Aside0.mk H
             clear H
             have hnb99 := NB282_253.out
             have hnc99 := NB253_282.out
             have hnb100 := NB282_262.out
             have hnc100 := NB262_282.out
             have hcz101_0 : w85.cell? ⟨gb282, 0, none⟩ = some (.string (⟨#[]⟩ : ByteArray)) := (blk_cell BK282.out 0).trans rfl
             have hcz101_1 : w85.cell? ⟨gb282, 1, none⟩ = some (.slice none 0 0) := (blk_cell BK282.out 1).trans rfl
             have hfz101_0 := blk_frozen BK282.out 0
             have hfz101_1 := blk_frozen BK282.out 1
             have hnb102 := NB253_262.out
             have hnc102 := NB262_253.out
             have hcz103_0 : w85.cell? ⟨gb253, 0, none⟩ = some (.string t248) := (blk_cell BK253.out 0).trans rfl
             have hcz103_1 : w85.cell? ⟨gb253, 1, none⟩ = some (.slice Ao15 t249.length co15) := (blk_cell BK253.out 1).trans rfl
             have hfz103_0 := blk_frozen BK253.out 0
             have hfz103_1 := blk_frozen BK253.out 1
             go_wp2_with (first | ((with_reducible refine gate_callee (f := 13) rfl ?_); refine goesL_ (some 78) rfl rfl Try.func13 (by kernel_rfl) rfl #[.agg #[.string t277, .slice Ao89 t278.length co89], .agg #[.string t248, .slice Ao15 t249.length co15]] rfl zar ?_; (with_reducible refine (laws_eqDoc.calls kj41 t277 _ _ t278 t248 _ _ t249 false _ ?side1 ?side2 ?side3 ?side4 A90.out).mono ?_); (case side1 => refine (Kd.S_reads' (e := 66) (base := w.heap.size) (ok := fun k_ => ((True ∧ some k_ ≠ (.slice Ao15 t249.length co15 : Value).ownBlock) ∧ some k_ ≠ (.slice Ao24 t258.length co24 : Value).ownBlock)) (n := t278.length) (c := co89) ?_).2.2; exact (by (with_reducible repeat (first | apply Kd.S_alloc | apply Kd.S_drewN | apply Kd.S_drew)); exact (Kd.S_mono (Kd.S_far (p := ⟨gb282, 1, none⟩) (Kd.S_far (p := ⟨gb282, 0, none⟩) (Kd.S_types HO280.out BK282.out (by decide)) (fun _ hk => hk.2) (.string t277)) (fun _ hk => hk.2) (.slice Ao89 t278.length co89)) (fun _ h_ => h_.1)))); (case side2 => exact (Kd.S_reads' HO280.out).2.1); (case side3 => refine (Kd.S_reads' (e := 66) (base := w.heap.size) (ok := fun k_ => ((some k_ ≠ (.slice Ao24 t258.length co24 : Value).ownBlock ∧ k_ < nb20) ∧ some k_ ≠ (.slice Ao89 t278.length co89 : Value).ownBlock)) (n := t249.length) (c := co15) ?_).2.2; exact (by (with_reducible repeat (first | apply Kd.S_alloc | apply Kd.S_drewN | apply Kd.S_drew)); exact (Kd.S_mono (Kd.S_far (p := ⟨gb282, 1, none⟩) (Kd.S_far (p := ⟨gb282, 0, none⟩) (Kd.S_types HO_254001.out BK282.out (by decide)) (fun _ hk => hk.2) (.string t277)) (fun _ hk => hk.2) (.slice Ao89 t278.length co89)) (fun _ h_ => h_.1)))); (case side4 => exact (Kd.S_reads' HO_254001.out).2.1); rintro e w104 ⟨rfl, hb⟩; refine ⟨_, rfl, ?_⟩; have n0_ := Aside0.mk (Kd.S_below (by (with_reducible repeat (first | apply Kd.S_alloc | apply Kd.S_drewN | apply Kd.S_drew)); exact (Kd.S_mono (Kd.S_far (p := ⟨gb282, 1, none⟩) (Kd.S_far (p := ⟨gb282, 0, none⟩) (Kd.S_types HO_254001.out BK282.out (by decide)) (fun _ hk => hk.2) (.string t277)) (fun _ hk => hk.2) (.slice Ao89 t278.length co89)) (fun _ h_ => h_.1))) hb); have n1_ := Aside0.mk (Kd.S_below (by (with_reducible repeat (first | apply Kd.S_alloc | apply Kd.S_drewN | apply Kd.S_drew)); exact (Kd.S_mono (Kd.S_far (p := ⟨gb282, 1, none⟩) (Kd.S_far (p := ⟨gb282, 0, none⟩) (Kd.S_types HO_263001.out BK282.out (by decide)) (fun _ hk => hk.2) (.string t277)) (fun _ hk => hk.2) (.slice Ao89 t278.length co89)) (fun _ h_ => h_.1))) hb); have n2_ := Aside0.mk (Kd.R_below (by (with_reducible repeat (first | apply Kd.R_alloc | apply Kd.R_drewN | apply Kd.R_drew)); exact (Kd.R_mono (Kd.R_far (p := ⟨gb282, 1, none⟩) (Kd.R_far (p := ⟨gb282, 0, none⟩) (Kd.R_types HO276.out BK282.out (by decide)) (fun _ hk => hk.2) (.string t277)) (fun _ hk => hk.2) (.slice Ao89 t278.length co89)) (fun _ h_ => h_.1))) hb); have n3_ := Aside0.mk (Kd.S_below (by (with_reducible repeat (first | apply Kd.S_alloc | apply Kd.S_drewN | apply Kd.S_drew)); exact (Kd.S_mono (Kd.S_far (p := ⟨gb282, 1, none⟩) (Kd.S_far (p := ⟨gb282, 0, none⟩) (Kd.S_types HO280.out BK282.out (by decide)) (fun _ hk => hk.2) (.string t277)) (fun _ hk => hk.2) (.slice Ao89 t278.length co89)) (fun _ h_ => h_.1))) hb); have n4_ := Aside0.mk (blk_below (g := gb253) (o := .cells #[.string t248, .slice Ao15 t249.length co15] 31 (0, 0)) (by (with_reducible repeat (first | refine blk_drewN ?_ _ | refine blk_drew ?_ | refine blk_alloc ?_ _)); refine blk_far ?_ NB253_282.out _; (with_reducible repeat (first | refine blk_drewN ?_ _ | refine blk_drew ?_ | refine blk_alloc ?_ _)); refine blk_far ?_ NB253_282.out _; (with_reducible repeat (first | refine blk_drewN ?_ _ | refine blk_drew ?_ | refine blk_alloc ?_ _)); exact BK253.out) hb); have n5_ := Aside0.mk (blk_below (g := gb262) (o := .cells #[.string t257, .slice Ao24 t258.length co24] 31 (0, 0)) (by (with_reducible repeat (first | refine blk_drewN ?_ _ | refine blk_drew ?_ | refine blk_alloc ?_ _)); refine blk_far ?_ NB262_282.out _; (with_reducible repeat (first | refine blk_drewN ?_ _ | refine blk_drew ?_ | refine blk_alloc ?_ _)); refine blk_far ?_ NB262_282.out _; (with_reducible repeat (first | refine blk_drewN ?_ _ | refine blk_drew ?_ | refine blk_alloc ?_ _)); exact BK262.out) hb); have n6_ := Aside0.mk (blk_below (g := gb282) (o := .cells #[.string t277, .slice Ao89 t278.length co89] 31 (0, 0)) (by (with_reducible repeat (first | refine blk_drewN ?_ _ | refine blk_drew ?_ | refine blk_alloc ?_ _)); refine blk_put (cs := #[.string t277, .slice none 0 0]) ?_ 1 _ rfl; (with_reducible repeat (first | refine blk_drewN ?_ _ | refine blk_drew ?_ | refine blk_alloc ?_ _)); refine blk_put (cs := #[.string (⟨#[]⟩ : ByteArray), .slice none 0 0]) ?_ 0 _ rfl; (with_reducible repeat (first | refine blk_drewN ?_ _ | refine blk_drew ?_ | refine blk_alloc ?_ _)); exact BK282.out) hb); have n7_ := Aside0.mk (below_step (zg HB) hb); clear HO_254001; clear HO_263001; clear HO276; clear HO280; clear BK253; clear BK262; clear BK282; clear HB; have HO_254001 := n0_; have HO_263001 := n1_; have HO276 := n2_; have HO280 := n3_; have BK253 := n4_; have BK262 := n5_; have BK282 := n6_; have HB := n7_; clear n0_ n1_ n2_ n3_ n4_ n5_ n6_ n7_; (try clear hb); (try clear hb2); (try clear hk); (try clear hi)))
             go_meet
             case rel => exact ⟨_, (true), (by first | rfl | (simp; done) | (simp [*]; done)), H', ⟨by have := HJ6.out; have := HJ41.out; first | omega | exact Nat.le_refl _⟩, ⟨Kd.S_mono (zs HO_254001) (fun _ hk => ⟨hk.1.1, ⟨hk.2, hk.1.2⟩⟩)⟩, ⟨Kd.S_mono (zs HO_263001) (fun _ hk => ⟨hk.1.1, ⟨hk.2, hk.1.2⟩⟩)⟩, ⟨Kd.S_mono (zs HO280) (fun _ hk => ⟨hk.1.2, hk.2⟩)⟩, ⟨zb BK253⟩, ⟨zb BK262⟩, ⟨zb BK282⟩, ⟨zg HB⟩⟩
           case rest =>
            clear HC73
            try clear c1
            try clear c2
            try clear c2b0
            try clear c2b1
            try clear p2
            try clear c3
            try clear c4
            try clear c5
            try clear c6
            try clear c7
            try clear c8
            try clear c9
            try clear c10
            try clear c12
            try clear c13
            try clear c14
            try clear c15
            try clear c17
            try clear c18
            try clear c19
            try clear c20
            try clear c22
            try clear c26
            try clear c27
            try clear c32
            try clear c37
            try clear c40
            try clear c47
            try clear c47b0
            try clear c49
            try clear c50
            try clear c55
            try clear c60
            try clear c63
            try clear c63b0
            try clear c64
            try clear c70
            try clear c70b0
            try clear c70b1
            try clear c74
            try clear c86
            try clear c87
            try clear c91
            try clear c92
            try clear c93
            try clear c95
            try clear c99
            try clear c100
            try clear c102
            try clear hcz101_0
            try clear hcz101_1
            try clear hcz103_0
            try clear hcz103_1
            try clear hcz14_0
            try clear hcz14_1
            try clear hcz23_0
            try clear hcz23_1
            try clear hcz28_0
            try clear hcz28_1
            try clear hcz29_0
            try clear hcz29_1
            try clear hcz33_0
            try clear hcz33_1
            try clear hcz34_0
            try clear hcz34_1
            try clear hcz51_0
            try clear hcz51_1
            try clear hcz52_0
            try clear hcz52_1
            try clear hcz56_0
            try clear hcz56_1
            try clear hcz57_0
            try clear hcz57_1
            try clear hcz65_0
            try clear hcz65_1
            try clear hcz67_0
            try clear hcz67_1
            try clear hcz75_0
            try clear hcz75_1
            try clear hcz77_0
            try clear hcz77_1
            try clear hcz88_0
            try clear hcz88_1
            try clear hcz94_0
            try clear hcz94_1
            try clear hcz96_0
            try clear hcz96_1
            try clear hfz101_0
            try clear hfz101_1
            try clear hfz103_0
            try clear hfz103_1
            try clear hfz14_0
            try clear hfz14_1
            try clear hfz23_0
            try clear hfz23_1
            try clear hfz28_0
            try clear hfz28_1
            try clear hfz29_0
            try clear hfz29_1
            try clear hfz33_0
            try clear hfz33_1
            try clear hfz34_0
            try clear hfz34_1
            try clear hfz51_0
            try clear hfz51_1
            try clear hfz52_0
            try clear hfz52_1
            try clear hfz56_0
            try clear hfz56_1
            try clear hfz57_0
            try clear hfz57_1
            try clear hfz65_0
            try clear hfz65_1
            try clear hfz67_0
            try clear hfz67_1
            try clear hfz75_0
            try clear hfz75_1
            try clear hfz77_0
            try clear hfz77_1
            try clear hfz88_0
            try clear hfz88_1
            try clear hfz94_0
            try clear hfz94_1
            try clear hfz96_0
            try clear hfz96_1
            try clear p2
            obtain ⟨kq, x84_72, rfl, HA, HJ72, HO_254001, HO_263001, HO_283001, BK253, BK262, BK282, HB⟩ := hcut
            have hl263001_72 := (Kd.S_reads' HO_263001.out).1
            rw [hl263001_72] at HO_263001
            (try simp only [hl263001_72])
            (try simp only [hl263001_72] at BK253)
            (try simp only [hl263001_72] at BK262)
            (try simp only [hl263001_72] at BK282)
            (try simp only [hl263001_72] at HO_254001)
            (try simp only [hl263001_72] at HO_283001)
            cases kq with
            | zero => exact absurd HA.out (by simp [laws_FnExactReadDoc.j2])
            | succ kj72 =>
             have H := HA.out
             clear HA
             simp only [laws_FnExactReadDoc.j2] at H
             by_cases c106 : x84_72 = true
             ·subst c106
              have H1 : (some false) = some r := by rw [if_pos rfl] at H; exact H
              clear H
              have H := H1
              clear H1
              obtain rfl := Option.some.inj H
              go_wp2
              go_ret
              exact ⟨zre, zg HB⟩
             ·replace c106 := Bool.eq_false_iff.mpr c106
              subst c106
              have H1 : ((laws_heldDoc.f kj72 t257 t272 1).bind fun t284 => (if t284 < 0 then (some false) else (if t284 = t271 then (some true) else (some false)))) = some r := by rw [if_neg (show ¬ (false = true) by decide)] at H; exact H
              clear H
              have H := H1
              clear H1
              replace H := Option.bind_eq_some_iff.mp H
              obtain ⟨t284, A1070, H⟩ := H
              replace H : (if t284 < 0 then (some false) else (if t284 = t271 then (some true) else (some false))) = some r := H
              have A107 := Aside0.mk A1070
              clear A1070
              by_cases c108 : t284 < 0
              ·rw [if_pos c108] at H
               have c108b0 : decide (t284 < 0) = true := decide_eq_true c108
               clear c108
               obtain rfl := Option.some.inj H
               have hnb109 := NB262_253.out
               have hnc109 := NB253_262.out
               have hnb110 := NB262_282.out
               have hnc110 := NB282_262.out
               have hcz111_0 : wc.cell? ⟨gb262, 0, none⟩ = some (.string t257) := (blk_cell BK262.out 0).trans rfl
               have hcz111_1 : wc.cell? ⟨gb262, 1, none⟩ = some (.slice Ao24 t272.length co24) := (blk_cell BK262.out 1).trans rfl
               have hfz111_0 := blk_frozen BK262.out 0
               have hfz111_1 := blk_frozen BK262.out 1
               go_wp2_with (first | ((with_reducible refine gate_callee (f := 20) rfl ?_); refine goesL_ (some 87) rfl rfl Try.func20 (by kernel_rfl) rfl #[.agg #[.string t257, .slice Ao24 t272.length co24], .int .i64 1] rfl zar ?_; (with_reducible refine (laws_heldDoc.calls kj72 t257 _ _ t272 1 t284 _ ?side1 ?side2 A107.out).mono ?_); (case side1 => repeat (first | exact (Kd.S_reads' HO_263001.out).2.2 | (with_reducible refine Kd.C_alloc ?_ _) | (with_reducible refine Kd.C_drewN ?_ _) | (with_reducible refine Kd.C_drew ?_))); (case side2 => exact (Kd.S_reads' HO_263001.out).2.1); rintro e w112 ⟨rfl, hb⟩; refine ⟨_, rfl, ?_⟩; have n0_ := Aside0.mk (Kd.S_below (zs HO_254001) hb); have n1_ := Aside0.mk (Kd.S_below (zs HO_263001) hb); have n2_ := Aside0.mk (Kd.S_below (zs HO_283001) hb); have n3_ := Aside0.mk (blk_below (zb BK253) hb); have n4_ := Aside0.mk (blk_below (zb BK262) hb); have n5_ := Aside0.mk (blk_below (zb BK282) hb); have n6_ := Aside0.mk (below_step (zg HB) hb); clear HO_254001; clear HO_263001; clear HO_283001; clear BK253; clear BK262; clear BK282; clear HB; have HO_254001 := n0_; have HO_263001 := n1_; have HO_283001 := n2_; have BK253 := n3_; have BK262 := n4_; have BK282 := n5_; have HB := n6_; clear n0_ n1_ n2_ n3_ n4_ n5_ n6_; (try clear hb); (try clear hb2); (try clear hk); (try clear hi)))
               go_ret
               exact ⟨zre, zg HB⟩
              ·rw [if_neg c108] at H
               have c108b0 : decide (t284 < 0) = false := decide_eq_false c108
               clear c108
               by_cases c114 : t284 = t271
               ·rw [if_pos c114] at H
                have c114b0 : (t284 == t271) = true := beq_iff_eq.mpr c114
                have c114b1 : (t284 != t271) = false := bne_eq_false_iff_eq.mpr c114
                clear c114
                obtain rfl := Option.some.inj H
                have hnb115 := NB262_253.out
                have hnc115 := NB253_262.out
                have hnb116 := NB262_282.out
                have hnc116 := NB282_262.out
                have hcz117_0 : wc.cell? ⟨gb262, 0, none⟩ = some (.string t257) := (blk_cell BK262.out 0).trans rfl
                have hcz117_1 : wc.cell? ⟨gb262, 1, none⟩ = some (.slice Ao24 t272.length co24) := (blk_cell BK262.out 1).trans rfl
                have hfz117_0 := blk_frozen BK262.out 0
                have hfz117_1 := blk_frozen BK262.out 1
                go_wp2_with (first | ((with_reducible refine gate_callee (f := 20) rfl ?_); refine goesL_ (some 87) rfl rfl Try.func20 (by kernel_rfl) rfl #[.agg #[.string t257, .slice Ao24 t272.length co24], .int .i64 1] rfl zar ?_; (with_reducible refine (laws_heldDoc.calls kj72 t257 _ _ t272 1 t284 _ ?side1 ?side2 A107.out).mono ?_); (case side1 => repeat (first | exact (Kd.S_reads' HO_263001.out).2.2 | (with_reducible refine Kd.C_alloc ?_ _) | (with_reducible refine Kd.C_drewN ?_ _) | (with_reducible refine Kd.C_drew ?_))); (case side2 => exact (Kd.S_reads' HO_263001.out).2.1); rintro e w118 ⟨rfl, hb⟩; refine ⟨_, rfl, ?_⟩; have n0_ := Aside0.mk (Kd.S_below (zs HO_254001) hb); have n1_ := Aside0.mk (Kd.S_below (zs HO_263001) hb); have n2_ := Aside0.mk (Kd.S_below (zs HO_283001) hb); have n3_ := Aside0.mk (blk_below (zb BK253) hb); have n4_ := Aside0.mk (blk_below (zb BK262) hb); have n5_ := Aside0.mk (blk_below (zb BK282) hb); have n6_ := Aside0.mk (below_step (zg HB) hb); clear HO_254001; clear HO_263001; clear HO_283001; clear BK253; clear BK262; clear BK282; clear HB; have HO_254001 := n0_; have HO_263001 := n1_; have HO_283001 := n2_; have BK253 := n3_; have BK262 := n4_; have BK282 := n5_; have HB := n6_; clear n0_ n1_ n2_ n3_ n4_ n5_ n6_; (try clear hb); (try clear hb2); (try clear hk); (try clear hi)))
                go_ret
                exact ⟨zre, zg HB⟩
               ·rw [if_neg c114] at H
                have c114b0 : (t284 == t271) = false := beq_eq_false_iff_ne.mpr c114
                have c114b1 : (t284 != t271) = true := bne_iff_ne.mpr c114
                obtain rfl := Option.some.inj H
                have hnb120 := NB262_253.out
                have hnc120 := NB253_262.out
                have hnb121 := NB262_282.out
                have hnc121 := NB282_262.out
                have hcz122_0 : wc.cell? ⟨gb262, 0, none⟩ = some (.string t257) := (blk_cell BK262.out 0).trans rfl
                have hcz122_1 : wc.cell? ⟨gb262, 1, none⟩ = some (.slice Ao24 t272.length co24) := (blk_cell BK262.out 1).trans rfl
                have hfz122_0 := blk_frozen BK262.out 0
                have hfz122_1 := blk_frozen BK262.out 1
                go_wp2_with (first | ((with_reducible refine gate_callee (f := 20) rfl ?_); refine goesL_ (some 87) rfl rfl Try.func20 (by kernel_rfl) rfl #[.agg #[.string t257, .slice Ao24 t272.length co24], .int .i64 1] rfl zar ?_; (with_reducible refine (laws_heldDoc.calls kj72 t257 _ _ t272 1 t284 _ ?side1 ?side2 A107.out).mono ?_); (case side1 => repeat (first | exact (Kd.S_reads' HO_263001.out).2.2 | (with_reducible refine Kd.C_alloc ?_ _) | (with_reducible refine Kd.C_drewN ?_ _) | (with_reducible refine Kd.C_drew ?_))); (case side2 => exact (Kd.S_reads' HO_263001.out).2.1); rintro e w123 ⟨rfl, hb⟩; refine ⟨_, rfl, ?_⟩; have n0_ := Aside0.mk (Kd.S_below (zs HO_254001) hb); have n1_ := Aside0.mk (Kd.S_below (zs HO_263001) hb); have n2_ := Aside0.mk (Kd.S_below (zs HO_283001) hb); have n3_ := Aside0.mk (blk_below (zb BK253) hb); have n4_ := Aside0.mk (blk_below (zb BK262) hb); have n5_ := Aside0.mk (blk_below (zb BK282) hb); have n6_ := Aside0.mk (below_step (zg HB) hb); clear HO_254001; clear HO_263001; clear HO_283001; clear BK253; clear BK262; clear BK282; clear HB; have HO_254001 := n0_; have HO_263001 := n1_; have HO_283001 := n2_; have BK253 := n3_; have BK262 := n4_; have BK282 := n5_; have HB := n6_; clear n0_ n1_ n2_ n3_ n4_ n5_ n6_; (try clear hb); (try clear hb2); (try clear hk); (try clear hi)))
                go_ret
                exact ⟨zre, zg HB⟩
          ·rw [if_neg c70] at H
           have c70b0 : (t273 == t271) = false := beq_eq_false_iff_ne.mpr c70
           have c70b1 : (t273 != t271) = true := bne_iff_ne.mpr c70
           obtain rfl := Option.some.inj H
           have hnb125 := NB262_253.out
           have hnc125 := NB253_262.out
           have hcz126_0 : wc.cell? ⟨gb262, 0, none⟩ = some (.string t257) := (blk_cell BK262.out 0).trans rfl
           have hcz126_1 : wc.cell? ⟨gb262, 1, none⟩ = some (.slice Ao24 t258.length co24) := (blk_cell BK262.out 1).trans rfl
           have hfz126_0 := blk_frozen BK262.out 0
           have hfz126_1 := blk_frozen BK262.out 1
           go_wp2_with (first | ((with_reducible refine gate_callee (f := 14) rfl ?_); refine goesL_ (some 61) rfl rfl Try.func14 (by kernel_rfl) rfl #[.agg #[.string t257, .slice Ao24 t258.length co24], .int .i64 1] rfl zar ?_; (with_reducible refine (laws_markDoc.calls kj41 t257 ?pz_ (.slice Ao24 t258.length co24) t258 1 t271 t272 w _ ?side1 ?side2 A61.out).mono ?_); (case side1 => repeat (first | (with_reducible first | exact HB.out | apply below_alloc | apply pw_below_drewN | apply below_drew1 | refine below_set ?_ GE253.out | refine below_set ?_ GE262.out) | exact HB.out)); (case side2 => exact Kd.S_bound (HO_263001.out)); rintro e w127 ⟨rfl, hy0, hb, hkp⟩; refine ⟨_, rfl, ?_⟩; have n0_ := Aside0.mk (Kd.S_kept (ok := fun k_ => (some k_ ≠ (.slice Ao24 t258.length co24 : Value).ownBlock ∧ k_ < nb20)) (zs HO_254001) hkp (fun k_ h1_ h2_ => Nat.not_le.2 h1_.2 h2_.1.2)); have n1_ := Aside0.mk (Kd.S_mono hy0 (fun k_ h_ => h_.1)); have n2_ := Aside0.mk (blk_keptT (zb BK253) hkp (by decide)); have n3_ := Aside0.mk (blk_keptT (zb BK262) hkp (by decide)); have n4_ := Aside0.mk (hb); clear HO_254001; clear HO_263001; clear BK253; clear BK262; clear HB; have HO_254001 := n0_; have HO_263001 := n1_; have BK253 := n2_; have BK262 := n3_; have HB := n4_; clear n0_ n1_ n2_ n3_ n4_; (try clear hb); (try clear hkp); (try clear hy0); have hcz128_0 : w127.cell? ⟨gb262, 0, none⟩ = some (.string t257) := (blk_cell BK262.out 0).trans rfl; have hcz128_1 : w127.cell? ⟨gb262, 1, none⟩ = some (.slice Ao24 t258.length co24) := (blk_cell BK262.out 1).trans rfl; have hfz128_0 := blk_frozen BK262.out 0; have hfz128_1 := blk_frozen BK262.out 1) | ((with_reducible refine gate_callee (f := 20) rfl ?_); refine goesL_ (some 64) rfl rfl Try.func20 (by kernel_rfl) rfl #[.agg #[.string t257, .slice Ao24 t272.length co24], .int .i64 1] rfl (by (try simp only [List.map_toArray, List.map_cons, List.map_nil]); first | done | (rw [show t272.length = t258.length from (Kd.S_reads' HO_263001.out).1.symm] <;> rfl) | rfl | (simp only [List.length_drop, List.length_take]; rfl)) ?_; (with_reducible refine (laws_heldDoc.calls kj41 t257 _ _ t272 1 t273 _ ?side1 ?side2 A62.out).mono ?_); (case side1 => repeat (first | exact (Kd.S_reads' HO_263001.out).2.2 | (with_reducible refine Kd.C_alloc ?_ _) | (with_reducible refine Kd.C_drewN ?_ _) | (with_reducible refine Kd.C_drew ?_))); (case side2 => rw [show t272.length = t258.length from (Kd.S_reads' HO_263001.out).1.symm]; exact (Kd.S_reads' HO_263001.out).2.1); rintro e w129 ⟨rfl, hb⟩; refine ⟨_, rfl, ?_⟩; have n0_ := Aside0.mk (Kd.S_below (zs HO_254001) hb); have n1_ := Aside0.mk (Kd.S_below (zs HO_263001) hb); have n2_ := Aside0.mk (blk_below (zb BK253) hb); have n3_ := Aside0.mk (blk_below (zb BK262) hb); have n4_ := Aside0.mk (below_step (zg HB) hb); clear HO_254001; clear HO_263001; clear BK253; clear BK262; clear HB; have HO_254001 := n0_; have HO_263001 := n1_; have BK253 := n2_; have BK262 := n3_; have HB := n4_; clear n0_ n1_ n2_ n3_ n4_; (try clear hb); (try clear hb2); (try clear hk); (try clear hi)))
           go_ret
           exact ⟨zre, zg HB⟩
     ·replace c40 := Bool.eq_false_iff.mpr c40
      subst c40
      have H1 : (some false) = some r := by rw [if_neg (show ¬ (false = true) by decide)] at H; exact H
      clear H
      have H := H1
      clear H1
      obtain rfl := Option.some.inj H
      go_wp2_with (first | ((with_reducible refine gate_callee (f := 18) rfl ?_); refine goesL_ (some 40) rfl rfl Try.func18 (by kernel_rfl) rfl #[.slice A0 l0.length c0] rfl zar ?_; (with_reducible refine (laws_toByteS.calls kj6 _ _ l0 t264 _ ?side1 ?side2 A38.out).mono ?_); (case side1 => repeat (first | exact (Kd.C_below HR0.out HB.out) | (with_reducible refine Kd.C_alloc ?_ _) | (with_reducible refine Kd.C_drewN ?_ _) | (with_reducible refine Kd.C_drew ?_))); (case side2 => exact HC0.out); rintro e w131 ⟨v265, rfl, ho0, hb⟩; refine ⟨_, rfl, ?_⟩; have n0_ := Aside0.mk (Kd.R_elder' (zr HO_5) (Kd.R_base ho0) hb); have n1_ := Aside0.mk (Kd.S_below (zs HO_254001) hb); have n2_ := Aside0.mk (Kd.S_below (zs HO_263001) hb); have n3_ := Aside0.mk (Kd.R_lower (Kd.R_new' ho0 (Kd.R_lt (zr HO_5))) (below_size (zg HB))); have n4_ := Aside0.mk (blk_below (zb BK253) hb); have n5_ := Aside0.mk (blk_below (zb BK262) hb); have n6_ := Aside0.mk (below_step (zg HB) hb); clear HO_5; clear HO_254001; clear HO_263001; clear BK253; clear BK262; clear HB; have HO_5 := n0_; have HO_254001 := n1_; have HO_263001 := n2_; have HO266 := n3_; have BK253 := n4_; have BK262 := n5_; have HB := n6_; clear n0_ n1_ n2_ n3_ n4_ n5_ n6_; (try clear hb); (try clear hb2); (try clear hk); (try clear hi); (try clear ho0); obtain ⟨Ao133, co133, eo133⟩ := Kd.R_slice HO266.out; subst eo133) | ((with_reducible refine gate_callee (f := 12) rfl ?_); refine goesL_ (some 41) rfl rfl Try.func12 (by kernel_rfl) rfl #[.slice Ao18 t254.length co18, .slice Ao133 t264.length co133] rfl zar ?_; (with_reducible refine (laws_eqByteS.calls kj6 _ _ t254 _ _ t264 false _ ?side1 ?side2 ?side3 ?side4 A39.out).mono ?_); (case side1 => repeat (first | exact (Kd.R_reads' HO_5.out).2.2 | (with_reducible refine Kd.C_alloc ?_ _) | (with_reducible refine Kd.C_drewN ?_ _) | (with_reducible refine Kd.C_drew ?_))); (case side2 => exact (Kd.R_reads' HO_5.out).2.1); (case side3 => repeat (first | exact (Kd.R_reads' HO266.out).2.2 | (with_reducible refine Kd.C_alloc ?_ _) | (with_reducible refine Kd.C_drewN ?_ _) | (with_reducible refine Kd.C_drew ?_))); (case side4 => exact (Kd.R_reads' HO266.out).2.1); rintro e w' ⟨rfl, ⟨nd, rfl⟩⟩; refine ⟨_, rfl, ?_⟩))
      go_ret
      exact ⟨zre, zg HB⟩

/-- THE ONE PURE STATEMENT of laws_FnExactReadDoc: yours. -/
def laws_FnExactReadDoc.Pure : Prop := ∀ (l0 : List Int), l0.length ≤ maxLen → l0.length * 1 ≤ 140737488351232 → (∀ x ∈ l0, (Lit.int .u8 x).wf = true) → ∃ k, laws_FnExactReadDoc.f k l0 = some true
theorem laws_FnExactReadDoc.walk (P : laws_FnExactReadDoc.Pure) (a0 : Option Addr) (len0 cap0 : Nat) (z0 : List Int) (w : World) (w0 : (a0 = none ∧ len0 = 0 ∧ cap0 = 0 ∧ z0 = []) ∨ ∃ x, a0 = some x ∧ len0 ≤ cap0 ∧ cap0 ≤ maxLen ∧ z0.length = cap0 ∧ (∀ i, i < z0.length → w.cell? (x.add i) = some (.int .u8 (z0.getD i 0))) ∧ ∀ n ∈ z0, (Lit.int .u8 n).wf = true) (y0 : len0 * 1 ≤ 140737488351232) :
 Calls Try.prog 4 #[.slice a0 len0 cap0] w fun e w' => e = .returned (.bool true) ∧ Below w.heap.size w w' := by
 obtain ⟨l0, rfl, hr0, hm0, hw0, hc0⟩ := ReadsInt.ofRowC w0
 obtain ⟨k, h⟩ := P l0 hm0 y0 hw0
 refine (laws_FnExactReadDoc.calls k _ _ l0 true w (Kd.C_of_reads (d := (0 : Int)) (h1 := fun _ => rfl) hr0) hc0 h).mono ?_
 rintro e w' ⟨rfl, hd⟩
 exact ⟨rfl, hd⟩

end Go.Proofs.Ytnpdmleglcbobaa.XFnExactReadDoc
