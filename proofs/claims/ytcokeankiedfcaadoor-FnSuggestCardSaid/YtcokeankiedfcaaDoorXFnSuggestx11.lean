-- A printed text of this session (wip/x/xprint.py).
import Derived.Test.YtcokeankiedfcaaDoorXFnSuggestx0
import Derived.Test.YtcokeankiedfcaaDoorXFnSuggestx8
import Derived.Test.YtcokeankiedfcaaDoorXFnSuggestx10
namespace Go.Proofs.YtcokeankiedfcaaDoor.XFnSuggest
open Go.RowKit Go.Proofs.YtcokeankiedfcaaDoorW.PrintWords Go.Proofs.YtcokeankiedfcaaDoorW.PrintLast Go.Proofs.YtcokeankiedfcaaDoorW.PrintMore
attribute [local go_sem] max2_int min2_int max_two min_two max_three min_three max_four min_four   -- for this text's walks alone
set_option linter.unusedVariables false
set_option linter.unusedSimpArgs false

/-! ### spec_DrawSuggest: function 51 -/
mutual
def spec_DrawSuggest.l0 : Nat → List ByteArray → Int → List Int → Int → Int → Option (List ByteArray × ByteArray × Int)
  | 0, _, _, _, _, _ => none
  | k + 1, x6, x7, x300000, x300001, x300002 => if x7 > 0 then ((spec_l01Src_word.f x300000 x300001 x300002).bind fun bt309 => (if x6.length < 8796093022208 then (spec_DrawSuggest.l0 k (x6 ++ [bt309.1]) (wrap64 (x7 - 1)) x300000 bt309.2.1 bt309.2.2) else (none))) else ((spec_l01Src_word.f x300000 x300001 x300002).bind fun bt315 => ((spec_l01Src_next.f x300000 bt315.2.1 bt315.2.2 12).bind fun bt318 => (if bt318.1 = 0 then (spec_DrawSuggest.j1 k x6 bt315.1 bt318.1 (bt318.1 == 0) x300000 bt318.2.1 bt318.2.2) else (spec_DrawSuggest.j1 k x6 bt315.1 bt318.1 (bt318.1 == 1) x300000 bt318.2.1 bt318.2.2))))
def spec_DrawSuggest.j2 : Nat → List ByteArray → ByteArray → List Int → Int → Int → Option (List ByteArray × ByteArray × Int)
  | 0, _, _, _, _, _ => none
  | k + 1, x6, x8, x300000, x300001, x300002 => (spec_l01Src_next.f x300000 x300001 x300002 8).bind fun bt340 => ((spec_l01Src_chance.f x300000 bt340.2.1 bt340.2.2 10).bind fun bt343 => (if bt343.1 = true then ((some (([(-1), 20, 21] : List Int) : List Int)).bind fun y346 => ((spec_l01Src_next.f x300000 bt343.2.1 bt343.2.2 3).bind fun bt349 => (if 0 ≤ bt349.1 then (if bt349.1 < (y346.length : Int) then (some (x6, x8, rd y346 bt349.1)) else (none)) else (none)))) else (some (x6, x8, bt340.1))))
def spec_DrawSuggest.j1 : Nat → List ByteArray → ByteArray → Int → Bool → List Int → Int → Int → Option (List ByteArray × ByteArray × Int)
  | 0, _, _, _, _, _, _, _ => none
  | k + 1, x6, x8, x30, x31, x300000, x300001, x300002 => if x31 = true then ((spec_l01Src_spoil.f x300000 x300001 x300002 x8).bind fun bt321 => (spec_DrawSuggest.j2 k x6 bt321.1 x300000 bt321.2.1 bt321.2.2)) else (if x30 = 2 then ((spec_l01Src_spoil.f x300000 x300001 x300002 x8).bind fun bt324 => (if x6.length < 8796093022208 then (spec_DrawSuggest.j2 k (x6 ++ [bt324.1]) x8 x300000 bt324.2.1 bt324.2.2) else (none))) else (if x30 = 3 then ((spec_l01Src_next.f x300000 x300001 x300002 2).bind fun bt330 => ((spec_l01Repeat.f k (⟨#[115]⟩ : ByteArray) (wrap64 (200 + bt330.1))).bind fun t333 => (if t333.size + 1 ≤ 9223372036854775807 then ((some (([t333 ++ (⟨#[115]⟩ : ByteArray), t333] : List ByteArray) : List ByteArray)).bind fun y334 => (if x6.length + y334.length < 8796093022208 then (spec_DrawSuggest.j2 k (x6 ++ y334) t333 x300000 bt330.2.1 bt330.2.2) else (none))) else (none)))) else (spec_DrawSuggest.j2 k x6 x8 x300000 x300001 x300002)))
end
def spec_DrawSuggest.f (k : Nat) (l0 : List Int) : Option (List ByteArray × ByteArray × Int) := (spec_l01Source.f l0).bind fun bt296 => ((spec_l01Src_size.f bt296.1 bt296.2.1 bt296.2.2 30).bind fun bt303 => ((spec_l01Src_next.f bt296.1 bt303.2.1 bt303.2.2 (wrap64 (bt303.1 + 1))).bind fun bt306 => (spec_DrawSuggest.l0 k (([] : List ByteArray)) bt306.1 bt296.1 bt306.2.1 bt306.2.2)))
theorem spec_DrawSuggest.mono_l : ∀ k, (∀ y0 y1 y2 y3 y4, LeO (spec_DrawSuggest.l0 k y0 y1 y2 y3 y4) (spec_DrawSuggest.l0 (k + 1) y0 y1 y2 y3 y4)) ∧ (∀ y0 y1 y2 y3 y4, LeO (spec_DrawSuggest.j2 k y0 y1 y2 y3 y4) (spec_DrawSuggest.j2 (k + 1) y0 y1 y2 y3 y4)) ∧ (∀ y0 y1 y2 y3 y4 y5 y6, LeO (spec_DrawSuggest.j1 k y0 y1 y2 y3 y4 y5 y6) (spec_DrawSuggest.j1 (k + 1) y0 y1 y2 y3 y4 y5 y6))
  | 0 => ⟨fun _ _ _ _ _ r h => by simp [spec_DrawSuggest.l0] at h, fun _ _ _ _ _ r h => by simp [spec_DrawSuggest.j2] at h, fun _ _ _ _ _ _ _ r h => by simp [spec_DrawSuggest.j1] at h⟩
  | k + 1 => by
    obtain ⟨ih0, ih1, ih2⟩ := spec_DrawSuggest.mono_l k
    refine ⟨?_, ?_, ?_⟩
    all_goals intros
    all_goals first | unfold spec_DrawSuggest.l0 | unfold spec_DrawSuggest.j2 | unfold spec_DrawSuggest.j1
    all_goals
      repeat' first
      | (with_reducible exact ih0 _ _ _ _ _)
      | (with_reducible exact ih1 _ _ _ _ _)
      | (with_reducible exact ih2 _ _ _ _ _ _ _)
      | (with_reducible exact spec_l01Repeat.mono _ _ _)
      | (with_reducible exact LeO.refl _)
      | (with_reducible exact LeO.none _)
      | (with_reducible refine LeO.ite ?_ ?_)
      | (with_reducible refine LeO.bind ?_ (fun _ => ?_))
theorem spec_DrawSuggest.mono : ∀ a0 k, LeO (spec_DrawSuggest.f k a0) (spec_DrawSuggest.f (k + 1) a0) := by
  intro a0 k
  obtain ⟨ih0, ih1, ih2⟩ := spec_DrawSuggest.mono_l k
  unfold spec_DrawSuggest.f
  repeat' first
      | (with_reducible exact ih0 _ _ _ _ _)
      | (with_reducible exact ih1 _ _ _ _ _)
      | (with_reducible exact ih2 _ _ _ _ _ _ _)
      | (with_reducible exact spec_l01Repeat.mono _ _ _)
      | (with_reducible exact LeO.refl _)
      | (with_reducible exact LeO.none _)
      | (with_reducible refine LeO.ite ?_ ?_)
      | (with_reducible refine LeO.bind ?_ (fun _ => ?_))
set_option maxHeartbeats 8000000 in
set_option maxRecDepth 100000 in
theorem spec_DrawSuggest.calls (k : Nat) (A0 : Option Addr) (c0 : Nat) (l0 : List Int) (r1 : List ByteArray) (r2 : ByteArray) (r3 : Int) (w : World) (hr0 : Kd.C (Kd.int .u8) w A0 l0.length l0) (hc0 : l0.length ≤ c0) (h : spec_DrawSuggest.f k l0 = some (r1, r2, r3)) :
    Calls Tryd.prog 51 #[.slice A0 l0.length c0] w fun e w' => ∃ v0_ : Value, e = .returned (.tuple #[v0_, .string r2, .int .i64 r3]) ∧ Kd.R Kd.string 9 w' w.heap.size (fun _ => True) v0_ r1 ∧ Below w.heap.size w w' := by
  have HR0 := Aside0.mk hr0
  have HC0 := Aside0.mk hc0
  clear hr0 hc0
  have HB := Aside0.mk (Below.refl w.heap.size w)
  have H := h
  unfold spec_DrawSuggest.f at H
  clear h
  replace H := Option.bind_eq_some_iff.mp H
  obtain ⟨⟨t296, t297, t298⟩, A20, H⟩ := H
  try dsimp only at H
  have A2 := Aside0.mk A20
  clear A20
  obtain ⟨y300, hy300⟩ : ∃ y_ : List ByteArray, y_ = (([] : List ByteArray)) := ⟨_, rfl⟩
  replace H : ((spec_l01Src_size.f t296 t297 t298 30).bind fun bt303 => ((spec_l01Src_next.f t296 bt303.2.1 bt303.2.2 (wrap64 (bt303.1 + 1))).bind fun bt306 => (spec_DrawSuggest.l0 k y300 bt306.1 t296 bt306.2.1 bt306.2.2))) = some (r1, r2, r3) := zby hy300 H
  have Ny300 := Aside0.mk hy300
  clear hy300
  replace H := Option.bind_eq_some_iff.mp H
  obtain ⟨⟨t303, t304, t305⟩, A30, H⟩ := H
  try dsimp only at H
  have A3 := Aside0.mk A30
  clear A30
  replace H := Option.bind_eq_some_iff.mp H
  obtain ⟨⟨t306, t307, t308⟩, A40, H⟩ := H
  try dsimp only at H
  have A4 := Aside0.mk A40
  clear A40
  have H' := Aside0.mk H
  clear H
  go_enter Tryd.func51, Tryd.ntmps51
  go_wp2_with (first | ((with_reducible refine gate_callee (f := 58) rfl ?_); refine goesL_ (some 11) rfl rfl Tryd.func58 (by kernel_rfl) rfl #[.slice A0 l0.length c0] rfl zar ?_; (with_reducible refine (spec_l01Source.calls _ _ l0 t296 t297 t298 w _ ?side1 ?side2 ?side3 A2.out).mono ?_); (case side1 => exact zh HB); (case side2 => exact HR0.out); (case side3 => exact HC0.out); rintro e w5 ⟨g299, rfl, hi, hb, hb2⟩; refine ⟨_, rfl, ?_⟩; replace HB := Aside0.mk (hb); have HI299 := Aside0.mk (hi); (try clear hb); (try clear hb2); (try clear hk); (try clear hi)) | ((with_reducible refine gate_dst (N := 12) rfl ?_); refine Kd.R_lit Kd.string _ 9 ?hg (N := 12) ?hd (xs := ([] : List ByteArray)) (inner := []) (ok := fun _ => True) (okp := fun _ => True) ?hr ?hp (fun _ hk => hk) trivial (Below.refl _ _) (Nat.le_refl _) (by simp) ?_; (case hd => rfl); (case hg => rfl); (case hr => first | (go_simp; done) | (go_simp; rfl)); (case hp => exact (Reps.none _ _)); intro v301 w6 ho7 hb hg_ hnew_; clear hg_ hnew_; (first | rw [← Ny300.out] at ho7 | (simp only [Int.reduceToNat] at ho7; rw [← Ny300.out] at ho7)); have HO302 := Aside0.mk (Kd.R_lower ho7 (below_size (zj127 HB))); replace HI299 := Aside0.mk (IsS127.below (zi127 HI299) hb); replace HB := Aside0.mk (below_step (zj127 HB) hb); clear hb ho7) | ((with_reducible refine gate_callee (f := 97) rfl ?_); refine goesL_ (some 15) rfl rfl Tryd.func97 (by kernel_rfl) rfl #[.pointer (some ⟨g299, 0, none⟩), .int .i64 30] rfl zar ?_; (with_reducible refine (spec_l01Src_size.calls g299 t296 t297 t298 30 t303 t304 t305 w _ ?side1 ?side2 A3.out).mono ?_); (case side1 => exact zi127 HI299); (case side2 => exact zj127 HB); rintro e w8 ⟨rfl, hi, hb, hk⟩; refine ⟨_, rfl, ?_⟩; replace HO302 := Aside0.mk (Kd.R_mono (Kd.R_keep (IsS127.apart (show IsS127 w _ g299 t296 t297 t298 from zi127 HI299) (zr HO302) (by decide)) hk (fun _ h => h.2)) (fun _ h => h.1)); replace HB := Aside0.mk (hb); replace HI299 := Aside0.mk (hi); (try clear hb); (try clear hb2); (try clear hk); (try clear hi)) | ((with_reducible refine gate_callee (f := 60) rfl ?_); refine goesL_ (some 17) rfl rfl Tryd.func60 (by kernel_rfl) rfl #[.pointer (some ⟨g299, 0, none⟩), .int .i64 (wrap64 (t303 + 1))] rfl zar ?_; (with_reducible refine (spec_l01Src_next.calls g299 t296 t304 t305 (wrap64 (t303 + 1)) t306 t307 t308 w _ ?side1 ?side2 A4.out).mono ?_); (case side1 => exact zi127 HI299); (case side2 => exact zj127 HB); rintro e w9 ⟨rfl, hi, hb, hk⟩; refine ⟨_, rfl, ?_⟩; replace HO302 := Aside0.mk (Kd.R_mono (Kd.R_keep (IsS127.apart (show IsS127 w _ g299 t296 t304 t305 from zi127 HI299) (zr HO302) (by decide)) hk (fun _ h => h.2)) (fun _ h => h.1)); replace HB := Aside0.mk (hb); replace HI299 := Aside0.mk (hi); (try clear hb); (try clear hb2); (try clear hk); (try clear hi)))
  go_loopg [6, 7] k (fun kq v6 v7 w' => ∃ (x6_1 : List ByteArray) (x7_1 : Int) (x300001_1 : Int) (x300002_1 : Int), v7 = .int .i64 x7_1 ∧ Aside0 (spec_DrawSuggest.l0 kq x6_1 x7_1 t296 x300001_1 x300002_1 = some (r1, r2, r3)) ∧ Aside0 (kq ≤ k) ∧ Aside0 (Kd.R Kd.string 9 w' w.heap.size (fun _ => True) v6 x6_1) ∧ Aside0 (IsS127 w w' g299 t296 x300001_1 x300002_1) ∧ Aside0 (Below w.heap.size w w'))
  case atStart => exact ⟨(y300), (t306), (t307), (t308), zrs, H', ⟨Nat.le_refl _⟩, ⟨zr HO302⟩, ⟨zi127 HI299⟩, ⟨zj127 HB⟩⟩
  case round =>
    clear H'
    obtain ⟨x6_1, x7_1, x300001_1, x300002_1, rfl, HA, HK1, HO_6, HI299, HB⟩ := hrel
    cases gk with
    | zero => exact absurd HA.out (by simp [spec_DrawSuggest.l0])
    | succ k1 =>
      have H := HA.out
      clear HA
      simp only [spec_DrawSuggest.l0] at H
      by_cases c10 : x7_1 > 0
      · rw [if_pos c10] at H
        have c10b0 : decide (0 < x7_1) = true := decide_eq_true c10
        clear c10
        replace H := Option.bind_eq_some_iff.mp H
        obtain ⟨⟨t309, t310, t311⟩, A110, H⟩ := H
        try dsimp only at H
        have A11 := Aside0.mk A110
        clear A110
        by_cases c12 : x6_1.length < 8796093022208
        rotate_left
        · rw [if_neg c12] at H
          exact absurd H (by simp)
        rw [if_pos c12] at H
        have LMc12 := Aside0.mk c12
        clear c12
        obtain ⟨y312, hy312⟩ : ∃ y_ : List ByteArray, y_ = (x6_1 ++ [t309]) := ⟨_, rfl⟩
        replace H : (spec_DrawSuggest.l0 k1 y312 (wrap64 (x7_1 - 1)) t296 t310 t311) = some (r1, r2, r3) := zby hy312 H
        have Ny312 := Aside0.mk hy312
        clear hy312
        have H' := Aside0.mk H
        clear H
        go_wp2_with (first | ((with_reducible refine gate_callee (f := 98) rfl ?_); refine goesL_ (some 24) rfl rfl Tryd.func98 (by kernel_rfl) rfl #[.pointer (some ⟨g299, 0, none⟩)] rfl zar ?_; (with_reducible refine (spec_l01Src_word.calls g299 t296 x300001_1 x300002_1 t309 t310 t311 w _ ?side1 ?side2 A11.out).mono ?_); (case side1 => exact zi127 HI299); (case side2 => exact zj127 HB); rintro e w13 ⟨rfl, hi, hb, hk⟩; refine ⟨_, rfl, ?_⟩; replace HO_6 := Aside0.mk (Kd.R_mono (Kd.R_keep (IsS127.apart (show IsS127 w _ g299 t296 x300001_1 x300002_1 from zi127 HI299) (zr HO_6) (by decide)) hk (fun _ h => h.2)) (fun _ h => h.1)); replace HB := Aside0.mk (hb); replace HI299 := Aside0.mk (hi); (try clear hb); (try clear hb2); (try clear hk); (try clear hi)) | ((with_reducible refine gate_builtin (b := .append) (xs := #[.tmp 22, .tmp 25]) rfl ?_); at_builtin; refine Kd.R_append Kd.string (w0 := w) w.heap.size rfl (.tmp 22) (.tmp 25) 39 9 (.string ⟨#[]⟩) 16 rfl Tryd.underlying39 info9 rfl (by decide) (by omega) u6 x6_1 t309 [.string t309] (fun _ => True) (fun _ => False) rfl rfl ?aP (fun _ hk => hk.elim) ?aF ?aO ?aB ?aS ?aL ?_; (case aP => exact rfl); (case aB => exact (zj127 HB)); (case aF => exact (fun _ _ => trivial)); (case aO => exact (zr HO_6)); (case aS => exact (below_size (zj127 HB))); (case aL => have := LMc12.out; omega); intro v313 w14 ho hb hg hat; rw [← Ny312.out] at ho; replace HI299 := Aside0.mk (IsS127.grown (zi127 HI299) hg (IsS127.own_ne HI299.out HO_6.out (by decide))); replace HB := Aside0.mk (hb); have HO314 := Aside0.mk (ho); clear HO_6; clear ho hb hg hat))
        go_roundg k1
        case measure => have := HK1.out; omega
        case rel => exact ⟨(y312), (wrap64 (x7_1 - 1)), (t310), (t311), zrs, H', ⟨by have := HK1.out; omega⟩, ⟨zr HO314⟩, ⟨zi127 HI299⟩, ⟨zj127 HB⟩⟩
      rw [if_neg c10] at H
      have c10b0 : decide (0 < x7_1) = false := decide_eq_false c10
      clear c10
      replace H := Option.bind_eq_some_iff.mp H
      obtain ⟨⟨t315, t316, t317⟩, A150, H⟩ := H
      try dsimp only at H
      have A15 := Aside0.mk A150
      clear A150
      replace H := Option.bind_eq_some_iff.mp H
      obtain ⟨⟨t318, t319, t320⟩, A160, H⟩ := H
      try dsimp only at H
      have A16 := Aside0.mk A160
      clear A160
      have HC17 := Aside0.mk H
      clear H
      go_upto_block 2 with (first | ((with_reducible refine gate_callee (f := 98) rfl ?_); refine goesL_ (some 28) rfl rfl Tryd.func98 (by kernel_rfl) rfl #[.pointer (some ⟨g299, 0, none⟩)] rfl zar ?_; (with_reducible refine (spec_l01Src_word.calls g299 t296 x300001_1 x300002_1 t315 t316 t317 w _ ?side1 ?side2 A15.out).mono ?_); (case side1 => exact zi127 HI299); (case side2 => exact zj127 HB); rintro e w18 ⟨rfl, hi, hb, hk⟩; refine ⟨_, rfl, ?_⟩; replace HO_6 := Aside0.mk (Kd.R_mono (Kd.R_keep (IsS127.apart (show IsS127 w _ g299 t296 x300001_1 x300002_1 from zi127 HI299) (zr HO_6) (by decide)) hk (fun _ h => h.2)) (fun _ h => h.1)); replace HB := Aside0.mk (hb); replace HI299 := Aside0.mk (hi); (try clear hb); (try clear hb2); (try clear hk); (try clear hi)) | ((with_reducible refine gate_callee (f := 60) rfl ?_); refine goesL_ (some 30) rfl rfl Tryd.func60 (by kernel_rfl) rfl #[.pointer (some ⟨g299, 0, none⟩), .int .i64 12] rfl zar ?_; (with_reducible refine (spec_l01Src_next.calls g299 t296 t316 t317 12 t318 t319 t320 w _ ?side1 ?side2 A16.out).mono ?_); (case side1 => exact zi127 HI299); (case side2 => exact zj127 HB); rintro e w19 ⟨rfl, hi, hb, hk⟩; refine ⟨_, rfl, ?_⟩; replace HO_6 := Aside0.mk (Kd.R_mono (Kd.R_keep (IsS127.apart (show IsS127 w _ g299 t296 t316 t317 from zi127 HI299) (zr HO_6) (by decide)) hk (fun _ h => h.2)) (fun _ h => h.1)); replace HB := Aside0.mk (hb); replace HI299 := Aside0.mk (hi); (try clear hb); (try clear hb2); (try clear hk); (try clear hi)))
      (try simp only [Act.put, List.setIfInBounds_toArray, List.set_cons_zero, List.set_cons_succ])
      go_cut [6, 8] (fun v6 v8 wc => ∃ (kq : Nat) (x6_16 : List ByteArray) (x8_16 : ByteArray) (x300001_16 : Int) (x300002_16 : Int), v8 = .string x8_16 ∧ Aside0 (spec_DrawSuggest.j2 kq x6_16 x8_16 t296 x300001_16 x300002_16 = some (r1, r2, r3)) ∧ Aside0 (kq ≤ k1) ∧ Aside0 (Kd.R Kd.string 9 wc w.heap.size (fun _ => True) v6 x6_16) ∧ Aside0 (IsS127 w wc g299 t296 x300001_16 x300002_16) ∧ Aside0 (Below w.heap.size w wc))
      case first =>
        have H := HC17.out
        clear HC17
        have HC20 := Aside0.mk H
        clear H
        go_upto_if 31 with (fail)
        go_cut [31] (fun v31 wc => ∃ (kq : Nat) (x31_19 : Bool), v31 = .bool x31_19 ∧ Aside0 (spec_DrawSuggest.j1 kq x6_1 t315 t318 x31_19 t296 t319 t320 = some (r1, r2, r3)) ∧ Aside0 (kq ≤ k1) ∧ Aside0 (Kd.R Kd.string 9 wc w.heap.size (fun _ => True) u6 x6_1) ∧ Aside0 (IsS127 w wc g299 t296 t319 t320) ∧ Aside0 (Below w.heap.size w wc))
        case first =>
          have H := HC20.out
          clear HC20
          by_cases c21 : t318 = 0
          rotate_left
          · rw [if_neg c21] at H
            have c21b0 : (t318 == 0) = false := beq_eq_false_iff_ne.mpr c21
            have c21b1 : (t318 != 0) = true := bne_iff_ne.mpr c21
            (first | rw [c21b0] | (simp only [i64_w, i32_w]; rw [c21b0]) | skip)
            have H' := Aside0.mk H
            clear H
            go_wp2
            go_meet
            case rel => exact ⟨_, ((t318 == 1)), zrs, H', ⟨by have := HK1.out; first | omega | exact Nat.le_refl _⟩, ⟨zr HO_6⟩, ⟨zi127 HI299⟩, ⟨zj127 HB⟩⟩
          rw [if_pos c21] at H
          have c21b0 : (t318 == 0) = true := beq_iff_eq.mpr c21
          have c21b1 : (t318 != 0) = false := bne_eq_false_iff_eq.mpr c21
          clear c21
          (first | rw [c21b0] | (simp only [i64_w, i32_w]; rw [c21b0]) | skip)
          have H' := Aside0.mk H
          clear H
          go_wp2
          go_meet
          case rel => exact ⟨_, ((t318 == 0)), zrs, H', ⟨by have := HK1.out; first | omega | exact Nat.le_refl _⟩, ⟨zr HO_6⟩, ⟨zi127 HI299⟩, ⟨zj127 HB⟩⟩
        case rest =>
          clear HC20
          try clear c10
          try clear c10b0
          obtain ⟨kq, x31_19, rfl, HA, HJ19, HO_6, HI299, HB⟩ := hcut
          cases kq with
          | zero => exact absurd HA.out (by simp [spec_DrawSuggest.j1])
          | succ kj19 =>
            have H := HA.out
            clear HA
            simp only [spec_DrawSuggest.j1] at H
            by_cases c22 : x31_19 = true
            · subst c22
              rw [if_pos rfl] at H
              replace H := Option.bind_eq_some_iff.mp H
              obtain ⟨⟨t321, t322, t323⟩, A230, H⟩ := H
              try dsimp only at H
              have A23 := Aside0.mk A230
              clear A230
              have H' := Aside0.mk H
              clear H
              go_wp2_with (first | ((with_reducible refine gate_callee (f := 61) rfl ?_); refine goesL_ (some 36) rfl rfl Tryd.func61 (by kernel_rfl) rfl #[.pointer (some ⟨g299, 0, none⟩), .string t315] rfl zar ?_; (with_reducible refine (spec_l01Src_spoil.calls g299 t296 t319 t320 t315 t321 t322 t323 w _ ?side1 ?side2 A23.out).mono ?_); (case side1 => exact zi127 HI299); (case side2 => exact zj127 HB); rintro e w24 ⟨rfl, hi, hb, hk⟩; refine ⟨_, rfl, ?_⟩; replace HO_6 := Aside0.mk (Kd.R_mono (Kd.R_keep (IsS127.apart (show IsS127 w _ g299 t296 t319 t320 from zi127 HI299) (zr HO_6) (by decide)) hk (fun _ h => h.2)) (fun _ h => h.1)); replace HB := Aside0.mk (hb); replace HI299 := Aside0.mk (hi); (try clear hb); (try clear hb2); (try clear hk); (try clear hi)))
              go_meet
              case rel => exact ⟨_, (x6_1), (t321), (t322), (t323), zrs, H', ⟨by have := HK1.out; have := HJ19.out; first | omega | exact Nat.le_refl _⟩, ⟨zr HO_6⟩, ⟨zi127 HI299⟩, ⟨zj127 HB⟩⟩
            replace c22 := Bool.eq_false_iff.mpr c22
            subst c22
            rw [if_neg (show ¬ (false = true) by decide)] at H
            by_cases c25 : t318 = 2
            · rw [if_pos c25] at H
              have c25b0 : (t318 == 2) = true := beq_iff_eq.mpr c25
              have c25b1 : (t318 != 2) = false := bne_eq_false_iff_eq.mpr c25
              clear c25
              replace H := Option.bind_eq_some_iff.mp H
              obtain ⟨⟨t324, t325, t326⟩, A260, H⟩ := H
              try dsimp only at H
              have A26 := Aside0.mk A260
              clear A260
              by_cases c27 : x6_1.length < 8796093022208
              rotate_left
              · rw [if_neg c27] at H
                exact absurd H (by simp)
              rw [if_pos c27] at H
              have LMc27 := Aside0.mk c27
              clear c27
              obtain ⟨y327, hy327⟩ : ∃ y_ : List ByteArray, y_ = (x6_1 ++ [t324]) := ⟨_, rfl⟩
              replace H : (spec_DrawSuggest.j2 kj19 y327 t315 t296 t325 t326) = some (r1, r2, r3) := zby hy327 H
              have Ny327 := Aside0.mk hy327
              clear hy327
              have H' := Aside0.mk H
              clear H
              go_wp2_with (first | ((with_reducible refine gate_callee (f := 61) rfl ?_); refine goesL_ (some 42) rfl rfl Tryd.func61 (by kernel_rfl) rfl #[.pointer (some ⟨g299, 0, none⟩), .string t315] rfl zar ?_; (with_reducible refine (spec_l01Src_spoil.calls g299 t296 t319 t320 t315 t324 t325 t326 w _ ?side1 ?side2 A26.out).mono ?_); (case side1 => exact zi127 HI299); (case side2 => exact zj127 HB); rintro e w28 ⟨rfl, hi, hb, hk⟩; refine ⟨_, rfl, ?_⟩; replace HO_6 := Aside0.mk (Kd.R_mono (Kd.R_keep (IsS127.apart (show IsS127 w _ g299 t296 t319 t320 from zi127 HI299) (zr HO_6) (by decide)) hk (fun _ h => h.2)) (fun _ h => h.1)); replace HB := Aside0.mk (hb); replace HI299 := Aside0.mk (hi); (try clear hb); (try clear hb2); (try clear hk); (try clear hi)) | ((with_reducible refine gate_builtin (b := .append) (xs := #[.tmp 39, .tmp 43]) rfl ?_); at_builtin; refine Kd.R_append Kd.string (w0 := w) w.heap.size rfl (.tmp 39) (.tmp 43) 39 9 (.string ⟨#[]⟩) 16 rfl Tryd.underlying39 info9 rfl (by decide) (by omega) u6 x6_1 t324 [.string t324] (fun _ => True) (fun _ => False) rfl rfl ?aP (fun _ hk => hk.elim) ?aF ?aO ?aB ?aS ?aL ?_; (case aP => exact rfl); (case aB => exact (zj127 HB)); (case aF => exact (fun _ _ => trivial)); (case aO => exact (zr HO_6)); (case aS => exact (below_size (zj127 HB))); (case aL => have := LMc27.out; omega); intro v328 w29 ho hb hg hat; rw [← Ny327.out] at ho; replace HI299 := Aside0.mk (IsS127.grown (zi127 HI299) hg (IsS127.own_ne HI299.out HO_6.out (by decide))); replace HB := Aside0.mk (hb); have HO329 := Aside0.mk (ho); clear HO_6; clear ho hb hg hat))
              go_meet
              case rel => exact ⟨_, (y327), (t315), (t325), (t326), zrs, H', ⟨by have := HK1.out; have := HJ19.out; first | omega | exact Nat.le_refl _⟩, ⟨zr HO329⟩, ⟨zi127 HI299⟩, ⟨zj127 HB⟩⟩
            rw [if_neg c25] at H
            have c25b0 : (t318 == 2) = false := beq_eq_false_iff_ne.mpr c25
            have c25b1 : (t318 != 2) = true := bne_iff_ne.mpr c25
            by_cases c30 : t318 = 3
            rotate_left
            · rw [if_neg c30] at H
              have c30b0 : (t318 == 3) = false := beq_eq_false_iff_ne.mpr c30
              have c30b1 : (t318 != 3) = true := bne_iff_ne.mpr c30
              have H' := Aside0.mk H
              clear H
              go_wp2
              go_meet
              case rel => exact ⟨_, (x6_1), (t315), (t319), (t320), zrs, H', ⟨by have := HK1.out; have := HJ19.out; first | omega | exact Nat.le_refl _⟩, ⟨zr HO_6⟩, ⟨zi127 HI299⟩, ⟨zj127 HB⟩⟩
            rw [if_pos c30] at H
            have c30b0 : (t318 == 3) = true := beq_iff_eq.mpr c30
            have c30b1 : (t318 != 3) = false := bne_eq_false_iff_eq.mpr c30
            clear c30
            replace H := Option.bind_eq_some_iff.mp H
            obtain ⟨⟨t330, t331, t332⟩, A310, H⟩ := H
            try dsimp only at H
            have A31 := Aside0.mk A310
            clear A310
            replace H := Option.bind_eq_some_iff.mp H
            obtain ⟨t333, A320, H⟩ := H
            try dsimp only at H
            have A32 := Aside0.mk A320
            clear A320
            by_cases c33 : t333.size + 1 ≤ 9223372036854775807
            rotate_left
            · rw [if_neg c33] at H
              exact absurd H (by simp)
            rw [if_pos c33] at H
            have c33b0 := eq_true c33
            have c33b1 : decide (t333.size + 1 ≤ 9223372036854775807) = true := decide_eq_true c33
            try have c33b2 : (9223372036854775807 < t333.size + 1) = False := eq_false (Nat.not_lt.2 c33)
            obtain ⟨y334, hy334⟩ : ∃ y_ : List ByteArray, y_ = (([t333 ++ (⟨#[115]⟩ : ByteArray), t333] : List ByteArray)) := ⟨_, rfl⟩
            replace H : (if x6_1.length + y334.length < 8796093022208 then (spec_DrawSuggest.j2 kj19 (x6_1 ++ y334) t333 t296 t331 t332) else (none)) = some (r1, r2, r3) := zby hy334 H
            have Ny334 := Aside0.mk hy334
            clear hy334
            by_cases c34 : x6_1.length + y334.length < 8796093022208
            rotate_left
            · rw [if_neg c34] at H
              exact absurd H (by simp)
            rw [if_pos c34] at H
            have LMc34 := Aside0.mk c34
            clear c34
            obtain ⟨y337, hy337⟩ : ∃ y_ : List ByteArray, y_ = (x6_1 ++ y334) := ⟨_, rfl⟩
            replace H : (spec_DrawSuggest.j2 kj19 y337 t333 t296 t331 t332) = some (r1, r2, r3) := zby hy337 H
            have Ny337 := Aside0.mk hy337
            clear hy337
            have H' := Aside0.mk H
            clear H
            go_wp2_with (first | ((with_reducible refine gate_callee (f := 60) rfl ?_); refine goesL_ (some 48) rfl rfl Tryd.func60 (by kernel_rfl) rfl #[.pointer (some ⟨g299, 0, none⟩), .int .i64 2] rfl zar ?_; (with_reducible refine (spec_l01Src_next.calls g299 t296 t319 t320 2 t330 t331 t332 w _ ?side1 ?side2 A31.out).mono ?_); (case side1 => exact zi127 HI299); (case side2 => exact zj127 HB); rintro e w35 ⟨rfl, hi, hb, hk⟩; refine ⟨_, rfl, ?_⟩; replace HO_6 := Aside0.mk (Kd.R_mono (Kd.R_keep (IsS127.apart (show IsS127 w _ g299 t296 t319 t320 from zi127 HI299) (zr HO_6) (by decide)) hk (fun _ h => h.2)) (fun _ h => h.1)); replace HB := Aside0.mk (hb); replace HI299 := Aside0.mk (hi); (try clear hb); (try clear hb2); (try clear hk); (try clear hi)) | ((with_reducible refine gate_callee (f := 62) rfl ?_); refine goesL_ (some 50) rfl rfl Tryd.func62 (by kernel_rfl) rfl #[.string (⟨#[115]⟩ : ByteArray), .int .i64 (wrap64 (200 + t330))] rfl zar ?_; (with_reducible refine (spec_l01Repeat.calls kj19 (⟨#[115]⟩ : ByteArray) (wrap64 (200 + t330)) t333 _ A32.out).mono ?_); rintro e w36 ⟨rfl, hb⟩; refine ⟨_, rfl, ?_⟩; replace HO_6 := Aside0.mk (Kd.R_below (zr HO_6) hb); replace HI299 := Aside0.mk (IsS127.below (zi127 HI299) hb); replace HB := Aside0.mk (below_step (zj127 HB) hb); (try clear hb); (try clear hb2); (try clear hk); (try clear hi)) | ((with_reducible refine gate_dst (N := 55) rfl ?_); refine Kd.R_lit Kd.string _ 9 ?hg (N := 55) ?hd (xs := ([t333 ++ (⟨#[115]⟩ : ByteArray), t333] : List ByteArray)) (inner := [.string (t333 ++ (⟨#[115]⟩ : ByteArray)), .string t333]) (ok := fun _ => True) (okp := fun _ => True) ?hr ?hp (fun _ hk => hk) trivial (Below.refl _ _) (Nat.le_refl _) (by simp) ?_; (case hd => rfl); (case hg => rfl); (case hr => first | (go_simp; done) | (go_simp; rfl)); (case hp => exact (Reps.one (show Kd.M Kd.string _ _ _ (t333 ++ (⟨#[115]⟩ : ByteArray)) [.string (t333 ++ (⟨#[115]⟩ : ByteArray))] from rfl) (Reps.one (show Kd.M Kd.string _ _ _ t333 [.string t333] from rfl) (Reps.none _ _)))); intro v335 w38 ho39 hb hg_ hnew_; clear hg_ hnew_; (first | rw [← Ny334.out] at ho39 | (simp only [Int.reduceToNat] at ho39; rw [← Ny334.out] at ho39)); have HO336 := Aside0.mk (Kd.R_lower (Kd.R_new' ho39 (Kd.R_lt (zr HO_6))) (below_size (zj127 HB))); replace HO_6 := Aside0.mk (Kd.R_elder' (zr HO_6) (Kd.R_base ho39) hb); replace HI299 := Aside0.mk (IsS127.below (zi127 HI299) hb); replace HB := Aside0.mk (below_step (zj127 HB) hb); clear hb ho39; obtain ⟨Ao41, co41, eo41⟩ := Kd.R_slice HO336.out; subst eo41) | ((with_reducible refine gate_builtin (b := .append) (xs := #[.tmp 51, .tmp 55]) rfl ?_); at_builtin; refine Kd.R_append_rows Kd.string (w0 := w) w.heap.size rfl (.tmp 51) (.tmp 55) 39 9 (.string ⟨#[]⟩) 16 rfl Tryd.underlying39 info9 rfl (by decide) (by omega) u6 x6_1 y334 _ _ _ (fun k_ => some k_ ≠ (.slice Ao41 y334.length co41 : Value).ownBlock) (fun _ => False) rfl rfl ?aO ?aR (fun _ _ h => h) (fun _ h => h.elim) ?aF ?aB ?aS ?aL ?_; (case aR => repeat (first | exact (Kd.R_reads' HO336.out).2.2 | (with_reducible refine Kd.C_alloc ?_ _) | (with_reducible refine Kd.C_drewN ?_ _) | (with_reducible refine Kd.C_drew ?_))); (case aB => exact (zj127 HB)); (case aF => exact (fun k_ hk => Kd.fresh' (Kd.R_lt (zr HO336)) k_ hk)); (case aO => exact (Kd.R_mono (zr HO_6) (fun _ hk => hk.2))); (case aS => exact (below_size (zj127 HB))); (case aL => have := LMc34.out; omega); intro v338 w40 ho hb hg hat; rw [← Ny337.out] at ho; replace HI299 := Aside0.mk (IsS127.grown (zi127 HI299) hg (IsS127.own_ne HI299.out HO_6.out (by decide))); replace HO336 := Aside0.mk (Kd.R_after (ok := (fun _ => True)) (zr HO336) hg hat); replace HB := Aside0.mk (hb); have HO339 := Aside0.mk (ho); clear HO_6; clear ho hb hg hat))
            go_meet
            case rel => exact ⟨_, (y337), (t333), (t331), (t332), zrs, H', ⟨by have := HK1.out; have := HJ19.out; first | omega | exact Nat.le_refl _⟩, ⟨Kd.R_mono (zr HO339) (fun _ hk => trivial)⟩, ⟨zi127 HI299⟩, ⟨zj127 HB⟩⟩
      case rest =>
        clear HC17
        try clear c10
        try clear c10b0
        obtain ⟨kq, x6_16, x8_16, x300001_16, x300002_16, rfl, HA, HJ16, HO_6, HI299, HB⟩ := hcut
        cases kq with
        | zero => exact absurd HA.out (by simp [spec_DrawSuggest.j2])
        | succ kj16 =>
          have H := HA.out
          clear HA
          simp only [spec_DrawSuggest.j2] at H
          replace H := Option.bind_eq_some_iff.mp H
          obtain ⟨⟨t340, t341, t342⟩, A420, H⟩ := H
          try dsimp only at H
          have A42 := Aside0.mk A420
          clear A420
          replace H := Option.bind_eq_some_iff.mp H
          obtain ⟨⟨t343, t344, t345⟩, A430, H⟩ := H
          try dsimp only at H
          have A43 := Aside0.mk A430
          clear A430
          by_cases c44 : t343 = true
          rotate_left
          · replace c44 := Bool.eq_false_iff.mpr c44
            subst c44
            rw [if_neg (show ¬ (false = true) by decide)] at H
            simp only [Option.some.injEq, Prod.mk.injEq] at H
            obtain ⟨rfl, rfl, rfl⟩ := H
            go_wp2_with (first | ((with_reducible refine gate_callee (f := 60) rfl ?_); refine goesL_ (some 58) rfl rfl Tryd.func60 (by kernel_rfl) rfl #[.pointer (some ⟨g299, 0, none⟩), .int .i64 8] rfl zar ?_; (with_reducible refine (spec_l01Src_next.calls g299 t296 x300001_16 x300002_16 8 t340 t341 t342 w _ ?side1 ?side2 A42.out).mono ?_); (case side1 => exact zi127 HI299); (case side2 => exact zj127 HB); rintro e w54 ⟨rfl, hi, hb, hk⟩; refine ⟨_, rfl, ?_⟩; replace HO_6 := Aside0.mk (Kd.R_mono (Kd.R_keep (IsS127.apart (show IsS127 w _ g299 t296 x300001_16 x300002_16 from zi127 HI299) (zr HO_6) (by decide)) hk (fun _ h => h.2)) (fun _ h => h.1)); replace HB := Aside0.mk (hb); replace HI299 := Aside0.mk (hi); (try clear hb); (try clear hb2); (try clear hk); (try clear hi)) | ((with_reducible refine gate_callee (f := 63) rfl ?_); refine goesL_ (some 60) rfl rfl Tryd.func63 (by kernel_rfl) rfl #[.pointer (some ⟨g299, 0, none⟩), .int .i64 10] rfl zar ?_; (with_reducible refine (spec_l01Src_chance.calls g299 t296 t341 t342 10 false t344 t345 w _ ?side1 ?side2 A43.out).mono ?_); (case side1 => exact zi127 HI299); (case side2 => exact zj127 HB); rintro e w55 ⟨rfl, hi, hb, hk⟩; refine ⟨_, rfl, ?_⟩; replace HO_6 := Aside0.mk (Kd.R_mono (Kd.R_keep (IsS127.apart (show IsS127 w _ g299 t296 t341 t342 from zi127 HI299) (zr HO_6) (by decide)) hk (fun _ h => h.2)) (fun _ h => h.1)); replace HB := Aside0.mk (hb); replace HI299 := Aside0.mk (hi); (try clear hb); (try clear hb2); (try clear hk); (try clear hi)))
            go_ret3
            exact ⟨_, zre, by (with_reducible repeat (first | apply Kd.R_alloc | apply Kd.R_drewN | apply Kd.R_drew)); exact HO_6.out, zj127 HB⟩

          subst c44
          rw [if_pos rfl] at H
          obtain ⟨y346, hy346⟩ : ∃ y_ : List Int, y_ = (([(-1), 20, 21] : List Int)) := ⟨_, rfl⟩
          replace H : ((spec_l01Src_next.f t296 t344 t345 3).bind fun bt349 => (if 0 ≤ bt349.1 then (if bt349.1 < (y346.length : Int) then (some (x6_16, x8_16, rd y346 bt349.1)) else (none)) else (none))) = some (r1, r2, r3) := zby hy346 H
          have Ny346 := Aside0.mk hy346
          clear hy346
          replace H := Option.bind_eq_some_iff.mp H
          obtain ⟨⟨t349, t350, t351⟩, A450, H⟩ := H
          try dsimp only at H
          have A45 := Aside0.mk A450
          clear A450
          by_cases c46 : 0 ≤ t349
          rotate_left
          · rw [if_neg c46] at H
            exact absurd H (by simp)
          rw [if_pos c46] at H
          have c46b0 : decide (0 ≤ t349) = true := decide_eq_true c46
          clear c46
          by_cases c47 : t349 < (y346.length : Int)
          rotate_left
          · rw [if_neg c47] at H
            exact absurd H (by simp)
          rw [if_pos c47] at H
          have c47b0 : decide (t349 < (y346.length : Int)) = true := decide_eq_true c47
          clear c47
          simp only [Option.some.injEq, Prod.mk.injEq] at H
          obtain ⟨rfl, rfl, rfl⟩ := H
          go_wp2_with (first | ((with_reducible refine gate_callee (f := 60) rfl ?_); refine goesL_ (some 58) rfl rfl Tryd.func60 (by kernel_rfl) rfl #[.pointer (some ⟨g299, 0, none⟩), .int .i64 8] rfl zar ?_; (with_reducible refine (spec_l01Src_next.calls g299 t296 x300001_16 x300002_16 8 t340 t341 t342 w _ ?side1 ?side2 A42.out).mono ?_); (case side1 => exact zi127 HI299); (case side2 => exact zj127 HB); rintro e w48 ⟨rfl, hi, hb, hk⟩; refine ⟨_, rfl, ?_⟩; replace HO_6 := Aside0.mk (Kd.R_mono (Kd.R_keep (IsS127.apart (show IsS127 w _ g299 t296 x300001_16 x300002_16 from zi127 HI299) (zr HO_6) (by decide)) hk (fun _ h => h.2)) (fun _ h => h.1)); replace HB := Aside0.mk (hb); replace HI299 := Aside0.mk (hi); (try clear hb); (try clear hb2); (try clear hk); (try clear hi)) | ((with_reducible refine gate_callee (f := 63) rfl ?_); refine goesL_ (some 60) rfl rfl Tryd.func63 (by kernel_rfl) rfl #[.pointer (some ⟨g299, 0, none⟩), .int .i64 10] rfl zar ?_; (with_reducible refine (spec_l01Src_chance.calls g299 t296 t341 t342 10 true t344 t345 w _ ?side1 ?side2 A43.out).mono ?_); (case side1 => exact zi127 HI299); (case side2 => exact zj127 HB); rintro e w49 ⟨rfl, hi, hb, hk⟩; refine ⟨_, rfl, ?_⟩; replace HO_6 := Aside0.mk (Kd.R_mono (Kd.R_keep (IsS127.apart (show IsS127 w _ g299 t296 t341 t342 from zi127 HI299) (zr HO_6) (by decide)) hk (fun _ h => h.2)) (fun _ h => h.1)); replace HB := Aside0.mk (hb); replace HI299 := Aside0.mk (hi); (try clear hb); (try clear hb2); (try clear hk); (try clear hi)) | ((with_reducible refine gate_dst (N := 61) rfl ?_); refine Kd.R_lit (Kd.int .i64) _ 3 ?hg (N := 61) ?hd (xs := ([(-1), 20, 21] : List Int)) (inner := [.int .i64 (-1), .int .i64 20, .int .i64 21]) (ok := fun _ => True) (okp := fun _ => True) ?hr ?hp (fun _ hk => hk) trivial (Below.refl _ _) (Nat.le_refl _) (by simp) ?_; (case hd => rfl); (case hg => rfl); (case hr => first | (go_simp; done) | (go_simp; rfl)); (case hp => exact (Reps.one (show Kd.M (Kd.int .i64) _ _ _ (-1) [.int .i64 (-1)] from rfl) (Reps.one (show Kd.M (Kd.int .i64) _ _ _ 20 [.int .i64 20] from rfl) (Reps.one (show Kd.M (Kd.int .i64) _ _ _ 21 [.int .i64 21] from rfl) (Reps.none _ _))))); intro v347 w50 ho51 hb hg_ hnew_; clear hg_ hnew_; (first | rw [← Ny346.out] at ho51 | (simp only [Int.reduceToNat] at ho51; rw [← Ny346.out] at ho51)); replace HO_6 := Aside0.mk (Kd.R_below (zr HO_6) hb); have HO348 := Aside0.mk (Kd.R_lower ho51 (below_size (zj127 HB))); replace HI299 := Aside0.mk (IsS127.below (zi127 HI299) hb); replace HB := Aside0.mk (below_step (zj127 HB) hb); clear hb ho51) | ((with_reducible refine gate_callee (f := 60) rfl ?_); refine goesL_ (some 63) rfl rfl Tryd.func60 (by kernel_rfl) rfl #[.pointer (some ⟨g299, 0, none⟩), .int .i64 3] rfl zar ?_; (with_reducible refine (spec_l01Src_next.calls g299 t296 t344 t345 3 t349 t350 t351 w _ ?side1 ?side2 A45.out).mono ?_); (case side1 => exact zi127 HI299); (case side2 => exact zj127 HB); rintro e w52 ⟨rfl, hi, hb, hk⟩; refine ⟨_, rfl, ?_⟩; replace HO_6 := Aside0.mk (Kd.R_mono (Kd.R_keep (IsS127.apart (show IsS127 w _ g299 t296 t344 t345 from zi127 HI299) (zr HO_6) (by decide)) hk (fun _ h => h.2)) (fun _ h => h.1)); replace HO348 := Aside0.mk (Kd.R_mono (Kd.R_keep (IsS127.apart (show IsS127 w _ g299 t296 t344 t345 from zi127 HI299) (zr HO348) (by decide)) hk (fun _ h => h.2)) (fun _ h => h.1)); replace HB := Aside0.mk (hb); replace HI299 := Aside0.mk (hi); (try clear hb); (try clear hb2); (try clear hk); (try clear hi); obtain ⟨Ao53, co53, eo53⟩ := Kd.R_slice HO348.out; subst eo53; have p352 : 0 ≤ (t349 : Int) := of_decide_eq_true zas; have q352 : t349 < (y346.length : Int) := of_decide_eq_true zas; obtain ⟨ad352, e352, hx352_0⟩ := Kd.at_int (Kd.R_reads' HO348.out).2.2 t349 p352 q352; cases e352; replace p352 := eq_true p352; replace q352 := eq_true q352))
          go_ret3
          exact ⟨_, zre, by (with_reducible repeat (first | apply Kd.R_alloc | apply Kd.R_drewN | apply Kd.R_drew)); exact HO_6.out, zj127 HB⟩
end Go.Proofs.YtcokeankiedfcaaDoor.XFnSuggest
