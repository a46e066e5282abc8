-- A text of this session: written by its own program (wip/x/xprint.py), which runs the kit's printer with contracts of its own.
import Derived.Test.YtcokeankiedfcaaDoorXFnTextx0
import Derived.Test.YtcokeankiedfcaaDoorXFnTextx1
import Derived.Test.YtcokeankiedfcaaDoorXFnTextx3
import Derived.Test.YtcokeankiedfcaaDoorXFnTextx4
import Derived.Test.YtcokeankiedfcaaDoorXFnTextx8
import Derived.Test.YtcokeankiedfcaaDoorXFnTextx9
import Derived.Test.YtcokeankiedfcaaDoorXFnTextx10
namespace Go.Proofs.YtcokeankiedfcaaDoor.XFnText
open Go.RowKit Go.Proofs.YtcokeankiedfcaaDoorW.PrintWords Go.Proofs.YtcokeankiedfcaaDoorW.PrintLast Go.Proofs.YtcokeankiedfcaaDoorW.PrintMore
attribute [local go_sem] max2_int min2_int max_two min_two max_three min_three max_four min_four   -- for this text's walks alone
set_option linter.unusedVariables false
set_option linter.unusedSimpArgs false

/-! ### spec_l01Draw: function 76 -/
def spec_l01Draw.j0 : Nat → ByteArray → Int → Bool → List Int → Int → Int → Option (ByteArray)
 | 0, _, _, _, _, _, _ => none
 | k + 1, x4, x15, x16, x301000, x301001, x301002 => if x16 = true then ((spec_l01Src_spoil.f x301000 x301001 x301002 x4).bind fun bt313 => (some bt313.1)) else (if x15 = 2 then ((spec_l01Src_byte.f x301000 x301001 x301002).bind fun bt316 => ((spec_l01Src_next.f x301000 bt316.2.1 bt316.2.2 64).bind fun bt319 => ((spec_l01Src_next.f x301000 bt319.2.1 bt319.2.2 64).bind fun bt322 => ((spec_l01Src_next.f x301000 bt322.2.1 bt322.2.2 64).bind fun bt325 => ((some (([(bt316.1) % 256, (wrap64 (128 + bt319.1)) % 256, (wrap64 (128 + bt322.1)) % 256, (wrap64 (128 + bt325.1)) % 256] : List Int) : List Int)).bind fun y328 => (if (strOfNums y328).size + x4.size ≤ 9223372036854775807 then (some ((strOfNums y328) ++ x4)) else (none))))))) else (if x15 = 3 then ((some (([127, 128, 2047, 2048, 65535, 65536, 1114111, 55295, 57344] : List Int) : List Int)).bind fun y331 => ((spec_l01Src_next.f x301000 x301001 x301002 9).bind fun bt334 => (if 0 ≤ bt334.1 then (if bt334.1 < (y331.length : Int) then ((spec_l01Encode.f k (([rd y331 bt334.1] : List Int))).bind fun t341 => (if t341.size + x4.size ≤ 9223372036854775807 then (some (t341 ++ x4)) else (none))) else (none)) else (none)))) else (some x4)))
def spec_l01Draw.f (k : Nat) (l0 : List Int) : Option (ByteArray) := (spec_l01Source.f l0).bind fun bt297 => ((spec_l01Src_size.f bt297.1 bt297.2.1 bt297.2.2 40).bind fun bt301 => ((spec_l01Src_next.f bt297.1 bt301.2.1 bt301.2.2 (wrap64 (bt301.1 + 1))).bind fun bt304 => ((spec_l01Src_prose.f k bt297.1 bt304.2.1 bt304.2.2 bt304.1).bind fun bt307 => ((spec_l01Src_next.f bt297.1 bt307.2.1 bt307.2.2 12).bind fun bt310 => (if bt310.1 = 0 then (spec_l01Draw.j0 k bt307.1 bt310.1 (bt310.1 == 0) bt297.1 bt310.2.1 bt310.2.2) else (spec_l01Draw.j0 k bt307.1 bt310.1 (bt310.1 == 1) bt297.1 bt310.2.1 bt310.2.2))))))
theorem spec_l01Draw.mono_l : ∀ k, (∀ y0 y1 y2 y3 y4 y5, LeO (spec_l01Draw.j0 k y0 y1 y2 y3 y4 y5) (spec_l01Draw.j0 (k + 1) y0 y1 y2 y3 y4 y5))
 | 0 => fun _ _ _ _ _ _ r h => by simp [spec_l01Draw.j0] at h
 | k + 1 => by
  have ih0 := spec_l01Draw.mono_l k
  ·intro y0 y1 y2 y3 y4 y5
   unfold spec_l01Draw.j0
   repeat' first
   | (with_reducible exact ih0 _ _ _ _ _ _)
   | (with_reducible exact spec_l01Encode.mono _ _)
   | (with_reducible exact spec_l01Src_prose.mono _ _ _ _ _)
   | (with_reducible exact LeO.refl _)
   | (with_reducible exact LeO.none _)
   | (with_reducible refine LeO.ite ?_ ?_)
   | (with_reducible refine LeO.bind ?_ (fun _ => ?_))
   | exact ih0 _ _ _ _ _ _
   | exact spec_l01Encode.mono _ _
   | exact spec_l01Src_prose.mono _ _ _ _ _
   | exact LeO.none _
   | refine LeO.ite ?_ ?_
   | refine LeO.bind ?_ (fun _ => ?_)
theorem spec_l01Draw.mono : ∀ a0 k, LeO (spec_l01Draw.f k a0) (spec_l01Draw.f (k + 1) a0) := by
 intro a0 k
 have ih0 := spec_l01Draw.mono_l k
 unfold spec_l01Draw.f
 repeat' first
  | (with_reducible exact ih0 _ _ _ _ _ _)
  | (with_reducible exact spec_l01Encode.mono _ _)
  | (with_reducible exact spec_l01Src_prose.mono _ _ _ _ _)
  | (with_reducible exact LeO.refl _)
  | (with_reducible exact LeO.none _)
  | (with_reducible refine LeO.ite ?_ ?_)
  | (with_reducible refine LeO.bind ?_ (fun _ => ?_))
  | exact ih0 _ _ _ _ _ _
  | exact spec_l01Encode.mono _ _
  | exact spec_l01Src_prose.mono _ _ _ _ _
  | exact LeO.none _
  | refine LeO.ite ?_ ?_
  | refine LeO.bind ?_ (fun _ => ?_)
set_option maxHeartbeats 8000000 in
set_option maxRecDepth 100000 in
theorem spec_l01Draw.calls (k : Nat) (A0 : Option Addr) (c0 : Nat) (l0 : List Int) (r : ByteArray) (w : World) (hr0 : Kd.C (Kd.int .u8) w A0 l0.length l0) (hc0 : l0.length ≤ c0) (h : spec_l01Draw.f k l0 = some r) :
 Calls Tryd.prog 76 #[.slice A0 l0.length c0] w fun e w' => e = .returned (.string r) ∧ Below w.heap.size w w' := by
 have HR0 := Aside0.mk hr0
 have HC0 := Aside0.mk hc0
 clear hr0 hc0
 have HB := Aside0.mk (Below.refl w.heap.size w)
 have H : ((spec_l01Source.f l0).bind fun bt297 => ((spec_l01Src_size.f bt297.1 bt297.2.1 bt297.2.2 40).bind fun bt301 => ((spec_l01Src_next.f bt297.1 bt301.2.1 bt301.2.2 (wrap64 (bt301.1 + 1))).bind fun bt304 => ((spec_l01Src_prose.f k bt297.1 bt304.2.1 bt304.2.2 bt304.1).bind fun bt307 => ((spec_l01Src_next.f bt297.1 bt307.2.1 bt307.2.2 12).bind fun bt310 => (if bt310.1 = 0 then (spec_l01Draw.j0 k bt307.1 bt310.1 (bt310.1 == 0) bt297.1 bt310.2.1 bt310.2.2) else (spec_l01Draw.j0 k bt307.1 bt310.1 (bt310.1 == 1) bt297.1 bt310.2.1 bt310.2.2))))))) = some r := h
 clear h
 replace H := Option.bind_eq_some_iff.mp H
 obtain ⟨⟨t297, t298, t299⟩, A20, H⟩ := H
 replace H : ((spec_l01Src_size.f t297 t298 t299 40).bind fun bt301 => ((spec_l01Src_next.f t297 bt301.2.1 bt301.2.2 (wrap64 (bt301.1 + 1))).bind fun bt304 => ((spec_l01Src_prose.f k t297 bt304.2.1 bt304.2.2 bt304.1).bind fun bt307 => ((spec_l01Src_next.f t297 bt307.2.1 bt307.2.2 12).bind fun bt310 => (if bt310.1 = 0 then (spec_l01Draw.j0 k bt307.1 bt310.1 (bt310.1 == 0) t297 bt310.2.1 bt310.2.2) else (spec_l01Draw.j0 k bt307.1 bt310.1 (bt310.1 == 1) t297 bt310.2.1 bt310.2.2)))))) = some r := H
 have A2 := Aside0.mk A20
 clear A20
 replace H := Option.bind_eq_some_iff.mp H
 obtain ⟨⟨t301, t302, t303⟩, A30, H⟩ := H
 replace H : ((spec_l01Src_next.f t297 t302 t303 (wrap64 (t301 + 1))).bind fun bt304 => ((spec_l01Src_prose.f k t297 bt304.2.1 bt304.2.2 bt304.1).bind fun bt307 => ((spec_l01Src_next.f t297 bt307.2.1 bt307.2.2 12).bind fun bt310 => (if bt310.1 = 0 then (spec_l01Draw.j0 k bt307.1 bt310.1 (bt310.1 == 0) t297 bt310.2.1 bt310.2.2) else (spec_l01Draw.j0 k bt307.1 bt310.1 (bt310.1 == 1) t297 bt310.2.1 bt310.2.2))))) = some r := H
 have A3 := Aside0.mk A30
 clear A30
 replace H := Option.bind_eq_some_iff.mp H
 obtain ⟨⟨t304, t305, t306⟩, A40, H⟩ := H
 replace H : ((spec_l01Src_prose.f k t297 t305 t306 t304).bind fun bt307 => ((spec_l01Src_next.f t297 bt307.2.1 bt307.2.2 12).bind fun bt310 => (if bt310.1 = 0 then (spec_l01Draw.j0 k bt307.1 bt310.1 (bt310.1 == 0) t297 bt310.2.1 bt310.2.2) else (spec_l01Draw.j0 k bt307.1 bt310.1 (bt310.1 == 1) t297 bt310.2.1 bt310.2.2)))) = some r := H
 have A4 := Aside0.mk A40
 clear A40
 replace H := Option.bind_eq_some_iff.mp H
 obtain ⟨⟨t307, t308, t309⟩, A50, H⟩ := H
 replace H : ((spec_l01Src_next.f t297 t308 t309 12).bind fun bt310 => (if bt310.1 = 0 then (spec_l01Draw.j0 k t307 bt310.1 (bt310.1 == 0) t297 bt310.2.1 bt310.2.2) else (spec_l01Draw.j0 k t307 bt310.1 (bt310.1 == 1) t297 bt310.2.1 bt310.2.2))) = some r := H
 have A5 := Aside0.mk A50
 clear A50
 replace H := Option.bind_eq_some_iff.mp H
 obtain ⟨⟨t310, t311, t312⟩, A60, H⟩ := H
 replace H : (if t310 = 0 then (spec_l01Draw.j0 k t307 t310 (t310 == 0) t297 t311 t312) else (spec_l01Draw.j0 k t307 t310 (t310 == 1) t297 t311 t312)) = some r := H
 have A6 := Aside0.mk A60
 clear A60
 have HC7 := Aside0.mk H
 clear H
 go_enter Tryd.func76, Tryd.ntmps76
 go_upto_if 16 with (first | ((with_reducible refine gate_callee (f := 58) rfl ?_); refine goesL_ (some 6) rfl rfl Tryd.func58 (by kernel_rfl) rfl #[.slice A0 l0.length c0] rfl zar ?_; (with_reducible refine (spec_l01Source.calls _ _ l0 t297 t298 t299 w _ ?side1 ?side2 ?side3 A2.out).mono ?_); (case side1 => repeat (first | (with_reducible first | exact HB.out | apply below_alloc | apply pw_below_drewN | apply below_drew1) | exact HB.out)); (case side2 => exact HR0.out); (case side3 => exact HC0.out); rintro e w8 ⟨g300, rfl, hi, hb, hb2⟩; refine ⟨_, rfl, ?_⟩; have n0_ := Aside0.mk (hb); have n1_ := Aside0.mk (hi); clear HB; have HB := n0_; have HI300 := n1_; clear n0_ n1_; (try clear hb); (try clear hb2); (try clear hk); (try clear hi)) | ((with_reducible refine gate_callee (f := 97) rfl ?_); refine goesL_ (some 10) rfl rfl Tryd.func97 (by kernel_rfl) rfl #[.pointer (some ⟨g300, 0, none⟩), .int .i64 40] rfl zar ?_; (with_reducible refine (spec_l01Src_size.calls g300 t297 t298 t299 40 t301 t302 t303 w _ ?side1 ?side2 A3.out).mono ?_); (case side1 => repeat (first | (with_reducible first | exact HI300.out | apply IsS127.alloc | apply IsS127.drewN | apply IsS127.drew | apply IsS127.set_1 | apply IsS127.set_2) | exact HI300.out)); (case side2 => repeat (first | (with_reducible first | exact HB.out | apply below_alloc | apply pw_below_drewN | apply below_drew1 | refine below_set ?_ (IsS127.ge HI300.out)) | exact HB.out)); rintro e w9 ⟨rfl, hi, hb, hk⟩; refine ⟨_, rfl, ?_⟩; have n0_ := Aside0.mk (hb); have n1_ := Aside0.mk (hi); clear HB; clear HI300; have HB := n0_; have HI300 := n1_; clear n0_ n1_; (try clear hb); (try clear hb2); (try clear hk); (try clear hi)) | ((with_reducible refine gate_callee (f := 60) rfl ?_); refine goesL_ (some 12) rfl rfl Tryd.func60 (by kernel_rfl) rfl #[.pointer (some ⟨g300, 0, none⟩), .int .i64 (wrap64 (t301 + 1))] rfl zar ?_; (with_reducible refine (spec_l01Src_next.calls g300 t297 t302 t303 (wrap64 (t301 + 1)) t304 t305 t306 w _ ?side1 ?side2 A4.out).mono ?_); (case side1 => repeat (first | (with_reducible first | exact HI300.out | apply IsS127.alloc | apply IsS127.drewN | apply IsS127.drew | apply IsS127.set_1 | apply IsS127.set_2) | exact HI300.out)); (case side2 => repeat (first | (with_reducible first | exact HB.out | apply below_alloc | apply pw_below_drewN | apply below_drew1 | refine below_set ?_ (IsS127.ge HI300.out)) | exact HB.out)); rintro e w10 ⟨rfl, hi, hb, hk⟩; refine ⟨_, rfl, ?_⟩; have n0_ := Aside0.mk (hb); have n1_ := Aside0.mk (hi); clear HB; clear HI300; have HB := n0_; have HI300 := n1_; clear n0_ n1_; (try clear hb); (try clear hb2); (try clear hk); (try clear hi)) | ((with_reducible refine gate_callee (f := 104) rfl ?_); refine goesL_ (some 13) rfl rfl Tryd.func104 (by kernel_rfl) rfl #[.pointer (some ⟨g300, 0, none⟩), .int .i64 t304] rfl zar ?_; (with_reducible refine (spec_l01Src_prose.calls k g300 t297 t305 t306 t304 t307 t308 t309 w _ ?side1 ?side2 A5.out).mono ?_); (case side1 => repeat (first | (with_reducible first | exact HI300.out | apply IsS127.alloc | apply IsS127.drewN | apply IsS127.drew | apply IsS127.set_1 | apply IsS127.set_2) | exact HI300.out)); (case side2 => repeat (first | (with_reducible first | exact HB.out | apply below_alloc | apply pw_below_drewN | apply below_drew1 | refine below_set ?_ (IsS127.ge HI300.out)) | exact HB.out)); rintro e w11 ⟨rfl, hi, hb, hk⟩; refine ⟨_, rfl, ?_⟩; have n0_ := Aside0.mk (hb); have n1_ := Aside0.mk (hi); clear HB; clear HI300; have HB := n0_; have HI300 := n1_; clear n0_ n1_; (try clear hb); (try clear hb2); (try clear hk); (try clear hi)) | ((with_reducible refine gate_callee (f := 60) rfl ?_); refine goesL_ (some 15) rfl rfl Tryd.func60 (by kernel_rfl) rfl #[.pointer (some ⟨g300, 0, none⟩), .int .i64 12] rfl zar ?_; (with_reducible refine (spec_l01Src_next.calls g300 t297 t308 t309 12 t310 t311 t312 w _ ?side1 ?side2 A6.out).mono ?_); (case side1 => repeat (first | (with_reducible first | exact HI300.out | apply IsS127.alloc | apply IsS127.drewN | apply IsS127.drew | apply IsS127.set_1 | apply IsS127.set_2) | exact HI300.out)); (case side2 => repeat (first | (with_reducible first | exact HB.out | apply below_alloc | apply pw_below_drewN | apply below_drew1 | refine below_set ?_ (IsS127.ge HI300.out)) | exact HB.out)); rintro e w12 ⟨rfl, hi, hb, hk⟩; refine ⟨_, rfl, ?_⟩; have n0_ := Aside0.mk (hb); have n1_ := Aside0.mk (hi); clear HB; clear HI300; have HB := n0_; have HI300 := n1_; clear n0_ n1_; (try clear hb); (try clear hb2); (try clear hk); (try clear hi)))
 (try simp only [Act.put, List.setIfInBounds_toArray, List.set_cons_zero, List.set_cons_succ])
 go_cut [16] (fun v16 wc => ∃ (kq : Nat) (x16_6 : Bool), v16 = .bool x16_6 ∧ Aside0 (spec_l01Draw.j0 kq t307 t310 x16_6 t297 t311 t312 = some r) ∧ Aside0 (kq ≤ k) ∧ Aside0 (IsS127 w wc g300 t297 t311 t312) ∧ Aside0 (Below w.heap.size w wc))
 case first =>
  have H := HC7.out
  clear HC7
  by_cases c13 : t310 = 0
  ·rw [if_pos c13] at H
   have c13b0 : (t310 == 0) = true := beq_iff_eq.mpr c13
   have c13b1 : (t310 != 0) = false := bne_eq_false_iff_eq.mpr c13
   clear c13
   (first | rw [c13b0] | (simp only [i64_w, i32_w]; rw [c13b0]) | skip)
   have H' := Aside0.mk H
   clear H
   go_wp2
   go_meet
   case rel => exact ⟨_, ((t310 == 0)), (by first | rfl | (simp; done) | (simp [*]; done)), H', ⟨by first | omega | exact Nat.le_refl _⟩, ⟨by repeat (first | (with_reducible first | exact HI300.out | apply IsS127.alloc | apply IsS127.drewN | apply IsS127.drew | apply IsS127.set_1 | apply IsS127.set_2) | exact HI300.out)⟩, ⟨by repeat (first | (with_reducible first | exact HB.out | apply below_alloc | apply pw_below_drewN | apply below_drew1 | refine below_set ?_ (IsS127.ge HI300.out)) | exact HB.out)⟩⟩
  ·rw [if_neg c13] at H
   have c13b0 : (t310 == 0) = false := beq_eq_false_iff_ne.mpr c13
   have c13b1 : (t310 != 0) = true := bne_iff_ne.mpr c13
   (first | rw [c13b0] | (simp only [i64_w, i32_w]; rw [c13b0]) | skip)
   have H' := Aside0.mk H
   clear H
   go_wp2
   go_meet
   case rel => exact ⟨_, ((t310 == 1)), (by first | rfl | (simp; done) | (simp [*]; done)), H', ⟨by first | omega | exact Nat.le_refl _⟩, ⟨by repeat (first | (with_reducible first | exact HI300.out | apply IsS127.alloc | apply IsS127.drewN | apply IsS127.drew | apply IsS127.set_1 | apply IsS127.set_2) | exact HI300.out)⟩, ⟨by repeat (first | (with_reducible first | exact HB.out | apply below_alloc | apply pw_below_drewN | apply below_drew1 | refine below_set ?_ (IsS127.ge HI300.out)) | exact HB.out)⟩⟩
 case rest =>
  clear HC7
  try clear c1
  try clear p2
  try clear c5
  try clear c6
  try clear p6
  try clear c7
  try clear c9
  try clear c10
  try clear c13
  try clear c13b0
  try clear c13b1
  obtain ⟨kq, x16_6, rfl, HA, HJ6, HI300, HB⟩ := hcut
  cases kq with
  | zero => exact absurd HA.out (by simp [spec_l01Draw.j0])
  | succ kj6 =>
   have H := HA.out
   clear HA
   simp only [spec_l01Draw.j0] at H
   by_cases c14 : x16_6 = true
   ·subst c14
    have H1 : ((spec_l01Src_spoil.f t297 t311 t312 t307).bind fun bt313 => (some bt313.1)) = some r := by rw [if_pos rfl] at H; exact H
    clear H
    have H := H1
    clear H1
    replace H := Option.bind_eq_some_iff.mp H
    obtain ⟨⟨t313, t314, t315⟩, A150, H⟩ := H
    replace H : (some t313) = some r := H
    have A15 := Aside0.mk A150
    clear A150
    obtain rfl := Option.some.inj H
    go_wp2_with (first | ((with_reducible refine gate_callee (f := 61) rfl ?_); refine goesL_ (some 21) rfl rfl Tryd.func61 (by kernel_rfl) rfl #[.pointer (some ⟨g300, 0, none⟩), .string t307] rfl zar ?_; (with_reducible refine (spec_l01Src_spoil.calls g300 t297 t311 t312 t307 t313 t314 t315 w _ ?side1 ?side2 A15.out).mono ?_); (case side1 => repeat (first | (with_reducible first | exact HI300.out | apply IsS127.alloc | apply IsS127.drewN | apply IsS127.drew | apply IsS127.set_1 | apply IsS127.set_2) | exact HI300.out)); (case side2 => repeat (first | (with_reducible first | exact HB.out | apply below_alloc | apply pw_below_drewN | apply below_drew1 | refine below_set ?_ (IsS127.ge HI300.out)) | exact HB.out)); rintro e w16 ⟨rfl, hi, hb, hk⟩; refine ⟨_, rfl, ?_⟩; have n0_ := Aside0.mk (hb); have n1_ := Aside0.mk (hi); clear HB; clear HI300; have HB := n0_; have HI300 := n1_; clear n0_ n1_; (try clear hb); (try clear hb2); (try clear hk); (try clear hi)))
    go_ret
    exact ⟨zre, by repeat (first | (with_reducible first | exact HB.out | apply below_alloc | apply pw_below_drewN | apply below_drew1 | refine below_set ?_ (IsS127.ge HI300.out)) | exact HB.out)⟩
   ·replace c14 := Bool.eq_false_iff.mpr c14
    subst c14
    have H1 : (if t310 = 2 then ((spec_l01Src_byte.f t297 t311 t312).bind fun bt316 => ((spec_l01Src_next.f t297 bt316.2.1 bt316.2.2 64).bind fun bt319 => ((spec_l01Src_next.f t297 bt319.2.1 bt319.2.2 64).bind fun bt322 => ((spec_l01Src_next.f t297 bt322.2.1 bt322.2.2 64).bind fun bt325 => ((some (([(bt316.1) % 256, (wrap64 (128 + bt319.1)) % 256, (wrap64 (128 + bt322.1)) % 256, (wrap64 (128 + bt325.1)) % 256] : List Int) : List Int)).bind fun y328 => (if (strOfNums y328).size + t307.size ≤ 9223372036854775807 then (some ((strOfNums y328) ++ t307)) else (none))))))) else (if t310 = 3 then ((some (([127, 128, 2047, 2048, 65535, 65536, 1114111, 55295, 57344] : List Int) : List Int)).bind fun y331 => ((spec_l01Src_next.f t297 t311 t312 9).bind fun bt334 => (if 0 ≤ bt334.1 then (if bt334.1 < (y331.length : Int) then ((spec_l01Encode.f kj6 (([rd y331 bt334.1] : List Int))).bind fun t341 => (if t341.size + t307.size ≤ 9223372036854775807 then (some (t341 ++ t307)) else (none))) else (none)) else (none)))) else (some t307))) = some r := by rw [if_neg (show ¬ (false = true) by decide)] at H; exact H
    clear H
    have H := H1
    clear H1
    by_cases c17 : t310 = 2
    ·rw [if_pos c17] at H
     have c17b0 : (t310 == 2) = true := beq_iff_eq.mpr c17
     have c17b1 : (t310 != 2) = false := bne_eq_false_iff_eq.mpr c17
     clear c17
     replace H := Option.bind_eq_some_iff.mp H
     obtain ⟨⟨t316, t317, t318⟩, A180, H⟩ := H
     replace H : ((spec_l01Src_next.f t297 t317 t318 64).bind fun bt319 => ((spec_l01Src_next.f t297 bt319.2.1 bt319.2.2 64).bind fun bt322 => ((spec_l01Src_next.f t297 bt322.2.1 bt322.2.2 64).bind fun bt325 => ((some (([(t316) % 256, (wrap64 (128 + bt319.1)) % 256, (wrap64 (128 + bt322.1)) % 256, (wrap64 (128 + bt325.1)) % 256] : List Int) : List Int)).bind fun y328 => (if (strOfNums y328).size + t307.size ≤ 9223372036854775807 then (some ((strOfNums y328) ++ t307)) else (none)))))) = some r := H
     have A18 := Aside0.mk A180
     clear A180
     replace H := Option.bind_eq_some_iff.mp H
     obtain ⟨⟨t319, t320, t321⟩, A190, H⟩ := H
     replace H : ((spec_l01Src_next.f t297 t320 t321 64).bind fun bt322 => ((spec_l01Src_next.f t297 bt322.2.1 bt322.2.2 64).bind fun bt325 => ((some (([(t316) % 256, (wrap64 (128 + t319)) % 256, (wrap64 (128 + bt322.1)) % 256, (wrap64 (128 + bt325.1)) % 256] : List Int) : List Int)).bind fun y328 => (if (strOfNums y328).size + t307.size ≤ 9223372036854775807 then (some ((strOfNums y328) ++ t307)) else (none))))) = some r := H
     have A19 := Aside0.mk A190
     clear A190
     replace H := Option.bind_eq_some_iff.mp H
     obtain ⟨⟨t322, t323, t324⟩, A200, H⟩ := H
     replace H : ((spec_l01Src_next.f t297 t323 t324 64).bind fun bt325 => ((some (([(t316) % 256, (wrap64 (128 + t319)) % 256, (wrap64 (128 + t322)) % 256, (wrap64 (128 + bt325.1)) % 256] : List Int) : List Int)).bind fun y328 => (if (strOfNums y328).size + t307.size ≤ 9223372036854775807 then (some ((strOfNums y328) ++ t307)) else (none)))) = some r := H
     have A20 := Aside0.mk A200
     clear A200
     replace H := Option.bind_eq_some_iff.mp H
     obtain ⟨⟨t325, t326, t327⟩, A210, H⟩ := H
     replace H : ((some (([(t316) % 256, (wrap64 (128 + t319)) % 256, (wrap64 (128 + t322)) % 256, (wrap64 (128 + t325)) % 256] : List Int) : List Int)).bind fun y328 => (if (strOfNums y328).size + t307.size ≤ 9223372036854775807 then (some ((strOfNums y328) ++ t307)) else (none))) = some r := H
     have A21 := Aside0.mk A210
     clear A210
     obtain ⟨y328, hy328⟩ : ∃ y_ : List Int, y_ = (([(t316) % 256, (wrap64 (128 + t319)) % 256, (wrap64 (128 + t322)) % 256, (wrap64 (128 + t325)) % 256] : List Int)) := ⟨_, rfl⟩
     replace H : (if (strOfNums y328).size + t307.size ≤ 9223372036854775807 then (some ((strOfNums y328) ++ t307)) else (none)) = some r := by first | (rw [hy328]; with_reducible exact H) | (have H2_ := (Option.bind_some _ _).symm.trans H; rw [hy328]; with_reducible exact H2_) | (have H2_ := (Option.bind_some _ _).symm.trans H; with_reducible exact H2_) | with_reducible exact H | (rw [hy328]; exact H) | exact H
     have Ny328 := Aside0.mk hy328
     clear hy328
     by_cases c22 : (strOfNums y328).size + t307.size ≤ 9223372036854775807
     ·rw [if_pos c22] at H
      have c22b0 := eq_true c22
      have c22b1 : decide ((strOfNums y328).size + t307.size ≤ 9223372036854775807) = true := decide_eq_true c22
      try have c22b2 : (9223372036854775807 < (strOfNums y328).size + t307.size) = False := eq_false (Nat.not_lt.2 c22)
      obtain rfl := Option.some.inj H
      go_wp2_with (first | ((with_reducible refine gate_callee (f := 103) rfl ?_); refine goesL_ (some 25) rfl rfl Tryd.func103 (by kernel_rfl) rfl #[.pointer (some ⟨g300, 0, none⟩)] rfl zar ?_; (with_reducible refine (spec_l01Src_byte.calls g300 t297 t311 t312 t316 t317 t318 w _ ?side1 ?side2 A18.out).mono ?_); (case side1 => repeat (first | (with_reducible first | exact HI300.out | apply IsS127.alloc | apply IsS127.drewN | apply IsS127.drew | apply IsS127.set_1 | apply IsS127.set_2) | exact HI300.out)); (case side2 => repeat (first | (with_reducible first | exact HB.out | apply below_alloc | apply pw_below_drewN | apply below_drew1 | refine below_set ?_ (IsS127.ge HI300.out)) | exact HB.out)); rintro e w23 ⟨rfl, hi, hb, hk⟩; refine ⟨_, rfl, ?_⟩; have n0_ := Aside0.mk (hb); have n1_ := Aside0.mk (hi); clear HB; clear HI300; have HB := n0_; have HI300 := n1_; clear n0_ n1_; (try clear hb); (try clear hb2); (try clear hk); (try clear hi)) | ((with_reducible refine gate_callee (f := 60) rfl ?_); refine goesL_ (some 28) rfl rfl Tryd.func60 (by kernel_rfl) rfl #[.pointer (some ⟨g300, 0, none⟩), .int .i64 64] rfl zar ?_; (with_reducible refine (spec_l01Src_next.calls g300 t297 t317 t318 64 t319 t320 t321 w _ ?side1 ?side2 A19.out).mono ?_); (case side1 => repeat (first | (with_reducible first | exact HI300.out | apply IsS127.alloc | apply IsS127.drewN | apply IsS127.drew | apply IsS127.set_1 | apply IsS127.set_2) | exact HI300.out)); (case side2 => repeat (first | (with_reducible first | exact HB.out | apply below_alloc | apply pw_below_drewN | apply below_drew1 | refine below_set ?_ (IsS127.ge HI300.out)) | exact HB.out)); rintro e w24 ⟨rfl, hi, hb, hk⟩; refine ⟨_, rfl, ?_⟩; have n0_ := Aside0.mk (hb); have n1_ := Aside0.mk (hi); clear HB; clear HI300; have HB := n0_; have HI300 := n1_; clear n0_ n1_; (try clear hb); (try clear hb2); (try clear hk); (try clear hi)) | ((with_reducible refine gate_callee (f := 60) rfl ?_); refine goesL_ (some 32) rfl rfl Tryd.func60 (by kernel_rfl) rfl #[.pointer (some ⟨g300, 0, none⟩), .int .i64 64] rfl zar ?_; (with_reducible refine (spec_l01Src_next.calls g300 t297 t320 t321 64 t322 t323 t324 w _ ?side1 ?side2 A20.out).mono ?_); (case side1 => repeat (first | (with_reducible first | exact HI300.out | apply IsS127.alloc | apply IsS127.drewN | apply IsS127.drew | apply IsS127.set_1 | apply IsS127.set_2) | exact HI300.out)); (case side2 => repeat (first | (with_reducible first | exact HB.out | apply below_alloc | apply pw_below_drewN | apply below_drew1 | refine below_set ?_ (IsS127.ge HI300.out)) | exact HB.out)); rintro e w25 ⟨rfl, hi, hb, hk⟩; refine ⟨_, rfl, ?_⟩; have n0_ := Aside0.mk (hb); have n1_ := Aside0.mk (hi); clear HB; clear HI300; have HB := n0_; have HI300 := n1_; clear n0_ n1_; (try clear hb); (try clear hb2); (try clear hk); (try clear hi)) | ((with_reducible refine gate_callee (f := 60) rfl ?_); refine goesL_ (some 36) rfl rfl Tryd.func60 (by kernel_rfl) rfl #[.pointer (some ⟨g300, 0, none⟩), .int .i64 64] rfl zar ?_; (with_reducible refine (spec_l01Src_next.calls g300 t297 t323 t324 64 t325 t326 t327 w _ ?side1 ?side2 A21.out).mono ?_); (case side1 => repeat (first | (with_reducible first | exact HI300.out | apply IsS127.alloc | apply IsS127.drewN | apply IsS127.drew | apply IsS127.set_1 | apply IsS127.set_2) | exact HI300.out)); (case side2 => repeat (first | (with_reducible first | exact HB.out | apply below_alloc | apply pw_below_drewN | apply below_drew1 | refine below_set ?_ (IsS127.ge HI300.out)) | exact HB.out)); rintro e w26 ⟨rfl, hi, hb, hk⟩; refine ⟨_, rfl, ?_⟩; have n0_ := Aside0.mk (hb); have n1_ := Aside0.mk (hi); clear HB; clear HI300; have HB := n0_; have HI300 := n1_; clear n0_ n1_; (try clear hb); (try clear hb2); (try clear hk); (try clear hi)) | ((with_reducible refine gate_dst (N := 39) rfl ?_); refine Kd.R_lit (Kd.int .u8) _ 5 ?hg (N := 39) ?hd (xs := ([(t316) % 256, (wrap64 (128 + t319)) % 256, (wrap64 (128 + t322)) % 256, (wrap64 (128 + t325)) % 256] : List Int)) (inner := [.int .u8 ((t316) % 256), .int .u8 ((wrap64 (128 + t319)) % 256), .int .u8 ((wrap64 (128 + t322)) % 256), .int .u8 ((wrap64 (128 + t325)) % 256)]) (ok := fun _ => True) (okp := fun _ => True) ?hr ?hp (fun _ hk => hk) trivial (Below.refl _ _) (Nat.le_refl _) (by simp) ?_; (case hd => rfl); (case hg => rfl); (case hr => first | (go_simp; done) | (go_simp; rfl)); (case hp => exact (Reps.one (show Kd.M (Kd.int .u8) _ _ _ ((t316) % 256) [.int .u8 ((t316) % 256)] from rfl) (Reps.one (show Kd.M (Kd.int .u8) _ _ _ ((wrap64 (128 + t319)) % 256) [.int .u8 ((wrap64 (128 + t319)) % 256)] from rfl) (Reps.one (show Kd.M (Kd.int .u8) _ _ _ ((wrap64 (128 + t322)) % 256) [.int .u8 ((wrap64 (128 + t322)) % 256)] from rfl) (Reps.one (show Kd.M (Kd.int .u8) _ _ _ ((wrap64 (128 + t325)) % 256) [.int .u8 ((wrap64 (128 + t325)) % 256)] from rfl) (Reps.none _ _)))))); intro v329 w27 ho28 hb hg_ hnew_; clear hg_ hnew_; (first | rw [← Ny328.out] at ho28 | (simp only [Int.reduceToNat] at ho28; rw [← Ny328.out] at ho28)); have n0_ := Aside0.mk (Kd.R_lower ho28 (below_size (by repeat (first | (with_reducible first | exact HB.out | apply below_alloc | apply pw_below_drewN | apply below_drew1 | refine below_set ?_ (IsS127.ge HI300.out)) | exact HB.out)))); have n1_ := Aside0.mk (IsS127.below (by repeat (first | (with_reducible first | exact HI300.out | apply IsS127.alloc | apply IsS127.drewN | apply IsS127.drew | apply IsS127.set_1 | apply IsS127.set_2) | exact HI300.out)) hb); have n2_ := Aside0.mk (below_step (by repeat (first | (with_reducible first | exact HB.out | apply below_alloc | apply pw_below_drewN | apply below_drew1 | refine below_set ?_ (IsS127.ge HI300.out)) | exact HB.out)) hb); clear HI300; clear HB; have HO330 := n0_; have HI300 := n1_; have HB := n2_; clear n0_ n1_ n2_; clear hb ho28; have hcv29 := own_string (P := Tryd.prog) Tryd.underlying33 Tryd.underlying5 Tryd.underlying9 (Kd.own_of_R HO330.out)))
      go_ret
      exact ⟨zre, by repeat (first | (with_reducible first | exact HB.out | apply below_alloc | apply pw_below_drewN | apply below_drew1 | refine below_set ?_ (IsS127.ge HI300.out)) | exact HB.out)⟩
     ·rw [if_neg c22] at H
      exact absurd H (by simp)
    ·rw [if_neg c17] at H
     have c17b0 : (t310 == 2) = false := beq_eq_false_iff_ne.mpr c17
     have c17b1 : (t310 != 2) = true := bne_iff_ne.mpr c17
     by_cases c30 : t310 = 3
     ·rw [if_pos c30] at H
      have c30b0 : (t310 == 3) = true := beq_iff_eq.mpr c30
      have c30b1 : (t310 != 3) = false := bne_eq_false_iff_eq.mpr c30
      clear c30
      obtain ⟨y331, hy331⟩ : ∃ y_ : List Int, y_ = (([127, 128, 2047, 2048, 65535, 65536, 1114111, 55295, 57344] : List Int)) := ⟨_, rfl⟩
      replace H : ((spec_l01Src_next.f t297 t311 t312 9).bind fun bt334 => (if 0 ≤ bt334.1 then (if bt334.1 < (y331.length : Int) then ((spec_l01Encode.f kj6 (([rd y331 bt334.1] : List Int))).bind fun t341 => (if t341.size + t307.size ≤ 9223372036854775807 then (some (t341 ++ t307)) else (none))) else (none)) else (none))) = some r := by first | (rw [hy331]; with_reducible exact H) | (have H2_ := (Option.bind_some _ _).symm.trans H; rw [hy331]; with_reducible exact H2_) | (have H2_ := (Option.bind_some _ _).symm.trans H; with_reducible exact H2_) | with_reducible exact H | (rw [hy331]; exact H) | exact H
      have Ny331 := Aside0.mk hy331
      clear hy331
      replace H := Option.bind_eq_some_iff.mp H
      obtain ⟨⟨t334, t335, t336⟩, A310, H⟩ := H
      replace H : (if 0 ≤ t334 then (if t334 < (y331.length : Int) then ((spec_l01Encode.f kj6 (([rd y331 t334] : List Int))).bind fun t341 => (if t341.size + t307.size ≤ 9223372036854775807 then (some (t341 ++ t307)) else (none))) else (none)) else (none)) = some r := H
      have A31 := Aside0.mk A310
      clear A310
      by_cases c32 : 0 ≤ t334
      ·rw [if_pos c32] at H
       have c32b0 : decide (0 ≤ t334) = true := decide_eq_true c32
       clear c32
       by_cases c33 : t334 < (y331.length : Int)
       ·rw [if_pos c33] at H
        have c33b0 : decide (t334 < (y331.length : Int)) = true := decide_eq_true c33
        clear c33
        obtain ⟨y338, hy338⟩ : ∃ y_ : List Int, y_ = (([rd y331 t334] : List Int)) := ⟨_, rfl⟩
        replace H : ((spec_l01Encode.f kj6 y338).bind fun t341 => (if t341.size + t307.size ≤ 9223372036854775807 then (some (t341 ++ t307)) else (none))) = some r := by first | (rw [hy338]; with_reducible exact H) | (have H2_ := (Option.bind_some _ _).symm.trans H; rw [hy338]; with_reducible exact H2_) | (have H2_ := (Option.bind_some _ _).symm.trans H; with_reducible exact H2_) | with_reducible exact H | (rw [hy338]; exact H) | exact H
        have Ny338 := Aside0.mk hy338
        clear hy338
        replace H := Option.bind_eq_some_iff.mp H
        obtain ⟨t341, A340, H⟩ := H
        replace H : (if t341.size + t307.size ≤ 9223372036854775807 then (some (t341 ++ t307)) else (none)) = some r := H
        have A34 := Aside0.mk A340
        clear A340
        by_cases c35 : t341.size + t307.size ≤ 9223372036854775807
        ·rw [if_pos c35] at H
         have c35b0 := eq_true c35
         have c35b1 : decide (t341.size + t307.size ≤ 9223372036854775807) = true := decide_eq_true c35
         try have c35b2 : (9223372036854775807 < t341.size + t307.size) = False := eq_false (Nat.not_lt.2 c35)
         obtain rfl := Option.some.inj H
         go_wp2_with (first | ((with_reducible refine gate_dst (N := 45) rfl ?_); refine Kd.R_lit (Kd.int .i64) _ 3 ?hg (N := 45) ?hd (xs := ([127, 128, 2047, 2048, 65535, 65536, 1114111, 55295, 57344] : List Int)) (inner := [.int .i64 127, .int .i64 128, .int .i64 2047, .int .i64 2048, .int .i64 65535, .int .i64 65536, .int .i64 1114111, .int .i64 55295, .int .i64 57344]) (ok := fun _ => True) (okp := fun _ => True) ?hr ?hp (fun _ hk => hk) trivial (Below.refl _ _) (Nat.le_refl _) (by simp) ?_; (case hd => rfl); (case hg => rfl); (case hr => first | (go_simp; done) | (go_simp; rfl)); (case hp => exact (Reps.one (show Kd.M (Kd.int .i64) _ _ _ 127 [.int .i64 127] from rfl) (Reps.one (show Kd.M (Kd.int .i64) _ _ _ 128 [.int .i64 128] from rfl) (Reps.one (show Kd.M (Kd.int .i64) _ _ _ 2047 [.int .i64 2047] from rfl) (Reps.one (show Kd.M (Kd.int .i64) _ _ _ 2048 [.int .i64 2048] from rfl) (Reps.one (show Kd.M (Kd.int .i64) _ _ _ 65535 [.int .i64 65535] from rfl) (Reps.one (show Kd.M (Kd.int .i64) _ _ _ 65536 [.int .i64 65536] from rfl) (Reps.one (show Kd.M (Kd.int .i64) _ _ _ 1114111 [.int .i64 1114111] from rfl) (Reps.one (show Kd.M (Kd.int .i64) _ _ _ 55295 [.int .i64 55295] from rfl) (Reps.one (show Kd.M (Kd.int .i64) _ _ _ 57344 [.int .i64 57344] from rfl) (Reps.none _ _))))))))))); intro v332 w36 ho37 hb hg_ hnew_; clear hg_ hnew_; (first | rw [← Ny331.out] at ho37 | (simp only [Int.reduceToNat] at ho37; rw [← Ny331.out] at ho37)); have n0_ := Aside0.mk (Kd.R_lower ho37 (below_size (by repeat (first | (with_reducible first | exact HB.out | apply below_alloc | apply pw_below_drewN | apply below_drew1 | refine below_set ?_ (IsS127.ge HI300.out)) | exact HB.out)))); have n1_ := Aside0.mk (IsS127.below (by repeat (first | (with_reducible first | exact HI300.out | apply IsS127.alloc | apply IsS127.drewN | apply IsS127.drew | apply IsS127.set_1 | apply IsS127.set_2) | exact HI300.out)) hb); have n2_ := Aside0.mk (below_step (by repeat (first | (with_reducible first | exact HB.out | apply below_alloc | apply pw_below_drewN | apply below_drew1 | refine below_set ?_ (IsS127.ge HI300.out)) | exact HB.out)) hb); clear HI300; clear HB; have HO333 := n0_; have HI300 := n1_; have HB := n2_; clear n0_ n1_ n2_; clear hb ho37) | ((with_reducible refine gate_callee (f := 60) rfl ?_); refine goesL_ (some 47) rfl rfl Tryd.func60 (by kernel_rfl) rfl #[.pointer (some ⟨g300, 0, none⟩), .int .i64 9] rfl zar ?_; (with_reducible refine (spec_l01Src_next.calls g300 t297 t311 t312 9 t334 t335 t336 w _ ?side1 ?side2 A31.out).mono ?_); (case side1 => repeat (first | (with_reducible first | exact HI300.out | apply IsS127.alloc | apply IsS127.drewN | apply IsS127.drew | apply IsS127.set_1 | apply IsS127.set_2) | exact HI300.out)); (case side2 => repeat (first | (with_reducible first | exact HB.out | apply below_alloc | apply pw_below_drewN | apply below_drew1 | refine below_set ?_ (IsS127.ge HI300.out)) | exact HB.out)); rintro e w38 ⟨rfl, hi, hb, hk⟩; refine ⟨_, rfl, ?_⟩; have n0_ := Aside0.mk (Kd.R_mono (Kd.R_keep (IsS127.apart (show IsS127 w _ g300 t297 t311 t312 from by repeat (first | (with_reducible first | exact HI300.out | apply IsS127.alloc | apply IsS127.drewN | apply IsS127.drew | apply IsS127.set_1 | apply IsS127.set_2) | exact HI300.out)) (zr HO333) (by decide)) hk (fun _ h => h.2)) (fun _ h => h.1)); have n1_ := Aside0.mk (hb); have n2_ := Aside0.mk (hi); clear HO333; clear HB; clear HI300; have HO333 := n0_; have HB := n1_; have HI300 := n2_; clear n0_ n1_ n2_; (try clear hb); (try clear hb2); (try clear hk); (try clear hi); obtain ⟨Ao39, co39, eo39⟩ := Kd.R_slice HO333.out; subst eo39; have p337 : 0 ≤ (t334 : Int) := of_decide_eq_true zas; have q337 : t334 < (y331.length : Int) := of_decide_eq_true zas; obtain ⟨ad337, e337, hx337_0⟩ := Kd.at_int (Kd.R_reads' HO333.out).2.2 t334 p337 q337; cases e337; replace p337 := eq_true p337; replace q337 := eq_true q337) | ((with_reducible refine gate_dst (N := 50) rfl ?_); refine Kd.R_lit (Kd.int .i64) _ 3 ?hg (N := 50) ?hd (xs := ([rd y331 t334] : List Int)) (inner := [.int .i64 (rd y331 t334)]) (ok := fun _ => True) (okp := fun _ => True) ?hr ?hp (fun _ hk => hk) trivial (Below.refl _ _) (Nat.le_refl _) (by simp) ?_; (case hd => rfl); (case hg => rfl); (case hr => first | (go_simp; done) | (go_simp; rfl)); (case hp => exact (Reps.one (show Kd.M (Kd.int .i64) _ _ _ (rd y331 t334) [.int .i64 (rd y331 t334)] from rfl) (Reps.none _ _))); intro v339 w40 ho41 hb hg_ hnew_; clear hg_ hnew_; (first | rw [← Ny338.out] at ho41 | (simp only [Int.reduceToNat] at ho41; rw [← Ny338.out] at ho41)); have n0_ := Aside0.mk (Kd.R_elder' (zr HO333) (Kd.R_base ho41) hb); have n1_ := Aside0.mk (Kd.R_lower (Kd.R_new' ho41 (Kd.R_lt (zr HO333))) (below_size (by repeat (first | (with_reducible first | exact HB.out | apply below_alloc | apply pw_below_drewN | apply below_drew1 | refine below_set ?_ (IsS127.ge HI300.out)) | exact HB.out)))); have n2_ := Aside0.mk (IsS127.below (by repeat (first | (with_reducible first | exact HI300.out | apply IsS127.alloc | apply IsS127.drewN | apply IsS127.drew | apply IsS127.set_1 | apply IsS127.set_2) | exact HI300.out)) hb); have n3_ := Aside0.mk (below_step (by repeat (first | (with_reducible first | exact HB.out | apply below_alloc | apply pw_below_drewN | apply below_drew1 | refine below_set ?_ (IsS127.ge HI300.out)) | exact HB.out)) hb); clear HO333; clear HI300; clear HB; have HO333 := n0_; have HO340 := n1_; have HI300 := n2_; have HB := n3_; clear n0_ n1_ n2_ n3_; clear hb ho41; obtain ⟨Ao42, co42, eo42⟩ := Kd.R_slice HO340.out; subst eo42) | ((with_reducible refine gate_callee (f := 66) rfl ?_); refine goesL_ (some 51) rfl rfl Tryd.func66 (by kernel_rfl) rfl #[.slice Ao42 y338.length co42] rfl zar ?_; (with_reducible refine (spec_l01Encode.calls kj6 _ _ y338 t341 _ ?side1 ?side2 A34.out).mono ?_); (case side1 => repeat (first | exact (Kd.R_reads' HO340.out).2.2 | (with_reducible refine Kd.C_alloc ?_ _) | (with_reducible refine Kd.C_drewN ?_ _) | (with_reducible refine Kd.C_drew ?_))); (case side2 => exact (Kd.R_reads' HO340.out).2.1); rintro e w43 ⟨rfl, hb⟩; refine ⟨_, rfl, ?_⟩; have n0_ := Aside0.mk (Kd.R_below (zr HO333) hb); have n1_ := Aside0.mk (Kd.R_below (zr HO340) hb); have n2_ := Aside0.mk (IsS127.below (by repeat (first | (with_reducible first | exact HI300.out | apply IsS127.alloc | apply IsS127.drewN | apply IsS127.drew | apply IsS127.set_1 | apply IsS127.set_2) | exact HI300.out)) hb); have n3_ := Aside0.mk (below_step (by repeat (first | (with_reducible first | exact HB.out | apply below_alloc | apply pw_below_drewN | apply below_drew1 | refine below_set ?_ (IsS127.ge HI300.out)) | exact HB.out)) hb); clear HO333; clear HO340; clear HI300; clear HB; have HO333 := n0_; have HO340 := n1_; have HI300 := n2_; have HB := n3_; clear n0_ n1_ n2_ n3_; (try clear hb); (try clear hb2); (try clear hk); (try clear hi)))
         go_ret
         exact ⟨zre, by repeat (first | (with_reducible first | exact HB.out | apply below_alloc | apply pw_below_drewN | apply below_drew1 | refine below_set ?_ (IsS127.ge HI300.out)) | exact HB.out)⟩
        ·rw [if_neg c35] at H
         exact absurd H (by simp)
       ·rw [if_neg c33] at H
        exact absurd H (by simp)
      ·rw [if_neg c32] at H
       exact absurd H (by simp)
     ·rw [if_neg c30] at H
      have c30b0 : (t310 == 3) = false := beq_eq_false_iff_ne.mpr c30
      have c30b1 : (t310 != 3) = true := bne_iff_ne.mpr c30
      obtain rfl := Option.some.inj H
      go_wp2
      go_ret
      exact ⟨zre, by repeat (first | (with_reducible first | exact HB.out | apply below_alloc | apply pw_below_drewN | apply below_drew1 | refine below_set ?_ (IsS127.ge HI300.out)) | exact HB.out)⟩

/-! ### spec_DrawBreak: function 37 -/
def spec_DrawBreak.f (k : Nat) (l0 : List Int) : Option (ByteArray) := (spec_l01Source.f l0).bind fun bt342 => ((spec_l01Src_chance.f bt342.1 bt342.2.1 bt342.2.2 60).bind fun bt346 => (if bt346.1 = true then ((spec_l01Src_next.f bt342.1 bt346.2.1 bt346.2.2 2).bind fun bt349 => ((spec_l01Repeat.f k (⟨#[97, 32]⟩ : ByteArray) (wrap64 (8192 + bt349.1))).bind fun t352 => (some t352))) else ((spec_l01Draw.f k l0).bind fun t353 => (some t353))))
theorem spec_DrawBreak.mono : ∀ a0 k, LeO (spec_DrawBreak.f k a0) (spec_DrawBreak.f (k + 1) a0) := by
 intro a0 k
 unfold spec_DrawBreak.f
 repeat' first
  | (with_reducible exact spec_l01Draw.mono _ _)
  | (with_reducible exact spec_l01Repeat.mono _ _ _)
  | (with_reducible exact LeO.refl _)
  | (with_reducible exact LeO.none _)
  | (with_reducible refine LeO.ite ?_ ?_)
  | (with_reducible refine LeO.bind ?_ (fun _ => ?_))
  | exact spec_l01Draw.mono _ _
  | exact spec_l01Repeat.mono _ _ _
  | exact LeO.none _
  | refine LeO.ite ?_ ?_
  | refine LeO.bind ?_ (fun _ => ?_)
set_option maxHeartbeats 8000000 in
set_option maxRecDepth 100000 in
theorem spec_DrawBreak.calls (k : Nat) (A0 : Option Addr) (c0 : Nat) (l0 : List Int) (r : ByteArray) (w : World) (hr0 : Kd.C (Kd.int .u8) w A0 l0.length l0) (hc0 : l0.length ≤ c0) (h : spec_DrawBreak.f k l0 = some r) :
 Calls Tryd.prog 37 #[.slice A0 l0.length c0] w fun e w' => e = .returned (.string r) ∧ Below w.heap.size w w' := by
 have HR0 := Aside0.mk hr0
 have HC0 := Aside0.mk hc0
 clear hr0 hc0
 have HB := Aside0.mk (Below.refl w.heap.size w)
 have H : ((spec_l01Source.f l0).bind fun bt342 => ((spec_l01Src_chance.f bt342.1 bt342.2.1 bt342.2.2 60).bind fun bt346 => (if bt346.1 = true then ((spec_l01Src_next.f bt342.1 bt346.2.1 bt346.2.2 2).bind fun bt349 => ((spec_l01Repeat.f k (⟨#[97, 32]⟩ : ByteArray) (wrap64 (8192 + bt349.1))).bind fun t352 => (some t352))) else ((spec_l01Draw.f k l0).bind fun t353 => (some t353))))) = some r := h
 clear h
 replace H := Option.bind_eq_some_iff.mp H
 obtain ⟨⟨t342, t343, t344⟩, A20, H⟩ := H
 replace H : ((spec_l01Src_chance.f t342 t343 t344 60).bind fun bt346 => (if bt346.1 = true then ((spec_l01Src_next.f t342 bt346.2.1 bt346.2.2 2).bind fun bt349 => ((spec_l01Repeat.f k (⟨#[97, 32]⟩ : ByteArray) (wrap64 (8192 + bt349.1))).bind fun t352 => (some t352))) else ((spec_l01Draw.f k l0).bind fun t353 => (some t353)))) = some r := H
 have A2 := Aside0.mk A20
 clear A20
 replace H := Option.bind_eq_some_iff.mp H
 obtain ⟨⟨t346, t347, t348⟩, A30, H⟩ := H
 replace H : (if t346 = true then ((spec_l01Src_next.f t342 t347 t348 2).bind fun bt349 => ((spec_l01Repeat.f k (⟨#[97, 32]⟩ : ByteArray) (wrap64 (8192 + bt349.1))).bind fun t352 => (some t352))) else ((spec_l01Draw.f k l0).bind fun t353 => (some t353))) = some r := H
 have A3 := Aside0.mk A30
 clear A30
 by_cases c4 : t346 = true
 ·subst c4
  have H1 : ((spec_l01Src_next.f t342 t347 t348 2).bind fun bt349 => ((spec_l01Repeat.f k (⟨#[97, 32]⟩ : ByteArray) (wrap64 (8192 + bt349.1))).bind fun t352 => (some t352))) = some r := by rw [if_pos rfl] at H; exact H
  clear H
  have H := H1
  clear H1
  replace H := Option.bind_eq_some_iff.mp H
  obtain ⟨⟨t349, t350, t351⟩, A50, H⟩ := H
  replace H : ((spec_l01Repeat.f k (⟨#[97, 32]⟩ : ByteArray) (wrap64 (8192 + t349))).bind fun t352 => (some t352)) = some r := H
  have A5 := Aside0.mk A50
  clear A50
  replace H := Option.bind_eq_some_iff.mp H
  obtain ⟨t352, A60, H⟩ := H
  replace H : (some t352) = some r := H
  have A6 := Aside0.mk A60
  clear A60
  obtain rfl := Option.some.inj H
  go_enter Tryd.func37, Tryd.ntmps37
  go_wp2_with (first | ((with_reducible refine gate_callee (f := 58) rfl ?_); refine goesL_ (some 5) rfl rfl Tryd.func58 (by kernel_rfl) rfl #[.slice A0 l0.length c0] rfl zar ?_; (with_reducible refine (spec_l01Source.calls _ _ l0 t342 t343 t344 w _ ?side1 ?side2 ?side3 A2.out).mono ?_); (case side1 => repeat (first | (with_reducible first | exact HB.out | apply below_alloc | apply pw_below_drewN | apply below_drew1) | exact HB.out)); (case side2 => exact HR0.out); (case side3 => exact HC0.out); rintro e w7 ⟨g345, rfl, hi, hb, hb2⟩; refine ⟨_, rfl, ?_⟩; have n0_ := Aside0.mk (hb); have n1_ := Aside0.mk (hi); clear HB; have HB := n0_; have HI345 := n1_; clear n0_ n1_; (try clear hb); (try clear hb2); (try clear hk); (try clear hi)) | ((with_reducible refine gate_callee (f := 63) rfl ?_); refine goesL_ (some 7) rfl rfl Tryd.func63 (by kernel_rfl) rfl #[.pointer (some ⟨g345, 0, none⟩), .int .i64 60] rfl zar ?_; (with_reducible refine (spec_l01Src_chance.calls g345 t342 t343 t344 60 true t347 t348 w _ ?side1 ?side2 A3.out).mono ?_); (case side1 => repeat (first | (with_reducible first | exact HI345.out | apply IsS127.alloc | apply IsS127.drewN | apply IsS127.drew | apply IsS127.set_1 | apply IsS127.set_2) | exact HI345.out)); (case side2 => repeat (first | (with_reducible first | exact HB.out | apply below_alloc | apply pw_below_drewN | apply below_drew1 | refine below_set ?_ (IsS127.ge HI345.out)) | exact HB.out)); rintro e w8 ⟨rfl, hi, hb, hk⟩; refine ⟨_, rfl, ?_⟩; have n0_ := Aside0.mk (hb); have n1_ := Aside0.mk (hi); clear HB; clear HI345; have HB := n0_; have HI345 := n1_; clear n0_ n1_; (try clear hb); (try clear hb2); (try clear hk); (try clear hi)) | ((with_reducible refine gate_callee (f := 60) rfl ?_); refine goesL_ (some 9) rfl rfl Tryd.func60 (by kernel_rfl) rfl #[.pointer (some ⟨g345, 0, none⟩), .int .i64 2] rfl zar ?_; (with_reducible refine (spec_l01Src_next.calls g345 t342 t347 t348 2 t349 t350 t351 w _ ?side1 ?side2 A5.out).mono ?_); (case side1 => repeat (first | (with_reducible first | exact HI345.out | apply IsS127.alloc | apply IsS127.drewN | apply IsS127.drew | apply IsS127.set_1 | apply IsS127.set_2) | exact HI345.out)); (case side2 => repeat (first | (with_reducible first | exact HB.out | apply below_alloc | apply pw_below_drewN | apply below_drew1 | refine below_set ?_ (IsS127.ge HI345.out)) | exact HB.out)); rintro e w9 ⟨rfl, hi, hb, hk⟩; refine ⟨_, rfl, ?_⟩; have n0_ := Aside0.mk (hb); have n1_ := Aside0.mk (hi); clear HB; clear HI345; have HB := n0_; have HI345 := n1_; clear n0_ n1_; (try clear hb); (try clear hb2); (try clear hk); (try clear hi)) | ((with_reducible refine gate_callee (f := 62) rfl ?_); refine goesL_ (some 11) rfl rfl Tryd.func62 (by kernel_rfl) rfl #[.string (⟨#[97, 32]⟩ : ByteArray), .int .i64 (wrap64 (8192 + t349))] rfl zar ?_; (with_reducible refine (spec_l01Repeat.calls k (⟨#[97, 32]⟩ : ByteArray) (wrap64 (8192 + t349)) t352 _ A6.out).mono ?_); rintro e w10 ⟨rfl, hb⟩; refine ⟨_, rfl, ?_⟩; have n0_ := Aside0.mk (IsS127.below (by repeat (first | (with_reducible first | exact HI345.out | apply IsS127.alloc | apply IsS127.drewN | apply IsS127.drew | apply IsS127.set_1 | apply IsS127.set_2) | exact HI345.out)) hb); have n1_ := Aside0.mk (below_step (by repeat (first | (with_reducible first | exact HB.out | apply below_alloc | apply pw_below_drewN | apply below_drew1 | refine below_set ?_ (IsS127.ge HI345.out)) | exact HB.out)) hb); clear HI345; clear HB; have HI345 := n0_; have HB := n1_; clear n0_ n1_; (try clear hb); (try clear hb2); (try clear hk); (try clear hi)))
  go_ret
  exact ⟨zre, by repeat (first | (with_reducible first | exact HB.out | apply below_alloc | apply pw_below_drewN | apply below_drew1 | refine below_set ?_ (IsS127.ge HI345.out)) | exact HB.out)⟩
 ·replace c4 := Bool.eq_false_iff.mpr c4
  subst c4
  have H1 : ((spec_l01Draw.f k l0).bind fun t353 => (some t353)) = some r := by rw [if_neg (show ¬ (false = true) by decide)] at H; exact H
  clear H
  have H := H1
  clear H1
  replace H := Option.bind_eq_some_iff.mp H
  obtain ⟨t353, A110, H⟩ := H
  replace H : (some t353) = some r := H
  have A11 := Aside0.mk A110
  clear A110
  obtain rfl := Option.some.inj H
  go_enter Tryd.func37, Tryd.ntmps37
  go_wp2_with (first | ((with_reducible refine gate_callee (f := 58) rfl ?_); refine goesL_ (some 5) rfl rfl Tryd.func58 (by kernel_rfl) rfl #[.slice A0 l0.length c0] rfl zar ?_; (with_reducible refine (spec_l01Source.calls _ _ l0 t342 t343 t344 w _ ?side1 ?side2 ?side3 A2.out).mono ?_); (case side1 => repeat (first | (with_reducible first | exact HB.out | apply below_alloc | apply pw_below_drewN | apply below_drew1) | exact HB.out)); (case side2 => exact HR0.out); (case side3 => exact HC0.out); rintro e w12 ⟨g345, rfl, hi, hb, hb2⟩; refine ⟨_, rfl, ?_⟩; have n0_ := Aside0.mk (hb); have n1_ := Aside0.mk (hi); clear HB; have HB := n0_; have HI345 := n1_; clear n0_ n1_; (try clear hb); (try clear hb2); (try clear hk); (try clear hi)) | ((with_reducible refine gate_callee (f := 63) rfl ?_); refine goesL_ (some 7) rfl rfl Tryd.func63 (by kernel_rfl) rfl #[.pointer (some ⟨g345, 0, none⟩), .int .i64 60] rfl zar ?_; (with_reducible refine (spec_l01Src_chance.calls g345 t342 t343 t344 60 false t347 t348 w _ ?side1 ?side2 A3.out).mono ?_); (case side1 => repeat (first | (with_reducible first | exact HI345.out | apply IsS127.alloc | apply IsS127.drewN | apply IsS127.drew | apply IsS127.set_1 | apply IsS127.set_2) | exact HI345.out)); (case side2 => repeat (first | (with_reducible first | exact HB.out | apply below_alloc | apply pw_below_drewN | apply below_drew1 | refine below_set ?_ (IsS127.ge HI345.out)) | exact HB.out)); rintro e w13 ⟨rfl, hi, hb, hk⟩; refine ⟨_, rfl, ?_⟩; have n0_ := Aside0.mk (hb); have n1_ := Aside0.mk (hi); clear HB; clear HI345; have HB := n0_; have HI345 := n1_; clear n0_ n1_; (try clear hb); (try clear hb2); (try clear hk); (try clear hi)) | ((with_reducible refine gate_callee (f := 76) rfl ?_); refine goesL_ (some 13) rfl rfl Tryd.func76 (by kernel_rfl) rfl #[.slice A0 l0.length c0] rfl zar ?_; (with_reducible refine (spec_l01Draw.calls k _ _ l0 t353 _ ?side1 ?side2 A11.out).mono ?_); (case side1 => repeat (first | exact (Kd.C_below HR0.out HB.out) | (with_reducible refine Kd.C_alloc ?_ _) | (with_reducible refine Kd.C_drewN ?_ _) | (with_reducible refine Kd.C_drew ?_))); (case side2 => exact HC0.out); rintro e w14 ⟨rfl, hb⟩; refine ⟨_, rfl, ?_⟩; have n0_ := Aside0.mk (IsS127.below (by repeat (first | (with_reducible first | exact HI345.out | apply IsS127.alloc | apply IsS127.drewN | apply IsS127.drew | apply IsS127.set_1 | apply IsS127.set_2) | exact HI345.out)) hb); have n1_ := Aside0.mk (below_step (by repeat (first | (with_reducible first | exact HB.out | apply below_alloc | apply pw_below_drewN | apply below_drew1 | refine below_set ?_ (IsS127.ge HI345.out)) | exact HB.out)) hb); clear HI345; clear HB; have HI345 := n0_; have HB := n1_; clear n0_ n1_; (try clear hb); (try clear hb2); (try clear hk); (try clear hi)))
  go_ret
  exact ⟨zre, by repeat (first | (with_reducible first | exact HB.out | apply below_alloc | apply pw_below_drewN | apply below_drew1 | refine below_set ?_ (IsS127.ge HI345.out)) | exact HB.out)⟩

/-! ### laws_gap: function 39 -/
def laws_gap.l0 : Nat → List Int → Int → Int → Option (Bool)
 | 0, _, _, _ => none
 | k + 1, x3, x4, x5 => if x5 < (x3.length : Int) then (if 0 ≤ x5 then ((spec_Class.f k (rd x3 x5)).bind fun t359 => (if t359 = 1 then (some false) else (if t359 = 2 then (some false) else (if t359 = 4 then (some false) else (laws_gap.l0 k x3 x4 (wrap64 (x5 + 1))))))) else (none)) else (some (x4 == 0))
def laws_gap.f (k : Nat) (a0 : ByteArray) : Option (Bool) := (spec_Decode.f k a0).bind fun bt354 => (laws_gap.l0 k bt354.1 bt354.2 0)
theorem laws_gap.mono_l : ∀ k, (∀ y0 y1 y2, LeO (laws_gap.l0 k y0 y1 y2) (laws_gap.l0 (k + 1) y0 y1 y2))
 | 0 => fun _ _ _ r h => by simp [laws_gap.l0] at h
 | k + 1 => by
  have ih0 := laws_gap.mono_l k
  ·intro y0 y1 y2
   unfold laws_gap.l0
   repeat' first
   | (with_reducible exact ih0 _ _ _)
   | (with_reducible exact spec_Class.mono _ _)
   | (with_reducible exact spec_Decode.mono _ _)
   | (with_reducible exact LeO.refl _)
   | (with_reducible exact LeO.none _)
   | (with_reducible refine LeO.ite ?_ ?_)
   | (with_reducible refine LeO.bind ?_ (fun _ => ?_))
   | exact ih0 _ _ _
   | exact spec_Class.mono _ _
   | exact spec_Decode.mono _ _
   | exact LeO.none _
   | refine LeO.ite ?_ ?_
   | refine LeO.bind ?_ (fun _ => ?_)
theorem laws_gap.mono : ∀ a0 k, LeO (laws_gap.f k a0) (laws_gap.f (k + 1) a0) := by
 intro a0 k
 have ih0 := laws_gap.mono_l k
 unfold laws_gap.f
 repeat' first
  | (with_reducible exact ih0 _ _ _)
  | (with_reducible exact spec_Class.mono _ _)
  | (with_reducible exact spec_Decode.mono _ _)
  | (with_reducible exact LeO.refl _)
  | (with_reducible exact LeO.none _)
  | (with_reducible refine LeO.ite ?_ ?_)
  | (with_reducible refine LeO.bind ?_ (fun _ => ?_))
  | exact ih0 _ _ _
  | exact spec_Class.mono _ _
  | exact spec_Decode.mono _ _
  | exact LeO.none _
  | refine LeO.ite ?_ ?_
  | refine LeO.bind ?_ (fun _ => ?_)
set_option maxHeartbeats 8000000 in
set_option maxRecDepth 100000 in
theorem laws_gap.calls (k : Nat) (a0 : ByteArray) (r : Bool) (w : World) (h : laws_gap.f k a0 = some r) :
 Calls Tryd.prog 39 #[.string a0] w fun e w' => e = .returned (.bool r) ∧ Below w.heap.size w w' := by
 have HB := Aside0.mk (Below.refl w.heap.size w)
 have H : ((spec_Decode.f k a0).bind fun bt354 => (laws_gap.l0 k bt354.1 bt354.2 0)) = some r := h
 clear h
 replace H := Option.bind_eq_some_iff.mp H
 obtain ⟨⟨t354, t355⟩, A20, H⟩ := H
 replace H : (laws_gap.l0 k t354 t355 0) = some r := H
 have A2 := Aside0.mk A20
 clear A20
 have H' := Aside0.mk H
 clear H
 go_enter Tryd.func39, Tryd.ntmps39
 go_wp2_with (first | ((with_reducible refine gate_callee (f := 15) rfl ?_); refine goesL_ (some 9) rfl rfl Tryd.func15 (by kernel_rfl) rfl #[.string a0] rfl zar ?_; (with_reducible refine (spec_Decode.calls k a0 t354 t355 _ A2.out).mono ?_); rintro e w3 ⟨v356, rfl, ho0, hb⟩; refine ⟨_, rfl, ?_⟩; have n0_ := Aside0.mk (Kd.R_lower ho0 (below_size (zh HB))); have n1_ := Aside0.mk (below_step (zh HB) hb); clear HB; have HO357 := n0_; have HB := n1_; clear n0_ n1_; (try clear hb); (try clear hb2); (try clear hk); (try clear hi); (try clear ho0)))
 go_loopg [5] k (fun kq v5 w' => ∃ (x5_1 : Int), v5 = .int .i64 x5_1 ∧ Aside0 (laws_gap.l0 kq t354 t355 x5_1 = some r) ∧ Aside0 (kq ≤ k) ∧ Aside0 (Kd.R (Kd.int .i64) 3 w' w.heap.size (fun _ => True) v356 t354) ∧ Aside0 (Below w.heap.size w w'))
 case atStart => exact ⟨(0), (by first | rfl | (simp; done) | (simp [*]; done)), H', ⟨Nat.le_refl _⟩, ⟨zr HO357⟩, ⟨zh HB⟩⟩
 case round =>
  clear H'
  try clear c1
  try clear p2
  try clear c3
  obtain ⟨x5_1, rfl, HA, HK1, HO_3, HB⟩ := hrel
  cases gk with
  | zero => exact absurd HA.out (by simp [laws_gap.l0])
  | succ k1 =>
   have H := HA.out
   clear HA
   simp only [laws_gap.l0] at H
   by_cases c4 : x5_1 < (t354.length : Int)
   ·rw [if_pos c4] at H
    have c4b0 : decide (x5_1 < (t354.length : Int)) = true := decide_eq_true c4
    clear c4
    by_cases c5 : 0 ≤ x5_1
    ·rw [if_pos c5] at H
     have c5b0 : decide (0 ≤ x5_1) = true := decide_eq_true c5
     clear c5
     replace H := Option.bind_eq_some_iff.mp H
     obtain ⟨t359, A60, H⟩ := H
     replace H : (if t359 = 1 then (some false) else (if t359 = 2 then (some false) else (if t359 = 4 then (some false) else (laws_gap.l0 k1 t354 t355 (wrap64 (x5_1 + 1)))))) = some r := H
     have A6 := Aside0.mk A60
     clear A60
     by_cases c7 : t359 = 1
     ·rw [if_pos c7] at H
      have c7b0 : (t359 == 1) = true := beq_iff_eq.mpr c7
      have c7b1 : (t359 != 1) = false := bne_eq_false_iff_eq.mpr c7
      clear c7
      obtain rfl := Option.some.inj H
      obtain ⟨Ao8, co8, eo8⟩ := Kd.R_slice HO_3.out
      subst eo8
      have p358 : 0 ≤ (x5_1 : Int) := of_decide_eq_true zas
      have q358 : x5_1 < (t354.length : Int) := of_decide_eq_true zas
      obtain ⟨ad358, e358, hx358_0⟩ := Kd.at_int (Kd.R_reads' HO_3.out).2.2 x5_1 p358 q358
      cases e358
      replace p358 := eq_true p358
      replace q358 := eq_true q358
      go_wp2_with (first | ((with_reducible refine gate_callee (f := 69) rfl ?_); refine goesL_ (some 22) rfl rfl Tryd.func69 (by kernel_rfl) rfl #[.int .i64 (rd t354 x5_1)] rfl zar ?_; (with_reducible refine (spec_Class.calls k1 (rd t354 x5_1) t359 _ A6.out).mono ?_); rintro e w' ⟨rfl, ⟨nd, rfl⟩⟩; refine ⟨_, rfl, ?_⟩))
      go_ret
      exact ⟨zre, zh HB⟩
     ·rw [if_neg c7] at H
      have c7b0 : (t359 == 1) = false := beq_eq_false_iff_ne.mpr c7
      have c7b1 : (t359 != 1) = true := bne_iff_ne.mpr c7
      by_cases c9 : t359 = 2
      ·rw [if_pos c9] at H
       have c9b0 : (t359 == 2) = true := beq_iff_eq.mpr c9
       have c9b1 : (t359 != 2) = false := bne_eq_false_iff_eq.mpr c9
       clear c9
       obtain rfl := Option.some.inj H
       obtain ⟨Ao10, co10, eo10⟩ := Kd.R_slice HO_3.out
       subst eo10
       have p358 : 0 ≤ (x5_1 : Int) := of_decide_eq_true zas
       have q358 : x5_1 < (t354.length : Int) := of_decide_eq_true zas
       obtain ⟨ad358, e358, hx358_0⟩ := Kd.at_int (Kd.R_reads' HO_3.out).2.2 x5_1 p358 q358
       cases e358
       replace p358 := eq_true p358
       replace q358 := eq_true q358
       go_wp2_with (first | ((with_reducible refine gate_callee (f := 69) rfl ?_); refine goesL_ (some 22) rfl rfl Tryd.func69 (by kernel_rfl) rfl #[.int .i64 (rd t354 x5_1)] rfl zar ?_; (with_reducible refine (spec_Class.calls k1 (rd t354 x5_1) t359 _ A6.out).mono ?_); rintro e w' ⟨rfl, ⟨nd, rfl⟩⟩; refine ⟨_, rfl, ?_⟩))
       go_ret
       exact ⟨zre, zh HB⟩
      ·rw [if_neg c9] at H
       have c9b0 : (t359 == 2) = false := beq_eq_false_iff_ne.mpr c9
       have c9b1 : (t359 != 2) = true := bne_iff_ne.mpr c9
       by_cases c11 : t359 = 4
       ·rw [if_pos c11] at H
        have c11b0 : (t359 == 4) = true := beq_iff_eq.mpr c11
        have c11b1 : (t359 != 4) = false := bne_eq_false_iff_eq.mpr c11
        clear c11
        obtain rfl := Option.some.inj H
        obtain ⟨Ao12, co12, eo12⟩ := Kd.R_slice HO_3.out
        subst eo12
        have p358 : 0 ≤ (x5_1 : Int) := of_decide_eq_true zas
        have q358 : x5_1 < (t354.length : Int) := of_decide_eq_true zas
        obtain ⟨ad358, e358, hx358_0⟩ := Kd.at_int (Kd.R_reads' HO_3.out).2.2 x5_1 p358 q358
        cases e358
        replace p358 := eq_true p358
        replace q358 := eq_true q358
        go_wp2_with (first | ((with_reducible refine gate_callee (f := 69) rfl ?_); refine goesL_ (some 22) rfl rfl Tryd.func69 (by kernel_rfl) rfl #[.int .i64 (rd t354 x5_1)] rfl zar ?_; (with_reducible refine (spec_Class.calls k1 (rd t354 x5_1) t359 _ A6.out).mono ?_); rintro e w' ⟨rfl, ⟨nd, rfl⟩⟩; refine ⟨_, rfl, ?_⟩))
        go_ret
        exact ⟨zre, zh HB⟩
       ·rw [if_neg c11] at H
        have c11b0 : (t359 == 4) = false := beq_eq_false_iff_ne.mpr c11
        have c11b1 : (t359 != 4) = true := bne_iff_ne.mpr c11
        have H' := Aside0.mk H
        clear H
        obtain ⟨Ao13, co13, eo13⟩ := Kd.R_slice HO_3.out
        subst eo13
        have p358 : 0 ≤ (x5_1 : Int) := of_decide_eq_true zas
        have q358 : x5_1 < (t354.length : Int) := of_decide_eq_true zas
        obtain ⟨ad358, e358, hx358_0⟩ := Kd.at_int (Kd.R_reads' HO_3.out).2.2 x5_1 p358 q358
        cases e358
        replace p358 := eq_true p358
        replace q358 := eq_true q358
        go_wp2_with (first | ((with_reducible refine gate_callee (f := 69) rfl ?_); refine goesL_ (some 22) rfl rfl Tryd.func69 (by kernel_rfl) rfl #[.int .i64 (rd t354 x5_1)] rfl zar ?_; (with_reducible refine (spec_Class.calls k1 (rd t354 x5_1) t359 _ A6.out).mono ?_); rintro e w' ⟨rfl, ⟨nd, rfl⟩⟩; refine ⟨_, rfl, ?_⟩))
        go_roundg k1
        case measure => have := HK1.out; omega
        case rel => exact ⟨(wrap64 (x5_1 + 1)), (by first | rfl | (simp; done) | (simp [*]; done)), H', ⟨by have := HK1.out; omega⟩, ⟨zr HO_3⟩, ⟨zh HB⟩⟩
    ·rw [if_neg c5] at H
     exact absurd H (by simp)
   ·rw [if_neg c4] at H
    have c4b0 : decide (x5_1 < (t354.length : Int)) = false := decide_eq_false c4
    clear c4
    obtain rfl := Option.some.inj H
    obtain ⟨Ao14, co14, eo14⟩ := Kd.R_slice HO_3.out
    subst eo14
    go_wp2
    go_ret
    exact ⟨zre, zh HB⟩

end Go.Proofs.YtcokeankiedfcaaDoor.XFnText
