-- A text of this session: written by its own program (wip/x/xprint.py), which runs the kit's printer with contracts of its own.
import Derived.Test.YtchoncnahlcfjaaXFnExactSketchJoinx0
import Derived.Test.YtchoncnahlcfjaaXFnExactSketchJoinx1
import Derived.Test.YtchoncnahlcfjaaXFnExactSketchJoinx2
import Derived.Test.YtchoncnahlcfjaaXFnExactSketchJoinx3
import Derived.Test.YtchoncnahlcfjaaXFnExactSketchJoinx4h
import Derived.Test.YtchoncnahlcfjaaXFnExactSketchJoinx4a
import Derived.Test.YtchoncnahlcfjaaXFnExactSketchJoinx4b
namespace Go.Proofs.Ytchoncnahlcfjaa.XFnExactSketchJoin
open Go.RowKit Go.Proofs.YtchoncnahlcfjaaW.PrintWords Go.Proofs.YtchoncnahlcfjaaW.PrintLast Go.Proofs.YtchoncnahlcfjaaW.PrintMore
attribute [local go_sem] max2_int min2_int max_two min_two max_three min_three max_four min_four   -- for this text's walks alone
set_option linter.unusedVariables false
set_option linter.unusedSimpArgs false

theorem zbN {w : World} {g : Nat} {o : Obj} (h : w.heap[g]? = some o) (n : Nat) : (w.drewN n).heap[g]? = some o := blk_drewN h n
theorem zbD {w : World} {g : Nat} {o : Obj} (h : w.heap[g]? = some o) : w.drew.heap[g]? = some o := blk_drew h
theorem zbA {w : World} {g : Nat} {o : Obj} (h : w.heap[g]? = some o) (o' : Obj) : (w.alloc o').heap[g]? = some o := blk_alloc h o'
theorem zrA {α : Type} {d : Kd α} {e : Nat} {w : World} {base : Nat} {ok : Nat → Prop} {v : Value} {xs : List α} (h : d.R e w base ok v xs) (o : Obj) : d.R e (w.alloc o) base ok v xs := Kd.R_alloc h o
theorem zrN {α : Type} {d : Kd α} {e : Nat} {w : World} {base : Nat} {ok : Nat → Prop} {v : Value} {xs : List α} (h : d.R e w base ok v xs) (m : Nat) : d.R e (w.drewN m) base ok v xs := Kd.R_drewN h m
theorem zrD {α : Type} {d : Kd α} {e : Nat} {w : World} {base : Nat} {ok : Nat → Prop} {v : Value} {xs : List α} (h : d.R e w base ok v xs) : d.R e w.drew base ok v xs := Kd.R_drew h
theorem zwA {w W : World} (h : Below w.heap.size w W) (o : Obj) : Below w.heap.size w (W.alloc o) := below_alloc h o
theorem zwN {B : Nat} {w W : World} (h : Below B w W) (n : Nat) : Below B w (W.drewN n) := pw_below_drewN h n
theorem zwD {base : Nat} {w W : World} (h : Below base w W) : Below base w W.drew := below_drew1 h
set_option maxHeartbeats 8000000 in
set_option maxRecDepth 100000 in
theorem laws_FnExactSketchJoin.calls (k : Nat) (A0_0 : Option Addr) (c0_0 : Nat) (l0_0 : List Int) (A1_0 : Option Addr) (c1_0 : Nat) (l1_0 : List Int) (r : Bool) (w : World) (hr0_0 : Kd.C (Kd.int .i64) w A0_0 l0_0.length l0_0) (hc0_0 : l0_0.length ≤ c0_0) (hr1_0 : Kd.C (Kd.int .i64) w A1_0 l1_0.length l1_0) (hc1_0 : l1_0.length ≤ c1_0) (h : laws_FnExactSketchJoin.f k l0_0 l1_0 = some r) :
  Calls Try.prog 3 #[.agg #[.slice A0_0 l0_0.length c0_0], .agg #[.slice A1_0 l1_0.length c1_0]] w fun e w' => e = .returned (.bool r) ∧ Below w.heap.size w w' := by
 have hu24 := Try.underlying24
 have hu26 := Try.underlying26
 have HR0_0 := Aside0.mk hr0_0
 have HC0_0 := Aside0.mk hc0_0
 clear hr0_0 hc0_0
 have HR1_0 := Aside0.mk hr1_0
 have HC1_0 := Aside0.mk hc1_0
 clear hr1_0 hc1_0
 have HB := Aside0.mk (Below.refl w.heap.size w)
 have H : ((laws_szSketch.f l0_0 1048576).bind fun t154 => (if t154 < 0 then (some true) else ((laws_szSketch.f l1_0 t154).bind fun t155 => (if t155 < 0 then (some true) else ((laws_toSketch.f k l0_0).bind fun t156 => ((laws_toSketch.f k l1_0).bind fun t159 => ((spec_SketchJoin.f k t156 t159).bind fun bt162 => ((laws_toSketch.f k l0_0).bind fun t167 => ((laws_toSketch.f k l1_0).bind fun t171 => ((impl_SketchJoin.f k t167 t171).bind fun bt175 => ((laws_eqSketch.f k bt175.1 bt162.1).bind fun t180 => (if t180 = true then (laws_FnExactSketchJoin.j0 k bt162.2 bt175.2 (bt175.2 != bt162.2) l0_0 l1_0 bt162.1 t167 t171 bt175.1) else (laws_FnExactSketchJoin.j0 k bt162.2 bt175.2 true l0_0 l1_0 bt162.1 t167 t171 bt175.1))))))))))))) = some r := h
 clear h
 replace H := Option.bind_eq_some_iff.mp H
 obtain ⟨t154, A30, H⟩ := H
 replace H : (if t154 < 0 then (some true) else ((laws_szSketch.f l1_0 t154).bind fun t155 => (if t155 < 0 then (some true) else ((laws_toSketch.f k l0_0).bind fun t156 => ((laws_toSketch.f k l1_0).bind fun t159 => ((spec_SketchJoin.f k t156 t159).bind fun bt162 => ((laws_toSketch.f k l0_0).bind fun t167 => ((laws_toSketch.f k l1_0).bind fun t171 => ((impl_SketchJoin.f k t167 t171).bind fun bt175 => ((laws_eqSketch.f k bt175.1 bt162.1).bind fun t180 => (if t180 = true then (laws_FnExactSketchJoin.j0 k bt162.2 bt175.2 (bt175.2 != bt162.2) l0_0 l1_0 bt162.1 t167 t171 bt175.1) else (laws_FnExactSketchJoin.j0 k bt162.2 bt175.2 true l0_0 l1_0 bt162.1 t167 t171 bt175.1)))))))))))) = some r := H
 have A3 := Aside0.mk A30
 clear A30
 by_cases c4 : t154 < 0
 ·
  rw [if_pos c4] at H
  have c4b0 : decide (t154 < 0) = true := decide_eq_true c4
  clear c4
  obtain rfl := Option.some.inj H
  go_enter Try.func3, Try.ntmps3
  go_wp2_with (first | ((with_reducible refine gate_dst (N := 2) rfl ?_); refine box_event ?hg (N := 2) ?hd (cs := #[.slice A0_0 l0_0.length c0_0]) (t := 24) ?hr ?_; (case hd => rfl); (case hg => rfl); (case hr => first | (go_simp; done) | (go_simp; rfl)); intro gb152 hg w5 hbox hb; have n0_ := Aside0.mk (below_step (by repeat (first | (with_reducible first | exact HB.out | apply zwA | apply zwN | apply zwD) | exact HB.out)) hb); have n1_ := Aside0.mk (hbox); have n2_ := Aside0.mk ((by rw [hg]; exact (below_size (by repeat (first | (with_reducible first | exact HB.out | apply zwA | apply zwN | apply zwD) | exact HB.out))) : w.heap.size ≤ gb152)); have n3_ := Aside0.mk ((by rw [hg]; exact (below_size (by repeat (first | (with_reducible first | exact HB.out | apply zwA | apply zwN | apply zwD) | exact HB.out))) : w.heap.size ≤ gb152)); clear HB; have HB := n0_; have BK152 := n1_; have GW152 := n2_; have GE152 := n3_; clear n0_ n1_ n2_ n3_; clear hb hbox hg) | ((with_reducible refine gate_dst (N := 3) rfl ?_); refine box_event ?hg (N := 3) ?hd (cs := #[.slice A1_0 l1_0.length c1_0]) (t := 24) ?hr ?_; (case hd => rfl); (case hg => rfl); (case hr => first | (go_simp; done) | (go_simp; rfl)); intro gb153 hg w6 hbox hb; have n0_ := Aside0.mk (blk_below (g := gb152) (o := .cells #[.slice A0_0 l0_0.length c0_0] 24 (0, 0)) (by (with_reducible repeat (first | refine zbN ?_ _ | refine zbD ?_ | refine zbA ?_ _)); exact BK152.out) hb); have n1_ := Aside0.mk (below_step (by repeat (first | (with_reducible first | exact HB.out | apply zwA | apply zwN | apply zwD | refine below_set ?_ GE152.out) | exact HB.out)) hb); have n2_ := Aside0.mk (hbox); have n3_ := Aside0.mk ((by rw [hg]; exact (below_size (by repeat (first | (with_reducible first | exact HB.out | apply zwA | apply zwN | apply zwD | refine below_set ?_ GE152.out) | exact HB.out))) : w.heap.size ≤ gb153)); have n4_ := Aside0.mk ((by rw [hg]; exact (below_size (by repeat (first | (with_reducible first | exact HB.out | apply zwA | apply zwN | apply zwD | refine below_set ?_ GE152.out) | exact HB.out))) : w.heap.size ≤ gb153)); have n5_ := Aside0.mk ((by rw [hg]; exact Nat.ne_of_lt (blk_lt (g := gb152) (o := .cells #[.slice A0_0 l0_0.length c0_0] 24 (0, 0)) (by (with_reducible repeat (first | refine zbN ?_ _ | refine zbD ?_ | refine zbA ?_ _)); exact BK152.out)) : gb152 ≠ gb153)); have n6_ := Aside0.mk ((by rw [hg]; exact Nat.ne_of_gt (blk_lt (g := gb152) (o := .cells #[.slice A0_0 l0_0.length c0_0] 24 (0, 0)) (by (with_reducible repeat (first | refine zbN ?_ _ | refine zbD ?_ | refine zbA ?_ _)); exact BK152.out)) : gb153 ≠ gb152)); clear BK152; clear HB; have BK152 := n0_; have HB := n1_; have BK153 := n2_; have GW153 := n3_; have GE153 := n4_; have NB152_153 := n5_; have NB153_152 := n6_; clear n0_ n1_ n2_ n3_ n4_ n5_ n6_; clear hb hbox hg; have hnb7 := NB152_153.out; have hnc7 := NB153_152.out; have hcz8_0 : w6.cell? ⟨gb152, 0, none⟩ = some (.slice A0_0 l0_0.length c0_0) := (blk_cell BK152.out 0).trans rfl; have hfz8_0 := blk_frozen BK152.out 0) | ((with_reducible refine gate_callee (f := 9) rfl ?_); refine goesL_ (some 19) rfl rfl Try.func9 (by kernel_rfl) rfl #[.agg #[.slice A0_0 l0_0.length c0_0], .int .i64 1048576] rfl (by (try simp only [List.map_toArray, List.map_cons, List.map_nil]); first | done | rfl | (simp only [List.length_drop, List.length_take]; rfl)) ?_; (with_reducible refine (laws_szSketch.calls _ _ l0_0 1048576 t154 _ ?side1 ?side2 A3.out).mono ?_); (case side1 => repeat (first | exact (Kd.C_below HR0_0.out HB.out) | (with_reducible refine Kd.C_alloc ?_ _) | (with_reducible refine Kd.C_drewN ?_ _) | (with_reducible refine Kd.C_drew ?_))); (case side2 => exact HC0_0.out); rintro e w9 ⟨rfl, hb⟩; refine ⟨_, rfl, ?_⟩; have n0_ := Aside0.mk (blk_below (g := gb152) (o := .cells #[.slice A0_0 l0_0.length c0_0] 24 (0, 0)) (by (with_reducible repeat (first | refine zbN ?_ _ | refine zbD ?_ | refine zbA ?_ _)); exact BK152.out) hb); have n1_ := Aside0.mk (blk_below (g := gb153) (o := .cells #[.slice A1_0 l1_0.length c1_0] 24 (0, 0)) (by (with_reducible repeat (first | refine zbN ?_ _ | refine zbD ?_ | refine zbA ?_ _)); exact BK153.out) hb); have n2_ := Aside0.mk (below_step (by repeat (first | (with_reducible first | exact HB.out | apply zwA | apply zwN | apply zwD | refine below_set ?_ GE152.out | refine below_set ?_ GE153.out) | exact HB.out)) hb); clear BK152; clear BK153; clear HB; have BK152 := n0_; have BK153 := n1_; have HB := n2_; clear n0_ n1_ n2_; (try clear hb); (try clear hb2); (try clear hk); (try clear hi)))
  go_ret
  exact ⟨by first | rfl | (simp [errW_none, errW_some] <;> rfl) | (simp [*, errW_none, errW_some] <;> rfl), by repeat (first | (with_reducible first | exact HB.out | apply zwA | apply zwN | apply zwD | refine below_set ?_ GE152.out | refine below_set ?_ GE153.out) | exact HB.out)⟩
 ·
  rw [if_neg c4] at H
  have c4b0 : decide (t154 < 0) = false := decide_eq_false c4
  clear c4
  replace H := Option.bind_eq_some_iff.mp H
  obtain ⟨t155, A100, H⟩ := H
  replace H : (if t155 < 0 then (some true) else ((laws_toSketch.f k l0_0).bind fun t156 => ((laws_toSketch.f k l1_0).bind fun t159 => ((spec_SketchJoin.f k t156 t159).bind fun bt162 => ((laws_toSketch.f k l0_0).bind fun t167 => ((laws_toSketch.f k l1_0).bind fun t171 => ((impl_SketchJoin.f k t167 t171).bind fun bt175 => ((laws_eqSketch.f k bt175.1 bt162.1).bind fun t180 => (if t180 = true then (laws_FnExactSketchJoin.j0 k bt162.2 bt175.2 (bt175.2 != bt162.2) l0_0 l1_0 bt162.1 t167 t171 bt175.1) else (laws_FnExactSketchJoin.j0 k bt162.2 bt175.2 true l0_0 l1_0 bt162.1 t167 t171 bt175.1)))))))))) = some r := H
  have A10 := Aside0.mk A100
  clear A100
  by_cases c11 : t155 < 0
  ·
   rw [if_pos c11] at H
   have c11b0 : decide (t155 < 0) = true := decide_eq_true c11
   clear c11
   obtain rfl := Option.some.inj H
   go_enter Try.func3, Try.ntmps3
   go_wp2_with (first | ((with_reducible refine gate_dst (N := 2) rfl ?_); refine box_event ?hg (N := 2) ?hd (cs := #[.slice A0_0 l0_0.length c0_0]) (t := 24) ?hr ?_; (case hd => rfl); (case hg => rfl); (case hr => first | (go_simp; done) | (go_simp; rfl)); intro gb152 hg w12 hbox hb; have n0_ := Aside0.mk (below_step (by repeat (first | (with_reducible first | exact HB.out | apply zwA | apply zwN | apply zwD) | exact HB.out)) hb); have n1_ := Aside0.mk (hbox); have n2_ := Aside0.mk ((by rw [hg]; exact (below_size (by repeat (first | (with_reducible first | exact HB.out | apply zwA | apply zwN | apply zwD) | exact HB.out))) : w.heap.size ≤ gb152)); have n3_ := Aside0.mk ((by rw [hg]; exact (below_size (by repeat (first | (with_reducible first | exact HB.out | apply zwA | apply zwN | apply zwD) | exact HB.out))) : w.heap.size ≤ gb152)); clear HB; have HB := n0_; have BK152 := n1_; have GW152 := n2_; have GE152 := n3_; clear n0_ n1_ n2_ n3_; clear hb hbox hg) | ((with_reducible refine gate_dst (N := 3) rfl ?_); refine box_event ?hg (N := 3) ?hd (cs := #[.slice A1_0 l1_0.length c1_0]) (t := 24) ?hr ?_; (case hd => rfl); (case hg => rfl); (case hr => first | (go_simp; done) | (go_simp; rfl)); intro gb153 hg w13 hbox hb; have n0_ := Aside0.mk (blk_below (g := gb152) (o := .cells #[.slice A0_0 l0_0.length c0_0] 24 (0, 0)) (by (with_reducible repeat (first | refine zbN ?_ _ | refine zbD ?_ | refine zbA ?_ _)); exact BK152.out) hb); have n1_ := Aside0.mk (below_step (by repeat (first | (with_reducible first | exact HB.out | apply zwA | apply zwN | apply zwD | refine below_set ?_ GE152.out) | exact HB.out)) hb); have n2_ := Aside0.mk (hbox); have n3_ := Aside0.mk ((by rw [hg]; exact (below_size (by repeat (first | (with_reducible first | exact HB.out | apply zwA | apply zwN | apply zwD | refine below_set ?_ GE152.out) | exact HB.out))) : w.heap.size ≤ gb153)); have n4_ := Aside0.mk ((by rw [hg]; exact (below_size (by repeat (first | (with_reducible first | exact HB.out | apply zwA | apply zwN | apply zwD | refine below_set ?_ GE152.out) | exact HB.out))) : w.heap.size ≤ gb153)); have n5_ := Aside0.mk ((by rw [hg]; exact Nat.ne_of_lt (blk_lt (g := gb152) (o := .cells #[.slice A0_0 l0_0.length c0_0] 24 (0, 0)) (by (with_reducible repeat (first | refine zbN ?_ _ | refine zbD ?_ | refine zbA ?_ _)); exact BK152.out)) : gb152 ≠ gb153)); have n6_ := Aside0.mk ((by rw [hg]; exact Nat.ne_of_gt (blk_lt (g := gb152) (o := .cells #[.slice A0_0 l0_0.length c0_0] 24 (0, 0)) (by (with_reducible repeat (first | refine zbN ?_ _ | refine zbD ?_ | refine zbA ?_ _)); exact BK152.out)) : gb153 ≠ gb152)); clear BK152; clear HB; have BK152 := n0_; have HB := n1_; have BK153 := n2_; have GW153 := n3_; have GE153 := n4_; have NB152_153 := n5_; have NB153_152 := n6_; clear n0_ n1_ n2_ n3_ n4_ n5_ n6_; clear hb hbox hg; have hnb14 := NB152_153.out; have hnc14 := NB153_152.out; have hcz15_0 : w13.cell? ⟨gb152, 0, none⟩ = some (.slice A0_0 l0_0.length c0_0) := (blk_cell BK152.out 0).trans rfl; have hfz15_0 := blk_frozen BK152.out 0) | ((with_reducible refine gate_callee (f := 9) rfl ?_); refine goesL_ (some 19) rfl rfl Try.func9 (by kernel_rfl) rfl #[.agg #[.slice A0_0 l0_0.length c0_0], .int .i64 1048576] rfl (by (try simp only [List.map_toArray, List.map_cons, List.map_nil]); first | done | rfl | (simp only [List.length_drop, List.length_take]; rfl)) ?_; (with_reducible refine (laws_szSketch.calls _ _ l0_0 1048576 t154 _ ?side1 ?side2 A3.out).mono ?_); (case side1 => repeat (first | exact (Kd.C_below HR0_0.out HB.out) | (with_reducible refine Kd.C_alloc ?_ _) | (with_reducible refine Kd.C_drewN ?_ _) | (with_reducible refine Kd.C_drew ?_))); (case side2 => exact HC0_0.out); rintro e w16 ⟨rfl, hb⟩; refine ⟨_, rfl, ?_⟩; have n0_ := Aside0.mk (blk_below (g := gb152) (o := .cells #[.slice A0_0 l0_0.length c0_0] 24 (0, 0)) (by (with_reducible repeat (first | refine zbN ?_ _ | refine zbD ?_ | refine zbA ?_ _)); exact BK152.out) hb); have n1_ := Aside0.mk (blk_below (g := gb153) (o := .cells #[.slice A1_0 l1_0.length c1_0] 24 (0, 0)) (by (with_reducible repeat (first | refine zbN ?_ _ | refine zbD ?_ | refine zbA ?_ _)); exact BK153.out) hb); have n2_ := Aside0.mk (below_step (by repeat (first | (with_reducible first | exact HB.out | apply zwA | apply zwN | apply zwD | refine below_set ?_ GE152.out | refine below_set ?_ GE153.out) | exact HB.out)) hb); clear BK152; clear BK153; clear HB; have BK152 := n0_; have BK153 := n1_; have HB := n2_; clear n0_ n1_ n2_; (try clear hb); (try clear hb2); (try clear hk); (try clear hi); have hcz17_0 : w16.cell? ⟨gb153, 0, none⟩ = some (.slice A1_0 l1_0.length c1_0) := (blk_cell BK153.out 0).trans rfl; have hfz17_0 := blk_frozen BK153.out 0) | ((with_reducible refine gate_callee (f := 9) rfl ?_); refine goesL_ (some 24) rfl rfl Try.func9 (by kernel_rfl) rfl #[.agg #[.slice A1_0 l1_0.length c1_0], .int .i64 t154] rfl (by (try simp only [List.map_toArray, List.map_cons, List.map_nil]); first | done | rfl | (simp only [List.length_drop, List.length_take]; rfl)) ?_; (with_reducible refine (laws_szSketch.calls _ _ l1_0 t154 t155 _ ?side1 ?side2 A10.out).mono ?_); (case side1 => repeat (first | exact (Kd.C_below HR1_0.out HB.out) | (with_reducible refine Kd.C_alloc ?_ _) | (with_reducible refine Kd.C_drewN ?_ _) | (with_reducible refine Kd.C_drew ?_))); (case side2 => exact HC1_0.out); rintro e w18 ⟨rfl, hb⟩; refine ⟨_, rfl, ?_⟩; have n0_ := Aside0.mk (blk_below (g := gb152) (o := .cells #[.slice A0_0 l0_0.length c0_0] 24 (0, 0)) (by (with_reducible repeat (first | refine zbN ?_ _ | refine zbD ?_ | refine zbA ?_ _)); exact BK152.out) hb); have n1_ := Aside0.mk (blk_below (g := gb153) (o := .cells #[.slice A1_0 l1_0.length c1_0] 24 (0, 0)) (by (with_reducible repeat (first | refine zbN ?_ _ | refine zbD ?_ | refine zbA ?_ _)); exact BK153.out) hb); have n2_ := Aside0.mk (below_step (by repeat (first | (with_reducible first | exact HB.out | apply zwA | apply zwN | apply zwD | refine below_set ?_ GE152.out | refine below_set ?_ GE153.out) | exact HB.out)) hb); clear BK152; clear BK153; clear HB; have BK152 := n0_; have BK153 := n1_; have HB := n2_; clear n0_ n1_ n2_; (try clear hb); (try clear hb2); (try clear hk); (try clear hi)))
   go_ret
   exact ⟨by first | rfl | (simp [errW_none, errW_some] <;> rfl) | (simp [*, errW_none, errW_some] <;> rfl), by repeat (first | (with_reducible first | exact HB.out | apply zwA | apply zwN | apply zwD | refine below_set ?_ GE152.out | refine below_set ?_ GE153.out) | exact HB.out)⟩
  ·
   rw [if_neg c11] at H
   have c11b0 : decide (t155 < 0) = false := decide_eq_false c11
   clear c11
   replace H := Option.bind_eq_some_iff.mp H
   obtain ⟨t156, A190, H⟩ := H
   replace H : ((laws_toSketch.f k l1_0).bind fun t159 => ((spec_SketchJoin.f k t156 t159).bind fun bt162 => ((laws_toSketch.f k l0_0).bind fun t167 => ((laws_toSketch.f k l1_0).bind fun t171 => ((impl_SketchJoin.f k t167 t171).bind fun bt175 => ((laws_eqSketch.f k bt175.1 bt162.1).bind fun t180 => (if t180 = true then (laws_FnExactSketchJoin.j0 k bt162.2 bt175.2 (bt175.2 != bt162.2) l0_0 l1_0 bt162.1 t167 t171 bt175.1) else (laws_FnExactSketchJoin.j0 k bt162.2 bt175.2 true l0_0 l1_0 bt162.1 t167 t171 bt175.1)))))))) = some r := H
   have A19 := Aside0.mk A190
   clear A190
   replace H := Option.bind_eq_some_iff.mp H
   obtain ⟨t159, A200, H⟩ := H
   replace H : ((spec_SketchJoin.f k t156 t159).bind fun bt162 => ((laws_toSketch.f k l0_0).bind fun t167 => ((laws_toSketch.f k l1_0).bind fun t171 => ((impl_SketchJoin.f k t167 t171).bind fun bt175 => ((laws_eqSketch.f k bt175.1 bt162.1).bind fun t180 => (if t180 = true then (laws_FnExactSketchJoin.j0 k bt162.2 bt175.2 (bt175.2 != bt162.2) l0_0 l1_0 bt162.1 t167 t171 bt175.1) else (laws_FnExactSketchJoin.j0 k bt162.2 bt175.2 true l0_0 l1_0 bt162.1 t167 t171 bt175.1))))))) = some r := H
   have A20 := Aside0.mk A200
   clear A200
   replace H := Option.bind_eq_some_iff.mp H
   obtain ⟨⟨t162, t165⟩, A210, H⟩ := H
   replace H : ((laws_toSketch.f k l0_0).bind fun t167 => ((laws_toSketch.f k l1_0).bind fun t171 => ((impl_SketchJoin.f k t167 t171).bind fun bt175 => ((laws_eqSketch.f k bt175.1 t162).bind fun t180 => (if t180 = true then (laws_FnExactSketchJoin.j0 k t165 bt175.2 (bt175.2 != t165) l0_0 l1_0 t162 t167 t171 bt175.1) else (laws_FnExactSketchJoin.j0 k t165 bt175.2 true l0_0 l1_0 t162 t167 t171 bt175.1)))))) = some r := H
   have A21 := Aside0.mk A210
   clear A210
   replace H := Option.bind_eq_some_iff.mp H
   obtain ⟨t167, A220, H⟩ := H
   replace H : ((laws_toSketch.f k l1_0).bind fun t171 => ((impl_SketchJoin.f k t167 t171).bind fun bt175 => ((laws_eqSketch.f k bt175.1 t162).bind fun t180 => (if t180 = true then (laws_FnExactSketchJoin.j0 k t165 bt175.2 (bt175.2 != t165) l0_0 l1_0 t162 t167 t171 bt175.1) else (laws_FnExactSketchJoin.j0 k t165 bt175.2 true l0_0 l1_0 t162 t167 t171 bt175.1))))) = some r := H
   have A22 := Aside0.mk A220
   clear A220
   replace H := Option.bind_eq_some_iff.mp H
   obtain ⟨t171, A230, H⟩ := H
   replace H : ((impl_SketchJoin.f k t167 t171).bind fun bt175 => ((laws_eqSketch.f k bt175.1 t162).bind fun t180 => (if t180 = true then (laws_FnExactSketchJoin.j0 k t165 bt175.2 (bt175.2 != t165) l0_0 l1_0 t162 t167 t171 bt175.1) else (laws_FnExactSketchJoin.j0 k t165 bt175.2 true l0_0 l1_0 t162 t167 t171 bt175.1)))) = some r := H
   have A23 := Aside0.mk A230
   clear A230
   replace H := Option.bind_eq_some_iff.mp H
   obtain ⟨⟨t175, t178⟩, A240, H⟩ := H
   replace H : ((laws_eqSketch.f k t175 t162).bind fun t180 => (if t180 = true then (laws_FnExactSketchJoin.j0 k t165 t178 (t178 != t165) l0_0 l1_0 t162 t167 t171 t175) else (laws_FnExactSketchJoin.j0 k t165 t178 true l0_0 l1_0 t162 t167 t171 t175))) = some r := H
   have A24 := Aside0.mk A240
   clear A240
   have HC25 := Aside0.mk H
   clear H
   go_enter Try.func3, Try.ntmps3
   try go_wp2_with (first | ((with_reducible refine gate_dst (N := 2) rfl ?_); refine box_event ?hg (N := 2) ?hd (cs := #[.slice A0_0 l0_0.length c0_0]) (t := 24) ?hr ?_; (case hd => rfl); (case hg => rfl); (case hr => first | (go_simp; done) | (go_simp; rfl)); intro gb152 hg w26 hbox hb; have n0_ := Aside0.mk (below_step (by repeat (first | (with_reducible first | exact HB.out | apply zwA | apply zwN | apply zwD) | exact HB.out)) hb); have n1_ := Aside0.mk (hbox); have n2_ := Aside0.mk ((by rw [hg]; exact (below_size (by repeat (first | (with_reducible first | exact HB.out | apply zwA | apply zwN | apply zwD) | exact HB.out))) : w.heap.size ≤ gb152)); have n3_ := Aside0.mk ((by rw [hg]; exact (below_size (by repeat (first | (with_reducible first | exact HB.out | apply zwA | apply zwN | apply zwD) | exact HB.out))) : w.heap.size ≤ gb152)); clear HB; have HB := n0_; have BK152 := n1_; have GW152 := n2_; have GE152 := n3_; clear n0_ n1_ n2_ n3_; clear hb hbox hg) | ((with_reducible refine gate_dst (N := 3) rfl ?_); refine box_event ?hg (N := 3) ?hd (cs := #[.slice A1_0 l1_0.length c1_0]) (t := 24) ?hr ?_; (case hd => rfl); (case hg => rfl); (case hr => first | (go_simp; done) | (go_simp; rfl)); intro gb153 hg w27 hbox hb; have n0_ := Aside0.mk (blk_below (g := gb152) (o := .cells #[.slice A0_0 l0_0.length c0_0] 24 (0, 0)) (by (with_reducible repeat (first | refine zbN ?_ _ | refine zbD ?_ | refine zbA ?_ _)); exact BK152.out) hb); have n1_ := Aside0.mk (below_step (by repeat (first | (with_reducible first | exact HB.out | apply zwA | apply zwN | apply zwD | refine below_set ?_ GE152.out) | exact HB.out)) hb); have n2_ := Aside0.mk (hbox); have n3_ := Aside0.mk ((by rw [hg]; exact (below_size (by repeat (first | (with_reducible first | exact HB.out | apply zwA | apply zwN | apply zwD | refine below_set ?_ GE152.out) | exact HB.out))) : w.heap.size ≤ gb153)); have n4_ := Aside0.mk ((by rw [hg]; exact (below_size (by repeat (first | (with_reducible first | exact HB.out | apply zwA | apply zwN | apply zwD | refine below_set ?_ GE152.out) | exact HB.out))) : w.heap.size ≤ gb153)); have n5_ := Aside0.mk ((by rw [hg]; exact Nat.ne_of_lt (blk_lt (g := gb152) (o := .cells #[.slice A0_0 l0_0.length c0_0] 24 (0, 0)) (by (with_reducible repeat (first | refine zbN ?_ _ | refine zbD ?_ | refine zbA ?_ _)); exact BK152.out)) : gb152 ≠ gb153)); have n6_ := Aside0.mk ((by rw [hg]; exact Nat.ne_of_gt (blk_lt (g := gb152) (o := .cells #[.slice A0_0 l0_0.length c0_0] 24 (0, 0)) (by (with_reducible repeat (first | refine zbN ?_ _ | refine zbD ?_ | refine zbA ?_ _)); exact BK152.out)) : gb153 ≠ gb152)); clear BK152; clear HB; have BK152 := n0_; have HB := n1_; have BK153 := n2_; have GW153 := n3_; have GE153 := n4_; have NB152_153 := n5_; have NB153_152 := n6_; clear n0_ n1_ n2_ n3_ n4_ n5_ n6_; clear hb hbox hg; have hnb28 := NB152_153.out; have hnc28 := NB153_152.out; have hcz29_0 : w27.cell? ⟨gb152, 0, none⟩ = some (.slice A0_0 l0_0.length c0_0) := (blk_cell BK152.out 0).trans rfl; have hfz29_0 := blk_frozen BK152.out 0) | ((with_reducible refine gate_callee (f := 9) rfl ?_); refine goesL_ (some 19) rfl rfl Try.func9 (by kernel_rfl) rfl #[.agg #[.slice A0_0 l0_0.length c0_0], .int .i64 1048576] rfl (by (try simp only [List.map_toArray, List.map_cons, List.map_nil]); first | done | rfl | (simp only [List.length_drop, List.length_take]; rfl)) ?_; (with_reducible refine (laws_szSketch.calls _ _ l0_0 1048576 t154 _ ?side1 ?side2 A3.out).mono ?_); (case side1 => repeat (first | exact (Kd.C_below HR0_0.out HB.out) | (with_reducible refine Kd.C_alloc ?_ _) | (with_reducible refine Kd.C_drewN ?_ _) | (with_reducible refine Kd.C_drew ?_))); (case side2 => exact HC0_0.out); rintro e w30 ⟨rfl, hb⟩; refine ⟨_, rfl, ?_⟩; have n0_ := Aside0.mk (blk_below (g := gb152) (o := .cells #[.slice A0_0 l0_0.length c0_0] 24 (0, 0)) (by (with_reducible repeat (first | refine zbN ?_ _ | refine zbD ?_ | refine zbA ?_ _)); exact BK152.out) hb); have n1_ := Aside0.mk (blk_below (g := gb153) (o := .cells #[.slice A1_0 l1_0.length c1_0] 24 (0, 0)) (by (with_reducible repeat (first | refine zbN ?_ _ | refine zbD ?_ | refine zbA ?_ _)); exact BK153.out) hb); have n2_ := Aside0.mk (below_step (by repeat (first | (with_reducible first | exact HB.out | apply zwA | apply zwN | apply zwD | refine below_set ?_ GE152.out | refine below_set ?_ GE153.out) | exact HB.out)) hb); clear BK152; clear BK153; clear HB; have BK152 := n0_; have BK153 := n1_; have HB := n2_; clear n0_ n1_ n2_; (try clear hb); (try clear hb2); (try clear hk); (try clear hi); have hcz31_0 : w30.cell? ⟨gb153, 0, none⟩ = some (.slice A1_0 l1_0.length c1_0) := (blk_cell BK153.out 0).trans rfl; have hfz31_0 := blk_frozen BK153.out 0) | ((with_reducible refine gate_callee (f := 9) rfl ?_); refine goesL_ (some 24) rfl rfl Try.func9 (by kernel_rfl) rfl #[.agg #[.slice A1_0 l1_0.length c1_0], .int .i64 t154] rfl (by (try simp only [List.map_toArray, List.map_cons, List.map_nil]); first | done | rfl | (simp only [List.length_drop, List.length_take]; rfl)) ?_; (with_reducible refine (laws_szSketch.calls _ _ l1_0 t154 t155 _ ?side1 ?side2 A10.out).mono ?_); (case side1 => repeat (first | exact (Kd.C_below HR1_0.out HB.out) | (with_reducible refine Kd.C_alloc ?_ _) | (with_reducible refine Kd.C_drewN ?_ _) | (with_reducible refine Kd.C_drew ?_))); (case side2 => exact HC1_0.out); rintro e w32 ⟨rfl, hb⟩; refine ⟨_, rfl, ?_⟩; have n0_ := Aside0.mk (blk_below (g := gb152) (o := .cells #[.slice A0_0 l0_0.length c0_0] 24 (0, 0)) (by (with_reducible repeat (first | refine zbN ?_ _ | refine zbD ?_ | refine zbA ?_ _)); exact BK152.out) hb); have n1_ := Aside0.mk (blk_below (g := gb153) (o := .cells #[.slice A1_0 l1_0.length c1_0] 24 (0, 0)) (by (with_reducible repeat (first | refine zbN ?_ _ | refine zbD ?_ | refine zbA ?_ _)); exact BK153.out) hb); have n2_ := Aside0.mk (below_step (by repeat (first | (with_reducible first | exact HB.out | apply zwA | apply zwN | apply zwD | refine below_set ?_ GE152.out | refine below_set ?_ GE153.out) | exact HB.out)) hb); clear BK152; clear BK153; clear HB; have BK152 := n0_; have BK153 := n1_; have HB := n2_; clear n0_ n1_ n2_; (try clear hb); (try clear hb2); (try clear hk); (try clear hi)))
   have n0_ := Aside0.mk (blk_drew BK152.out)
   have n1_ := Aside0.mk (blk_drew BK153.out)
   have n2_ := Aside0.mk (below_drew1 HB.out)
   clear BK152
   clear BK153
   clear HB
   have BK152 := n0_
   have BK153 := n1_
   have HB := n2_
   clear n0_ n1_ n2_
   refine start_ (n := 11) (S := fun w' => w'.cell? ⟨gb152, 0, none⟩ = some (.slice A0_0 l0_0.length c0_0) ∧ w'.cell? ⟨gb153, 0, none⟩ = some (.slice A1_0 l1_0.length c1_0)) (ds := []) #[false, false, false, false, false, false, false, false, false, false, false] (by kernel_rfl) rfl rfl ⟨(blk_cell BK152.out 0).trans rfl, (blk_cell BK153.out 0).trans rfl⟩ (fun hHeld => ?_); refine with_tabW laws_FnExactSketchJoin.tab8 laws_FnExactSketchJoin.bits8 (fun HT_ HW_ => ?_)
   generalize w32.drew = w33 at BK152 BK153 HB hHeld ⊢
   refine take_ (i := 0) (N := some 28) (v := ?_) (a' := ?_) #[true, false, false, false, false, false, false, false, false, false, false] rfl rfl (take_ofW HT_.out HW_.out (by kernel_rfl)) (fun _ _ _ h => h) (Or.inl ⟨by rfl, ?_⟩) hHeld ?_ ?_
   rotate_left
   ·
    rintro w' ⟨s0, s1⟩
    go_simp
    with_reducible rfl
   rotate_left
   ·
    simp only [Act.put, List.setIfInBounds_toArray, List.set_cons_zero, List.set_cons_succ, i64_w, i32_w]
    rfl
   refine take_ (i := 2) (N := some 30) (v := ?_) (a' := ?_) #[true, false, true, false, false, false, false, false, false, false, false] rfl rfl (take_ofW HT_.out HW_.out (by kernel_rfl)) (fun _ _ _ h => h) (Or.inl ⟨by rfl, ?_⟩) hHeld ?_ ?_
   rotate_left
   ·
    rintro w' ⟨s0, s1⟩
    go_simp
    with_reducible rfl
   rotate_left
   ·
    simp only [Act.put, List.setIfInBounds_toArray, List.set_cons_zero, List.set_cons_succ, i64_w, i32_w]
    rfl
   refine join_ (σ := Value × Value × Value × Nat) 2 #[true, true, true, true, true, true, true, true, true, false, false] (fun s_ => [(29, .agg #[s_.1]), (31, .agg #[s_.2.1]), (32, .tuple #[.agg #[s_.2.2.1], .int .i64 t165]), (6, .pointer (some ⟨s_.2.2.2, 0, none⟩)), (27, .tuple #[.agg #[s_.2.2.1], .int .i64 t165]), (33, .agg #[s_.2.2.1]), (34, .int .i64 t165)]) (fun s_ w' => (w'.cell? ⟨gb152, 0, none⟩ = some (.slice A0_0 l0_0.length c0_0) ∧ w'.cell? ⟨gb153, 0, none⟩ = some (.slice A1_0 l1_0.length c1_0)) ∧ (Kd.R (Kd.int .i64) 3 w' w.heap.size (fun k_ => some k_ ≠ (s_.2.1 : Value).ownBlock ∧ some k_ ≠ (s_.2.2.1 : Value).ownBlock) s_.1 t156) ∧ (Kd.R (Kd.int .i64) 3 w' w.heap.size (fun k_ => some k_ ≠ (s_.1 : Value).ownBlock ∧ some k_ ≠ (s_.2.2.1 : Value).ownBlock) s_.2.1 t159) ∧ (Kd.R (Kd.int .i64) 3 w' w.heap.size (fun k_ => some k_ ≠ (s_.1 : Value).ownBlock ∧ some k_ ≠ (s_.2.1 : Value).ownBlock) s_.2.2.1 t162) ∧ (w'.heap[gb152]? = some (.cells #[.slice A0_0 l0_0.length c0_0] 24 (0, 0))) ∧ (w'.heap[gb153]? = some (.cells #[.slice A1_0 l1_0.length c1_0] 24 (0, 0))) ∧ (w'.heap[s_.2.2.2]? = some (.cells #[.slice none 0 0] 26 (0, 0))) ∧ (w.heap.size ≤ s_.2.2.2) ∧ (w.heap.size ≤ s_.2.2.2) ∧ (gb152 ≠ s_.2.2.2) ∧ (s_.2.2.2 ≠ gb152) ∧ (gb153 ≠ s_.2.2.2) ∧ (s_.2.2.2 ≠ gb153) ∧ (Below w.heap.size w w')) ?_ ?_
   rotate_left
   ·
    intro hCont
    exact laws_FnExactSketchJoin.reg0 k A0_0 c0_0 l0_0 A1_0 c1_0 l1_0 r w hu24 hu26 HR0_0 HC0_0 HR1_0 HC1_0 t154 A3 c4b0 t155 A10 c11b0 t156 A19 t159 A20 t162 t165 A21 t167 A22 t171 A23 t175 t178 A24 gb152 w26 GW152 GE152 gb153 w27 GW153 GE153 NB152_153 NB153_152 hnb28 hnc28 hcz29_0 hfz29_0 w30 hcz31_0 hfz31_0 w32 HT_ HW_ w33 BK152 BK153 HB hHeld hCont
   rintro ⟨v157, v160, v163, gb166⟩ w40 ⟨hS_, h0_, h1_, h2_, h3_, h4_, h5_, h6_, h7_, h8_, h9_, h10_, h11_, h12_⟩
   have n0_ : Aside0 (Kd.R (Kd.int .i64) 3 w40 w.heap.size (fun k_ => some k_ ≠ (v160 : Value).ownBlock ∧ some k_ ≠ (v163 : Value).ownBlock) v157 t156) := ⟨h0_⟩
   have n1_ : Aside0 (Kd.R (Kd.int .i64) 3 w40 w.heap.size (fun k_ => some k_ ≠ (v157 : Value).ownBlock ∧ some k_ ≠ (v163 : Value).ownBlock) v160 t159) := ⟨h1_⟩
   have n2_ : Aside0 (Kd.R (Kd.int .i64) 3 w40 w.heap.size (fun k_ => some k_ ≠ (v157 : Value).ownBlock ∧ some k_ ≠ (v160 : Value).ownBlock) v163 t162) := ⟨h2_⟩
   have n3_ : Aside0 (w40.heap[gb152]? = some (.cells #[.slice A0_0 l0_0.length c0_0] 24 (0, 0))) := ⟨h3_⟩
   have n4_ : Aside0 (w40.heap[gb153]? = some (.cells #[.slice A1_0 l1_0.length c1_0] 24 (0, 0))) := ⟨h4_⟩
   have n5_ : Aside0 (w40.heap[gb166]? = some (.cells #[.slice none 0 0] 26 (0, 0))) := ⟨h5_⟩
   have n6_ : Aside0 (w.heap.size ≤ gb166) := ⟨h6_⟩
   have n7_ : Aside0 (w.heap.size ≤ gb166) := ⟨h7_⟩
   have n8_ : Aside0 (gb152 ≠ gb166) := ⟨h8_⟩
   have n9_ : Aside0 (gb166 ≠ gb152) := ⟨h9_⟩
   have n10_ : Aside0 (gb153 ≠ gb166) := ⟨h10_⟩
   have n11_ : Aside0 (gb166 ≠ gb153) := ⟨h11_⟩
   have n12_ : Aside0 (Below w.heap.size w w40) := ⟨h12_⟩
   clear BK152
   clear BK153
   clear HB
   clear h0_ h1_ h2_ h3_ h4_ h5_ h6_ h7_ h8_ h9_ h10_ h11_ h12_
   have HO158 := n0_
   have HO161 := n1_
   have HO164 := n2_
   have BK152 := n3_
   have BK153 := n4_
   have BK166 := n5_
   have GW166 := n6_
   have GE166 := n7_
   have NB152_166 := n8_
   have NB166_152 := n9_
   have NB153_166 := n10_
   have NB166_153 := n11_
   have HB := n12_
   clear n0_ n1_ n2_ n3_ n4_ n5_ n6_ n7_ n8_ n9_ n10_ n11_ n12_
   have hHeld : w40.cell? ⟨gb152, 0, none⟩ = some (.slice A0_0 l0_0.length c0_0) ∧ w40.cell? ⟨gb153, 0, none⟩ = some (.slice A1_0 l1_0.length c1_0) := hS_
   obtain ⟨Ao41, co41, eo41⟩ := Kd.R_slice HO164.out
   (first | subst eo41 | (injection eo41 with f1_ f2_ f3_; have f4_ := f1_.symm; have f5_ := f3_.symm; clear f1_ f2_ f3_; subst f4_; subst f5_))
   refine norm_ (a' := ?_) ?_ ?_
   rotate_left
   ·
    simp only [putAll, Act.put, List.setIfInBounds_toArray, List.set_cons_zero, List.set_cons_succ]
    rfl
   refine one_ (i := 9) (N := none) #[true, true, true, true, true, true, true, true, true, true, false] rfl rfl (one_of HT_.out (by kernel_rfl)) (by decide) (fun K hK => ?_)
   have hs42 : w40.cell? ⟨gb166, 0, none⟩ = some (.slice none 0 0) := (blk_cell BK166.out 0).trans rfl
   have hfs42 := blk_frozen BK166.out 0
   have hns42_0 := NB152_166.out
   have hns42_1 := NB153_166.out
   have hms42_0 := NB166_152.out
   have hms42_1 := NB166_153.out
   refine skip_ (w1 := ?_) (by rfl) rfl ?_ ?_
   rotate_left
   ·
    go_simp
    rfl
   refine hK.out _ _ ⟨((cell_far (p := ⟨gb166, _, none⟩) NB152_166.out _).trans (hHeld.1)), ((cell_far (p := ⟨gb166, _, none⟩) NB153_166.out _).trans (hHeld.2))⟩ (fun hHeld => ?_)
   clear hK K
   refine pure_ (i := 10) (N := some 7) (v := ?_) (a' := ?_) #[true, true, true, true, true, true, true, true, true, true, true] rfl rfl (any_of HT_.out (by kernel_rfl)) (fun _ _ _ h => h) (Or.inl ⟨by rfl, ?_⟩) ?_ ?_
   rotate_left
   ·
    intro w'
    go_simp
    with_reducible rfl
   rotate_left
   ·
    simp only [Act.put, List.setIfInBounds_toArray, List.set_cons_zero, List.set_cons_succ, i64_w, i32_w]
    rfl
   refine done_ (done_of HT_.out (by kernel_rfl)) ?_
   have hnb43 := NB152_166.out
   have hnc43 := NB166_152.out
   have hcz44_0 : w40.cell? ⟨gb152, 0, none⟩ = some (.slice A0_0 l0_0.length c0_0) := (blk_cell BK152.out 0).trans rfl
   have hfz44_0 := blk_frozen BK152.out 0
   go_upto_region 12 with (first | ((with_reducible refine gate_callee (f := 11) rfl ?_); refine goesL_ (some 36) rfl rfl Try.func11 (by kernel_rfl) rfl #[.agg #[.slice A0_0 l0_0.length c0_0]] rfl (by (try simp only [List.map_toArray, List.map_cons, List.map_nil]); first | done | rfl | (simp only [List.length_drop, List.length_take]; rfl)) ?_; (with_reducible refine (laws_toSketch.calls k _ _ l0_0 t167 _ ?side1 ?side2 A22.out).mono ?_); (case side1 => exact Kd.C_below HR0_0.out (by repeat (first | (with_reducible first | exact HB.out | apply zwA | apply zwN | apply zwD | refine below_set ?_ GE152.out | refine below_set ?_ GE153.out | refine below_set ?_ GE166.out) | exact HB.out))); (case side2 => exact HC0_0.out); rintro e w45 ⟨v168, rfl, ho0, hb⟩; refine ⟨_, rfl, ?_⟩; have n0_ := Aside0.mk (Kd.R_elder' (by (with_reducible repeat (first | apply zrA | apply zrN | apply zrD)); exact (Kd.R_mono (Kd.R_far (p := ⟨gb166, 0, none⟩) (Kd.R_types HO158.out BK166.out (by decide)) (fun _ hk => hk.2) (.slice Ao41 t162.length co41)) (fun _ h_ => h_.1))) (Kd.R_base ho0) hb); have n1_ := Aside0.mk (Kd.R_elder' (by (with_reducible repeat (first | apply zrA | apply zrN | apply zrD)); exact (Kd.R_mono (Kd.R_far (p := ⟨gb166, 0, none⟩) (Kd.R_types HO161.out BK166.out (by decide)) (fun _ hk => hk.2) (.slice Ao41 t162.length co41)) (fun _ h_ => h_.1))) (Kd.R_base ho0) hb); have n2_ := Aside0.mk (Kd.R_elder' (by (with_reducible repeat (first | apply zrA | apply zrN | apply zrD)); exact (Kd.R_mono (Kd.R_far (p := ⟨gb166, 0, none⟩) (Kd.R_types HO164.out BK166.out (by decide)) (fun _ hk => hk.2) (.slice Ao41 t162.length co41)) (fun _ h_ => h_.1))) (Kd.R_base ho0) hb); have n3_ := Aside0.mk (Kd.R_lower (Kd.R_new' (Kd.R_new' (Kd.R_new' ho0 (Kd.R_lt (by (with_reducible repeat (first | apply zrA | apply zrN | apply zrD)); exact (Kd.R_mono (Kd.R_far (p := ⟨gb166, 0, none⟩) (Kd.R_types HO158.out BK166.out (by decide)) (fun _ hk => hk.2) (.slice Ao41 t162.length co41)) (fun _ h_ => h_.1))))) (Kd.R_lt (by (with_reducible repeat (first | apply zrA | apply zrN | apply zrD)); exact (Kd.R_mono (Kd.R_far (p := ⟨gb166, 0, none⟩) (Kd.R_types HO161.out BK166.out (by decide)) (fun _ hk => hk.2) (.slice Ao41 t162.length co41)) (fun _ h_ => h_.1))))) (Kd.R_lt (by (with_reducible repeat (first | apply zrA | apply zrN | apply zrD)); exact (Kd.R_mono (Kd.R_far (p := ⟨gb166, 0, none⟩) (Kd.R_types HO164.out BK166.out (by decide)) (fun _ hk => hk.2) (.slice Ao41 t162.length co41)) (fun _ h_ => h_.1))))) (below_size (by repeat (first | (with_reducible first | exact HB.out | apply zwA | apply zwN | apply zwD | refine below_set ?_ GE152.out | refine below_set ?_ GE153.out | refine below_set ?_ GE166.out) | exact HB.out)))); have n4_ := Aside0.mk (blk_below (g := gb152) (o := .cells #[.slice A0_0 l0_0.length c0_0] 24 (0, 0)) (by (with_reducible repeat (first | refine zbN ?_ _ | refine zbD ?_ | refine zbA ?_ _)); refine blk_far ?_ NB152_166.out _; (with_reducible repeat (first | refine zbN ?_ _ | refine zbD ?_ | refine zbA ?_ _)); exact BK152.out) hb); have n5_ := Aside0.mk (blk_below (g := gb153) (o := .cells #[.slice A1_0 l1_0.length c1_0] 24 (0, 0)) (by (with_reducible repeat (first | refine zbN ?_ _ | refine zbD ?_ | refine zbA ?_ _)); refine blk_far ?_ NB153_166.out _; (with_reducible repeat (first | refine zbN ?_ _ | refine zbD ?_ | refine zbA ?_ _)); exact BK153.out) hb); have n6_ := Aside0.mk (blk_below (g := gb166) (o := .cells #[.slice Ao41 t162.length co41] 26 (0, 0)) (by (with_reducible repeat (first | refine zbN ?_ _ | refine zbD ?_ | refine zbA ?_ _)); refine blk_put (cs := #[.slice none 0 0]) ?_ 0 _ rfl; (with_reducible repeat (first | refine zbN ?_ _ | refine zbD ?_ | refine zbA ?_ _)); exact BK166.out) hb); have n7_ := Aside0.mk (below_step (by repeat (first | (with_reducible first | exact HB.out | apply zwA | apply zwN | apply zwD | refine below_set ?_ GE152.out | refine below_set ?_ GE153.out | refine below_set ?_ GE166.out) | exact HB.out)) hb); clear HO158; clear HO161; clear HO164; clear BK152; clear BK153; clear BK166; clear HB; have HO158 := n0_; have HO161 := n1_; have HO164 := n2_; have HO169 := n3_; have BK152 := n4_; have BK153 := n5_; have BK166 := n6_; have HB := n7_; clear n0_ n1_ n2_ n3_ n4_ n5_ n6_ n7_; (try clear hb); (try clear hb2); (try clear hk); (try clear hi); (try clear ho0)) | ((with_reducible refine gate_dst (N := 8) rfl ?_); refine box_event ?hg (N := 8) ?hd (cs := #[.slice none 0 0]) (t := 26) ?hr ?_; (case hd => rfl); (case hg => rfl); (case hr => first | (go_simp; done) | (go_simp; rfl)); intro gb170 hg w46 hbox hb; have n0_ := Aside0.mk (Kd.R_below (by (with_reducible repeat (first | apply zrA | apply zrN | apply zrD)); exact HO158.out) hb); have n1_ := Aside0.mk (Kd.R_below (by (with_reducible repeat (first | apply zrA | apply zrN | apply zrD)); exact HO161.out) hb); have n2_ := Aside0.mk (Kd.R_below (by (with_reducible repeat (first | apply zrA | apply zrN | apply zrD)); exact HO164.out) hb); have n3_ := Aside0.mk (Kd.R_below (by (with_reducible repeat (first | apply zrA | apply zrN | apply zrD)); exact HO169.out) hb); have n4_ := Aside0.mk (blk_below (g := gb152) (o := .cells #[.slice A0_0 l0_0.length c0_0] 24 (0, 0)) (by (with_reducible repeat (first | refine zbN ?_ _ | refine zbD ?_ | refine zbA ?_ _)); exact BK152.out) hb); have n5_ := Aside0.mk (blk_below (g := gb153) (o := .cells #[.slice A1_0 l1_0.length c1_0] 24 (0, 0)) (by (with_reducible repeat (first | refine zbN ?_ _ | refine zbD ?_ | refine zbA ?_ _)); exact BK153.out) hb); have n6_ := Aside0.mk (blk_below (g := gb166) (o := .cells #[.slice Ao41 t162.length co41] 26 (0, 0)) (by (with_reducible repeat (first | refine zbN ?_ _ | refine zbD ?_ | refine zbA ?_ _)); exact BK166.out) hb); have n7_ := Aside0.mk (below_step (by repeat (first | (with_reducible first | exact HB.out | apply zwA | apply zwN | apply zwD | refine below_set ?_ GE152.out | refine below_set ?_ GE153.out | refine below_set ?_ GE166.out) | exact HB.out)) hb); have n8_ := Aside0.mk (hbox); have n9_ := Aside0.mk ((by rw [hg]; exact (below_size (by repeat (first | (with_reducible first | exact HB.out | apply zwA | apply zwN | apply zwD | refine below_set ?_ GE152.out | refine below_set ?_ GE153.out | refine below_set ?_ GE166.out) | exact HB.out))) : w.heap.size ≤ gb170)); have n10_ := Aside0.mk ((by rw [hg]; exact (below_size (by repeat (first | (with_reducible first | exact HB.out | apply zwA | apply zwN | apply zwD | refine below_set ?_ GE152.out | refine below_set ?_ GE153.out | refine below_set ?_ GE166.out) | exact HB.out))) : w.heap.size ≤ gb170)); have n11_ := Aside0.mk ((by rw [hg]; exact Nat.ne_of_lt (blk_lt (g := gb152) (o := .cells #[.slice A0_0 l0_0.length c0_0] 24 (0, 0)) (by (with_reducible repeat (first | refine zbN ?_ _ | refine zbD ?_ | refine zbA ?_ _)); exact BK152.out)) : gb152 ≠ gb170)); have n12_ := Aside0.mk ((by rw [hg]; exact Nat.ne_of_gt (blk_lt (g := gb152) (o := .cells #[.slice A0_0 l0_0.length c0_0] 24 (0, 0)) (by (with_reducible repeat (first | refine zbN ?_ _ | refine zbD ?_ | refine zbA ?_ _)); exact BK152.out)) : gb170 ≠ gb152)); have n13_ := Aside0.mk ((by rw [hg]; exact Nat.ne_of_lt (blk_lt (g := gb153) (o := .cells #[.slice A1_0 l1_0.length c1_0] 24 (0, 0)) (by (with_reducible repeat (first | refine zbN ?_ _ | refine zbD ?_ | refine zbA ?_ _)); exact BK153.out)) : gb153 ≠ gb170)); have n14_ := Aside0.mk ((by rw [hg]; exact Nat.ne_of_gt (blk_lt (g := gb153) (o := .cells #[.slice A1_0 l1_0.length c1_0] 24 (0, 0)) (by (with_reducible repeat (first | refine zbN ?_ _ | refine zbD ?_ | refine zbA ?_ _)); exact BK153.out)) : gb170 ≠ gb153)); have n15_ := Aside0.mk ((by rw [hg]; exact Nat.ne_of_lt (blk_lt (g := gb166) (o := .cells #[.slice Ao41 t162.length co41] 26 (0, 0)) (by (with_reducible repeat (first | refine zbN ?_ _ | refine zbD ?_ | refine zbA ?_ _)); exact BK166.out)) : gb166 ≠ gb170)); have n16_ := Aside0.mk ((by rw [hg]; exact Nat.ne_of_gt (blk_lt (g := gb166) (o := .cells #[.slice Ao41 t162.length co41] 26 (0, 0)) (by (with_reducible repeat (first | refine zbN ?_ _ | refine zbD ?_ | refine zbA ?_ _)); exact BK166.out)) : gb170 ≠ gb166)); clear HO158; clear HO161; clear HO164; clear HO169; clear BK152; clear BK153; clear BK166; clear HB; have HO158 := n0_; have HO161 := n1_; have HO164 := n2_; have HO169 := n3_; have BK152 := n4_; have BK153 := n5_; have BK166 := n6_; have HB := n7_; have BK170 := n8_; have GW170 := n9_; have GE170 := n10_; have NB152_170 := n11_; have NB170_152 := n12_; have NB153_170 := n13_; have NB170_153 := n14_; have NB166_170 := n15_; have NB170_166 := n16_; clear n0_ n1_ n2_ n3_ n4_ n5_ n6_ n7_ n8_ n9_ n10_ n11_ n12_ n13_ n14_ n15_ n16_; clear hb hbox hg; obtain ⟨Ao47, co47, eo47⟩ := Kd.R_slice HO169.out; subst eo47; have hnb48 := NB170_152.out; have hnc48 := NB152_170.out; have hnb49 := NB170_153.out; have hnc49 := NB153_170.out; have hnb50 := NB170_166.out; have hnc50 := NB166_170.out; have hcz51_0 : w46.cell? ⟨gb170, 0, none⟩ = some (.slice none 0 0) := (blk_cell BK170.out 0).trans rfl; have hfz51_0 := blk_frozen BK170.out 0; have hnb52 := NB153_166.out; have hnc52 := NB166_153.out; have hcz53_0 : w46.cell? ⟨gb153, 0, none⟩ = some (.slice A1_0 l1_0.length c1_0) := (blk_cell BK153.out 0).trans rfl; have hfz53_0 := blk_frozen BK153.out 0) | ((with_reducible refine gate_callee (f := 11) rfl ?_); refine goesL_ (some 38) rfl rfl Try.func11 (by kernel_rfl) rfl #[.agg #[.slice A1_0 l1_0.length c1_0]] rfl (by (try simp only [List.map_toArray, List.map_cons, List.map_nil]); first | done | rfl | (simp only [List.length_drop, List.length_take]; rfl)) ?_; (with_reducible refine (laws_toSketch.calls k _ _ l1_0 t171 _ ?side1 ?side2 A23.out).mono ?_); (case side1 => exact Kd.C_below HR1_0.out (by repeat (first | (with_reducible first | exact HB.out | apply zwA | apply zwN | apply zwD | refine below_set ?_ GE152.out | refine below_set ?_ GE153.out | refine below_set ?_ GE166.out | refine below_set ?_ GE170.out) | exact HB.out))); (case side2 => exact HC1_0.out); rintro e w54 ⟨v172, rfl, ho0, hb⟩; refine ⟨_, rfl, ?_⟩; have n0_ := Aside0.mk (Kd.R_elder' (by (with_reducible repeat (first | apply zrA | apply zrN | apply zrD)); exact (Kd.R_mono (Kd.R_far (p := ⟨gb170, 0, none⟩) (Kd.R_types HO158.out BK170.out (by decide)) (fun _ hk => hk.2) (.slice Ao47 t167.length co47)) (fun _ h_ => h_.1))) (Kd.R_base ho0) hb); have n1_ := Aside0.mk (Kd.R_elder' (by (with_reducible repeat (first | apply zrA | apply zrN | apply zrD)); exact (Kd.R_mono (Kd.R_far (p := ⟨gb170, 0, none⟩) (Kd.R_types HO161.out BK170.out (by decide)) (fun _ hk => hk.2) (.slice Ao47 t167.length co47)) (fun _ h_ => h_.1))) (Kd.R_base ho0) hb); have n2_ := Aside0.mk (Kd.R_elder' (by (with_reducible repeat (first | apply zrA | apply zrN | apply zrD)); exact (Kd.R_mono (Kd.R_far (p := ⟨gb170, 0, none⟩) (Kd.R_types HO164.out BK170.out (by decide)) (fun _ hk => hk.2) (.slice Ao47 t167.length co47)) (fun _ h_ => h_.1))) (Kd.R_base ho0) hb); have n3_ := Aside0.mk (Kd.R_elder' (by (with_reducible repeat (first | apply zrA | apply zrN | apply zrD)); exact (Kd.R_mono (Kd.R_far (p := ⟨gb170, 0, none⟩) (Kd.R_types HO169.out BK170.out (by decide)) (fun _ hk => hk.2) (.slice Ao47 t167.length co47)) (fun _ h_ => h_.1))) (Kd.R_base ho0) hb); have n4_ := Aside0.mk (Kd.R_lower (Kd.R_new' (Kd.R_new' (Kd.R_new' (Kd.R_new' ho0 (Kd.R_lt (by (with_reducible repeat (first | apply zrA | apply zrN | apply zrD)); exact (Kd.R_mono (Kd.R_far (p := ⟨gb170, 0, none⟩) (Kd.R_types HO158.out BK170.out (by decide)) (fun _ hk => hk.2) (.slice Ao47 t167.length co47)) (fun _ h_ => h_.1))))) (Kd.R_lt (by (with_reducible repeat (first | apply zrA | apply zrN | apply zrD)); exact (Kd.R_mono (Kd.R_far (p := ⟨gb170, 0, none⟩) (Kd.R_types HO161.out BK170.out (by decide)) (fun _ hk => hk.2) (.slice Ao47 t167.length co47)) (fun _ h_ => h_.1))))) (Kd.R_lt (by (with_reducible repeat (first | apply zrA | apply zrN | apply zrD)); exact (Kd.R_mono (Kd.R_far (p := ⟨gb170, 0, none⟩) (Kd.R_types HO164.out BK170.out (by decide)) (fun _ hk => hk.2) (.slice Ao47 t167.length co47)) (fun _ h_ => h_.1))))) (Kd.R_lt (by (with_reducible repeat (first | apply zrA | apply zrN | apply zrD)); exact (Kd.R_mono (Kd.R_far (p := ⟨gb170, 0, none⟩) (Kd.R_types HO169.out BK170.out (by decide)) (fun _ hk => hk.2) (.slice Ao47 t167.length co47)) (fun _ h_ => h_.1))))) (below_size (by repeat (first | (with_reducible first | exact HB.out | apply zwA | apply zwN | apply zwD | refine below_set ?_ GE152.out | refine below_set ?_ GE153.out | refine below_set ?_ GE166.out | refine below_set ?_ GE170.out) | exact HB.out)))); have n5_ := Aside0.mk (blk_below (g := gb152) (o := .cells #[.slice A0_0 l0_0.length c0_0] 24 (0, 0)) (by (with_reducible repeat (first | refine zbN ?_ _ | refine zbD ?_ | refine zbA ?_ _)); refine blk_far ?_ NB152_170.out _; (with_reducible repeat (first | refine zbN ?_ _ | refine zbD ?_ | refine zbA ?_ _)); exact BK152.out) hb); have n6_ := Aside0.mk (blk_below (g := gb153) (o := .cells #[.slice A1_0 l1_0.length c1_0] 24 (0, 0)) (by (with_reducible repeat (first | refine zbN ?_ _ | refine zbD ?_ | refine zbA ?_ _)); refine blk_far ?_ NB153_170.out _; (with_reducible repeat (first | refine zbN ?_ _ | refine zbD ?_ | refine zbA ?_ _)); exact BK153.out) hb); have n7_ := Aside0.mk (blk_below (g := gb166) (o := .cells #[.slice Ao41 t162.length co41] 26 (0, 0)) (by (with_reducible repeat (first | refine zbN ?_ _ | refine zbD ?_ | refine zbA ?_ _)); refine blk_far ?_ NB166_170.out _; (with_reducible repeat (first | refine zbN ?_ _ | refine zbD ?_ | refine zbA ?_ _)); exact BK166.out) hb); have n8_ := Aside0.mk (blk_below (g := gb170) (o := .cells #[.slice Ao47 t167.length co47] 26 (0, 0)) (by (with_reducible repeat (first | refine zbN ?_ _ | refine zbD ?_ | refine zbA ?_ _)); refine blk_put (cs := #[.slice none 0 0]) ?_ 0 _ rfl; (with_reducible repeat (first | refine zbN ?_ _ | refine zbD ?_ | refine zbA ?_ _)); exact BK170.out) hb); have n9_ := Aside0.mk (below_step (by repeat (first | (with_reducible first | exact HB.out | apply zwA | apply zwN | apply zwD | refine below_set ?_ GE152.out | refine below_set ?_ GE153.out | refine below_set ?_ GE166.out | refine below_set ?_ GE170.out) | exact HB.out)) hb); clear HO158; clear HO161; clear HO164; clear HO169; clear BK152; clear BK153; clear BK166; clear BK170; clear HB; have HO158 := n0_; have HO161 := n1_; have HO164 := n2_; have HO169 := n3_; have HO173 := n4_; have BK152 := n5_; have BK153 := n6_; have BK166 := n7_; have BK170 := n8_; have HB := n9_; clear n0_ n1_ n2_ n3_ n4_ n5_ n6_ n7_ n8_ n9_; (try clear hb); (try clear hb2); (try clear hk); (try clear hi); (try clear ho0)) | ((with_reducible refine gate_dst (N := 9) rfl ?_); refine box_event ?hg (N := 9) ?hd (cs := #[.slice none 0 0]) (t := 26) ?hr ?_; (case hd => rfl); (case hg => rfl); (case hr => first | (go_simp; done) | (go_simp; rfl)); intro gb174 hg w55 hbox hb; have n0_ := Aside0.mk (Kd.R_below (by (with_reducible repeat (first | apply zrA | apply zrN | apply zrD)); exact HO158.out) hb); have n1_ := Aside0.mk (Kd.R_below (by (with_reducible repeat (first | apply zrA | apply zrN | apply zrD)); exact HO161.out) hb); have n2_ := Aside0.mk (Kd.R_below (by (with_reducible repeat (first | apply zrA | apply zrN | apply zrD)); exact HO164.out) hb); have n3_ := Aside0.mk (Kd.R_below (by (with_reducible repeat (first | apply zrA | apply zrN | apply zrD)); exact HO169.out) hb); have n4_ := Aside0.mk (Kd.R_below (by (with_reducible repeat (first | apply zrA | apply zrN | apply zrD)); exact HO173.out) hb); have n5_ := Aside0.mk (blk_below (g := gb152) (o := .cells #[.slice A0_0 l0_0.length c0_0] 24 (0, 0)) (by (with_reducible repeat (first | refine zbN ?_ _ | refine zbD ?_ | refine zbA ?_ _)); exact BK152.out) hb); have n6_ := Aside0.mk (blk_below (g := gb153) (o := .cells #[.slice A1_0 l1_0.length c1_0] 24 (0, 0)) (by (with_reducible repeat (first | refine zbN ?_ _ | refine zbD ?_ | refine zbA ?_ _)); exact BK153.out) hb); have n7_ := Aside0.mk (blk_below (g := gb166) (o := .cells #[.slice Ao41 t162.length co41] 26 (0, 0)) (by (with_reducible repeat (first | refine zbN ?_ _ | refine zbD ?_ | refine zbA ?_ _)); exact BK166.out) hb); have n8_ := Aside0.mk (blk_below (g := gb170) (o := .cells #[.slice Ao47 t167.length co47] 26 (0, 0)) (by (with_reducible repeat (first | refine zbN ?_ _ | refine zbD ?_ | refine zbA ?_ _)); exact BK170.out) hb); have n9_ := Aside0.mk (below_step (by repeat (first | (with_reducible first | exact HB.out | apply zwA | apply zwN | apply zwD | refine below_set ?_ GE152.out | refine below_set ?_ GE153.out | refine below_set ?_ GE166.out | refine below_set ?_ GE170.out) | exact HB.out)) hb); have n10_ := Aside0.mk (hbox); have n11_ := Aside0.mk ((by rw [hg]; exact (below_size (by repeat (first | (with_reducible first | exact HB.out | apply zwA | apply zwN | apply zwD | refine below_set ?_ GE152.out | refine below_set ?_ GE153.out | refine below_set ?_ GE166.out | refine below_set ?_ GE170.out) | exact HB.out))) : w.heap.size ≤ gb174)); have n12_ := Aside0.mk ((by rw [hg]; exact (below_size (by repeat (first | (with_reducible first | exact HB.out | apply zwA | apply zwN | apply zwD | refine below_set ?_ GE152.out | refine below_set ?_ GE153.out | refine below_set ?_ GE166.out | refine below_set ?_ GE170.out) | exact HB.out))) : w.heap.size ≤ gb174)); have n13_ := Aside0.mk ((by rw [hg]; exact Nat.ne_of_lt (blk_lt (g := gb152) (o := .cells #[.slice A0_0 l0_0.length c0_0] 24 (0, 0)) (by (with_reducible repeat (first | refine zbN ?_ _ | refine zbD ?_ | refine zbA ?_ _)); exact BK152.out)) : gb152 ≠ gb174)); have n14_ := Aside0.mk ((by rw [hg]; exact Nat.ne_of_gt (blk_lt (g := gb152) (o := .cells #[.slice A0_0 l0_0.length c0_0] 24 (0, 0)) (by (with_reducible repeat (first | refine zbN ?_ _ | refine zbD ?_ | refine zbA ?_ _)); exact BK152.out)) : gb174 ≠ gb152)); have n15_ := Aside0.mk ((by rw [hg]; exact Nat.ne_of_lt (blk_lt (g := gb153) (o := .cells #[.slice A1_0 l1_0.length c1_0] 24 (0, 0)) (by (with_reducible repeat (first | refine zbN ?_ _ | refine zbD ?_ | refine zbA ?_ _)); exact BK153.out)) : gb153 ≠ gb174)); have n16_ := Aside0.mk ((by rw [hg]; exact Nat.ne_of_gt (blk_lt (g := gb153) (o := .cells #[.slice A1_0 l1_0.length c1_0] 24 (0, 0)) (by (with_reducible repeat (first | refine zbN ?_ _ | refine zbD ?_ | refine zbA ?_ _)); exact BK153.out)) : gb174 ≠ gb153)); have n17_ := Aside0.mk ((by rw [hg]; exact Nat.ne_of_lt (blk_lt (g := gb166) (o := .cells #[.slice Ao41 t162.length co41] 26 (0, 0)) (by (with_reducible repeat (first | refine zbN ?_ _ | refine zbD ?_ | refine zbA ?_ _)); exact BK166.out)) : gb166 ≠ gb174)); have n18_ := Aside0.mk ((by rw [hg]; exact Nat.ne_of_gt (blk_lt (g := gb166) (o := .cells #[.slice Ao41 t162.length co41] 26 (0, 0)) (by (with_reducible repeat (first | refine zbN ?_ _ | refine zbD ?_ | refine zbA ?_ _)); exact BK166.out)) : gb174 ≠ gb166)); have n19_ := Aside0.mk ((by rw [hg]; exact Nat.ne_of_lt (blk_lt (g := gb170) (o := .cells #[.slice Ao47 t167.length co47] 26 (0, 0)) (by (with_reducible repeat (first | refine zbN ?_ _ | refine zbD ?_ | refine zbA ?_ _)); exact BK170.out)) : gb170 ≠ gb174)); have n20_ := Aside0.mk ((by rw [hg]; exact Nat.ne_of_gt (blk_lt (g := gb170) (o := .cells #[.slice Ao47 t167.length co47] 26 (0, 0)) (by (with_reducible repeat (first | refine zbN ?_ _ | refine zbD ?_ | refine zbA ?_ _)); exact BK170.out)) : gb174 ≠ gb170)); clear HO158; clear HO161; clear HO164; clear HO169; clear HO173; clear BK152; clear BK153; clear BK166; clear BK170; clear HB; have HO158 := n0_; have HO161 := n1_; have HO164 := n2_; have HO169 := n3_; have HO173 := n4_; have BK152 := n5_; have BK153 := n6_; have BK166 := n7_; have BK170 := n8_; have HB := n9_; have BK174 := n10_; have GW174 := n11_; have GE174 := n12_; have NB152_174 := n13_; have NB174_152 := n14_; have NB153_174 := n15_; have NB174_153 := n16_; have NB166_174 := n17_; have NB174_166 := n18_; have NB170_174 := n19_; have NB174_170 := n20_; clear n0_ n1_ n2_ n3_ n4_ n5_ n6_ n7_ n8_ n9_ n10_ n11_ n12_ n13_ n14_ n15_ n16_ n17_ n18_ n19_ n20_; clear hb hbox hg; obtain ⟨Ao56, co56, eo56⟩ := Kd.R_slice HO173.out; subst eo56; have hnb57 := NB174_152.out; have hnc57 := NB152_174.out; have hnb58 := NB174_153.out; have hnc58 := NB153_174.out; have hnb59 := NB174_166.out; have hnc59 := NB166_174.out; have hnb60 := NB174_170.out; have hnc60 := NB170_174.out; have hcz61_0 : w55.cell? ⟨gb174, 0, none⟩ = some (.slice none 0 0) := (blk_cell BK174.out 0).trans rfl; have hfz61_0 := blk_frozen BK174.out 0; have hcz62_0 : w55.cell? ⟨gb170, 0, none⟩ = some (.slice Ao47 t167.length co47) := (blk_cell BK170.out 0).trans rfl; have hfz62_0 := blk_frozen BK170.out 0) | ((with_reducible refine gate_callee (f := 12) rfl ?_); refine goesL_ (some 42) rfl rfl Try.func12 (by kernel_rfl) rfl #[.agg #[.slice Ao47 t167.length co47], .agg #[.slice Ao56 t171.length co56]] rfl (by (try simp only [List.map_toArray, List.map_cons, List.map_nil]); first | done | rfl | (simp only [List.length_drop, List.length_take]; rfl)) ?_; (with_reducible refine (impl_SketchJoin.calls k _ _ t167 _ _ t171 t175 t178 _ ?side1 ?side2 ?side3 ?side4 A24.out).mono ?_); (case side1 => refine (Kd.R_reads' (e := 3) (base := w.heap.size) (ok := fun k_ => ((((True ∧ some k_ ≠ (v157 : Value).ownBlock) ∧ some k_ ≠ (v160 : Value).ownBlock) ∧ some k_ ≠ (.slice Ao41 t162.length co41 : Value).ownBlock) ∧ some k_ ≠ (.slice Ao56 t171.length co56 : Value).ownBlock)) (n := t167.length) (c := co47) ?_).2.2; exact (by (with_reducible repeat (first | apply zrA | apply zrN | apply zrD)); exact (Kd.R_mono (Kd.R_far (p := ⟨gb174, 0, none⟩) (Kd.R_types HO169.out BK174.out (by decide)) (fun _ hk => hk.2) (.slice Ao56 t171.length co56)) (fun _ h_ => h_.1)))); (case side2 => exact (Kd.R_reads' HO169.out).2.1); (case side3 => refine (Kd.R_reads' (e := 3) (base := w.heap.size) (ok := fun k_ => ((((True ∧ some k_ ≠ (v157 : Value).ownBlock) ∧ some k_ ≠ (v160 : Value).ownBlock) ∧ some k_ ≠ (.slice Ao41 t162.length co41 : Value).ownBlock) ∧ some k_ ≠ (.slice Ao47 t167.length co47 : Value).ownBlock)) (n := t171.length) (c := co56) ?_).2.2; exact (by (with_reducible repeat (first | apply zrA | apply zrN | apply zrD)); exact (Kd.R_mono (Kd.R_far (p := ⟨gb174, 0, none⟩) (Kd.R_types HO173.out BK174.out (by decide)) (fun _ hk => hk.2) (.slice Ao56 t171.length co56)) (fun _ h_ => h_.1)))); (case side4 => exact (Kd.R_reads' HO173.out).2.1); rintro e w63 ⟨v176, rfl, ho0, hb⟩; refine ⟨_, rfl, ?_⟩; have n0_ := Aside0.mk (Kd.R_elder' (by (with_reducible repeat (first | apply zrA | apply zrN | apply zrD)); exact (Kd.R_mono (Kd.R_far (p := ⟨gb174, 0, none⟩) (Kd.R_types HO158.out BK174.out (by decide)) (fun _ hk => hk.2) (.slice Ao56 t171.length co56)) (fun _ h_ => h_.1))) (Kd.R_base ho0) hb); have n1_ := Aside0.mk (Kd.R_elder' (by (with_reducible repeat (first | apply zrA | apply zrN | apply zrD)); exact (Kd.R_mono (Kd.R_far (p := ⟨gb174, 0, none⟩) (Kd.R_types HO161.out BK174.out (by decide)) (fun _ hk => hk.2) (.slice Ao56 t171.length co56)) (fun _ h_ => h_.1))) (Kd.R_base ho0) hb); have n2_ := Aside0.mk (Kd.R_elder' (by (with_reducible repeat (first | apply zrA | apply zrN | apply zrD)); exact (Kd.R_mono (Kd.R_far (p := ⟨gb174, 0, none⟩) (Kd.R_types HO164.out BK174.out (by decide)) (fun _ hk => hk.2) (.slice Ao56 t171.length co56)) (fun _ h_ => h_.1))) (Kd.R_base ho0) hb); have n3_ := Aside0.mk (Kd.R_elder' (by (with_reducible repeat (first | apply zrA | apply zrN | apply zrD)); exact (Kd.R_mono (Kd.R_far (p := ⟨gb174, 0, none⟩) (Kd.R_types HO169.out BK174.out (by decide)) (fun _ hk => hk.2) (.slice Ao56 t171.length co56)) (fun _ h_ => h_.1))) (Kd.R_base ho0) hb); have n4_ := Aside0.mk (Kd.R_elder' (by (with_reducible repeat (first | apply zrA | apply zrN | apply zrD)); exact (Kd.R_mono (Kd.R_far (p := ⟨gb174, 0, none⟩) (Kd.R_types HO173.out BK174.out (by decide)) (fun _ hk => hk.2) (.slice Ao56 t171.length co56)) (fun _ h_ => h_.1))) (Kd.R_base ho0) hb); have n5_ := Aside0.mk (Kd.R_lower (Kd.R_new' (Kd.R_new' (Kd.R_new' (Kd.R_new' (Kd.R_new' ho0 (Kd.R_lt (by (with_reducible repeat (first | apply zrA | apply zrN | apply zrD)); exact (Kd.R_mono (Kd.R_far (p := ⟨gb174, 0, none⟩) (Kd.R_types HO158.out BK174.out (by decide)) (fun _ hk => hk.2) (.slice Ao56 t171.length co56)) (fun _ h_ => h_.1))))) (Kd.R_lt (by (with_reducible repeat (first | apply zrA | apply zrN | apply zrD)); exact (Kd.R_mono (Kd.R_far (p := ⟨gb174, 0, none⟩) (Kd.R_types HO161.out BK174.out (by decide)) (fun _ hk => hk.2) (.slice Ao56 t171.length co56)) (fun _ h_ => h_.1))))) (Kd.R_lt (by (with_reducible repeat (first | apply zrA | apply zrN | apply zrD)); exact (Kd.R_mono (Kd.R_far (p := ⟨gb174, 0, none⟩) (Kd.R_types HO164.out BK174.out (by decide)) (fun _ hk => hk.2) (.slice Ao56 t171.length co56)) (fun _ h_ => h_.1))))) (Kd.R_lt (by (with_reducible repeat (first | apply zrA | apply zrN | apply zrD)); exact (Kd.R_mono (Kd.R_far (p := ⟨gb174, 0, none⟩) (Kd.R_types HO169.out BK174.out (by decide)) (fun _ hk => hk.2) (.slice Ao56 t171.length co56)) (fun _ h_ => h_.1))))) (Kd.R_lt (by (with_reducible repeat (first | apply zrA | apply zrN | apply zrD)); exact (Kd.R_mono (Kd.R_far (p := ⟨gb174, 0, none⟩) (Kd.R_types HO173.out BK174.out (by decide)) (fun _ hk => hk.2) (.slice Ao56 t171.length co56)) (fun _ h_ => h_.1))))) (below_size (by repeat (first | (with_reducible first | exact HB.out | apply zwA | apply zwN | apply zwD | refine below_set ?_ GE152.out | refine below_set ?_ GE153.out | refine below_set ?_ GE166.out | refine below_set ?_ GE170.out | refine below_set ?_ GE174.out) | exact HB.out)))); have n6_ := Aside0.mk (blk_below (g := gb152) (o := .cells #[.slice A0_0 l0_0.length c0_0] 24 (0, 0)) (by (with_reducible repeat (first | refine zbN ?_ _ | refine zbD ?_ | refine zbA ?_ _)); refine blk_far ?_ NB152_174.out _; (with_reducible repeat (first | refine zbN ?_ _ | refine zbD ?_ | refine zbA ?_ _)); exact BK152.out) hb); have n7_ := Aside0.mk (blk_below (g := gb153) (o := .cells #[.slice A1_0 l1_0.length c1_0] 24 (0, 0)) (by (with_reducible repeat (first | refine zbN ?_ _ | refine zbD ?_ | refine zbA ?_ _)); refine blk_far ?_ NB153_174.out _; (with_reducible repeat (first | refine zbN ?_ _ | refine zbD ?_ | refine zbA ?_ _)); exact BK153.out) hb); have n8_ := Aside0.mk (blk_below (g := gb166) (o := .cells #[.slice Ao41 t162.length co41] 26 (0, 0)) (by (with_reducible repeat (first | refine zbN ?_ _ | refine zbD ?_ | refine zbA ?_ _)); refine blk_far ?_ NB166_174.out _; (with_reducible repeat (first | refine zbN ?_ _ | refine zbD ?_ | refine zbA ?_ _)); exact BK166.out) hb); have n9_ := Aside0.mk (blk_below (g := gb170) (o := .cells #[.slice Ao47 t167.length co47] 26 (0, 0)) (by (with_reducible repeat (first | refine zbN ?_ _ | refine zbD ?_ | refine zbA ?_ _)); refine blk_far ?_ NB170_174.out _; (with_reducible repeat (first | refine zbN ?_ _ | refine zbD ?_ | refine zbA ?_ _)); exact BK170.out) hb); have n10_ := Aside0.mk (blk_below (g := gb174) (o := .cells #[.slice Ao56 t171.length co56] 26 (0, 0)) (by (with_reducible repeat (first | refine zbN ?_ _ | refine zbD ?_ | refine zbA ?_ _)); refine blk_put (cs := #[.slice none 0 0]) ?_ 0 _ rfl; (with_reducible repeat (first | refine zbN ?_ _ | refine zbD ?_ | refine zbA ?_ _)); exact BK174.out) hb); have n11_ := Aside0.mk (below_step (by repeat (first | (with_reducible first | exact HB.out | apply zwA | apply zwN | apply zwD | refine below_set ?_ GE152.out | refine below_set ?_ GE153.out | refine below_set ?_ GE166.out | refine below_set ?_ GE170.out | refine below_set ?_ GE174.out) | exact HB.out)) hb); clear HO158; clear HO161; clear HO164; clear HO169; clear HO173; clear BK152; clear BK153; clear BK166; clear BK170; clear BK174; clear HB; have HO158 := n0_; have HO161 := n1_; have HO164 := n2_; have HO169 := n3_; have HO173 := n4_; have HO177 := n5_; have BK152 := n6_; have BK153 := n7_; have BK166 := n8_; have BK170 := n9_; have BK174 := n10_; have HB := n11_; clear n0_ n1_ n2_ n3_ n4_ n5_ n6_ n7_ n8_ n9_ n10_ n11_; (try clear hb); (try clear hb2); (try clear hk); (try clear hi); (try clear ho0)) | ((with_reducible refine gate_dst (N := 10) rfl ?_); refine box_event ?hg (N := 10) ?hd (cs := #[.slice none 0 0]) (t := 26) ?hr ?_; (case hd => rfl); (case hg => rfl); (case hr => first | (go_simp; done) | (go_simp; rfl)); intro gb179 hg w64 hbox hb; have n0_ := Aside0.mk (Kd.R_below (by (with_reducible repeat (first | apply zrA | apply zrN | apply zrD)); exact HO158.out) hb); have n1_ := Aside0.mk (Kd.R_below (by (with_reducible repeat (first | apply zrA | apply zrN | apply zrD)); exact HO161.out) hb); have n2_ := Aside0.mk (Kd.R_below (by (with_reducible repeat (first | apply zrA | apply zrN | apply zrD)); exact HO164.out) hb); have n3_ := Aside0.mk (Kd.R_below (by (with_reducible repeat (first | apply zrA | apply zrN | apply zrD)); exact HO169.out) hb); have n4_ := Aside0.mk (Kd.R_below (by (with_reducible repeat (first | apply zrA | apply zrN | apply zrD)); exact HO173.out) hb); have n5_ := Aside0.mk (Kd.R_below (by (with_reducible repeat (first | apply zrA | apply zrN | apply zrD)); exact HO177.out) hb); have n6_ := Aside0.mk (blk_below (g := gb152) (o := .cells #[.slice A0_0 l0_0.length c0_0] 24 (0, 0)) (by (with_reducible repeat (first | refine zbN ?_ _ | refine zbD ?_ | refine zbA ?_ _)); exact BK152.out) hb); have n7_ := Aside0.mk (blk_below (g := gb153) (o := .cells #[.slice A1_0 l1_0.length c1_0] 24 (0, 0)) (by (with_reducible repeat (first | refine zbN ?_ _ | refine zbD ?_ | refine zbA ?_ _)); exact BK153.out) hb); have n8_ := Aside0.mk (blk_below (g := gb166) (o := .cells #[.slice Ao41 t162.length co41] 26 (0, 0)) (by (with_reducible repeat (first | refine zbN ?_ _ | refine zbD ?_ | refine zbA ?_ _)); exact BK166.out) hb); have n9_ := Aside0.mk (blk_below (g := gb170) (o := .cells #[.slice Ao47 t167.length co47] 26 (0, 0)) (by (with_reducible repeat (first | refine zbN ?_ _ | refine zbD ?_ | refine zbA ?_ _)); exact BK170.out) hb); have n10_ := Aside0.mk (blk_below (g := gb174) (o := .cells #[.slice Ao56 t171.length co56] 26 (0, 0)) (by (with_reducible repeat (first | refine zbN ?_ _ | refine zbD ?_ | refine zbA ?_ _)); exact BK174.out) hb); have n11_ := Aside0.mk (below_step (by repeat (first | (with_reducible first | exact HB.out | apply zwA | apply zwN | apply zwD | refine below_set ?_ GE152.out | refine below_set ?_ GE153.out | refine below_set ?_ GE166.out | refine below_set ?_ GE170.out | refine below_set ?_ GE174.out) | exact HB.out)) hb); have n12_ := Aside0.mk (hbox); have n13_ := Aside0.mk ((by rw [hg]; exact (below_size (by repeat (first | (with_reducible first | exact HB.out | apply zwA | apply zwN | apply zwD | refine below_set ?_ GE152.out | refine below_set ?_ GE153.out | refine below_set ?_ GE166.out | refine below_set ?_ GE170.out | refine below_set ?_ GE174.out) | exact HB.out))) : w.heap.size ≤ gb179)); have n14_ := Aside0.mk ((by rw [hg]; exact (below_size (by repeat (first | (with_reducible first | exact HB.out | apply zwA | apply zwN | apply zwD | refine below_set ?_ GE152.out | refine below_set ?_ GE153.out | refine below_set ?_ GE166.out | refine below_set ?_ GE170.out | refine below_set ?_ GE174.out) | exact HB.out))) : w.heap.size ≤ gb179)); have n15_ := Aside0.mk ((by rw [hg]; exact Nat.ne_of_lt (blk_lt (g := gb152) (o := .cells #[.slice A0_0 l0_0.length c0_0] 24 (0, 0)) (by (with_reducible repeat (first | refine zbN ?_ _ | refine zbD ?_ | refine zbA ?_ _)); exact BK152.out)) : gb152 ≠ gb179)); have n16_ := Aside0.mk ((by rw [hg]; exact Nat.ne_of_gt (blk_lt (g := gb152) (o := .cells #[.slice A0_0 l0_0.length c0_0] 24 (0, 0)) (by (with_reducible repeat (first | refine zbN ?_ _ | refine zbD ?_ | refine zbA ?_ _)); exact BK152.out)) : gb179 ≠ gb152)); have n17_ := Aside0.mk ((by rw [hg]; exact Nat.ne_of_lt (blk_lt (g := gb153) (o := .cells #[.slice A1_0 l1_0.length c1_0] 24 (0, 0)) (by (with_reducible repeat (first | refine zbN ?_ _ | refine zbD ?_ | refine zbA ?_ _)); exact BK153.out)) : gb153 ≠ gb179)); have n18_ := Aside0.mk ((by rw [hg]; exact Nat.ne_of_gt (blk_lt (g := gb153) (o := .cells #[.slice A1_0 l1_0.length c1_0] 24 (0, 0)) (by (with_reducible repeat (first | refine zbN ?_ _ | refine zbD ?_ | refine zbA ?_ _)); exact BK153.out)) : gb179 ≠ gb153)); have n19_ := Aside0.mk ((by rw [hg]; exact Nat.ne_of_lt (blk_lt (g := gb166) (o := .cells #[.slice Ao41 t162.length co41] 26 (0, 0)) (by (with_reducible repeat (first | refine zbN ?_ _ | refine zbD ?_ | refine zbA ?_ _)); exact BK166.out)) : gb166 ≠ gb179)); have n20_ := Aside0.mk ((by rw [hg]; exact Nat.ne_of_gt (blk_lt (g := gb166) (o := .cells #[.slice Ao41 t162.length co41] 26 (0, 0)) (by (with_reducible repeat (first | refine zbN ?_ _ | refine zbD ?_ | refine zbA ?_ _)); exact BK166.out)) : gb179 ≠ gb166)); have n21_ := Aside0.mk ((by rw [hg]; exact Nat.ne_of_lt (blk_lt (g := gb170) (o := .cells #[.slice Ao47 t167.length co47] 26 (0, 0)) (by (with_reducible repeat (first | refine zbN ?_ _ | refine zbD ?_ | refine zbA ?_ _)); exact BK170.out)) : gb170 ≠ gb179)); have n22_ := Aside0.mk ((by rw [hg]; exact Nat.ne_of_gt (blk_lt (g := gb170) (o := .cells #[.slice Ao47 t167.length co47] 26 (0, 0)) (by (with_reducible repeat (first | refine zbN ?_ _ | refine zbD ?_ | refine zbA ?_ _)); exact BK170.out)) : gb179 ≠ gb170)); have n23_ := Aside0.mk ((by rw [hg]; exact Nat.ne_of_lt (blk_lt (g := gb174) (o := .cells #[.slice Ao56 t171.length co56] 26 (0, 0)) (by (with_reducible repeat (first | refine zbN ?_ _ | refine zbD ?_ | refine zbA ?_ _)); exact BK174.out)) : gb174 ≠ gb179)); have n24_ := Aside0.mk ((by rw [hg]; exact Nat.ne_of_gt (blk_lt (g := gb174) (o := .cells #[.slice Ao56 t171.length co56] 26 (0, 0)) (by (with_reducible repeat (first | refine zbN ?_ _ | refine zbD ?_ | refine zbA ?_ _)); exact BK174.out)) : gb179 ≠ gb174)); clear HO158; clear HO161; clear HO164; clear HO169; clear HO173; clear HO177; clear BK152; clear BK153; clear BK166; clear BK170; clear BK174; clear HB; have HO158 := n0_; have HO161 := n1_; have HO164 := n2_; have HO169 := n3_; have HO173 := n4_; have HO177 := n5_; have BK152 := n6_; have BK153 := n7_; have BK166 := n8_; have BK170 := n9_; have BK174 := n10_; have HB := n11_; have BK179 := n12_; have GW179 := n13_; have GE179 := n14_; have NB152_179 := n15_; have NB179_152 := n16_; have NB153_179 := n17_; have NB179_153 := n18_; have NB166_179 := n19_; have NB179_166 := n20_; have NB170_179 := n21_; have NB179_170 := n22_; have NB174_179 := n23_; have NB179_174 := n24_; clear n0_ n1_ n2_ n3_ n4_ n5_ n6_ n7_ n8_ n9_ n10_ n11_ n12_ n13_ n14_ n15_ n16_ n17_ n18_ n19_ n20_ n21_ n22_ n23_ n24_; clear hb hbox hg; obtain ⟨Ao65, co65, eo65⟩ := Kd.R_slice HO177.out; subst eo65; have hnb66 := NB179_152.out; have hnc66 := NB152_179.out; have hnb67 := NB179_153.out; have hnc67 := NB153_179.out; have hnb68 := NB179_166.out; have hnc68 := NB166_179.out; have hnb69 := NB179_170.out; have hnc69 := NB170_179.out; have hnb70 := NB179_174.out; have hnc70 := NB174_179.out; have hcz71_0 : w64.cell? ⟨gb179, 0, none⟩ = some (.slice none 0 0) := (blk_cell BK179.out 0).trans rfl; have hfz71_0 := blk_frozen BK179.out 0))
   (try simp only [Act.put, List.setIfInBounds_toArray, List.set_cons_zero, List.set_cons_succ])
   go_cut [53] (fun v53 wc => ∃ (kq : Nat) (x53_24 : Bool), v53 = .bool x53_24 ∧ Aside0 (laws_FnExactSketchJoin.j0 kq t165 t178 x53_24 l0_0 l1_0 t162 t167 t171 t175 = some r) ∧ Aside0 (kq ≤ k) ∧ Aside0 (Kd.R (Kd.int .i64) 3 wc w.heap.size (fun k_ => some k_ ≠ ((.slice Ao47 t167.length co47) : Value).ownBlock ∧ some k_ ≠ ((.slice Ao56 t171.length co56) : Value).ownBlock ∧ some k_ ≠ ((.slice Ao65 t175.length co65) : Value).ownBlock) (.slice Ao41 t162.length co41) t162) ∧ Aside0 (Kd.R (Kd.int .i64) 3 wc w.heap.size (fun k_ => some k_ ≠ ((.slice Ao41 t162.length co41) : Value).ownBlock ∧ some k_ ≠ ((.slice Ao56 t171.length co56) : Value).ownBlock ∧ some k_ ≠ ((.slice Ao65 t175.length co65) : Value).ownBlock) (.slice Ao47 t167.length co47) t167) ∧ Aside0 (Kd.R (Kd.int .i64) 3 wc w.heap.size (fun k_ => some k_ ≠ ((.slice Ao41 t162.length co41) : Value).ownBlock ∧ some k_ ≠ ((.slice Ao47 t167.length co47) : Value).ownBlock ∧ some k_ ≠ ((.slice Ao65 t175.length co65) : Value).ownBlock) (.slice Ao56 t171.length co56) t171) ∧ Aside0 (Kd.R (Kd.int .i64) 3 wc w.heap.size (fun k_ => some k_ ≠ ((.slice Ao41 t162.length co41) : Value).ownBlock ∧ some k_ ≠ ((.slice Ao47 t167.length co47) : Value).ownBlock ∧ some k_ ≠ ((.slice Ao56 t171.length co56) : Value).ownBlock) (.slice Ao65 t175.length co65) t175) ∧ Aside0 (wc.heap[gb152]? = some (.cells #[(.slice A0_0 l0_0.length c0_0)] 24 (0, 0))) ∧ Aside0 (wc.heap[gb153]? = some (.cells #[(.slice A1_0 l1_0.length c1_0)] 24 (0, 0))) ∧ Aside0 (wc.heap[gb166]? = some (.cells #[(.slice Ao41 t162.length co41)] 26 (0, 0))) ∧ Aside0 (wc.heap[gb170]? = some (.cells #[(.slice Ao47 t167.length co47)] 26 (0, 0))) ∧ Aside0 (wc.heap[gb174]? = some (.cells #[(.slice Ao56 t171.length co56)] 26 (0, 0))) ∧ Aside0 (wc.heap[gb179]? = some (.cells #[(.slice Ao65 t175.length co65)] 26 (0, 0))) ∧ Aside0 (Below w.heap.size w wc))
   case first =>
    have H := HC25.out
    clear HC25
    replace H := Option.bind_eq_some_iff.mp H
    obtain ⟨t180, A720, H⟩ := H
    replace H : (if t180 = true then (laws_FnExactSketchJoin.j0 k t165 t178 (t178 != t165) l0_0 l1_0 t162 t167 t171 t175) else (laws_FnExactSketchJoin.j0 k t165 t178 true l0_0 l1_0 t162 t167 t171 t175)) = some r := H
    have A72 := Aside0.mk A720
    clear A720
    by_cases c73 : t180 = true
    ·
     subst c73
     have H1 : (laws_FnExactSketchJoin.j0 k t165 t178 (t178 != t165) l0_0 l1_0 t162 t167 t171 t175) = some r := by rw [if_pos rfl] at H; exact H
     clear H
     have H := H1
     clear H1
     have H' := Aside0.mk H
     clear H
     have hnb74 := NB179_152.out
     have hnc74 := NB152_179.out
     have hnb75 := NB179_153.out
     have hnc75 := NB153_179.out
     have hnb76 := NB179_166.out
     have hnc76 := NB166_179.out
     have hnb77 := NB179_170.out
     have hnc77 := NB170_179.out
     have hnb78 := NB179_174.out
     have hnc78 := NB174_179.out
     have hcz79_0 : w64.cell? ⟨gb179, 0, none⟩ = some (.slice none 0 0) := (blk_cell BK179.out 0).trans rfl
     have hfz79_0 := blk_frozen BK179.out 0
     have hnb80 := NB166_152.out
     have hnc80 := NB152_166.out
     have hnb81 := NB166_153.out
     have hnc81 := NB153_166.out
     have hnb82 := NB166_170.out
     have hnc82 := NB170_166.out
     have hnb83 := NB166_174.out
     have hnc83 := NB174_166.out
     have hcz84_0 : w64.cell? ⟨gb166, 0, none⟩ = some (.slice Ao41 t162.length co41) := (blk_cell BK166.out 0).trans rfl
     have hfz84_0 := blk_frozen BK166.out 0
     go_wp2_with (first | ((with_reducible refine gate_callee (f := 13) rfl ?_); refine goesL_ (some 47) rfl rfl Try.func13 (by kernel_rfl) rfl #[.agg #[.slice Ao65 t175.length co65], .agg #[.slice Ao41 t162.length co41]] rfl (by (try simp only [List.map_toArray, List.map_cons, List.map_nil]); first | done | rfl | (simp only [List.length_drop, List.length_take]; rfl)) ?_; (with_reducible refine (laws_eqSketch.calls k _ _ t175 _ _ t162 true _ ?side1 ?side2 ?side3 ?side4 A72.out).mono ?_); (case side1 => refine (Kd.R_reads' (e := 3) (base := w.heap.size) (ok := fun k_ => (((((True ∧ some k_ ≠ (v157 : Value).ownBlock) ∧ some k_ ≠ (v160 : Value).ownBlock) ∧ some k_ ≠ (.slice Ao41 t162.length co41 : Value).ownBlock) ∧ some k_ ≠ (.slice Ao47 t167.length co47 : Value).ownBlock) ∧ some k_ ≠ (.slice Ao56 t171.length co56 : Value).ownBlock)) (n := t175.length) (c := co65) ?_).2.2; exact (by (with_reducible repeat (first | apply zrA | apply zrN | apply zrD)); exact (Kd.R_mono (Kd.R_far (p := ⟨gb179, 0, none⟩) (Kd.R_types HO177.out BK179.out (by decide)) (fun _ hk => hk.2) (.slice Ao65 t175.length co65)) (fun _ h_ => h_.1)))); (case side2 => exact (Kd.R_reads' HO177.out).2.1); (case side3 => refine (Kd.R_reads' (e := 3) (base := w.heap.size) (ok := fun k_ => ((((some k_ ≠ (v157 : Value).ownBlock ∧ some k_ ≠ (v160 : Value).ownBlock) ∧ some k_ ≠ (.slice Ao47 t167.length co47 : Value).ownBlock) ∧ some k_ ≠ (.slice Ao56 t171.length co56 : Value).ownBlock) ∧ some k_ ≠ (.slice Ao65 t175.length co65 : Value).ownBlock)) (n := t162.length) (c := co41) ?_).2.2; exact (by (with_reducible repeat (first | apply zrA | apply zrN | apply zrD)); exact (Kd.R_mono (Kd.R_far (p := ⟨gb179, 0, none⟩) (Kd.R_types HO164.out BK179.out (by decide)) (fun _ hk => hk.2) (.slice Ao65 t175.length co65)) (fun _ h_ => h_.1)))); (case side4 => exact (Kd.R_reads' HO164.out).2.1); rintro e w85 ⟨rfl, hb⟩; refine ⟨_, rfl, ?_⟩; have n0_ := Aside0.mk (Kd.R_below (by (with_reducible repeat (first | apply zrA | apply zrN | apply zrD)); exact (Kd.R_mono (Kd.R_far (p := ⟨gb179, 0, none⟩) (Kd.R_types HO158.out BK179.out (by decide)) (fun _ hk => hk.2) (.slice Ao65 t175.length co65)) (fun _ h_ => h_.1))) hb); have n1_ := Aside0.mk (Kd.R_below (by (with_reducible repeat (first | apply zrA | apply zrN | apply zrD)); exact (Kd.R_mono (Kd.R_far (p := ⟨gb179, 0, none⟩) (Kd.R_types HO161.out BK179.out (by decide)) (fun _ hk => hk.2) (.slice Ao65 t175.length co65)) (fun _ h_ => h_.1))) hb); have n2_ := Aside0.mk (Kd.R_below (by (with_reducible repeat (first | apply zrA | apply zrN | apply zrD)); exact (Kd.R_mono (Kd.R_far (p := ⟨gb179, 0, none⟩) (Kd.R_types HO164.out BK179.out (by decide)) (fun _ hk => hk.2) (.slice Ao65 t175.length co65)) (fun _ h_ => h_.1))) hb); have n3_ := Aside0.mk (Kd.R_below (by (with_reducible repeat (first | apply zrA | apply zrN | apply zrD)); exact (Kd.R_mono (Kd.R_far (p := ⟨gb179, 0, none⟩) (Kd.R_types HO169.out BK179.out (by decide)) (fun _ hk => hk.2) (.slice Ao65 t175.length co65)) (fun _ h_ => h_.1))) hb); have n4_ := Aside0.mk (Kd.R_below (by (with_reducible repeat (first | apply zrA | apply zrN | apply zrD)); exact (Kd.R_mono (Kd.R_far (p := ⟨gb179, 0, none⟩) (Kd.R_types HO173.out BK179.out (by decide)) (fun _ hk => hk.2) (.slice Ao65 t175.length co65)) (fun _ h_ => h_.1))) hb); have n5_ := Aside0.mk (Kd.R_below (by (with_reducible repeat (first | apply zrA | apply zrN | apply zrD)); exact (Kd.R_mono (Kd.R_far (p := ⟨gb179, 0, none⟩) (Kd.R_types HO177.out BK179.out (by decide)) (fun _ hk => hk.2) (.slice Ao65 t175.length co65)) (fun _ h_ => h_.1))) hb); have n6_ := Aside0.mk (blk_below (g := gb152) (o := .cells #[.slice A0_0 l0_0.length c0_0] 24 (0, 0)) (by (with_reducible repeat (first | refine zbN ?_ _ | refine zbD ?_ | refine zbA ?_ _)); refine blk_far ?_ NB152_179.out _; (with_reducible repeat (first | refine zbN ?_ _ | refine zbD ?_ | refine zbA ?_ _)); exact BK152.out) hb); have n7_ := Aside0.mk (blk_below (g := gb153) (o := .cells #[.slice A1_0 l1_0.length c1_0] 24 (0, 0)) (by (with_reducible repeat (first | refine zbN ?_ _ | refine zbD ?_ | refine zbA ?_ _)); refine blk_far ?_ NB153_179.out _; (with_reducible repeat (first | refine zbN ?_ _ | refine zbD ?_ | refine zbA ?_ _)); exact BK153.out) hb); have n8_ := Aside0.mk (blk_below (g := gb166) (o := .cells #[.slice Ao41 t162.length co41] 26 (0, 0)) (by (with_reducible repeat (first | refine zbN ?_ _ | refine zbD ?_ | refine zbA ?_ _)); refine blk_far ?_ NB166_179.out _; (with_reducible repeat (first | refine zbN ?_ _ | refine zbD ?_ | refine zbA ?_ _)); exact BK166.out) hb); have n9_ := Aside0.mk (blk_below (g := gb170) (o := .cells #[.slice Ao47 t167.length co47] 26 (0, 0)) (by (with_reducible repeat (first | refine zbN ?_ _ | refine zbD ?_ | refine zbA ?_ _)); refine blk_far ?_ NB170_179.out _; (with_reducible repeat (first | refine zbN ?_ _ | refine zbD ?_ | refine zbA ?_ _)); exact BK170.out) hb); have n10_ := Aside0.mk (blk_below (g := gb174) (o := .cells #[.slice Ao56 t171.length co56] 26 (0, 0)) (by (with_reducible repeat (first | refine zbN ?_ _ | refine zbD ?_ | refine zbA ?_ _)); refine blk_far ?_ NB174_179.out _; (with_reducible repeat (first | refine zbN ?_ _ | refine zbD ?_ | refine zbA ?_ _)); exact BK174.out) hb); have n11_ := Aside0.mk (blk_below (g := gb179) (o := .cells #[.slice Ao65 t175.length co65] 26 (0, 0)) (by (with_reducible repeat (first | refine zbN ?_ _ | refine zbD ?_ | refine zbA ?_ _)); refine blk_put (cs := #[.slice none 0 0]) ?_ 0 _ rfl; (with_reducible repeat (first | refine zbN ?_ _ | refine zbD ?_ | refine zbA ?_ _)); exact BK179.out) hb); have n12_ := Aside0.mk (below_step (by repeat (first | (with_reducible first | exact HB.out | apply zwA | apply zwN | apply zwD | refine below_set ?_ GE152.out | refine below_set ?_ GE153.out | refine below_set ?_ GE166.out | refine below_set ?_ GE170.out | refine below_set ?_ GE174.out | refine below_set ?_ GE179.out) | exact HB.out)) hb); clear HO158; clear HO161; clear HO164; clear HO169; clear HO173; clear HO177; clear BK152; clear BK153; clear BK166; clear BK170; clear BK174; clear BK179; clear HB; have HO158 := n0_; have HO161 := n1_; have HO164 := n2_; have HO169 := n3_; have HO173 := n4_; have HO177 := n5_; have BK152 := n6_; have BK153 := n7_; have BK166 := n8_; have BK170 := n9_; have BK174 := n10_; have BK179 := n11_; have HB := n12_; clear n0_ n1_ n2_ n3_ n4_ n5_ n6_ n7_ n8_ n9_ n10_ n11_ n12_; (try clear hb); (try clear hb2); (try clear hk); (try clear hi)))
     go_meet
     case rel => exact ⟨_, ((t178 != t165)), (by first | rfl | (simp; done) | (simp [*]; done)), H', ⟨by first | omega | exact Nat.le_refl _⟩, ⟨by (with_reducible repeat (first | apply zrA | apply zrN | apply zrD)); exact Kd.R_mono HO164.out (fun _ hk => ⟨hk.1.1.2, ⟨hk.1.2, hk.2⟩⟩)⟩, ⟨by (with_reducible repeat (first | apply zrA | apply zrN | apply zrD)); exact Kd.R_mono HO169.out (fun _ hk => ⟨hk.1.1.2, ⟨hk.1.2, hk.2⟩⟩)⟩, ⟨by (with_reducible repeat (first | apply zrA | apply zrN | apply zrD)); exact Kd.R_mono HO173.out (fun _ hk => ⟨hk.1.1.2, ⟨hk.1.2, hk.2⟩⟩)⟩, ⟨by (with_reducible repeat (first | apply zrA | apply zrN | apply zrD)); exact Kd.R_mono HO177.out (fun _ hk => ⟨hk.1.1.2, ⟨hk.1.2, hk.2⟩⟩)⟩, ⟨by (with_reducible repeat (first | refine zbN ?_ _ | refine zbD ?_ | refine zbA ?_ _)); exact BK152.out⟩, ⟨by (with_reducible repeat (first | refine zbN ?_ _ | refine zbD ?_ | refine zbA ?_ _)); exact BK153.out⟩, ⟨by (with_reducible repeat (first | refine zbN ?_ _ | refine zbD ?_ | refine zbA ?_ _)); exact BK166.out⟩, ⟨by (with_reducible repeat (first | refine zbN ?_ _ | refine zbD ?_ | refine zbA ?_ _)); exact BK170.out⟩, ⟨by (with_reducible repeat (first | refine zbN ?_ _ | refine zbD ?_ | refine zbA ?_ _)); exact BK174.out⟩, ⟨by (with_reducible repeat (first | refine zbN ?_ _ | refine zbD ?_ | refine zbA ?_ _)); exact BK179.out⟩, ⟨by repeat (first | (with_reducible first | exact HB.out | apply zwA | apply zwN | apply zwD | refine below_set ?_ GE152.out | refine below_set ?_ GE153.out | refine below_set ?_ GE166.out | refine below_set ?_ GE170.out | refine below_set ?_ GE174.out | refine below_set ?_ GE179.out) | exact HB.out)⟩⟩
    ·
     replace c73 := Bool.eq_false_iff.mpr c73
     subst c73
     have H1 : (laws_FnExactSketchJoin.j0 k t165 t178 true l0_0 l1_0 t162 t167 t171 t175) = some r := by rw [if_neg (show ¬ (false = true) by decide)] at H; exact H
     clear H
     have H := H1
     clear H1
     have H' := Aside0.mk H
     clear H
     have hnb86 := NB179_152.out
     have hnc86 := NB152_179.out
     have hnb87 := NB179_153.out
     have hnc87 := NB153_179.out
     have hnb88 := NB179_166.out
     have hnc88 := NB166_179.out
     have hnb89 := NB179_170.out
     have hnc89 := NB170_179.out
     have hnb90 := NB179_174.out
     have hnc90 := NB174_179.out
     have hcz91_0 : w64.cell? ⟨gb179, 0, none⟩ = some (.slice none 0 0) := (blk_cell BK179.out 0).trans rfl
     have hfz91_0 := blk_frozen BK179.out 0
     have hnb92 := NB166_152.out
     have hnc92 := NB152_166.out
     have hnb93 := NB166_153.out
     have hnc93 := NB153_166.out
     have hnb94 := NB166_170.out
     have hnc94 := NB170_166.out
     have hnb95 := NB166_174.out
     have hnc95 := NB174_166.out
     have hcz96_0 : w64.cell? ⟨gb166, 0, none⟩ = some (.slice Ao41 t162.length co41) := (blk_cell BK166.out 0).trans rfl
     have hfz96_0 := blk_frozen BK166.out 0
     go_wp2_with (first | ((with_reducible refine gate_callee (f := 13) rfl ?_); refine goesL_ (some 47) rfl rfl Try.func13 (by kernel_rfl) rfl #[.agg #[.slice Ao65 t175.length co65], .agg #[.slice Ao41 t162.length co41]] rfl (by (try simp only [List.map_toArray, List.map_cons, List.map_nil]); first | done | rfl | (simp only [List.length_drop, List.length_take]; rfl)) ?_; (with_reducible refine (laws_eqSketch.calls k _ _ t175 _ _ t162 false _ ?side1 ?side2 ?side3 ?side4 A72.out).mono ?_); (case side1 => refine (Kd.R_reads' (e := 3) (base := w.heap.size) (ok := fun k_ => (((((True ∧ some k_ ≠ (v157 : Value).ownBlock) ∧ some k_ ≠ (v160 : Value).ownBlock) ∧ some k_ ≠ (.slice Ao41 t162.length co41 : Value).ownBlock) ∧ some k_ ≠ (.slice Ao47 t167.length co47 : Value).ownBlock) ∧ some k_ ≠ (.slice Ao56 t171.length co56 : Value).ownBlock)) (n := t175.length) (c := co65) ?_).2.2; exact (by (with_reducible repeat (first | apply zrA | apply zrN | apply zrD)); exact (Kd.R_mono (Kd.R_far (p := ⟨gb179, 0, none⟩) (Kd.R_types HO177.out BK179.out (by decide)) (fun _ hk => hk.2) (.slice Ao65 t175.length co65)) (fun _ h_ => h_.1)))); (case side2 => exact (Kd.R_reads' HO177.out).2.1); (case side3 => refine (Kd.R_reads' (e := 3) (base := w.heap.size) (ok := fun k_ => ((((some k_ ≠ (v157 : Value).ownBlock ∧ some k_ ≠ (v160 : Value).ownBlock) ∧ some k_ ≠ (.slice Ao47 t167.length co47 : Value).ownBlock) ∧ some k_ ≠ (.slice Ao56 t171.length co56 : Value).ownBlock) ∧ some k_ ≠ (.slice Ao65 t175.length co65 : Value).ownBlock)) (n := t162.length) (c := co41) ?_).2.2; exact (by (with_reducible repeat (first | apply zrA | apply zrN | apply zrD)); exact (Kd.R_mono (Kd.R_far (p := ⟨gb179, 0, none⟩) (Kd.R_types HO164.out BK179.out (by decide)) (fun _ hk => hk.2) (.slice Ao65 t175.length co65)) (fun _ h_ => h_.1)))); (case side4 => exact (Kd.R_reads' HO164.out).2.1); rintro e w97 ⟨rfl, hb⟩; refine ⟨_, rfl, ?_⟩; have n0_ := Aside0.mk (Kd.R_below (by (with_reducible repeat (first | apply zrA | apply zrN | apply zrD)); exact (Kd.R_mono (Kd.R_far (p := ⟨gb179, 0, none⟩) (Kd.R_types HO158.out BK179.out (by decide)) (fun _ hk => hk.2) (.slice Ao65 t175.length co65)) (fun _ h_ => h_.1))) hb); have n1_ := Aside0.mk (Kd.R_below (by (with_reducible repeat (first | apply zrA | apply zrN | apply zrD)); exact (Kd.R_mono (Kd.R_far (p := ⟨gb179, 0, none⟩) (Kd.R_types HO161.out BK179.out (by decide)) (fun _ hk => hk.2) (.slice Ao65 t175.length co65)) (fun _ h_ => h_.1))) hb); have n2_ := Aside0.mk (Kd.R_below (by (with_reducible repeat (first | apply zrA | apply zrN | apply zrD)); exact (Kd.R_mono (Kd.R_far (p := ⟨gb179, 0, none⟩) (Kd.R_types HO164.out BK179.out (by decide)) (fun _ hk => hk.2) (.slice Ao65 t175.length co65)) (fun _ h_ => h_.1))) hb); have n3_ := Aside0.mk (Kd.R_below (by (with_reducible repeat (first | apply zrA | apply zrN | apply zrD)); exact (Kd.R_mono (Kd.R_far (p := ⟨gb179, 0, none⟩) (Kd.R_types HO169.out BK179.out (by decide)) (fun _ hk => hk.2) (.slice Ao65 t175.length co65)) (fun _ h_ => h_.1))) hb); have n4_ := Aside0.mk (Kd.R_below (by (with_reducible repeat (first | apply zrA | apply zrN | apply zrD)); exact (Kd.R_mono (Kd.R_far (p := ⟨gb179, 0, none⟩) (Kd.R_types HO173.out BK179.out (by decide)) (fun _ hk => hk.2) (.slice Ao65 t175.length co65)) (fun _ h_ => h_.1))) hb); have n5_ := Aside0.mk (Kd.R_below (by (with_reducible repeat (first | apply zrA | apply zrN | apply zrD)); exact (Kd.R_mono (Kd.R_far (p := ⟨gb179, 0, none⟩) (Kd.R_types HO177.out BK179.out (by decide)) (fun _ hk => hk.2) (.slice Ao65 t175.length co65)) (fun _ h_ => h_.1))) hb); have n6_ := Aside0.mk (blk_below (g := gb152) (o := .cells #[.slice A0_0 l0_0.length c0_0] 24 (0, 0)) (by (with_reducible repeat (first | refine zbN ?_ _ | refine zbD ?_ | refine zbA ?_ _)); refine blk_far ?_ NB152_179.out _; (with_reducible repeat (first | refine zbN ?_ _ | refine zbD ?_ | refine zbA ?_ _)); exact BK152.out) hb); have n7_ := Aside0.mk (blk_below (g := gb153) (o := .cells #[.slice A1_0 l1_0.length c1_0] 24 (0, 0)) (by (with_reducible repeat (first | refine zbN ?_ _ | refine zbD ?_ | refine zbA ?_ _)); refine blk_far ?_ NB153_179.out _; (with_reducible repeat (first | refine zbN ?_ _ | refine zbD ?_ | refine zbA ?_ _)); exact BK153.out) hb); have n8_ := Aside0.mk (blk_below (g := gb166) (o := .cells #[.slice Ao41 t162.length co41] 26 (0, 0)) (by (with_reducible repeat (first | refine zbN ?_ _ | refine zbD ?_ | refine zbA ?_ _)); refine blk_far ?_ NB166_179.out _; (with_reducible repeat (first | refine zbN ?_ _ | refine zbD ?_ | refine zbA ?_ _)); exact BK166.out) hb); have n9_ := Aside0.mk (blk_below (g := gb170) (o := .cells #[.slice Ao47 t167.length co47] 26 (0, 0)) (by (with_reducible repeat (first | refine zbN ?_ _ | refine zbD ?_ | refine zbA ?_ _)); refine blk_far ?_ NB170_179.out _; (with_reducible repeat (first | refine zbN ?_ _ | refine zbD ?_ | refine zbA ?_ _)); exact BK170.out) hb); have n10_ := Aside0.mk (blk_below (g := gb174) (o := .cells #[.slice Ao56 t171.length co56] 26 (0, 0)) (by (with_reducible repeat (first | refine zbN ?_ _ | refine zbD ?_ | refine zbA ?_ _)); refine blk_far ?_ NB174_179.out _; (with_reducible repeat (first | refine zbN ?_ _ | refine zbD ?_ | refine zbA ?_ _)); exact BK174.out) hb); have n11_ := Aside0.mk (blk_below (g := gb179) (o := .cells #[.slice Ao65 t175.length co65] 26 (0, 0)) (by (with_reducible repeat (first | refine zbN ?_ _ | refine zbD ?_ | refine zbA ?_ _)); refine blk_put (cs := #[.slice none 0 0]) ?_ 0 _ rfl; (with_reducible repeat (first | refine zbN ?_ _ | refine zbD ?_ | refine zbA ?_ _)); exact BK179.out) hb); have n12_ := Aside0.mk (below_step (by repeat (first | (with_reducible first | exact HB.out | apply zwA | apply zwN | apply zwD | refine below_set ?_ GE152.out | refine below_set ?_ GE153.out | refine below_set ?_ GE166.out | refine below_set ?_ GE170.out | refine below_set ?_ GE174.out | refine below_set ?_ GE179.out) | exact HB.out)) hb); clear HO158; clear HO161; clear HO164; clear HO169; clear HO173; clear HO177; clear BK152; clear BK153; clear BK166; clear BK170; clear BK174; clear BK179; clear HB; have HO158 := n0_; have HO161 := n1_; have HO164 := n2_; have HO169 := n3_; have HO173 := n4_; have HO177 := n5_; have BK152 := n6_; have BK153 := n7_; have BK166 := n8_; have BK170 := n9_; have BK174 := n10_; have BK179 := n11_; have HB := n12_; clear n0_ n1_ n2_ n3_ n4_ n5_ n6_ n7_ n8_ n9_ n10_ n11_ n12_; (try clear hb); (try clear hb2); (try clear hk); (try clear hi)))
     go_meet
     case rel => exact ⟨_, (true), (by first | rfl | (simp; done) | (simp [*]; done)), H', ⟨by first | omega | exact Nat.le_refl _⟩, ⟨by (with_reducible repeat (first | apply zrA | apply zrN | apply zrD)); exact Kd.R_mono HO164.out (fun _ hk => ⟨hk.1.1.2, ⟨hk.1.2, hk.2⟩⟩)⟩, ⟨by (with_reducible repeat (first | apply zrA | apply zrN | apply zrD)); exact Kd.R_mono HO169.out (fun _ hk => ⟨hk.1.1.2, ⟨hk.1.2, hk.2⟩⟩)⟩, ⟨by (with_reducible repeat (first | apply zrA | apply zrN | apply zrD)); exact Kd.R_mono HO173.out (fun _ hk => ⟨hk.1.1.2, ⟨hk.1.2, hk.2⟩⟩)⟩, ⟨by (with_reducible repeat (first | apply zrA | apply zrN | apply zrD)); exact Kd.R_mono HO177.out (fun _ hk => ⟨hk.1.1.2, ⟨hk.1.2, hk.2⟩⟩)⟩, ⟨by (with_reducible repeat (first | refine zbN ?_ _ | refine zbD ?_ | refine zbA ?_ _)); exact BK152.out⟩, ⟨by (with_reducible repeat (first | refine zbN ?_ _ | refine zbD ?_ | refine zbA ?_ _)); exact BK153.out⟩, ⟨by (with_reducible repeat (first | refine zbN ?_ _ | refine zbD ?_ | refine zbA ?_ _)); exact BK166.out⟩, ⟨by (with_reducible repeat (first | refine zbN ?_ _ | refine zbD ?_ | refine zbA ?_ _)); exact BK170.out⟩, ⟨by (with_reducible repeat (first | refine zbN ?_ _ | refine zbD ?_ | refine zbA ?_ _)); exact BK174.out⟩, ⟨by (with_reducible repeat (first | refine zbN ?_ _ | refine zbD ?_ | refine zbA ?_ _)); exact BK179.out⟩, ⟨by repeat (first | (with_reducible first | exact HB.out | apply zwA | apply zwN | apply zwD | refine below_set ?_ GE152.out | refine below_set ?_ GE153.out | refine below_set ?_ GE166.out | refine below_set ?_ GE170.out | refine below_set ?_ GE174.out | refine below_set ?_ GE179.out) | exact HB.out)⟩⟩
   case rest =>
    clear HC25
    try clear c1
    try clear p2
    try clear c4
    try clear c5
    try clear c6
    try clear c7
    try clear c8
    try clear c9
    try clear c10
    try clear c11
    try clear c12
    try clear c13
    try clear c43
    try clear c48
    try clear c49
    try clear c50
    try clear c52
    try clear c57
    try clear c58
    try clear c59
    try clear c60
    try clear c66
    try clear c67
    try clear c68
    try clear c69
    try clear c70
    try clear c73
    try clear c74
    try clear c75
    try clear c76
    try clear c77
    try clear c78
    try clear c80
    try clear c81
    try clear c82
    try clear c83
    try clear c86
    try clear c87
    try clear c88
    try clear c89
    try clear c90
    try clear c92
    try clear c93
    try clear c94
    try clear c95
    try clear hcz44_0
    try clear hcz51_0
    try clear hcz53_0
    try clear hcz61_0
    try clear hcz62_0
    try clear hcz71_0
    try clear hcz79_0
    try clear hcz84_0
    try clear hcz91_0
    try clear hcz96_0
    try clear hfz44_0
    try clear hfz51_0
    try clear hfz53_0
    try clear hfz61_0
    try clear hfz62_0
    try clear hfz71_0
    try clear hfz79_0
    try clear hfz84_0
    try clear hfz91_0
    try clear hfz96_0
    obtain ⟨kq, x53_24, rfl, HA, HJ24, HO_167000, HO_171000, HO_175000, HO_180000, BK152, BK153, BK166, BK170, BK174, BK179, HB⟩ := hcut
    cases kq with
    | zero => exact absurd HA.out (by simp [laws_FnExactSketchJoin.j0])
    | succ kj24 =>
     have H := HA.out
     clear HA
     simp only [laws_FnExactSketchJoin.j0] at H
     by_cases c98 : x53_24 = true
     ·
      subst c98
      have H1 : (some false) = some r := by rw [if_pos rfl] at H; exact H
      clear H
      have H := H1
      clear H1
      obtain rfl := Option.some.inj H
      go_wp2
      go_ret
      exact ⟨by first | rfl | (simp [errW_none, errW_some] <;> rfl) | (simp [*, errW_none, errW_some] <;> rfl), by repeat (first | (with_reducible first | exact HB.out | apply zwA | apply zwN | apply zwD | refine below_set ?_ GE152.out | refine below_set ?_ GE153.out | refine below_set ?_ GE166.out | refine below_set ?_ GE170.out | refine below_set ?_ GE174.out | refine below_set ?_ GE179.out) | exact HB.out)⟩
     ·
      replace c98 := Bool.eq_false_iff.mpr c98
      subst c98
      have H1 : ((laws_toSketch.f kj24 l0_0).bind fun t181 => ((laws_eqSketch.f kj24 t167 t181).bind fun t184 => (if t184 = true then ((laws_toSketch.f kj24 l1_0).bind fun t185 => ((laws_eqSketch.f kj24 t171 t185).bind fun t188 => (if t188 = true then ((laws_markSketch.f kj24 t167 1).bind fun bt189 => ((laws_markSketch.f kj24 t171 bt189.1).bind fun bt191 => (if bt191.1 < 0 then (laws_FnExactSketchJoin.j1 kj24 t165 true l0_0 l1_0 t162 t175) else ((laws_eqSketch.f kj24 t175 t162).bind fun t193 => (if t193 = true then (laws_FnExactSketchJoin.j1 kj24 t165 (t178 != t165) l0_0 l1_0 t162 t175) else (laws_FnExactSketchJoin.j1 kj24 t165 true l0_0 l1_0 t162 t175)))))) else (some false)))) else (some false)))) = some r := by rw [if_neg (show ¬ (false = true) by decide)] at H; exact H
      clear H
      have H := H1
      clear H1
      replace H := Option.bind_eq_some_iff.mp H
      obtain ⟨t181, A990, H⟩ := H
      replace H : ((laws_eqSketch.f kj24 t167 t181).bind fun t184 => (if t184 = true then ((laws_toSketch.f kj24 l1_0).bind fun t185 => ((laws_eqSketch.f kj24 t171 t185).bind fun t188 => (if t188 = true then ((laws_markSketch.f kj24 t167 1).bind fun bt189 => ((laws_markSketch.f kj24 t171 bt189.1).bind fun bt191 => (if bt191.1 < 0 then (laws_FnExactSketchJoin.j1 kj24 t165 true l0_0 l1_0 t162 t175) else ((laws_eqSketch.f kj24 t175 t162).bind fun t193 => (if t193 = true then (laws_FnExactSketchJoin.j1 kj24 t165 (t178 != t165) l0_0 l1_0 t162 t175) else (laws_FnExactSketchJoin.j1 kj24 t165 true l0_0 l1_0 t162 t175)))))) else (some false)))) else (some false))) = some r := H
      have A99 := Aside0.mk A990
      clear A990
      replace H := Option.bind_eq_some_iff.mp H
      obtain ⟨t184, A1000, H⟩ := H
      replace H : (if t184 = true then ((laws_toSketch.f kj24 l1_0).bind fun t185 => ((laws_eqSketch.f kj24 t171 t185).bind fun t188 => (if t188 = true then ((laws_markSketch.f kj24 t167 1).bind fun bt189 => ((laws_markSketch.f kj24 t171 bt189.1).bind fun bt191 => (if bt191.1 < 0 then (laws_FnExactSketchJoin.j1 kj24 t165 true l0_0 l1_0 t162 t175) else ((laws_eqSketch.f kj24 t175 t162).bind fun t193 => (if t193 = true then (laws_FnExactSketchJoin.j1 kj24 t165 (t178 != t165) l0_0 l1_0 t162 t175) else (laws_FnExactSketchJoin.j1 kj24 t165 true l0_0 l1_0 t162 t175)))))) else (some false)))) else (some false)) = some r := H
      have A100 := Aside0.mk A1000
      clear A1000
      by_cases c101 : t184 = true
      ·
       subst c101
       have H1 : ((laws_toSketch.f kj24 l1_0).bind fun t185 => ((laws_eqSketch.f kj24 t171 t185).bind fun t188 => (if t188 = true then ((laws_markSketch.f kj24 t167 1).bind fun bt189 => ((laws_markSketch.f kj24 t171 bt189.1).bind fun bt191 => (if bt191.1 < 0 then (laws_FnExactSketchJoin.j1 kj24 t165 true l0_0 l1_0 t162 t175) else ((laws_eqSketch.f kj24 t175 t162).bind fun t193 => (if t193 = true then (laws_FnExactSketchJoin.j1 kj24 t165 (t178 != t165) l0_0 l1_0 t162 t175) else (laws_FnExactSketchJoin.j1 kj24 t165 true l0_0 l1_0 t162 t175)))))) else (some false)))) = some r := by rw [if_pos rfl] at H; exact H
       clear H
       have H := H1
       clear H1
       replace H := Option.bind_eq_some_iff.mp H
       obtain ⟨t185, A1020, H⟩ := H
       replace H : ((laws_eqSketch.f kj24 t171 t185).bind fun t188 => (if t188 = true then ((laws_markSketch.f kj24 t167 1).bind fun bt189 => ((laws_markSketch.f kj24 t171 bt189.1).bind fun bt191 => (if bt191.1 < 0 then (laws_FnExactSketchJoin.j1 kj24 t165 true l0_0 l1_0 t162 t175) else ((laws_eqSketch.f kj24 t175 t162).bind fun t193 => (if t193 = true then (laws_FnExactSketchJoin.j1 kj24 t165 (t178 != t165) l0_0 l1_0 t162 t175) else (laws_FnExactSketchJoin.j1 kj24 t165 true l0_0 l1_0 t162 t175)))))) else (some false))) = some r := H
       have A102 := Aside0.mk A1020
       clear A1020
       replace H := Option.bind_eq_some_iff.mp H
       obtain ⟨t188, A1030, H⟩ := H
       replace H : (if t188 = true then ((laws_markSketch.f kj24 t167 1).bind fun bt189 => ((laws_markSketch.f kj24 t171 bt189.1).bind fun bt191 => (if bt191.1 < 0 then (laws_FnExactSketchJoin.j1 kj24 t165 true l0_0 l1_0 t162 t175) else ((laws_eqSketch.f kj24 t175 t162).bind fun t193 => (if t193 = true then (laws_FnExactSketchJoin.j1 kj24 t165 (t178 != t165) l0_0 l1_0 t162 t175) else (laws_FnExactSketchJoin.j1 kj24 t165 true l0_0 l1_0 t162 t175)))))) else (some false)) = some r := H
       have A103 := Aside0.mk A1030
       clear A1030
       by_cases c104 : t188 = true
       ·
        subst c104
        have H1 : ((laws_markSketch.f kj24 t167 1).bind fun bt189 => ((laws_markSketch.f kj24 t171 bt189.1).bind fun bt191 => (if bt191.1 < 0 then (laws_FnExactSketchJoin.j1 kj24 t165 true l0_0 l1_0 t162 t175) else ((laws_eqSketch.f kj24 t175 t162).bind fun t193 => (if t193 = true then (laws_FnExactSketchJoin.j1 kj24 t165 (t178 != t165) l0_0 l1_0 t162 t175) else (laws_FnExactSketchJoin.j1 kj24 t165 true l0_0 l1_0 t162 t175)))))) = some r := by rw [if_pos rfl] at H; exact H
        clear H
        have H := H1
        clear H1
        replace H := Option.bind_eq_some_iff.mp H
        obtain ⟨⟨t189, t190⟩, A1050, H⟩ := H
        replace H : ((laws_markSketch.f kj24 t171 t189).bind fun bt191 => (if bt191.1 < 0 then (laws_FnExactSketchJoin.j1 kj24 t165 true l0_0 l1_0 t162 t175) else ((laws_eqSketch.f kj24 t175 t162).bind fun t193 => (if t193 = true then (laws_FnExactSketchJoin.j1 kj24 t165 (t178 != t165) l0_0 l1_0 t162 t175) else (laws_FnExactSketchJoin.j1 kj24 t165 true l0_0 l1_0 t162 t175))))) = some r := H
        have A105 := Aside0.mk A1050
        clear A1050
        replace H := Option.bind_eq_some_iff.mp H
        obtain ⟨⟨t191, t192⟩, A1060, H⟩ := H
        replace H : (if t191 < 0 then (laws_FnExactSketchJoin.j1 kj24 t165 true l0_0 l1_0 t162 t175) else ((laws_eqSketch.f kj24 t175 t162).bind fun t193 => (if t193 = true then (laws_FnExactSketchJoin.j1 kj24 t165 (t178 != t165) l0_0 l1_0 t162 t175) else (laws_FnExactSketchJoin.j1 kj24 t165 true l0_0 l1_0 t162 t175)))) = some r := H
        have A106 := Aside0.mk A1060
        clear A1060
        have HC107 := Aside0.mk H
        clear H
        try go_wp2
        have n0_ := Aside0.mk (Kd.R_drew HO_167000.out)
        have n1_ := Aside0.mk (Kd.R_drew HO_171000.out)
        have n2_ := Aside0.mk (Kd.R_drew HO_175000.out)
        have n3_ := Aside0.mk (Kd.R_drew HO_180000.out)
        have n4_ := Aside0.mk (blk_drew BK152.out)
        have n5_ := Aside0.mk (blk_drew BK153.out)
        have n6_ := Aside0.mk (blk_drew BK166.out)
        have n7_ := Aside0.mk (blk_drew BK170.out)
        have n8_ := Aside0.mk (blk_drew BK174.out)
        have n9_ := Aside0.mk (blk_drew BK179.out)
        have n10_ := Aside0.mk (below_drew1 HB.out)
        clear HO_167000
        clear HO_171000
        clear HO_175000
        clear HO_180000
        clear BK152
        clear BK153
        clear BK166
        clear BK170
        clear BK174
        clear BK179
        clear HB
        have HO_167000 := n0_
        have HO_171000 := n1_
        have HO_175000 := n2_
        have HO_180000 := n3_
        have BK152 := n4_
        have BK153 := n5_
        have BK166 := n6_
        have BK170 := n7_
        have BK174 := n8_
        have BK179 := n9_
        have HB := n10_
        clear n0_ n1_ n2_ n3_ n4_ n5_ n6_ n7_ n8_ n9_ n10_
        refine start_ (n := 5) (S := fun w' => w'.cell? ⟨gb170, 0, none⟩ = some (.slice Ao47 t167.length co47) ∧ w'.cell? ⟨gb152, 0, none⟩ = some (.slice A0_0 l0_0.length c0_0)) (ds := []) #[false, false, false, false, false] (by kernel_rfl) rfl rfl ⟨(blk_cell BK170.out 0).trans rfl, (blk_cell BK152.out 0).trans rfl⟩ (fun hHeld => ?_)
        generalize wc.drew = w108 at HO_167000 HO_171000 HO_175000 HO_180000 BK152 BK153 BK166 BK170 BK174 BK179 HB hHeld ⊢
        refine take_ (i := 0) (N := some 54) (v := ?_) (a' := ?_) #[true, false, false, false, false] rfl rfl (by kernel_rfl) (fun _ _ _ h => h) (Or.inl ⟨by rfl, ?_⟩) hHeld ?_ ?_
        rotate_left
        ·
         rintro w' ⟨s0, s1⟩
         go_simp
         with_reducible rfl
        rotate_left
        ·
         simp only [Act.put, List.setIfInBounds_toArray, List.set_cons_zero, List.set_cons_succ, i64_w, i32_w]
         rfl
        refine take_ (i := 1) (N := some 55) (v := ?_) (a' := ?_) #[true, true, false, false, false] rfl rfl (by kernel_rfl) (fun _ _ _ h => h) (Or.inl ⟨by rfl, ?_⟩) hHeld ?_ ?_
        rotate_left
        ·
         rintro w' ⟨s0, s1⟩
         go_simp
         with_reducible rfl
        rotate_left
        ·
         simp only [Act.put, List.setIfInBounds_toArray, List.set_cons_zero, List.set_cons_succ, i64_w, i32_w]
         rfl
        refine one_ (i := 2) (N := some 56) #[true, true, true, false, false] rfl rfl (by kernel_rfl) (by decide) (fun K hK => ?_)
        refine goes_ Try.func11 (by kernel_rfl) rfl #[.agg #[.slice A0_0 l0_0.length c0_0]] (by rfl) rfl rfl (by (try simp only [List.map_toArray, List.map_cons, List.map_nil]); first | done | rfl | (simp only [List.length_drop, List.length_take]; rfl)) ?_
        with_reducible refine (laws_toSketch.calls kj24 _ _ l0_0 t181 _ ?side1 ?side2 A99.out).mono ?_
        (case side1 => repeat (first | exact (Kd.C_below HR0_0.out HB.out) | (with_reducible refine Kd.C_alloc ?_ _) | (with_reducible refine Kd.C_drewN ?_ _) | (with_reducible refine Kd.C_drew ?_)))
        (case side2 => exact HC0_0.out)
        rintro e w109 ⟨v182, rfl, ho0, hb⟩
        refine ⟨_, rfl, ?_⟩
        have n0_ := Aside0.mk (Kd.R_elder' (by (with_reducible repeat (first | apply zrA | apply zrN | apply zrD)); exact HO_167000.out) (Kd.R_base ho0) hb)
        have n1_ := Aside0.mk (Kd.R_elder' (by (with_reducible repeat (first | apply zrA | apply zrN | apply zrD)); exact HO_171000.out) (Kd.R_base ho0) hb)
        have n2_ := Aside0.mk (Kd.R_elder' (by (with_reducible repeat (first | apply zrA | apply zrN | apply zrD)); exact HO_175000.out) (Kd.R_base ho0) hb)
        have n3_ := Aside0.mk (Kd.R_elder' (by (with_reducible repeat (first | apply zrA | apply zrN | apply zrD)); exact HO_180000.out) (Kd.R_base ho0) hb)
        have n4_ := Aside0.mk (Kd.R_lower (Kd.R_new' (Kd.R_new' (Kd.R_new' (Kd.R_new' ho0 (Kd.R_lt (by (with_reducible repeat (first | apply zrA | apply zrN | apply zrD)); exact HO_167000.out))) (Kd.R_lt (by (with_reducible repeat (first | apply zrA | apply zrN | apply zrD)); exact HO_171000.out))) (Kd.R_lt (by (with_reducible repeat (first | apply zrA | apply zrN | apply zrD)); exact HO_175000.out))) (Kd.R_lt (by (with_reducible repeat (first | apply zrA | apply zrN | apply zrD)); exact HO_180000.out))) (below_size (by repeat (first | (with_reducible first | exact HB.out | apply zwA | apply zwN | apply zwD | refine below_set ?_ GE152.out | refine below_set ?_ GE153.out | refine below_set ?_ GE166.out | refine below_set ?_ GE170.out | refine below_set ?_ GE174.out | refine below_set ?_ GE179.out) | exact HB.out))))
        have n5_ := Aside0.mk (blk_below (g := gb152) (o := .cells #[.slice A0_0 l0_0.length c0_0] 24 (0, 0)) (by (with_reducible repeat (first | refine zbN ?_ _ | refine zbD ?_ | refine zbA ?_ _)); exact BK152.out) hb)
        have n6_ := Aside0.mk (blk_below (g := gb153) (o := .cells #[.slice A1_0 l1_0.length c1_0] 24 (0, 0)) (by (with_reducible repeat (first | refine zbN ?_ _ | refine zbD ?_ | refine zbA ?_ _)); exact BK153.out) hb)
        have n7_ := Aside0.mk (blk_below (g := gb166) (o := .cells #[.slice Ao41 t162.length co41] 26 (0, 0)) (by (with_reducible repeat (first | refine zbN ?_ _ | refine zbD ?_ | refine zbA ?_ _)); exact BK166.out) hb)
        have n8_ := Aside0.mk (blk_below (g := gb170) (o := .cells #[.slice Ao47 t167.length co47] 26 (0, 0)) (by (with_reducible repeat (first | refine zbN ?_ _ | refine zbD ?_ | refine zbA ?_ _)); exact BK170.out) hb)
        have n9_ := Aside0.mk (blk_below (g := gb174) (o := .cells #[.slice Ao56 t171.length co56] 26 (0, 0)) (by (with_reducible repeat (first | refine zbN ?_ _ | refine zbD ?_ | refine zbA ?_ _)); exact BK174.out) hb)
        have n10_ := Aside0.mk (blk_below (g := gb179) (o := .cells #[.slice Ao65 t175.length co65] 26 (0, 0)) (by (with_reducible repeat (first | refine zbN ?_ _ | refine zbD ?_ | refine zbA ?_ _)); exact BK179.out) hb)
        have n11_ := Aside0.mk (below_step (by repeat (first | (with_reducible first | exact HB.out | apply zwA | apply zwN | apply zwD | refine below_set ?_ GE152.out | refine below_set ?_ GE153.out | refine below_set ?_ GE166.out | refine below_set ?_ GE170.out | refine below_set ?_ GE174.out | refine below_set ?_ GE179.out) | exact HB.out)) hb)
        clear HO_167000
        clear HO_171000
        clear HO_175000
        clear HO_180000
        clear BK152
        clear BK153
        clear BK166
        clear BK170
        clear BK174
        clear BK179
        clear HB
        have HO_167000 := n0_
        have HO_171000 := n1_
        have HO_175000 := n2_
        have HO_180000 := n3_
        have HO183 := n4_
        have BK152 := n5_
        have BK153 := n6_
        have BK166 := n7_
        have BK170 := n8_
        have BK174 := n9_
        have BK179 := n10_
        have HB := n11_
        clear n0_ n1_ n2_ n3_ n4_ n5_ n6_ n7_ n8_ n9_ n10_ n11_
        (try clear hb)
        (try clear hb2)
        (try clear hk)
        (try clear hi)
        (try clear ho0)
        obtain ⟨Ao110, co110, eo110⟩ := Kd.R_slice HO183.out
        (first | subst eo110 | (injection eo110 with f1_ f2_ f3_; have f4_ := f1_.symm; have f5_ := f3_.symm; clear f1_ f2_ f3_; subst f4_; subst f5_))
        refine hK.out _ _ ⟨(blk_cell BK170.out 0).trans rfl, (blk_cell BK152.out 0).trans rfl⟩ (fun hHeld => ?_)
        clear hK K
        refine norm_ (a' := ?_) ?_ ?_
        rotate_left
        ·
         show Act.put _ (some 56) _ = _
         simp only [Act.put, List.setIfInBounds_toArray, List.set_cons_zero, List.set_cons_succ, i64_w, i32_w]
         rfl
        refine one_ (i := 3) (N := some 57) #[true, true, true, true, false] rfl rfl (by kernel_rfl) (by decide) (fun K hK => ?_)
        refine goes_ Try.func13 (by kernel_rfl) rfl #[.agg #[.slice Ao47 t167.length co47], .agg #[.slice Ao110 t181.length co110]] (by rfl) rfl rfl (by (try simp only [List.map_toArray, List.map_cons, List.map_nil]); first | done | rfl | (simp only [List.length_drop, List.length_take]; rfl)) ?_
        with_reducible refine (laws_eqSketch.calls kj24 _ _ t167 _ _ t181 true _ ?side1 ?side2 ?side3 ?side4 A100.out).mono ?_
        (case side1 => repeat (first | exact (Kd.R_reads' HO_171000.out).2.2 | (with_reducible refine Kd.C_alloc ?_ _) | (with_reducible refine Kd.C_drewN ?_ _) | (with_reducible refine Kd.C_drew ?_)))
        (case side2 => exact (Kd.R_reads' HO_171000.out).2.1)
        (case side3 => repeat (first | exact (Kd.R_reads' HO183.out).2.2 | (with_reducible refine Kd.C_alloc ?_ _) | (with_reducible refine Kd.C_drewN ?_ _) | (with_reducible refine Kd.C_drew ?_)))
        (case side4 => exact (Kd.R_reads' HO183.out).2.1)
        rintro e w111 ⟨rfl, hb⟩
        refine ⟨_, rfl, ?_⟩
        have n0_ := Aside0.mk (Kd.R_below (by (with_reducible repeat (first | apply zrA | apply zrN | apply zrD)); exact HO_167000.out) hb)
        have n1_ := Aside0.mk (Kd.R_below (by (with_reducible repeat (first | apply zrA | apply zrN | apply zrD)); exact HO_171000.out) hb)
        have n2_ := Aside0.mk (Kd.R_below (by (with_reducible repeat (first | apply zrA | apply zrN | apply zrD)); exact HO_175000.out) hb)
        have n3_ := Aside0.mk (Kd.R_below (by (with_reducible repeat (first | apply zrA | apply zrN | apply zrD)); exact HO_180000.out) hb)
        have n4_ := Aside0.mk (Kd.R_below (by (with_reducible repeat (first | apply zrA | apply zrN | apply zrD)); exact HO183.out) hb)
        have n5_ := Aside0.mk (blk_below (g := gb152) (o := .cells #[.slice A0_0 l0_0.length c0_0] 24 (0, 0)) (by (with_reducible repeat (first | refine zbN ?_ _ | refine zbD ?_ | refine zbA ?_ _)); exact BK152.out) hb)
        have n6_ := Aside0.mk (blk_below (g := gb153) (o := .cells #[.slice A1_0 l1_0.length c1_0] 24 (0, 0)) (by (with_reducible repeat (first | refine zbN ?_ _ | refine zbD ?_ | refine zbA ?_ _)); exact BK153.out) hb)
        have n7_ := Aside0.mk (blk_below (g := gb166) (o := .cells #[.slice Ao41 t162.length co41] 26 (0, 0)) (by (with_reducible repeat (first | refine zbN ?_ _ | refine zbD ?_ | refine zbA ?_ _)); exact BK166.out) hb)
        have n8_ := Aside0.mk (blk_below (g := gb170) (o := .cells #[.slice Ao47 t167.length co47] 26 (0, 0)) (by (with_reducible repeat (first | refine zbN ?_ _ | refine zbD ?_ | refine zbA ?_ _)); exact BK170.out) hb)
        have n9_ := Aside0.mk (blk_below (g := gb174) (o := .cells #[.slice Ao56 t171.length co56] 26 (0, 0)) (by (with_reducible repeat (first | refine zbN ?_ _ | refine zbD ?_ | refine zbA ?_ _)); exact BK174.out) hb)
        have n10_ := Aside0.mk (blk_below (g := gb179) (o := .cells #[.slice Ao65 t175.length co65] 26 (0, 0)) (by (with_reducible repeat (first | refine zbN ?_ _ | refine zbD ?_ | refine zbA ?_ _)); exact BK179.out) hb)
        have n11_ := Aside0.mk (below_step (by repeat (first | (with_reducible first | exact HB.out | apply zwA | apply zwN | apply zwD | refine below_set ?_ GE152.out | refine below_set ?_ GE153.out | refine below_set ?_ GE166.out | refine below_set ?_ GE170.out | refine below_set ?_ GE174.out | refine below_set ?_ GE179.out) | exact HB.out)) hb)
        clear HO_167000
        clear HO_171000
        clear HO_175000
        clear HO_180000
        clear HO183
        clear BK152
        clear BK153
        clear BK166
        clear BK170
        clear BK174
        clear BK179
        clear HB
        have HO_167000 := n0_
        have HO_171000 := n1_
        have HO_175000 := n2_
        have HO_180000 := n3_
        have HO183 := n4_
        have BK152 := n5_
        have BK153 := n6_
        have BK166 := n7_
        have BK170 := n8_
        have BK174 := n9_
        have BK179 := n10_
        have HB := n11_
        clear n0_ n1_ n2_ n3_ n4_ n5_ n6_ n7_ n8_ n9_ n10_ n11_
        (try clear hb)
        (try clear hb2)
        (try clear hk)
        (try clear hi)
        refine hK.out _ _ ⟨(blk_cell BK170.out 0).trans rfl, (blk_cell BK152.out 0).trans rfl⟩ (fun hHeld => ?_)
        clear hK K
        refine norm_ (a' := ?_) ?_ ?_
        rotate_left
        ·
         show Act.put _ (some 57) _ = _
         simp only [Act.put, List.setIfInBounds_toArray, List.set_cons_zero, List.set_cons_succ, i64_w, i32_w]
         rfl
        refine pure_ (i := 4) (N := some 58) (v := ?_) (a' := ?_) #[true, true, true, true, true] rfl rfl (by kernel_rfl) (fun _ _ _ h => h) (Or.inl ⟨by rfl, ?_⟩) ?_ ?_
        rotate_left
        ·
         intro w'
         go_simp
         with_reducible rfl
        rotate_left
        ·
         simp only [Act.put, List.setIfInBounds_toArray, List.set_cons_zero, List.set_cons_succ, i64_w, i32_w]
         rfl
        refine done_ (by kernel_rfl) ?_
        try go_wp2
        have n0_ := Aside0.mk (Kd.R_drew HO_167000.out)
        have n1_ := Aside0.mk (Kd.R_drew HO_171000.out)
        have n2_ := Aside0.mk (Kd.R_drew HO_175000.out)
        have n3_ := Aside0.mk (Kd.R_drew HO_180000.out)
        have n4_ := Aside0.mk (Kd.R_drew HO183.out)
        have n5_ := Aside0.mk (blk_drew BK152.out)
        have n6_ := Aside0.mk (blk_drew BK153.out)
        have n7_ := Aside0.mk (blk_drew BK166.out)
        have n8_ := Aside0.mk (blk_drew BK170.out)
        have n9_ := Aside0.mk (blk_drew BK174.out)
        have n10_ := Aside0.mk (blk_drew BK179.out)
        have n11_ := Aside0.mk (below_drew1 HB.out)
        clear HO_167000
        clear HO_171000
        clear HO_175000
        clear HO_180000
        clear HO183
        clear BK152
        clear BK153
        clear BK166
        clear BK170
        clear BK174
        clear BK179
        clear HB
        have HO_167000 := n0_
        have HO_171000 := n1_
        have HO_175000 := n2_
        have HO_180000 := n3_
        have HO183 := n4_
        have BK152 := n5_
        have BK153 := n6_
        have BK166 := n7_
        have BK170 := n8_
        have BK174 := n9_
        have BK179 := n10_
        have HB := n11_
        clear n0_ n1_ n2_ n3_ n4_ n5_ n6_ n7_ n8_ n9_ n10_ n11_
        refine start_ (n := 5) (S := fun w' => w'.cell? ⟨gb174, 0, none⟩ = some (.slice Ao56 t171.length co56) ∧ w'.cell? ⟨gb153, 0, none⟩ = some (.slice A1_0 l1_0.length c1_0)) (ds := []) #[false, false, false, false, false] (by kernel_rfl) rfl rfl ⟨(blk_cell BK174.out 0).trans rfl, (blk_cell BK153.out 0).trans rfl⟩ (fun hHeld => ?_)
        generalize w111.drew = w112 at HO_167000 HO_171000 HO_175000 HO_180000 HO183 BK152 BK153 BK166 BK170 BK174 BK179 HB hHeld ⊢
        refine take_ (i := 0) (N := some 59) (v := ?_) (a' := ?_) #[true, false, false, false, false] rfl rfl (by kernel_rfl) (fun _ _ _ h => h) (Or.inl ⟨by rfl, ?_⟩) hHeld ?_ ?_
        rotate_left
        ·
         rintro w' ⟨s0, s1⟩
         go_simp
         with_reducible rfl
        rotate_left
        ·
         simp only [Act.put, List.setIfInBounds_toArray, List.set_cons_zero, List.set_cons_succ, i64_w, i32_w]
         rfl
        refine take_ (i := 1) (N := some 60) (v := ?_) (a' := ?_) #[true, true, false, false, false] rfl rfl (by kernel_rfl) (fun _ _ _ h => h) (Or.inl ⟨by rfl, ?_⟩) hHeld ?_ ?_
        rotate_left
        ·
         rintro w' ⟨s0, s1⟩
         go_simp
         with_reducible rfl
        rotate_left
        ·
         simp only [Act.put, List.setIfInBounds_toArray, List.set_cons_zero, List.set_cons_succ, i64_w, i32_w]
         rfl
        refine one_ (i := 2) (N := some 61) #[true, true, true, false, false] rfl rfl (by kernel_rfl) (by decide) (fun K hK => ?_)
        refine goes_ Try.func11 (by kernel_rfl) rfl #[.agg #[.slice A1_0 l1_0.length c1_0]] (by rfl) rfl rfl (by (try simp only [List.map_toArray, List.map_cons, List.map_nil]); first | done | rfl | (simp only [List.length_drop, List.length_take]; rfl)) ?_
        with_reducible refine (laws_toSketch.calls kj24 _ _ l1_0 t185 _ ?side1 ?side2 A102.out).mono ?_
        (case side1 => repeat (first | exact (Kd.C_below HR1_0.out HB.out) | (with_reducible refine Kd.C_alloc ?_ _) | (with_reducible refine Kd.C_drewN ?_ _) | (with_reducible refine Kd.C_drew ?_)))
        (case side2 => exact HC1_0.out)
        rintro e w113 ⟨v186, rfl, ho0, hb⟩
        refine ⟨_, rfl, ?_⟩
        have n0_ := Aside0.mk (Kd.R_elder' (by (with_reducible repeat (first | apply zrA | apply zrN | apply zrD)); exact HO_167000.out) (Kd.R_base ho0) hb)
        have n1_ := Aside0.mk (Kd.R_elder' (by (with_reducible repeat (first | apply zrA | apply zrN | apply zrD)); exact HO_171000.out) (Kd.R_base ho0) hb)
        have n2_ := Aside0.mk (Kd.R_elder' (by (with_reducible repeat (first | apply zrA | apply zrN | apply zrD)); exact HO_175000.out) (Kd.R_base ho0) hb)
        have n3_ := Aside0.mk (Kd.R_elder' (by (with_reducible repeat (first | apply zrA | apply zrN | apply zrD)); exact HO_180000.out) (Kd.R_base ho0) hb)
        have n4_ := Aside0.mk (Kd.R_elder' (by (with_reducible repeat (first | apply zrA | apply zrN | apply zrD)); exact HO183.out) (Kd.R_base ho0) hb)
        have n5_ := Aside0.mk (Kd.R_lower (Kd.R_new' (Kd.R_new' (Kd.R_new' (Kd.R_new' (Kd.R_new' ho0 (Kd.R_lt (by (with_reducible repeat (first | apply zrA | apply zrN | apply zrD)); exact HO_167000.out))) (Kd.R_lt (by (with_reducible repeat (first | apply zrA | apply zrN | apply zrD)); exact HO_171000.out))) (Kd.R_lt (by (with_reducible repeat (first | apply zrA | apply zrN | apply zrD)); exact HO_175000.out))) (Kd.R_lt (by (with_reducible repeat (first | apply zrA | apply zrN | apply zrD)); exact HO_180000.out))) (Kd.R_lt (by (with_reducible repeat (first | apply zrA | apply zrN | apply zrD)); exact HO183.out))) (below_size (by repeat (first | (with_reducible first | exact HB.out | apply zwA | apply zwN | apply zwD | refine below_set ?_ GE152.out | refine below_set ?_ GE153.out | refine below_set ?_ GE166.out | refine below_set ?_ GE170.out | refine below_set ?_ GE174.out | refine below_set ?_ GE179.out) | exact HB.out))))
        have n6_ := Aside0.mk (blk_below (g := gb152) (o := .cells #[.slice A0_0 l0_0.length c0_0] 24 (0, 0)) (by (with_reducible repeat (first | refine zbN ?_ _ | refine zbD ?_ | refine zbA ?_ _)); exact BK152.out) hb)
        have n7_ := Aside0.mk (blk_below (g := gb153) (o := .cells #[.slice A1_0 l1_0.length c1_0] 24 (0, 0)) (by (with_reducible repeat (first | refine zbN ?_ _ | refine zbD ?_ | refine zbA ?_ _)); exact BK153.out) hb)
        have n8_ := Aside0.mk (blk_below (g := gb166) (o := .cells #[.slice Ao41 t162.length co41] 26 (0, 0)) (by (with_reducible repeat (first | refine zbN ?_ _ | refine zbD ?_ | refine zbA ?_ _)); exact BK166.out) hb)
        have n9_ := Aside0.mk (blk_below (g := gb170) (o := .cells #[.slice Ao47 t167.length co47] 26 (0, 0)) (by (with_reducible repeat (first | refine zbN ?_ _ | refine zbD ?_ | refine zbA ?_ _)); exact BK170.out) hb)
        have n10_ := Aside0.mk (blk_below (g := gb174) (o := .cells #[.slice Ao56 t171.length co56] 26 (0, 0)) (by (with_reducible repeat (first | refine zbN ?_ _ | refine zbD ?_ | refine zbA ?_ _)); exact BK174.out) hb)
        have n11_ := Aside0.mk (blk_below (g := gb179) (o := .cells #[.slice Ao65 t175.length co65] 26 (0, 0)) (by (with_reducible repeat (first | refine zbN ?_ _ | refine zbD ?_ | refine zbA ?_ _)); exact BK179.out) hb)
        have n12_ := Aside0.mk (below_step (by repeat (first | (with_reducible first | exact HB.out | apply zwA | apply zwN | apply zwD | refine below_set ?_ GE152.out | refine below_set ?_ GE153.out | refine below_set ?_ GE166.out | refine below_set ?_ GE170.out | refine below_set ?_ GE174.out | refine below_set ?_ GE179.out) | exact HB.out)) hb)
        clear HO_167000
        clear HO_171000
        clear HO_175000
        clear HO_180000
        clear HO183
        clear BK152
        clear BK153
        clear BK166
        clear BK170
        clear BK174
        clear BK179
        clear HB
        have HO_167000 := n0_
        have HO_171000 := n1_
        have HO_175000 := n2_
        have HO_180000 := n3_
        have HO183 := n4_
        have HO187 := n5_
        have BK152 := n6_
        have BK153 := n7_
        have BK166 := n8_
        have BK170 := n9_
        have BK174 := n10_
        have BK179 := n11_
        have HB := n12_
        clear n0_ n1_ n2_ n3_ n4_ n5_ n6_ n7_ n8_ n9_ n10_ n11_ n12_
        (try clear hb)
        (try clear hb2)
        (try clear hk)
        (try clear hi)
        (try clear ho0)
        obtain ⟨Ao114, co114, eo114⟩ := Kd.R_slice HO187.out
        (first | subst eo114 | (injection eo114 with f1_ f2_ f3_; have f4_ := f1_.symm; have f5_ := f3_.symm; clear f1_ f2_ f3_; subst f4_; subst f5_))
        refine hK.out _ _ ⟨(blk_cell BK174.out 0).trans rfl, (blk_cell BK153.out 0).trans rfl⟩ (fun hHeld => ?_)
        clear hK K
        refine norm_ (a' := ?_) ?_ ?_
        rotate_left
        ·
         show Act.put _ (some 61) _ = _
         simp only [Act.put, List.setIfInBounds_toArray, List.set_cons_zero, List.set_cons_succ, i64_w, i32_w]
         rfl
        refine one_ (i := 3) (N := some 62) #[true, true, true, true, false] rfl rfl (by kernel_rfl) (by decide) (fun K hK => ?_)
        refine goes_ Try.func13 (by kernel_rfl) rfl #[.agg #[.slice Ao56 t171.length co56], .agg #[.slice Ao114 t185.length co114]] (by rfl) rfl rfl (by (try simp only [List.map_toArray, List.map_cons, List.map_nil]); first | done | rfl | (simp only [List.length_drop, List.length_take]; rfl)) ?_
        with_reducible refine (laws_eqSketch.calls kj24 _ _ t171 _ _ t185 true _ ?side1 ?side2 ?side3 ?side4 A103.out).mono ?_
        (case side1 => repeat (first | exact (Kd.R_reads' HO_175000.out).2.2 | (with_reducible refine Kd.C_alloc ?_ _) | (with_reducible refine Kd.C_drewN ?_ _) | (with_reducible refine Kd.C_drew ?_)))
        (case side2 => exact (Kd.R_reads' HO_175000.out).2.1)
        (case side3 => repeat (first | exact (Kd.R_reads' HO187.out).2.2 | (with_reducible refine Kd.C_alloc ?_ _) | (with_reducible refine Kd.C_drewN ?_ _) | (with_reducible refine Kd.C_drew ?_)))
        (case side4 => exact (Kd.R_reads' HO187.out).2.1)
        rintro e w115 ⟨rfl, hb⟩
        refine ⟨_, rfl, ?_⟩
        have n0_ := Aside0.mk (Kd.R_below (by (with_reducible repeat (first | apply zrA | apply zrN | apply zrD)); exact HO_167000.out) hb)
        have n1_ := Aside0.mk (Kd.R_below (by (with_reducible repeat (first | apply zrA | apply zrN | apply zrD)); exact HO_171000.out) hb)
        have n2_ := Aside0.mk (Kd.R_below (by (with_reducible repeat (first | apply zrA | apply zrN | apply zrD)); exact HO_175000.out) hb)
        have n3_ := Aside0.mk (Kd.R_below (by (with_reducible repeat (first | apply zrA | apply zrN | apply zrD)); exact HO_180000.out) hb)
        have n4_ := Aside0.mk (Kd.R_below (by (with_reducible repeat (first | apply zrA | apply zrN | apply zrD)); exact HO183.out) hb)
        have n5_ := Aside0.mk (Kd.R_below (by (with_reducible repeat (first | apply zrA | apply zrN | apply zrD)); exact HO187.out) hb)
        have n6_ := Aside0.mk (blk_below (g := gb152) (o := .cells #[.slice A0_0 l0_0.length c0_0] 24 (0, 0)) (by (with_reducible repeat (first | refine zbN ?_ _ | refine zbD ?_ | refine zbA ?_ _)); exact BK152.out) hb)
        have n7_ := Aside0.mk (blk_below (g := gb153) (o := .cells #[.slice A1_0 l1_0.length c1_0] 24 (0, 0)) (by (with_reducible repeat (first | refine zbN ?_ _ | refine zbD ?_ | refine zbA ?_ _)); exact BK153.out) hb)
        have n8_ := Aside0.mk (blk_below (g := gb166) (o := .cells #[.slice Ao41 t162.length co41] 26 (0, 0)) (by (with_reducible repeat (first | refine zbN ?_ _ | refine zbD ?_ | refine zbA ?_ _)); exact BK166.out) hb)
        have n9_ := Aside0.mk (blk_below (g := gb170) (o := .cells #[.slice Ao47 t167.length co47] 26 (0, 0)) (by (with_reducible repeat (first | refine zbN ?_ _ | refine zbD ?_ | refine zbA ?_ _)); exact BK170.out) hb)
        have n10_ := Aside0.mk (blk_below (g := gb174) (o := .cells #[.slice Ao56 t171.length co56] 26 (0, 0)) (by (with_reducible repeat (first | refine zbN ?_ _ | refine zbD ?_ | refine zbA ?_ _)); exact BK174.out) hb)
        have n11_ := Aside0.mk (blk_below (g := gb179) (o := .cells #[.slice Ao65 t175.length co65] 26 (0, 0)) (by (with_reducible repeat (first | refine zbN ?_ _ | refine zbD ?_ | refine zbA ?_ _)); exact BK179.out) hb)
        have n12_ := Aside0.mk (below_step (by repeat (first | (with_reducible first | exact HB.out | apply zwA | apply zwN | apply zwD | refine below_set ?_ GE152.out | refine below_set ?_ GE153.out | refine below_set ?_ GE166.out | refine below_set ?_ GE170.out | refine below_set ?_ GE174.out | refine below_set ?_ GE179.out) | exact HB.out)) hb)
        clear HO_167000
        clear HO_171000
        clear HO_175000
        clear HO_180000
        clear HO183
        clear HO187
        clear BK152
        clear BK153
        clear BK166
        clear BK170
        clear BK174
        clear BK179
        clear HB
        have HO_167000 := n0_
        have HO_171000 := n1_
        have HO_175000 := n2_
        have HO_180000 := n3_
        have HO183 := n4_
        have HO187 := n5_
        have BK152 := n6_
        have BK153 := n7_
        have BK166 := n8_
        have BK170 := n9_
        have BK174 := n10_
        have BK179 := n11_
        have HB := n12_
        clear n0_ n1_ n2_ n3_ n4_ n5_ n6_ n7_ n8_ n9_ n10_ n11_ n12_
        (try clear hb)
        (try clear hb2)
        (try clear hk)
        (try clear hi)
        refine hK.out _ _ ⟨(blk_cell BK174.out 0).trans rfl, (blk_cell BK153.out 0).trans rfl⟩ (fun hHeld => ?_)
        clear hK K
        refine norm_ (a' := ?_) ?_ ?_
        rotate_left
        ·
         show Act.put _ (some 62) _ = _
         simp only [Act.put, List.setIfInBounds_toArray, List.set_cons_zero, List.set_cons_succ, i64_w, i32_w]
         rfl
        refine pure_ (i := 4) (N := some 63) (v := ?_) (a' := ?_) #[true, true, true, true, true] rfl rfl (by kernel_rfl) (fun _ _ _ h => h) (Or.inl ⟨by rfl, ?_⟩) ?_ ?_
        rotate_left
        ·
         intro w'
         go_simp
         with_reducible rfl
        rotate_left
        ·
         simp only [Act.put, List.setIfInBounds_toArray, List.set_cons_zero, List.set_cons_succ, i64_w, i32_w]
         rfl
        refine done_ (by kernel_rfl) ?_
        have hnb116 := NB170_152.out
        have hnc116 := NB152_170.out
        have hnb117 := NB170_153.out
        have hnc117 := NB153_170.out
        have hnb118 := NB170_166.out
        have hnc118 := NB166_170.out
        have hnb119 := NB170_174.out
        have hnc119 := NB174_170.out
        have hnb120 := NB170_179.out
        have hnc120 := NB179_170.out
        have hcz121_0 : w115.cell? ⟨gb170, 0, none⟩ = some (.slice Ao47 t167.length co47) := (blk_cell BK170.out 0).trans rfl
        have hfz121_0 := blk_frozen BK170.out 0
        go_upto_region 21 with (first | ((with_reducible refine gate_callee (f := 14) rfl ?_); refine goesL_ (some 66) rfl rfl Try.func14 (by kernel_rfl) rfl #[.agg #[.slice Ao47 t167.length co47], .int .i64 1] rfl (by (try simp only [List.map_toArray, List.map_cons, List.map_nil]); first | done | rfl | (simp only [List.length_drop, List.length_take]; rfl)) ?_; (with_reducible refine (laws_markSketch.calls kj24 (fun k_ => some k_ = (.slice Ao47 t167.length co47 : Value).ownBlock) (.slice Ao47 t167.length co47) t167 1 t189 t190 w _ ?side1 ?side2 A105.out).mono ?_); (case side1 => repeat (first | (with_reducible first | exact HB.out | apply zwA | apply zwN | apply zwD | refine below_set ?_ GE152.out | refine below_set ?_ GE153.out | refine below_set ?_ GE166.out | refine below_set ?_ GE170.out | refine below_set ?_ GE174.out | refine below_set ?_ GE179.out) | exact HB.out)); (case side2 => exact Kd.R_tight rfl HO_171000.out); rintro e w122 ⟨rfl, hy0, hb, hkp⟩; refine ⟨_, rfl, ?_⟩; have n0_ := Aside0.mk (Kd.R_mono (ok' := fun k_ => some k_ ≠ (.slice Ao47 t167.length co47 : Value).ownBlock ∧ some k_ ≠ (.slice Ao56 t171.length co56 : Value).ownBlock ∧ some k_ ≠ (.slice Ao65 t175.length co65 : Value).ownBlock ∧ some k_ ≠ (.slice Ao110 t181.length co110 : Value).ownBlock ∧ some k_ ≠ (.slice Ao114 t185.length co114 : Value).ownBlock) (Kd.R_keptB (HO_167000.out) hkp (fun k_ hk_ hs_ => (hk_.1.1.1) hs_)) (fun k_ hk_ => ⟨hk_.1.1.1.1, hk_.1.1.1.2.1, hk_.1.1.1.2.2, hk_.1.1.2, hk_.1.2⟩)); have n1_ := Aside0.mk (Kd.R_reok rfl hy0 (fun k_ e_ => HO_171000.out.1 k_ e_)); have n2_ := Aside0.mk (Kd.R_mono (ok' := fun k_ => some k_ ≠ (.slice Ao41 t162.length co41 : Value).ownBlock ∧ some k_ ≠ (.slice Ao47 t167.length co47 : Value).ownBlock ∧ some k_ ≠ (.slice Ao65 t175.length co65 : Value).ownBlock ∧ some k_ ≠ (.slice Ao110 t181.length co110 : Value).ownBlock ∧ some k_ ≠ (.slice Ao114 t185.length co114 : Value).ownBlock) (Kd.R_keptB (HO_175000.out) hkp (fun k_ hk_ hs_ => (hk_.1.1.2.1) hs_)) (fun k_ hk_ => ⟨hk_.1.1.1.1, hk_.1.1.1.2.1, hk_.1.1.1.2.2, hk_.1.1.2, hk_.1.2⟩)); have n3_ := Aside0.mk (Kd.R_mono (ok' := fun k_ => some k_ ≠ (.slice Ao41 t162.length co41 : Value).ownBlock ∧ some k_ ≠ (.slice Ao47 t167.length co47 : Value).ownBlock ∧ some k_ ≠ (.slice Ao56 t171.length co56 : Value).ownBlock ∧ some k_ ≠ (.slice Ao110 t181.length co110 : Value).ownBlock ∧ some k_ ≠ (.slice Ao114 t185.length co114 : Value).ownBlock) (Kd.R_keptB (HO_180000.out) hkp (fun k_ hk_ hs_ => (hk_.1.1.2.1) hs_)) (fun k_ hk_ => ⟨hk_.1.1.1.1, hk_.1.1.1.2.1, hk_.1.1.1.2.2, hk_.1.1.2, hk_.1.2⟩)); have n4_ := Aside0.mk (blk_kept (by (with_reducible repeat (first | refine zbN ?_ _ | refine zbD ?_ | refine zbA ?_ _)); exact BK152.out) hkp (fun hs_ => (fun e_ => (Kd.R_ne HO_171000.out BK152.out (by decide)) e_) hs_)); have n5_ := Aside0.mk (blk_kept (by (with_reducible repeat (first | refine zbN ?_ _ | refine zbD ?_ | refine zbA ?_ _)); exact BK153.out) hkp (fun hs_ => (fun e_ => (Kd.R_ne HO_171000.out BK153.out (by decide)) e_) hs_)); have n6_ := Aside0.mk (blk_kept (by (with_reducible repeat (first | refine zbN ?_ _ | refine zbD ?_ | refine zbA ?_ _)); exact BK166.out) hkp (fun hs_ => (fun e_ => (Kd.R_ne HO_171000.out BK166.out (by decide)) e_) hs_)); have n7_ := Aside0.mk (blk_kept (by (with_reducible repeat (first | refine zbN ?_ _ | refine zbD ?_ | refine zbA ?_ _)); exact BK170.out) hkp (fun hs_ => (fun e_ => (Kd.R_ne HO_171000.out BK170.out (by decide)) e_) hs_)); have n8_ := Aside0.mk (blk_kept (by (with_reducible repeat (first | refine zbN ?_ _ | refine zbD ?_ | refine zbA ?_ _)); exact BK174.out) hkp (fun hs_ => (fun e_ => (Kd.R_ne HO_171000.out BK174.out (by decide)) e_) hs_)); have n9_ := Aside0.mk (blk_kept (by (with_reducible repeat (first | refine zbN ?_ _ | refine zbD ?_ | refine zbA ?_ _)); exact BK179.out) hkp (fun hs_ => (fun e_ => (Kd.R_ne HO_171000.out BK179.out (by decide)) e_) hs_)); have n10_ := Aside0.mk (Kd.R_mono (ok' := fun k_ => some k_ ≠ (.slice Ao41 t162.length co41 : Value).ownBlock ∧ some k_ ≠ (.slice Ao47 t167.length co47 : Value).ownBlock ∧ some k_ ≠ (.slice Ao56 t171.length co56 : Value).ownBlock ∧ some k_ ≠ (.slice Ao65 t175.length co65 : Value).ownBlock ∧ some k_ ≠ (.slice Ao114 t185.length co114 : Value).ownBlock) (Kd.R_keptB (HO183.out) hkp (fun k_ hk_ hs_ => (hk_.1.1.1.2) hs_)) (fun k_ hk_ => ⟨hk_.1.1.1.1.1.2, hk_.1.1.1.1.2, hk_.1.1.1.2, hk_.1.1.2, hk_.1.2⟩)); have n11_ := Aside0.mk (Kd.R_mono (ok' := fun k_ => some k_ ≠ (.slice Ao41 t162.length co41 : Value).ownBlock ∧ some k_ ≠ (.slice Ao47 t167.length co47 : Value).ownBlock ∧ some k_ ≠ (.slice Ao56 t171.length co56 : Value).ownBlock ∧ some k_ ≠ (.slice Ao65 t175.length co65 : Value).ownBlock ∧ some k_ ≠ (.slice Ao110 t181.length co110 : Value).ownBlock) (Kd.R_keptB (HO187.out) hkp (fun k_ hk_ hs_ => (hk_.1.1.1.2) hs_)) (fun k_ hk_ => ⟨hk_.1.1.1.1.1.2, hk_.1.1.1.1.2, hk_.1.1.1.2, hk_.1.1.2, hk_.1.2⟩)); have n12_ := Aside0.mk (hb); clear HO_167000; clear HO_171000; clear HO_175000; clear HO_180000; clear BK152; clear BK153; clear BK166; clear BK170; clear BK174; clear BK179; clear HO183; clear HO187; clear HB; have HO_167000 := n0_; have HO_171000 := n1_; have HO_175000 := n2_; have HO_180000 := n3_; have BK152 := n4_; have BK153 := n5_; have BK166 := n6_; have BK170 := n7_; have BK174 := n8_; have BK179 := n9_; have HO183 := n10_; have HO187 := n11_; have HB := n12_; clear n0_ n1_ n2_ n3_ n4_ n5_ n6_ n7_ n8_ n9_ n10_ n11_ n12_; (try clear hb); (try clear hkp); (try clear hy0); have hnb123 := NB174_152.out; have hnc123 := NB152_174.out; have hnb124 := NB174_153.out; have hnc124 := NB153_174.out; have hnb125 := NB174_166.out; have hnc125 := NB166_174.out; have hnb126 := NB174_179.out; have hnc126 := NB179_174.out; have hcz127_0 : w122.cell? ⟨gb174, 0, none⟩ = some (.slice Ao56 t171.length co56) := (blk_cell BK174.out 0).trans rfl; have hfz127_0 := blk_frozen BK174.out 0) | ((with_reducible refine gate_callee (f := 14) rfl ?_); refine goesL_ (some 69) rfl rfl Try.func14 (by kernel_rfl) rfl #[.agg #[.slice Ao56 t171.length co56], .int .i64 t189] rfl (by (try simp only [List.map_toArray, List.map_cons, List.map_nil]); first | done | rfl | (simp only [List.length_drop, List.length_take]; rfl)) ?_; (with_reducible refine (laws_markSketch.calls kj24 (fun k_ => some k_ = (.slice Ao56 t171.length co56 : Value).ownBlock) (.slice Ao56 t171.length co56) t171 t189 t191 t192 w _ ?side1 ?side2 A106.out).mono ?_); (case side1 => repeat (first | (with_reducible first | exact HB.out | apply zwA | apply zwN | apply zwD | refine below_set ?_ GE152.out | refine below_set ?_ GE153.out | refine below_set ?_ GE166.out | refine below_set ?_ GE170.out | refine below_set ?_ GE174.out | refine below_set ?_ GE179.out) | exact HB.out)); (case side2 => exact Kd.R_tight rfl HO_175000.out); rintro e w128 ⟨rfl, hy0, hb, hkp⟩; refine ⟨_, rfl, ?_⟩; have n0_ := Aside0.mk (Kd.R_mono (ok' := fun k_ => some k_ ≠ (.slice Ao47 t167.length co47 : Value).ownBlock ∧ some k_ ≠ (.slice Ao56 t171.length co56 : Value).ownBlock ∧ some k_ ≠ (.slice Ao65 t175.length co65 : Value).ownBlock ∧ some k_ ≠ (.slice Ao110 t181.length co110 : Value).ownBlock ∧ some k_ ≠ (.slice Ao114 t185.length co114 : Value).ownBlock) (Kd.R_keptB (HO_167000.out) hkp (fun k_ hk_ hs_ => (hk_.2.1) hs_)) (fun k_ hk_ => ⟨hk_.1.1, hk_.1.2.1, hk_.1.2.2.1, hk_.1.2.2.2.1, hk_.1.2.2.2.2⟩)); have n1_ := Aside0.mk (Kd.R_mono (ok' := fun k_ => some k_ ≠ (.slice Ao41 t162.length co41 : Value).ownBlock ∧ some k_ ≠ (.slice Ao56 t171.length co56 : Value).ownBlock ∧ some k_ ≠ (.slice Ao65 t175.length co65 : Value).ownBlock ∧ some k_ ≠ (.slice Ao110 t181.length co110 : Value).ownBlock ∧ some k_ ≠ (.slice Ao114 t185.length co114 : Value).ownBlock) (Kd.R_keptB (HO_171000.out) hkp (fun k_ hk_ hs_ => (hk_.1.1.2.1) hs_)) (fun k_ hk_ => ⟨hk_.1.1.1.1, hk_.1.1.1.2.1, hk_.1.1.1.2.2, hk_.1.1.2, hk_.1.2⟩)); have n2_ := Aside0.mk (Kd.R_reok rfl hy0 (fun k_ e_ => HO_175000.out.1 k_ e_)); have n3_ := Aside0.mk (Kd.R_mono (ok' := fun k_ => some k_ ≠ (.slice Ao41 t162.length co41 : Value).ownBlock ∧ some k_ ≠ (.slice Ao47 t167.length co47 : Value).ownBlock ∧ some k_ ≠ (.slice Ao56 t171.length co56 : Value).ownBlock ∧ some k_ ≠ (.slice Ao110 t181.length co110 : Value).ownBlock ∧ some k_ ≠ (.slice Ao114 t185.length co114 : Value).ownBlock) (Kd.R_keptB (HO_180000.out) hkp (fun k_ hk_ hs_ => (hk_.2.2.1) hs_)) (fun k_ hk_ => ⟨hk_.1.1, hk_.1.2.1, hk_.1.2.2.1, hk_.1.2.2.2.1, hk_.1.2.2.2.2⟩)); have n4_ := Aside0.mk (blk_kept (by (with_reducible repeat (first | refine zbN ?_ _ | refine zbD ?_ | refine zbA ?_ _)); exact BK152.out) hkp (fun hs_ => (fun e_ => (Kd.R_ne HO_175000.out BK152.out (by decide)) e_) hs_)); have n5_ := Aside0.mk (blk_kept (by (with_reducible repeat (first | refine zbN ?_ _ | refine zbD ?_ | refine zbA ?_ _)); exact BK153.out) hkp (fun hs_ => (fun e_ => (Kd.R_ne HO_175000.out BK153.out (by decide)) e_) hs_)); have n6_ := Aside0.mk (blk_kept (by (with_reducible repeat (first | refine zbN ?_ _ | refine zbD ?_ | refine zbA ?_ _)); exact BK166.out) hkp (fun hs_ => (fun e_ => (Kd.R_ne HO_175000.out BK166.out (by decide)) e_) hs_)); have n7_ := Aside0.mk (blk_kept (by (with_reducible repeat (first | refine zbN ?_ _ | refine zbD ?_ | refine zbA ?_ _)); exact BK170.out) hkp (fun hs_ => (fun e_ => (Kd.R_ne HO_175000.out BK170.out (by decide)) e_) hs_)); have n8_ := Aside0.mk (blk_kept (by (with_reducible repeat (first | refine zbN ?_ _ | refine zbD ?_ | refine zbA ?_ _)); exact BK174.out) hkp (fun hs_ => (fun e_ => (Kd.R_ne HO_175000.out BK174.out (by decide)) e_) hs_)); have n9_ := Aside0.mk (blk_kept (by (with_reducible repeat (first | refine zbN ?_ _ | refine zbD ?_ | refine zbA ?_ _)); exact BK179.out) hkp (fun hs_ => (fun e_ => (Kd.R_ne HO_175000.out BK179.out (by decide)) e_) hs_)); have n10_ := Aside0.mk (Kd.R_mono (ok' := fun k_ => some k_ ≠ (.slice Ao41 t162.length co41 : Value).ownBlock ∧ some k_ ≠ (.slice Ao47 t167.length co47 : Value).ownBlock ∧ some k_ ≠ (.slice Ao56 t171.length co56 : Value).ownBlock ∧ some k_ ≠ (.slice Ao65 t175.length co65 : Value).ownBlock ∧ some k_ ≠ (.slice Ao114 t185.length co114 : Value).ownBlock) (Kd.R_keptB (HO183.out) hkp (fun k_ hk_ hs_ => (hk_.2.2.1) hs_)) (fun k_ hk_ => ⟨hk_.1.1, hk_.1.2.1, hk_.1.2.2.1, hk_.1.2.2.2.1, hk_.1.2.2.2.2⟩)); have n11_ := Aside0.mk (Kd.R_mono (ok' := fun k_ => some k_ ≠ (.slice Ao41 t162.length co41 : Value).ownBlock ∧ some k_ ≠ (.slice Ao47 t167.length co47 : Value).ownBlock ∧ some k_ ≠ (.slice Ao56 t171.length co56 : Value).ownBlock ∧ some k_ ≠ (.slice Ao65 t175.length co65 : Value).ownBlock ∧ some k_ ≠ (.slice Ao110 t181.length co110 : Value).ownBlock) (Kd.R_keptB (HO187.out) hkp (fun k_ hk_ hs_ => (hk_.2.2.1) hs_)) (fun k_ hk_ => ⟨hk_.1.1, hk_.1.2.1, hk_.1.2.2.1, hk_.1.2.2.2.1, hk_.1.2.2.2.2⟩)); have n12_ := Aside0.mk (hb); clear HO_167000; clear HO_171000; clear HO_175000; clear HO_180000; clear BK152; clear BK153; clear BK166; clear BK170; clear BK174; clear BK179; clear HO183; clear HO187; clear HB; have HO_167000 := n0_; have HO_171000 := n1_; have HO_175000 := n2_; have HO_180000 := n3_; have BK152 := n4_; have BK153 := n5_; have BK166 := n6_; have BK170 := n7_; have BK174 := n8_; have BK179 := n9_; have HO183 := n10_; have HO187 := n11_; have HB := n12_; clear n0_ n1_ n2_ n3_ n4_ n5_ n6_ n7_ n8_ n9_ n10_ n11_ n12_; (try clear hb); (try clear hkp); (try clear hy0)))
        (try simp only [Act.put, List.setIfInBounds_toArray, List.set_cons_zero, List.set_cons_succ])
        go_cut [82] (fun v82 wc => ∃ (kq : Nat) (x82_106 : Bool), v82 = .bool x82_106 ∧ Aside0 (laws_FnExactSketchJoin.j1 kq t165 x82_106 l0_0 l1_0 t162 t175 = some r) ∧ Aside0 (kq ≤ kj24) ∧ Aside0 (Kd.R (Kd.int .i64) 3 wc w.heap.size (fun k_ => some k_ ≠ ((.slice Ao47 t167.length co47) : Value).ownBlock ∧ some k_ ≠ ((.slice Ao56 t171.length co56) : Value).ownBlock ∧ some k_ ≠ ((.slice Ao65 t175.length co65) : Value).ownBlock) (.slice Ao41 t162.length co41) t162) ∧ Aside0 (Kd.R (Kd.int .i64) 3 wc w.heap.size (fun k_ => some k_ ≠ ((.slice Ao41 t162.length co41) : Value).ownBlock ∧ some k_ ≠ ((.slice Ao56 t171.length co56) : Value).ownBlock ∧ some k_ ≠ ((.slice Ao65 t175.length co65) : Value).ownBlock) (.slice Ao47 t167.length co47) t190) ∧ Aside0 (Kd.R (Kd.int .i64) 3 wc w.heap.size (fun k_ => some k_ ≠ ((.slice Ao41 t162.length co41) : Value).ownBlock ∧ some k_ ≠ ((.slice Ao47 t167.length co47) : Value).ownBlock ∧ some k_ ≠ ((.slice Ao65 t175.length co65) : Value).ownBlock) (.slice Ao56 t171.length co56) t192) ∧ Aside0 (Kd.R (Kd.int .i64) 3 wc w.heap.size (fun k_ => some k_ ≠ ((.slice Ao41 t162.length co41) : Value).ownBlock ∧ some k_ ≠ ((.slice Ao47 t167.length co47) : Value).ownBlock ∧ some k_ ≠ ((.slice Ao56 t171.length co56) : Value).ownBlock) (.slice Ao65 t175.length co65) t175) ∧ Aside0 (wc.heap[gb152]? = some (.cells #[(.slice A0_0 l0_0.length c0_0)] 24 (0, 0))) ∧ Aside0 (wc.heap[gb153]? = some (.cells #[(.slice A1_0 l1_0.length c1_0)] 24 (0, 0))) ∧ Aside0 (wc.heap[gb166]? = some (.cells #[(.slice Ao41 t162.length co41)] 26 (0, 0))) ∧ Aside0 (wc.heap[gb170]? = some (.cells #[(.slice Ao47 t167.length co47)] 26 (0, 0))) ∧ Aside0 (wc.heap[gb174]? = some (.cells #[(.slice Ao56 t171.length co56)] 26 (0, 0))) ∧ Aside0 (wc.heap[gb179]? = some (.cells #[(.slice Ao65 t175.length co65)] 26 (0, 0))) ∧ Aside0 (Below w.heap.size w wc))
        case first =>
         have H := HC107.out
         clear HC107
         by_cases c129 : t191 < 0
         ·
          rw [if_pos c129] at H
          have c129b0 : decide (t191 < 0) = true := decide_eq_true c129
          clear c129
          (first | rw [c129b0] | (simp only [i64_w, i32_w]; rw [c129b0]) | skip)
          have H' := Aside0.mk H
          clear H
          go_wp2
          go_meet
          case rel => exact ⟨_, (true), (by first | rfl | (simp; done) | (simp [*]; done)), H', ⟨by have := HJ24.out; first | omega | exact Nat.le_refl _⟩, ⟨by (with_reducible repeat (first | apply zrA | apply zrN | apply zrD)); exact Kd.R_mono HO_167000.out (fun _ hk => ⟨hk.1, ⟨hk.2.1, hk.2.2.1⟩⟩)⟩, ⟨by (with_reducible repeat (first | apply zrA | apply zrN | apply zrD)); exact Kd.R_mono HO_171000.out (fun _ hk => ⟨hk.1, ⟨hk.2.1, hk.2.2.1⟩⟩)⟩, ⟨by (with_reducible repeat (first | apply zrA | apply zrN | apply zrD)); exact Kd.R_mono HO_175000.out (fun _ hk => ⟨hk.1, ⟨hk.2.1, hk.2.2.1⟩⟩)⟩, ⟨by (with_reducible repeat (first | apply zrA | apply zrN | apply zrD)); exact Kd.R_mono HO_180000.out (fun _ hk => ⟨hk.1, ⟨hk.2.1, hk.2.2.1⟩⟩)⟩, ⟨by (with_reducible repeat (first | refine zbN ?_ _ | refine zbD ?_ | refine zbA ?_ _)); exact BK152.out⟩, ⟨by (with_reducible repeat (first | refine zbN ?_ _ | refine zbD ?_ | refine zbA ?_ _)); exact BK153.out⟩, ⟨by (with_reducible repeat (first | refine zbN ?_ _ | refine zbD ?_ | refine zbA ?_ _)); exact BK166.out⟩, ⟨by (with_reducible repeat (first | refine zbN ?_ _ | refine zbD ?_ | refine zbA ?_ _)); exact BK170.out⟩, ⟨by (with_reducible repeat (first | refine zbN ?_ _ | refine zbD ?_ | refine zbA ?_ _)); exact BK174.out⟩, ⟨by (with_reducible repeat (first | refine zbN ?_ _ | refine zbD ?_ | refine zbA ?_ _)); exact BK179.out⟩, ⟨by repeat (first | (with_reducible first | exact HB.out | apply zwA | apply zwN | apply zwD | refine below_set ?_ GE152.out | refine below_set ?_ GE153.out | refine below_set ?_ GE166.out | refine below_set ?_ GE170.out | refine below_set ?_ GE174.out | refine below_set ?_ GE179.out) | exact HB.out)⟩⟩
         ·
          rw [if_neg c129] at H
          have c129b0 : decide (t191 < 0) = false := decide_eq_false c129
          clear c129
          (first | rw [c129b0] | (simp only [i64_w, i32_w]; rw [c129b0]) | skip)
          replace H := Option.bind_eq_some_iff.mp H
          obtain ⟨t193, A1300, H⟩ := H
          replace H : (if t193 = true then (laws_FnExactSketchJoin.j1 kj24 t165 (t178 != t165) l0_0 l1_0 t162 t175) else (laws_FnExactSketchJoin.j1 kj24 t165 true l0_0 l1_0 t162 t175)) = some r := H
          have A130 := Aside0.mk A1300
          clear A1300
          by_cases c131 : t193 = true
          ·
           subst c131
           have H1 : (laws_FnExactSketchJoin.j1 kj24 t165 (t178 != t165) l0_0 l1_0 t162 t175) = some r := by rw [if_pos rfl] at H; exact H
           clear H
           have H := H1
           clear H1
           have H' := Aside0.mk H
           clear H
           have hnb132 := NB179_152.out
           have hnc132 := NB152_179.out
           have hnb133 := NB179_153.out
           have hnc133 := NB153_179.out
           have hnb134 := NB179_166.out
           have hnc134 := NB166_179.out
           have hnb135 := NB179_170.out
           have hnc135 := NB170_179.out
           have hnb136 := NB179_174.out
           have hnc136 := NB174_179.out
           have hcz137_0 : w128.cell? ⟨gb179, 0, none⟩ = some (.slice Ao65 t175.length co65) := (blk_cell BK179.out 0).trans rfl
           have hfz137_0 := blk_frozen BK179.out 0
           have hnb138 := NB166_152.out
           have hnc138 := NB152_166.out
           have hnb139 := NB166_153.out
           have hnc139 := NB153_166.out
           have hnb140 := NB166_170.out
           have hnc140 := NB170_166.out
           have hnb141 := NB166_174.out
           have hnc141 := NB174_166.out
           have hcz142_0 : w128.cell? ⟨gb166, 0, none⟩ = some (.slice Ao41 t162.length co41) := (blk_cell BK166.out 0).trans rfl
           have hfz142_0 := blk_frozen BK166.out 0
           go_wp2_with (first | (go_at_call 13; (with_reducible refine (laws_eqSketch.calls kj24 _ _ t175 _ _ t162 true _ ?side1 ?side2 ?side3 ?side4 A130.out).mono ?_); (case side1 => repeat (first | exact (Kd.R_reads' HO_180000.out).2.2 | (with_reducible refine Kd.C_alloc ?_ _) | (with_reducible refine Kd.C_drewN ?_ _) | (with_reducible refine Kd.C_drew ?_))); (case side2 => exact (Kd.R_reads' HO_180000.out).2.1); (case side3 => repeat (first | exact (Kd.R_reads' HO_167000.out).2.2 | (with_reducible refine Kd.C_alloc ?_ _) | (with_reducible refine Kd.C_drewN ?_ _) | (with_reducible refine Kd.C_drew ?_))); (case side4 => exact (Kd.R_reads' HO_167000.out).2.1); rintro e w143 ⟨rfl, hb⟩; have n0_ := Aside0.mk (Kd.R_below (by (with_reducible repeat (first | apply zrA | apply zrN | apply zrD)); exact HO_167000.out) hb); have n1_ := Aside0.mk (Kd.R_below (by (with_reducible repeat (first | apply zrA | apply zrN | apply zrD)); exact HO_171000.out) hb); have n2_ := Aside0.mk (Kd.R_below (by (with_reducible repeat (first | apply zrA | apply zrN | apply zrD)); exact HO_175000.out) hb); have n3_ := Aside0.mk (Kd.R_below (by (with_reducible repeat (first | apply zrA | apply zrN | apply zrD)); exact HO_180000.out) hb); have n4_ := Aside0.mk (Kd.R_below (by (with_reducible repeat (first | apply zrA | apply zrN | apply zrD)); exact HO183.out) hb); have n5_ := Aside0.mk (Kd.R_below (by (with_reducible repeat (first | apply zrA | apply zrN | apply zrD)); exact HO187.out) hb); have n6_ := Aside0.mk (blk_below (g := gb152) (o := .cells #[.slice A0_0 l0_0.length c0_0] 24 (0, 0)) (by (with_reducible repeat (first | refine zbN ?_ _ | refine zbD ?_ | refine zbA ?_ _)); exact BK152.out) hb); have n7_ := Aside0.mk (blk_below (g := gb153) (o := .cells #[.slice A1_0 l1_0.length c1_0] 24 (0, 0)) (by (with_reducible repeat (first | refine zbN ?_ _ | refine zbD ?_ | refine zbA ?_ _)); exact BK153.out) hb); have n8_ := Aside0.mk (blk_below (g := gb166) (o := .cells #[.slice Ao41 t162.length co41] 26 (0, 0)) (by (with_reducible repeat (first | refine zbN ?_ _ | refine zbD ?_ | refine zbA ?_ _)); exact BK166.out) hb); have n9_ := Aside0.mk (blk_below (g := gb170) (o := .cells #[.slice Ao47 t167.length co47] 26 (0, 0)) (by (with_reducible repeat (first | refine zbN ?_ _ | refine zbD ?_ | refine zbA ?_ _)); exact BK170.out) hb); have n10_ := Aside0.mk (blk_below (g := gb174) (o := .cells #[.slice Ao56 t171.length co56] 26 (0, 0)) (by (with_reducible repeat (first | refine zbN ?_ _ | refine zbD ?_ | refine zbA ?_ _)); exact BK174.out) hb); have n11_ := Aside0.mk (blk_below (g := gb179) (o := .cells #[.slice Ao65 t175.length co65] 26 (0, 0)) (by (with_reducible repeat (first | refine zbN ?_ _ | refine zbD ?_ | refine zbA ?_ _)); exact BK179.out) hb); have n12_ := Aside0.mk (below_step (by repeat (first | (with_reducible first | exact HB.out | apply zwA | apply zwN | apply zwD | refine below_set ?_ GE152.out | refine below_set ?_ GE153.out | refine below_set ?_ GE166.out | refine below_set ?_ GE170.out | refine below_set ?_ GE174.out | refine below_set ?_ GE179.out) | exact HB.out)) hb); clear HO_167000; clear HO_171000; clear HO_175000; clear HO_180000; clear HO183; clear HO187; clear BK152; clear BK153; clear BK166; clear BK170; clear BK174; clear BK179; clear HB; have HO_167000 := n0_; have HO_171000 := n1_; have HO_175000 := n2_; have HO_180000 := n3_; have HO183 := n4_; have HO187 := n5_; have BK152 := n6_; have BK153 := n7_; have BK166 := n8_; have BK170 := n9_; have BK174 := n10_; have BK179 := n11_; have HB := n12_; clear n0_ n1_ n2_ n3_ n4_ n5_ n6_ n7_ n8_ n9_ n10_ n11_ n12_; (try clear hb); (try clear hb2); (try clear hk); (try clear hi)))
           go_meet
           case rel => exact ⟨_, ((t178 != t165)), (by first | rfl | (simp; done) | (simp [*]; done)), H', ⟨by have := HJ24.out; first | omega | exact Nat.le_refl _⟩, ⟨by (with_reducible repeat (first | apply zrA | apply zrN | apply zrD)); exact Kd.R_mono HO_167000.out (fun _ hk => ⟨hk.1, ⟨hk.2.1, hk.2.2.1⟩⟩)⟩, ⟨by (with_reducible repeat (first | apply zrA | apply zrN | apply zrD)); exact Kd.R_mono HO_171000.out (fun _ hk => ⟨hk.1, ⟨hk.2.1, hk.2.2.1⟩⟩)⟩, ⟨by (with_reducible repeat (first | apply zrA | apply zrN | apply zrD)); exact Kd.R_mono HO_175000.out (fun _ hk => ⟨hk.1, ⟨hk.2.1, hk.2.2.1⟩⟩)⟩, ⟨by (with_reducible repeat (first | apply zrA | apply zrN | apply zrD)); exact Kd.R_mono HO_180000.out (fun _ hk => ⟨hk.1, ⟨hk.2.1, hk.2.2.1⟩⟩)⟩, ⟨by (with_reducible repeat (first | refine zbN ?_ _ | refine zbD ?_ | refine zbA ?_ _)); exact BK152.out⟩, ⟨by (with_reducible repeat (first | refine zbN ?_ _ | refine zbD ?_ | refine zbA ?_ _)); exact BK153.out⟩, ⟨by (with_reducible repeat (first | refine zbN ?_ _ | refine zbD ?_ | refine zbA ?_ _)); exact BK166.out⟩, ⟨by (with_reducible repeat (first | refine zbN ?_ _ | refine zbD ?_ | refine zbA ?_ _)); exact BK170.out⟩, ⟨by (with_reducible repeat (first | refine zbN ?_ _ | refine zbD ?_ | refine zbA ?_ _)); exact BK174.out⟩, ⟨by (with_reducible repeat (first | refine zbN ?_ _ | refine zbD ?_ | refine zbA ?_ _)); exact BK179.out⟩, ⟨by repeat (first | (with_reducible first | exact HB.out | apply zwA | apply zwN | apply zwD | refine below_set ?_ GE152.out | refine below_set ?_ GE153.out | refine below_set ?_ GE166.out | refine below_set ?_ GE170.out | refine below_set ?_ GE174.out | refine below_set ?_ GE179.out) | exact HB.out)⟩⟩
          ·
           replace c131 := Bool.eq_false_iff.mpr c131
           subst c131
           have H1 : (laws_FnExactSketchJoin.j1 kj24 t165 true l0_0 l1_0 t162 t175) = some r := by rw [if_neg (show ¬ (false = true) by decide)] at H; exact H
           clear H
           have H := H1
           clear H1
           have H' := Aside0.mk H
           clear H
           have hnb144 := NB179_152.out
           have hnc144 := NB152_179.out
           have hnb145 := NB179_153.out
           have hnc145 := NB153_179.out
           have hnb146 := NB179_166.out
           have hnc146 := NB166_179.out
           have hnb147 := NB179_170.out
           have hnc147 := NB170_179.out
           have hnb148 := NB179_174.out
           have hnc148 := NB174_179.out
           have hcz149_0 : w128.cell? ⟨gb179, 0, none⟩ = some (.slice Ao65 t175.length co65) := (blk_cell BK179.out 0).trans rfl
           have hfz149_0 := blk_frozen BK179.out 0
           have hnb150 := NB166_152.out
           have hnc150 := NB152_166.out
           have hnb151 := NB166_153.out
           have hnc151 := NB153_166.out
           have hnb152 := NB166_170.out
           have hnc152 := NB170_166.out
           have hnb153 := NB166_174.out
           have hnc153 := NB174_166.out
           have hcz154_0 : w128.cell? ⟨gb166, 0, none⟩ = some (.slice Ao41 t162.length co41) := (blk_cell BK166.out 0).trans rfl
           have hfz154_0 := blk_frozen BK166.out 0
           go_wp2_with (first | (go_at_call 13; (with_reducible refine (laws_eqSketch.calls kj24 _ _ t175 _ _ t162 false _ ?side1 ?side2 ?side3 ?side4 A130.out).mono ?_); (case side1 => repeat (first | exact (Kd.R_reads' HO_180000.out).2.2 | (with_reducible refine Kd.C_alloc ?_ _) | (with_reducible refine Kd.C_drewN ?_ _) | (with_reducible refine Kd.C_drew ?_))); (case side2 => exact (Kd.R_reads' HO_180000.out).2.1); (case side3 => repeat (first | exact (Kd.R_reads' HO_167000.out).2.2 | (with_reducible refine Kd.C_alloc ?_ _) | (with_reducible refine Kd.C_drewN ?_ _) | (with_reducible refine Kd.C_drew ?_))); (case side4 => exact (Kd.R_reads' HO_167000.out).2.1); rintro e w155 ⟨rfl, hb⟩; have n0_ := Aside0.mk (Kd.R_below (by (with_reducible repeat (first | apply zrA | apply zrN | apply zrD)); exact HO_167000.out) hb); have n1_ := Aside0.mk (Kd.R_below (by (with_reducible repeat (first | apply zrA | apply zrN | apply zrD)); exact HO_171000.out) hb); have n2_ := Aside0.mk (Kd.R_below (by (with_reducible repeat (first | apply zrA | apply zrN | apply zrD)); exact HO_175000.out) hb); have n3_ := Aside0.mk (Kd.R_below (by (with_reducible repeat (first | apply zrA | apply zrN | apply zrD)); exact HO_180000.out) hb); have n4_ := Aside0.mk (Kd.R_below (by (with_reducible repeat (first | apply zrA | apply zrN | apply zrD)); exact HO183.out) hb); have n5_ := Aside0.mk (Kd.R_below (by (with_reducible repeat (first | apply zrA | apply zrN | apply zrD)); exact HO187.out) hb); have n6_ := Aside0.mk (blk_below (g := gb152) (o := .cells #[.slice A0_0 l0_0.length c0_0] 24 (0, 0)) (by (with_reducible repeat (first | refine zbN ?_ _ | refine zbD ?_ | refine zbA ?_ _)); exact BK152.out) hb); have n7_ := Aside0.mk (blk_below (g := gb153) (o := .cells #[.slice A1_0 l1_0.length c1_0] 24 (0, 0)) (by (with_reducible repeat (first | refine zbN ?_ _ | refine zbD ?_ | refine zbA ?_ _)); exact BK153.out) hb); have n8_ := Aside0.mk (blk_below (g := gb166) (o := .cells #[.slice Ao41 t162.length co41] 26 (0, 0)) (by (with_reducible repeat (first | refine zbN ?_ _ | refine zbD ?_ | refine zbA ?_ _)); exact BK166.out) hb); have n9_ := Aside0.mk (blk_below (g := gb170) (o := .cells #[.slice Ao47 t167.length co47] 26 (0, 0)) (by (with_reducible repeat (first | refine zbN ?_ _ | refine zbD ?_ | refine zbA ?_ _)); exact BK170.out) hb); have n10_ := Aside0.mk (blk_below (g := gb174) (o := .cells #[.slice Ao56 t171.length co56] 26 (0, 0)) (by (with_reducible repeat (first | refine zbN ?_ _ | refine zbD ?_ | refine zbA ?_ _)); exact BK174.out) hb); have n11_ := Aside0.mk (blk_below (g := gb179) (o := .cells #[.slice Ao65 t175.length co65] 26 (0, 0)) (by (with_reducible repeat (first | refine zbN ?_ _ | refine zbD ?_ | refine zbA ?_ _)); exact BK179.out) hb); have n12_ := Aside0.mk (below_step (by repeat (first | (with_reducible first | exact HB.out | apply zwA | apply zwN | apply zwD | refine below_set ?_ GE152.out | refine below_set ?_ GE153.out | refine below_set ?_ GE166.out | refine below_set ?_ GE170.out | refine below_set ?_ GE174.out | refine below_set ?_ GE179.out) | exact HB.out)) hb); clear HO_167000; clear HO_171000; clear HO_175000; clear HO_180000; clear HO183; clear HO187; clear BK152; clear BK153; clear BK166; clear BK170; clear BK174; clear BK179; clear HB; have HO_167000 := n0_; have HO_171000 := n1_; have HO_175000 := n2_; have HO_180000 := n3_; have HO183 := n4_; have HO187 := n5_; have BK152 := n6_; have BK153 := n7_; have BK166 := n8_; have BK170 := n9_; have BK174 := n10_; have BK179 := n11_; have HB := n12_; clear n0_ n1_ n2_ n3_ n4_ n5_ n6_ n7_ n8_ n9_ n10_ n11_ n12_; (try clear hb); (try clear hb2); (try clear hk); (try clear hi)))
           go_meet
           case rel => exact ⟨_, (true), (by first | rfl | (simp; done) | (simp [*]; done)), H', ⟨by have := HJ24.out; first | omega | exact Nat.le_refl _⟩, ⟨by (with_reducible repeat (first | apply zrA | apply zrN | apply zrD)); exact Kd.R_mono HO_167000.out (fun _ hk => ⟨hk.1, ⟨hk.2.1, hk.2.2.1⟩⟩)⟩, ⟨by (with_reducible repeat (first | apply zrA | apply zrN | apply zrD)); exact Kd.R_mono HO_171000.out (fun _ hk => ⟨hk.1, ⟨hk.2.1, hk.2.2.1⟩⟩)⟩, ⟨by (with_reducible repeat (first | apply zrA | apply zrN | apply zrD)); exact Kd.R_mono HO_175000.out (fun _ hk => ⟨hk.1, ⟨hk.2.1, hk.2.2.1⟩⟩)⟩, ⟨by (with_reducible repeat (first | apply zrA | apply zrN | apply zrD)); exact Kd.R_mono HO_180000.out (fun _ hk => ⟨hk.1, ⟨hk.2.1, hk.2.2.1⟩⟩)⟩, ⟨by (with_reducible repeat (first | refine zbN ?_ _ | refine zbD ?_ | refine zbA ?_ _)); exact BK152.out⟩, ⟨by (with_reducible repeat (first | refine zbN ?_ _ | refine zbD ?_ | refine zbA ?_ _)); exact BK153.out⟩, ⟨by (with_reducible repeat (first | refine zbN ?_ _ | refine zbD ?_ | refine zbA ?_ _)); exact BK166.out⟩, ⟨by (with_reducible repeat (first | refine zbN ?_ _ | refine zbD ?_ | refine zbA ?_ _)); exact BK170.out⟩, ⟨by (with_reducible repeat (first | refine zbN ?_ _ | refine zbD ?_ | refine zbA ?_ _)); exact BK174.out⟩, ⟨by (with_reducible repeat (first | refine zbN ?_ _ | refine zbD ?_ | refine zbA ?_ _)); exact BK179.out⟩, ⟨by repeat (first | (with_reducible first | exact HB.out | apply zwA | apply zwN | apply zwD | refine below_set ?_ GE152.out | refine below_set ?_ GE153.out | refine below_set ?_ GE166.out | refine below_set ?_ GE170.out | refine below_set ?_ GE174.out | refine below_set ?_ GE179.out) | exact HB.out)⟩⟩
        case rest =>
         clear HC107
         try clear c1
         try clear p2
         try clear c4
         try clear c5
         try clear c6
         try clear c7
         try clear c8
         try clear c9
         try clear c10
         try clear c11
         try clear c12
         try clear c13
         try clear c14
         try clear c15
         try clear c43
         try clear c48
         try clear c49
         try clear c50
         try clear c52
         try clear c57
         try clear c58
         try clear c59
         try clear c60
         try clear c66
         try clear c67
         try clear c68
         try clear c69
         try clear c70
         try clear c73
         try clear c74
         try clear c75
         try clear c76
         try clear c77
         try clear c78
         try clear c80
         try clear c81
         try clear c82
         try clear c83
         try clear c86
         try clear c87
         try clear c88
         try clear c89
         try clear c90
         try clear c92
         try clear c93
         try clear c94
         try clear c95
         try clear c98
         try clear c101
         try clear c104
         try clear c116
         try clear c117
         try clear c118
         try clear c119
         try clear c120
         try clear c123
         try clear c124
         try clear c125
         try clear c126
         try clear c129
         try clear c129b0
         try clear c131
         try clear c132
         try clear c133
         try clear c134
         try clear c135
         try clear c136
         try clear c138
         try clear c139
         try clear c140
         try clear c141
         try clear c144
         try clear c145
         try clear c146
         try clear c147
         try clear c148
         try clear c150
         try clear c151
         try clear c152
         try clear c153
         try clear hcz121_0
         try clear hcz127_0
         try clear hcz137_0
         try clear hcz142_0
         try clear hcz149_0
         try clear hcz154_0
         try clear hcz44_0
         try clear hcz51_0
         try clear hcz53_0
         try clear hcz61_0
         try clear hcz62_0
         try clear hcz71_0
         try clear hcz79_0
         try clear hcz84_0
         try clear hcz91_0
         try clear hcz96_0
         try clear hfz121_0
         try clear hfz127_0
         try clear hfz137_0
         try clear hfz142_0
         try clear hfz149_0
         try clear hfz154_0
         try clear hfz44_0
         try clear hfz51_0
         try clear hfz53_0
         try clear hfz61_0
         try clear hfz62_0
         try clear hfz71_0
         try clear hfz79_0
         try clear hfz84_0
         try clear hfz91_0
         try clear hfz96_0
         try clear p2
         obtain ⟨kq, x82_106, rfl, HA, HJ106, HO_167000, HO_171000, HO_175000, HO_180000, BK152, BK153, BK166, BK170, BK174, BK179, HB⟩ := hcut
         have hl171000_106 := (Kd.R_reads' HO_171000.out).1
         rw [hl171000_106] at HO_171000
         (try simp only [hl171000_106])
         (try simp only [hl171000_106] at BK152)
         (try simp only [hl171000_106] at BK153)
         (try simp only [hl171000_106] at BK166)
         (try simp only [hl171000_106] at BK170)
         (try simp only [hl171000_106] at BK174)
         (try simp only [hl171000_106] at BK179)
         (try simp only [hl171000_106] at HO_167000)
         (try simp only [hl171000_106] at HO_175000)
         (try simp only [hl171000_106] at HO_180000)
         have hl175000_106 := (Kd.R_reads' HO_175000.out).1
         rw [hl175000_106] at HO_175000
         (try simp only [hl175000_106])
         (try simp only [hl175000_106] at BK152)
         (try simp only [hl175000_106] at BK153)
         (try simp only [hl175000_106] at BK166)
         (try simp only [hl175000_106] at BK170)
         (try simp only [hl175000_106] at BK174)
         (try simp only [hl175000_106] at BK179)
         (try simp only [hl175000_106] at HO_167000)
         (try simp only [hl175000_106] at HO_171000)
         (try simp only [hl175000_106] at HO_180000)
         cases kq with
         | zero => exact absurd HA.out (by simp [laws_FnExactSketchJoin.j1])
         | succ kj106 =>
          have H := HA.out
          clear HA
          simp only [laws_FnExactSketchJoin.j1] at H
          by_cases c156 : x82_106 = true
          ·
           subst c156
           have H1 : (some false) = some r := by rw [if_pos rfl] at H; exact H
           clear H
           have H := H1
           clear H1
           obtain rfl := Option.some.inj H
           go_wp2
           go_ret
           exact ⟨by first | rfl | (simp [errW_none, errW_some] <;> rfl) | (simp [*, errW_none, errW_some] <;> rfl), by repeat (first | (with_reducible first | exact HB.out | apply zwA | apply zwN | apply zwD | refine below_set ?_ GE152.out | refine below_set ?_ GE153.out | refine below_set ?_ GE166.out | refine below_set ?_ GE170.out | refine below_set ?_ GE174.out | refine below_set ?_ GE179.out) | exact HB.out)⟩
          ·
           replace c156 := Bool.eq_false_iff.mpr c156
           subst c156
           have H1 : ((laws_markSketch.f kj106 t175 1).bind fun bt194 => ((laws_heldSketch.f kj106 bt194.2 1).bind fun t196 => (if t196 < 0 then (some false) else (if t196 = bt194.1 then ((laws_toSketch.f kj106 l0_0).bind fun t197 => ((laws_toSketch.f kj106 l1_0).bind fun t200 => ((impl_SketchJoin.f kj106 t197 t200).bind fun bt203 => ((laws_eqSketch.f kj106 bt203.1 t162).bind fun t208 => (if t208 = true then (laws_FnExactSketchJoin.j2 kj106 bt194.1 (bt203.2 != t165) bt194.2) else (laws_FnExactSketchJoin.j2 kj106 bt194.1 true bt194.2)))))) else (some false))))) = some r := by rw [if_neg (show ¬ (false = true) by decide)] at H; exact H
           clear H
           have H := H1
           clear H1
           replace H := Option.bind_eq_some_iff.mp H
           obtain ⟨⟨t194, t195⟩, A1570, H⟩ := H
           replace H : ((laws_heldSketch.f kj106 t195 1).bind fun t196 => (if t196 < 0 then (some false) else (if t196 = t194 then ((laws_toSketch.f kj106 l0_0).bind fun t197 => ((laws_toSketch.f kj106 l1_0).bind fun t200 => ((impl_SketchJoin.f kj106 t197 t200).bind fun bt203 => ((laws_eqSketch.f kj106 bt203.1 t162).bind fun t208 => (if t208 = true then (laws_FnExactSketchJoin.j2 kj106 t194 (bt203.2 != t165) t195) else (laws_FnExactSketchJoin.j2 kj106 t194 true t195)))))) else (some false)))) = some r := H
           have A157 := Aside0.mk A1570
           clear A1570
           replace H := Option.bind_eq_some_iff.mp H
           obtain ⟨t196, A1580, H⟩ := H
           replace H : (if t196 < 0 then (some false) else (if t196 = t194 then ((laws_toSketch.f kj106 l0_0).bind fun t197 => ((laws_toSketch.f kj106 l1_0).bind fun t200 => ((impl_SketchJoin.f kj106 t197 t200).bind fun bt203 => ((laws_eqSketch.f kj106 bt203.1 t162).bind fun t208 => (if t208 = true then (laws_FnExactSketchJoin.j2 kj106 t194 (bt203.2 != t165) t195) else (laws_FnExactSketchJoin.j2 kj106 t194 true t195)))))) else (some false))) = some r := H
           have A158 := Aside0.mk A1580
           clear A1580
           by_cases c159 : t196 < 0
           ·
            rw [if_pos c159] at H
            have c159b0 : decide (t196 < 0) = true := decide_eq_true c159
            clear c159
            obtain rfl := Option.some.inj H
            have hnb160 := NB179_152.out
            have hnc160 := NB152_179.out
            have hnb161 := NB179_153.out
            have hnc161 := NB153_179.out
            have hnb162 := NB179_166.out
            have hnc162 := NB166_179.out
            have hnb163 := NB179_170.out
            have hnc163 := NB170_179.out
            have hnb164 := NB179_174.out
            have hnc164 := NB174_179.out
            have hcz165_0 : wc.cell? ⟨gb179, 0, none⟩ = some (.slice Ao65 t175.length co65) := (blk_cell BK179.out 0).trans rfl
            have hfz165_0 := blk_frozen BK179.out 0
            go_wp2_with (first | ((with_reducible refine gate_callee (f := 14) rfl ?_); refine goesL_ (some 85) rfl rfl Try.func14 (by kernel_rfl) rfl #[.agg #[.slice Ao65 t175.length co65], .int .i64 1] rfl (by (try simp only [List.map_toArray, List.map_cons, List.map_nil]); first | done | rfl | (simp only [List.length_drop, List.length_take]; rfl)) ?_; (with_reducible refine (laws_markSketch.calls kj106 (fun k_ => some k_ = (.slice Ao65 t175.length co65 : Value).ownBlock) (.slice Ao65 t175.length co65) t175 1 t194 t195 w _ ?side1 ?side2 A157.out).mono ?_); (case side1 => repeat (first | (with_reducible first | exact HB.out | apply zwA | apply zwN | apply zwD | refine below_set ?_ GE152.out | refine below_set ?_ GE153.out | refine below_set ?_ GE166.out | refine below_set ?_ GE170.out | refine below_set ?_ GE174.out | refine below_set ?_ GE179.out) | exact HB.out)); (case side2 => exact Kd.R_tight rfl HO_180000.out); rintro e w166 ⟨rfl, hy0, hb, hkp⟩; refine ⟨_, rfl, ?_⟩; have n0_ := Aside0.mk (Kd.R_mono (ok' := fun k_ => some k_ ≠ (.slice Ao47 t190.length co47 : Value).ownBlock ∧ some k_ ≠ (.slice Ao56 t192.length co56 : Value).ownBlock ∧ some k_ ≠ (.slice Ao65 t175.length co65 : Value).ownBlock) (Kd.R_keptB (HO_167000.out) hkp (fun k_ hk_ hs_ => (hk_.2.2) hs_)) (fun k_ hk_ => ⟨hk_.1.1, hk_.1.2.1, hk_.1.2.2⟩)); have n1_ := Aside0.mk (Kd.R_mono (ok' := fun k_ => some k_ ≠ (.slice Ao41 t162.length co41 : Value).ownBlock ∧ some k_ ≠ (.slice Ao56 t192.length co56 : Value).ownBlock ∧ some k_ ≠ (.slice Ao65 t175.length co65 : Value).ownBlock) (Kd.R_keptB (HO_171000.out) hkp (fun k_ hk_ hs_ => (hk_.2.2) hs_)) (fun k_ hk_ => ⟨hk_.1.1, hk_.1.2.1, hk_.1.2.2⟩)); have n2_ := Aside0.mk (Kd.R_mono (ok' := fun k_ => some k_ ≠ (.slice Ao41 t162.length co41 : Value).ownBlock ∧ some k_ ≠ (.slice Ao47 t190.length co47 : Value).ownBlock ∧ some k_ ≠ (.slice Ao65 t175.length co65 : Value).ownBlock) (Kd.R_keptB (HO_175000.out) hkp (fun k_ hk_ hs_ => (hk_.2.2) hs_)) (fun k_ hk_ => ⟨hk_.1.1, hk_.1.2.1, hk_.1.2.2⟩)); have n3_ := Aside0.mk (Kd.R_reok rfl hy0 (fun k_ e_ => HO_180000.out.1 k_ e_)); have n4_ := Aside0.mk (blk_kept (by (with_reducible repeat (first | refine zbN ?_ _ | refine zbD ?_ | refine zbA ?_ _)); exact BK152.out) hkp (fun hs_ => (fun e_ => (Kd.R_ne HO_180000.out BK152.out (by decide)) e_) hs_)); have n5_ := Aside0.mk (blk_kept (by (with_reducible repeat (first | refine zbN ?_ _ | refine zbD ?_ | refine zbA ?_ _)); exact BK153.out) hkp (fun hs_ => (fun e_ => (Kd.R_ne HO_180000.out BK153.out (by decide)) e_) hs_)); have n6_ := Aside0.mk (blk_kept (by (with_reducible repeat (first | refine zbN ?_ _ | refine zbD ?_ | refine zbA ?_ _)); exact BK166.out) hkp (fun hs_ => (fun e_ => (Kd.R_ne HO_180000.out BK166.out (by decide)) e_) hs_)); have n7_ := Aside0.mk (blk_kept (by (with_reducible repeat (first | refine zbN ?_ _ | refine zbD ?_ | refine zbA ?_ _)); exact BK170.out) hkp (fun hs_ => (fun e_ => (Kd.R_ne HO_180000.out BK170.out (by decide)) e_) hs_)); have n8_ := Aside0.mk (blk_kept (by (with_reducible repeat (first | refine zbN ?_ _ | refine zbD ?_ | refine zbA ?_ _)); exact BK174.out) hkp (fun hs_ => (fun e_ => (Kd.R_ne HO_180000.out BK174.out (by decide)) e_) hs_)); have n9_ := Aside0.mk (blk_kept (by (with_reducible repeat (first | refine zbN ?_ _ | refine zbD ?_ | refine zbA ?_ _)); exact BK179.out) hkp (fun hs_ => (fun e_ => (Kd.R_ne HO_180000.out BK179.out (by decide)) e_) hs_)); have n10_ := Aside0.mk (hb); clear HO_167000; clear HO_171000; clear HO_175000; clear HO_180000; clear BK152; clear BK153; clear BK166; clear BK170; clear BK174; clear BK179; clear HB; have HO_167000 := n0_; have HO_171000 := n1_; have HO_175000 := n2_; have HO_180000 := n3_; have BK152 := n4_; have BK153 := n5_; have BK166 := n6_; have BK170 := n7_; have BK174 := n8_; have BK179 := n9_; have HB := n10_; clear n0_ n1_ n2_ n3_ n4_ n5_ n6_ n7_ n8_ n9_ n10_; (try clear hb); (try clear hkp); (try clear hy0); have hcz167_0 : w166.cell? ⟨gb179, 0, none⟩ = some (.slice Ao65 t175.length co65) := (blk_cell BK179.out 0).trans rfl; have hfz167_0 := blk_frozen BK179.out 0) | ((with_reducible refine gate_callee (f := 15) rfl ?_); refine goesL_ (some 88) rfl rfl Try.func15 (by kernel_rfl) rfl #[.agg #[.slice Ao65 t195.length co65], .int .i64 1] rfl (by (try simp only [List.map_toArray, List.map_cons, List.map_nil]); first | done | (rw [show t195.length = t175.length from (Kd.R_reads' HO_180000.out).1.symm] <;> rfl) | rfl | (simp only [List.length_drop, List.length_take]; rfl)) ?_; (with_reducible refine (laws_heldSketch.calls kj106 _ _ t195 1 t196 _ ?side1 ?side2 A158.out).mono ?_); (case side1 => repeat (first | exact (Kd.R_reads' HO_180000.out).2.2 | (with_reducible refine Kd.C_alloc ?_ _) | (with_reducible refine Kd.C_drewN ?_ _) | (with_reducible refine Kd.C_drew ?_))); (case side2 => rw [show t195.length = t175.length from (Kd.R_reads' HO_180000.out).1.symm]; exact (Kd.R_reads' HO_180000.out).2.1); rintro e w168 ⟨rfl, hb⟩; refine ⟨_, rfl, ?_⟩; have n0_ := Aside0.mk (Kd.R_below (by (with_reducible repeat (first | apply zrA | apply zrN | apply zrD)); exact HO_167000.out) hb); have n1_ := Aside0.mk (Kd.R_below (by (with_reducible repeat (first | apply zrA | apply zrN | apply zrD)); exact HO_171000.out) hb); have n2_ := Aside0.mk (Kd.R_below (by (with_reducible repeat (first | apply zrA | apply zrN | apply zrD)); exact HO_175000.out) hb); have n3_ := Aside0.mk (Kd.R_below (by (with_reducible repeat (first | apply zrA | apply zrN | apply zrD)); exact HO_180000.out) hb); have n4_ := Aside0.mk (blk_below (g := gb152) (o := .cells #[.slice A0_0 l0_0.length c0_0] 24 (0, 0)) (by (with_reducible repeat (first | refine zbN ?_ _ | refine zbD ?_ | refine zbA ?_ _)); exact BK152.out) hb); have n5_ := Aside0.mk (blk_below (g := gb153) (o := .cells #[.slice A1_0 l1_0.length c1_0] 24 (0, 0)) (by (with_reducible repeat (first | refine zbN ?_ _ | refine zbD ?_ | refine zbA ?_ _)); exact BK153.out) hb); have n6_ := Aside0.mk (blk_below (g := gb166) (o := .cells #[.slice Ao41 t162.length co41] 26 (0, 0)) (by (with_reducible repeat (first | refine zbN ?_ _ | refine zbD ?_ | refine zbA ?_ _)); exact BK166.out) hb); have n7_ := Aside0.mk (blk_below (g := gb170) (o := .cells #[.slice Ao47 t190.length co47] 26 (0, 0)) (by (with_reducible repeat (first | refine zbN ?_ _ | refine zbD ?_ | refine zbA ?_ _)); exact BK170.out) hb); have n8_ := Aside0.mk (blk_below (g := gb174) (o := .cells #[.slice Ao56 t192.length co56] 26 (0, 0)) (by (with_reducible repeat (first | refine zbN ?_ _ | refine zbD ?_ | refine zbA ?_ _)); exact BK174.out) hb); have n9_ := Aside0.mk (blk_below (g := gb179) (o := .cells #[.slice Ao65 t175.length co65] 26 (0, 0)) (by (with_reducible repeat (first | refine zbN ?_ _ | refine zbD ?_ | refine zbA ?_ _)); exact BK179.out) hb); have n10_ := Aside0.mk (below_step (by repeat (first | (with_reducible first | exact HB.out | apply zwA | apply zwN | apply zwD | refine below_set ?_ GE152.out | refine below_set ?_ GE153.out | refine below_set ?_ GE166.out | refine below_set ?_ GE170.out | refine below_set ?_ GE174.out | refine below_set ?_ GE179.out) | exact HB.out)) hb); clear HO_167000; clear HO_171000; clear HO_175000; clear HO_180000; clear BK152; clear BK153; clear BK166; clear BK170; clear BK174; clear BK179; clear HB; have HO_167000 := n0_; have HO_171000 := n1_; have HO_175000 := n2_; have HO_180000 := n3_; have BK152 := n4_; have BK153 := n5_; have BK166 := n6_; have BK170 := n7_; have BK174 := n8_; have BK179 := n9_; have HB := n10_; clear n0_ n1_ n2_ n3_ n4_ n5_ n6_ n7_ n8_ n9_ n10_; (try clear hb); (try clear hb2); (try clear hk); (try clear hi)))
            go_ret
            exact ⟨by first | rfl | (simp [errW_none, errW_some] <;> rfl) | (simp [*, errW_none, errW_some] <;> rfl), by repeat (first | (with_reducible first | exact HB.out | apply zwA | apply zwN | apply zwD | refine below_set ?_ GE152.out | refine below_set ?_ GE153.out | refine below_set ?_ GE166.out | refine below_set ?_ GE170.out | refine below_set ?_ GE174.out | refine below_set ?_ GE179.out) | exact HB.out)⟩
           ·
            rw [if_neg c159] at H
            have c159b0 : decide (t196 < 0) = false := decide_eq_false c159
            clear c159
            by_cases c169 : t196 = t194
            ·
             rw [if_pos c169] at H
             have c169b0 : (t196 == t194) = true := beq_iff_eq.mpr c169
             have c169b1 : (t196 != t194) = false := bne_eq_false_iff_eq.mpr c169
             clear c169
             replace H := Option.bind_eq_some_iff.mp H
             obtain ⟨t197, A1700, H⟩ := H
             replace H : ((laws_toSketch.f kj106 l1_0).bind fun t200 => ((impl_SketchJoin.f kj106 t197 t200).bind fun bt203 => ((laws_eqSketch.f kj106 bt203.1 t162).bind fun t208 => (if t208 = true then (laws_FnExactSketchJoin.j2 kj106 t194 (bt203.2 != t165) t195) else (laws_FnExactSketchJoin.j2 kj106 t194 true t195))))) = some r := H
             have A170 := Aside0.mk A1700
             clear A1700
             replace H := Option.bind_eq_some_iff.mp H
             obtain ⟨t200, A1710, H⟩ := H
             replace H : ((impl_SketchJoin.f kj106 t197 t200).bind fun bt203 => ((laws_eqSketch.f kj106 bt203.1 t162).bind fun t208 => (if t208 = true then (laws_FnExactSketchJoin.j2 kj106 t194 (bt203.2 != t165) t195) else (laws_FnExactSketchJoin.j2 kj106 t194 true t195)))) = some r := H
             have A171 := Aside0.mk A1710
             clear A1710
             replace H := Option.bind_eq_some_iff.mp H
             obtain ⟨⟨t203, t206⟩, A1720, H⟩ := H
             replace H : ((laws_eqSketch.f kj106 t203 t162).bind fun t208 => (if t208 = true then (laws_FnExactSketchJoin.j2 kj106 t194 (t206 != t165) t195) else (laws_FnExactSketchJoin.j2 kj106 t194 true t195))) = some r := H
             have A172 := Aside0.mk A1720
             clear A1720
             have HC173 := Aside0.mk H
             clear H
             have hnb174 := NB179_152.out
             have hnc174 := NB152_179.out
             have hnb175 := NB179_153.out
             have hnc175 := NB153_179.out
             have hnb176 := NB179_166.out
             have hnc176 := NB166_179.out
             have hnb177 := NB179_170.out
             have hnc177 := NB170_179.out
             have hnb178 := NB179_174.out
             have hnc178 := NB174_179.out
             have hcz179_0 : wc.cell? ⟨gb179, 0, none⟩ = some (.slice Ao65 t175.length co65) := (blk_cell BK179.out 0).trans rfl
             have hfz179_0 := blk_frozen BK179.out 0
             try go_wp2_with (first | ((with_reducible refine gate_callee (f := 14) rfl ?_); refine goesL_ (some 85) rfl rfl Try.func14 (by kernel_rfl) rfl #[.agg #[.slice Ao65 t175.length co65], .int .i64 1] rfl (by (try simp only [List.map_toArray, List.map_cons, List.map_nil]); first | done | rfl | (simp only [List.length_drop, List.length_take]; rfl)) ?_; (with_reducible refine (laws_markSketch.calls kj106 (fun k_ => some k_ = (.slice Ao65 t175.length co65 : Value).ownBlock) (.slice Ao65 t175.length co65) t175 1 t194 t195 w _ ?side1 ?side2 A157.out).mono ?_); (case side1 => repeat (first | (with_reducible first | exact HB.out | apply zwA | apply zwN | apply zwD | refine below_set ?_ GE152.out | refine below_set ?_ GE153.out | refine below_set ?_ GE166.out | refine below_set ?_ GE170.out | refine below_set ?_ GE174.out | refine below_set ?_ GE179.out) | exact HB.out)); (case side2 => exact Kd.R_tight rfl HO_180000.out); rintro e w180 ⟨rfl, hy0, hb, hkp⟩; refine ⟨_, rfl, ?_⟩; have n0_ := Aside0.mk (Kd.R_mono (ok' := fun k_ => some k_ ≠ (.slice Ao47 t190.length co47 : Value).ownBlock ∧ some k_ ≠ (.slice Ao56 t192.length co56 : Value).ownBlock ∧ some k_ ≠ (.slice Ao65 t175.length co65 : Value).ownBlock) (Kd.R_keptB (HO_167000.out) hkp (fun k_ hk_ hs_ => (hk_.2.2) hs_)) (fun k_ hk_ => ⟨hk_.1.1, hk_.1.2.1, hk_.1.2.2⟩)); have n1_ := Aside0.mk (Kd.R_mono (ok' := fun k_ => some k_ ≠ (.slice Ao41 t162.length co41 : Value).ownBlock ∧ some k_ ≠ (.slice Ao56 t192.length co56 : Value).ownBlock ∧ some k_ ≠ (.slice Ao65 t175.length co65 : Value).ownBlock) (Kd.R_keptB (HO_171000.out) hkp (fun k_ hk_ hs_ => (hk_.2.2) hs_)) (fun k_ hk_ => ⟨hk_.1.1, hk_.1.2.1, hk_.1.2.2⟩)); have n2_ := Aside0.mk (Kd.R_mono (ok' := fun k_ => some k_ ≠ (.slice Ao41 t162.length co41 : Value).ownBlock ∧ some k_ ≠ (.slice Ao47 t190.length co47 : Value).ownBlock ∧ some k_ ≠ (.slice Ao65 t175.length co65 : Value).ownBlock) (Kd.R_keptB (HO_175000.out) hkp (fun k_ hk_ hs_ => (hk_.2.2) hs_)) (fun k_ hk_ => ⟨hk_.1.1, hk_.1.2.1, hk_.1.2.2⟩)); have n3_ := Aside0.mk (Kd.R_reok rfl hy0 (fun k_ e_ => HO_180000.out.1 k_ e_)); have n4_ := Aside0.mk (blk_kept (by (with_reducible repeat (first | refine zbN ?_ _ | refine zbD ?_ | refine zbA ?_ _)); exact BK152.out) hkp (fun hs_ => (fun e_ => (Kd.R_ne HO_180000.out BK152.out (by decide)) e_) hs_)); have n5_ := Aside0.mk (blk_kept (by (with_reducible repeat (first | refine zbN ?_ _ | refine zbD ?_ | refine zbA ?_ _)); exact BK153.out) hkp (fun hs_ => (fun e_ => (Kd.R_ne HO_180000.out BK153.out (by decide)) e_) hs_)); have n6_ := Aside0.mk (blk_kept (by (with_reducible repeat (first | refine zbN ?_ _ | refine zbD ?_ | refine zbA ?_ _)); exact BK166.out) hkp (fun hs_ => (fun e_ => (Kd.R_ne HO_180000.out BK166.out (by decide)) e_) hs_)); have n7_ := Aside0.mk (blk_kept (by (with_reducible repeat (first | refine zbN ?_ _ | refine zbD ?_ | refine zbA ?_ _)); exact BK170.out) hkp (fun hs_ => (fun e_ => (Kd.R_ne HO_180000.out BK170.out (by decide)) e_) hs_)); have n8_ := Aside0.mk (blk_kept (by (with_reducible repeat (first | refine zbN ?_ _ | refine zbD ?_ | refine zbA ?_ _)); exact BK174.out) hkp (fun hs_ => (fun e_ => (Kd.R_ne HO_180000.out BK174.out (by decide)) e_) hs_)); have n9_ := Aside0.mk (blk_kept (by (with_reducible repeat (first | refine zbN ?_ _ | refine zbD ?_ | refine zbA ?_ _)); exact BK179.out) hkp (fun hs_ => (fun e_ => (Kd.R_ne HO_180000.out BK179.out (by decide)) e_) hs_)); have n10_ := Aside0.mk (hb); clear HO_167000; clear HO_171000; clear HO_175000; clear HO_180000; clear BK152; clear BK153; clear BK166; clear BK170; clear BK174; clear BK179; clear HB; have HO_167000 := n0_; have HO_171000 := n1_; have HO_175000 := n2_; have HO_180000 := n3_; have BK152 := n4_; have BK153 := n5_; have BK166 := n6_; have BK170 := n7_; have BK174 := n8_; have BK179 := n9_; have HB := n10_; clear n0_ n1_ n2_ n3_ n4_ n5_ n6_ n7_ n8_ n9_ n10_; (try clear hb); (try clear hkp); (try clear hy0); have hcz181_0 : w180.cell? ⟨gb179, 0, none⟩ = some (.slice Ao65 t175.length co65) := (blk_cell BK179.out 0).trans rfl; have hfz181_0 := blk_frozen BK179.out 0) | ((with_reducible refine gate_callee (f := 15) rfl ?_); refine goesL_ (some 88) rfl rfl Try.func15 (by kernel_rfl) rfl #[.agg #[.slice Ao65 t195.length co65], .int .i64 1] rfl (by (try simp only [List.map_toArray, List.map_cons, List.map_nil]); first | done | (rw [show t195.length = t175.length from (Kd.R_reads' HO_180000.out).1.symm] <;> rfl) | rfl | (simp only [List.length_drop, List.length_take]; rfl)) ?_; (with_reducible refine (laws_heldSketch.calls kj106 _ _ t195 1 t196 _ ?side1 ?side2 A158.out).mono ?_); (case side1 => repeat (first | exact (Kd.R_reads' HO_180000.out).2.2 | (with_reducible refine Kd.C_alloc ?_ _) | (with_reducible refine Kd.C_drewN ?_ _) | (with_reducible refine Kd.C_drew ?_))); (case side2 => rw [show t195.length = t175.length from (Kd.R_reads' HO_180000.out).1.symm]; exact (Kd.R_reads' HO_180000.out).2.1); rintro e w182 ⟨rfl, hb⟩; refine ⟨_, rfl, ?_⟩; have n0_ := Aside0.mk (Kd.R_below (by (with_reducible repeat (first | apply zrA | apply zrN | apply zrD)); exact HO_167000.out) hb); have n1_ := Aside0.mk (Kd.R_below (by (with_reducible repeat (first | apply zrA | apply zrN | apply zrD)); exact HO_171000.out) hb); have n2_ := Aside0.mk (Kd.R_below (by (with_reducible repeat (first | apply zrA | apply zrN | apply zrD)); exact HO_175000.out) hb); have n3_ := Aside0.mk (Kd.R_below (by (with_reducible repeat (first | apply zrA | apply zrN | apply zrD)); exact HO_180000.out) hb); have n4_ := Aside0.mk (blk_below (g := gb152) (o := .cells #[.slice A0_0 l0_0.length c0_0] 24 (0, 0)) (by (with_reducible repeat (first | refine zbN ?_ _ | refine zbD ?_ | refine zbA ?_ _)); exact BK152.out) hb); have n5_ := Aside0.mk (blk_below (g := gb153) (o := .cells #[.slice A1_0 l1_0.length c1_0] 24 (0, 0)) (by (with_reducible repeat (first | refine zbN ?_ _ | refine zbD ?_ | refine zbA ?_ _)); exact BK153.out) hb); have n6_ := Aside0.mk (blk_below (g := gb166) (o := .cells #[.slice Ao41 t162.length co41] 26 (0, 0)) (by (with_reducible repeat (first | refine zbN ?_ _ | refine zbD ?_ | refine zbA ?_ _)); exact BK166.out) hb); have n7_ := Aside0.mk (blk_below (g := gb170) (o := .cells #[.slice Ao47 t190.length co47] 26 (0, 0)) (by (with_reducible repeat (first | refine zbN ?_ _ | refine zbD ?_ | refine zbA ?_ _)); exact BK170.out) hb); have n8_ := Aside0.mk (blk_below (g := gb174) (o := .cells #[.slice Ao56 t192.length co56] 26 (0, 0)) (by (with_reducible repeat (first | refine zbN ?_ _ | refine zbD ?_ | refine zbA ?_ _)); exact BK174.out) hb); have n9_ := Aside0.mk (blk_below (g := gb179) (o := .cells #[.slice Ao65 t175.length co65] 26 (0, 0)) (by (with_reducible repeat (first | refine zbN ?_ _ | refine zbD ?_ | refine zbA ?_ _)); exact BK179.out) hb); have n10_ := Aside0.mk (below_step (by repeat (first | (with_reducible first | exact HB.out | apply zwA | apply zwN | apply zwD | refine below_set ?_ GE152.out | refine below_set ?_ GE153.out | refine below_set ?_ GE166.out | refine below_set ?_ GE170.out | refine below_set ?_ GE174.out | refine below_set ?_ GE179.out) | exact HB.out)) hb); clear HO_167000; clear HO_171000; clear HO_175000; clear HO_180000; clear BK152; clear BK153; clear BK166; clear BK170; clear BK174; clear BK179; clear HB; have HO_167000 := n0_; have HO_171000 := n1_; have HO_175000 := n2_; have HO_180000 := n3_; have BK152 := n4_; have BK153 := n5_; have BK166 := n6_; have BK170 := n7_; have BK174 := n8_; have BK179 := n9_; have HB := n10_; clear n0_ n1_ n2_ n3_ n4_ n5_ n6_ n7_ n8_ n9_ n10_; (try clear hb); (try clear hb2); (try clear hk); (try clear hi)))
             have n0_ := Aside0.mk (Kd.R_drew HO_167000.out)
             have n1_ := Aside0.mk (Kd.R_drew HO_171000.out)
             have n2_ := Aside0.mk (Kd.R_drew HO_175000.out)
             have n3_ := Aside0.mk (Kd.R_drew HO_180000.out)
             have n4_ := Aside0.mk (blk_drew BK152.out)
             have n5_ := Aside0.mk (blk_drew BK153.out)
             have n6_ := Aside0.mk (blk_drew BK166.out)
             have n7_ := Aside0.mk (blk_drew BK170.out)
             have n8_ := Aside0.mk (blk_drew BK174.out)
             have n9_ := Aside0.mk (blk_drew BK179.out)
             have n10_ := Aside0.mk (below_drew1 HB.out)
             clear HO_167000
             clear HO_171000
             clear HO_175000
             clear HO_180000
             clear BK152
             clear BK153
             clear BK166
             clear BK170
             clear BK174
             clear BK179
             clear HB
             have HO_167000 := n0_
             have HO_171000 := n1_
             have HO_175000 := n2_
             have HO_180000 := n3_
             have BK152 := n4_
             have BK153 := n5_
             have BK166 := n6_
             have BK170 := n7_
             have BK174 := n8_
             have BK179 := n9_
             have HB := n10_
             clear n0_ n1_ n2_ n3_ n4_ n5_ n6_ n7_ n8_ n9_ n10_
             refine start_ (n := 11) (S := fun w' => w'.cell? ⟨gb152, 0, none⟩ = some (.slice A0_0 l0_0.length c0_0) ∧ w'.cell? ⟨gb153, 0, none⟩ = some (.slice A1_0 l1_0.length c1_0)) (ds := []) #[false, false, false, false, false, false, false, false, false, false, false] (by kernel_rfl) rfl rfl ⟨(blk_cell BK152.out 0).trans rfl, (blk_cell BK153.out 0).trans rfl⟩ (fun hHeld => ?_); refine with_tabW laws_FnExactSketchJoin.tab31 laws_FnExactSketchJoin.bits31 (fun HT_ HW_ => ?_)
             generalize w182.drew = w183 at HO_167000 HO_171000 HO_175000 HO_180000 BK152 BK153 BK166 BK170 BK174 BK179 HB hHeld ⊢
             refine take_ (i := 0) (N := some 95) (v := ?_) (a' := ?_) #[true, false, false, false, false, false, false, false, false, false, false] rfl rfl (take_ofW HT_.out HW_.out (by kernel_rfl)) (fun _ _ _ h => h) (Or.inl ⟨by rfl, ?_⟩) hHeld ?_ ?_
             rotate_left
             ·
              rintro w' ⟨s0, s1⟩
              go_simp
              with_reducible rfl
             rotate_left
             ·
              simp only [Act.put, List.setIfInBounds_toArray, List.set_cons_zero, List.set_cons_succ, i64_w, i32_w]
              rfl
             refine take_ (i := 2) (N := some 97) (v := ?_) (a' := ?_) #[true, false, true, false, false, false, false, false, false, false, false] rfl rfl (take_ofW HT_.out HW_.out (by kernel_rfl)) (fun _ _ _ h => h) (Or.inl ⟨by rfl, ?_⟩) hHeld ?_ ?_
             rotate_left
             ·
              rintro w' ⟨s0, s1⟩
              go_simp
              with_reducible rfl
             rotate_left
             ·
              simp only [Act.put, List.setIfInBounds_toArray, List.set_cons_zero, List.set_cons_succ, i64_w, i32_w]
              rfl
             refine join_ (σ := Value × Value × Value × Nat) 2 #[true, true, true, true, true, true, true, true, true, false, false] (fun s_ => [(96, .agg #[s_.1]), (98, .agg #[s_.2.1]), (99, .tuple #[.agg #[s_.2.2.1], .int .i64 t206]), (15, .pointer (some ⟨s_.2.2.2, 0, none⟩)), (94, .tuple #[.agg #[s_.2.2.1], .int .i64 t206]), (100, .agg #[s_.2.2.1]), (101, .int .i64 t206)]) (fun s_ w' => (w'.cell? ⟨gb152, 0, none⟩ = some (.slice A0_0 l0_0.length c0_0) ∧ w'.cell? ⟨gb153, 0, none⟩ = some (.slice A1_0 l1_0.length c1_0)) ∧ (Kd.R (Kd.int .i64) 3 w' w.heap.size (fun k_ => some k_ ≠ (s_.2.1 : Value).ownBlock ∧ some k_ ≠ (s_.2.2.1 : Value).ownBlock ∧ some k_ ≠ (.slice Ao41 t162.length co41 : Value).ownBlock ∧ some k_ ≠ (.slice Ao47 t190.length co47 : Value).ownBlock ∧ some k_ ≠ (.slice Ao56 t192.length co56 : Value).ownBlock ∧ some k_ ≠ (.slice Ao65 t175.length co65 : Value).ownBlock) s_.1 t197) ∧ (Kd.R (Kd.int .i64) 3 w' w.heap.size (fun k_ => some k_ ≠ (s_.1 : Value).ownBlock ∧ some k_ ≠ (s_.2.2.1 : Value).ownBlock ∧ some k_ ≠ (.slice Ao41 t162.length co41 : Value).ownBlock ∧ some k_ ≠ (.slice Ao47 t190.length co47 : Value).ownBlock ∧ some k_ ≠ (.slice Ao56 t192.length co56 : Value).ownBlock ∧ some k_ ≠ (.slice Ao65 t175.length co65 : Value).ownBlock) s_.2.1 t200) ∧ (Kd.R (Kd.int .i64) 3 w' w.heap.size (fun k_ => some k_ ≠ (s_.1 : Value).ownBlock ∧ some k_ ≠ (s_.2.1 : Value).ownBlock ∧ some k_ ≠ (.slice Ao41 t162.length co41 : Value).ownBlock ∧ some k_ ≠ (.slice Ao47 t190.length co47 : Value).ownBlock ∧ some k_ ≠ (.slice Ao56 t192.length co56 : Value).ownBlock ∧ some k_ ≠ (.slice Ao65 t175.length co65 : Value).ownBlock) s_.2.2.1 t203) ∧ (Kd.R (Kd.int .i64) 3 w' w.heap.size (fun k_ => some k_ ≠ (s_.1 : Value).ownBlock ∧ some k_ ≠ (s_.2.1 : Value).ownBlock ∧ some k_ ≠ (s_.2.2.1 : Value).ownBlock ∧ some k_ ≠ (.slice Ao47 t190.length co47 : Value).ownBlock ∧ some k_ ≠ (.slice Ao56 t192.length co56 : Value).ownBlock ∧ some k_ ≠ (.slice Ao65 t175.length co65 : Value).ownBlock) (.slice Ao41 t162.length co41) t162) ∧ (Kd.R (Kd.int .i64) 3 w' w.heap.size (fun k_ => some k_ ≠ (s_.1 : Value).ownBlock ∧ some k_ ≠ (s_.2.1 : Value).ownBlock ∧ some k_ ≠ (s_.2.2.1 : Value).ownBlock ∧ some k_ ≠ (.slice Ao41 t162.length co41 : Value).ownBlock ∧ some k_ ≠ (.slice Ao56 t192.length co56 : Value).ownBlock ∧ some k_ ≠ (.slice Ao65 t175.length co65 : Value).ownBlock) (.slice Ao47 t190.length co47) t190) ∧ (Kd.R (Kd.int .i64) 3 w' w.heap.size (fun k_ => some k_ ≠ (s_.1 : Value).ownBlock ∧ some k_ ≠ (s_.2.1 : Value).ownBlock ∧ some k_ ≠ (s_.2.2.1 : Value).ownBlock ∧ some k_ ≠ (.slice Ao41 t162.length co41 : Value).ownBlock ∧ some k_ ≠ (.slice Ao47 t190.length co47 : Value).ownBlock ∧ some k_ ≠ (.slice Ao65 t175.length co65 : Value).ownBlock) (.slice Ao56 t192.length co56) t192) ∧ (Kd.R (Kd.int .i64) 3 w' w.heap.size (fun k_ => some k_ ≠ (s_.1 : Value).ownBlock ∧ some k_ ≠ (s_.2.1 : Value).ownBlock ∧ some k_ ≠ (s_.2.2.1 : Value).ownBlock ∧ some k_ ≠ (.slice Ao41 t162.length co41 : Value).ownBlock ∧ some k_ ≠ (.slice Ao47 t190.length co47 : Value).ownBlock ∧ some k_ ≠ (.slice Ao56 t192.length co56 : Value).ownBlock) (.slice Ao65 t175.length co65) t195) ∧ (w'.heap[gb152]? = some (.cells #[.slice A0_0 l0_0.length c0_0] 24 (0, 0))) ∧ (w'.heap[gb153]? = some (.cells #[.slice A1_0 l1_0.length c1_0] 24 (0, 0))) ∧ (w'.heap[gb166]? = some (.cells #[.slice Ao41 t162.length co41] 26 (0, 0))) ∧ (w'.heap[gb170]? = some (.cells #[.slice Ao47 t190.length co47] 26 (0, 0))) ∧ (w'.heap[gb174]? = some (.cells #[.slice Ao56 t192.length co56] 26 (0, 0))) ∧ (w'.heap[gb179]? = some (.cells #[.slice Ao65 t175.length co65] 26 (0, 0))) ∧ (w'.heap[s_.2.2.2]? = some (.cells #[.slice none 0 0] 26 (0, 0))) ∧ (w.heap.size ≤ s_.2.2.2) ∧ (w.heap.size ≤ s_.2.2.2) ∧ (gb152 ≠ s_.2.2.2) ∧ (s_.2.2.2 ≠ gb152) ∧ (gb153 ≠ s_.2.2.2) ∧ (s_.2.2.2 ≠ gb153) ∧ (gb166 ≠ s_.2.2.2) ∧ (s_.2.2.2 ≠ gb166) ∧ (gb170 ≠ s_.2.2.2) ∧ (s_.2.2.2 ≠ gb170) ∧ (gb174 ≠ s_.2.2.2) ∧ (s_.2.2.2 ≠ gb174) ∧ (gb179 ≠ s_.2.2.2) ∧ (s_.2.2.2 ≠ gb179) ∧ (Below w.heap.size w w')) ?_ ?_
             rotate_left
             ·
              intro hCont
              exact laws_FnExactSketchJoin.reg1 k A0_0 c0_0 l0_0 A1_0 c1_0 l1_0 r w hu24 hu26 HR0_0 HC0_0 HR1_0 HC1_0 t154 A3 c4b0 t155 A10 c11b0 t156 A19 t159 A20 t162 t165 A21 t167 A22 t171 A23 t175 t178 A24 gb152 w26 GW152 GE152 gb153 w27 GW153 GE153 NB152_153 NB153_152 hnb28 hnc28 hcz29_0 hfz29_0 w30 hcz31_0 hfz31_0 w32 w33 v157 v160 gb166 w40 hS_ GW166 GE166 NB152_166 NB166_152 NB153_166 NB166_153 Ao41 co41 hs42 hfs42 hns42_0 hns42_1 hms42_0 hms42_1 hnb43 hnc43 w45 gb170 w46 GW170 GE170 NB152_170 NB170_152 NB153_170 NB170_153 NB166_170 NB170_166 Ao47 co47 hnb48 hnc48 hnb49 hnc49 hnb50 hnc50 hnb52 hnc52 w54 gb174 w55 GW174 GE174 NB152_174 NB174_152 NB153_174 NB174_153 NB166_174 NB174_166 NB170_174 NB174_170 Ao56 co56 hnb57 hnc57 hnb58 hnc58 hnb59 hnc59 hnb60 hnc60 w63 gb179 w64 GW179 GE179 NB152_179 NB179_152 NB153_179 NB179_153 NB166_179 NB179_166 NB170_179 NB179_170 NB174_179 NB179_174 Ao65 co65 HO158 HO161 HO164 HO169 HO173 HO177 hnb66 hnc66 hnb67 hnc67 hnb68 hnc68 hnb69 hnc69 hnb70 hnc70 kj24 HJ24 t181 A99 A100 t185 A102 A103 t189 t190 A105 t191 t192 A106 w108 w109 Ao110 co110 w111 w112 w113 Ao114 co114 w115 hnb116 hnc116 hnb117 hnc117 hnb118 hnc118 hnb119 hnc119 hnb120 hnc120 w122 hnb123 hnc123 hnb124 hnc124 hnb125 hnc125 hnb126 hnc126 w128 HO183 HO187 wc u17 u18 u19 u20 u21 u22 u23 u24 u25 u26 u27 u28 u29 u30 u31 u32 u33 u34 u35 u36 u37 u38 u39 u40 u41 u42 u43 u44 u45 u46 u47 u48 u49 u50 u51 u52 u53 u54 u55 u56 u57 u58 u59 u60 u61 u62 u63 u64 u65 u66 u67 u68 u69 u70 u71 u72 u73 u74 u75 u76 u77 u78 u79 u80 u81 u83 u84 u85 u86 u87 u88 u89 u90 u91 u92 u93 u94 u95 u96 u97 u98 u99 u100 u101 u102 u103 u104 u105 u106 u107 u108 u109 u110 u111 u112 u113 u114 u115 u116 u117 u118 hl171000_106 hl175000_106 kj106 HJ106 t194 t195 A157 t196 A158 c159b0 c169b0 c169b1 t197 A170 t200 A171 t203 t206 A172 hnb174 hnc174 hnb175 hnc175 hnb176 hnc176 hnb177 hnc177 hnb178 hnc178 hcz179_0 hfz179_0 w180 hcz181_0 hfz181_0 w182 HT_ HW_ w183 HO_167000 HO_171000 HO_175000 HO_180000 BK152 BK153 BK166 BK170 BK174 BK179 HB hHeld hCont
             rintro ⟨v198, v201, v204, gb207⟩ w190 ⟨hS_, h0_, h1_, h2_, h3_, h4_, h5_, h6_, h7_, h8_, h9_, h10_, h11_, h12_, h13_, h14_, h15_, h16_, h17_, h18_, h19_, h20_, h21_, h22_, h23_, h24_, h25_, h26_, h27_, h28_⟩
             have n0_ : Aside0 (Kd.R (Kd.int .i64) 3 w190 w.heap.size (fun k_ => some k_ ≠ (v201 : Value).ownBlock ∧ some k_ ≠ (v204 : Value).ownBlock ∧ some k_ ≠ (.slice Ao41 t162.length co41 : Value).ownBlock ∧ some k_ ≠ (.slice Ao47 t190.length co47 : Value).ownBlock ∧ some k_ ≠ (.slice Ao56 t192.length co56 : Value).ownBlock ∧ some k_ ≠ (.slice Ao65 t175.length co65 : Value).ownBlock) v198 t197) := ⟨h0_⟩
             have n1_ : Aside0 (Kd.R (Kd.int .i64) 3 w190 w.heap.size (fun k_ => some k_ ≠ (v198 : Value).ownBlock ∧ some k_ ≠ (v204 : Value).ownBlock ∧ some k_ ≠ (.slice Ao41 t162.length co41 : Value).ownBlock ∧ some k_ ≠ (.slice Ao47 t190.length co47 : Value).ownBlock ∧ some k_ ≠ (.slice Ao56 t192.length co56 : Value).ownBlock ∧ some k_ ≠ (.slice Ao65 t175.length co65 : Value).ownBlock) v201 t200) := ⟨h1_⟩
             have n2_ : Aside0 (Kd.R (Kd.int .i64) 3 w190 w.heap.size (fun k_ => some k_ ≠ (v198 : Value).ownBlock ∧ some k_ ≠ (v201 : Value).ownBlock ∧ some k_ ≠ (.slice Ao41 t162.length co41 : Value).ownBlock ∧ some k_ ≠ (.slice Ao47 t190.length co47 : Value).ownBlock ∧ some k_ ≠ (.slice Ao56 t192.length co56 : Value).ownBlock ∧ some k_ ≠ (.slice Ao65 t175.length co65 : Value).ownBlock) v204 t203) := ⟨h2_⟩
             have n3_ : Aside0 (Kd.R (Kd.int .i64) 3 w190 w.heap.size (fun k_ => some k_ ≠ (v198 : Value).ownBlock ∧ some k_ ≠ (v201 : Value).ownBlock ∧ some k_ ≠ (v204 : Value).ownBlock ∧ some k_ ≠ (.slice Ao47 t190.length co47 : Value).ownBlock ∧ some k_ ≠ (.slice Ao56 t192.length co56 : Value).ownBlock ∧ some k_ ≠ (.slice Ao65 t175.length co65 : Value).ownBlock) (.slice Ao41 t162.length co41) t162) := ⟨h3_⟩
             have n4_ : Aside0 (Kd.R (Kd.int .i64) 3 w190 w.heap.size (fun k_ => some k_ ≠ (v198 : Value).ownBlock ∧ some k_ ≠ (v201 : Value).ownBlock ∧ some k_ ≠ (v204 : Value).ownBlock ∧ some k_ ≠ (.slice Ao41 t162.length co41 : Value).ownBlock ∧ some k_ ≠ (.slice Ao56 t192.length co56 : Value).ownBlock ∧ some k_ ≠ (.slice Ao65 t175.length co65 : Value).ownBlock) (.slice Ao47 t190.length co47) t190) := ⟨h4_⟩
             have n5_ : Aside0 (Kd.R (Kd.int .i64) 3 w190 w.heap.size (fun k_ => some k_ ≠ (v198 : Value).ownBlock ∧ some k_ ≠ (v201 : Value).ownBlock ∧ some k_ ≠ (v204 : Value).ownBlock ∧ some k_ ≠ (.slice Ao41 t162.length co41 : Value).ownBlock ∧ some k_ ≠ (.slice Ao47 t190.length co47 : Value).ownBlock ∧ some k_ ≠ (.slice Ao65 t175.length co65 : Value).ownBlock) (.slice Ao56 t192.length co56) t192) := ⟨h5_⟩
             have n6_ : Aside0 (Kd.R (Kd.int .i64) 3 w190 w.heap.size (fun k_ => some k_ ≠ (v198 : Value).ownBlock ∧ some k_ ≠ (v201 : Value).ownBlock ∧ some k_ ≠ (v204 : Value).ownBlock ∧ some k_ ≠ (.slice Ao41 t162.length co41 : Value).ownBlock ∧ some k_ ≠ (.slice Ao47 t190.length co47 : Value).ownBlock ∧ some k_ ≠ (.slice Ao56 t192.length co56 : Value).ownBlock) (.slice Ao65 t175.length co65) t195) := ⟨h6_⟩
             have n7_ : Aside0 (w190.heap[gb152]? = some (.cells #[.slice A0_0 l0_0.length c0_0] 24 (0, 0))) := ⟨h7_⟩
             have n8_ : Aside0 (w190.heap[gb153]? = some (.cells #[.slice A1_0 l1_0.length c1_0] 24 (0, 0))) := ⟨h8_⟩
             have n9_ : Aside0 (w190.heap[gb166]? = some (.cells #[.slice Ao41 t162.length co41] 26 (0, 0))) := ⟨h9_⟩
             have n10_ : Aside0 (w190.heap[gb170]? = some (.cells #[.slice Ao47 t190.length co47] 26 (0, 0))) := ⟨h10_⟩
             have n11_ : Aside0 (w190.heap[gb174]? = some (.cells #[.slice Ao56 t192.length co56] 26 (0, 0))) := ⟨h11_⟩
             have n12_ : Aside0 (w190.heap[gb179]? = some (.cells #[.slice Ao65 t175.length co65] 26 (0, 0))) := ⟨h12_⟩
             have n13_ : Aside0 (w190.heap[gb207]? = some (.cells #[.slice none 0 0] 26 (0, 0))) := ⟨h13_⟩
             have n14_ : Aside0 (w.heap.size ≤ gb207) := ⟨h14_⟩
             have n15_ : Aside0 (w.heap.size ≤ gb207) := ⟨h15_⟩
             have n16_ : Aside0 (gb152 ≠ gb207) := ⟨h16_⟩
             have n17_ : Aside0 (gb207 ≠ gb152) := ⟨h17_⟩
             have n18_ : Aside0 (gb153 ≠ gb207) := ⟨h18_⟩
             have n19_ : Aside0 (gb207 ≠ gb153) := ⟨h19_⟩
             have n20_ : Aside0 (gb166 ≠ gb207) := ⟨h20_⟩
             have n21_ : Aside0 (gb207 ≠ gb166) := ⟨h21_⟩
             have n22_ : Aside0 (gb170 ≠ gb207) := ⟨h22_⟩
             have n23_ : Aside0 (gb207 ≠ gb170) := ⟨h23_⟩
             have n24_ : Aside0 (gb174 ≠ gb207) := ⟨h24_⟩
             have n25_ : Aside0 (gb207 ≠ gb174) := ⟨h25_⟩
             have n26_ : Aside0 (gb179 ≠ gb207) := ⟨h26_⟩
             have n27_ : Aside0 (gb207 ≠ gb179) := ⟨h27_⟩
             have n28_ : Aside0 (Below w.heap.size w w190) := ⟨h28_⟩
             clear HO_167000
             clear HO_171000
             clear HO_175000
             clear HO_180000
             clear BK152
             clear BK153
             clear BK166
             clear BK170
             clear BK174
             clear BK179
             clear HB
             clear h0_ h1_ h2_ h3_ h4_ h5_ h6_ h7_ h8_ h9_ h10_ h11_ h12_ h13_ h14_ h15_ h16_ h17_ h18_ h19_ h20_ h21_ h22_ h23_ h24_ h25_ h26_ h27_ h28_
             have HO199 := n0_
             have HO202 := n1_
             have HO205 := n2_
             have HO_167000 := n3_
             have HO_171000 := n4_
             have HO_175000 := n5_
             have HO_180000 := n6_
             have BK152 := n7_
             have BK153 := n8_
             have BK166 := n9_
             have BK170 := n10_
             have BK174 := n11_
             have BK179 := n12_
             have BK207 := n13_
             have GW207 := n14_
             have GE207 := n15_
             have NB152_207 := n16_
             have NB207_152 := n17_
             have NB153_207 := n18_
             have NB207_153 := n19_
             have NB166_207 := n20_
             have NB207_166 := n21_
             have NB170_207 := n22_
             have NB207_170 := n23_
             have NB174_207 := n24_
             have NB207_174 := n25_
             have NB179_207 := n26_
             have NB207_179 := n27_
             have HB := n28_
             clear n0_ n1_ n2_ n3_ n4_ n5_ n6_ n7_ n8_ n9_ n10_ n11_ n12_ n13_ n14_ n15_ n16_ n17_ n18_ n19_ n20_ n21_ n22_ n23_ n24_ n25_ n26_ n27_ n28_
             have hHeld : w190.cell? ⟨gb152, 0, none⟩ = some (.slice A0_0 l0_0.length c0_0) ∧ w190.cell? ⟨gb153, 0, none⟩ = some (.slice A1_0 l1_0.length c1_0) := hS_
             obtain ⟨Ao191, co191, eo191⟩ := Kd.R_slice HO205.out
             (first | subst eo191 | (injection eo191 with f1_ f2_ f3_; have f4_ := f1_.symm; have f5_ := f3_.symm; clear f1_ f2_ f3_; subst f4_; subst f5_))
             refine norm_ (a' := ?_) ?_ ?_
             rotate_left
             ·
              simp only [putAll, Act.put, List.setIfInBounds_toArray, List.set_cons_zero, List.set_cons_succ]
              rfl
             refine one_ (i := 9) (N := none) #[true, true, true, true, true, true, true, true, true, true, false] rfl rfl (one_of HT_.out (by kernel_rfl)) (by decide) (fun K hK => ?_)
             have hs192 : w190.cell? ⟨gb207, 0, none⟩ = some (.slice none 0 0) := (blk_cell BK207.out 0).trans rfl
             have hfs192 := blk_frozen BK207.out 0
             have hns192_0 := NB152_207.out
             have hns192_1 := NB153_207.out
             have hns192_2 := NB166_207.out
             have hns192_3 := NB170_207.out
             have hns192_4 := NB174_207.out
             have hns192_5 := NB179_207.out
             have hms192_0 := NB207_152.out
             have hms192_1 := NB207_153.out
             have hms192_2 := NB207_166.out
             have hms192_3 := NB207_170.out
             have hms192_4 := NB207_174.out
             have hms192_5 := NB207_179.out
             refine skip_ (w1 := ?_) (by rfl) rfl ?_ ?_
             rotate_left
             ·
              go_simp
              rfl
             refine hK.out _ _ ⟨((cell_far (p := ⟨gb207, _, none⟩) NB152_207.out _).trans (hHeld.1)), ((cell_far (p := ⟨gb207, _, none⟩) NB153_207.out _).trans (hHeld.2))⟩ (fun hHeld => ?_)
             clear hK K
             refine pure_ (i := 10) (N := some 16) (v := ?_) (a' := ?_) #[true, true, true, true, true, true, true, true, true, true, true] rfl rfl (any_of HT_.out (by kernel_rfl)) (fun _ _ _ h => h) (Or.inl ⟨by rfl, ?_⟩) ?_ ?_
             rotate_left
             ·
              intro w'
              go_simp
              with_reducible rfl
             rotate_left
             ·
              simp only [Act.put, List.setIfInBounds_toArray, List.set_cons_zero, List.set_cons_succ, i64_w, i32_w]
              rfl
             refine done_ (done_of HT_.out (by kernel_rfl)) ?_
             go_upto_region 32 with (fail)
             go_cut [110] (fun v110 wc => ∃ (kq : Nat) (x110_172 : Bool), v110 = .bool x110_172 ∧ Aside0 (laws_FnExactSketchJoin.j2 kq t194 x110_172 t195 = some r) ∧ Aside0 (kq ≤ kj106) ∧ Aside0 (Kd.R (Kd.int .i64) 3 wc w.heap.size (fun k_ => some k_ ≠ ((.slice Ao47 t190.length co47) : Value).ownBlock ∧ some k_ ≠ ((.slice Ao56 t192.length co56) : Value).ownBlock ∧ some k_ ≠ ((.slice Ao65 t175.length co65) : Value).ownBlock ∧ some k_ ≠ ((.slice Ao191 t203.length co191) : Value).ownBlock) (.slice Ao41 t162.length co41) t162) ∧ Aside0 (Kd.R (Kd.int .i64) 3 wc w.heap.size (fun k_ => some k_ ≠ ((.slice Ao41 t162.length co41) : Value).ownBlock ∧ some k_ ≠ ((.slice Ao56 t192.length co56) : Value).ownBlock ∧ some k_ ≠ ((.slice Ao65 t175.length co65) : Value).ownBlock ∧ some k_ ≠ ((.slice Ao191 t203.length co191) : Value).ownBlock) (.slice Ao47 t190.length co47) t190) ∧ Aside0 (Kd.R (Kd.int .i64) 3 wc w.heap.size (fun k_ => some k_ ≠ ((.slice Ao41 t162.length co41) : Value).ownBlock ∧ some k_ ≠ ((.slice Ao47 t190.length co47) : Value).ownBlock ∧ some k_ ≠ ((.slice Ao65 t175.length co65) : Value).ownBlock ∧ some k_ ≠ ((.slice Ao191 t203.length co191) : Value).ownBlock) (.slice Ao56 t192.length co56) t192) ∧ Aside0 (Kd.R (Kd.int .i64) 3 wc w.heap.size (fun k_ => some k_ ≠ ((.slice Ao41 t162.length co41) : Value).ownBlock ∧ some k_ ≠ ((.slice Ao47 t190.length co47) : Value).ownBlock ∧ some k_ ≠ ((.slice Ao56 t192.length co56) : Value).ownBlock ∧ some k_ ≠ ((.slice Ao191 t203.length co191) : Value).ownBlock) (.slice Ao65 t175.length co65) t195) ∧ Aside0 (Kd.R (Kd.int .i64) 3 wc w.heap.size (fun k_ => some k_ ≠ ((.slice Ao41 t162.length co41) : Value).ownBlock ∧ some k_ ≠ ((.slice Ao47 t190.length co47) : Value).ownBlock ∧ some k_ ≠ ((.slice Ao56 t192.length co56) : Value).ownBlock ∧ some k_ ≠ ((.slice Ao65 t175.length co65) : Value).ownBlock) (.slice Ao191 t203.length co191) t203) ∧ Aside0 (wc.heap[gb152]? = some (.cells #[(.slice A0_0 l0_0.length c0_0)] 24 (0, 0))) ∧ Aside0 (wc.heap[gb153]? = some (.cells #[(.slice A1_0 l1_0.length c1_0)] 24 (0, 0))) ∧ Aside0 (wc.heap[gb166]? = some (.cells #[(.slice Ao41 t162.length co41)] 26 (0, 0))) ∧ Aside0 (wc.heap[gb170]? = some (.cells #[(.slice Ao47 t190.length co47)] 26 (0, 0))) ∧ Aside0 (wc.heap[gb174]? = some (.cells #[(.slice Ao56 t192.length co56)] 26 (0, 0))) ∧ Aside0 (wc.heap[gb179]? = some (.cells #[(.slice Ao65 t175.length co65)] 26 (0, 0))) ∧ Aside0 (wc.heap[gb207]? = some (.cells #[(.slice Ao191 t203.length co191)] 26 (0, 0))) ∧ Aside0 (Below w.heap.size w wc))
             case first =>
              have H := HC173.out
              clear HC173
              replace H := Option.bind_eq_some_iff.mp H
              obtain ⟨t208, A1930, H⟩ := H
              replace H : (if t208 = true then (laws_FnExactSketchJoin.j2 kj106 t194 (t206 != t165) t195) else (laws_FnExactSketchJoin.j2 kj106 t194 true t195)) = some r := H
              have A193 := Aside0.mk A1930
              clear A1930
              by_cases c194 : t208 = true
              ·
               subst c194
               have H1 : (laws_FnExactSketchJoin.j2 kj106 t194 (t206 != t165) t195) = some r := by rw [if_pos rfl] at H; exact H
               clear H
               have H := H1
               clear H1
               have H' := Aside0.mk H
               clear H
               have hnb195 := NB207_152.out
               have hnc195 := NB152_207.out
               have hnb196 := NB207_153.out
               have hnc196 := NB153_207.out
               have hnb197 := NB207_166.out
               have hnc197 := NB166_207.out
               have hnb198 := NB207_170.out
               have hnc198 := NB170_207.out
               have hnb199 := NB207_174.out
               have hnc199 := NB174_207.out
               have hnb200 := NB207_179.out
               have hnc200 := NB179_207.out
               have hcz201_0 : w190.cell? ⟨gb207, 0, none⟩ = some (.slice none 0 0) := (blk_cell BK207.out 0).trans rfl
               have hfz201_0 := blk_frozen BK207.out 0
               have hnb202 := NB166_152.out
               have hnc202 := NB152_166.out
               have hnb203 := NB166_153.out
               have hnc203 := NB153_166.out
               have hnb204 := NB166_170.out
               have hnc204 := NB170_166.out
               have hnb205 := NB166_174.out
               have hnc205 := NB174_166.out
               have hnb206 := NB166_179.out
               have hnc206 := NB179_166.out
               have hcz207_0 : w190.cell? ⟨gb166, 0, none⟩ = some (.slice Ao41 t162.length co41) := (blk_cell BK166.out 0).trans rfl
               have hfz207_0 := blk_frozen BK166.out 0
               go_wp2_with (first | ((with_reducible refine gate_callee (f := 13) rfl ?_); refine goesL_ (some 104) rfl rfl Try.func13 (by kernel_rfl) rfl #[.agg #[.slice Ao191 t203.length co191], .agg #[.slice Ao41 t162.length co41]] rfl (by (try simp only [List.map_toArray, List.map_cons, List.map_nil]); first | done | rfl | (simp only [List.length_drop, List.length_take]; rfl)) ?_; (with_reducible refine (laws_eqSketch.calls kj106 _ _ t203 _ _ t162 true _ ?side1 ?side2 ?side3 ?side4 A193.out).mono ?_); (case side1 => refine (Kd.R_reads' (e := 3) (base := w.heap.size) (ok := fun k_ => (some k_ ≠ (v198 : Value).ownBlock ∧ (some k_ ≠ (v201 : Value).ownBlock ∧ (some k_ ≠ (.slice Ao41 t162.length co41 : Value).ownBlock ∧ (some k_ ≠ (.slice Ao47 t190.length co47 : Value).ownBlock ∧ (some k_ ≠ (.slice Ao56 t192.length co56 : Value).ownBlock ∧ some k_ ≠ (.slice Ao65 t175.length co65 : Value).ownBlock)))))) (n := t203.length) (c := co191) ?_).2.2; exact (by (with_reducible repeat (first | apply zrA | apply zrN | apply zrD)); exact (Kd.R_mono (Kd.R_far (p := ⟨gb207, 0, none⟩) (Kd.R_types HO205.out BK207.out (by decide)) (fun _ hk => hk.2) (.slice Ao191 t203.length co191)) (fun _ h_ => h_.1)))); (case side2 => exact (Kd.R_reads' HO205.out).2.1); (case side3 => refine (Kd.R_reads' (e := 3) (base := w.heap.size) (ok := fun k_ => (some k_ ≠ (v198 : Value).ownBlock ∧ (some k_ ≠ (v201 : Value).ownBlock ∧ (some k_ ≠ (.slice Ao191 t203.length co191 : Value).ownBlock ∧ (some k_ ≠ (.slice Ao47 t190.length co47 : Value).ownBlock ∧ (some k_ ≠ (.slice Ao56 t192.length co56 : Value).ownBlock ∧ some k_ ≠ (.slice Ao65 t175.length co65 : Value).ownBlock)))))) (n := t162.length) (c := co41) ?_).2.2; exact (by (with_reducible repeat (first | apply zrA | apply zrN | apply zrD)); exact (Kd.R_mono (Kd.R_far (p := ⟨gb207, 0, none⟩) (Kd.R_types HO_167000.out BK207.out (by decide)) (fun _ hk => hk.2) (.slice Ao191 t203.length co191)) (fun _ h_ => h_.1)))); (case side4 => exact (Kd.R_reads' HO_167000.out).2.1); rintro e w208 ⟨rfl, hb⟩; refine ⟨_, rfl, ?_⟩; have n0_ := Aside0.mk (Kd.R_below (by (with_reducible repeat (first | apply zrA | apply zrN | apply zrD)); exact (Kd.R_mono (Kd.R_far (p := ⟨gb207, 0, none⟩) (Kd.R_types HO_167000.out BK207.out (by decide)) (fun _ hk => hk.2) (.slice Ao191 t203.length co191)) (fun _ h_ => h_.1))) hb); have n1_ := Aside0.mk (Kd.R_below (by (with_reducible repeat (first | apply zrA | apply zrN | apply zrD)); exact (Kd.R_mono (Kd.R_far (p := ⟨gb207, 0, none⟩) (Kd.R_types HO_171000.out BK207.out (by decide)) (fun _ hk => hk.2) (.slice Ao191 t203.length co191)) (fun _ h_ => h_.1))) hb); have n2_ := Aside0.mk (Kd.R_below (by (with_reducible repeat (first | apply zrA | apply zrN | apply zrD)); exact (Kd.R_mono (Kd.R_far (p := ⟨gb207, 0, none⟩) (Kd.R_types HO_175000.out BK207.out (by decide)) (fun _ hk => hk.2) (.slice Ao191 t203.length co191)) (fun _ h_ => h_.1))) hb); have n3_ := Aside0.mk (Kd.R_below (by (with_reducible repeat (first | apply zrA | apply zrN | apply zrD)); exact (Kd.R_mono (Kd.R_far (p := ⟨gb207, 0, none⟩) (Kd.R_types HO_180000.out BK207.out (by decide)) (fun _ hk => hk.2) (.slice Ao191 t203.length co191)) (fun _ h_ => h_.1))) hb); have n4_ := Aside0.mk (Kd.R_below (by (with_reducible repeat (first | apply zrA | apply zrN | apply zrD)); exact (Kd.R_mono (Kd.R_far (p := ⟨gb207, 0, none⟩) (Kd.R_types HO199.out BK207.out (by decide)) (fun _ hk => hk.2) (.slice Ao191 t203.length co191)) (fun _ h_ => h_.1))) hb); have n5_ := Aside0.mk (Kd.R_below (by (with_reducible repeat (first | apply zrA | apply zrN | apply zrD)); exact (Kd.R_mono (Kd.R_far (p := ⟨gb207, 0, none⟩) (Kd.R_types HO202.out BK207.out (by decide)) (fun _ hk => hk.2) (.slice Ao191 t203.length co191)) (fun _ h_ => h_.1))) hb); have n6_ := Aside0.mk (Kd.R_below (by (with_reducible repeat (first | apply zrA | apply zrN | apply zrD)); exact (Kd.R_mono (Kd.R_far (p := ⟨gb207, 0, none⟩) (Kd.R_types HO205.out BK207.out (by decide)) (fun _ hk => hk.2) (.slice Ao191 t203.length co191)) (fun _ h_ => h_.1))) hb); have n7_ := Aside0.mk (blk_below (g := gb152) (o := .cells #[.slice A0_0 l0_0.length c0_0] 24 (0, 0)) (by (with_reducible repeat (first | refine zbN ?_ _ | refine zbD ?_ | refine zbA ?_ _)); refine blk_far ?_ NB152_207.out _; (with_reducible repeat (first | refine zbN ?_ _ | refine zbD ?_ | refine zbA ?_ _)); exact BK152.out) hb); have n8_ := Aside0.mk (blk_below (g := gb153) (o := .cells #[.slice A1_0 l1_0.length c1_0] 24 (0, 0)) (by (with_reducible repeat (first | refine zbN ?_ _ | refine zbD ?_ | refine zbA ?_ _)); refine blk_far ?_ NB153_207.out _; (with_reducible repeat (first | refine zbN ?_ _ | refine zbD ?_ | refine zbA ?_ _)); exact BK153.out) hb); have n9_ := Aside0.mk (blk_below (g := gb166) (o := .cells #[.slice Ao41 t162.length co41] 26 (0, 0)) (by (with_reducible repeat (first | refine zbN ?_ _ | refine zbD ?_ | refine zbA ?_ _)); refine blk_far ?_ NB166_207.out _; (with_reducible repeat (first | refine zbN ?_ _ | refine zbD ?_ | refine zbA ?_ _)); exact BK166.out) hb); have n10_ := Aside0.mk (blk_below (g := gb170) (o := .cells #[.slice Ao47 t190.length co47] 26 (0, 0)) (by (with_reducible repeat (first | refine zbN ?_ _ | refine zbD ?_ | refine zbA ?_ _)); refine blk_far ?_ NB170_207.out _; (with_reducible repeat (first | refine zbN ?_ _ | refine zbD ?_ | refine zbA ?_ _)); exact BK170.out) hb); have n11_ := Aside0.mk (blk_below (g := gb174) (o := .cells #[.slice Ao56 t192.length co56] 26 (0, 0)) (by (with_reducible repeat (first | refine zbN ?_ _ | refine zbD ?_ | refine zbA ?_ _)); refine blk_far ?_ NB174_207.out _; (with_reducible repeat (first | refine zbN ?_ _ | refine zbD ?_ | refine zbA ?_ _)); exact BK174.out) hb); have n12_ := Aside0.mk (blk_below (g := gb179) (o := .cells #[.slice Ao65 t175.length co65] 26 (0, 0)) (by (with_reducible repeat (first | refine zbN ?_ _ | refine zbD ?_ | refine zbA ?_ _)); refine blk_far ?_ NB179_207.out _; (with_reducible repeat (first | refine zbN ?_ _ | refine zbD ?_ | refine zbA ?_ _)); exact BK179.out) hb); have n13_ := Aside0.mk (blk_below (g := gb207) (o := .cells #[.slice Ao191 t203.length co191] 26 (0, 0)) (by (with_reducible repeat (first | refine zbN ?_ _ | refine zbD ?_ | refine zbA ?_ _)); refine blk_put (cs := #[.slice none 0 0]) ?_ 0 _ rfl; (with_reducible repeat (first | refine zbN ?_ _ | refine zbD ?_ | refine zbA ?_ _)); exact BK207.out) hb); have n14_ := Aside0.mk (below_step (by repeat (first | (with_reducible first | exact HB.out | apply zwA | apply zwN | apply zwD | refine below_set ?_ GE152.out | refine below_set ?_ GE153.out | refine below_set ?_ GE166.out | refine below_set ?_ GE170.out | refine below_set ?_ GE174.out | refine below_set ?_ GE179.out | refine below_set ?_ GE207.out) | exact HB.out)) hb); clear HO_167000; clear HO_171000; clear HO_175000; clear HO_180000; clear HO199; clear HO202; clear HO205; clear BK152; clear BK153; clear BK166; clear BK170; clear BK174; clear BK179; clear BK207; clear HB; have HO_167000 := n0_; have HO_171000 := n1_; have HO_175000 := n2_; have HO_180000 := n3_; have HO199 := n4_; have HO202 := n5_; have HO205 := n6_; have BK152 := n7_; have BK153 := n8_; have BK166 := n9_; have BK170 := n10_; have BK174 := n11_; have BK179 := n12_; have BK207 := n13_; have HB := n14_; clear n0_ n1_ n2_ n3_ n4_ n5_ n6_ n7_ n8_ n9_ n10_ n11_ n12_ n13_ n14_; (try clear hb); (try clear hb2); (try clear hk); (try clear hi)))
               go_meet
               case rel => exact ⟨_, ((t206 != t165)), (by first | rfl | (simp; done) | (simp [*]; done)), H', ⟨by have := HJ24.out; have := HJ106.out; first | omega | exact Nat.le_refl _⟩, ⟨by (try simp only [hl171000_106]); (try simp only [hl175000_106]); (with_reducible repeat (first | apply zrA | apply zrN | apply zrD)); exact Kd.R_mono HO_167000.out (fun _ hk => ⟨hk.2.2.2.1, ⟨hk.2.2.2.2.1, ⟨hk.2.2.2.2.2, hk.2.2.1⟩⟩⟩)⟩, ⟨by (try simp only [hl171000_106]); (try simp only [hl175000_106]); (with_reducible repeat (first | apply zrA | apply zrN | apply zrD)); exact Kd.R_mono HO_171000.out (fun _ hk => ⟨hk.2.2.2.1, ⟨hk.2.2.2.2.1, ⟨hk.2.2.2.2.2, hk.2.2.1⟩⟩⟩)⟩, ⟨by (try simp only [hl171000_106]); (try simp only [hl175000_106]); (with_reducible repeat (first | apply zrA | apply zrN | apply zrD)); exact Kd.R_mono HO_175000.out (fun _ hk => ⟨hk.2.2.2.1, ⟨hk.2.2.2.2.1, ⟨hk.2.2.2.2.2, hk.2.2.1⟩⟩⟩)⟩, ⟨by (try simp only [hl171000_106]); (try simp only [hl175000_106]); (with_reducible repeat (first | apply zrA | apply zrN | apply zrD)); exact Kd.R_mono HO_180000.out (fun _ hk => ⟨hk.2.2.2.1, ⟨hk.2.2.2.2.1, ⟨hk.2.2.2.2.2, hk.2.2.1⟩⟩⟩)⟩, ⟨by (try simp only [hl171000_106]); (try simp only [hl175000_106]); (with_reducible repeat (first | apply zrA | apply zrN | apply zrD)); exact Kd.R_mono HO205.out (fun _ hk => ⟨hk.2.2.1, ⟨hk.2.2.2.1, ⟨hk.2.2.2.2.1, hk.2.2.2.2.2⟩⟩⟩)⟩, ⟨by (try simp only [hl171000_106]); (try simp only [hl175000_106]); (with_reducible repeat (first | refine zbN ?_ _ | refine zbD ?_ | refine zbA ?_ _)); exact BK152.out⟩, ⟨by (try simp only [hl171000_106]); (try simp only [hl175000_106]); (with_reducible repeat (first | refine zbN ?_ _ | refine zbD ?_ | refine zbA ?_ _)); exact BK153.out⟩, ⟨by (try simp only [hl171000_106]); (try simp only [hl175000_106]); (with_reducible repeat (first | refine zbN ?_ _ | refine zbD ?_ | refine zbA ?_ _)); exact BK166.out⟩, ⟨by (try simp only [hl171000_106]); (try simp only [hl175000_106]); (with_reducible repeat (first | refine zbN ?_ _ | refine zbD ?_ | refine zbA ?_ _)); exact BK170.out⟩, ⟨by (try simp only [hl171000_106]); (try simp only [hl175000_106]); (with_reducible repeat (first | refine zbN ?_ _ | refine zbD ?_ | refine zbA ?_ _)); exact BK174.out⟩, ⟨by (try simp only [hl171000_106]); (try simp only [hl175000_106]); (with_reducible repeat (first | refine zbN ?_ _ | refine zbD ?_ | refine zbA ?_ _)); exact BK179.out⟩, ⟨by (try simp only [hl171000_106]); (try simp only [hl175000_106]); (with_reducible repeat (first | refine zbN ?_ _ | refine zbD ?_ | refine zbA ?_ _)); exact BK207.out⟩, ⟨by repeat (first | (with_reducible first | exact HB.out | apply zwA | apply zwN | apply zwD | refine below_set ?_ GE152.out | refine below_set ?_ GE153.out | refine below_set ?_ GE166.out | refine below_set ?_ GE170.out | refine below_set ?_ GE174.out | refine below_set ?_ GE179.out | refine below_set ?_ GE207.out) | exact HB.out)⟩⟩
              ·
               replace c194 := Bool.eq_false_iff.mpr c194
               subst c194
               have H1 : (laws_FnExactSketchJoin.j2 kj106 t194 true t195) = some r := by rw [if_neg (show ¬ (false = true) by decide)] at H; exact H
               clear H
               have H := H1
               clear H1
               have H' := Aside0.mk H
               clear H
               have hnb209 := NB207_152.out
               have hnc209 := NB152_207.out
               have hnb210 := NB207_153.out
               have hnc210 := NB153_207.out
               have hnb211 := NB207_166.out
               have hnc211 := NB166_207.out
               have hnb212 := NB207_170.out
               have hnc212 := NB170_207.out
               have hnb213 := NB207_174.out
               have hnc213 := NB174_207.out
               have hnb214 := NB207_179.out
               have hnc214 := NB179_207.out
               have hcz215_0 : w190.cell? ⟨gb207, 0, none⟩ = some (.slice none 0 0) := (blk_cell BK207.out 0).trans rfl
               have hfz215_0 := blk_frozen BK207.out 0
               have hnb216 := NB166_152.out
               have hnc216 := NB152_166.out
               have hnb217 := NB166_153.out
               have hnc217 := NB153_166.out
               have hnb218 := NB166_170.out
               have hnc218 := NB170_166.out
               have hnb219 := NB166_174.out
               have hnc219 := NB174_166.out
               have hnb220 := NB166_179.out
               have hnc220 := NB179_166.out
               have hcz221_0 : w190.cell? ⟨gb166, 0, none⟩ = some (.slice Ao41 t162.length co41) := (blk_cell BK166.out 0).trans rfl
               have hfz221_0 := blk_frozen BK166.out 0
               go_wp2_with (first | ((with_reducible refine gate_callee (f := 13) rfl ?_); refine goesL_ (some 104) rfl rfl Try.func13 (by kernel_rfl) rfl #[.agg #[.slice Ao191 t203.length co191], .agg #[.slice Ao41 t162.length co41]] rfl (by (try simp only [List.map_toArray, List.map_cons, List.map_nil]); first | done | rfl | (simp only [List.length_drop, List.length_take]; rfl)) ?_; (with_reducible refine (laws_eqSketch.calls kj106 _ _ t203 _ _ t162 false _ ?side1 ?side2 ?side3 ?side4 A193.out).mono ?_); (case side1 => refine (Kd.R_reads' (e := 3) (base := w.heap.size) (ok := fun k_ => (some k_ ≠ (v198 : Value).ownBlock ∧ (some k_ ≠ (v201 : Value).ownBlock ∧ (some k_ ≠ (.slice Ao41 t162.length co41 : Value).ownBlock ∧ (some k_ ≠ (.slice Ao47 t190.length co47 : Value).ownBlock ∧ (some k_ ≠ (.slice Ao56 t192.length co56 : Value).ownBlock ∧ some k_ ≠ (.slice Ao65 t175.length co65 : Value).ownBlock)))))) (n := t203.length) (c := co191) ?_).2.2; exact (by (with_reducible repeat (first | apply zrA | apply zrN | apply zrD)); exact (Kd.R_mono (Kd.R_far (p := ⟨gb207, 0, none⟩) (Kd.R_types HO205.out BK207.out (by decide)) (fun _ hk => hk.2) (.slice Ao191 t203.length co191)) (fun _ h_ => h_.1)))); (case side2 => exact (Kd.R_reads' HO205.out).2.1); (case side3 => refine (Kd.R_reads' (e := 3) (base := w.heap.size) (ok := fun k_ => (some k_ ≠ (v198 : Value).ownBlock ∧ (some k_ ≠ (v201 : Value).ownBlock ∧ (some k_ ≠ (.slice Ao191 t203.length co191 : Value).ownBlock ∧ (some k_ ≠ (.slice Ao47 t190.length co47 : Value).ownBlock ∧ (some k_ ≠ (.slice Ao56 t192.length co56 : Value).ownBlock ∧ some k_ ≠ (.slice Ao65 t175.length co65 : Value).ownBlock)))))) (n := t162.length) (c := co41) ?_).2.2; exact (by (with_reducible repeat (first | apply zrA | apply zrN | apply zrD)); exact (Kd.R_mono (Kd.R_far (p := ⟨gb207, 0, none⟩) (Kd.R_types HO_167000.out BK207.out (by decide)) (fun _ hk => hk.2) (.slice Ao191 t203.length co191)) (fun _ h_ => h_.1)))); (case side4 => exact (Kd.R_reads' HO_167000.out).2.1); rintro e w222 ⟨rfl, hb⟩; refine ⟨_, rfl, ?_⟩; have n0_ := Aside0.mk (Kd.R_below (by (with_reducible repeat (first | apply zrA | apply zrN | apply zrD)); exact (Kd.R_mono (Kd.R_far (p := ⟨gb207, 0, none⟩) (Kd.R_types HO_167000.out BK207.out (by decide)) (fun _ hk => hk.2) (.slice Ao191 t203.length co191)) (fun _ h_ => h_.1))) hb); have n1_ := Aside0.mk (Kd.R_below (by (with_reducible repeat (first | apply zrA | apply zrN | apply zrD)); exact (Kd.R_mono (Kd.R_far (p := ⟨gb207, 0, none⟩) (Kd.R_types HO_171000.out BK207.out (by decide)) (fun _ hk => hk.2) (.slice Ao191 t203.length co191)) (fun _ h_ => h_.1))) hb); have n2_ := Aside0.mk (Kd.R_below (by (with_reducible repeat (first | apply zrA | apply zrN | apply zrD)); exact (Kd.R_mono (Kd.R_far (p := ⟨gb207, 0, none⟩) (Kd.R_types HO_175000.out BK207.out (by decide)) (fun _ hk => hk.2) (.slice Ao191 t203.length co191)) (fun _ h_ => h_.1))) hb); have n3_ := Aside0.mk (Kd.R_below (by (with_reducible repeat (first | apply zrA | apply zrN | apply zrD)); exact (Kd.R_mono (Kd.R_far (p := ⟨gb207, 0, none⟩) (Kd.R_types HO_180000.out BK207.out (by decide)) (fun _ hk => hk.2) (.slice Ao191 t203.length co191)) (fun _ h_ => h_.1))) hb); have n4_ := Aside0.mk (Kd.R_below (by (with_reducible repeat (first | apply zrA | apply zrN | apply zrD)); exact (Kd.R_mono (Kd.R_far (p := ⟨gb207, 0, none⟩) (Kd.R_types HO199.out BK207.out (by decide)) (fun _ hk => hk.2) (.slice Ao191 t203.length co191)) (fun _ h_ => h_.1))) hb); have n5_ := Aside0.mk (Kd.R_below (by (with_reducible repeat (first | apply zrA | apply zrN | apply zrD)); exact (Kd.R_mono (Kd.R_far (p := ⟨gb207, 0, none⟩) (Kd.R_types HO202.out BK207.out (by decide)) (fun _ hk => hk.2) (.slice Ao191 t203.length co191)) (fun _ h_ => h_.1))) hb); have n6_ := Aside0.mk (Kd.R_below (by (with_reducible repeat (first | apply zrA | apply zrN | apply zrD)); exact (Kd.R_mono (Kd.R_far (p := ⟨gb207, 0, none⟩) (Kd.R_types HO205.out BK207.out (by decide)) (fun _ hk => hk.2) (.slice Ao191 t203.length co191)) (fun _ h_ => h_.1))) hb); have n7_ := Aside0.mk (blk_below (g := gb152) (o := .cells #[.slice A0_0 l0_0.length c0_0] 24 (0, 0)) (by (with_reducible repeat (first | refine zbN ?_ _ | refine zbD ?_ | refine zbA ?_ _)); refine blk_far ?_ NB152_207.out _; (with_reducible repeat (first | refine zbN ?_ _ | refine zbD ?_ | refine zbA ?_ _)); exact BK152.out) hb); have n8_ := Aside0.mk (blk_below (g := gb153) (o := .cells #[.slice A1_0 l1_0.length c1_0] 24 (0, 0)) (by (with_reducible repeat (first | refine zbN ?_ _ | refine zbD ?_ | refine zbA ?_ _)); refine blk_far ?_ NB153_207.out _; (with_reducible repeat (first | refine zbN ?_ _ | refine zbD ?_ | refine zbA ?_ _)); exact BK153.out) hb); have n9_ := Aside0.mk (blk_below (g := gb166) (o := .cells #[.slice Ao41 t162.length co41] 26 (0, 0)) (by (with_reducible repeat (first | refine zbN ?_ _ | refine zbD ?_ | refine zbA ?_ _)); refine blk_far ?_ NB166_207.out _; (with_reducible repeat (first | refine zbN ?_ _ | refine zbD ?_ | refine zbA ?_ _)); exact BK166.out) hb); have n10_ := Aside0.mk (blk_below (g := gb170) (o := .cells #[.slice Ao47 t190.length co47] 26 (0, 0)) (by (with_reducible repeat (first | refine zbN ?_ _ | refine zbD ?_ | refine zbA ?_ _)); refine blk_far ?_ NB170_207.out _; (with_reducible repeat (first | refine zbN ?_ _ | refine zbD ?_ | refine zbA ?_ _)); exact BK170.out) hb); have n11_ := Aside0.mk (blk_below (g := gb174) (o := .cells #[.slice Ao56 t192.length co56] 26 (0, 0)) (by (with_reducible repeat (first | refine zbN ?_ _ | refine zbD ?_ | refine zbA ?_ _)); refine blk_far ?_ NB174_207.out _; (with_reducible repeat (first | refine zbN ?_ _ | refine zbD ?_ | refine zbA ?_ _)); exact BK174.out) hb); have n12_ := Aside0.mk (blk_below (g := gb179) (o := .cells #[.slice Ao65 t175.length co65] 26 (0, 0)) (by (with_reducible repeat (first | refine zbN ?_ _ | refine zbD ?_ | refine zbA ?_ _)); refine blk_far ?_ NB179_207.out _; (with_reducible repeat (first | refine zbN ?_ _ | refine zbD ?_ | refine zbA ?_ _)); exact BK179.out) hb); have n13_ := Aside0.mk (blk_below (g := gb207) (o := .cells #[.slice Ao191 t203.length co191] 26 (0, 0)) (by (with_reducible repeat (first | refine zbN ?_ _ | refine zbD ?_ | refine zbA ?_ _)); refine blk_put (cs := #[.slice none 0 0]) ?_ 0 _ rfl; (with_reducible repeat (first | refine zbN ?_ _ | refine zbD ?_ | refine zbA ?_ _)); exact BK207.out) hb); have n14_ := Aside0.mk (below_step (by repeat (first | (with_reducible first | exact HB.out | apply zwA | apply zwN | apply zwD | refine below_set ?_ GE152.out | refine below_set ?_ GE153.out | refine below_set ?_ GE166.out | refine below_set ?_ GE170.out | refine below_set ?_ GE174.out | refine below_set ?_ GE179.out | refine below_set ?_ GE207.out) | exact HB.out)) hb); clear HO_167000; clear HO_171000; clear HO_175000; clear HO_180000; clear HO199; clear HO202; clear HO205; clear BK152; clear BK153; clear BK166; clear BK170; clear BK174; clear BK179; clear BK207; clear HB; have HO_167000 := n0_; have HO_171000 := n1_; have HO_175000 := n2_; have HO_180000 := n3_; have HO199 := n4_; have HO202 := n5_; have HO205 := n6_; have BK152 := n7_; have BK153 := n8_; have BK166 := n9_; have BK170 := n10_; have BK174 := n11_; have BK179 := n12_; have BK207 := n13_; have HB := n14_; clear n0_ n1_ n2_ n3_ n4_ n5_ n6_ n7_ n8_ n9_ n10_ n11_ n12_ n13_ n14_; (try clear hb); (try clear hb2); (try clear hk); (try clear hi)))
               go_meet
               case rel => exact ⟨_, (true), (by first | rfl | (simp; done) | (simp [*]; done)), H', ⟨by have := HJ24.out; have := HJ106.out; first | omega | exact Nat.le_refl _⟩, ⟨by (try simp only [hl171000_106]); (try simp only [hl175000_106]); (with_reducible repeat (first | apply zrA | apply zrN | apply zrD)); exact Kd.R_mono HO_167000.out (fun _ hk => ⟨hk.2.2.2.1, ⟨hk.2.2.2.2.1, ⟨hk.2.2.2.2.2, hk.2.2.1⟩⟩⟩)⟩, ⟨by (try simp only [hl171000_106]); (try simp only [hl175000_106]); (with_reducible repeat (first | apply zrA | apply zrN | apply zrD)); exact Kd.R_mono HO_171000.out (fun _ hk => ⟨hk.2.2.2.1, ⟨hk.2.2.2.2.1, ⟨hk.2.2.2.2.2, hk.2.2.1⟩⟩⟩)⟩, ⟨by (try simp only [hl171000_106]); (try simp only [hl175000_106]); (with_reducible repeat (first | apply zrA | apply zrN | apply zrD)); exact Kd.R_mono HO_175000.out (fun _ hk => ⟨hk.2.2.2.1, ⟨hk.2.2.2.2.1, ⟨hk.2.2.2.2.2, hk.2.2.1⟩⟩⟩)⟩, ⟨by (try simp only [hl171000_106]); (try simp only [hl175000_106]); (with_reducible repeat (first | apply zrA | apply zrN | apply zrD)); exact Kd.R_mono HO_180000.out (fun _ hk => ⟨hk.2.2.2.1, ⟨hk.2.2.2.2.1, ⟨hk.2.2.2.2.2, hk.2.2.1⟩⟩⟩)⟩, ⟨by (try simp only [hl171000_106]); (try simp only [hl175000_106]); (with_reducible repeat (first | apply zrA | apply zrN | apply zrD)); exact Kd.R_mono HO205.out (fun _ hk => ⟨hk.2.2.1, ⟨hk.2.2.2.1, ⟨hk.2.2.2.2.1, hk.2.2.2.2.2⟩⟩⟩)⟩, ⟨by (try simp only [hl171000_106]); (try simp only [hl175000_106]); (with_reducible repeat (first | refine zbN ?_ _ | refine zbD ?_ | refine zbA ?_ _)); exact BK152.out⟩, ⟨by (try simp only [hl171000_106]); (try simp only [hl175000_106]); (with_reducible repeat (first | refine zbN ?_ _ | refine zbD ?_ | refine zbA ?_ _)); exact BK153.out⟩, ⟨by (try simp only [hl171000_106]); (try simp only [hl175000_106]); (with_reducible repeat (first | refine zbN ?_ _ | refine zbD ?_ | refine zbA ?_ _)); exact BK166.out⟩, ⟨by (try simp only [hl171000_106]); (try simp only [hl175000_106]); (with_reducible repeat (first | refine zbN ?_ _ | refine zbD ?_ | refine zbA ?_ _)); exact BK170.out⟩, ⟨by (try simp only [hl171000_106]); (try simp only [hl175000_106]); (with_reducible repeat (first | refine zbN ?_ _ | refine zbD ?_ | refine zbA ?_ _)); exact BK174.out⟩, ⟨by (try simp only [hl171000_106]); (try simp only [hl175000_106]); (with_reducible repeat (first | refine zbN ?_ _ | refine zbD ?_ | refine zbA ?_ _)); exact BK179.out⟩, ⟨by (try simp only [hl171000_106]); (try simp only [hl175000_106]); (with_reducible repeat (first | refine zbN ?_ _ | refine zbD ?_ | refine zbA ?_ _)); exact BK207.out⟩, ⟨by repeat (first | (with_reducible first | exact HB.out | apply zwA | apply zwN | apply zwD | refine below_set ?_ GE152.out | refine below_set ?_ GE153.out | refine below_set ?_ GE166.out | refine below_set ?_ GE170.out | refine below_set ?_ GE174.out | refine below_set ?_ GE179.out | refine below_set ?_ GE207.out) | exact HB.out)⟩⟩
             case rest =>
              clear HC173
              try clear c1
              try clear c2
              try clear p2
              try clear c11
              try clear c12
              try clear c13
              try clear c19
              try clear c20
              try clear c21
              try clear c22
              try clear c194
              try clear c195
              try clear c196
              try clear c197
              try clear c198
              try clear c199
              try clear c200
              try clear c202
              try clear c203
              try clear c204
              try clear c205
              try clear c206
              try clear c209
              try clear c210
              try clear c211
              try clear c212
              try clear c213
              try clear c214
              try clear c216
              try clear c217
              try clear c218
              try clear c219
              try clear c220
              try clear hcz201_0
              try clear hcz207_0
              try clear hcz215_0
              try clear hcz221_0
              try clear hfz201_0
              try clear hfz207_0
              try clear hfz215_0
              try clear hfz221_0
              obtain ⟨kq, x110_172, rfl, HA, HJ172, HO_167000, HO_171000, HO_175000, HO_180000, HO_208000, BK152, BK153, BK166, BK170, BK174, BK179, BK207, HB⟩ := hcut
              have hl180000_172 := (Kd.R_reads' HO_180000.out).1
              rw [hl180000_172] at HO_180000
              (try simp only [hl180000_172])
              (try simp only [hl180000_172] at BK152)
              (try simp only [hl180000_172] at BK153)
              (try simp only [hl180000_172] at BK166)
              (try simp only [hl180000_172] at BK170)
              (try simp only [hl180000_172] at BK174)
              (try simp only [hl180000_172] at BK179)
              (try simp only [hl180000_172] at BK207)
              (try simp only [hl180000_172] at HO_167000)
              (try simp only [hl180000_172] at HO_171000)
              (try simp only [hl180000_172] at HO_175000)
              (try simp only [hl180000_172] at HO_208000)
              cases kq with
              | zero => exact absurd HA.out (by simp [laws_FnExactSketchJoin.j2])
              | succ kj172 =>
               have H := HA.out
               clear HA
               simp only [laws_FnExactSketchJoin.j2] at H
               by_cases c223 : x110_172 = true
               ·
                subst c223
                have H1 : (some false) = some r := by rw [if_pos rfl] at H; exact H
                clear H
                have H := H1
                clear H1
                obtain rfl := Option.some.inj H
                go_wp2
                go_ret
                exact ⟨by first | rfl | (simp [errW_none, errW_some] <;> rfl) | (simp [*, errW_none, errW_some] <;> rfl), by repeat (first | (with_reducible first | exact HB.out | apply zwA | apply zwN | apply zwD | refine below_set ?_ GE152.out | refine below_set ?_ GE153.out | refine below_set ?_ GE166.out | refine below_set ?_ GE170.out | refine below_set ?_ GE174.out | refine below_set ?_ GE179.out | refine below_set ?_ GE207.out) | exact HB.out)⟩
               ·
                replace c223 := Bool.eq_false_iff.mpr c223
                subst c223
                have H1 : ((laws_heldSketch.f kj172 t195 1).bind fun t209 => (if t209 < 0 then (some false) else (if t209 = t194 then (some true) else (some false)))) = some r := by rw [if_neg (show ¬ (false = true) by decide)] at H; exact H
                clear H
                have H := H1
                clear H1
                replace H := Option.bind_eq_some_iff.mp H
                obtain ⟨t209, A2240, H⟩ := H
                replace H : (if t209 < 0 then (some false) else (if t209 = t194 then (some true) else (some false))) = some r := H
                have A224 := Aside0.mk A2240
                clear A2240
                by_cases c225 : t209 < 0
                ·
                 rw [if_pos c225] at H
                 have c225b0 : decide (t209 < 0) = true := decide_eq_true c225
                 clear c225
                 obtain rfl := Option.some.inj H
                 have hnb226 := NB179_152.out
                 have hnc226 := NB152_179.out
                 have hnb227 := NB179_153.out
                 have hnc227 := NB153_179.out
                 have hnb228 := NB179_166.out
                 have hnc228 := NB166_179.out
                 have hnb229 := NB179_170.out
                 have hnc229 := NB170_179.out
                 have hnb230 := NB179_174.out
                 have hnc230 := NB174_179.out
                 have hnb231 := NB179_207.out
                 have hnc231 := NB207_179.out
                 have hcz232_0 : wc.cell? ⟨gb179, 0, none⟩ = some (.slice Ao65 t195.length co65) := (blk_cell BK179.out 0).trans rfl
                 have hfz232_0 := blk_frozen BK179.out 0
                 go_wp2_with (first | ((with_reducible refine gate_callee (f := 15) rfl ?_); refine goesL_ (some 113) rfl rfl Try.func15 (by kernel_rfl) rfl #[.agg #[.slice Ao65 t195.length co65], .int .i64 1] rfl (by (try simp only [List.map_toArray, List.map_cons, List.map_nil]); first | done | rfl | (simp only [List.length_drop, List.length_take]; rfl)) ?_; (with_reducible refine (laws_heldSketch.calls kj172 _ _ t195 1 t209 _ ?side1 ?side2 A224.out).mono ?_); (case side1 => repeat (first | exact (Kd.R_reads' HO_180000.out).2.2 | (with_reducible refine Kd.C_alloc ?_ _) | (with_reducible refine Kd.C_drewN ?_ _) | (with_reducible refine Kd.C_drew ?_))); (case side2 => exact (Kd.R_reads' HO_180000.out).2.1); rintro e w233 ⟨rfl, hb⟩; refine ⟨_, rfl, ?_⟩; have n0_ := Aside0.mk (Kd.R_below (by (with_reducible repeat (first | apply zrA | apply zrN | apply zrD)); exact HO_167000.out) hb); have n1_ := Aside0.mk (Kd.R_below (by (with_reducible repeat (first | apply zrA | apply zrN | apply zrD)); exact HO_171000.out) hb); have n2_ := Aside0.mk (Kd.R_below (by (with_reducible repeat (first | apply zrA | apply zrN | apply zrD)); exact HO_175000.out) hb); have n3_ := Aside0.mk (Kd.R_below (by (with_reducible repeat (first | apply zrA | apply zrN | apply zrD)); exact HO_180000.out) hb); have n4_ := Aside0.mk (Kd.R_below (by (with_reducible repeat (first | apply zrA | apply zrN | apply zrD)); exact HO_208000.out) hb); have n5_ := Aside0.mk (blk_below (g := gb152) (o := .cells #[.slice A0_0 l0_0.length c0_0] 24 (0, 0)) (by (with_reducible repeat (first | refine zbN ?_ _ | refine zbD ?_ | refine zbA ?_ _)); exact BK152.out) hb); have n6_ := Aside0.mk (blk_below (g := gb153) (o := .cells #[.slice A1_0 l1_0.length c1_0] 24 (0, 0)) (by (with_reducible repeat (first | refine zbN ?_ _ | refine zbD ?_ | refine zbA ?_ _)); exact BK153.out) hb); have n7_ := Aside0.mk (blk_below (g := gb166) (o := .cells #[.slice Ao41 t162.length co41] 26 (0, 0)) (by (with_reducible repeat (first | refine zbN ?_ _ | refine zbD ?_ | refine zbA ?_ _)); exact BK166.out) hb); have n8_ := Aside0.mk (blk_below (g := gb170) (o := .cells #[.slice Ao47 t190.length co47] 26 (0, 0)) (by (with_reducible repeat (first | refine zbN ?_ _ | refine zbD ?_ | refine zbA ?_ _)); exact BK170.out) hb); have n9_ := Aside0.mk (blk_below (g := gb174) (o := .cells #[.slice Ao56 t192.length co56] 26 (0, 0)) (by (with_reducible repeat (first | refine zbN ?_ _ | refine zbD ?_ | refine zbA ?_ _)); exact BK174.out) hb); have n10_ := Aside0.mk (blk_below (g := gb179) (o := .cells #[.slice Ao65 t195.length co65] 26 (0, 0)) (by (with_reducible repeat (first | refine zbN ?_ _ | refine zbD ?_ | refine zbA ?_ _)); exact BK179.out) hb); have n11_ := Aside0.mk (blk_below (g := gb207) (o := .cells #[.slice Ao191 t203.length co191] 26 (0, 0)) (by (with_reducible repeat (first | refine zbN ?_ _ | refine zbD ?_ | refine zbA ?_ _)); exact BK207.out) hb); have n12_ := Aside0.mk (below_step (by repeat (first | (with_reducible first | exact HB.out | apply zwA | apply zwN | apply zwD | refine below_set ?_ GE152.out | refine below_set ?_ GE153.out | refine below_set ?_ GE166.out | refine below_set ?_ GE170.out | refine below_set ?_ GE174.out | refine below_set ?_ GE179.out | refine below_set ?_ GE207.out) | exact HB.out)) hb); clear HO_167000; clear HO_171000; clear HO_175000; clear HO_180000; clear HO_208000; clear BK152; clear BK153; clear BK166; clear BK170; clear BK174; clear BK179; clear BK207; clear HB; have HO_167000 := n0_; have HO_171000 := n1_; have HO_175000 := n2_; have HO_180000 := n3_; have HO_208000 := n4_; have BK152 := n5_; have BK153 := n6_; have BK166 := n7_; have BK170 := n8_; have BK174 := n9_; have BK179 := n10_; have BK207 := n11_; have HB := n12_; clear n0_ n1_ n2_ n3_ n4_ n5_ n6_ n7_ n8_ n9_ n10_ n11_ n12_; (try clear hb); (try clear hb2); (try clear hk); (try clear hi)))
                 go_ret
                 exact ⟨by first | rfl | (simp [errW_none, errW_some] <;> rfl) | (simp [*, errW_none, errW_some] <;> rfl), by repeat (first | (with_reducible first | exact HB.out | apply zwA | apply zwN | apply zwD | refine below_set ?_ GE152.out | refine below_set ?_ GE153.out | refine below_set ?_ GE166.out | refine below_set ?_ GE170.out | refine below_set ?_ GE174.out | refine below_set ?_ GE179.out | refine below_set ?_ GE207.out) | exact HB.out)⟩
                ·
                 rw [if_neg c225] at H
                 have c225b0 : decide (t209 < 0) = false := decide_eq_false c225
                 clear c225
                 by_cases c234 : t209 = t194
                 ·
                  rw [if_pos c234] at H
                  have c234b0 : (t209 == t194) = true := beq_iff_eq.mpr c234
                  have c234b1 : (t209 != t194) = false := bne_eq_false_iff_eq.mpr c234
                  clear c234
                  obtain rfl := Option.some.inj H
                  have hnb235 := NB179_152.out
                  have hnc235 := NB152_179.out
                  have hnb236 := NB179_153.out
                  have hnc236 := NB153_179.out
                  have hnb237 := NB179_166.out
                  have hnc237 := NB166_179.out
                  have hnb238 := NB179_170.out
                  have hnc238 := NB170_179.out
                  have hnb239 := NB179_174.out
                  have hnc239 := NB174_179.out
                  have hnb240 := NB179_207.out
                  have hnc240 := NB207_179.out
                  have hcz241_0 : wc.cell? ⟨gb179, 0, none⟩ = some (.slice Ao65 t195.length co65) := (blk_cell BK179.out 0).trans rfl
                  have hfz241_0 := blk_frozen BK179.out 0
                  go_wp2_with (first | ((with_reducible refine gate_callee (f := 15) rfl ?_); refine goesL_ (some 113) rfl rfl Try.func15 (by kernel_rfl) rfl #[.agg #[.slice Ao65 t195.length co65], .int .i64 1] rfl (by (try simp only [List.map_toArray, List.map_cons, List.map_nil]); first | done | rfl | (simp only [List.length_drop, List.length_take]; rfl)) ?_; (with_reducible refine (laws_heldSketch.calls kj172 _ _ t195 1 t209 _ ?side1 ?side2 A224.out).mono ?_); (case side1 => repeat (first | exact (Kd.R_reads' HO_180000.out).2.2 | (with_reducible refine Kd.C_alloc ?_ _) | (with_reducible refine Kd.C_drewN ?_ _) | (with_reducible refine Kd.C_drew ?_))); (case side2 => exact (Kd.R_reads' HO_180000.out).2.1); rintro e w242 ⟨rfl, hb⟩; refine ⟨_, rfl, ?_⟩; have n0_ := Aside0.mk (Kd.R_below (by (with_reducible repeat (first | apply zrA | apply zrN | apply zrD)); exact HO_167000.out) hb); have n1_ := Aside0.mk (Kd.R_below (by (with_reducible repeat (first | apply zrA | apply zrN | apply zrD)); exact HO_171000.out) hb); have n2_ := Aside0.mk (Kd.R_below (by (with_reducible repeat (first | apply zrA | apply zrN | apply zrD)); exact HO_175000.out) hb); have n3_ := Aside0.mk (Kd.R_below (by (with_reducible repeat (first | apply zrA | apply zrN | apply zrD)); exact HO_180000.out) hb); have n4_ := Aside0.mk (Kd.R_below (by (with_reducible repeat (first | apply zrA | apply zrN | apply zrD)); exact HO_208000.out) hb); have n5_ := Aside0.mk (blk_below (g := gb152) (o := .cells #[.slice A0_0 l0_0.length c0_0] 24 (0, 0)) (by (with_reducible repeat (first | refine zbN ?_ _ | refine zbD ?_ | refine zbA ?_ _)); exact BK152.out) hb); have n6_ := Aside0.mk (blk_below (g := gb153) (o := .cells #[.slice A1_0 l1_0.length c1_0] 24 (0, 0)) (by (with_reducible repeat (first | refine zbN ?_ _ | refine zbD ?_ | refine zbA ?_ _)); exact BK153.out) hb); have n7_ := Aside0.mk (blk_below (g := gb166) (o := .cells #[.slice Ao41 t162.length co41] 26 (0, 0)) (by (with_reducible repeat (first | refine zbN ?_ _ | refine zbD ?_ | refine zbA ?_ _)); exact BK166.out) hb); have n8_ := Aside0.mk (blk_below (g := gb170) (o := .cells #[.slice Ao47 t190.length co47] 26 (0, 0)) (by (with_reducible repeat (first | refine zbN ?_ _ | refine zbD ?_ | refine zbA ?_ _)); exact BK170.out) hb); have n9_ := Aside0.mk (blk_below (g := gb174) (o := .cells #[.slice Ao56 t192.length co56] 26 (0, 0)) (by (with_reducible repeat (first | refine zbN ?_ _ | refine zbD ?_ | refine zbA ?_ _)); exact BK174.out) hb); have n10_ := Aside0.mk (blk_below (g := gb179) (o := .cells #[.slice Ao65 t195.length co65] 26 (0, 0)) (by (with_reducible repeat (first | refine zbN ?_ _ | refine zbD ?_ | refine zbA ?_ _)); exact BK179.out) hb); have n11_ := Aside0.mk (blk_below (g := gb207) (o := .cells #[.slice Ao191 t203.length co191] 26 (0, 0)) (by (with_reducible repeat (first | refine zbN ?_ _ | refine zbD ?_ | refine zbA ?_ _)); exact BK207.out) hb); have n12_ := Aside0.mk (below_step (by repeat (first | (with_reducible first | exact HB.out | apply zwA | apply zwN | apply zwD | refine below_set ?_ GE152.out | refine below_set ?_ GE153.out | refine below_set ?_ GE166.out | refine below_set ?_ GE170.out | refine below_set ?_ GE174.out | refine below_set ?_ GE179.out | refine below_set ?_ GE207.out) | exact HB.out)) hb); clear HO_167000; clear HO_171000; clear HO_175000; clear HO_180000; clear HO_208000; clear BK152; clear BK153; clear BK166; clear BK170; clear BK174; clear BK179; clear BK207; clear HB; have HO_167000 := n0_; have HO_171000 := n1_; have HO_175000 := n2_; have HO_180000 := n3_; have HO_208000 := n4_; have BK152 := n5_; have BK153 := n6_; have BK166 := n7_; have BK170 := n8_; have BK174 := n9_; have BK179 := n10_; have BK207 := n11_; have HB := n12_; clear n0_ n1_ n2_ n3_ n4_ n5_ n6_ n7_ n8_ n9_ n10_ n11_ n12_; (try clear hb); (try clear hb2); (try clear hk); (try clear hi)))
                  go_ret
                  exact ⟨by first | rfl | (simp [errW_none, errW_some] <;> rfl) | (simp [*, errW_none, errW_some] <;> rfl), by repeat (first | (with_reducible first | exact HB.out | apply zwA | apply zwN | apply zwD | refine below_set ?_ GE152.out | refine below_set ?_ GE153.out | refine below_set ?_ GE166.out | refine below_set ?_ GE170.out | refine below_set ?_ GE174.out | refine below_set ?_ GE179.out | refine below_set ?_ GE207.out) | exact HB.out)⟩
                 ·
                  rw [if_neg c234] at H
                  have c234b0 : (t209 == t194) = false := beq_eq_false_iff_ne.mpr c234
                  have c234b1 : (t209 != t194) = true := bne_iff_ne.mpr c234
                  obtain rfl := Option.some.inj H
                  have hnb243 := NB179_152.out
                  have hnc243 := NB152_179.out
                  have hnb244 := NB179_153.out
                  have hnc244 := NB153_179.out
                  have hnb245 := NB179_166.out
                  have hnc245 := NB166_179.out
                  have hnb246 := NB179_170.out
                  have hnc246 := NB170_179.out
                  have hnb247 := NB179_174.out
                  have hnc247 := NB174_179.out
                  have hnb248 := NB179_207.out
                  have hnc248 := NB207_179.out
                  have hcz249_0 : wc.cell? ⟨gb179, 0, none⟩ = some (.slice Ao65 t195.length co65) := (blk_cell BK179.out 0).trans rfl
                  have hfz249_0 := blk_frozen BK179.out 0
                  go_wp2_with (first | ((with_reducible refine gate_callee (f := 15) rfl ?_); refine goesL_ (some 113) rfl rfl Try.func15 (by kernel_rfl) rfl #[.agg #[.slice Ao65 t195.length co65], .int .i64 1] rfl (by (try simp only [List.map_toArray, List.map_cons, List.map_nil]); first | done | rfl | (simp only [List.length_drop, List.length_take]; rfl)) ?_; (with_reducible refine (laws_heldSketch.calls kj172 _ _ t195 1 t209 _ ?side1 ?side2 A224.out).mono ?_); (case side1 => repeat (first | exact (Kd.R_reads' HO_180000.out).2.2 | (with_reducible refine Kd.C_alloc ?_ _) | (with_reducible refine Kd.C_drewN ?_ _) | (with_reducible refine Kd.C_drew ?_))); (case side2 => exact (Kd.R_reads' HO_180000.out).2.1); rintro e w250 ⟨rfl, hb⟩; refine ⟨_, rfl, ?_⟩; have n0_ := Aside0.mk (Kd.R_below (by (with_reducible repeat (first | apply zrA | apply zrN | apply zrD)); exact HO_167000.out) hb); have n1_ := Aside0.mk (Kd.R_below (by (with_reducible repeat (first | apply zrA | apply zrN | apply zrD)); exact HO_171000.out) hb); have n2_ := Aside0.mk (Kd.R_below (by (with_reducible repeat (first | apply zrA | apply zrN | apply zrD)); exact HO_175000.out) hb); have n3_ := Aside0.mk (Kd.R_below (by (with_reducible repeat (first | apply zrA | apply zrN | apply zrD)); exact HO_180000.out) hb); have n4_ := Aside0.mk (Kd.R_below (by (with_reducible repeat (first | apply zrA | apply zrN | apply zrD)); exact HO_208000.out) hb); have n5_ := Aside0.mk (blk_below (g := gb152) (o := .cells #[.slice A0_0 l0_0.length c0_0] 24 (0, 0)) (by (with_reducible repeat (first | refine zbN ?_ _ | refine zbD ?_ | refine zbA ?_ _)); exact BK152.out) hb); have n6_ := Aside0.mk (blk_below (g := gb153) (o := .cells #[.slice A1_0 l1_0.length c1_0] 24 (0, 0)) (by (with_reducible repeat (first | refine zbN ?_ _ | refine zbD ?_ | refine zbA ?_ _)); exact BK153.out) hb); have n7_ := Aside0.mk (blk_below (g := gb166) (o := .cells #[.slice Ao41 t162.length co41] 26 (0, 0)) (by (with_reducible repeat (first | refine zbN ?_ _ | refine zbD ?_ | refine zbA ?_ _)); exact BK166.out) hb); have n8_ := Aside0.mk (blk_below (g := gb170) (o := .cells #[.slice Ao47 t190.length co47] 26 (0, 0)) (by (with_reducible repeat (first | refine zbN ?_ _ | refine zbD ?_ | refine zbA ?_ _)); exact BK170.out) hb); have n9_ := Aside0.mk (blk_below (g := gb174) (o := .cells #[.slice Ao56 t192.length co56] 26 (0, 0)) (by (with_reducible repeat (first | refine zbN ?_ _ | refine zbD ?_ | refine zbA ?_ _)); exact BK174.out) hb); have n10_ := Aside0.mk (blk_below (g := gb179) (o := .cells #[.slice Ao65 t195.length co65] 26 (0, 0)) (by (with_reducible repeat (first | refine zbN ?_ _ | refine zbD ?_ | refine zbA ?_ _)); exact BK179.out) hb); have n11_ := Aside0.mk (blk_below (g := gb207) (o := .cells #[.slice Ao191 t203.length co191] 26 (0, 0)) (by (with_reducible repeat (first | refine zbN ?_ _ | refine zbD ?_ | refine zbA ?_ _)); exact BK207.out) hb); have n12_ := Aside0.mk (below_step (by repeat (first | (with_reducible first | exact HB.out | apply zwA | apply zwN | apply zwD | refine below_set ?_ GE152.out | refine below_set ?_ GE153.out | refine below_set ?_ GE166.out | refine below_set ?_ GE170.out | refine below_set ?_ GE174.out | refine below_set ?_ GE179.out | refine below_set ?_ GE207.out) | exact HB.out)) hb); clear HO_167000; clear HO_171000; clear HO_175000; clear HO_180000; clear HO_208000; clear BK152; clear BK153; clear BK166; clear BK170; clear BK174; clear BK179; clear BK207; clear HB; have HO_167000 := n0_; have HO_171000 := n1_; have HO_175000 := n2_; have HO_180000 := n3_; have HO_208000 := n4_; have BK152 := n5_; have BK153 := n6_; have BK166 := n7_; have BK170 := n8_; have BK174 := n9_; have BK179 := n10_; have BK207 := n11_; have HB := n12_; clear n0_ n1_ n2_ n3_ n4_ n5_ n6_ n7_ n8_ n9_ n10_ n11_ n12_; (try clear hb); (try clear hb2); (try clear hk); (try clear hi)))
                  go_ret
                  exact ⟨by first | rfl | (simp [errW_none, errW_some] <;> rfl) | (simp [*, errW_none, errW_some] <;> rfl), by repeat (first | (with_reducible first | exact HB.out | apply zwA | apply zwN | apply zwD | refine below_set ?_ GE152.out | refine below_set ?_ GE153.out | refine below_set ?_ GE166.out | refine below_set ?_ GE170.out | refine below_set ?_ GE174.out | refine below_set ?_ GE179.out | refine below_set ?_ GE207.out) | exact HB.out)⟩
            ·
             rw [if_neg c169] at H
             have c169b0 : (t196 == t194) = false := beq_eq_false_iff_ne.mpr c169
             have c169b1 : (t196 != t194) = true := bne_iff_ne.mpr c169
             obtain rfl := Option.some.inj H
             have hnb251 := NB179_152.out
             have hnc251 := NB152_179.out
             have hnb252 := NB179_153.out
             have hnc252 := NB153_179.out
             have hnb253 := NB179_166.out
             have hnc253 := NB166_179.out
             have hnb254 := NB179_170.out
             have hnc254 := NB170_179.out
             have hnb255 := NB179_174.out
             have hnc255 := NB174_179.out
             have hcz256_0 : wc.cell? ⟨gb179, 0, none⟩ = some (.slice Ao65 t175.length co65) := (blk_cell BK179.out 0).trans rfl
             have hfz256_0 := blk_frozen BK179.out 0
             go_wp2_with (first | ((with_reducible refine gate_callee (f := 14) rfl ?_); refine goesL_ (some 85) rfl rfl Try.func14 (by kernel_rfl) rfl #[.agg #[.slice Ao65 t175.length co65], .int .i64 1] rfl (by (try simp only [List.map_toArray, List.map_cons, List.map_nil]); first | done | rfl | (simp only [List.length_drop, List.length_take]; rfl)) ?_; (with_reducible refine (laws_markSketch.calls kj106 (fun k_ => some k_ = (.slice Ao65 t175.length co65 : Value).ownBlock) (.slice Ao65 t175.length co65) t175 1 t194 t195 w _ ?side1 ?side2 A157.out).mono ?_); (case side1 => repeat (first | (with_reducible first | exact HB.out | apply zwA | apply zwN | apply zwD | refine below_set ?_ GE152.out | refine below_set ?_ GE153.out | refine below_set ?_ GE166.out | refine below_set ?_ GE170.out | refine below_set ?_ GE174.out | refine below_set ?_ GE179.out) | exact HB.out)); (case side2 => exact Kd.R_tight rfl HO_180000.out); rintro e w257 ⟨rfl, hy0, hb, hkp⟩; refine ⟨_, rfl, ?_⟩; have n0_ := Aside0.mk (Kd.R_mono (ok' := fun k_ => some k_ ≠ (.slice Ao47 t190.length co47 : Value).ownBlock ∧ some k_ ≠ (.slice Ao56 t192.length co56 : Value).ownBlock ∧ some k_ ≠ (.slice Ao65 t175.length co65 : Value).ownBlock) (Kd.R_keptB (HO_167000.out) hkp (fun k_ hk_ hs_ => (hk_.2.2) hs_)) (fun k_ hk_ => ⟨hk_.1.1, hk_.1.2.1, hk_.1.2.2⟩)); have n1_ := Aside0.mk (Kd.R_mono (ok' := fun k_ => some k_ ≠ (.slice Ao41 t162.length co41 : Value).ownBlock ∧ some k_ ≠ (.slice Ao56 t192.length co56 : Value).ownBlock ∧ some k_ ≠ (.slice Ao65 t175.length co65 : Value).ownBlock) (Kd.R_keptB (HO_171000.out) hkp (fun k_ hk_ hs_ => (hk_.2.2) hs_)) (fun k_ hk_ => ⟨hk_.1.1, hk_.1.2.1, hk_.1.2.2⟩)); have n2_ := Aside0.mk (Kd.R_mono (ok' := fun k_ => some k_ ≠ (.slice Ao41 t162.length co41 : Value).ownBlock ∧ some k_ ≠ (.slice Ao47 t190.length co47 : Value).ownBlock ∧ some k_ ≠ (.slice Ao65 t175.length co65 : Value).ownBlock) (Kd.R_keptB (HO_175000.out) hkp (fun k_ hk_ hs_ => (hk_.2.2) hs_)) (fun k_ hk_ => ⟨hk_.1.1, hk_.1.2.1, hk_.1.2.2⟩)); have n3_ := Aside0.mk (Kd.R_reok rfl hy0 (fun k_ e_ => HO_180000.out.1 k_ e_)); have n4_ := Aside0.mk (blk_kept (by (with_reducible repeat (first | refine zbN ?_ _ | refine zbD ?_ | refine zbA ?_ _)); exact BK152.out) hkp (fun hs_ => (fun e_ => (Kd.R_ne HO_180000.out BK152.out (by decide)) e_) hs_)); have n5_ := Aside0.mk (blk_kept (by (with_reducible repeat (first | refine zbN ?_ _ | refine zbD ?_ | refine zbA ?_ _)); exact BK153.out) hkp (fun hs_ => (fun e_ => (Kd.R_ne HO_180000.out BK153.out (by decide)) e_) hs_)); have n6_ := Aside0.mk (blk_kept (by (with_reducible repeat (first | refine zbN ?_ _ | refine zbD ?_ | refine zbA ?_ _)); exact BK166.out) hkp (fun hs_ => (fun e_ => (Kd.R_ne HO_180000.out BK166.out (by decide)) e_) hs_)); have n7_ := Aside0.mk (blk_kept (by (with_reducible repeat (first | refine zbN ?_ _ | refine zbD ?_ | refine zbA ?_ _)); exact BK170.out) hkp (fun hs_ => (fun e_ => (Kd.R_ne HO_180000.out BK170.out (by decide)) e_) hs_)); have n8_ := Aside0.mk (blk_kept (by (with_reducible repeat (first | refine zbN ?_ _ | refine zbD ?_ | refine zbA ?_ _)); exact BK174.out) hkp (fun hs_ => (fun e_ => (Kd.R_ne HO_180000.out BK174.out (by decide)) e_) hs_)); have n9_ := Aside0.mk (blk_kept (by (with_reducible repeat (first | refine zbN ?_ _ | refine zbD ?_ | refine zbA ?_ _)); exact BK179.out) hkp (fun hs_ => (fun e_ => (Kd.R_ne HO_180000.out BK179.out (by decide)) e_) hs_)); have n10_ := Aside0.mk (hb); clear HO_167000; clear HO_171000; clear HO_175000; clear HO_180000; clear BK152; clear BK153; clear BK166; clear BK170; clear BK174; clear BK179; clear HB; have HO_167000 := n0_; have HO_171000 := n1_; have HO_175000 := n2_; have HO_180000 := n3_; have BK152 := n4_; have BK153 := n5_; have BK166 := n6_; have BK170 := n7_; have BK174 := n8_; have BK179 := n9_; have HB := n10_; clear n0_ n1_ n2_ n3_ n4_ n5_ n6_ n7_ n8_ n9_ n10_; (try clear hb); (try clear hkp); (try clear hy0); have hcz258_0 : w257.cell? ⟨gb179, 0, none⟩ = some (.slice Ao65 t175.length co65) := (blk_cell BK179.out 0).trans rfl; have hfz258_0 := blk_frozen BK179.out 0) | ((with_reducible refine gate_callee (f := 15) rfl ?_); refine goesL_ (some 88) rfl rfl Try.func15 (by kernel_rfl) rfl #[.agg #[.slice Ao65 t195.length co65], .int .i64 1] rfl (by (try simp only [List.map_toArray, List.map_cons, List.map_nil]); first | done | (rw [show t195.length = t175.length from (Kd.R_reads' HO_180000.out).1.symm] <;> rfl) | rfl | (simp only [List.length_drop, List.length_take]; rfl)) ?_; (with_reducible refine (laws_heldSketch.calls kj106 _ _ t195 1 t196 _ ?side1 ?side2 A158.out).mono ?_); (case side1 => repeat (first | exact (Kd.R_reads' HO_180000.out).2.2 | (with_reducible refine Kd.C_alloc ?_ _) | (with_reducible refine Kd.C_drewN ?_ _) | (with_reducible refine Kd.C_drew ?_))); (case side2 => rw [show t195.length = t175.length from (Kd.R_reads' HO_180000.out).1.symm]; exact (Kd.R_reads' HO_180000.out).2.1); rintro e w259 ⟨rfl, hb⟩; refine ⟨_, rfl, ?_⟩; have n0_ := Aside0.mk (Kd.R_below (by (with_reducible repeat (first | apply zrA | apply zrN | apply zrD)); exact HO_167000.out) hb); have n1_ := Aside0.mk (Kd.R_below (by (with_reducible repeat (first | apply zrA | apply zrN | apply zrD)); exact HO_171000.out) hb); have n2_ := Aside0.mk (Kd.R_below (by (with_reducible repeat (first | apply zrA | apply zrN | apply zrD)); exact HO_175000.out) hb); have n3_ := Aside0.mk (Kd.R_below (by (with_reducible repeat (first | apply zrA | apply zrN | apply zrD)); exact HO_180000.out) hb); have n4_ := Aside0.mk (blk_below (g := gb152) (o := .cells #[.slice A0_0 l0_0.length c0_0] 24 (0, 0)) (by (with_reducible repeat (first | refine zbN ?_ _ | refine zbD ?_ | refine zbA ?_ _)); exact BK152.out) hb); have n5_ := Aside0.mk (blk_below (g := gb153) (o := .cells #[.slice A1_0 l1_0.length c1_0] 24 (0, 0)) (by (with_reducible repeat (first | refine zbN ?_ _ | refine zbD ?_ | refine zbA ?_ _)); exact BK153.out) hb); have n6_ := Aside0.mk (blk_below (g := gb166) (o := .cells #[.slice Ao41 t162.length co41] 26 (0, 0)) (by (with_reducible repeat (first | refine zbN ?_ _ | refine zbD ?_ | refine zbA ?_ _)); exact BK166.out) hb); have n7_ := Aside0.mk (blk_below (g := gb170) (o := .cells #[.slice Ao47 t190.length co47] 26 (0, 0)) (by (with_reducible repeat (first | refine zbN ?_ _ | refine zbD ?_ | refine zbA ?_ _)); exact BK170.out) hb); have n8_ := Aside0.mk (blk_below (g := gb174) (o := .cells #[.slice Ao56 t192.length co56] 26 (0, 0)) (by (with_reducible repeat (first | refine zbN ?_ _ | refine zbD ?_ | refine zbA ?_ _)); exact BK174.out) hb); have n9_ := Aside0.mk (blk_below (g := gb179) (o := .cells #[.slice Ao65 t175.length co65] 26 (0, 0)) (by (with_reducible repeat (first | refine zbN ?_ _ | refine zbD ?_ | refine zbA ?_ _)); exact BK179.out) hb); have n10_ := Aside0.mk (below_step (by repeat (first | (with_reducible first | exact HB.out | apply zwA | apply zwN | apply zwD | refine below_set ?_ GE152.out | refine below_set ?_ GE153.out | refine below_set ?_ GE166.out | refine below_set ?_ GE170.out | refine below_set ?_ GE174.out | refine below_set ?_ GE179.out) | exact HB.out)) hb); clear HO_167000; clear HO_171000; clear HO_175000; clear HO_180000; clear BK152; clear BK153; clear BK166; clear BK170; clear BK174; clear BK179; clear HB; have HO_167000 := n0_; have HO_171000 := n1_; have HO_175000 := n2_; have HO_180000 := n3_; have BK152 := n4_; have BK153 := n5_; have BK166 := n6_; have BK170 := n7_; have BK174 := n8_; have BK179 := n9_; have HB := n10_; clear n0_ n1_ n2_ n3_ n4_ n5_ n6_ n7_ n8_ n9_ n10_; (try clear hb); (try clear hb2); (try clear hk); (try clear hi)))
             go_ret
             exact ⟨by first | rfl | (simp [errW_none, errW_some] <;> rfl) | (simp [*, errW_none, errW_some] <;> rfl), by repeat (first | (with_reducible first | exact HB.out | apply zwA | apply zwN | apply zwD | refine below_set ?_ GE152.out | refine below_set ?_ GE153.out | refine below_set ?_ GE166.out | refine below_set ?_ GE170.out | refine below_set ?_ GE174.out | refine below_set ?_ GE179.out) | exact HB.out)⟩
       ·
        replace c104 := Bool.eq_false_iff.mpr c104
        subst c104
        have H1 : (some false) = some r := by rw [if_neg (show ¬ (false = true) by decide)] at H; exact H
        clear H
        have H := H1
        clear H1
        obtain rfl := Option.some.inj H
        try go_wp2
        have n0_ := Aside0.mk (Kd.R_drew HO_167000.out)
        have n1_ := Aside0.mk (Kd.R_drew HO_171000.out)
        have n2_ := Aside0.mk (Kd.R_drew HO_175000.out)
        have n3_ := Aside0.mk (Kd.R_drew HO_180000.out)
        have n4_ := Aside0.mk (blk_drew BK152.out)
        have n5_ := Aside0.mk (blk_drew BK153.out)
        have n6_ := Aside0.mk (blk_drew BK166.out)
        have n7_ := Aside0.mk (blk_drew BK170.out)
        have n8_ := Aside0.mk (blk_drew BK174.out)
        have n9_ := Aside0.mk (blk_drew BK179.out)
        have n10_ := Aside0.mk (below_drew1 HB.out)
        clear HO_167000
        clear HO_171000
        clear HO_175000
        clear HO_180000
        clear BK152
        clear BK153
        clear BK166
        clear BK170
        clear BK174
        clear BK179
        clear HB
        have HO_167000 := n0_
        have HO_171000 := n1_
        have HO_175000 := n2_
        have HO_180000 := n3_
        have BK152 := n4_
        have BK153 := n5_
        have BK166 := n6_
        have BK170 := n7_
        have BK174 := n8_
        have BK179 := n9_
        have HB := n10_
        clear n0_ n1_ n2_ n3_ n4_ n5_ n6_ n7_ n8_ n9_ n10_
        refine start_ (n := 5) (S := fun w' => w'.cell? ⟨gb170, 0, none⟩ = some (.slice Ao47 t167.length co47) ∧ w'.cell? ⟨gb152, 0, none⟩ = some (.slice A0_0 l0_0.length c0_0)) (ds := []) #[false, false, false, false, false] (by kernel_rfl) rfl rfl ⟨(blk_cell BK170.out 0).trans rfl, (blk_cell BK152.out 0).trans rfl⟩ (fun hHeld => ?_)
        generalize wc.drew = w260 at HO_167000 HO_171000 HO_175000 HO_180000 BK152 BK153 BK166 BK170 BK174 BK179 HB hHeld ⊢
        refine take_ (i := 0) (N := some 54) (v := ?_) (a' := ?_) #[true, false, false, false, false] rfl rfl (by kernel_rfl) (fun _ _ _ h => h) (Or.inl ⟨by rfl, ?_⟩) hHeld ?_ ?_
        rotate_left
        ·
         rintro w' ⟨s0, s1⟩
         go_simp
         with_reducible rfl
        rotate_left
        ·
         simp only [Act.put, List.setIfInBounds_toArray, List.set_cons_zero, List.set_cons_succ, i64_w, i32_w]
         rfl
        refine take_ (i := 1) (N := some 55) (v := ?_) (a' := ?_) #[true, true, false, false, false] rfl rfl (by kernel_rfl) (fun _ _ _ h => h) (Or.inl ⟨by rfl, ?_⟩) hHeld ?_ ?_
        rotate_left
        ·
         rintro w' ⟨s0, s1⟩
         go_simp
         with_reducible rfl
        rotate_left
        ·
         simp only [Act.put, List.setIfInBounds_toArray, List.set_cons_zero, List.set_cons_succ, i64_w, i32_w]
         rfl
        refine one_ (i := 2) (N := some 56) #[true, true, true, false, false] rfl rfl (by kernel_rfl) (by decide) (fun K hK => ?_)
        refine goes_ Try.func11 (by kernel_rfl) rfl #[.agg #[.slice A0_0 l0_0.length c0_0]] (by rfl) rfl rfl (by (try simp only [List.map_toArray, List.map_cons, List.map_nil]); first | done | rfl | (simp only [List.length_drop, List.length_take]; rfl)) ?_
        with_reducible refine (laws_toSketch.calls kj24 _ _ l0_0 t181 _ ?side1 ?side2 A99.out).mono ?_
        (case side1 => repeat (first | exact (Kd.C_below HR0_0.out HB.out) | (with_reducible refine Kd.C_alloc ?_ _) | (with_reducible refine Kd.C_drewN ?_ _) | (with_reducible refine Kd.C_drew ?_)))
        (case side2 => exact HC0_0.out)
        rintro e w261 ⟨v182, rfl, ho0, hb⟩
        refine ⟨_, rfl, ?_⟩
        have n0_ := Aside0.mk (Kd.R_elder' (by (with_reducible repeat (first | apply zrA | apply zrN | apply zrD)); exact HO_167000.out) (Kd.R_base ho0) hb)
        have n1_ := Aside0.mk (Kd.R_elder' (by (with_reducible repeat (first | apply zrA | apply zrN | apply zrD)); exact HO_171000.out) (Kd.R_base ho0) hb)
        have n2_ := Aside0.mk (Kd.R_elder' (by (with_reducible repeat (first | apply zrA | apply zrN | apply zrD)); exact HO_175000.out) (Kd.R_base ho0) hb)
        have n3_ := Aside0.mk (Kd.R_elder' (by (with_reducible repeat (first | apply zrA | apply zrN | apply zrD)); exact HO_180000.out) (Kd.R_base ho0) hb)
        have n4_ := Aside0.mk (Kd.R_lower (Kd.R_new' (Kd.R_new' (Kd.R_new' (Kd.R_new' ho0 (Kd.R_lt (by (with_reducible repeat (first | apply zrA | apply zrN | apply zrD)); exact HO_167000.out))) (Kd.R_lt (by (with_reducible repeat (first | apply zrA | apply zrN | apply zrD)); exact HO_171000.out))) (Kd.R_lt (by (with_reducible repeat (first | apply zrA | apply zrN | apply zrD)); exact HO_175000.out))) (Kd.R_lt (by (with_reducible repeat (first | apply zrA | apply zrN | apply zrD)); exact HO_180000.out))) (below_size (by repeat (first | (with_reducible first | exact HB.out | apply zwA | apply zwN | apply zwD | refine below_set ?_ GE152.out | refine below_set ?_ GE153.out | refine below_set ?_ GE166.out | refine below_set ?_ GE170.out | refine below_set ?_ GE174.out | refine below_set ?_ GE179.out) | exact HB.out))))
        have n5_ := Aside0.mk (blk_below (g := gb152) (o := .cells #[.slice A0_0 l0_0.length c0_0] 24 (0, 0)) (by (with_reducible repeat (first | refine zbN ?_ _ | refine zbD ?_ | refine zbA ?_ _)); exact BK152.out) hb)
        have n6_ := Aside0.mk (blk_below (g := gb153) (o := .cells #[.slice A1_0 l1_0.length c1_0] 24 (0, 0)) (by (with_reducible repeat (first | refine zbN ?_ _ | refine zbD ?_ | refine zbA ?_ _)); exact BK153.out) hb)
        have n7_ := Aside0.mk (blk_below (g := gb166) (o := .cells #[.slice Ao41 t162.length co41] 26 (0, 0)) (by (with_reducible repeat (first | refine zbN ?_ _ | refine zbD ?_ | refine zbA ?_ _)); exact BK166.out) hb)
        have n8_ := Aside0.mk (blk_below (g := gb170) (o := .cells #[.slice Ao47 t167.length co47] 26 (0, 0)) (by (with_reducible repeat (first | refine zbN ?_ _ | refine zbD ?_ | refine zbA ?_ _)); exact BK170.out) hb)
        have n9_ := Aside0.mk (blk_below (g := gb174) (o := .cells #[.slice Ao56 t171.length co56] 26 (0, 0)) (by (with_reducible repeat (first | refine zbN ?_ _ | refine zbD ?_ | refine zbA ?_ _)); exact BK174.out) hb)
        have n10_ := Aside0.mk (blk_below (g := gb179) (o := .cells #[.slice Ao65 t175.length co65] 26 (0, 0)) (by (with_reducible repeat (first | refine zbN ?_ _ | refine zbD ?_ | refine zbA ?_ _)); exact BK179.out) hb)
        have n11_ := Aside0.mk (below_step (by repeat (first | (with_reducible first | exact HB.out | apply zwA | apply zwN | apply zwD | refine below_set ?_ GE152.out | refine below_set ?_ GE153.out | refine below_set ?_ GE166.out | refine below_set ?_ GE170.out | refine below_set ?_ GE174.out | refine below_set ?_ GE179.out) | exact HB.out)) hb)
        clear HO_167000
        clear HO_171000
        clear HO_175000
        clear HO_180000
        clear BK152
        clear BK153
        clear BK166
        clear BK170
        clear BK174
        clear BK179
        clear HB
        have HO_167000 := n0_
        have HO_171000 := n1_
        have HO_175000 := n2_
        have HO_180000 := n3_
        have HO183 := n4_
        have BK152 := n5_
        have BK153 := n6_
        have BK166 := n7_
        have BK170 := n8_
        have BK174 := n9_
        have BK179 := n10_
        have HB := n11_
        clear n0_ n1_ n2_ n3_ n4_ n5_ n6_ n7_ n8_ n9_ n10_ n11_
        (try clear hb)
        (try clear hb2)
        (try clear hk)
        (try clear hi)
        (try clear ho0)
        obtain ⟨Ao262, co262, eo262⟩ := Kd.R_slice HO183.out
        (first | subst eo262 | (injection eo262 with f1_ f2_ f3_; have f4_ := f1_.symm; have f5_ := f3_.symm; clear f1_ f2_ f3_; subst f4_; subst f5_))
        refine hK.out _ _ ⟨(blk_cell BK170.out 0).trans rfl, (blk_cell BK152.out 0).trans rfl⟩ (fun hHeld => ?_)
        clear hK K
        refine norm_ (a' := ?_) ?_ ?_
        rotate_left
        ·
         show Act.put _ (some 56) _ = _
         simp only [Act.put, List.setIfInBounds_toArray, List.set_cons_zero, List.set_cons_succ, i64_w, i32_w]
         rfl
        refine one_ (i := 3) (N := some 57) #[true, true, true, true, false] rfl rfl (by kernel_rfl) (by decide) (fun K hK => ?_)
        refine goes_ Try.func13 (by kernel_rfl) rfl #[.agg #[.slice Ao47 t167.length co47], .agg #[.slice Ao262 t181.length co262]] (by rfl) rfl rfl (by (try simp only [List.map_toArray, List.map_cons, List.map_nil]); first | done | rfl | (simp only [List.length_drop, List.length_take]; rfl)) ?_
        with_reducible refine (laws_eqSketch.calls kj24 _ _ t167 _ _ t181 true _ ?side1 ?side2 ?side3 ?side4 A100.out).mono ?_
        (case side1 => repeat (first | exact (Kd.R_reads' HO_171000.out).2.2 | (with_reducible refine Kd.C_alloc ?_ _) | (with_reducible refine Kd.C_drewN ?_ _) | (with_reducible refine Kd.C_drew ?_)))
        (case side2 => exact (Kd.R_reads' HO_171000.out).2.1)
        (case side3 => repeat (first | exact (Kd.R_reads' HO183.out).2.2 | (with_reducible refine Kd.C_alloc ?_ _) | (with_reducible refine Kd.C_drewN ?_ _) | (with_reducible refine Kd.C_drew ?_)))
        (case side4 => exact (Kd.R_reads' HO183.out).2.1)
        rintro e w263 ⟨rfl, hb⟩
        refine ⟨_, rfl, ?_⟩
        have n0_ := Aside0.mk (Kd.R_below (by (with_reducible repeat (first | apply zrA | apply zrN | apply zrD)); exact HO_167000.out) hb)
        have n1_ := Aside0.mk (Kd.R_below (by (with_reducible repeat (first | apply zrA | apply zrN | apply zrD)); exact HO_171000.out) hb)
        have n2_ := Aside0.mk (Kd.R_below (by (with_reducible repeat (first | apply zrA | apply zrN | apply zrD)); exact HO_175000.out) hb)
        have n3_ := Aside0.mk (Kd.R_below (by (with_reducible repeat (first | apply zrA | apply zrN | apply zrD)); exact HO_180000.out) hb)
        have n4_ := Aside0.mk (Kd.R_below (by (with_reducible repeat (first | apply zrA | apply zrN | apply zrD)); exact HO183.out) hb)
        have n5_ := Aside0.mk (blk_below (g := gb152) (o := .cells #[.slice A0_0 l0_0.length c0_0] 24 (0, 0)) (by (with_reducible repeat (first | refine zbN ?_ _ | refine zbD ?_ | refine zbA ?_ _)); exact BK152.out) hb)
        have n6_ := Aside0.mk (blk_below (g := gb153) (o := .cells #[.slice A1_0 l1_0.length c1_0] 24 (0, 0)) (by (with_reducible repeat (first | refine zbN ?_ _ | refine zbD ?_ | refine zbA ?_ _)); exact BK153.out) hb)
        have n7_ := Aside0.mk (blk_below (g := gb166) (o := .cells #[.slice Ao41 t162.length co41] 26 (0, 0)) (by (with_reducible repeat (first | refine zbN ?_ _ | refine zbD ?_ | refine zbA ?_ _)); exact BK166.out) hb)
        have n8_ := Aside0.mk (blk_below (g := gb170) (o := .cells #[.slice Ao47 t167.length co47] 26 (0, 0)) (by (with_reducible repeat (first | refine zbN ?_ _ | refine zbD ?_ | refine zbA ?_ _)); exact BK170.out) hb)
        have n9_ := Aside0.mk (blk_below (g := gb174) (o := .cells #[.slice Ao56 t171.length co56] 26 (0, 0)) (by (with_reducible repeat (first | refine zbN ?_ _ | refine zbD ?_ | refine zbA ?_ _)); exact BK174.out) hb)
        have n10_ := Aside0.mk (blk_below (g := gb179) (o := .cells #[.slice Ao65 t175.length co65] 26 (0, 0)) (by (with_reducible repeat (first | refine zbN ?_ _ | refine zbD ?_ | refine zbA ?_ _)); exact BK179.out) hb)
        have n11_ := Aside0.mk (below_step (by repeat (first | (with_reducible first | exact HB.out | apply zwA | apply zwN | apply zwD | refine below_set ?_ GE152.out | refine below_set ?_ GE153.out | refine below_set ?_ GE166.out | refine below_set ?_ GE170.out | refine below_set ?_ GE174.out | refine below_set ?_ GE179.out) | exact HB.out)) hb)
        clear HO_167000
        clear HO_171000
        clear HO_175000
        clear HO_180000
        clear HO183
        clear BK152
        clear BK153
        clear BK166
        clear BK170
        clear BK174
        clear BK179
        clear HB
        have HO_167000 := n0_
        have HO_171000 := n1_
        have HO_175000 := n2_
        have HO_180000 := n3_
        have HO183 := n4_
        have BK152 := n5_
        have BK153 := n6_
        have BK166 := n7_
        have BK170 := n8_
        have BK174 := n9_
        have BK179 := n10_
        have HB := n11_
        clear n0_ n1_ n2_ n3_ n4_ n5_ n6_ n7_ n8_ n9_ n10_ n11_
        (try clear hb)
        (try clear hb2)
        (try clear hk)
        (try clear hi)
        refine hK.out _ _ ⟨(blk_cell BK170.out 0).trans rfl, (blk_cell BK152.out 0).trans rfl⟩ (fun hHeld => ?_)
        clear hK K
        refine norm_ (a' := ?_) ?_ ?_
        rotate_left
        ·
         show Act.put _ (some 57) _ = _
         simp only [Act.put, List.setIfInBounds_toArray, List.set_cons_zero, List.set_cons_succ, i64_w, i32_w]
         rfl
        refine pure_ (i := 4) (N := some 58) (v := ?_) (a' := ?_) #[true, true, true, true, true] rfl rfl (by kernel_rfl) (fun _ _ _ h => h) (Or.inl ⟨by rfl, ?_⟩) ?_ ?_
        rotate_left
        ·
         intro w'
         go_simp
         with_reducible rfl
        rotate_left
        ·
         simp only [Act.put, List.setIfInBounds_toArray, List.set_cons_zero, List.set_cons_succ, i64_w, i32_w]
         rfl
        refine done_ (by kernel_rfl) ?_
        try go_wp2
        have n0_ := Aside0.mk (Kd.R_drew HO_167000.out)
        have n1_ := Aside0.mk (Kd.R_drew HO_171000.out)
        have n2_ := Aside0.mk (Kd.R_drew HO_175000.out)
        have n3_ := Aside0.mk (Kd.R_drew HO_180000.out)
        have n4_ := Aside0.mk (Kd.R_drew HO183.out)
        have n5_ := Aside0.mk (blk_drew BK152.out)
        have n6_ := Aside0.mk (blk_drew BK153.out)
        have n7_ := Aside0.mk (blk_drew BK166.out)
        have n8_ := Aside0.mk (blk_drew BK170.out)
        have n9_ := Aside0.mk (blk_drew BK174.out)
        have n10_ := Aside0.mk (blk_drew BK179.out)
        have n11_ := Aside0.mk (below_drew1 HB.out)
        clear HO_167000
        clear HO_171000
        clear HO_175000
        clear HO_180000
        clear HO183
        clear BK152
        clear BK153
        clear BK166
        clear BK170
        clear BK174
        clear BK179
        clear HB
        have HO_167000 := n0_
        have HO_171000 := n1_
        have HO_175000 := n2_
        have HO_180000 := n3_
        have HO183 := n4_
        have BK152 := n5_
        have BK153 := n6_
        have BK166 := n7_
        have BK170 := n8_
        have BK174 := n9_
        have BK179 := n10_
        have HB := n11_
        clear n0_ n1_ n2_ n3_ n4_ n5_ n6_ n7_ n8_ n9_ n10_ n11_
        refine start_ (n := 5) (S := fun w' => w'.cell? ⟨gb174, 0, none⟩ = some (.slice Ao56 t171.length co56) ∧ w'.cell? ⟨gb153, 0, none⟩ = some (.slice A1_0 l1_0.length c1_0)) (ds := []) #[false, false, false, false, false] (by kernel_rfl) rfl rfl ⟨(blk_cell BK174.out 0).trans rfl, (blk_cell BK153.out 0).trans rfl⟩ (fun hHeld => ?_)
        generalize w263.drew = w264 at HO_167000 HO_171000 HO_175000 HO_180000 HO183 BK152 BK153 BK166 BK170 BK174 BK179 HB hHeld ⊢
        refine take_ (i := 0) (N := some 59) (v := ?_) (a' := ?_) #[true, false, false, false, false] rfl rfl (by kernel_rfl) (fun _ _ _ h => h) (Or.inl ⟨by rfl, ?_⟩) hHeld ?_ ?_
        rotate_left
        ·
         rintro w' ⟨s0, s1⟩
         go_simp
         with_reducible rfl
        rotate_left
        ·
         simp only [Act.put, List.setIfInBounds_toArray, List.set_cons_zero, List.set_cons_succ, i64_w, i32_w]
         rfl
        refine take_ (i := 1) (N := some 60) (v := ?_) (a' := ?_) #[true, true, false, false, false] rfl rfl (by kernel_rfl) (fun _ _ _ h => h) (Or.inl ⟨by rfl, ?_⟩) hHeld ?_ ?_
        rotate_left
        ·
         rintro w' ⟨s0, s1⟩
         go_simp
         with_reducible rfl
        rotate_left
        ·
         simp only [Act.put, List.setIfInBounds_toArray, List.set_cons_zero, List.set_cons_succ, i64_w, i32_w]
         rfl
        refine one_ (i := 2) (N := some 61) #[true, true, true, false, false] rfl rfl (by kernel_rfl) (by decide) (fun K hK => ?_)
        refine goes_ Try.func11 (by kernel_rfl) rfl #[.agg #[.slice A1_0 l1_0.length c1_0]] (by rfl) rfl rfl (by (try simp only [List.map_toArray, List.map_cons, List.map_nil]); first | done | rfl | (simp only [List.length_drop, List.length_take]; rfl)) ?_
        with_reducible refine (laws_toSketch.calls kj24 _ _ l1_0 t185 _ ?side1 ?side2 A102.out).mono ?_
        (case side1 => repeat (first | exact (Kd.C_below HR1_0.out HB.out) | (with_reducible refine Kd.C_alloc ?_ _) | (with_reducible refine Kd.C_drewN ?_ _) | (with_reducible refine Kd.C_drew ?_)))
        (case side2 => exact HC1_0.out)
        rintro e w265 ⟨v186, rfl, ho0, hb⟩
        refine ⟨_, rfl, ?_⟩
        have n0_ := Aside0.mk (Kd.R_elder' (by (with_reducible repeat (first | apply zrA | apply zrN | apply zrD)); exact HO_167000.out) (Kd.R_base ho0) hb)
        have n1_ := Aside0.mk (Kd.R_elder' (by (with_reducible repeat (first | apply zrA | apply zrN | apply zrD)); exact HO_171000.out) (Kd.R_base ho0) hb)
        have n2_ := Aside0.mk (Kd.R_elder' (by (with_reducible repeat (first | apply zrA | apply zrN | apply zrD)); exact HO_175000.out) (Kd.R_base ho0) hb)
        have n3_ := Aside0.mk (Kd.R_elder' (by (with_reducible repeat (first | apply zrA | apply zrN | apply zrD)); exact HO_180000.out) (Kd.R_base ho0) hb)
        have n4_ := Aside0.mk (Kd.R_elder' (by (with_reducible repeat (first | apply zrA | apply zrN | apply zrD)); exact HO183.out) (Kd.R_base ho0) hb)
        have n5_ := Aside0.mk (Kd.R_lower (Kd.R_new' (Kd.R_new' (Kd.R_new' (Kd.R_new' (Kd.R_new' ho0 (Kd.R_lt (by (with_reducible repeat (first | apply zrA | apply zrN | apply zrD)); exact HO_167000.out))) (Kd.R_lt (by (with_reducible repeat (first | apply zrA | apply zrN | apply zrD)); exact HO_171000.out))) (Kd.R_lt (by (with_reducible repeat (first | apply zrA | apply zrN | apply zrD)); exact HO_175000.out))) (Kd.R_lt (by (with_reducible repeat (first | apply zrA | apply zrN | apply zrD)); exact HO_180000.out))) (Kd.R_lt (by (with_reducible repeat (first | apply zrA | apply zrN | apply zrD)); exact HO183.out))) (below_size (by repeat (first | (with_reducible first | exact HB.out | apply zwA | apply zwN | apply zwD | refine below_set ?_ GE152.out | refine below_set ?_ GE153.out | refine below_set ?_ GE166.out | refine below_set ?_ GE170.out | refine below_set ?_ GE174.out | refine below_set ?_ GE179.out) | exact HB.out))))
        have n6_ := Aside0.mk (blk_below (g := gb152) (o := .cells #[.slice A0_0 l0_0.length c0_0] 24 (0, 0)) (by (with_reducible repeat (first | refine zbN ?_ _ | refine zbD ?_ | refine zbA ?_ _)); exact BK152.out) hb)
        have n7_ := Aside0.mk (blk_below (g := gb153) (o := .cells #[.slice A1_0 l1_0.length c1_0] 24 (0, 0)) (by (with_reducible repeat (first | refine zbN ?_ _ | refine zbD ?_ | refine zbA ?_ _)); exact BK153.out) hb)
        have n8_ := Aside0.mk (blk_below (g := gb166) (o := .cells #[.slice Ao41 t162.length co41] 26 (0, 0)) (by (with_reducible repeat (first | refine zbN ?_ _ | refine zbD ?_ | refine zbA ?_ _)); exact BK166.out) hb)
        have n9_ := Aside0.mk (blk_below (g := gb170) (o := .cells #[.slice Ao47 t167.length co47] 26 (0, 0)) (by (with_reducible repeat (first | refine zbN ?_ _ | refine zbD ?_ | refine zbA ?_ _)); exact BK170.out) hb)
        have n10_ := Aside0.mk (blk_below (g := gb174) (o := .cells #[.slice Ao56 t171.length co56] 26 (0, 0)) (by (with_reducible repeat (first | refine zbN ?_ _ | refine zbD ?_ | refine zbA ?_ _)); exact BK174.out) hb)
        have n11_ := Aside0.mk (blk_below (g := gb179) (o := .cells #[.slice Ao65 t175.length co65] 26 (0, 0)) (by (with_reducible repeat (first | refine zbN ?_ _ | refine zbD ?_ | refine zbA ?_ _)); exact BK179.out) hb)
        have n12_ := Aside0.mk (below_step (by repeat (first | (with_reducible first | exact HB.out | apply zwA | apply zwN | apply zwD | refine below_set ?_ GE152.out | refine below_set ?_ GE153.out | refine below_set ?_ GE166.out | refine below_set ?_ GE170.out | refine below_set ?_ GE174.out | refine below_set ?_ GE179.out) | exact HB.out)) hb)
        clear HO_167000
        clear HO_171000
        clear HO_175000
        clear HO_180000
        clear HO183
        clear BK152
        clear BK153
        clear BK166
        clear BK170
        clear BK174
        clear BK179
        clear HB
        have HO_167000 := n0_
        have HO_171000 := n1_
        have HO_175000 := n2_
        have HO_180000 := n3_
        have HO183 := n4_
        have HO187 := n5_
        have BK152 := n6_
        have BK153 := n7_
        have BK166 := n8_
        have BK170 := n9_
        have BK174 := n10_
        have BK179 := n11_
        have HB := n12_
        clear n0_ n1_ n2_ n3_ n4_ n5_ n6_ n7_ n8_ n9_ n10_ n11_ n12_
        (try clear hb)
        (try clear hb2)
        (try clear hk)
        (try clear hi)
        (try clear ho0)
        obtain ⟨Ao266, co266, eo266⟩ := Kd.R_slice HO187.out
        (first | subst eo266 | (injection eo266 with f1_ f2_ f3_; have f4_ := f1_.symm; have f5_ := f3_.symm; clear f1_ f2_ f3_; subst f4_; subst f5_))
        refine hK.out _ _ ⟨(blk_cell BK174.out 0).trans rfl, (blk_cell BK153.out 0).trans rfl⟩ (fun hHeld => ?_)
        clear hK K
        refine norm_ (a' := ?_) ?_ ?_
        rotate_left
        ·
         show Act.put _ (some 61) _ = _
         simp only [Act.put, List.setIfInBounds_toArray, List.set_cons_zero, List.set_cons_succ, i64_w, i32_w]
         rfl
        refine one_ (i := 3) (N := some 62) #[true, true, true, true, false] rfl rfl (by kernel_rfl) (by decide) (fun K hK => ?_)
        refine goes_ Try.func13 (by kernel_rfl) rfl #[.agg #[.slice Ao56 t171.length co56], .agg #[.slice Ao266 t185.length co266]] (by rfl) rfl rfl (by (try simp only [List.map_toArray, List.map_cons, List.map_nil]); first | done | rfl | (simp only [List.length_drop, List.length_take]; rfl)) ?_
        with_reducible refine (laws_eqSketch.calls kj24 _ _ t171 _ _ t185 false _ ?side1 ?side2 ?side3 ?side4 A103.out).mono ?_
        (case side1 => repeat (first | exact (Kd.R_reads' HO_175000.out).2.2 | (with_reducible refine Kd.C_alloc ?_ _) | (with_reducible refine Kd.C_drewN ?_ _) | (with_reducible refine Kd.C_drew ?_)))
        (case side2 => exact (Kd.R_reads' HO_175000.out).2.1)
        (case side3 => repeat (first | exact (Kd.R_reads' HO187.out).2.2 | (with_reducible refine Kd.C_alloc ?_ _) | (with_reducible refine Kd.C_drewN ?_ _) | (with_reducible refine Kd.C_drew ?_)))
        (case side4 => exact (Kd.R_reads' HO187.out).2.1)
        rintro e w267 ⟨rfl, hb⟩
        refine ⟨_, rfl, ?_⟩
        have n0_ := Aside0.mk (Kd.R_below (by (with_reducible repeat (first | apply zrA | apply zrN | apply zrD)); exact HO_167000.out) hb)
        have n1_ := Aside0.mk (Kd.R_below (by (with_reducible repeat (first | apply zrA | apply zrN | apply zrD)); exact HO_171000.out) hb)
        have n2_ := Aside0.mk (Kd.R_below (by (with_reducible repeat (first | apply zrA | apply zrN | apply zrD)); exact HO_175000.out) hb)
        have n3_ := Aside0.mk (Kd.R_below (by (with_reducible repeat (first | apply zrA | apply zrN | apply zrD)); exact HO_180000.out) hb)
        have n4_ := Aside0.mk (Kd.R_below (by (with_reducible repeat (first | apply zrA | apply zrN | apply zrD)); exact HO183.out) hb)
        have n5_ := Aside0.mk (Kd.R_below (by (with_reducible repeat (first | apply zrA | apply zrN | apply zrD)); exact HO187.out) hb)
        have n6_ := Aside0.mk (blk_below (g := gb152) (o := .cells #[.slice A0_0 l0_0.length c0_0] 24 (0, 0)) (by (with_reducible repeat (first | refine zbN ?_ _ | refine zbD ?_ | refine zbA ?_ _)); exact BK152.out) hb)
        have n7_ := Aside0.mk (blk_below (g := gb153) (o := .cells #[.slice A1_0 l1_0.length c1_0] 24 (0, 0)) (by (with_reducible repeat (first | refine zbN ?_ _ | refine zbD ?_ | refine zbA ?_ _)); exact BK153.out) hb)
        have n8_ := Aside0.mk (blk_below (g := gb166) (o := .cells #[.slice Ao41 t162.length co41] 26 (0, 0)) (by (with_reducible repeat (first | refine zbN ?_ _ | refine zbD ?_ | refine zbA ?_ _)); exact BK166.out) hb)
        have n9_ := Aside0.mk (blk_below (g := gb170) (o := .cells #[.slice Ao47 t167.length co47] 26 (0, 0)) (by (with_reducible repeat (first | refine zbN ?_ _ | refine zbD ?_ | refine zbA ?_ _)); exact BK170.out) hb)
        have n10_ := Aside0.mk (blk_below (g := gb174) (o := .cells #[.slice Ao56 t171.length co56] 26 (0, 0)) (by (with_reducible repeat (first | refine zbN ?_ _ | refine zbD ?_ | refine zbA ?_ _)); exact BK174.out) hb)
        have n11_ := Aside0.mk (blk_below (g := gb179) (o := .cells #[.slice Ao65 t175.length co65] 26 (0, 0)) (by (with_reducible repeat (first | refine zbN ?_ _ | refine zbD ?_ | refine zbA ?_ _)); exact BK179.out) hb)
        have n12_ := Aside0.mk (below_step (by repeat (first | (with_reducible first | exact HB.out | apply zwA | apply zwN | apply zwD | refine below_set ?_ GE152.out | refine below_set ?_ GE153.out | refine below_set ?_ GE166.out | refine below_set ?_ GE170.out | refine below_set ?_ GE174.out | refine below_set ?_ GE179.out) | exact HB.out)) hb)
        clear HO_167000
        clear HO_171000
        clear HO_175000
        clear HO_180000
        clear HO183
        clear HO187
        clear BK152
        clear BK153
        clear BK166
        clear BK170
        clear BK174
        clear BK179
        clear HB
        have HO_167000 := n0_
        have HO_171000 := n1_
        have HO_175000 := n2_
        have HO_180000 := n3_
        have HO183 := n4_
        have HO187 := n5_
        have BK152 := n6_
        have BK153 := n7_
        have BK166 := n8_
        have BK170 := n9_
        have BK174 := n10_
        have BK179 := n11_
        have HB := n12_
        clear n0_ n1_ n2_ n3_ n4_ n5_ n6_ n7_ n8_ n9_ n10_ n11_ n12_
        (try clear hb)
        (try clear hb2)
        (try clear hk)
        (try clear hi)
        refine hK.out _ _ ⟨(blk_cell BK174.out 0).trans rfl, (blk_cell BK153.out 0).trans rfl⟩ (fun hHeld => ?_)
        clear hK K
        refine norm_ (a' := ?_) ?_ ?_
        rotate_left
        ·
         show Act.put _ (some 62) _ = _
         simp only [Act.put, List.setIfInBounds_toArray, List.set_cons_zero, List.set_cons_succ, i64_w, i32_w]
         rfl
        refine pure_ (i := 4) (N := some 63) (v := ?_) (a' := ?_) #[true, true, true, true, true] rfl rfl (by kernel_rfl) (fun _ _ _ h => h) (Or.inl ⟨by rfl, ?_⟩) ?_ ?_
        rotate_left
        ·
         intro w'
         go_simp
         with_reducible rfl
        rotate_left
        ·
         simp only [Act.put, List.setIfInBounds_toArray, List.set_cons_zero, List.set_cons_succ, i64_w, i32_w]
         rfl
        refine done_ (by kernel_rfl) ?_
        try go_wp2
        go_ret
        exact ⟨by first | rfl | (simp [errW_none, errW_some] <;> rfl) | (simp [*, errW_none, errW_some] <;> rfl), by repeat (first | (with_reducible first | exact HB.out | apply zwA | apply zwN | apply zwD | refine below_set ?_ GE152.out | refine below_set ?_ GE153.out | refine below_set ?_ GE166.out | refine below_set ?_ GE170.out | refine below_set ?_ GE174.out | refine below_set ?_ GE179.out) | exact HB.out)⟩
      ·
       replace c101 := Bool.eq_false_iff.mpr c101
       subst c101
       have H1 : (some false) = some r := by rw [if_neg (show ¬ (false = true) by decide)] at H; exact H
       clear H
       have H := H1
       clear H1
       obtain rfl := Option.some.inj H
       try go_wp2
       have n0_ := Aside0.mk (Kd.R_drew HO_167000.out)
       have n1_ := Aside0.mk (Kd.R_drew HO_171000.out)
       have n2_ := Aside0.mk (Kd.R_drew HO_175000.out)
       have n3_ := Aside0.mk (Kd.R_drew HO_180000.out)
       have n4_ := Aside0.mk (blk_drew BK152.out)
       have n5_ := Aside0.mk (blk_drew BK153.out)
       have n6_ := Aside0.mk (blk_drew BK166.out)
       have n7_ := Aside0.mk (blk_drew BK170.out)
       have n8_ := Aside0.mk (blk_drew BK174.out)
       have n9_ := Aside0.mk (blk_drew BK179.out)
       have n10_ := Aside0.mk (below_drew1 HB.out)
       clear HO_167000
       clear HO_171000
       clear HO_175000
       clear HO_180000
       clear BK152
       clear BK153
       clear BK166
       clear BK170
       clear BK174
       clear BK179
       clear HB
       have HO_167000 := n0_
       have HO_171000 := n1_
       have HO_175000 := n2_
       have HO_180000 := n3_
       have BK152 := n4_
       have BK153 := n5_
       have BK166 := n6_
       have BK170 := n7_
       have BK174 := n8_
       have BK179 := n9_
       have HB := n10_
       clear n0_ n1_ n2_ n3_ n4_ n5_ n6_ n7_ n8_ n9_ n10_
       refine start_ (n := 5) (S := fun w' => w'.cell? ⟨gb170, 0, none⟩ = some (.slice Ao47 t167.length co47) ∧ w'.cell? ⟨gb152, 0, none⟩ = some (.slice A0_0 l0_0.length c0_0)) (ds := []) #[false, false, false, false, false] (by kernel_rfl) rfl rfl ⟨(blk_cell BK170.out 0).trans rfl, (blk_cell BK152.out 0).trans rfl⟩ (fun hHeld => ?_)
       generalize wc.drew = w268 at HO_167000 HO_171000 HO_175000 HO_180000 BK152 BK153 BK166 BK170 BK174 BK179 HB hHeld ⊢
       refine take_ (i := 0) (N := some 54) (v := ?_) (a' := ?_) #[true, false, false, false, false] rfl rfl (by kernel_rfl) (fun _ _ _ h => h) (Or.inl ⟨by rfl, ?_⟩) hHeld ?_ ?_
       rotate_left
       ·
        rintro w' ⟨s0, s1⟩
        go_simp
        with_reducible rfl
       rotate_left
       ·
        simp only [Act.put, List.setIfInBounds_toArray, List.set_cons_zero, List.set_cons_succ, i64_w, i32_w]
        rfl
       refine take_ (i := 1) (N := some 55) (v := ?_) (a' := ?_) #[true, true, false, false, false] rfl rfl (by kernel_rfl) (fun _ _ _ h => h) (Or.inl ⟨by rfl, ?_⟩) hHeld ?_ ?_
       rotate_left
       ·
        rintro w' ⟨s0, s1⟩
        go_simp
        with_reducible rfl
       rotate_left
       ·
        simp only [Act.put, List.setIfInBounds_toArray, List.set_cons_zero, List.set_cons_succ, i64_w, i32_w]
        rfl
       refine one_ (i := 2) (N := some 56) #[true, true, true, false, false] rfl rfl (by kernel_rfl) (by decide) (fun K hK => ?_)
       refine goes_ Try.func11 (by kernel_rfl) rfl #[.agg #[.slice A0_0 l0_0.length c0_0]] (by rfl) rfl rfl (by (try simp only [List.map_toArray, List.map_cons, List.map_nil]); first | done | rfl | (simp only [List.length_drop, List.length_take]; rfl)) ?_
       with_reducible refine (laws_toSketch.calls kj24 _ _ l0_0 t181 _ ?side1 ?side2 A99.out).mono ?_
       (case side1 => repeat (first | exact (Kd.C_below HR0_0.out HB.out) | (with_reducible refine Kd.C_alloc ?_ _) | (with_reducible refine Kd.C_drewN ?_ _) | (with_reducible refine Kd.C_drew ?_)))
       (case side2 => exact HC0_0.out)
       rintro e w269 ⟨v182, rfl, ho0, hb⟩
       refine ⟨_, rfl, ?_⟩
       have n0_ := Aside0.mk (Kd.R_elder' (by (with_reducible repeat (first | apply zrA | apply zrN | apply zrD)); exact HO_167000.out) (Kd.R_base ho0) hb)
       have n1_ := Aside0.mk (Kd.R_elder' (by (with_reducible repeat (first | apply zrA | apply zrN | apply zrD)); exact HO_171000.out) (Kd.R_base ho0) hb)
       have n2_ := Aside0.mk (Kd.R_elder' (by (with_reducible repeat (first | apply zrA | apply zrN | apply zrD)); exact HO_175000.out) (Kd.R_base ho0) hb)
       have n3_ := Aside0.mk (Kd.R_elder' (by (with_reducible repeat (first | apply zrA | apply zrN | apply zrD)); exact HO_180000.out) (Kd.R_base ho0) hb)
       have n4_ := Aside0.mk (Kd.R_lower (Kd.R_new' (Kd.R_new' (Kd.R_new' (Kd.R_new' ho0 (Kd.R_lt (by (with_reducible repeat (first | apply zrA | apply zrN | apply zrD)); exact HO_167000.out))) (Kd.R_lt (by (with_reducible repeat (first | apply zrA | apply zrN | apply zrD)); exact HO_171000.out))) (Kd.R_lt (by (with_reducible repeat (first | apply zrA | apply zrN | apply zrD)); exact HO_175000.out))) (Kd.R_lt (by (with_reducible repeat (first | apply zrA | apply zrN | apply zrD)); exact HO_180000.out))) (below_size (by repeat (first | (with_reducible first | exact HB.out | apply zwA | apply zwN | apply zwD | refine below_set ?_ GE152.out | refine below_set ?_ GE153.out | refine below_set ?_ GE166.out | refine below_set ?_ GE170.out | refine below_set ?_ GE174.out | refine below_set ?_ GE179.out) | exact HB.out))))
       have n5_ := Aside0.mk (blk_below (g := gb152) (o := .cells #[.slice A0_0 l0_0.length c0_0] 24 (0, 0)) (by (with_reducible repeat (first | refine zbN ?_ _ | refine zbD ?_ | refine zbA ?_ _)); exact BK152.out) hb)
       have n6_ := Aside0.mk (blk_below (g := gb153) (o := .cells #[.slice A1_0 l1_0.length c1_0] 24 (0, 0)) (by (with_reducible repeat (first | refine zbN ?_ _ | refine zbD ?_ | refine zbA ?_ _)); exact BK153.out) hb)
       have n7_ := Aside0.mk (blk_below (g := gb166) (o := .cells #[.slice Ao41 t162.length co41] 26 (0, 0)) (by (with_reducible repeat (first | refine zbN ?_ _ | refine zbD ?_ | refine zbA ?_ _)); exact BK166.out) hb)
       have n8_ := Aside0.mk (blk_below (g := gb170) (o := .cells #[.slice Ao47 t167.length co47] 26 (0, 0)) (by (with_reducible repeat (first | refine zbN ?_ _ | refine zbD ?_ | refine zbA ?_ _)); exact BK170.out) hb)
       have n9_ := Aside0.mk (blk_below (g := gb174) (o := .cells #[.slice Ao56 t171.length co56] 26 (0, 0)) (by (with_reducible repeat (first | refine zbN ?_ _ | refine zbD ?_ | refine zbA ?_ _)); exact BK174.out) hb)
       have n10_ := Aside0.mk (blk_below (g := gb179) (o := .cells #[.slice Ao65 t175.length co65] 26 (0, 0)) (by (with_reducible repeat (first | refine zbN ?_ _ | refine zbD ?_ | refine zbA ?_ _)); exact BK179.out) hb)
       have n11_ := Aside0.mk (below_step (by repeat (first | (with_reducible first | exact HB.out | apply zwA | apply zwN | apply zwD | refine below_set ?_ GE152.out | refine below_set ?_ GE153.out | refine below_set ?_ GE166.out | refine below_set ?_ GE170.out | refine below_set ?_ GE174.out | refine below_set ?_ GE179.out) | exact HB.out)) hb)
       clear HO_167000
       clear HO_171000
       clear HO_175000
       clear HO_180000
       clear BK152
       clear BK153
       clear BK166
       clear BK170
       clear BK174
       clear BK179
       clear HB
       have HO_167000 := n0_
       have HO_171000 := n1_
       have HO_175000 := n2_
       have HO_180000 := n3_
       have HO183 := n4_
       have BK152 := n5_
       have BK153 := n6_
       have BK166 := n7_
       have BK170 := n8_
       have BK174 := n9_
       have BK179 := n10_
       have HB := n11_
       clear n0_ n1_ n2_ n3_ n4_ n5_ n6_ n7_ n8_ n9_ n10_ n11_
       (try clear hb)
       (try clear hb2)
       (try clear hk)
       (try clear hi)
       (try clear ho0)
       obtain ⟨Ao270, co270, eo270⟩ := Kd.R_slice HO183.out
       (first | subst eo270 | (injection eo270 with f1_ f2_ f3_; have f4_ := f1_.symm; have f5_ := f3_.symm; clear f1_ f2_ f3_; subst f4_; subst f5_))
       refine hK.out _ _ ⟨(blk_cell BK170.out 0).trans rfl, (blk_cell BK152.out 0).trans rfl⟩ (fun hHeld => ?_)
       clear hK K
       refine norm_ (a' := ?_) ?_ ?_
       rotate_left
       ·
        show Act.put _ (some 56) _ = _
        simp only [Act.put, List.setIfInBounds_toArray, List.set_cons_zero, List.set_cons_succ, i64_w, i32_w]
        rfl
       refine one_ (i := 3) (N := some 57) #[true, true, true, true, false] rfl rfl (by kernel_rfl) (by decide) (fun K hK => ?_)
       refine goes_ Try.func13 (by kernel_rfl) rfl #[.agg #[.slice Ao47 t167.length co47], .agg #[.slice Ao270 t181.length co270]] (by rfl) rfl rfl (by (try simp only [List.map_toArray, List.map_cons, List.map_nil]); first | done | rfl | (simp only [List.length_drop, List.length_take]; rfl)) ?_
       with_reducible refine (laws_eqSketch.calls kj24 _ _ t167 _ _ t181 false _ ?side1 ?side2 ?side3 ?side4 A100.out).mono ?_
       (case side1 => repeat (first | exact (Kd.R_reads' HO_171000.out).2.2 | (with_reducible refine Kd.C_alloc ?_ _) | (with_reducible refine Kd.C_drewN ?_ _) | (with_reducible refine Kd.C_drew ?_)))
       (case side2 => exact (Kd.R_reads' HO_171000.out).2.1)
       (case side3 => repeat (first | exact (Kd.R_reads' HO183.out).2.2 | (with_reducible refine Kd.C_alloc ?_ _) | (with_reducible refine Kd.C_drewN ?_ _) | (with_reducible refine Kd.C_drew ?_)))
       (case side4 => exact (Kd.R_reads' HO183.out).2.1)
       rintro e w271 ⟨rfl, hb⟩
       refine ⟨_, rfl, ?_⟩
       have n0_ := Aside0.mk (Kd.R_below (by (with_reducible repeat (first | apply zrA | apply zrN | apply zrD)); exact HO_167000.out) hb)
       have n1_ := Aside0.mk (Kd.R_below (by (with_reducible repeat (first | apply zrA | apply zrN | apply zrD)); exact HO_171000.out) hb)
       have n2_ := Aside0.mk (Kd.R_below (by (with_reducible repeat (first | apply zrA | apply zrN | apply zrD)); exact HO_175000.out) hb)
       have n3_ := Aside0.mk (Kd.R_below (by (with_reducible repeat (first | apply zrA | apply zrN | apply zrD)); exact HO_180000.out) hb)
       have n4_ := Aside0.mk (Kd.R_below (by (with_reducible repeat (first | apply zrA | apply zrN | apply zrD)); exact HO183.out) hb)
       have n5_ := Aside0.mk (blk_below (g := gb152) (o := .cells #[.slice A0_0 l0_0.length c0_0] 24 (0, 0)) (by (with_reducible repeat (first | refine zbN ?_ _ | refine zbD ?_ | refine zbA ?_ _)); exact BK152.out) hb)
       have n6_ := Aside0.mk (blk_below (g := gb153) (o := .cells #[.slice A1_0 l1_0.length c1_0] 24 (0, 0)) (by (with_reducible repeat (first | refine zbN ?_ _ | refine zbD ?_ | refine zbA ?_ _)); exact BK153.out) hb)
       have n7_ := Aside0.mk (blk_below (g := gb166) (o := .cells #[.slice Ao41 t162.length co41] 26 (0, 0)) (by (with_reducible repeat (first | refine zbN ?_ _ | refine zbD ?_ | refine zbA ?_ _)); exact BK166.out) hb)
       have n8_ := Aside0.mk (blk_below (g := gb170) (o := .cells #[.slice Ao47 t167.length co47] 26 (0, 0)) (by (with_reducible repeat (first | refine zbN ?_ _ | refine zbD ?_ | refine zbA ?_ _)); exact BK170.out) hb)
       have n9_ := Aside0.mk (blk_below (g := gb174) (o := .cells #[.slice Ao56 t171.length co56] 26 (0, 0)) (by (with_reducible repeat (first | refine zbN ?_ _ | refine zbD ?_ | refine zbA ?_ _)); exact BK174.out) hb)
       have n10_ := Aside0.mk (blk_below (g := gb179) (o := .cells #[.slice Ao65 t175.length co65] 26 (0, 0)) (by (with_reducible repeat (first | refine zbN ?_ _ | refine zbD ?_ | refine zbA ?_ _)); exact BK179.out) hb)
       have n11_ := Aside0.mk (below_step (by repeat (first | (with_reducible first | exact HB.out | apply zwA | apply zwN | apply zwD | refine below_set ?_ GE152.out | refine below_set ?_ GE153.out | refine below_set ?_ GE166.out | refine below_set ?_ GE170.out | refine below_set ?_ GE174.out | refine below_set ?_ GE179.out) | exact HB.out)) hb)
       clear HO_167000
       clear HO_171000
       clear HO_175000
       clear HO_180000
       clear HO183
       clear BK152
       clear BK153
       clear BK166
       clear BK170
       clear BK174
       clear BK179
       clear HB
       have HO_167000 := n0_
       have HO_171000 := n1_
       have HO_175000 := n2_
       have HO_180000 := n3_
       have HO183 := n4_
       have BK152 := n5_
       have BK153 := n6_
       have BK166 := n7_
       have BK170 := n8_
       have BK174 := n9_
       have BK179 := n10_
       have HB := n11_
       clear n0_ n1_ n2_ n3_ n4_ n5_ n6_ n7_ n8_ n9_ n10_ n11_
       (try clear hb)
       (try clear hb2)
       (try clear hk)
       (try clear hi)
       refine hK.out _ _ ⟨(blk_cell BK170.out 0).trans rfl, (blk_cell BK152.out 0).trans rfl⟩ (fun hHeld => ?_)
       clear hK K
       refine norm_ (a' := ?_) ?_ ?_
       rotate_left
       ·
        show Act.put _ (some 57) _ = _
        simp only [Act.put, List.setIfInBounds_toArray, List.set_cons_zero, List.set_cons_succ, i64_w, i32_w]
        rfl
       refine pure_ (i := 4) (N := some 58) (v := ?_) (a' := ?_) #[true, true, true, true, true] rfl rfl (by kernel_rfl) (fun _ _ _ h => h) (Or.inl ⟨by rfl, ?_⟩) ?_ ?_
       rotate_left
       ·
        intro w'
        go_simp
        with_reducible rfl
       rotate_left
       ·
        simp only [Act.put, List.setIfInBounds_toArray, List.set_cons_zero, List.set_cons_succ, i64_w, i32_w]
        rfl
       refine done_ (by kernel_rfl) ?_
       try go_wp2
       go_ret
       exact ⟨by first | rfl | (simp [errW_none, errW_some] <;> rfl) | (simp [*, errW_none, errW_some] <;> rfl), by repeat (first | (with_reducible first | exact HB.out | apply zwA | apply zwN | apply zwD | refine below_set ?_ GE152.out | refine below_set ?_ GE153.out | refine below_set ?_ GE166.out | refine below_set ?_ GE170.out | refine below_set ?_ GE174.out | refine below_set ?_ GE179.out) | exact HB.out)⟩

end Go.Proofs.Ytchoncnahlcfjaa.XFnExactSketchJoin
