-- A text of this session: written by its own program (wip/x/xprint.py), which runs the kit's printer with contracts of its own.
import Derived.Test.YtchoncnahlcfjaaXFnExactDigestJoinx0
import Derived.Test.YtchoncnahlcfjaaXFnExactDigestJoinx1
import Derived.Test.YtchoncnahlcfjaaXFnExactDigestJoinx4
import Derived.Test.YtchoncnahlcfjaaXFnExactDigestJoinx5
import Derived.Test.YtchoncnahlcfjaaXFnExactDigestJoinx7
import Derived.Test.YtchoncnahlcfjaaXFnExactDigestJoinx8h
import Derived.Test.YtchoncnahlcfjaaXFnExactDigestJoinx8a
import Derived.Test.YtchoncnahlcfjaaXFnExactDigestJoinx8b
import Derived.Test.YtchoncnahlcfjaaXFnExactDigestJoinx8c
namespace Go.Proofs.Ytchoncnahlcfjaa.XFnExactDigestJoin
open Go.RowKit Go.Proofs.YtchoncnahlcfjaaW.PrintWords Go.Proofs.YtchoncnahlcfjaaW.PrintLast Go.Proofs.YtchoncnahlcfjaaW.PrintMore
attribute [local go_sem] max2_int min2_int max_two min_two max_three min_three max_four min_four   -- for this text's walks alone
set_option linter.unusedVariables false
set_option linter.unusedSimpArgs false

theorem zbN {w : World} {g : Nat} {o : Obj} (h : w.heap[g]? = some o) (n : Nat) : (w.drewN n).heap[g]? = some o := blk_drewN h n
theorem zbD {w : World} {g : Nat} {o : Obj} (h : w.heap[g]? = some o) : w.drew.heap[g]? = some o := blk_drew h
theorem zbA {w : World} {g : Nat} {o : Obj} (h : w.heap[g]? = some o) (o' : Obj) : (w.alloc o').heap[g]? = some o := blk_alloc h o'
theorem zrA {α : Type} {d : Kd α} {e : Nat} {w : World} {base : Nat} {ok : Nat → Prop} {v : Value} {xs : List α} (h : d.R e w base ok v xs) (o : Obj) : d.R e (w.alloc o) base ok v xs := Kd.R_alloc h o
theorem zrN {α : Type} {d : Kd α} {e : Nat} {w : World} {base : Nat} {ok : Nat → Prop} {v : Value} {xs : List α} (h : d.R e w base ok v xs) (m : Nat) : d.R e (w.drewN m) base ok v xs := Kd.R_drewN h m
theorem zrD {α : Type} {d : Kd α} {e : Nat} {w : World} {base : Nat} {ok : Nat → Prop} {v : Value} {xs : List α} (h : d.R e w base ok v xs) : d.R e w.drew base ok v xs := Kd.R_drew h
theorem zwA {w W : World} (h : Below w.heap.size w W) (o : Obj) : Below w.heap.size w (W.alloc o) := below_alloc h o
theorem zwN {B : Nat} {w W : World} (h : Below B w W) (n : Nat) : Below B w (W.drewN n) := pw_below_drewN h n
theorem zwD {base : Nat} {w W : World} (h : Below base w W) : Below base w W.drew := below_drew1 h
set_option maxHeartbeats 8000000 in
set_option maxRecDepth 100000 in
theorem laws_FnExactDigestJoin.calls (k : Nat) (a0_0 : Int) (a0_1 : Int) (a0_2 : Int) (A0_3 : Option Addr) (c0_3 : Nat) (l0_3 : List Int) (a1_0 : Int) (a1_1 : Int) (a1_2 : Int) (A1_3 : Option Addr) (c1_3 : Nat) (l1_3 : List Int) (r : Bool) (w : World) (hr0_3 : Kd.C (Kd.int .i64) w A0_3 l0_3.length l0_3) (hc0_3 : l0_3.length ≤ c0_3) (hr1_3 : Kd.C (Kd.int .i64) w A1_3 l1_3.length l1_3) (hc1_3 : l1_3.length ≤ c1_3) (h : laws_FnExactDigestJoin.f k a0_0 a0_1 a0_2 l0_3 a1_0 a1_1 a1_2 l1_3 = some r) :
  Calls Try.prog 6 #[.agg #[.int .i64 a0_0, .int .i64 a0_1, .int .i64 a0_2, .slice A0_3 l0_3.length c0_3], .agg #[.int .i64 a1_0, .int .i64 a1_1, .int .i64 a1_2, .slice A1_3 l1_3.length c1_3]] w fun e w' => e = .returned (.bool r) ∧ Below w.heap.size w w' := by
 have hu46 := Try.underlying46
 have hu37 := Try.underlying37
 have HR0_3 := Aside0.mk hr0_3
 have HC0_3 := Aside0.mk hc0_3
 clear hr0_3 hc0_3
 have HR1_3 := Aside0.mk hr1_3
 have HC1_3 := Aside0.mk hc1_3
 clear hr1_3 hc1_3
 have HB := Aside0.mk (Below.refl w.heap.size w)
 have H : ((laws_szDigest.f a0_0 a0_1 a0_2 l0_3 1048576).bind fun t215 => (if t215 < 0 then (some true) else ((laws_szDigest.f a1_0 a1_1 a1_2 l1_3 t215).bind fun t216 => (if t216 < 0 then (some true) else ((laws_toDigest.f k a0_0 a0_1 a0_2 l0_3).bind fun bt217 => ((laws_toDigest.f k a1_0 a1_1 a1_2 l1_3).bind fun bt223 => ((spec_DigestJoin.f k bt217.1 bt217.2.1 bt217.2.2.1 bt217.2.2.2 bt223.1 bt223.2.1 bt223.2.2.1 bt223.2.2.2).bind fun bt229 => ((laws_toDigest.f k a0_0 a0_1 a0_2 l0_3).bind fun bt237 => ((laws_toDigest.f k a1_0 a1_1 a1_2 l1_3).bind fun bt244 => ((impl_DigestJoin.f k bt237.1 bt237.2.1 bt237.2.2.1 bt237.2.2.2 bt244.1 bt244.2.1 bt244.2.2.1 bt244.2.2.2).bind fun bt251 => ((laws_eqDigest.f k bt251.1 bt251.2.1 bt251.2.2.1 bt251.2.2.2.1 bt229.1 bt229.2.1 bt229.2.2.1 bt229.2.2.2.1).bind fun t259 => (if t259 = true then (laws_FnExactDigestJoin.j0 k bt229.2.2.2.2 bt251.2.2.2.2 (bt251.2.2.2.2 != bt229.2.2.2.2) a0_0 a0_1 a0_2 l0_3 a1_0 a1_1 a1_2 l1_3 bt229.1 bt229.2.1 bt229.2.2.1 bt229.2.2.2.1 bt237.1 bt237.2.1 bt237.2.2.1 bt237.2.2.2 bt244.1 bt244.2.1 bt244.2.2.1 bt244.2.2.2 bt251.1 bt251.2.1 bt251.2.2.1 bt251.2.2.2.1) else (laws_FnExactDigestJoin.j0 k bt229.2.2.2.2 bt251.2.2.2.2 true a0_0 a0_1 a0_2 l0_3 a1_0 a1_1 a1_2 l1_3 bt229.1 bt229.2.1 bt229.2.2.1 bt229.2.2.2.1 bt237.1 bt237.2.1 bt237.2.2.1 bt237.2.2.2 bt244.1 bt244.2.1 bt244.2.2.1 bt244.2.2.2 bt251.1 bt251.2.1 bt251.2.2.1 bt251.2.2.2.1))))))))))))) = some r := h
 clear h
 replace H := Option.bind_eq_some_iff.mp H
 obtain ⟨t215, A30, H⟩ := H
 replace H : (if t215 < 0 then (some true) else ((laws_szDigest.f a1_0 a1_1 a1_2 l1_3 t215).bind fun t216 => (if t216 < 0 then (some true) else ((laws_toDigest.f k a0_0 a0_1 a0_2 l0_3).bind fun bt217 => ((laws_toDigest.f k a1_0 a1_1 a1_2 l1_3).bind fun bt223 => ((spec_DigestJoin.f k bt217.1 bt217.2.1 bt217.2.2.1 bt217.2.2.2 bt223.1 bt223.2.1 bt223.2.2.1 bt223.2.2.2).bind fun bt229 => ((laws_toDigest.f k a0_0 a0_1 a0_2 l0_3).bind fun bt237 => ((laws_toDigest.f k a1_0 a1_1 a1_2 l1_3).bind fun bt244 => ((impl_DigestJoin.f k bt237.1 bt237.2.1 bt237.2.2.1 bt237.2.2.2 bt244.1 bt244.2.1 bt244.2.2.1 bt244.2.2.2).bind fun bt251 => ((laws_eqDigest.f k bt251.1 bt251.2.1 bt251.2.2.1 bt251.2.2.2.1 bt229.1 bt229.2.1 bt229.2.2.1 bt229.2.2.2.1).bind fun t259 => (if t259 = true then (laws_FnExactDigestJoin.j0 k bt229.2.2.2.2 bt251.2.2.2.2 (bt251.2.2.2.2 != bt229.2.2.2.2) a0_0 a0_1 a0_2 l0_3 a1_0 a1_1 a1_2 l1_3 bt229.1 bt229.2.1 bt229.2.2.1 bt229.2.2.2.1 bt237.1 bt237.2.1 bt237.2.2.1 bt237.2.2.2 bt244.1 bt244.2.1 bt244.2.2.1 bt244.2.2.2 bt251.1 bt251.2.1 bt251.2.2.1 bt251.2.2.2.1) else (laws_FnExactDigestJoin.j0 k bt229.2.2.2.2 bt251.2.2.2.2 true a0_0 a0_1 a0_2 l0_3 a1_0 a1_1 a1_2 l1_3 bt229.1 bt229.2.1 bt229.2.2.1 bt229.2.2.2.1 bt237.1 bt237.2.1 bt237.2.2.1 bt237.2.2.2 bt244.1 bt244.2.1 bt244.2.2.1 bt244.2.2.2 bt251.1 bt251.2.1 bt251.2.2.1 bt251.2.2.2.1)))))))))))) = some r := H
 have A3 := Aside0.mk A30
 clear A30
 by_cases c4 : t215 < 0
 ·
  rw [if_pos c4] at H
  have c4b0 : decide (t215 < 0) = true := decide_eq_true c4
  clear c4
  obtain rfl := Option.some.inj H
  go_enter Try.func6, Try.ntmps6
  go_wp2_with (first | ((with_reducible refine gate_dst (N := 2) rfl ?_); refine box_event ?hg (N := 2) ?hd (cs := #[.int .i64 a0_0, .int .i64 a0_1, .int .i64 a0_2, .slice A0_3 l0_3.length c0_3]) (t := 46) ?hr ?_; (case hd => rfl); (case hg => rfl); (case hr => first | (go_simp; done) | (go_simp; rfl)); intro gb213 hg w5 hbox hb; have n0_ := Aside0.mk (below_step (zh HB) hb); have n1_ := Aside0.mk (hbox); have n2_ := Aside0.mk ((by rw [hg]; exact (below_size (zh HB)) : w.heap.size ≤ gb213)); have n3_ := Aside0.mk ((by rw [hg]; exact (below_size (zh HB)) : w.heap.size ≤ gb213)); clear HB; have HB := n0_; have BK213 := n1_; have GW213 := n2_; have GE213 := n3_; clear n0_ n1_ n2_ n3_; clear hb hbox hg) | ((with_reducible refine gate_dst (N := 3) rfl ?_); refine box_event ?hg (N := 3) ?hd (cs := #[.int .i64 a1_0, .int .i64 a1_1, .int .i64 a1_2, .slice A1_3 l1_3.length c1_3]) (t := 46) ?hr ?_; (case hd => rfl); (case hg => rfl); (case hr => first | (go_simp; done) | (go_simp; rfl)); intro gb214 hg w6 hbox hb; have n0_ := Aside0.mk (blk_below (zb BK213) hb); have n1_ := Aside0.mk (below_step (zg HB) hb); have n2_ := Aside0.mk (hbox); have n3_ := Aside0.mk ((by rw [hg]; exact (below_size (zg HB)) : w.heap.size ≤ gb214)); have n4_ := Aside0.mk ((by rw [hg]; exact (below_size (zg HB)) : w.heap.size ≤ gb214)); have n5_ := Aside0.mk ((by rw [hg]; exact Nat.ne_of_lt (blk_lt (zb BK213)) : gb213 ≠ gb214)); have n6_ := Aside0.mk ((by rw [hg]; exact Nat.ne_of_gt (blk_lt (zb BK213)) : gb214 ≠ gb213)); clear BK213; clear HB; have BK213 := n0_; have HB := n1_; have BK214 := n2_; have GW214 := n3_; have GE214 := n4_; have NB213_214 := n5_; have NB214_213 := n6_; clear n0_ n1_ n2_ n3_ n4_ n5_ n6_; clear hb hbox hg; have hnb7 := NB213_214.out; have hnc7 := NB214_213.out; have hcz8_0 : w6.cell? ⟨gb213, 0, none⟩ = some (.int .i64 a0_0) := (blk_cell BK213.out 0).trans rfl; have hcz8_1 : w6.cell? ⟨gb213, 1, none⟩ = some (.int .i64 a0_1) := (blk_cell BK213.out 1).trans rfl; have hcz8_2 : w6.cell? ⟨gb213, 2, none⟩ = some (.int .i64 a0_2) := (blk_cell BK213.out 2).trans rfl; have hcz8_3 : w6.cell? ⟨gb213, 3, none⟩ = some (.slice A0_3 l0_3.length c0_3) := (blk_cell BK213.out 3).trans rfl; have hfz8_0 := blk_frozen BK213.out 0; have hfz8_1 := blk_frozen BK213.out 1; have hfz8_2 := blk_frozen BK213.out 2; have hfz8_3 := blk_frozen BK213.out 3) | ((with_reducible refine gate_callee (f := 26) rfl ?_); refine goesL_ (some 19) rfl rfl Try.func26 (by kernel_rfl) rfl #[.agg #[.int .i64 a0_0, .int .i64 a0_1, .int .i64 a0_2, .slice A0_3 l0_3.length c0_3], .int .i64 1048576] rfl zar ?_; (with_reducible refine (laws_szDigest.calls a0_0 a0_1 a0_2 _ _ l0_3 1048576 t215 _ ?side1 ?side2 A3.out).mono ?_); (case side1 => repeat (first | exact (Kd.C_below HR0_3.out HB.out) | (with_reducible refine Kd.C_alloc ?_ _) | (with_reducible refine Kd.C_drewN ?_ _) | (with_reducible refine Kd.C_drew ?_))); (case side2 => exact HC0_3.out); rintro e w9 ⟨rfl, hb⟩; refine ⟨_, rfl, ?_⟩; have n0_ := Aside0.mk (blk_below (zb BK213) hb); have n1_ := Aside0.mk (blk_below (zb BK214) hb); have n2_ := Aside0.mk (below_step (zg HB) hb); clear BK213; clear BK214; clear HB; have BK213 := n0_; have BK214 := n1_; have HB := n2_; clear n0_ n1_ n2_; (try clear hb); (try clear hb2); (try clear hk); (try clear hi)))
  go_ret
  exact ⟨zre, zg HB⟩
 ·
  rw [if_neg c4] at H
  have c4b0 : decide (t215 < 0) = false := decide_eq_false c4
  clear c4
  replace H := Option.bind_eq_some_iff.mp H
  obtain ⟨t216, A100, H⟩ := H
  replace H : (if t216 < 0 then (some true) else ((laws_toDigest.f k a0_0 a0_1 a0_2 l0_3).bind fun bt217 => ((laws_toDigest.f k a1_0 a1_1 a1_2 l1_3).bind fun bt223 => ((spec_DigestJoin.f k bt217.1 bt217.2.1 bt217.2.2.1 bt217.2.2.2 bt223.1 bt223.2.1 bt223.2.2.1 bt223.2.2.2).bind fun bt229 => ((laws_toDigest.f k a0_0 a0_1 a0_2 l0_3).bind fun bt237 => ((laws_toDigest.f k a1_0 a1_1 a1_2 l1_3).bind fun bt244 => ((impl_DigestJoin.f k bt237.1 bt237.2.1 bt237.2.2.1 bt237.2.2.2 bt244.1 bt244.2.1 bt244.2.2.1 bt244.2.2.2).bind fun bt251 => ((laws_eqDigest.f k bt251.1 bt251.2.1 bt251.2.2.1 bt251.2.2.2.1 bt229.1 bt229.2.1 bt229.2.2.1 bt229.2.2.2.1).bind fun t259 => (if t259 = true then (laws_FnExactDigestJoin.j0 k bt229.2.2.2.2 bt251.2.2.2.2 (bt251.2.2.2.2 != bt229.2.2.2.2) a0_0 a0_1 a0_2 l0_3 a1_0 a1_1 a1_2 l1_3 bt229.1 bt229.2.1 bt229.2.2.1 bt229.2.2.2.1 bt237.1 bt237.2.1 bt237.2.2.1 bt237.2.2.2 bt244.1 bt244.2.1 bt244.2.2.1 bt244.2.2.2 bt251.1 bt251.2.1 bt251.2.2.1 bt251.2.2.2.1) else (laws_FnExactDigestJoin.j0 k bt229.2.2.2.2 bt251.2.2.2.2 true a0_0 a0_1 a0_2 l0_3 a1_0 a1_1 a1_2 l1_3 bt229.1 bt229.2.1 bt229.2.2.1 bt229.2.2.2.1 bt237.1 bt237.2.1 bt237.2.2.1 bt237.2.2.2 bt244.1 bt244.2.1 bt244.2.2.1 bt244.2.2.2 bt251.1 bt251.2.1 bt251.2.2.1 bt251.2.2.2.1)))))))))) = some r := H
  have A10 := Aside0.mk A100
  clear A100
  by_cases c11 : t216 < 0
  ·
   rw [if_pos c11] at H
   have c11b0 : decide (t216 < 0) = true := decide_eq_true c11
   clear c11
   obtain rfl := Option.some.inj H
   go_enter Try.func6, Try.ntmps6
   go_wp2_with (first | ((with_reducible refine gate_dst (N := 2) rfl ?_); refine box_event ?hg (N := 2) ?hd (cs := #[.int .i64 a0_0, .int .i64 a0_1, .int .i64 a0_2, .slice A0_3 l0_3.length c0_3]) (t := 46) ?hr ?_; (case hd => rfl); (case hg => rfl); (case hr => first | (go_simp; done) | (go_simp; rfl)); intro gb213 hg w12 hbox hb; have n0_ := Aside0.mk (below_step (zh HB) hb); have n1_ := Aside0.mk (hbox); have n2_ := Aside0.mk ((by rw [hg]; exact (below_size (zh HB)) : w.heap.size ≤ gb213)); have n3_ := Aside0.mk ((by rw [hg]; exact (below_size (zh HB)) : w.heap.size ≤ gb213)); clear HB; have HB := n0_; have BK213 := n1_; have GW213 := n2_; have GE213 := n3_; clear n0_ n1_ n2_ n3_; clear hb hbox hg) | ((with_reducible refine gate_dst (N := 3) rfl ?_); refine box_event ?hg (N := 3) ?hd (cs := #[.int .i64 a1_0, .int .i64 a1_1, .int .i64 a1_2, .slice A1_3 l1_3.length c1_3]) (t := 46) ?hr ?_; (case hd => rfl); (case hg => rfl); (case hr => first | (go_simp; done) | (go_simp; rfl)); intro gb214 hg w13 hbox hb; have n0_ := Aside0.mk (blk_below (zb BK213) hb); have n1_ := Aside0.mk (below_step (zg HB) hb); have n2_ := Aside0.mk (hbox); have n3_ := Aside0.mk ((by rw [hg]; exact (below_size (zg HB)) : w.heap.size ≤ gb214)); have n4_ := Aside0.mk ((by rw [hg]; exact (below_size (zg HB)) : w.heap.size ≤ gb214)); have n5_ := Aside0.mk ((by rw [hg]; exact Nat.ne_of_lt (blk_lt (zb BK213)) : gb213 ≠ gb214)); have n6_ := Aside0.mk ((by rw [hg]; exact Nat.ne_of_gt (blk_lt (zb BK213)) : gb214 ≠ gb213)); clear BK213; clear HB; have BK213 := n0_; have HB := n1_; have BK214 := n2_; have GW214 := n3_; have GE214 := n4_; have NB213_214 := n5_; have NB214_213 := n6_; clear n0_ n1_ n2_ n3_ n4_ n5_ n6_; clear hb hbox hg; have hnb14 := NB213_214.out; have hnc14 := NB214_213.out; have hcz15_0 : w13.cell? ⟨gb213, 0, none⟩ = some (.int .i64 a0_0) := (blk_cell BK213.out 0).trans rfl; have hcz15_1 : w13.cell? ⟨gb213, 1, none⟩ = some (.int .i64 a0_1) := (blk_cell BK213.out 1).trans rfl; have hcz15_2 : w13.cell? ⟨gb213, 2, none⟩ = some (.int .i64 a0_2) := (blk_cell BK213.out 2).trans rfl; have hcz15_3 : w13.cell? ⟨gb213, 3, none⟩ = some (.slice A0_3 l0_3.length c0_3) := (blk_cell BK213.out 3).trans rfl; have hfz15_0 := blk_frozen BK213.out 0; have hfz15_1 := blk_frozen BK213.out 1; have hfz15_2 := blk_frozen BK213.out 2; have hfz15_3 := blk_frozen BK213.out 3) | ((with_reducible refine gate_callee (f := 26) rfl ?_); refine goesL_ (some 19) rfl rfl Try.func26 (by kernel_rfl) rfl #[.agg #[.int .i64 a0_0, .int .i64 a0_1, .int .i64 a0_2, .slice A0_3 l0_3.length c0_3], .int .i64 1048576] rfl zar ?_; (with_reducible refine (laws_szDigest.calls a0_0 a0_1 a0_2 _ _ l0_3 1048576 t215 _ ?side1 ?side2 A3.out).mono ?_); (case side1 => repeat (first | exact (Kd.C_below HR0_3.out HB.out) | (with_reducible refine Kd.C_alloc ?_ _) | (with_reducible refine Kd.C_drewN ?_ _) | (with_reducible refine Kd.C_drew ?_))); (case side2 => exact HC0_3.out); rintro e w16 ⟨rfl, hb⟩; refine ⟨_, rfl, ?_⟩; have n0_ := Aside0.mk (blk_below (zb BK213) hb); have n1_ := Aside0.mk (blk_below (zb BK214) hb); have n2_ := Aside0.mk (below_step (zg HB) hb); clear BK213; clear BK214; clear HB; have BK213 := n0_; have BK214 := n1_; have HB := n2_; clear n0_ n1_ n2_; (try clear hb); (try clear hb2); (try clear hk); (try clear hi); have hcz17_0 : w16.cell? ⟨gb214, 0, none⟩ = some (.int .i64 a1_0) := (blk_cell BK214.out 0).trans rfl; have hcz17_1 : w16.cell? ⟨gb214, 1, none⟩ = some (.int .i64 a1_1) := (blk_cell BK214.out 1).trans rfl; have hcz17_2 : w16.cell? ⟨gb214, 2, none⟩ = some (.int .i64 a1_2) := (blk_cell BK214.out 2).trans rfl; have hcz17_3 : w16.cell? ⟨gb214, 3, none⟩ = some (.slice A1_3 l1_3.length c1_3) := (blk_cell BK214.out 3).trans rfl; have hfz17_0 := blk_frozen BK214.out 0; have hfz17_1 := blk_frozen BK214.out 1; have hfz17_2 := blk_frozen BK214.out 2; have hfz17_3 := blk_frozen BK214.out 3) | ((with_reducible refine gate_callee (f := 26) rfl ?_); refine goesL_ (some 24) rfl rfl Try.func26 (by kernel_rfl) rfl #[.agg #[.int .i64 a1_0, .int .i64 a1_1, .int .i64 a1_2, .slice A1_3 l1_3.length c1_3], .int .i64 t215] rfl zar ?_; (with_reducible refine (laws_szDigest.calls a1_0 a1_1 a1_2 _ _ l1_3 t215 t216 _ ?side1 ?side2 A10.out).mono ?_); (case side1 => repeat (first | exact (Kd.C_below HR1_3.out HB.out) | (with_reducible refine Kd.C_alloc ?_ _) | (with_reducible refine Kd.C_drewN ?_ _) | (with_reducible refine Kd.C_drew ?_))); (case side2 => exact HC1_3.out); rintro e w18 ⟨rfl, hb⟩; refine ⟨_, rfl, ?_⟩; have n0_ := Aside0.mk (blk_below (zb BK213) hb); have n1_ := Aside0.mk (blk_below (zb BK214) hb); have n2_ := Aside0.mk (below_step (zg HB) hb); clear BK213; clear BK214; clear HB; have BK213 := n0_; have BK214 := n1_; have HB := n2_; clear n0_ n1_ n2_; (try clear hb); (try clear hb2); (try clear hk); (try clear hi)))
   go_ret
   exact ⟨zre, zg HB⟩
  ·
   rw [if_neg c11] at H
   have c11b0 : decide (t216 < 0) = false := decide_eq_false c11
   clear c11
   replace H := Option.bind_eq_some_iff.mp H
   obtain ⟨⟨t217, t218, t219, t220⟩, A190, H⟩ := H
   replace H : ((laws_toDigest.f k a1_0 a1_1 a1_2 l1_3).bind fun bt223 => ((spec_DigestJoin.f k t217 t218 t219 t220 bt223.1 bt223.2.1 bt223.2.2.1 bt223.2.2.2).bind fun bt229 => ((laws_toDigest.f k a0_0 a0_1 a0_2 l0_3).bind fun bt237 => ((laws_toDigest.f k a1_0 a1_1 a1_2 l1_3).bind fun bt244 => ((impl_DigestJoin.f k bt237.1 bt237.2.1 bt237.2.2.1 bt237.2.2.2 bt244.1 bt244.2.1 bt244.2.2.1 bt244.2.2.2).bind fun bt251 => ((laws_eqDigest.f k bt251.1 bt251.2.1 bt251.2.2.1 bt251.2.2.2.1 bt229.1 bt229.2.1 bt229.2.2.1 bt229.2.2.2.1).bind fun t259 => (if t259 = true then (laws_FnExactDigestJoin.j0 k bt229.2.2.2.2 bt251.2.2.2.2 (bt251.2.2.2.2 != bt229.2.2.2.2) a0_0 a0_1 a0_2 l0_3 a1_0 a1_1 a1_2 l1_3 bt229.1 bt229.2.1 bt229.2.2.1 bt229.2.2.2.1 bt237.1 bt237.2.1 bt237.2.2.1 bt237.2.2.2 bt244.1 bt244.2.1 bt244.2.2.1 bt244.2.2.2 bt251.1 bt251.2.1 bt251.2.2.1 bt251.2.2.2.1) else (laws_FnExactDigestJoin.j0 k bt229.2.2.2.2 bt251.2.2.2.2 true a0_0 a0_1 a0_2 l0_3 a1_0 a1_1 a1_2 l1_3 bt229.1 bt229.2.1 bt229.2.2.1 bt229.2.2.2.1 bt237.1 bt237.2.1 bt237.2.2.1 bt237.2.2.2 bt244.1 bt244.2.1 bt244.2.2.1 bt244.2.2.2 bt251.1 bt251.2.1 bt251.2.2.1 bt251.2.2.2.1)))))))) = some r := H
   have A19 := Aside0.mk A190
   clear A190
   replace H := Option.bind_eq_some_iff.mp H
   obtain ⟨⟨t223, t224, t225, t226⟩, A200, H⟩ := H
   replace H : ((spec_DigestJoin.f k t217 t218 t219 t220 t223 t224 t225 t226).bind fun bt229 => ((laws_toDigest.f k a0_0 a0_1 a0_2 l0_3).bind fun bt237 => ((laws_toDigest.f k a1_0 a1_1 a1_2 l1_3).bind fun bt244 => ((impl_DigestJoin.f k bt237.1 bt237.2.1 bt237.2.2.1 bt237.2.2.2 bt244.1 bt244.2.1 bt244.2.2.1 bt244.2.2.2).bind fun bt251 => ((laws_eqDigest.f k bt251.1 bt251.2.1 bt251.2.2.1 bt251.2.2.2.1 bt229.1 bt229.2.1 bt229.2.2.1 bt229.2.2.2.1).bind fun t259 => (if t259 = true then (laws_FnExactDigestJoin.j0 k bt229.2.2.2.2 bt251.2.2.2.2 (bt251.2.2.2.2 != bt229.2.2.2.2) a0_0 a0_1 a0_2 l0_3 a1_0 a1_1 a1_2 l1_3 bt229.1 bt229.2.1 bt229.2.2.1 bt229.2.2.2.1 bt237.1 bt237.2.1 bt237.2.2.1 bt237.2.2.2 bt244.1 bt244.2.1 bt244.2.2.1 bt244.2.2.2 bt251.1 bt251.2.1 bt251.2.2.1 bt251.2.2.2.1) else (laws_FnExactDigestJoin.j0 k bt229.2.2.2.2 bt251.2.2.2.2 true a0_0 a0_1 a0_2 l0_3 a1_0 a1_1 a1_2 l1_3 bt229.1 bt229.2.1 bt229.2.2.1 bt229.2.2.2.1 bt237.1 bt237.2.1 bt237.2.2.1 bt237.2.2.2 bt244.1 bt244.2.1 bt244.2.2.1 bt244.2.2.2 bt251.1 bt251.2.1 bt251.2.2.1 bt251.2.2.2.1))))))) = some r := H
   have A20 := Aside0.mk A200
   clear A200
   replace H := Option.bind_eq_some_iff.mp H
   obtain ⟨⟨t229, t230, t231, t232, t235⟩, A210, H⟩ := H
   replace H : ((laws_toDigest.f k a0_0 a0_1 a0_2 l0_3).bind fun bt237 => ((laws_toDigest.f k a1_0 a1_1 a1_2 l1_3).bind fun bt244 => ((impl_DigestJoin.f k bt237.1 bt237.2.1 bt237.2.2.1 bt237.2.2.2 bt244.1 bt244.2.1 bt244.2.2.1 bt244.2.2.2).bind fun bt251 => ((laws_eqDigest.f k bt251.1 bt251.2.1 bt251.2.2.1 bt251.2.2.2.1 t229 t230 t231 t232).bind fun t259 => (if t259 = true then (laws_FnExactDigestJoin.j0 k t235 bt251.2.2.2.2 (bt251.2.2.2.2 != t235) a0_0 a0_1 a0_2 l0_3 a1_0 a1_1 a1_2 l1_3 t229 t230 t231 t232 bt237.1 bt237.2.1 bt237.2.2.1 bt237.2.2.2 bt244.1 bt244.2.1 bt244.2.2.1 bt244.2.2.2 bt251.1 bt251.2.1 bt251.2.2.1 bt251.2.2.2.1) else (laws_FnExactDigestJoin.j0 k t235 bt251.2.2.2.2 true a0_0 a0_1 a0_2 l0_3 a1_0 a1_1 a1_2 l1_3 t229 t230 t231 t232 bt237.1 bt237.2.1 bt237.2.2.1 bt237.2.2.2 bt244.1 bt244.2.1 bt244.2.2.1 bt244.2.2.2 bt251.1 bt251.2.1 bt251.2.2.1 bt251.2.2.2.1)))))) = some r := H
   have A21 := Aside0.mk A210
   clear A210
   replace H := Option.bind_eq_some_iff.mp H
   obtain ⟨⟨t237, t238, t239, t240⟩, A220, H⟩ := H
   replace H : ((laws_toDigest.f k a1_0 a1_1 a1_2 l1_3).bind fun bt244 => ((impl_DigestJoin.f k t237 t238 t239 t240 bt244.1 bt244.2.1 bt244.2.2.1 bt244.2.2.2).bind fun bt251 => ((laws_eqDigest.f k bt251.1 bt251.2.1 bt251.2.2.1 bt251.2.2.2.1 t229 t230 t231 t232).bind fun t259 => (if t259 = true then (laws_FnExactDigestJoin.j0 k t235 bt251.2.2.2.2 (bt251.2.2.2.2 != t235) a0_0 a0_1 a0_2 l0_3 a1_0 a1_1 a1_2 l1_3 t229 t230 t231 t232 t237 t238 t239 t240 bt244.1 bt244.2.1 bt244.2.2.1 bt244.2.2.2 bt251.1 bt251.2.1 bt251.2.2.1 bt251.2.2.2.1) else (laws_FnExactDigestJoin.j0 k t235 bt251.2.2.2.2 true a0_0 a0_1 a0_2 l0_3 a1_0 a1_1 a1_2 l1_3 t229 t230 t231 t232 t237 t238 t239 t240 bt244.1 bt244.2.1 bt244.2.2.1 bt244.2.2.2 bt251.1 bt251.2.1 bt251.2.2.1 bt251.2.2.2.1))))) = some r := H
   have A22 := Aside0.mk A220
   clear A220
   replace H := Option.bind_eq_some_iff.mp H
   obtain ⟨⟨t244, t245, t246, t247⟩, A230, H⟩ := H
   replace H : ((impl_DigestJoin.f k t237 t238 t239 t240 t244 t245 t246 t247).bind fun bt251 => ((laws_eqDigest.f k bt251.1 bt251.2.1 bt251.2.2.1 bt251.2.2.2.1 t229 t230 t231 t232).bind fun t259 => (if t259 = true then (laws_FnExactDigestJoin.j0 k t235 bt251.2.2.2.2 (bt251.2.2.2.2 != t235) a0_0 a0_1 a0_2 l0_3 a1_0 a1_1 a1_2 l1_3 t229 t230 t231 t232 t237 t238 t239 t240 t244 t245 t246 t247 bt251.1 bt251.2.1 bt251.2.2.1 bt251.2.2.2.1) else (laws_FnExactDigestJoin.j0 k t235 bt251.2.2.2.2 true a0_0 a0_1 a0_2 l0_3 a1_0 a1_1 a1_2 l1_3 t229 t230 t231 t232 t237 t238 t239 t240 t244 t245 t246 t247 bt251.1 bt251.2.1 bt251.2.2.1 bt251.2.2.2.1)))) = some r := H
   have A23 := Aside0.mk A230
   clear A230
   replace H := Option.bind_eq_some_iff.mp H
   obtain ⟨⟨t251, t252, t253, t254, t257⟩, A240, H⟩ := H
   replace H : ((laws_eqDigest.f k t251 t252 t253 t254 t229 t230 t231 t232).bind fun t259 => (if t259 = true then (laws_FnExactDigestJoin.j0 k t235 t257 (t257 != t235) a0_0 a0_1 a0_2 l0_3 a1_0 a1_1 a1_2 l1_3 t229 t230 t231 t232 t237 t238 t239 t240 t244 t245 t246 t247 t251 t252 t253 t254) else (laws_FnExactDigestJoin.j0 k t235 t257 true a0_0 a0_1 a0_2 l0_3 a1_0 a1_1 a1_2 l1_3 t229 t230 t231 t232 t237 t238 t239 t240 t244 t245 t246 t247 t251 t252 t253 t254))) = some r := H
   have A24 := Aside0.mk A240
   clear A240
   have HC25 := Aside0.mk H
   clear H
   go_enter Try.func6, Try.ntmps6
   try go_wp2_with (first | ((with_reducible refine gate_dst (N := 2) rfl ?_); refine box_event ?hg (N := 2) ?hd (cs := #[.int .i64 a0_0, .int .i64 a0_1, .int .i64 a0_2, .slice A0_3 l0_3.length c0_3]) (t := 46) ?hr ?_; (case hd => rfl); (case hg => rfl); (case hr => first | (go_simp; done) | (go_simp; rfl)); intro gb213 hg w26 hbox hb; have n0_ := Aside0.mk (below_step (zh HB) hb); have n1_ := Aside0.mk (hbox); have n2_ := Aside0.mk ((by rw [hg]; exact (below_size (zh HB)) : w.heap.size ≤ gb213)); have n3_ := Aside0.mk ((by rw [hg]; exact (below_size (zh HB)) : w.heap.size ≤ gb213)); clear HB; have HB := n0_; have BK213 := n1_; have GW213 := n2_; have GE213 := n3_; clear n0_ n1_ n2_ n3_; clear hb hbox hg) | ((with_reducible refine gate_dst (N := 3) rfl ?_); refine box_event ?hg (N := 3) ?hd (cs := #[.int .i64 a1_0, .int .i64 a1_1, .int .i64 a1_2, .slice A1_3 l1_3.length c1_3]) (t := 46) ?hr ?_; (case hd => rfl); (case hg => rfl); (case hr => first | (go_simp; done) | (go_simp; rfl)); intro gb214 hg w27 hbox hb; have n0_ := Aside0.mk (blk_below (zb BK213) hb); have n1_ := Aside0.mk (below_step (zg HB) hb); have n2_ := Aside0.mk (hbox); have n3_ := Aside0.mk ((by rw [hg]; exact (below_size (zg HB)) : w.heap.size ≤ gb214)); have n4_ := Aside0.mk ((by rw [hg]; exact (below_size (zg HB)) : w.heap.size ≤ gb214)); have n5_ := Aside0.mk ((by rw [hg]; exact Nat.ne_of_lt (blk_lt (zb BK213)) : gb213 ≠ gb214)); have n6_ := Aside0.mk ((by rw [hg]; exact Nat.ne_of_gt (blk_lt (zb BK213)) : gb214 ≠ gb213)); clear BK213; clear HB; have BK213 := n0_; have HB := n1_; have BK214 := n2_; have GW214 := n3_; have GE214 := n4_; have NB213_214 := n5_; have NB214_213 := n6_; clear n0_ n1_ n2_ n3_ n4_ n5_ n6_; clear hb hbox hg; have hnb28 := NB213_214.out; have hnc28 := NB214_213.out; have hcz29_0 : w27.cell? ⟨gb213, 0, none⟩ = some (.int .i64 a0_0) := (blk_cell BK213.out 0).trans rfl; have hcz29_1 : w27.cell? ⟨gb213, 1, none⟩ = some (.int .i64 a0_1) := (blk_cell BK213.out 1).trans rfl; have hcz29_2 : w27.cell? ⟨gb213, 2, none⟩ = some (.int .i64 a0_2) := (blk_cell BK213.out 2).trans rfl; have hcz29_3 : w27.cell? ⟨gb213, 3, none⟩ = some (.slice A0_3 l0_3.length c0_3) := (blk_cell BK213.out 3).trans rfl; have hfz29_0 := blk_frozen BK213.out 0; have hfz29_1 := blk_frozen BK213.out 1; have hfz29_2 := blk_frozen BK213.out 2; have hfz29_3 := blk_frozen BK213.out 3) | ((with_reducible refine gate_callee (f := 26) rfl ?_); refine goesL_ (some 19) rfl rfl Try.func26 (by kernel_rfl) rfl #[.agg #[.int .i64 a0_0, .int .i64 a0_1, .int .i64 a0_2, .slice A0_3 l0_3.length c0_3], .int .i64 1048576] rfl zar ?_; (with_reducible refine (laws_szDigest.calls a0_0 a0_1 a0_2 _ _ l0_3 1048576 t215 _ ?side1 ?side2 A3.out).mono ?_); (case side1 => repeat (first | exact (Kd.C_below HR0_3.out HB.out) | (with_reducible refine Kd.C_alloc ?_ _) | (with_reducible refine Kd.C_drewN ?_ _) | (with_reducible refine Kd.C_drew ?_))); (case side2 => exact HC0_3.out); rintro e w30 ⟨rfl, hb⟩; refine ⟨_, rfl, ?_⟩; have n0_ := Aside0.mk (blk_below (zb BK213) hb); have n1_ := Aside0.mk (blk_below (zb BK214) hb); have n2_ := Aside0.mk (below_step (zg HB) hb); clear BK213; clear BK214; clear HB; have BK213 := n0_; have BK214 := n1_; have HB := n2_; clear n0_ n1_ n2_; (try clear hb); (try clear hb2); (try clear hk); (try clear hi); have hcz31_0 : w30.cell? ⟨gb214, 0, none⟩ = some (.int .i64 a1_0) := (blk_cell BK214.out 0).trans rfl; have hcz31_1 : w30.cell? ⟨gb214, 1, none⟩ = some (.int .i64 a1_1) := (blk_cell BK214.out 1).trans rfl; have hcz31_2 : w30.cell? ⟨gb214, 2, none⟩ = some (.int .i64 a1_2) := (blk_cell BK214.out 2).trans rfl; have hcz31_3 : w30.cell? ⟨gb214, 3, none⟩ = some (.slice A1_3 l1_3.length c1_3) := (blk_cell BK214.out 3).trans rfl; have hfz31_0 := blk_frozen BK214.out 0; have hfz31_1 := blk_frozen BK214.out 1; have hfz31_2 := blk_frozen BK214.out 2; have hfz31_3 := blk_frozen BK214.out 3) | ((with_reducible refine gate_callee (f := 26) rfl ?_); refine goesL_ (some 24) rfl rfl Try.func26 (by kernel_rfl) rfl #[.agg #[.int .i64 a1_0, .int .i64 a1_1, .int .i64 a1_2, .slice A1_3 l1_3.length c1_3], .int .i64 t215] rfl zar ?_; (with_reducible refine (laws_szDigest.calls a1_0 a1_1 a1_2 _ _ l1_3 t215 t216 _ ?side1 ?side2 A10.out).mono ?_); (case side1 => repeat (first | exact (Kd.C_below HR1_3.out HB.out) | (with_reducible refine Kd.C_alloc ?_ _) | (with_reducible refine Kd.C_drewN ?_ _) | (with_reducible refine Kd.C_drew ?_))); (case side2 => exact HC1_3.out); rintro e w32 ⟨rfl, hb⟩; refine ⟨_, rfl, ?_⟩; have n0_ := Aside0.mk (blk_below (zb BK213) hb); have n1_ := Aside0.mk (blk_below (zb BK214) hb); have n2_ := Aside0.mk (below_step (zg HB) hb); clear BK213; clear BK214; clear HB; have BK213 := n0_; have BK214 := n1_; have HB := n2_; clear n0_ n1_ n2_; (try clear hb); (try clear hb2); (try clear hk); (try clear hi)))
   have n0_ := Aside0.mk (blk_drew BK213.out)
   have n1_ := Aside0.mk (blk_drew BK214.out)
   have n2_ := Aside0.mk (below_drew1 HB.out)
   clear BK213
   clear BK214
   clear HB
   have BK213 := n0_
   have BK214 := n1_
   have HB := n2_
   clear n0_ n1_ n2_
   refine start_ (n := 11) (S := fun w' => w'.cell? ⟨gb213, 0, none⟩ = some (.int .i64 a0_0) ∧ w'.cell? ⟨gb213, 1, none⟩ = some (.int .i64 a0_1) ∧ w'.cell? ⟨gb213, 2, none⟩ = some (.int .i64 a0_2) ∧ w'.cell? ⟨gb213, 3, none⟩ = some (.slice A0_3 l0_3.length c0_3) ∧ w'.cell? ⟨gb214, 0, none⟩ = some (.int .i64 a1_0) ∧ w'.cell? ⟨gb214, 1, none⟩ = some (.int .i64 a1_1) ∧ w'.cell? ⟨gb214, 2, none⟩ = some (.int .i64 a1_2) ∧ w'.cell? ⟨gb214, 3, none⟩ = some (.slice A1_3 l1_3.length c1_3)) (ds := []) #[false, false, false, false, false, false, false, false, false, false, false] (by kernel_rfl) rfl rfl ⟨(blk_cell BK213.out 0).trans rfl, (blk_cell BK213.out 1).trans rfl, (blk_cell BK213.out 2).trans rfl, (blk_cell BK213.out 3).trans rfl, (blk_cell BK214.out 0).trans rfl, (blk_cell BK214.out 1).trans rfl, (blk_cell BK214.out 2).trans rfl, (blk_cell BK214.out 3).trans rfl⟩ (fun hHeld => ?_); refine with_tabW laws_FnExactDigestJoin.tab8 laws_FnExactDigestJoin.bits8 (fun HT_ HW_ => ?_)
   generalize w32.drew = w33 at BK213 BK214 HB hHeld ⊢
   refine take_ (i := 0) (N := some 28) (v := ?_) (a' := ?_) #[true, false, false, false, false, false, false, false, false, false, false] rfl rfl (take_ofW HT_.out HW_.out (by kernel_rfl)) (fun _ _ _ h => h) (Or.inl ⟨by rfl, ?_⟩) hHeld ?_ ?_
   rotate_left
   ·
    rintro w' ⟨s0, s1, s2, s3, s4, s5, s6, s7⟩
    go_simp
    with_reducible rfl
   rotate_left
   ·
    simp only [Act.put, List.setIfInBounds_toArray, List.set_cons_zero, List.set_cons_succ, i64_w, i32_w]
    rfl
   refine take_ (i := 2) (N := some 30) (v := ?_) (a' := ?_) #[true, false, true, false, false, false, false, false, false, false, false] rfl rfl (take_ofW HT_.out HW_.out (by kernel_rfl)) (fun _ _ _ h => h) (Or.inl ⟨by rfl, ?_⟩) hHeld ?_ ?_
   rotate_left
   ·
    rintro w' ⟨s0, s1, s2, s3, s4, s5, s6, s7⟩
    go_simp
    with_reducible rfl
   rotate_left
   ·
    simp only [Act.put, List.setIfInBounds_toArray, List.set_cons_zero, List.set_cons_succ, i64_w, i32_w]
    rfl
   refine join_ (σ := Value × Value × Value × Nat) 2 #[true, true, true, true, true, true, true, true, true, false, false] (fun s_ => [(29, .agg #[.int .i64 t217, .int .i64 t218, .int .i64 t219, s_.1]), (31, .agg #[.int .i64 t223, .int .i64 t224, .int .i64 t225, s_.2.1]), (32, .tuple #[.agg #[.int .i64 t229, .int .i64 t230, .int .i64 t231, s_.2.2.1], .int .i64 t235]), (6, .pointer (some ⟨s_.2.2.2, 0, none⟩)), (27, .tuple #[.agg #[.int .i64 t229, .int .i64 t230, .int .i64 t231, s_.2.2.1], .int .i64 t235]), (33, .agg #[.int .i64 t229, .int .i64 t230, .int .i64 t231, s_.2.2.1]), (34, .int .i64 t235)]) (fun s_ w' => (w'.cell? ⟨gb213, 0, none⟩ = some (.int .i64 a0_0) ∧ w'.cell? ⟨gb213, 1, none⟩ = some (.int .i64 a0_1) ∧ w'.cell? ⟨gb213, 2, none⟩ = some (.int .i64 a0_2) ∧ w'.cell? ⟨gb213, 3, none⟩ = some (.slice A0_3 l0_3.length c0_3) ∧ w'.cell? ⟨gb214, 0, none⟩ = some (.int .i64 a1_0) ∧ w'.cell? ⟨gb214, 1, none⟩ = some (.int .i64 a1_1) ∧ w'.cell? ⟨gb214, 2, none⟩ = some (.int .i64 a1_2) ∧ w'.cell? ⟨gb214, 3, none⟩ = some (.slice A1_3 l1_3.length c1_3)) ∧ (Kd.R (Kd.int .i64) 3 w' w.heap.size (fun k_ => some k_ ≠ (s_.2.1 : Value).ownBlock ∧ some k_ ≠ (s_.2.2.1 : Value).ownBlock) s_.1 t220) ∧ (Kd.R (Kd.int .i64) 3 w' w.heap.size (fun k_ => some k_ ≠ (s_.1 : Value).ownBlock ∧ some k_ ≠ (s_.2.2.1 : Value).ownBlock) s_.2.1 t226) ∧ (Kd.R (Kd.int .i64) 3 w' w.heap.size (fun k_ => some k_ ≠ (s_.1 : Value).ownBlock ∧ some k_ ≠ (s_.2.1 : Value).ownBlock) s_.2.2.1 t232) ∧ (w'.heap[gb213]? = some (.cells #[.int .i64 a0_0, .int .i64 a0_1, .int .i64 a0_2, .slice A0_3 l0_3.length c0_3] 46 (0, 0))) ∧ (w'.heap[gb214]? = some (.cells #[.int .i64 a1_0, .int .i64 a1_1, .int .i64 a1_2, .slice A1_3 l1_3.length c1_3] 46 (0, 0))) ∧ (w'.heap[s_.2.2.2]? = some (.cells #[.int .i64 0, .int .i64 0, .int .i64 0, .slice none 0 0] 37 (0, 0))) ∧ (w.heap.size ≤ s_.2.2.2) ∧ (w.heap.size ≤ s_.2.2.2) ∧ (gb213 ≠ s_.2.2.2) ∧ (s_.2.2.2 ≠ gb213) ∧ (gb214 ≠ s_.2.2.2) ∧ (s_.2.2.2 ≠ gb214) ∧ (Below w.heap.size w w')) ?_ ?_
   rotate_left
   ·
    intro hCont
    exact laws_FnExactDigestJoin.reg0 k a0_0 a0_1 a0_2 A0_3 c0_3 l0_3 a1_0 a1_1 a1_2 A1_3 c1_3 l1_3 r w hu46 hu37 HR0_3 HC0_3 HR1_3 HC1_3 t215 A3 c4b0 t216 A10 c11b0 t217 t218 t219 t220 A19 t223 t224 t225 t226 A20 t229 t230 t231 t232 t235 A21 t237 t238 t239 t240 A22 t244 t245 t246 t247 A23 t251 t252 t253 t254 t257 A24 gb213 w26 GW213 GE213 gb214 w27 GW214 GE214 NB213_214 NB214_213 hnb28 hnc28 hcz29_0 hcz29_1 hcz29_2 hcz29_3 hfz29_0 hfz29_1 hfz29_2 hfz29_3 w30 hcz31_0 hcz31_1 hcz31_2 hcz31_3 hfz31_0 hfz31_1 hfz31_2 hfz31_3 w32 HT_ HW_ w33 BK213 BK214 HB hHeld hCont
   rintro ⟨v221, v227, v233, gb236⟩ w40 ⟨hS_, h0_, h1_, h2_, h3_, h4_, h5_, h6_, h7_, h8_, h9_, h10_, h11_, h12_⟩
   have n0_ : Aside0 (Kd.R (Kd.int .i64) 3 w40 w.heap.size (fun k_ => some k_ ≠ (v227 : Value).ownBlock ∧ some k_ ≠ (v233 : Value).ownBlock) v221 t220) := ⟨h0_⟩
   have n1_ : Aside0 (Kd.R (Kd.int .i64) 3 w40 w.heap.size (fun k_ => some k_ ≠ (v221 : Value).ownBlock ∧ some k_ ≠ (v233 : Value).ownBlock) v227 t226) := ⟨h1_⟩
   have n2_ : Aside0 (Kd.R (Kd.int .i64) 3 w40 w.heap.size (fun k_ => some k_ ≠ (v221 : Value).ownBlock ∧ some k_ ≠ (v227 : Value).ownBlock) v233 t232) := ⟨h2_⟩
   have n3_ : Aside0 (w40.heap[gb213]? = some (.cells #[.int .i64 a0_0, .int .i64 a0_1, .int .i64 a0_2, .slice A0_3 l0_3.length c0_3] 46 (0, 0))) := ⟨h3_⟩
   have n4_ : Aside0 (w40.heap[gb214]? = some (.cells #[.int .i64 a1_0, .int .i64 a1_1, .int .i64 a1_2, .slice A1_3 l1_3.length c1_3] 46 (0, 0))) := ⟨h4_⟩
   have n5_ : Aside0 (w40.heap[gb236]? = some (.cells #[.int .i64 0, .int .i64 0, .int .i64 0, .slice none 0 0] 37 (0, 0))) := ⟨h5_⟩
   have n6_ : Aside0 (w.heap.size ≤ gb236) := ⟨h6_⟩
   have n7_ : Aside0 (w.heap.size ≤ gb236) := ⟨h7_⟩
   have n8_ : Aside0 (gb213 ≠ gb236) := ⟨h8_⟩
   have n9_ : Aside0 (gb236 ≠ gb213) := ⟨h9_⟩
   have n10_ : Aside0 (gb214 ≠ gb236) := ⟨h10_⟩
   have n11_ : Aside0 (gb236 ≠ gb214) := ⟨h11_⟩
   have n12_ : Aside0 (Below w.heap.size w w40) := ⟨h12_⟩
   clear BK213
   clear BK214
   clear HB
   clear h0_ h1_ h2_ h3_ h4_ h5_ h6_ h7_ h8_ h9_ h10_ h11_ h12_
   have HO222 := n0_
   have HO228 := n1_
   have HO234 := n2_
   have BK213 := n3_
   have BK214 := n4_
   have BK236 := n5_
   have GW236 := n6_
   have GE236 := n7_
   have NB213_236 := n8_
   have NB236_213 := n9_
   have NB214_236 := n10_
   have NB236_214 := n11_
   have HB := n12_
   clear n0_ n1_ n2_ n3_ n4_ n5_ n6_ n7_ n8_ n9_ n10_ n11_ n12_
   have hHeld : w40.cell? ⟨gb213, 0, none⟩ = some (.int .i64 a0_0) ∧ w40.cell? ⟨gb213, 1, none⟩ = some (.int .i64 a0_1) ∧ w40.cell? ⟨gb213, 2, none⟩ = some (.int .i64 a0_2) ∧ w40.cell? ⟨gb213, 3, none⟩ = some (.slice A0_3 l0_3.length c0_3) ∧ w40.cell? ⟨gb214, 0, none⟩ = some (.int .i64 a1_0) ∧ w40.cell? ⟨gb214, 1, none⟩ = some (.int .i64 a1_1) ∧ w40.cell? ⟨gb214, 2, none⟩ = some (.int .i64 a1_2) ∧ w40.cell? ⟨gb214, 3, none⟩ = some (.slice A1_3 l1_3.length c1_3) := hS_
   obtain ⟨Ao44, co44, eo44⟩ := Kd.R_slice HO234.out
   (first | subst eo44 | (injection eo44 with f1_ f2_ f3_; have f4_ := f1_.symm; have f5_ := f3_.symm; clear f1_ f2_ f3_; subst f4_; subst f5_))
   refine norm_ (a' := ?_) ?_ ?_
   rotate_left
   ·
    simp only [putAll, Act.put, List.setIfInBounds_toArray, List.set_cons_zero, List.set_cons_succ]
    rfl
   refine one_ (i := 9) (N := none) #[true, true, true, true, true, true, true, true, true, true, false] rfl rfl (one_of HT_.out (by kernel_rfl)) (by decide) (fun K hK => ?_)
   have hs41 : w40.cell? ⟨gb236, 0, none⟩ = some (.int .i64 0) := (blk_cell BK236.out 0).trans rfl
   have hfs41 := blk_frozen BK236.out 0
   have hns41_0 := NB213_236.out
   have hns41_1 := NB214_236.out
   have hms41_0 := NB236_213.out
   have hms41_1 := NB236_214.out
   have hs42 : w40.cell? ⟨gb236, 1, none⟩ = some (.int .i64 0) := (blk_cell BK236.out 1).trans rfl
   have hfs42 := blk_frozen BK236.out 1
   have hns42_0 := NB213_236.out
   have hns42_1 := NB214_236.out
   have hms42_0 := NB236_213.out
   have hms42_1 := NB236_214.out
   have hs43 : w40.cell? ⟨gb236, 2, none⟩ = some (.int .i64 0) := (blk_cell BK236.out 2).trans rfl
   have hfs43 := blk_frozen BK236.out 2
   have hns43_0 := NB213_236.out
   have hns43_1 := NB214_236.out
   have hms43_0 := NB236_213.out
   have hms43_1 := NB236_214.out
   have hs45 : w40.cell? ⟨gb236, 3, none⟩ = some (.slice none 0 0) := (blk_cell BK236.out 3).trans rfl
   have hfs45 := blk_frozen BK236.out 3
   have hns45_0 := NB213_236.out
   have hns45_1 := NB214_236.out
   have hms45_0 := NB236_213.out
   have hms45_1 := NB236_214.out
   refine skip_ (w1 := ?_) (by rfl) rfl ?_ ?_
   rotate_left
   ·
    go_simp
    rfl
   refine hK.out _ _ ⟨((cell_far (p := ⟨gb236, _, none⟩) NB213_236.out _).trans (((cell_far (p := ⟨gb236, _, none⟩) NB213_236.out _).trans (((cell_far (p := ⟨gb236, _, none⟩) NB213_236.out _).trans (((cell_far (p := ⟨gb236, _, none⟩) NB213_236.out _).trans (hHeld.1)))))))), ((cell_far (p := ⟨gb236, _, none⟩) NB213_236.out _).trans (((cell_far (p := ⟨gb236, _, none⟩) NB213_236.out _).trans (((cell_far (p := ⟨gb236, _, none⟩) NB213_236.out _).trans (((cell_far (p := ⟨gb236, _, none⟩) NB213_236.out _).trans (hHeld.2.1)))))))), ((cell_far (p := ⟨gb236, _, none⟩) NB213_236.out _).trans (((cell_far (p := ⟨gb236, _, none⟩) NB213_236.out _).trans (((cell_far (p := ⟨gb236, _, none⟩) NB213_236.out _).trans (((cell_far (p := ⟨gb236, _, none⟩) NB213_236.out _).trans (hHeld.2.2.1)))))))), ((cell_far (p := ⟨gb236, _, none⟩) NB213_236.out _).trans (((cell_far (p := ⟨gb236, _, none⟩) NB213_236.out _).trans (((cell_far (p := ⟨gb236, _, none⟩) NB213_236.out _).trans (((cell_far (p := ⟨gb236, _, none⟩) NB213_236.out _).trans (hHeld.2.2.2.1)))))))), ((cell_far (p := ⟨gb236, _, none⟩) NB214_236.out _).trans (((cell_far (p := ⟨gb236, _, none⟩) NB214_236.out _).trans (((cell_far (p := ⟨gb236, _, none⟩) NB214_236.out _).trans (((cell_far (p := ⟨gb236, _, none⟩) NB214_236.out _).trans (hHeld.2.2.2.2.1)))))))), ((cell_far (p := ⟨gb236, _, none⟩) NB214_236.out _).trans (((cell_far (p := ⟨gb236, _, none⟩) NB214_236.out _).trans (((cell_far (p := ⟨gb236, _, none⟩) NB214_236.out _).trans (((cell_far (p := ⟨gb236, _, none⟩) NB214_236.out _).trans (hHeld.2.2.2.2.2.1)))))))), ((cell_far (p := ⟨gb236, _, none⟩) NB214_236.out _).trans (((cell_far (p := ⟨gb236, _, none⟩) NB214_236.out _).trans (((cell_far (p := ⟨gb236, _, none⟩) NB214_236.out _).trans (((cell_far (p := ⟨gb236, _, none⟩) NB214_236.out _).trans (hHeld.2.2.2.2.2.2.1)))))))), ((cell_far (p := ⟨gb236, _, none⟩) NB214_236.out _).trans (((cell_far (p := ⟨gb236, _, none⟩) NB214_236.out _).trans (((cell_far (p := ⟨gb236, _, none⟩) NB214_236.out _).trans (((cell_far (p := ⟨gb236, _, none⟩) NB214_236.out _).trans (hHeld.2.2.2.2.2.2.2))))))))⟩ (fun hHeld => ?_)
   clear hK K
   refine pure_ (i := 10) (N := some 7) (v := ?_) (a' := ?_) #[true, true, true, true, true, true, true, true, true, true, true] rfl rfl (any_of HT_.out (by kernel_rfl)) (fun _ _ _ h => h) (Or.inl ⟨by rfl, ?_⟩) ?_ ?_
   rotate_left
   ·
    intro w'
    go_simp
    with_reducible rfl
   rotate_left
   ·
    simp only [Act.put, List.setIfInBounds_toArray, List.set_cons_zero, List.set_cons_succ, i64_w, i32_w]
    rfl
   refine done_ (done_of HT_.out (by kernel_rfl)) ?_
   have hnb46 := NB213_236.out
   have hnc46 := NB236_213.out
   have hcz47_0 : w40.cell? ⟨gb213, 0, none⟩ = some (.int .i64 a0_0) := (blk_cell BK213.out 0).trans rfl
   have hcz47_1 : w40.cell? ⟨gb213, 1, none⟩ = some (.int .i64 a0_1) := (blk_cell BK213.out 1).trans rfl
   have hcz47_2 : w40.cell? ⟨gb213, 2, none⟩ = some (.int .i64 a0_2) := (blk_cell BK213.out 2).trans rfl
   have hcz47_3 : w40.cell? ⟨gb213, 3, none⟩ = some (.slice A0_3 l0_3.length c0_3) := (blk_cell BK213.out 3).trans rfl
   have hfz47_0 := blk_frozen BK213.out 0
   have hfz47_1 := blk_frozen BK213.out 1
   have hfz47_2 := blk_frozen BK213.out 2
   have hfz47_3 := blk_frozen BK213.out 3
   go_upto_region 12 with (first | ((with_reducible refine gate_callee (f := 28) rfl ?_); refine goesL_ (some 36) rfl rfl Try.func28 (by kernel_rfl) rfl #[.agg #[.int .i64 a0_0, .int .i64 a0_1, .int .i64 a0_2, .slice A0_3 l0_3.length c0_3]] rfl zar ?_; (with_reducible refine (laws_toDigest.calls k a0_0 a0_1 a0_2 _ _ l0_3 t237 t238 t239 t240 _ ?side1 ?side2 A22.out).mono ?_); (case side1 => exact Kd.C_below HR0_3.out (zg HB)); (case side2 => exact HC0_3.out); rintro e w48 ⟨v241, rfl, ho0, hb⟩; refine ⟨_, rfl, ?_⟩; have n0_ := Aside0.mk (Kd.R_elder' (by (with_reducible repeat (first | apply zrA | apply zrN | apply zrD)); exact (Kd.R_mono (Kd.R_far (p := ⟨gb236, 3, none⟩) (Kd.R_far (p := ⟨gb236, 2, none⟩) (Kd.R_far (p := ⟨gb236, 1, none⟩) (Kd.R_far (p := ⟨gb236, 0, none⟩) (Kd.R_types HO222.out BK236.out (by decide)) (fun _ hk => hk.2) (.int .i64 t229)) (fun _ hk => hk.2) (.int .i64 t230)) (fun _ hk => hk.2) (.int .i64 t231)) (fun _ hk => hk.2) (.slice Ao44 t232.length co44)) (fun _ h_ => h_.1))) (Kd.R_base ho0) hb); have n1_ := Aside0.mk (Kd.R_elder' (by (with_reducible repeat (first | apply zrA | apply zrN | apply zrD)); exact (Kd.R_mono (Kd.R_far (p := ⟨gb236, 3, none⟩) (Kd.R_far (p := ⟨gb236, 2, none⟩) (Kd.R_far (p := ⟨gb236, 1, none⟩) (Kd.R_far (p := ⟨gb236, 0, none⟩) (Kd.R_types HO228.out BK236.out (by decide)) (fun _ hk => hk.2) (.int .i64 t229)) (fun _ hk => hk.2) (.int .i64 t230)) (fun _ hk => hk.2) (.int .i64 t231)) (fun _ hk => hk.2) (.slice Ao44 t232.length co44)) (fun _ h_ => h_.1))) (Kd.R_base ho0) hb); have n2_ := Aside0.mk (Kd.R_elder' (by (with_reducible repeat (first | apply zrA | apply zrN | apply zrD)); exact (Kd.R_mono (Kd.R_far (p := ⟨gb236, 3, none⟩) (Kd.R_far (p := ⟨gb236, 2, none⟩) (Kd.R_far (p := ⟨gb236, 1, none⟩) (Kd.R_far (p := ⟨gb236, 0, none⟩) (Kd.R_types HO234.out BK236.out (by decide)) (fun _ hk => hk.2) (.int .i64 t229)) (fun _ hk => hk.2) (.int .i64 t230)) (fun _ hk => hk.2) (.int .i64 t231)) (fun _ hk => hk.2) (.slice Ao44 t232.length co44)) (fun _ h_ => h_.1))) (Kd.R_base ho0) hb); have n3_ := Aside0.mk (Kd.R_lower (Kd.R_new' (Kd.R_new' (Kd.R_new' ho0 (Kd.R_lt (by (with_reducible repeat (first | apply zrA | apply zrN | apply zrD)); exact (Kd.R_mono (Kd.R_far (p := ⟨gb236, 3, none⟩) (Kd.R_far (p := ⟨gb236, 2, none⟩) (Kd.R_far (p := ⟨gb236, 1, none⟩) (Kd.R_far (p := ⟨gb236, 0, none⟩) (Kd.R_types HO222.out BK236.out (by decide)) (fun _ hk => hk.2) (.int .i64 t229)) (fun _ hk => hk.2) (.int .i64 t230)) (fun _ hk => hk.2) (.int .i64 t231)) (fun _ hk => hk.2) (.slice Ao44 t232.length co44)) (fun _ h_ => h_.1))))) (Kd.R_lt (by (with_reducible repeat (first | apply zrA | apply zrN | apply zrD)); exact (Kd.R_mono (Kd.R_far (p := ⟨gb236, 3, none⟩) (Kd.R_far (p := ⟨gb236, 2, none⟩) (Kd.R_far (p := ⟨gb236, 1, none⟩) (Kd.R_far (p := ⟨gb236, 0, none⟩) (Kd.R_types HO228.out BK236.out (by decide)) (fun _ hk => hk.2) (.int .i64 t229)) (fun _ hk => hk.2) (.int .i64 t230)) (fun _ hk => hk.2) (.int .i64 t231)) (fun _ hk => hk.2) (.slice Ao44 t232.length co44)) (fun _ h_ => h_.1))))) (Kd.R_lt (by (with_reducible repeat (first | apply zrA | apply zrN | apply zrD)); exact (Kd.R_mono (Kd.R_far (p := ⟨gb236, 3, none⟩) (Kd.R_far (p := ⟨gb236, 2, none⟩) (Kd.R_far (p := ⟨gb236, 1, none⟩) (Kd.R_far (p := ⟨gb236, 0, none⟩) (Kd.R_types HO234.out BK236.out (by decide)) (fun _ hk => hk.2) (.int .i64 t229)) (fun _ hk => hk.2) (.int .i64 t230)) (fun _ hk => hk.2) (.int .i64 t231)) (fun _ hk => hk.2) (.slice Ao44 t232.length co44)) (fun _ h_ => h_.1))))) (below_size (zg HB))); have n4_ := Aside0.mk (blk_below (g := gb213) (o := .cells #[.int .i64 a0_0, .int .i64 a0_1, .int .i64 a0_2, .slice A0_3 l0_3.length c0_3] 46 (0, 0)) (by (with_reducible repeat (first | refine zbN ?_ _ | refine zbD ?_ | refine zbA ?_ _)); refine blk_far ?_ NB213_236.out _; (with_reducible repeat (first | refine zbN ?_ _ | refine zbD ?_ | refine zbA ?_ _)); refine blk_far ?_ NB213_236.out _; (with_reducible repeat (first | refine zbN ?_ _ | refine zbD ?_ | refine zbA ?_ _)); refine blk_far ?_ NB213_236.out _; (with_reducible repeat (first | refine zbN ?_ _ | refine zbD ?_ | refine zbA ?_ _)); refine blk_far ?_ NB213_236.out _; (with_reducible repeat (first | refine zbN ?_ _ | refine zbD ?_ | refine zbA ?_ _)); exact BK213.out) hb); have n5_ := Aside0.mk (blk_below (g := gb214) (o := .cells #[.int .i64 a1_0, .int .i64 a1_1, .int .i64 a1_2, .slice A1_3 l1_3.length c1_3] 46 (0, 0)) (by (with_reducible repeat (first | refine zbN ?_ _ | refine zbD ?_ | refine zbA ?_ _)); refine blk_far ?_ NB214_236.out _; (with_reducible repeat (first | refine zbN ?_ _ | refine zbD ?_ | refine zbA ?_ _)); refine blk_far ?_ NB214_236.out _; (with_reducible repeat (first | refine zbN ?_ _ | refine zbD ?_ | refine zbA ?_ _)); refine blk_far ?_ NB214_236.out _; (with_reducible repeat (first | refine zbN ?_ _ | refine zbD ?_ | refine zbA ?_ _)); refine blk_far ?_ NB214_236.out _; (with_reducible repeat (first | refine zbN ?_ _ | refine zbD ?_ | refine zbA ?_ _)); exact BK214.out) hb); have n6_ := Aside0.mk (blk_below (g := gb236) (o := .cells #[.int .i64 t229, .int .i64 t230, .int .i64 t231, .slice Ao44 t232.length co44] 37 (0, 0)) (by (with_reducible repeat (first | refine zbN ?_ _ | refine zbD ?_ | refine zbA ?_ _)); refine blk_put (cs := #[.int .i64 t229, .int .i64 t230, .int .i64 t231, .slice none 0 0]) ?_ 3 _ rfl; (with_reducible repeat (first | refine zbN ?_ _ | refine zbD ?_ | refine zbA ?_ _)); refine blk_put (cs := #[.int .i64 t229, .int .i64 t230, .int .i64 0, .slice none 0 0]) ?_ 2 _ rfl; (with_reducible repeat (first | refine zbN ?_ _ | refine zbD ?_ | refine zbA ?_ _)); refine blk_put (cs := #[.int .i64 t229, .int .i64 0, .int .i64 0, .slice none 0 0]) ?_ 1 _ rfl; (with_reducible repeat (first | refine zbN ?_ _ | refine zbD ?_ | refine zbA ?_ _)); refine blk_put (cs := #[.int .i64 0, .int .i64 0, .int .i64 0, .slice none 0 0]) ?_ 0 _ rfl; (with_reducible repeat (first | refine zbN ?_ _ | refine zbD ?_ | refine zbA ?_ _)); exact BK236.out) hb); have n7_ := Aside0.mk (below_step (zg HB) hb); clear HO222; clear HO228; clear HO234; clear BK213; clear BK214; clear BK236; clear HB; have HO222 := n0_; have HO228 := n1_; have HO234 := n2_; have HO242 := n3_; have BK213 := n4_; have BK214 := n5_; have BK236 := n6_; have HB := n7_; clear n0_ n1_ n2_ n3_ n4_ n5_ n6_ n7_; (try clear hb); (try clear hb2); (try clear hk); (try clear hi); (try clear ho0)) | ((with_reducible refine gate_dst (N := 8) rfl ?_); refine box_event ?hg (N := 8) ?hd (cs := #[.int .i64 0, .int .i64 0, .int .i64 0, .slice none 0 0]) (t := 37) ?hr ?_; (case hd => rfl); (case hg => rfl); (case hr => first | (go_simp; done) | (go_simp; rfl)); intro gb243 hg w49 hbox hb; have n0_ := Aside0.mk (Kd.R_below (zr HO222) hb); have n1_ := Aside0.mk (Kd.R_below (zr HO228) hb); have n2_ := Aside0.mk (Kd.R_below (zr HO234) hb); have n3_ := Aside0.mk (Kd.R_below (zr HO242) hb); have n4_ := Aside0.mk (blk_below (zb BK213) hb); have n5_ := Aside0.mk (blk_below (zb BK214) hb); have n6_ := Aside0.mk (blk_below (zb BK236) hb); have n7_ := Aside0.mk (below_step (zg HB) hb); have n8_ := Aside0.mk (hbox); have n9_ := Aside0.mk ((by rw [hg]; exact (below_size (zg HB)) : w.heap.size ≤ gb243)); have n10_ := Aside0.mk ((by rw [hg]; exact (below_size (zg HB)) : w.heap.size ≤ gb243)); have n11_ := Aside0.mk ((by rw [hg]; exact Nat.ne_of_lt (blk_lt (zb BK213)) : gb213 ≠ gb243)); have n12_ := Aside0.mk ((by rw [hg]; exact Nat.ne_of_gt (blk_lt (zb BK213)) : gb243 ≠ gb213)); have n13_ := Aside0.mk ((by rw [hg]; exact Nat.ne_of_lt (blk_lt (zb BK214)) : gb214 ≠ gb243)); have n14_ := Aside0.mk ((by rw [hg]; exact Nat.ne_of_gt (blk_lt (zb BK214)) : gb243 ≠ gb214)); have n15_ := Aside0.mk ((by rw [hg]; exact Nat.ne_of_lt (blk_lt (zb BK236)) : gb236 ≠ gb243)); have n16_ := Aside0.mk ((by rw [hg]; exact Nat.ne_of_gt (blk_lt (zb BK236)) : gb243 ≠ gb236)); clear HO222; clear HO228; clear HO234; clear HO242; clear BK213; clear BK214; clear BK236; clear HB; have HO222 := n0_; have HO228 := n1_; have HO234 := n2_; have HO242 := n3_; have BK213 := n4_; have BK214 := n5_; have BK236 := n6_; have HB := n7_; have BK243 := n8_; have GW243 := n9_; have GE243 := n10_; have NB213_243 := n11_; have NB243_213 := n12_; have NB214_243 := n13_; have NB243_214 := n14_; have NB236_243 := n15_; have NB243_236 := n16_; clear n0_ n1_ n2_ n3_ n4_ n5_ n6_ n7_ n8_ n9_ n10_ n11_ n12_ n13_ n14_ n15_ n16_; clear hb hbox hg; have hnb50 := NB243_213.out; have hnc50 := NB213_243.out; have hnb51 := NB243_214.out; have hnc51 := NB214_243.out; have hnb52 := NB243_236.out; have hnc52 := NB236_243.out; have hcz53_0 : w49.cell? ⟨gb243, 0, none⟩ = some (.int .i64 0) := (blk_cell BK243.out 0).trans rfl; have hcz53_1 : w49.cell? ⟨gb243, 1, none⟩ = some (.int .i64 0) := (blk_cell BK243.out 1).trans rfl; have hcz53_2 : w49.cell? ⟨gb243, 2, none⟩ = some (.int .i64 0) := (blk_cell BK243.out 2).trans rfl; have hcz53_3 : w49.cell? ⟨gb243, 3, none⟩ = some (.slice none 0 0) := (blk_cell BK243.out 3).trans rfl; have hfz53_0 := blk_frozen BK243.out 0; have hfz53_1 := blk_frozen BK243.out 1; have hfz53_2 := blk_frozen BK243.out 2; have hfz53_3 := blk_frozen BK243.out 3; obtain ⟨Ao54, co54, eo54⟩ := Kd.R_slice HO242.out; subst eo54; have hnb55 := NB214_236.out; have hnc55 := NB236_214.out; have hcz56_0 : w49.cell? ⟨gb214, 0, none⟩ = some (.int .i64 a1_0) := (blk_cell BK214.out 0).trans rfl; have hcz56_1 : w49.cell? ⟨gb214, 1, none⟩ = some (.int .i64 a1_1) := (blk_cell BK214.out 1).trans rfl; have hcz56_2 : w49.cell? ⟨gb214, 2, none⟩ = some (.int .i64 a1_2) := (blk_cell BK214.out 2).trans rfl; have hcz56_3 : w49.cell? ⟨gb214, 3, none⟩ = some (.slice A1_3 l1_3.length c1_3) := (blk_cell BK214.out 3).trans rfl; have hfz56_0 := blk_frozen BK214.out 0; have hfz56_1 := blk_frozen BK214.out 1; have hfz56_2 := blk_frozen BK214.out 2; have hfz56_3 := blk_frozen BK214.out 3) | ((with_reducible refine gate_callee (f := 28) rfl ?_); refine goesL_ (some 38) rfl rfl Try.func28 (by kernel_rfl) rfl #[.agg #[.int .i64 a1_0, .int .i64 a1_1, .int .i64 a1_2, .slice A1_3 l1_3.length c1_3]] rfl zar ?_; (with_reducible refine (laws_toDigest.calls k a1_0 a1_1 a1_2 _ _ l1_3 t244 t245 t246 t247 _ ?side1 ?side2 A23.out).mono ?_); (case side1 => exact Kd.C_below HR1_3.out (zg HB)); (case side2 => exact HC1_3.out); rintro e w57 ⟨v248, rfl, ho0, hb⟩; refine ⟨_, rfl, ?_⟩; have n0_ := Aside0.mk (Kd.R_elder' (by (with_reducible repeat (first | apply zrA | apply zrN | apply zrD)); exact (Kd.R_mono (Kd.R_far (p := ⟨gb243, 3, none⟩) (Kd.R_far (p := ⟨gb243, 2, none⟩) (Kd.R_far (p := ⟨gb243, 1, none⟩) (Kd.R_far (p := ⟨gb243, 0, none⟩) (Kd.R_types HO222.out BK243.out (by decide)) (fun _ hk => hk.2) (.int .i64 t237)) (fun _ hk => hk.2) (.int .i64 t238)) (fun _ hk => hk.2) (.int .i64 t239)) (fun _ hk => hk.2) (.slice Ao54 t240.length co54)) (fun _ h_ => h_.1))) (Kd.R_base ho0) hb); have n1_ := Aside0.mk (Kd.R_elder' (by (with_reducible repeat (first | apply zrA | apply zrN | apply zrD)); exact (Kd.R_mono (Kd.R_far (p := ⟨gb243, 3, none⟩) (Kd.R_far (p := ⟨gb243, 2, none⟩) (Kd.R_far (p := ⟨gb243, 1, none⟩) (Kd.R_far (p := ⟨gb243, 0, none⟩) (Kd.R_types HO228.out BK243.out (by decide)) (fun _ hk => hk.2) (.int .i64 t237)) (fun _ hk => hk.2) (.int .i64 t238)) (fun _ hk => hk.2) (.int .i64 t239)) (fun _ hk => hk.2) (.slice Ao54 t240.length co54)) (fun _ h_ => h_.1))) (Kd.R_base ho0) hb); have n2_ := Aside0.mk (Kd.R_elder' (by (with_reducible repeat (first | apply zrA | apply zrN | apply zrD)); exact (Kd.R_mono (Kd.R_far (p := ⟨gb243, 3, none⟩) (Kd.R_far (p := ⟨gb243, 2, none⟩) (Kd.R_far (p := ⟨gb243, 1, none⟩) (Kd.R_far (p := ⟨gb243, 0, none⟩) (Kd.R_types HO234.out BK243.out (by decide)) (fun _ hk => hk.2) (.int .i64 t237)) (fun _ hk => hk.2) (.int .i64 t238)) (fun _ hk => hk.2) (.int .i64 t239)) (fun _ hk => hk.2) (.slice Ao54 t240.length co54)) (fun _ h_ => h_.1))) (Kd.R_base ho0) hb); have n3_ := Aside0.mk (Kd.R_elder' (by (with_reducible repeat (first | apply zrA | apply zrN | apply zrD)); exact (Kd.R_mono (Kd.R_far (p := ⟨gb243, 3, none⟩) (Kd.R_far (p := ⟨gb243, 2, none⟩) (Kd.R_far (p := ⟨gb243, 1, none⟩) (Kd.R_far (p := ⟨gb243, 0, none⟩) (Kd.R_types HO242.out BK243.out (by decide)) (fun _ hk => hk.2) (.int .i64 t237)) (fun _ hk => hk.2) (.int .i64 t238)) (fun _ hk => hk.2) (.int .i64 t239)) (fun _ hk => hk.2) (.slice Ao54 t240.length co54)) (fun _ h_ => h_.1))) (Kd.R_base ho0) hb); have n4_ := Aside0.mk (Kd.R_lower (Kd.R_new' (Kd.R_new' (Kd.R_new' (Kd.R_new' ho0 (Kd.R_lt (by (with_reducible repeat (first | apply zrA | apply zrN | apply zrD)); exact (Kd.R_mono (Kd.R_far (p := ⟨gb243, 3, none⟩) (Kd.R_far (p := ⟨gb243, 2, none⟩) (Kd.R_far (p := ⟨gb243, 1, none⟩) (Kd.R_far (p := ⟨gb243, 0, none⟩) (Kd.R_types HO222.out BK243.out (by decide)) (fun _ hk => hk.2) (.int .i64 t237)) (fun _ hk => hk.2) (.int .i64 t238)) (fun _ hk => hk.2) (.int .i64 t239)) (fun _ hk => hk.2) (.slice Ao54 t240.length co54)) (fun _ h_ => h_.1))))) (Kd.R_lt (by (with_reducible repeat (first | apply zrA | apply zrN | apply zrD)); exact (Kd.R_mono (Kd.R_far (p := ⟨gb243, 3, none⟩) (Kd.R_far (p := ⟨gb243, 2, none⟩) (Kd.R_far (p := ⟨gb243, 1, none⟩) (Kd.R_far (p := ⟨gb243, 0, none⟩) (Kd.R_types HO228.out BK243.out (by decide)) (fun _ hk => hk.2) (.int .i64 t237)) (fun _ hk => hk.2) (.int .i64 t238)) (fun _ hk => hk.2) (.int .i64 t239)) (fun _ hk => hk.2) (.slice Ao54 t240.length co54)) (fun _ h_ => h_.1))))) (Kd.R_lt (by (with_reducible repeat (first | apply zrA | apply zrN | apply zrD)); exact (Kd.R_mono (Kd.R_far (p := ⟨gb243, 3, none⟩) (Kd.R_far (p := ⟨gb243, 2, none⟩) (Kd.R_far (p := ⟨gb243, 1, none⟩) (Kd.R_far (p := ⟨gb243, 0, none⟩) (Kd.R_types HO234.out BK243.out (by decide)) (fun _ hk => hk.2) (.int .i64 t237)) (fun _ hk => hk.2) (.int .i64 t238)) (fun _ hk => hk.2) (.int .i64 t239)) (fun _ hk => hk.2) (.slice Ao54 t240.length co54)) (fun _ h_ => h_.1))))) (Kd.R_lt (by (with_reducible repeat (first | apply zrA | apply zrN | apply zrD)); exact (Kd.R_mono (Kd.R_far (p := ⟨gb243, 3, none⟩) (Kd.R_far (p := ⟨gb243, 2, none⟩) (Kd.R_far (p := ⟨gb243, 1, none⟩) (Kd.R_far (p := ⟨gb243, 0, none⟩) (Kd.R_types HO242.out BK243.out (by decide)) (fun _ hk => hk.2) (.int .i64 t237)) (fun _ hk => hk.2) (.int .i64 t238)) (fun _ hk => hk.2) (.int .i64 t239)) (fun _ hk => hk.2) (.slice Ao54 t240.length co54)) (fun _ h_ => h_.1))))) (below_size (zg HB))); have n5_ := Aside0.mk (blk_below (g := gb213) (o := .cells #[.int .i64 a0_0, .int .i64 a0_1, .int .i64 a0_2, .slice A0_3 l0_3.length c0_3] 46 (0, 0)) (by (with_reducible repeat (first | refine zbN ?_ _ | refine zbD ?_ | refine zbA ?_ _)); refine blk_far ?_ NB213_243.out _; (with_reducible repeat (first | refine zbN ?_ _ | refine zbD ?_ | refine zbA ?_ _)); refine blk_far ?_ NB213_243.out _; (with_reducible repeat (first | refine zbN ?_ _ | refine zbD ?_ | refine zbA ?_ _)); refine blk_far ?_ NB213_243.out _; (with_reducible repeat (first | refine zbN ?_ _ | refine zbD ?_ | refine zbA ?_ _)); refine blk_far ?_ NB213_243.out _; (with_reducible repeat (first | refine zbN ?_ _ | refine zbD ?_ | refine zbA ?_ _)); exact BK213.out) hb); have n6_ := Aside0.mk (blk_below (g := gb214) (o := .cells #[.int .i64 a1_0, .int .i64 a1_1, .int .i64 a1_2, .slice A1_3 l1_3.length c1_3] 46 (0, 0)) (by (with_reducible repeat (first | refine zbN ?_ _ | refine zbD ?_ | refine zbA ?_ _)); refine blk_far ?_ NB214_243.out _; (with_reducible repeat (first | refine zbN ?_ _ | refine zbD ?_ | refine zbA ?_ _)); refine blk_far ?_ NB214_243.out _; (with_reducible repeat (first | refine zbN ?_ _ | refine zbD ?_ | refine zbA ?_ _)); refine blk_far ?_ NB214_243.out _; (with_reducible repeat (first | refine zbN ?_ _ | refine zbD ?_ | refine zbA ?_ _)); refine blk_far ?_ NB214_243.out _; (with_reducible repeat (first | refine zbN ?_ _ | refine zbD ?_ | refine zbA ?_ _)); exact BK214.out) hb); have n7_ := Aside0.mk (blk_below (g := gb236) (o := .cells #[.int .i64 t229, .int .i64 t230, .int .i64 t231, .slice Ao44 t232.length co44] 37 (0, 0)) (by (with_reducible repeat (first | refine zbN ?_ _ | refine zbD ?_ | refine zbA ?_ _)); refine blk_far ?_ NB236_243.out _; (with_reducible repeat (first | refine zbN ?_ _ | refine zbD ?_ | refine zbA ?_ _)); refine blk_far ?_ NB236_243.out _; (with_reducible repeat (first | refine zbN ?_ _ | refine zbD ?_ | refine zbA ?_ _)); refine blk_far ?_ NB236_243.out _; (with_reducible repeat (first | refine zbN ?_ _ | refine zbD ?_ | refine zbA ?_ _)); refine blk_far ?_ NB236_243.out _; (with_reducible repeat (first | refine zbN ?_ _ | refine zbD ?_ | refine zbA ?_ _)); exact BK236.out) hb); have n8_ := Aside0.mk (blk_below (g := gb243) (o := .cells #[.int .i64 t237, .int .i64 t238, .int .i64 t239, .slice Ao54 t240.length co54] 37 (0, 0)) (by (with_reducible repeat (first | refine zbN ?_ _ | refine zbD ?_ | refine zbA ?_ _)); refine blk_put (cs := #[.int .i64 t237, .int .i64 t238, .int .i64 t239, .slice none 0 0]) ?_ 3 _ rfl; (with_reducible repeat (first | refine zbN ?_ _ | refine zbD ?_ | refine zbA ?_ _)); refine blk_put (cs := #[.int .i64 t237, .int .i64 t238, .int .i64 0, .slice none 0 0]) ?_ 2 _ rfl; (with_reducible repeat (first | refine zbN ?_ _ | refine zbD ?_ | refine zbA ?_ _)); refine blk_put (cs := #[.int .i64 t237, .int .i64 0, .int .i64 0, .slice none 0 0]) ?_ 1 _ rfl; (with_reducible repeat (first | refine zbN ?_ _ | refine zbD ?_ | refine zbA ?_ _)); refine blk_put (cs := #[.int .i64 0, .int .i64 0, .int .i64 0, .slice none 0 0]) ?_ 0 _ rfl; (with_reducible repeat (first | refine zbN ?_ _ | refine zbD ?_ | refine zbA ?_ _)); exact BK243.out) hb); have n9_ := Aside0.mk (below_step (zg HB) hb); clear HO222; clear HO228; clear HO234; clear HO242; clear BK213; clear BK214; clear BK236; clear BK243; clear HB; have HO222 := n0_; have HO228 := n1_; have HO234 := n2_; have HO242 := n3_; have HO249 := n4_; have BK213 := n5_; have BK214 := n6_; have BK236 := n7_; have BK243 := n8_; have HB := n9_; clear n0_ n1_ n2_ n3_ n4_ n5_ n6_ n7_ n8_ n9_; (try clear hb); (try clear hb2); (try clear hk); (try clear hi); (try clear ho0)) | ((with_reducible refine gate_dst (N := 9) rfl ?_); refine box_event ?hg (N := 9) ?hd (cs := #[.int .i64 0, .int .i64 0, .int .i64 0, .slice none 0 0]) (t := 37) ?hr ?_; (case hd => rfl); (case hg => rfl); (case hr => first | (go_simp; done) | (go_simp; rfl)); intro gb250 hg w58 hbox hb; have n0_ := Aside0.mk (Kd.R_below (zr HO222) hb); have n1_ := Aside0.mk (Kd.R_below (zr HO228) hb); have n2_ := Aside0.mk (Kd.R_below (zr HO234) hb); have n3_ := Aside0.mk (Kd.R_below (zr HO242) hb); have n4_ := Aside0.mk (Kd.R_below (zr HO249) hb); have n5_ := Aside0.mk (blk_below (zb BK213) hb); have n6_ := Aside0.mk (blk_below (zb BK214) hb); have n7_ := Aside0.mk (blk_below (zb BK236) hb); have n8_ := Aside0.mk (blk_below (zb BK243) hb); have n9_ := Aside0.mk (below_step (zg HB) hb); have n10_ := Aside0.mk (hbox); have n11_ := Aside0.mk ((by rw [hg]; exact (below_size (zg HB)) : w.heap.size ≤ gb250)); have n12_ := Aside0.mk ((by rw [hg]; exact (below_size (zg HB)) : w.heap.size ≤ gb250)); have n13_ := Aside0.mk ((by rw [hg]; exact Nat.ne_of_lt (blk_lt (zb BK213)) : gb213 ≠ gb250)); have n14_ := Aside0.mk ((by rw [hg]; exact Nat.ne_of_gt (blk_lt (zb BK213)) : gb250 ≠ gb213)); have n15_ := Aside0.mk ((by rw [hg]; exact Nat.ne_of_lt (blk_lt (zb BK214)) : gb214 ≠ gb250)); have n16_ := Aside0.mk ((by rw [hg]; exact Nat.ne_of_gt (blk_lt (zb BK214)) : gb250 ≠ gb214)); have n17_ := Aside0.mk ((by rw [hg]; exact Nat.ne_of_lt (blk_lt (zb BK236)) : gb236 ≠ gb250)); have n18_ := Aside0.mk ((by rw [hg]; exact Nat.ne_of_gt (blk_lt (zb BK236)) : gb250 ≠ gb236)); have n19_ := Aside0.mk ((by rw [hg]; exact Nat.ne_of_lt (blk_lt (zb BK243)) : gb243 ≠ gb250)); have n20_ := Aside0.mk ((by rw [hg]; exact Nat.ne_of_gt (blk_lt (zb BK243)) : gb250 ≠ gb243)); clear HO222; clear HO228; clear HO234; clear HO242; clear HO249; clear BK213; clear BK214; clear BK236; clear BK243; clear HB; have HO222 := n0_; have HO228 := n1_; have HO234 := n2_; have HO242 := n3_; have HO249 := n4_; have BK213 := n5_; have BK214 := n6_; have BK236 := n7_; have BK243 := n8_; have HB := n9_; have BK250 := n10_; have GW250 := n11_; have GE250 := n12_; have NB213_250 := n13_; have NB250_213 := n14_; have NB214_250 := n15_; have NB250_214 := n16_; have NB236_250 := n17_; have NB250_236 := n18_; have NB243_250 := n19_; have NB250_243 := n20_; clear n0_ n1_ n2_ n3_ n4_ n5_ n6_ n7_ n8_ n9_ n10_ n11_ n12_ n13_ n14_ n15_ n16_ n17_ n18_ n19_ n20_; clear hb hbox hg; have hnb59 := NB250_213.out; have hnc59 := NB213_250.out; have hnb60 := NB250_214.out; have hnc60 := NB214_250.out; have hnb61 := NB250_236.out; have hnc61 := NB236_250.out; have hnb62 := NB250_243.out; have hnc62 := NB243_250.out; have hcz63_0 : w58.cell? ⟨gb250, 0, none⟩ = some (.int .i64 0) := (blk_cell BK250.out 0).trans rfl; have hcz63_1 : w58.cell? ⟨gb250, 1, none⟩ = some (.int .i64 0) := (blk_cell BK250.out 1).trans rfl; have hcz63_2 : w58.cell? ⟨gb250, 2, none⟩ = some (.int .i64 0) := (blk_cell BK250.out 2).trans rfl; have hcz63_3 : w58.cell? ⟨gb250, 3, none⟩ = some (.slice none 0 0) := (blk_cell BK250.out 3).trans rfl; have hfz63_0 := blk_frozen BK250.out 0; have hfz63_1 := blk_frozen BK250.out 1; have hfz63_2 := blk_frozen BK250.out 2; have hfz63_3 := blk_frozen BK250.out 3; obtain ⟨Ao64, co64, eo64⟩ := Kd.R_slice HO249.out; subst eo64; have hcz65_0 : w58.cell? ⟨gb243, 0, none⟩ = some (.int .i64 t237) := (blk_cell BK243.out 0).trans rfl; have hcz65_1 : w58.cell? ⟨gb243, 1, none⟩ = some (.int .i64 t238) := (blk_cell BK243.out 1).trans rfl; have hcz65_2 : w58.cell? ⟨gb243, 2, none⟩ = some (.int .i64 t239) := (blk_cell BK243.out 2).trans rfl; have hcz65_3 : w58.cell? ⟨gb243, 3, none⟩ = some (.slice Ao54 t240.length co54) := (blk_cell BK243.out 3).trans rfl; have hfz65_0 := blk_frozen BK243.out 0; have hfz65_1 := blk_frozen BK243.out 1; have hfz65_2 := blk_frozen BK243.out 2; have hfz65_3 := blk_frozen BK243.out 3) | ((with_reducible refine gate_callee (f := 29) rfl ?_); refine goesL_ (some 42) rfl rfl Try.func29 (by kernel_rfl) rfl #[.agg #[.int .i64 t237, .int .i64 t238, .int .i64 t239, .slice Ao54 t240.length co54], .agg #[.int .i64 t244, .int .i64 t245, .int .i64 t246, .slice Ao64 t247.length co64]] rfl zar ?_; (with_reducible refine (impl_DigestJoin.calls k t237 t238 t239 _ _ t240 t244 t245 t246 _ _ t247 t251 t252 t253 t254 t257 _ ?side1 ?side2 ?side3 ?side4 A24.out).mono ?_); (case side1 => refine (Kd.R_reads' (e := 3) (base := w.heap.size) (ok := fun k_ => ((((True ∧ some k_ ≠ (v221 : Value).ownBlock) ∧ some k_ ≠ (v227 : Value).ownBlock) ∧ some k_ ≠ (.slice Ao44 t232.length co44 : Value).ownBlock) ∧ some k_ ≠ (.slice Ao64 t247.length co64 : Value).ownBlock)) (n := t240.length) (c := co54) ?_).2.2; exact (by (with_reducible repeat (first | apply zrA | apply zrN | apply zrD)); exact (Kd.R_mono (Kd.R_far (p := ⟨gb250, 3, none⟩) (Kd.R_far (p := ⟨gb250, 2, none⟩) (Kd.R_far (p := ⟨gb250, 1, none⟩) (Kd.R_far (p := ⟨gb250, 0, none⟩) (Kd.R_types HO242.out BK250.out (by decide)) (fun _ hk => hk.2) (.int .i64 t244)) (fun _ hk => hk.2) (.int .i64 t245)) (fun _ hk => hk.2) (.int .i64 t246)) (fun _ hk => hk.2) (.slice Ao64 t247.length co64)) (fun _ h_ => h_.1)))); (case side2 => exact (Kd.R_reads' HO242.out).2.1); (case side3 => refine (Kd.R_reads' (e := 3) (base := w.heap.size) (ok := fun k_ => ((((True ∧ some k_ ≠ (v221 : Value).ownBlock) ∧ some k_ ≠ (v227 : Value).ownBlock) ∧ some k_ ≠ (.slice Ao44 t232.length co44 : Value).ownBlock) ∧ some k_ ≠ (.slice Ao54 t240.length co54 : Value).ownBlock)) (n := t247.length) (c := co64) ?_).2.2; exact (by (with_reducible repeat (first | apply zrA | apply zrN | apply zrD)); exact (Kd.R_mono (Kd.R_far (p := ⟨gb250, 3, none⟩) (Kd.R_far (p := ⟨gb250, 2, none⟩) (Kd.R_far (p := ⟨gb250, 1, none⟩) (Kd.R_far (p := ⟨gb250, 0, none⟩) (Kd.R_types HO249.out BK250.out (by decide)) (fun _ hk => hk.2) (.int .i64 t244)) (fun _ hk => hk.2) (.int .i64 t245)) (fun _ hk => hk.2) (.int .i64 t246)) (fun _ hk => hk.2) (.slice Ao64 t247.length co64)) (fun _ h_ => h_.1)))); (case side4 => exact (Kd.R_reads' HO249.out).2.1); rintro e w66 ⟨v255, rfl, ho0, hb⟩; refine ⟨_, rfl, ?_⟩; have n0_ := Aside0.mk (Kd.R_elder' (by (with_reducible repeat (first | apply zrA | apply zrN | apply zrD)); exact (Kd.R_mono (Kd.R_far (p := ⟨gb250, 3, none⟩) (Kd.R_far (p := ⟨gb250, 2, none⟩) (Kd.R_far (p := ⟨gb250, 1, none⟩) (Kd.R_far (p := ⟨gb250, 0, none⟩) (Kd.R_types HO222.out BK250.out (by decide)) (fun _ hk => hk.2) (.int .i64 t244)) (fun _ hk => hk.2) (.int .i64 t245)) (fun _ hk => hk.2) (.int .i64 t246)) (fun _ hk => hk.2) (.slice Ao64 t247.length co64)) (fun _ h_ => h_.1))) (Kd.R_base ho0) hb); have n1_ := Aside0.mk (Kd.R_elder' (by (with_reducible repeat (first | apply zrA | apply zrN | apply zrD)); exact (Kd.R_mono (Kd.R_far (p := ⟨gb250, 3, none⟩) (Kd.R_far (p := ⟨gb250, 2, none⟩) (Kd.R_far (p := ⟨gb250, 1, none⟩) (Kd.R_far (p := ⟨gb250, 0, none⟩) (Kd.R_types HO228.out BK250.out (by decide)) (fun _ hk => hk.2) (.int .i64 t244)) (fun _ hk => hk.2) (.int .i64 t245)) (fun _ hk => hk.2) (.int .i64 t246)) (fun _ hk => hk.2) (.slice Ao64 t247.length co64)) (fun _ h_ => h_.1))) (Kd.R_base ho0) hb); have n2_ := Aside0.mk (Kd.R_elder' (by (with_reducible repeat (first | apply zrA | apply zrN | apply zrD)); exact (Kd.R_mono (Kd.R_far (p := ⟨gb250, 3, none⟩) (Kd.R_far (p := ⟨gb250, 2, none⟩) (Kd.R_far (p := ⟨gb250, 1, none⟩) (Kd.R_far (p := ⟨gb250, 0, none⟩) (Kd.R_types HO234.out BK250.out (by decide)) (fun _ hk => hk.2) (.int .i64 t244)) (fun _ hk => hk.2) (.int .i64 t245)) (fun _ hk => hk.2) (.int .i64 t246)) (fun _ hk => hk.2) (.slice Ao64 t247.length co64)) (fun _ h_ => h_.1))) (Kd.R_base ho0) hb); have n3_ := Aside0.mk (Kd.R_elder' (by (with_reducible repeat (first | apply zrA | apply zrN | apply zrD)); exact (Kd.R_mono (Kd.R_far (p := ⟨gb250, 3, none⟩) (Kd.R_far (p := ⟨gb250, 2, none⟩) (Kd.R_far (p := ⟨gb250, 1, none⟩) (Kd.R_far (p := ⟨gb250, 0, none⟩) (Kd.R_types HO242.out BK250.out (by decide)) (fun _ hk => hk.2) (.int .i64 t244)) (fun _ hk => hk.2) (.int .i64 t245)) (fun _ hk => hk.2) (.int .i64 t246)) (fun _ hk => hk.2) (.slice Ao64 t247.length co64)) (fun _ h_ => h_.1))) (Kd.R_base ho0) hb); have n4_ := Aside0.mk (Kd.R_elder' (by (with_reducible repeat (first | apply zrA | apply zrN | apply zrD)); exact (Kd.R_mono (Kd.R_far (p := ⟨gb250, 3, none⟩) (Kd.R_far (p := ⟨gb250, 2, none⟩) (Kd.R_far (p := ⟨gb250, 1, none⟩) (Kd.R_far (p := ⟨gb250, 0, none⟩) (Kd.R_types HO249.out BK250.out (by decide)) (fun _ hk => hk.2) (.int .i64 t244)) (fun _ hk => hk.2) (.int .i64 t245)) (fun _ hk => hk.2) (.int .i64 t246)) (fun _ hk => hk.2) (.slice Ao64 t247.length co64)) (fun _ h_ => h_.1))) (Kd.R_base ho0) hb); have n5_ := Aside0.mk (Kd.R_lower (Kd.R_new' (Kd.R_new' (Kd.R_new' (Kd.R_new' (Kd.R_new' ho0 (Kd.R_lt (by (with_reducible repeat (first | apply zrA | apply zrN | apply zrD)); exact (Kd.R_mono (Kd.R_far (p := ⟨gb250, 3, none⟩) (Kd.R_far (p := ⟨gb250, 2, none⟩) (Kd.R_far (p := ⟨gb250, 1, none⟩) (Kd.R_far (p := ⟨gb250, 0, none⟩) (Kd.R_types HO222.out BK250.out (by decide)) (fun _ hk => hk.2) (.int .i64 t244)) (fun _ hk => hk.2) (.int .i64 t245)) (fun _ hk => hk.2) (.int .i64 t246)) (fun _ hk => hk.2) (.slice Ao64 t247.length co64)) (fun _ h_ => h_.1))))) (Kd.R_lt (by (with_reducible repeat (first | apply zrA | apply zrN | apply zrD)); exact (Kd.R_mono (Kd.R_far (p := ⟨gb250, 3, none⟩) (Kd.R_far (p := ⟨gb250, 2, none⟩) (Kd.R_far (p := ⟨gb250, 1, none⟩) (Kd.R_far (p := ⟨gb250, 0, none⟩) (Kd.R_types HO228.out BK250.out (by decide)) (fun _ hk => hk.2) (.int .i64 t244)) (fun _ hk => hk.2) (.int .i64 t245)) (fun _ hk => hk.2) (.int .i64 t246)) (fun _ hk => hk.2) (.slice Ao64 t247.length co64)) (fun _ h_ => h_.1))))) (Kd.R_lt (by (with_reducible repeat (first | apply zrA | apply zrN | apply zrD)); exact (Kd.R_mono (Kd.R_far (p := ⟨gb250, 3, none⟩) (Kd.R_far (p := ⟨gb250, 2, none⟩) (Kd.R_far (p := ⟨gb250, 1, none⟩) (Kd.R_far (p := ⟨gb250, 0, none⟩) (Kd.R_types HO234.out BK250.out (by decide)) (fun _ hk => hk.2) (.int .i64 t244)) (fun _ hk => hk.2) (.int .i64 t245)) (fun _ hk => hk.2) (.int .i64 t246)) (fun _ hk => hk.2) (.slice Ao64 t247.length co64)) (fun _ h_ => h_.1))))) (Kd.R_lt (by (with_reducible repeat (first | apply zrA | apply zrN | apply zrD)); exact (Kd.R_mono (Kd.R_far (p := ⟨gb250, 3, none⟩) (Kd.R_far (p := ⟨gb250, 2, none⟩) (Kd.R_far (p := ⟨gb250, 1, none⟩) (Kd.R_far (p := ⟨gb250, 0, none⟩) (Kd.R_types HO242.out BK250.out (by decide)) (fun _ hk => hk.2) (.int .i64 t244)) (fun _ hk => hk.2) (.int .i64 t245)) (fun _ hk => hk.2) (.int .i64 t246)) (fun _ hk => hk.2) (.slice Ao64 t247.length co64)) (fun _ h_ => h_.1))))) (Kd.R_lt (by (with_reducible repeat (first | apply zrA | apply zrN | apply zrD)); exact (Kd.R_mono (Kd.R_far (p := ⟨gb250, 3, none⟩) (Kd.R_far (p := ⟨gb250, 2, none⟩) (Kd.R_far (p := ⟨gb250, 1, none⟩) (Kd.R_far (p := ⟨gb250, 0, none⟩) (Kd.R_types HO249.out BK250.out (by decide)) (fun _ hk => hk.2) (.int .i64 t244)) (fun _ hk => hk.2) (.int .i64 t245)) (fun _ hk => hk.2) (.int .i64 t246)) (fun _ hk => hk.2) (.slice Ao64 t247.length co64)) (fun _ h_ => h_.1))))) (below_size (zg HB))); have n6_ := Aside0.mk (blk_below (g := gb213) (o := .cells #[.int .i64 a0_0, .int .i64 a0_1, .int .i64 a0_2, .slice A0_3 l0_3.length c0_3] 46 (0, 0)) (by (with_reducible repeat (first | refine zbN ?_ _ | refine zbD ?_ | refine zbA ?_ _)); refine blk_far ?_ NB213_250.out _; (with_reducible repeat (first | refine zbN ?_ _ | refine zbD ?_ | refine zbA ?_ _)); refine blk_far ?_ NB213_250.out _; (with_reducible repeat (first | refine zbN ?_ _ | refine zbD ?_ | refine zbA ?_ _)); refine blk_far ?_ NB213_250.out _; (with_reducible repeat (first | refine zbN ?_ _ | refine zbD ?_ | refine zbA ?_ _)); refine blk_far ?_ NB213_250.out _; (with_reducible repeat (first | refine zbN ?_ _ | refine zbD ?_ | refine zbA ?_ _)); exact BK213.out) hb); have n7_ := Aside0.mk (blk_below (g := gb214) (o := .cells #[.int .i64 a1_0, .int .i64 a1_1, .int .i64 a1_2, .slice A1_3 l1_3.length c1_3] 46 (0, 0)) (by (with_reducible repeat (first | refine zbN ?_ _ | refine zbD ?_ | refine zbA ?_ _)); refine blk_far ?_ NB214_250.out _; (with_reducible repeat (first | refine zbN ?_ _ | refine zbD ?_ | refine zbA ?_ _)); refine blk_far ?_ NB214_250.out _; (with_reducible repeat (first | refine zbN ?_ _ | refine zbD ?_ | refine zbA ?_ _)); refine blk_far ?_ NB214_250.out _; (with_reducible repeat (first | refine zbN ?_ _ | refine zbD ?_ | refine zbA ?_ _)); refine blk_far ?_ NB214_250.out _; (with_reducible repeat (first | refine zbN ?_ _ | refine zbD ?_ | refine zbA ?_ _)); exact BK214.out) hb); have n8_ := Aside0.mk (blk_below (g := gb236) (o := .cells #[.int .i64 t229, .int .i64 t230, .int .i64 t231, .slice Ao44 t232.length co44] 37 (0, 0)) (by (with_reducible repeat (first | refine zbN ?_ _ | refine zbD ?_ | refine zbA ?_ _)); refine blk_far ?_ NB236_250.out _; (with_reducible repeat (first | refine zbN ?_ _ | refine zbD ?_ | refine zbA ?_ _)); refine blk_far ?_ NB236_250.out _; (with_reducible repeat (first | refine zbN ?_ _ | refine zbD ?_ | refine zbA ?_ _)); refine blk_far ?_ NB236_250.out _; (with_reducible repeat (first | refine zbN ?_ _ | refine zbD ?_ | refine zbA ?_ _)); refine blk_far ?_ NB236_250.out _; (with_reducible repeat (first | refine zbN ?_ _ | refine zbD ?_ | refine zbA ?_ _)); exact BK236.out) hb); have n9_ := Aside0.mk (blk_below (g := gb243) (o := .cells #[.int .i64 t237, .int .i64 t238, .int .i64 t239, .slice Ao54 t240.length co54] 37 (0, 0)) (by (with_reducible repeat (first | refine zbN ?_ _ | refine zbD ?_ | refine zbA ?_ _)); refine blk_far ?_ NB243_250.out _; (with_reducible repeat (first | refine zbN ?_ _ | refine zbD ?_ | refine zbA ?_ _)); refine blk_far ?_ NB243_250.out _; (with_reducible repeat (first | refine zbN ?_ _ | refine zbD ?_ | refine zbA ?_ _)); refine blk_far ?_ NB243_250.out _; (with_reducible repeat (first | refine zbN ?_ _ | refine zbD ?_ | refine zbA ?_ _)); refine blk_far ?_ NB243_250.out _; (with_reducible repeat (first | refine zbN ?_ _ | refine zbD ?_ | refine zbA ?_ _)); exact BK243.out) hb); have n10_ := Aside0.mk (blk_below (g := gb250) (o := .cells #[.int .i64 t244, .int .i64 t245, .int .i64 t246, .slice Ao64 t247.length co64] 37 (0, 0)) (by (with_reducible repeat (first | refine zbN ?_ _ | refine zbD ?_ | refine zbA ?_ _)); refine blk_put (cs := #[.int .i64 t244, .int .i64 t245, .int .i64 t246, .slice none 0 0]) ?_ 3 _ rfl; (with_reducible repeat (first | refine zbN ?_ _ | refine zbD ?_ | refine zbA ?_ _)); refine blk_put (cs := #[.int .i64 t244, .int .i64 t245, .int .i64 0, .slice none 0 0]) ?_ 2 _ rfl; (with_reducible repeat (first | refine zbN ?_ _ | refine zbD ?_ | refine zbA ?_ _)); refine blk_put (cs := #[.int .i64 t244, .int .i64 0, .int .i64 0, .slice none 0 0]) ?_ 1 _ rfl; (with_reducible repeat (first | refine zbN ?_ _ | refine zbD ?_ | refine zbA ?_ _)); refine blk_put (cs := #[.int .i64 0, .int .i64 0, .int .i64 0, .slice none 0 0]) ?_ 0 _ rfl; (with_reducible repeat (first | refine zbN ?_ _ | refine zbD ?_ | refine zbA ?_ _)); exact BK250.out) hb); have n11_ := Aside0.mk (below_step (zg HB) hb); clear HO222; clear HO228; clear HO234; clear HO242; clear HO249; clear BK213; clear BK214; clear BK236; clear BK243; clear BK250; clear HB; have HO222 := n0_; have HO228 := n1_; have HO234 := n2_; have HO242 := n3_; have HO249 := n4_; have HO256 := n5_; have BK213 := n6_; have BK214 := n7_; have BK236 := n8_; have BK243 := n9_; have BK250 := n10_; have HB := n11_; clear n0_ n1_ n2_ n3_ n4_ n5_ n6_ n7_ n8_ n9_ n10_ n11_; (try clear hb); (try clear hb2); (try clear hk); (try clear hi); (try clear ho0)) | ((with_reducible refine gate_dst (N := 10) rfl ?_); refine box_event ?hg (N := 10) ?hd (cs := #[.int .i64 0, .int .i64 0, .int .i64 0, .slice none 0 0]) (t := 37) ?hr ?_; (case hd => rfl); (case hg => rfl); (case hr => first | (go_simp; done) | (go_simp; rfl)); intro gb258 hg w67 hbox hb; have n0_ := Aside0.mk (Kd.R_below (zr HO222) hb); have n1_ := Aside0.mk (Kd.R_below (zr HO228) hb); have n2_ := Aside0.mk (Kd.R_below (zr HO234) hb); have n3_ := Aside0.mk (Kd.R_below (zr HO242) hb); have n4_ := Aside0.mk (Kd.R_below (zr HO249) hb); have n5_ := Aside0.mk (Kd.R_below (zr HO256) hb); have n6_ := Aside0.mk (blk_below (zb BK213) hb); have n7_ := Aside0.mk (blk_below (zb BK214) hb); have n8_ := Aside0.mk (blk_below (zb BK236) hb); have n9_ := Aside0.mk (blk_below (zb BK243) hb); have n10_ := Aside0.mk (blk_below (zb BK250) hb); have n11_ := Aside0.mk (below_step (zg HB) hb); have n12_ := Aside0.mk (hbox); have n13_ := Aside0.mk ((by rw [hg]; exact (below_size (zg HB)) : w.heap.size ≤ gb258)); have n14_ := Aside0.mk ((by rw [hg]; exact (below_size (zg HB)) : w.heap.size ≤ gb258)); have n15_ := Aside0.mk ((by rw [hg]; exact Nat.ne_of_lt (blk_lt (zb BK213)) : gb213 ≠ gb258)); have n16_ := Aside0.mk ((by rw [hg]; exact Nat.ne_of_gt (blk_lt (zb BK213)) : gb258 ≠ gb213)); have n17_ := Aside0.mk ((by rw [hg]; exact Nat.ne_of_lt (blk_lt (zb BK214)) : gb214 ≠ gb258)); have n18_ := Aside0.mk ((by rw [hg]; exact Nat.ne_of_gt (blk_lt (zb BK214)) : gb258 ≠ gb214)); have n19_ := Aside0.mk ((by rw [hg]; exact Nat.ne_of_lt (blk_lt (zb BK236)) : gb236 ≠ gb258)); have n20_ := Aside0.mk ((by rw [hg]; exact Nat.ne_of_gt (blk_lt (zb BK236)) : gb258 ≠ gb236)); have n21_ := Aside0.mk ((by rw [hg]; exact Nat.ne_of_lt (blk_lt (zb BK243)) : gb243 ≠ gb258)); have n22_ := Aside0.mk ((by rw [hg]; exact Nat.ne_of_gt (blk_lt (zb BK243)) : gb258 ≠ gb243)); have n23_ := Aside0.mk ((by rw [hg]; exact Nat.ne_of_lt (blk_lt (zb BK250)) : gb250 ≠ gb258)); have n24_ := Aside0.mk ((by rw [hg]; exact Nat.ne_of_gt (blk_lt (zb BK250)) : gb258 ≠ gb250)); clear HO222; clear HO228; clear HO234; clear HO242; clear HO249; clear HO256; clear BK213; clear BK214; clear BK236; clear BK243; clear BK250; clear HB; have HO222 := n0_; have HO228 := n1_; have HO234 := n2_; have HO242 := n3_; have HO249 := n4_; have HO256 := n5_; have BK213 := n6_; have BK214 := n7_; have BK236 := n8_; have BK243 := n9_; have BK250 := n10_; have HB := n11_; have BK258 := n12_; have GW258 := n13_; have GE258 := n14_; have NB213_258 := n15_; have NB258_213 := n16_; have NB214_258 := n17_; have NB258_214 := n18_; have NB236_258 := n19_; have NB258_236 := n20_; have NB243_258 := n21_; have NB258_243 := n22_; have NB250_258 := n23_; have NB258_250 := n24_; clear n0_ n1_ n2_ n3_ n4_ n5_ n6_ n7_ n8_ n9_ n10_ n11_ n12_ n13_ n14_ n15_ n16_ n17_ n18_ n19_ n20_ n21_ n22_ n23_ n24_; clear hb hbox hg; have hnb68 := NB258_213.out; have hnc68 := NB213_258.out; have hnb69 := NB258_214.out; have hnc69 := NB214_258.out; have hnb70 := NB258_236.out; have hnc70 := NB236_258.out; have hnb71 := NB258_243.out; have hnc71 := NB243_258.out; have hnb72 := NB258_250.out; have hnc72 := NB250_258.out; have hcz73_0 : w67.cell? ⟨gb258, 0, none⟩ = some (.int .i64 0) := (blk_cell BK258.out 0).trans rfl; have hcz73_1 : w67.cell? ⟨gb258, 1, none⟩ = some (.int .i64 0) := (blk_cell BK258.out 1).trans rfl; have hcz73_2 : w67.cell? ⟨gb258, 2, none⟩ = some (.int .i64 0) := (blk_cell BK258.out 2).trans rfl; have hcz73_3 : w67.cell? ⟨gb258, 3, none⟩ = some (.slice none 0 0) := (blk_cell BK258.out 3).trans rfl; have hfz73_0 := blk_frozen BK258.out 0; have hfz73_1 := blk_frozen BK258.out 1; have hfz73_2 := blk_frozen BK258.out 2; have hfz73_3 := blk_frozen BK258.out 3; obtain ⟨Ao74, co74, eo74⟩ := Kd.R_slice HO256.out; subst eo74))
   (try simp only [Act.put, List.setIfInBounds_toArray, List.set_cons_zero, List.set_cons_succ])
   go_cut [53] (fun v53 wc => ∃ (kq : Nat) (x53_24 : Bool), v53 = .bool x53_24 ∧ Aside0 (laws_FnExactDigestJoin.j0 kq t235 t257 x53_24 a0_0 a0_1 a0_2 l0_3 a1_0 a1_1 a1_2 l1_3 t229 t230 t231 t232 t237 t238 t239 t240 t244 t245 t246 t247 t251 t252 t253 t254 = some r) ∧ Aside0 (kq ≤ k) ∧ Aside0 (Kd.R (Kd.int .i64) 3 wc w.heap.size (fun k_ => some k_ ≠ ((.slice Ao54 t240.length co54) : Value).ownBlock ∧ some k_ ≠ ((.slice Ao64 t247.length co64) : Value).ownBlock ∧ some k_ ≠ ((.slice Ao74 t254.length co74) : Value).ownBlock) (.slice Ao44 t232.length co44) t232) ∧ Aside0 (Kd.R (Kd.int .i64) 3 wc w.heap.size (fun k_ => some k_ ≠ ((.slice Ao44 t232.length co44) : Value).ownBlock ∧ some k_ ≠ ((.slice Ao64 t247.length co64) : Value).ownBlock ∧ some k_ ≠ ((.slice Ao74 t254.length co74) : Value).ownBlock) (.slice Ao54 t240.length co54) t240) ∧ Aside0 (Kd.R (Kd.int .i64) 3 wc w.heap.size (fun k_ => some k_ ≠ ((.slice Ao44 t232.length co44) : Value).ownBlock ∧ some k_ ≠ ((.slice Ao54 t240.length co54) : Value).ownBlock ∧ some k_ ≠ ((.slice Ao74 t254.length co74) : Value).ownBlock) (.slice Ao64 t247.length co64) t247) ∧ Aside0 (Kd.R (Kd.int .i64) 3 wc w.heap.size (fun k_ => some k_ ≠ ((.slice Ao44 t232.length co44) : Value).ownBlock ∧ some k_ ≠ ((.slice Ao54 t240.length co54) : Value).ownBlock ∧ some k_ ≠ ((.slice Ao64 t247.length co64) : Value).ownBlock) (.slice Ao74 t254.length co74) t254) ∧ Aside0 (wc.heap[gb213]? = some (.cells #[.int .i64 a0_0, .int .i64 a0_1, .int .i64 a0_2, (.slice A0_3 l0_3.length c0_3)] 46 (0, 0))) ∧ Aside0 (wc.heap[gb214]? = some (.cells #[.int .i64 a1_0, .int .i64 a1_1, .int .i64 a1_2, (.slice A1_3 l1_3.length c1_3)] 46 (0, 0))) ∧ Aside0 (wc.heap[gb236]? = some (.cells #[.int .i64 t229, .int .i64 t230, .int .i64 t231, (.slice Ao44 t232.length co44)] 37 (0, 0))) ∧ Aside0 (wc.heap[gb243]? = some (.cells #[.int .i64 t237, .int .i64 t238, .int .i64 t239, (.slice Ao54 t240.length co54)] 37 (0, 0))) ∧ Aside0 (wc.heap[gb250]? = some (.cells #[.int .i64 t244, .int .i64 t245, .int .i64 t246, (.slice Ao64 t247.length co64)] 37 (0, 0))) ∧ Aside0 (wc.heap[gb258]? = some (.cells #[.int .i64 t251, .int .i64 t252, .int .i64 t253, (.slice Ao74 t254.length co74)] 37 (0, 0))) ∧ Aside0 (Below w.heap.size w wc))
   case first =>
    have H := HC25.out
    clear HC25
    replace H := Option.bind_eq_some_iff.mp H
    obtain ⟨t259, A750, H⟩ := H
    replace H : (if t259 = true then (laws_FnExactDigestJoin.j0 k t235 t257 (t257 != t235) a0_0 a0_1 a0_2 l0_3 a1_0 a1_1 a1_2 l1_3 t229 t230 t231 t232 t237 t238 t239 t240 t244 t245 t246 t247 t251 t252 t253 t254) else (laws_FnExactDigestJoin.j0 k t235 t257 true a0_0 a0_1 a0_2 l0_3 a1_0 a1_1 a1_2 l1_3 t229 t230 t231 t232 t237 t238 t239 t240 t244 t245 t246 t247 t251 t252 t253 t254)) = some r := H
    have A75 := Aside0.mk A750
    clear A750
    by_cases c76 : t259 = true
    ·
     subst c76
     have H1 : (laws_FnExactDigestJoin.j0 k t235 t257 (t257 != t235) a0_0 a0_1 a0_2 l0_3 a1_0 a1_1 a1_2 l1_3 t229 t230 t231 t232 t237 t238 t239 t240 t244 t245 t246 t247 t251 t252 t253 t254) = some r := by rw [if_pos rfl] at H; exact H
     clear H
     have H := H1
     clear H1
     have H' := Aside0.mk H
     clear H
     have hnb77 := NB258_213.out
     have hnc77 := NB213_258.out
     have hnb78 := NB258_214.out
     have hnc78 := NB214_258.out
     have hnb79 := NB258_236.out
     have hnc79 := NB236_258.out
     have hnb80 := NB258_243.out
     have hnc80 := NB243_258.out
     have hnb81 := NB258_250.out
     have hnc81 := NB250_258.out
     have hcz82_0 : w67.cell? ⟨gb258, 0, none⟩ = some (.int .i64 0) := (blk_cell BK258.out 0).trans rfl
     have hcz82_1 : w67.cell? ⟨gb258, 1, none⟩ = some (.int .i64 0) := (blk_cell BK258.out 1).trans rfl
     have hcz82_2 : w67.cell? ⟨gb258, 2, none⟩ = some (.int .i64 0) := (blk_cell BK258.out 2).trans rfl
     have hcz82_3 : w67.cell? ⟨gb258, 3, none⟩ = some (.slice none 0 0) := (blk_cell BK258.out 3).trans rfl
     have hfz82_0 := blk_frozen BK258.out 0
     have hfz82_1 := blk_frozen BK258.out 1
     have hfz82_2 := blk_frozen BK258.out 2
     have hfz82_3 := blk_frozen BK258.out 3
     have hnb83 := NB236_213.out
     have hnc83 := NB213_236.out
     have hnb84 := NB236_214.out
     have hnc84 := NB214_236.out
     have hnb85 := NB236_243.out
     have hnc85 := NB243_236.out
     have hnb86 := NB236_250.out
     have hnc86 := NB250_236.out
     have hcz87_0 : w67.cell? ⟨gb236, 0, none⟩ = some (.int .i64 t229) := (blk_cell BK236.out 0).trans rfl
     have hcz87_1 : w67.cell? ⟨gb236, 1, none⟩ = some (.int .i64 t230) := (blk_cell BK236.out 1).trans rfl
     have hcz87_2 : w67.cell? ⟨gb236, 2, none⟩ = some (.int .i64 t231) := (blk_cell BK236.out 2).trans rfl
     have hcz87_3 : w67.cell? ⟨gb236, 3, none⟩ = some (.slice Ao44 t232.length co44) := (blk_cell BK236.out 3).trans rfl
     have hfz87_0 := blk_frozen BK236.out 0
     have hfz87_1 := blk_frozen BK236.out 1
     have hfz87_2 := blk_frozen BK236.out 2
     have hfz87_3 := blk_frozen BK236.out 3
     go_wp2_with (first | ((with_reducible refine gate_callee (f := 21) rfl ?_); refine goesL_ (some 47) rfl rfl Try.func21 (by kernel_rfl) rfl #[.agg #[.int .i64 t251, .int .i64 t252, .int .i64 t253, .slice Ao74 t254.length co74], .agg #[.int .i64 t229, .int .i64 t230, .int .i64 t231, .slice Ao44 t232.length co44]] rfl zar ?_; (with_reducible refine (laws_eqDigest.calls k t251 t252 t253 _ _ t254 t229 t230 t231 _ _ t232 true _ ?side1 ?side2 ?side3 ?side4 A75.out).mono ?_); (case side1 => refine (Kd.R_reads' (e := 3) (base := w.heap.size) (ok := fun k_ => (((((True ∧ some k_ ≠ (v221 : Value).ownBlock) ∧ some k_ ≠ (v227 : Value).ownBlock) ∧ some k_ ≠ (.slice Ao44 t232.length co44 : Value).ownBlock) ∧ some k_ ≠ (.slice Ao54 t240.length co54 : Value).ownBlock) ∧ some k_ ≠ (.slice Ao64 t247.length co64 : Value).ownBlock)) (n := t254.length) (c := co74) ?_).2.2; exact (by (with_reducible repeat (first | apply zrA | apply zrN | apply zrD)); exact (Kd.R_mono (Kd.R_far (p := ⟨gb258, 3, none⟩) (Kd.R_far (p := ⟨gb258, 2, none⟩) (Kd.R_far (p := ⟨gb258, 1, none⟩) (Kd.R_far (p := ⟨gb258, 0, none⟩) (Kd.R_types HO256.out BK258.out (by decide)) (fun _ hk => hk.2) (.int .i64 t251)) (fun _ hk => hk.2) (.int .i64 t252)) (fun _ hk => hk.2) (.int .i64 t253)) (fun _ hk => hk.2) (.slice Ao74 t254.length co74)) (fun _ h_ => h_.1)))); (case side2 => exact (Kd.R_reads' HO256.out).2.1); (case side3 => refine (Kd.R_reads' (e := 3) (base := w.heap.size) (ok := fun k_ => ((((some k_ ≠ (v221 : Value).ownBlock ∧ some k_ ≠ (v227 : Value).ownBlock) ∧ some k_ ≠ (.slice Ao54 t240.length co54 : Value).ownBlock) ∧ some k_ ≠ (.slice Ao64 t247.length co64 : Value).ownBlock) ∧ some k_ ≠ (.slice Ao74 t254.length co74 : Value).ownBlock)) (n := t232.length) (c := co44) ?_).2.2; exact (by (with_reducible repeat (first | apply zrA | apply zrN | apply zrD)); exact (Kd.R_mono (Kd.R_far (p := ⟨gb258, 3, none⟩) (Kd.R_far (p := ⟨gb258, 2, none⟩) (Kd.R_far (p := ⟨gb258, 1, none⟩) (Kd.R_far (p := ⟨gb258, 0, none⟩) (Kd.R_types HO234.out BK258.out (by decide)) (fun _ hk => hk.2) (.int .i64 t251)) (fun _ hk => hk.2) (.int .i64 t252)) (fun _ hk => hk.2) (.int .i64 t253)) (fun _ hk => hk.2) (.slice Ao74 t254.length co74)) (fun _ h_ => h_.1)))); (case side4 => exact (Kd.R_reads' HO234.out).2.1); rintro e w88 ⟨rfl, hb⟩; refine ⟨_, rfl, ?_⟩; have n0_ := Aside0.mk (Kd.R_below (by (with_reducible repeat (first | apply zrA | apply zrN | apply zrD)); exact (Kd.R_mono (Kd.R_far (p := ⟨gb258, 3, none⟩) (Kd.R_far (p := ⟨gb258, 2, none⟩) (Kd.R_far (p := ⟨gb258, 1, none⟩) (Kd.R_far (p := ⟨gb258, 0, none⟩) (Kd.R_types HO222.out BK258.out (by decide)) (fun _ hk => hk.2) (.int .i64 t251)) (fun _ hk => hk.2) (.int .i64 t252)) (fun _ hk => hk.2) (.int .i64 t253)) (fun _ hk => hk.2) (.slice Ao74 t254.length co74)) (fun _ h_ => h_.1))) hb); have n1_ := Aside0.mk (Kd.R_below (by (with_reducible repeat (first | apply zrA | apply zrN | apply zrD)); exact (Kd.R_mono (Kd.R_far (p := ⟨gb258, 3, none⟩) (Kd.R_far (p := ⟨gb258, 2, none⟩) (Kd.R_far (p := ⟨gb258, 1, none⟩) (Kd.R_far (p := ⟨gb258, 0, none⟩) (Kd.R_types HO228.out BK258.out (by decide)) (fun _ hk => hk.2) (.int .i64 t251)) (fun _ hk => hk.2) (.int .i64 t252)) (fun _ hk => hk.2) (.int .i64 t253)) (fun _ hk => hk.2) (.slice Ao74 t254.length co74)) (fun _ h_ => h_.1))) hb); have n2_ := Aside0.mk (Kd.R_below (by (with_reducible repeat (first | apply zrA | apply zrN | apply zrD)); exact (Kd.R_mono (Kd.R_far (p := ⟨gb258, 3, none⟩) (Kd.R_far (p := ⟨gb258, 2, none⟩) (Kd.R_far (p := ⟨gb258, 1, none⟩) (Kd.R_far (p := ⟨gb258, 0, none⟩) (Kd.R_types HO234.out BK258.out (by decide)) (fun _ hk => hk.2) (.int .i64 t251)) (fun _ hk => hk.2) (.int .i64 t252)) (fun _ hk => hk.2) (.int .i64 t253)) (fun _ hk => hk.2) (.slice Ao74 t254.length co74)) (fun _ h_ => h_.1))) hb); have n3_ := Aside0.mk (Kd.R_below (by (with_reducible repeat (first | apply zrA | apply zrN | apply zrD)); exact (Kd.R_mono (Kd.R_far (p := ⟨gb258, 3, none⟩) (Kd.R_far (p := ⟨gb258, 2, none⟩) (Kd.R_far (p := ⟨gb258, 1, none⟩) (Kd.R_far (p := ⟨gb258, 0, none⟩) (Kd.R_types HO242.out BK258.out (by decide)) (fun _ hk => hk.2) (.int .i64 t251)) (fun _ hk => hk.2) (.int .i64 t252)) (fun _ hk => hk.2) (.int .i64 t253)) (fun _ hk => hk.2) (.slice Ao74 t254.length co74)) (fun _ h_ => h_.1))) hb); have n4_ := Aside0.mk (Kd.R_below (by (with_reducible repeat (first | apply zrA | apply zrN | apply zrD)); exact (Kd.R_mono (Kd.R_far (p := ⟨gb258, 3, none⟩) (Kd.R_far (p := ⟨gb258, 2, none⟩) (Kd.R_far (p := ⟨gb258, 1, none⟩) (Kd.R_far (p := ⟨gb258, 0, none⟩) (Kd.R_types HO249.out BK258.out (by decide)) (fun _ hk => hk.2) (.int .i64 t251)) (fun _ hk => hk.2) (.int .i64 t252)) (fun _ hk => hk.2) (.int .i64 t253)) (fun _ hk => hk.2) (.slice Ao74 t254.length co74)) (fun _ h_ => h_.1))) hb); have n5_ := Aside0.mk (Kd.R_below (by (with_reducible repeat (first | apply zrA | apply zrN | apply zrD)); exact (Kd.R_mono (Kd.R_far (p := ⟨gb258, 3, none⟩) (Kd.R_far (p := ⟨gb258, 2, none⟩) (Kd.R_far (p := ⟨gb258, 1, none⟩) (Kd.R_far (p := ⟨gb258, 0, none⟩) (Kd.R_types HO256.out BK258.out (by decide)) (fun _ hk => hk.2) (.int .i64 t251)) (fun _ hk => hk.2) (.int .i64 t252)) (fun _ hk => hk.2) (.int .i64 t253)) (fun _ hk => hk.2) (.slice Ao74 t254.length co74)) (fun _ h_ => h_.1))) hb); have n6_ := Aside0.mk (blk_below (g := gb213) (o := .cells #[.int .i64 a0_0, .int .i64 a0_1, .int .i64 a0_2, .slice A0_3 l0_3.length c0_3] 46 (0, 0)) (by (with_reducible repeat (first | refine zbN ?_ _ | refine zbD ?_ | refine zbA ?_ _)); refine blk_far ?_ NB213_258.out _; (with_reducible repeat (first | refine zbN ?_ _ | refine zbD ?_ | refine zbA ?_ _)); refine blk_far ?_ NB213_258.out _; (with_reducible repeat (first | refine zbN ?_ _ | refine zbD ?_ | refine zbA ?_ _)); refine blk_far ?_ NB213_258.out _; (with_reducible repeat (first | refine zbN ?_ _ | refine zbD ?_ | refine zbA ?_ _)); refine blk_far ?_ NB213_258.out _; (with_reducible repeat (first | refine zbN ?_ _ | refine zbD ?_ | refine zbA ?_ _)); exact BK213.out) hb); have n7_ := Aside0.mk (blk_below (g := gb214) (o := .cells #[.int .i64 a1_0, .int .i64 a1_1, .int .i64 a1_2, .slice A1_3 l1_3.length c1_3] 46 (0, 0)) (by (with_reducible repeat (first | refine zbN ?_ _ | refine zbD ?_ | refine zbA ?_ _)); refine blk_far ?_ NB214_258.out _; (with_reducible repeat (first | refine zbN ?_ _ | refine zbD ?_ | refine zbA ?_ _)); refine blk_far ?_ NB214_258.out _; (with_reducible repeat (first | refine zbN ?_ _ | refine zbD ?_ | refine zbA ?_ _)); refine blk_far ?_ NB214_258.out _; (with_reducible repeat (first | refine zbN ?_ _ | refine zbD ?_ | refine zbA ?_ _)); refine blk_far ?_ NB214_258.out _; (with_reducible repeat (first | refine zbN ?_ _ | refine zbD ?_ | refine zbA ?_ _)); exact BK214.out) hb); have n8_ := Aside0.mk (blk_below (g := gb236) (o := .cells #[.int .i64 t229, .int .i64 t230, .int .i64 t231, .slice Ao44 t232.length co44] 37 (0, 0)) (by (with_reducible repeat (first | refine zbN ?_ _ | refine zbD ?_ | refine zbA ?_ _)); refine blk_far ?_ NB236_258.out _; (with_reducible repeat (first | refine zbN ?_ _ | refine zbD ?_ | refine zbA ?_ _)); refine blk_far ?_ NB236_258.out _; (with_reducible repeat (first | refine zbN ?_ _ | refine zbD ?_ | refine zbA ?_ _)); refine blk_far ?_ NB236_258.out _; (with_reducible repeat (first | refine zbN ?_ _ | refine zbD ?_ | refine zbA ?_ _)); refine blk_far ?_ NB236_258.out _; (with_reducible repeat (first | refine zbN ?_ _ | refine zbD ?_ | refine zbA ?_ _)); exact BK236.out) hb); have n9_ := Aside0.mk (blk_below (g := gb243) (o := .cells #[.int .i64 t237, .int .i64 t238, .int .i64 t239, .slice Ao54 t240.length co54] 37 (0, 0)) (by (with_reducible repeat (first | refine zbN ?_ _ | refine zbD ?_ | refine zbA ?_ _)); refine blk_far ?_ NB243_258.out _; (with_reducible repeat (first | refine zbN ?_ _ | refine zbD ?_ | refine zbA ?_ _)); refine blk_far ?_ NB243_258.out _; (with_reducible repeat (first | refine zbN ?_ _ | refine zbD ?_ | refine zbA ?_ _)); refine blk_far ?_ NB243_258.out _; (with_reducible repeat (first | refine zbN ?_ _ | refine zbD ?_ | refine zbA ?_ _)); refine blk_far ?_ NB243_258.out _; (with_reducible repeat (first | refine zbN ?_ _ | refine zbD ?_ | refine zbA ?_ _)); exact BK243.out) hb); have n10_ := Aside0.mk (blk_below (g := gb250) (o := .cells #[.int .i64 t244, .int .i64 t245, .int .i64 t246, .slice Ao64 t247.length co64] 37 (0, 0)) (by (with_reducible repeat (first | refine zbN ?_ _ | refine zbD ?_ | refine zbA ?_ _)); refine blk_far ?_ NB250_258.out _; (with_reducible repeat (first | refine zbN ?_ _ | refine zbD ?_ | refine zbA ?_ _)); refine blk_far ?_ NB250_258.out _; (with_reducible repeat (first | refine zbN ?_ _ | refine zbD ?_ | refine zbA ?_ _)); refine blk_far ?_ NB250_258.out _; (with_reducible repeat (first | refine zbN ?_ _ | refine zbD ?_ | refine zbA ?_ _)); refine blk_far ?_ NB250_258.out _; (with_reducible repeat (first | refine zbN ?_ _ | refine zbD ?_ | refine zbA ?_ _)); exact BK250.out) hb); have n11_ := Aside0.mk (blk_below (g := gb258) (o := .cells #[.int .i64 t251, .int .i64 t252, .int .i64 t253, .slice Ao74 t254.length co74] 37 (0, 0)) (by (with_reducible repeat (first | refine zbN ?_ _ | refine zbD ?_ | refine zbA ?_ _)); refine blk_put (cs := #[.int .i64 t251, .int .i64 t252, .int .i64 t253, .slice none 0 0]) ?_ 3 _ rfl; (with_reducible repeat (first | refine zbN ?_ _ | refine zbD ?_ | refine zbA ?_ _)); refine blk_put (cs := #[.int .i64 t251, .int .i64 t252, .int .i64 0, .slice none 0 0]) ?_ 2 _ rfl; (with_reducible repeat (first | refine zbN ?_ _ | refine zbD ?_ | refine zbA ?_ _)); refine blk_put (cs := #[.int .i64 t251, .int .i64 0, .int .i64 0, .slice none 0 0]) ?_ 1 _ rfl; (with_reducible repeat (first | refine zbN ?_ _ | refine zbD ?_ | refine zbA ?_ _)); refine blk_put (cs := #[.int .i64 0, .int .i64 0, .int .i64 0, .slice none 0 0]) ?_ 0 _ rfl; (with_reducible repeat (first | refine zbN ?_ _ | refine zbD ?_ | refine zbA ?_ _)); exact BK258.out) hb); have n12_ := Aside0.mk (below_step (zg HB) hb); clear HO222; clear HO228; clear HO234; clear HO242; clear HO249; clear HO256; clear BK213; clear BK214; clear BK236; clear BK243; clear BK250; clear BK258; clear HB; have HO222 := n0_; have HO228 := n1_; have HO234 := n2_; have HO242 := n3_; have HO249 := n4_; have HO256 := n5_; have BK213 := n6_; have BK214 := n7_; have BK236 := n8_; have BK243 := n9_; have BK250 := n10_; have BK258 := n11_; have HB := n12_; clear n0_ n1_ n2_ n3_ n4_ n5_ n6_ n7_ n8_ n9_ n10_ n11_ n12_; (try clear hb); (try clear hb2); (try clear hk); (try clear hi)))
     go_meet
     case rel => exact ⟨_, ((t257 != t235)), (by first | rfl | (simp; done) | (simp [*]; done)), H', ⟨by first | omega | exact Nat.le_refl _⟩, ⟨Kd.R_mono (zr HO234) (fun _ hk => ⟨hk.1.1.2, ⟨hk.1.2, hk.2⟩⟩)⟩, ⟨Kd.R_mono (zr HO242) (fun _ hk => ⟨hk.1.1.2, ⟨hk.1.2, hk.2⟩⟩)⟩, ⟨Kd.R_mono (zr HO249) (fun _ hk => ⟨hk.1.1.2, ⟨hk.1.2, hk.2⟩⟩)⟩, ⟨Kd.R_mono (zr HO256) (fun _ hk => ⟨hk.1.1.2, ⟨hk.1.2, hk.2⟩⟩)⟩, ⟨zb BK213⟩, ⟨zb BK214⟩, ⟨zb BK236⟩, ⟨zb BK243⟩, ⟨zb BK250⟩, ⟨zb BK258⟩, ⟨zg HB⟩⟩
    ·
     replace c76 := Bool.eq_false_iff.mpr c76
     subst c76
     have H1 : (laws_FnExactDigestJoin.j0 k t235 t257 true a0_0 a0_1 a0_2 l0_3 a1_0 a1_1 a1_2 l1_3 t229 t230 t231 t232 t237 t238 t239 t240 t244 t245 t246 t247 t251 t252 t253 t254) = some r := by rw [if_neg (show ¬ (false = true) by decide)] at H; exact H
     clear H
     have H := H1
     clear H1
     have H' := Aside0.mk H
     clear H
     have hnb89 := NB258_213.out
     have hnc89 := NB213_258.out
     have hnb90 := NB258_214.out
     have hnc90 := NB214_258.out
     have hnb91 := NB258_236.out
     have hnc91 := NB236_258.out
     have hnb92 := NB258_243.out
     have hnc92 := NB243_258.out
     have hnb93 := NB258_250.out
     have hnc93 := NB250_258.out
     have hcz94_0 : w67.cell? ⟨gb258, 0, none⟩ = some (.int .i64 0) := (blk_cell BK258.out 0).trans rfl
     have hcz94_1 : w67.cell? ⟨gb258, 1, none⟩ = some (.int .i64 0) := (blk_cell BK258.out 1).trans rfl
     have hcz94_2 : w67.cell? ⟨gb258, 2, none⟩ = some (.int .i64 0) := (blk_cell BK258.out 2).trans rfl
     have hcz94_3 : w67.cell? ⟨gb258, 3, none⟩ = some (.slice none 0 0) := (blk_cell BK258.out 3).trans rfl
     have hfz94_0 := blk_frozen BK258.out 0
     have hfz94_1 := blk_frozen BK258.out 1
     have hfz94_2 := blk_frozen BK258.out 2
     have hfz94_3 := blk_frozen BK258.out 3
     have hnb95 := NB236_213.out
     have hnc95 := NB213_236.out
     have hnb96 := NB236_214.out
     have hnc96 := NB214_236.out
     have hnb97 := NB236_243.out
     have hnc97 := NB243_236.out
     have hnb98 := NB236_250.out
     have hnc98 := NB250_236.out
     have hcz99_0 : w67.cell? ⟨gb236, 0, none⟩ = some (.int .i64 t229) := (blk_cell BK236.out 0).trans rfl
     have hcz99_1 : w67.cell? ⟨gb236, 1, none⟩ = some (.int .i64 t230) := (blk_cell BK236.out 1).trans rfl
     have hcz99_2 : w67.cell? ⟨gb236, 2, none⟩ = some (.int .i64 t231) := (blk_cell BK236.out 2).trans rfl
     have hcz99_3 : w67.cell? ⟨gb236, 3, none⟩ = some (.slice Ao44 t232.length co44) := (blk_cell BK236.out 3).trans rfl
     have hfz99_0 := blk_frozen BK236.out 0
     have hfz99_1 := blk_frozen BK236.out 1
     have hfz99_2 := blk_frozen BK236.out 2
     have hfz99_3 := blk_frozen BK236.out 3
     go_wp2_with (first | ((with_reducible refine gate_callee (f := 21) rfl ?_); refine goesL_ (some 47) rfl rfl Try.func21 (by kernel_rfl) rfl #[.agg #[.int .i64 t251, .int .i64 t252, .int .i64 t253, .slice Ao74 t254.length co74], .agg #[.int .i64 t229, .int .i64 t230, .int .i64 t231, .slice Ao44 t232.length co44]] rfl zar ?_; (with_reducible refine (laws_eqDigest.calls k t251 t252 t253 _ _ t254 t229 t230 t231 _ _ t232 false _ ?side1 ?side2 ?side3 ?side4 A75.out).mono ?_); (case side1 => refine (Kd.R_reads' (e := 3) (base := w.heap.size) (ok := fun k_ => (((((True ∧ some k_ ≠ (v221 : Value).ownBlock) ∧ some k_ ≠ (v227 : Value).ownBlock) ∧ some k_ ≠ (.slice Ao44 t232.length co44 : Value).ownBlock) ∧ some k_ ≠ (.slice Ao54 t240.length co54 : Value).ownBlock) ∧ some k_ ≠ (.slice Ao64 t247.length co64 : Value).ownBlock)) (n := t254.length) (c := co74) ?_).2.2; exact (by (with_reducible repeat (first | apply zrA | apply zrN | apply zrD)); exact (Kd.R_mono (Kd.R_far (p := ⟨gb258, 3, none⟩) (Kd.R_far (p := ⟨gb258, 2, none⟩) (Kd.R_far (p := ⟨gb258, 1, none⟩) (Kd.R_far (p := ⟨gb258, 0, none⟩) (Kd.R_types HO256.out BK258.out (by decide)) (fun _ hk => hk.2) (.int .i64 t251)) (fun _ hk => hk.2) (.int .i64 t252)) (fun _ hk => hk.2) (.int .i64 t253)) (fun _ hk => hk.2) (.slice Ao74 t254.length co74)) (fun _ h_ => h_.1)))); (case side2 => exact (Kd.R_reads' HO256.out).2.1); (case side3 => refine (Kd.R_reads' (e := 3) (base := w.heap.size) (ok := fun k_ => ((((some k_ ≠ (v221 : Value).ownBlock ∧ some k_ ≠ (v227 : Value).ownBlock) ∧ some k_ ≠ (.slice Ao54 t240.length co54 : Value).ownBlock) ∧ some k_ ≠ (.slice Ao64 t247.length co64 : Value).ownBlock) ∧ some k_ ≠ (.slice Ao74 t254.length co74 : Value).ownBlock)) (n := t232.length) (c := co44) ?_).2.2; exact (by (with_reducible repeat (first | apply zrA | apply zrN | apply zrD)); exact (Kd.R_mono (Kd.R_far (p := ⟨gb258, 3, none⟩) (Kd.R_far (p := ⟨gb258, 2, none⟩) (Kd.R_far (p := ⟨gb258, 1, none⟩) (Kd.R_far (p := ⟨gb258, 0, none⟩) (Kd.R_types HO234.out BK258.out (by decide)) (fun _ hk => hk.2) (.int .i64 t251)) (fun _ hk => hk.2) (.int .i64 t252)) (fun _ hk => hk.2) (.int .i64 t253)) (fun _ hk => hk.2) (.slice Ao74 t254.length co74)) (fun _ h_ => h_.1)))); (case side4 => exact (Kd.R_reads' HO234.out).2.1); rintro e w100 ⟨rfl, hb⟩; refine ⟨_, rfl, ?_⟩; have n0_ := Aside0.mk (Kd.R_below (by (with_reducible repeat (first | apply zrA | apply zrN | apply zrD)); exact (Kd.R_mono (Kd.R_far (p := ⟨gb258, 3, none⟩) (Kd.R_far (p := ⟨gb258, 2, none⟩) (Kd.R_far (p := ⟨gb258, 1, none⟩) (Kd.R_far (p := ⟨gb258, 0, none⟩) (Kd.R_types HO222.out BK258.out (by decide)) (fun _ hk => hk.2) (.int .i64 t251)) (fun _ hk => hk.2) (.int .i64 t252)) (fun _ hk => hk.2) (.int .i64 t253)) (fun _ hk => hk.2) (.slice Ao74 t254.length co74)) (fun _ h_ => h_.1))) hb); have n1_ := Aside0.mk (Kd.R_below (by (with_reducible repeat (first | apply zrA | apply zrN | apply zrD)); exact (Kd.R_mono (Kd.R_far (p := ⟨gb258, 3, none⟩) (Kd.R_far (p := ⟨gb258, 2, none⟩) (Kd.R_far (p := ⟨gb258, 1, none⟩) (Kd.R_far (p := ⟨gb258, 0, none⟩) (Kd.R_types HO228.out BK258.out (by decide)) (fun _ hk => hk.2) (.int .i64 t251)) (fun _ hk => hk.2) (.int .i64 t252)) (fun _ hk => hk.2) (.int .i64 t253)) (fun _ hk => hk.2) (.slice Ao74 t254.length co74)) (fun _ h_ => h_.1))) hb); have n2_ := Aside0.mk (Kd.R_below (by (with_reducible repeat (first | apply zrA | apply zrN | apply zrD)); exact (Kd.R_mono (Kd.R_far (p := ⟨gb258, 3, none⟩) (Kd.R_far (p := ⟨gb258, 2, none⟩) (Kd.R_far (p := ⟨gb258, 1, none⟩) (Kd.R_far (p := ⟨gb258, 0, none⟩) (Kd.R_types HO234.out BK258.out (by decide)) (fun _ hk => hk.2) (.int .i64 t251)) (fun _ hk => hk.2) (.int .i64 t252)) (fun _ hk => hk.2) (.int .i64 t253)) (fun _ hk => hk.2) (.slice Ao74 t254.length co74)) (fun _ h_ => h_.1))) hb); have n3_ := Aside0.mk (Kd.R_below (by (with_reducible repeat (first | apply zrA | apply zrN | apply zrD)); exact (Kd.R_mono (Kd.R_far (p := ⟨gb258, 3, none⟩) (Kd.R_far (p := ⟨gb258, 2, none⟩) (Kd.R_far (p := ⟨gb258, 1, none⟩) (Kd.R_far (p := ⟨gb258, 0, none⟩) (Kd.R_types HO242.out BK258.out (by decide)) (fun _ hk => hk.2) (.int .i64 t251)) (fun _ hk => hk.2) (.int .i64 t252)) (fun _ hk => hk.2) (.int .i64 t253)) (fun _ hk => hk.2) (.slice Ao74 t254.length co74)) (fun _ h_ => h_.1))) hb); have n4_ := Aside0.mk (Kd.R_below (by (with_reducible repeat (first | apply zrA | apply zrN | apply zrD)); exact (Kd.R_mono (Kd.R_far (p := ⟨gb258, 3, none⟩) (Kd.R_far (p := ⟨gb258, 2, none⟩) (Kd.R_far (p := ⟨gb258, 1, none⟩) (Kd.R_far (p := ⟨gb258, 0, none⟩) (Kd.R_types HO249.out BK258.out (by decide)) (fun _ hk => hk.2) (.int .i64 t251)) (fun _ hk => hk.2) (.int .i64 t252)) (fun _ hk => hk.2) (.int .i64 t253)) (fun _ hk => hk.2) (.slice Ao74 t254.length co74)) (fun _ h_ => h_.1))) hb); have n5_ := Aside0.mk (Kd.R_below (by (with_reducible repeat (first | apply zrA | apply zrN | apply zrD)); exact (Kd.R_mono (Kd.R_far (p := ⟨gb258, 3, none⟩) (Kd.R_far (p := ⟨gb258, 2, none⟩) (Kd.R_far (p := ⟨gb258, 1, none⟩) (Kd.R_far (p := ⟨gb258, 0, none⟩) (Kd.R_types HO256.out BK258.out (by decide)) (fun _ hk => hk.2) (.int .i64 t251)) (fun _ hk => hk.2) (.int .i64 t252)) (fun _ hk => hk.2) (.int .i64 t253)) (fun _ hk => hk.2) (.slice Ao74 t254.length co74)) (fun _ h_ => h_.1))) hb); have n6_ := Aside0.mk (blk_below (g := gb213) (o := .cells #[.int .i64 a0_0, .int .i64 a0_1, .int .i64 a0_2, .slice A0_3 l0_3.length c0_3] 46 (0, 0)) (by (with_reducible repeat (first | refine zbN ?_ _ | refine zbD ?_ | refine zbA ?_ _)); refine blk_far ?_ NB213_258.out _; (with_reducible repeat (first | refine zbN ?_ _ | refine zbD ?_ | refine zbA ?_ _)); refine blk_far ?_ NB213_258.out _; (with_reducible repeat (first | refine zbN ?_ _ | refine zbD ?_ | refine zbA ?_ _)); refine blk_far ?_ NB213_258.out _; (with_reducible repeat (first | refine zbN ?_ _ | refine zbD ?_ | refine zbA ?_ _)); refine blk_far ?_ NB213_258.out _; (with_reducible repeat (first | refine zbN ?_ _ | refine zbD ?_ | refine zbA ?_ _)); exact BK213.out) hb); have n7_ := Aside0.mk (blk_below (g := gb214) (o := .cells #[.int .i64 a1_0, .int .i64 a1_1, .int .i64 a1_2, .slice A1_3 l1_3.length c1_3] 46 (0, 0)) (by (with_reducible repeat (first | refine zbN ?_ _ | refine zbD ?_ | refine zbA ?_ _)); refine blk_far ?_ NB214_258.out _; (with_reducible repeat (first | refine zbN ?_ _ | refine zbD ?_ | refine zbA ?_ _)); refine blk_far ?_ NB214_258.out _; (with_reducible repeat (first | refine zbN ?_ _ | refine zbD ?_ | refine zbA ?_ _)); refine blk_far ?_ NB214_258.out _; (with_reducible repeat (first | refine zbN ?_ _ | refine zbD ?_ | refine zbA ?_ _)); refine blk_far ?_ NB214_258.out _; (with_reducible repeat (first | refine zbN ?_ _ | refine zbD ?_ | refine zbA ?_ _)); exact BK214.out) hb); have n8_ := Aside0.mk (blk_below (g := gb236) (o := .cells #[.int .i64 t229, .int .i64 t230, .int .i64 t231, .slice Ao44 t232.length co44] 37 (0, 0)) (by (with_reducible repeat (first | refine zbN ?_ _ | refine zbD ?_ | refine zbA ?_ _)); refine blk_far ?_ NB236_258.out _; (with_reducible repeat (first | refine zbN ?_ _ | refine zbD ?_ | refine zbA ?_ _)); refine blk_far ?_ NB236_258.out _; (with_reducible repeat (first | refine zbN ?_ _ | refine zbD ?_ | refine zbA ?_ _)); refine blk_far ?_ NB236_258.out _; (with_reducible repeat (first | refine zbN ?_ _ | refine zbD ?_ | refine zbA ?_ _)); refine blk_far ?_ NB236_258.out _; (with_reducible repeat (first | refine zbN ?_ _ | refine zbD ?_ | refine zbA ?_ _)); exact BK236.out) hb); have n9_ := Aside0.mk (blk_below (g := gb243) (o := .cells #[.int .i64 t237, .int .i64 t238, .int .i64 t239, .slice Ao54 t240.length co54] 37 (0, 0)) (by (with_reducible repeat (first | refine zbN ?_ _ | refine zbD ?_ | refine zbA ?_ _)); refine blk_far ?_ NB243_258.out _; (with_reducible repeat (first | refine zbN ?_ _ | refine zbD ?_ | refine zbA ?_ _)); refine blk_far ?_ NB243_258.out _; (with_reducible repeat (first | refine zbN ?_ _ | refine zbD ?_ | refine zbA ?_ _)); refine blk_far ?_ NB243_258.out _; (with_reducible repeat (first | refine zbN ?_ _ | refine zbD ?_ | refine zbA ?_ _)); refine blk_far ?_ NB243_258.out _; (with_reducible repeat (first | refine zbN ?_ _ | refine zbD ?_ | refine zbA ?_ _)); exact BK243.out) hb); have n10_ := Aside0.mk (blk_below (g := gb250) (o := .cells #[.int .i64 t244, .int .i64 t245, .int .i64 t246, .slice Ao64 t247.length co64] 37 (0, 0)) (by (with_reducible repeat (first | refine zbN ?_ _ | refine zbD ?_ | refine zbA ?_ _)); refine blk_far ?_ NB250_258.out _; (with_reducible repeat (first | refine zbN ?_ _ | refine zbD ?_ | refine zbA ?_ _)); refine blk_far ?_ NB250_258.out _; (with_reducible repeat (first | refine zbN ?_ _ | refine zbD ?_ | refine zbA ?_ _)); refine blk_far ?_ NB250_258.out _; (with_reducible repeat (first | refine zbN ?_ _ | refine zbD ?_ | refine zbA ?_ _)); refine blk_far ?_ NB250_258.out _; (with_reducible repeat (first | refine zbN ?_ _ | refine zbD ?_ | refine zbA ?_ _)); exact BK250.out) hb); have n11_ := Aside0.mk (blk_below (g := gb258) (o := .cells #[.int .i64 t251, .int .i64 t252, .int .i64 t253, .slice Ao74 t254.length co74] 37 (0, 0)) (by (with_reducible repeat (first | refine zbN ?_ _ | refine zbD ?_ | refine zbA ?_ _)); refine blk_put (cs := #[.int .i64 t251, .int .i64 t252, .int .i64 t253, .slice none 0 0]) ?_ 3 _ rfl; (with_reducible repeat (first | refine zbN ?_ _ | refine zbD ?_ | refine zbA ?_ _)); refine blk_put (cs := #[.int .i64 t251, .int .i64 t252, .int .i64 0, .slice none 0 0]) ?_ 2 _ rfl; (with_reducible repeat (first | refine zbN ?_ _ | refine zbD ?_ | refine zbA ?_ _)); refine blk_put (cs := #[.int .i64 t251, .int .i64 0, .int .i64 0, .slice none 0 0]) ?_ 1 _ rfl; (with_reducible repeat (first | refine zbN ?_ _ | refine zbD ?_ | refine zbA ?_ _)); refine blk_put (cs := #[.int .i64 0, .int .i64 0, .int .i64 0, .slice none 0 0]) ?_ 0 _ rfl; (with_reducible repeat (first | refine zbN ?_ _ | refine zbD ?_ | refine zbA ?_ _)); exact BK258.out) hb); have n12_ := Aside0.mk (below_step (zg HB) hb); clear HO222; clear HO228; clear HO234; clear HO242; clear HO249; clear HO256; clear BK213; clear BK214; clear BK236; clear BK243; clear BK250; clear BK258; clear HB; have HO222 := n0_; have HO228 := n1_; have HO234 := n2_; have HO242 := n3_; have HO249 := n4_; have HO256 := n5_; have BK213 := n6_; have BK214 := n7_; have BK236 := n8_; have BK243 := n9_; have BK250 := n10_; have BK258 := n11_; have HB := n12_; clear n0_ n1_ n2_ n3_ n4_ n5_ n6_ n7_ n8_ n9_ n10_ n11_ n12_; (try clear hb); (try clear hb2); (try clear hk); (try clear hi)))
     go_meet
     case rel => exact ⟨_, (true), (by first | rfl | (simp; done) | (simp [*]; done)), H', ⟨by first | omega | exact Nat.le_refl _⟩, ⟨Kd.R_mono (zr HO234) (fun _ hk => ⟨hk.1.1.2, ⟨hk.1.2, hk.2⟩⟩)⟩, ⟨Kd.R_mono (zr HO242) (fun _ hk => ⟨hk.1.1.2, ⟨hk.1.2, hk.2⟩⟩)⟩, ⟨Kd.R_mono (zr HO249) (fun _ hk => ⟨hk.1.1.2, ⟨hk.1.2, hk.2⟩⟩)⟩, ⟨Kd.R_mono (zr HO256) (fun _ hk => ⟨hk.1.1.2, ⟨hk.1.2, hk.2⟩⟩)⟩, ⟨zb BK213⟩, ⟨zb BK214⟩, ⟨zb BK236⟩, ⟨zb BK243⟩, ⟨zb BK250⟩, ⟨zb BK258⟩, ⟨zg HB⟩⟩
   case rest =>
    clear HC25
    try clear c1
    try clear c2
    try clear p2
    try clear c4
    try clear c5
    try clear c6
    try clear c7
    try clear c8
    try clear c9
    try clear c21
    try clear c27
    try clear c28
    try clear c29
    try clear c46
    try clear c50
    try clear c51
    try clear c52
    try clear c55
    try clear c59
    try clear c60
    try clear c61
    try clear c62
    try clear c68
    try clear c69
    try clear c70
    try clear c71
    try clear c72
    try clear c76
    try clear c77
    try clear c78
    try clear c79
    try clear c80
    try clear c81
    try clear c83
    try clear c84
    try clear c85
    try clear c86
    try clear c89
    try clear c90
    try clear c91
    try clear c92
    try clear c93
    try clear c95
    try clear c96
    try clear c97
    try clear c98
    try clear hcz47_0
    try clear hcz47_1
    try clear hcz47_2
    try clear hcz47_3
    try clear hcz53_0
    try clear hcz53_1
    try clear hcz53_2
    try clear hcz53_3
    try clear hcz56_0
    try clear hcz56_1
    try clear hcz56_2
    try clear hcz56_3
    try clear hcz63_0
    try clear hcz63_1
    try clear hcz63_2
    try clear hcz63_3
    try clear hcz65_0
    try clear hcz65_1
    try clear hcz65_2
    try clear hcz65_3
    try clear hcz73_0
    try clear hcz73_1
    try clear hcz73_2
    try clear hcz73_3
    try clear hcz82_0
    try clear hcz82_1
    try clear hcz82_2
    try clear hcz82_3
    try clear hcz87_0
    try clear hcz87_1
    try clear hcz87_2
    try clear hcz87_3
    try clear hcz94_0
    try clear hcz94_1
    try clear hcz94_2
    try clear hcz94_3
    try clear hcz99_0
    try clear hcz99_1
    try clear hcz99_2
    try clear hcz99_3
    try clear hfz47_0
    try clear hfz47_1
    try clear hfz47_2
    try clear hfz47_3
    try clear hfz53_0
    try clear hfz53_1
    try clear hfz53_2
    try clear hfz53_3
    try clear hfz56_0
    try clear hfz56_1
    try clear hfz56_2
    try clear hfz56_3
    try clear hfz63_0
    try clear hfz63_1
    try clear hfz63_2
    try clear hfz63_3
    try clear hfz65_0
    try clear hfz65_1
    try clear hfz65_2
    try clear hfz65_3
    try clear hfz73_0
    try clear hfz73_1
    try clear hfz73_2
    try clear hfz73_3
    try clear hfz82_0
    try clear hfz82_1
    try clear hfz82_2
    try clear hfz82_3
    try clear hfz87_0
    try clear hfz87_1
    try clear hfz87_2
    try clear hfz87_3
    try clear hfz94_0
    try clear hfz94_1
    try clear hfz94_2
    try clear hfz94_3
    try clear hfz99_0
    try clear hfz99_1
    try clear hfz99_2
    try clear hfz99_3
    obtain ⟨kq, x53_24, rfl, HA, HJ24, HO_237003, HO_244003, HO_251003, HO_259003, BK213, BK214, BK236, BK243, BK250, BK258, HB⟩ := hcut
    cases kq with
    | zero => exact absurd HA.out (by simp [laws_FnExactDigestJoin.j0])
    | succ kj24 =>
     have H := HA.out
     clear HA
     simp only [laws_FnExactDigestJoin.j0] at H
     by_cases c101 : x53_24 = true
     ·
      subst c101
      have H1 : (some false) = some r := by rw [if_pos rfl] at H; exact H
      clear H
      have H := H1
      clear H1
      obtain rfl := Option.some.inj H
      go_wp2
      go_ret
      exact ⟨zre, zg HB⟩
     ·
      replace c101 := Bool.eq_false_iff.mpr c101
      subst c101
      have H1 : ((laws_toDigest.f kj24 a0_0 a0_1 a0_2 l0_3).bind fun bt260 => ((laws_eqDigest.f kj24 t237 t238 t239 t240 bt260.1 bt260.2.1 bt260.2.2.1 bt260.2.2.2).bind fun t266 => (if t266 = true then ((laws_toDigest.f kj24 a1_0 a1_1 a1_2 l1_3).bind fun bt267 => ((laws_eqDigest.f kj24 t244 t245 t246 t247 bt267.1 bt267.2.1 bt267.2.2.1 bt267.2.2.2).bind fun t273 => (if t273 = true then ((laws_markDigest.f kj24 t237 t238 t239 t240 1).bind fun bt274 => ((laws_markDigest.f kj24 t244 t245 t246 t247 bt274.1).bind fun bt276 => (if bt276.1 < 0 then (laws_FnExactDigestJoin.j1 kj24 t235 true a0_0 a0_1 a0_2 l0_3 a1_0 a1_1 a1_2 l1_3 t229 t230 t231 t232 t251 t252 t253 t254) else ((laws_eqDigest.f kj24 t251 t252 t253 t254 t229 t230 t231 t232).bind fun t278 => (if t278 = true then (laws_FnExactDigestJoin.j1 kj24 t235 (t257 != t235) a0_0 a0_1 a0_2 l0_3 a1_0 a1_1 a1_2 l1_3 t229 t230 t231 t232 t251 t252 t253 t254) else (laws_FnExactDigestJoin.j1 kj24 t235 true a0_0 a0_1 a0_2 l0_3 a1_0 a1_1 a1_2 l1_3 t229 t230 t231 t232 t251 t252 t253 t254)))))) else (some false)))) else (some false)))) = some r := by rw [if_neg (show ¬ (false = true) by decide)] at H; exact H
      clear H
      have H := H1
      clear H1
      replace H := Option.bind_eq_some_iff.mp H
      obtain ⟨⟨t260, t261, t262, t263⟩, A1020, H⟩ := H
      replace H : ((laws_eqDigest.f kj24 t237 t238 t239 t240 t260 t261 t262 t263).bind fun t266 => (if t266 = true then ((laws_toDigest.f kj24 a1_0 a1_1 a1_2 l1_3).bind fun bt267 => ((laws_eqDigest.f kj24 t244 t245 t246 t247 bt267.1 bt267.2.1 bt267.2.2.1 bt267.2.2.2).bind fun t273 => (if t273 = true then ((laws_markDigest.f kj24 t237 t238 t239 t240 1).bind fun bt274 => ((laws_markDigest.f kj24 t244 t245 t246 t247 bt274.1).bind fun bt276 => (if bt276.1 < 0 then (laws_FnExactDigestJoin.j1 kj24 t235 true a0_0 a0_1 a0_2 l0_3 a1_0 a1_1 a1_2 l1_3 t229 t230 t231 t232 t251 t252 t253 t254) else ((laws_eqDigest.f kj24 t251 t252 t253 t254 t229 t230 t231 t232).bind fun t278 => (if t278 = true then (laws_FnExactDigestJoin.j1 kj24 t235 (t257 != t235) a0_0 a0_1 a0_2 l0_3 a1_0 a1_1 a1_2 l1_3 t229 t230 t231 t232 t251 t252 t253 t254) else (laws_FnExactDigestJoin.j1 kj24 t235 true a0_0 a0_1 a0_2 l0_3 a1_0 a1_1 a1_2 l1_3 t229 t230 t231 t232 t251 t252 t253 t254)))))) else (some false)))) else (some false))) = some r := H
      have A102 := Aside0.mk A1020
      clear A1020
      replace H := Option.bind_eq_some_iff.mp H
      obtain ⟨t266, A1030, H⟩ := H
      replace H : (if t266 = true then ((laws_toDigest.f kj24 a1_0 a1_1 a1_2 l1_3).bind fun bt267 => ((laws_eqDigest.f kj24 t244 t245 t246 t247 bt267.1 bt267.2.1 bt267.2.2.1 bt267.2.2.2).bind fun t273 => (if t273 = true then ((laws_markDigest.f kj24 t237 t238 t239 t240 1).bind fun bt274 => ((laws_markDigest.f kj24 t244 t245 t246 t247 bt274.1).bind fun bt276 => (if bt276.1 < 0 then (laws_FnExactDigestJoin.j1 kj24 t235 true a0_0 a0_1 a0_2 l0_3 a1_0 a1_1 a1_2 l1_3 t229 t230 t231 t232 t251 t252 t253 t254) else ((laws_eqDigest.f kj24 t251 t252 t253 t254 t229 t230 t231 t232).bind fun t278 => (if t278 = true then (laws_FnExactDigestJoin.j1 kj24 t235 (t257 != t235) a0_0 a0_1 a0_2 l0_3 a1_0 a1_1 a1_2 l1_3 t229 t230 t231 t232 t251 t252 t253 t254) else (laws_FnExactDigestJoin.j1 kj24 t235 true a0_0 a0_1 a0_2 l0_3 a1_0 a1_1 a1_2 l1_3 t229 t230 t231 t232 t251 t252 t253 t254)))))) else (some false)))) else (some false)) = some r := H
      have A103 := Aside0.mk A1030
      clear A1030
      by_cases c104 : t266 = true
      ·
       subst c104
       have H1 : ((laws_toDigest.f kj24 a1_0 a1_1 a1_2 l1_3).bind fun bt267 => ((laws_eqDigest.f kj24 t244 t245 t246 t247 bt267.1 bt267.2.1 bt267.2.2.1 bt267.2.2.2).bind fun t273 => (if t273 = true then ((laws_markDigest.f kj24 t237 t238 t239 t240 1).bind fun bt274 => ((laws_markDigest.f kj24 t244 t245 t246 t247 bt274.1).bind fun bt276 => (if bt276.1 < 0 then (laws_FnExactDigestJoin.j1 kj24 t235 true a0_0 a0_1 a0_2 l0_3 a1_0 a1_1 a1_2 l1_3 t229 t230 t231 t232 t251 t252 t253 t254) else ((laws_eqDigest.f kj24 t251 t252 t253 t254 t229 t230 t231 t232).bind fun t278 => (if t278 = true then (laws_FnExactDigestJoin.j1 kj24 t235 (t257 != t235) a0_0 a0_1 a0_2 l0_3 a1_0 a1_1 a1_2 l1_3 t229 t230 t231 t232 t251 t252 t253 t254) else (laws_FnExactDigestJoin.j1 kj24 t235 true a0_0 a0_1 a0_2 l0_3 a1_0 a1_1 a1_2 l1_3 t229 t230 t231 t232 t251 t252 t253 t254)))))) else (some false)))) = some r := by rw [if_pos rfl] at H; exact H
       clear H
       have H := H1
       clear H1
       replace H := Option.bind_eq_some_iff.mp H
       obtain ⟨⟨t267, t268, t269, t270⟩, A1050, H⟩ := H
       replace H : ((laws_eqDigest.f kj24 t244 t245 t246 t247 t267 t268 t269 t270).bind fun t273 => (if t273 = true then ((laws_markDigest.f kj24 t237 t238 t239 t240 1).bind fun bt274 => ((laws_markDigest.f kj24 t244 t245 t246 t247 bt274.1).bind fun bt276 => (if bt276.1 < 0 then (laws_FnExactDigestJoin.j1 kj24 t235 true a0_0 a0_1 a0_2 l0_3 a1_0 a1_1 a1_2 l1_3 t229 t230 t231 t232 t251 t252 t253 t254) else ((laws_eqDigest.f kj24 t251 t252 t253 t254 t229 t230 t231 t232).bind fun t278 => (if t278 = true then (laws_FnExactDigestJoin.j1 kj24 t235 (t257 != t235) a0_0 a0_1 a0_2 l0_3 a1_0 a1_1 a1_2 l1_3 t229 t230 t231 t232 t251 t252 t253 t254) else (laws_FnExactDigestJoin.j1 kj24 t235 true a0_0 a0_1 a0_2 l0_3 a1_0 a1_1 a1_2 l1_3 t229 t230 t231 t232 t251 t252 t253 t254)))))) else (some false))) = some r := H
       have A105 := Aside0.mk A1050
       clear A1050
       replace H := Option.bind_eq_some_iff.mp H
       obtain ⟨t273, A1060, H⟩ := H
       replace H : (if t273 = true then ((laws_markDigest.f kj24 t237 t238 t239 t240 1).bind fun bt274 => ((laws_markDigest.f kj24 t244 t245 t246 t247 bt274.1).bind fun bt276 => (if bt276.1 < 0 then (laws_FnExactDigestJoin.j1 kj24 t235 true a0_0 a0_1 a0_2 l0_3 a1_0 a1_1 a1_2 l1_3 t229 t230 t231 t232 t251 t252 t253 t254) else ((laws_eqDigest.f kj24 t251 t252 t253 t254 t229 t230 t231 t232).bind fun t278 => (if t278 = true then (laws_FnExactDigestJoin.j1 kj24 t235 (t257 != t235) a0_0 a0_1 a0_2 l0_3 a1_0 a1_1 a1_2 l1_3 t229 t230 t231 t232 t251 t252 t253 t254) else (laws_FnExactDigestJoin.j1 kj24 t235 true a0_0 a0_1 a0_2 l0_3 a1_0 a1_1 a1_2 l1_3 t229 t230 t231 t232 t251 t252 t253 t254)))))) else (some false)) = some r := H
       have A106 := Aside0.mk A1060
       clear A1060
       by_cases c107 : t273 = true
       ·
        subst c107
        have H1 : ((laws_markDigest.f kj24 t237 t238 t239 t240 1).bind fun bt274 => ((laws_markDigest.f kj24 t244 t245 t246 t247 bt274.1).bind fun bt276 => (if bt276.1 < 0 then (laws_FnExactDigestJoin.j1 kj24 t235 true a0_0 a0_1 a0_2 l0_3 a1_0 a1_1 a1_2 l1_3 t229 t230 t231 t232 t251 t252 t253 t254) else ((laws_eqDigest.f kj24 t251 t252 t253 t254 t229 t230 t231 t232).bind fun t278 => (if t278 = true then (laws_FnExactDigestJoin.j1 kj24 t235 (t257 != t235) a0_0 a0_1 a0_2 l0_3 a1_0 a1_1 a1_2 l1_3 t229 t230 t231 t232 t251 t252 t253 t254) else (laws_FnExactDigestJoin.j1 kj24 t235 true a0_0 a0_1 a0_2 l0_3 a1_0 a1_1 a1_2 l1_3 t229 t230 t231 t232 t251 t252 t253 t254)))))) = some r := by rw [if_pos rfl] at H; exact H
        clear H
        have H := H1
        clear H1
        replace H := Option.bind_eq_some_iff.mp H
        obtain ⟨⟨t274, t275⟩, A1080, H⟩ := H
        replace H : ((laws_markDigest.f kj24 t244 t245 t246 t247 t274).bind fun bt276 => (if bt276.1 < 0 then (laws_FnExactDigestJoin.j1 kj24 t235 true a0_0 a0_1 a0_2 l0_3 a1_0 a1_1 a1_2 l1_3 t229 t230 t231 t232 t251 t252 t253 t254) else ((laws_eqDigest.f kj24 t251 t252 t253 t254 t229 t230 t231 t232).bind fun t278 => (if t278 = true then (laws_FnExactDigestJoin.j1 kj24 t235 (t257 != t235) a0_0 a0_1 a0_2 l0_3 a1_0 a1_1 a1_2 l1_3 t229 t230 t231 t232 t251 t252 t253 t254) else (laws_FnExactDigestJoin.j1 kj24 t235 true a0_0 a0_1 a0_2 l0_3 a1_0 a1_1 a1_2 l1_3 t229 t230 t231 t232 t251 t252 t253 t254))))) = some r := H
        have A108 := Aside0.mk A1080
        clear A1080
        replace H := Option.bind_eq_some_iff.mp H
        obtain ⟨⟨t276, t277⟩, A1090, H⟩ := H
        replace H : (if t276 < 0 then (laws_FnExactDigestJoin.j1 kj24 t235 true a0_0 a0_1 a0_2 l0_3 a1_0 a1_1 a1_2 l1_3 t229 t230 t231 t232 t251 t252 t253 t254) else ((laws_eqDigest.f kj24 t251 t252 t253 t254 t229 t230 t231 t232).bind fun t278 => (if t278 = true then (laws_FnExactDigestJoin.j1 kj24 t235 (t257 != t235) a0_0 a0_1 a0_2 l0_3 a1_0 a1_1 a1_2 l1_3 t229 t230 t231 t232 t251 t252 t253 t254) else (laws_FnExactDigestJoin.j1 kj24 t235 true a0_0 a0_1 a0_2 l0_3 a1_0 a1_1 a1_2 l1_3 t229 t230 t231 t232 t251 t252 t253 t254)))) = some r := H
        have A109 := Aside0.mk A1090
        clear A1090
        have HC110 := Aside0.mk H
        clear H
        try go_wp2
        have n0_ := Aside0.mk (Kd.R_drew HO_237003.out)
        have n1_ := Aside0.mk (Kd.R_drew HO_244003.out)
        have n2_ := Aside0.mk (Kd.R_drew HO_251003.out)
        have n3_ := Aside0.mk (Kd.R_drew HO_259003.out)
        have n4_ := Aside0.mk (blk_drew BK213.out)
        have n5_ := Aside0.mk (blk_drew BK214.out)
        have n6_ := Aside0.mk (blk_drew BK236.out)
        have n7_ := Aside0.mk (blk_drew BK243.out)
        have n8_ := Aside0.mk (blk_drew BK250.out)
        have n9_ := Aside0.mk (blk_drew BK258.out)
        have n10_ := Aside0.mk (below_drew1 HB.out)
        clear HO_237003
        clear HO_244003
        clear HO_251003
        clear HO_259003
        clear BK213
        clear BK214
        clear BK236
        clear BK243
        clear BK250
        clear BK258
        clear HB
        have HO_237003 := n0_
        have HO_244003 := n1_
        have HO_251003 := n2_
        have HO_259003 := n3_
        have BK213 := n4_
        have BK214 := n5_
        have BK236 := n6_
        have BK243 := n7_
        have BK250 := n8_
        have BK258 := n9_
        have HB := n10_
        clear n0_ n1_ n2_ n3_ n4_ n5_ n6_ n7_ n8_ n9_ n10_
        refine start_ (n := 5) (S := fun w' => w'.cell? ⟨gb243, 0, none⟩ = some (.int .i64 t237) ∧ w'.cell? ⟨gb243, 1, none⟩ = some (.int .i64 t238) ∧ w'.cell? ⟨gb243, 2, none⟩ = some (.int .i64 t239) ∧ w'.cell? ⟨gb243, 3, none⟩ = some (.slice Ao54 t240.length co54) ∧ w'.cell? ⟨gb213, 0, none⟩ = some (.int .i64 a0_0) ∧ w'.cell? ⟨gb213, 1, none⟩ = some (.int .i64 a0_1) ∧ w'.cell? ⟨gb213, 2, none⟩ = some (.int .i64 a0_2) ∧ w'.cell? ⟨gb213, 3, none⟩ = some (.slice A0_3 l0_3.length c0_3)) (ds := []) #[false, false, false, false, false] (by kernel_rfl) rfl rfl ⟨(blk_cell BK243.out 0).trans rfl, (blk_cell BK243.out 1).trans rfl, (blk_cell BK243.out 2).trans rfl, (blk_cell BK243.out 3).trans rfl, (blk_cell BK213.out 0).trans rfl, (blk_cell BK213.out 1).trans rfl, (blk_cell BK213.out 2).trans rfl, (blk_cell BK213.out 3).trans rfl⟩ (fun hHeld => ?_)
        generalize wc.drew = w111 at HO_237003 HO_244003 HO_251003 HO_259003 BK213 BK214 BK236 BK243 BK250 BK258 HB hHeld ⊢
        refine take_ (i := 0) (N := some 54) (v := ?_) (a' := ?_) #[true, false, false, false, false] rfl rfl (by kernel_rfl) (fun _ _ _ h => h) (Or.inl ⟨by rfl, ?_⟩) hHeld ?_ ?_
        rotate_left
        ·
         rintro w' ⟨s0, s1, s2, s3, s4, s5, s6, s7⟩
         go_simp
         with_reducible rfl
        rotate_left
        ·
         simp only [Act.put, List.setIfInBounds_toArray, List.set_cons_zero, List.set_cons_succ, i64_w, i32_w]
         rfl
        refine take_ (i := 1) (N := some 55) (v := ?_) (a' := ?_) #[true, true, false, false, false] rfl rfl (by kernel_rfl) (fun _ _ _ h => h) (Or.inl ⟨by rfl, ?_⟩) hHeld ?_ ?_
        rotate_left
        ·
         rintro w' ⟨s0, s1, s2, s3, s4, s5, s6, s7⟩
         go_simp
         with_reducible rfl
        rotate_left
        ·
         simp only [Act.put, List.setIfInBounds_toArray, List.set_cons_zero, List.set_cons_succ, i64_w, i32_w]
         rfl
        refine one_ (i := 2) (N := some 56) #[true, true, true, false, false] rfl rfl (by kernel_rfl) (by decide) (fun K hK => ?_)
        refine goes_ Try.func28 (by kernel_rfl) rfl #[.agg #[.int .i64 a0_0, .int .i64 a0_1, .int .i64 a0_2, .slice A0_3 l0_3.length c0_3]] (by rfl) rfl rfl zar ?_
        with_reducible refine (laws_toDigest.calls kj24 a0_0 a0_1 a0_2 _ _ l0_3 t260 t261 t262 t263 _ ?side1 ?side2 A102.out).mono ?_
        (case side1 => repeat (first | exact (Kd.C_below HR0_3.out HB.out) | (with_reducible refine Kd.C_alloc ?_ _) | (with_reducible refine Kd.C_drewN ?_ _) | (with_reducible refine Kd.C_drew ?_)))
        (case side2 => exact HC0_3.out)
        rintro e w112 ⟨v264, rfl, ho0, hb⟩
        refine ⟨_, rfl, ?_⟩
        have n0_ := Aside0.mk (Kd.R_elder' (zr HO_237003) (Kd.R_base ho0) hb)
        have n1_ := Aside0.mk (Kd.R_elder' (zr HO_244003) (Kd.R_base ho0) hb)
        have n2_ := Aside0.mk (Kd.R_elder' (zr HO_251003) (Kd.R_base ho0) hb)
        have n3_ := Aside0.mk (Kd.R_elder' (zr HO_259003) (Kd.R_base ho0) hb)
        have n4_ := Aside0.mk (Kd.R_lower (Kd.R_new' (Kd.R_new' (Kd.R_new' (Kd.R_new' ho0 (Kd.R_lt (zr HO_237003))) (Kd.R_lt (zr HO_244003))) (Kd.R_lt (zr HO_251003))) (Kd.R_lt (zr HO_259003))) (below_size (zg HB)))
        have n5_ := Aside0.mk (blk_below (zb BK213) hb)
        have n6_ := Aside0.mk (blk_below (zb BK214) hb)
        have n7_ := Aside0.mk (blk_below (zb BK236) hb)
        have n8_ := Aside0.mk (blk_below (zb BK243) hb)
        have n9_ := Aside0.mk (blk_below (zb BK250) hb)
        have n10_ := Aside0.mk (blk_below (zb BK258) hb)
        have n11_ := Aside0.mk (below_step (zg HB) hb)
        clear HO_237003
        clear HO_244003
        clear HO_251003
        clear HO_259003
        clear BK213
        clear BK214
        clear BK236
        clear BK243
        clear BK250
        clear BK258
        clear HB
        have HO_237003 := n0_
        have HO_244003 := n1_
        have HO_251003 := n2_
        have HO_259003 := n3_
        have HO265 := n4_
        have BK213 := n5_
        have BK214 := n6_
        have BK236 := n7_
        have BK243 := n8_
        have BK250 := n9_
        have BK258 := n10_
        have HB := n11_
        clear n0_ n1_ n2_ n3_ n4_ n5_ n6_ n7_ n8_ n9_ n10_ n11_
        (try clear hb)
        (try clear hb2)
        (try clear hk)
        (try clear hi)
        (try clear ho0)
        obtain ⟨Ao113, co113, eo113⟩ := Kd.R_slice HO265.out
        (first | subst eo113 | (injection eo113 with f1_ f2_ f3_; have f4_ := f1_.symm; have f5_ := f3_.symm; clear f1_ f2_ f3_; subst f4_; subst f5_))
        refine hK.out _ _ ⟨(blk_cell BK243.out 0).trans rfl, (blk_cell BK243.out 1).trans rfl, (blk_cell BK243.out 2).trans rfl, (blk_cell BK243.out 3).trans rfl, (blk_cell BK213.out 0).trans rfl, (blk_cell BK213.out 1).trans rfl, (blk_cell BK213.out 2).trans rfl, (blk_cell BK213.out 3).trans rfl⟩ (fun hHeld => ?_)
        clear hK K
        refine norm_ (a' := ?_) ?_ ?_
        rotate_left
        ·
         show Act.put _ (some 56) _ = _
         simp only [Act.put, List.setIfInBounds_toArray, List.set_cons_zero, List.set_cons_succ, i64_w, i32_w]
         rfl
        refine one_ (i := 3) (N := some 57) #[true, true, true, true, false] rfl rfl (by kernel_rfl) (by decide) (fun K hK => ?_)
        refine goes_ Try.func21 (by kernel_rfl) rfl #[.agg #[.int .i64 t237, .int .i64 t238, .int .i64 t239, .slice Ao54 t240.length co54], .agg #[.int .i64 t260, .int .i64 t261, .int .i64 t262, .slice Ao113 t263.length co113]] (by rfl) rfl rfl zar ?_
        with_reducible refine (laws_eqDigest.calls kj24 t237 t238 t239 _ _ t240 t260 t261 t262 _ _ t263 true _ ?side1 ?side2 ?side3 ?side4 A103.out).mono ?_
        (case side1 => repeat (first | exact (Kd.R_reads' HO_244003.out).2.2 | (with_reducible refine Kd.C_alloc ?_ _) | (with_reducible refine Kd.C_drewN ?_ _) | (with_reducible refine Kd.C_drew ?_)))
        (case side2 => exact (Kd.R_reads' HO_244003.out).2.1)
        (case side3 => repeat (first | exact (Kd.R_reads' HO265.out).2.2 | (with_reducible refine Kd.C_alloc ?_ _) | (with_reducible refine Kd.C_drewN ?_ _) | (with_reducible refine Kd.C_drew ?_)))
        (case side4 => exact (Kd.R_reads' HO265.out).2.1)
        rintro e w114 ⟨rfl, hb⟩
        refine ⟨_, rfl, ?_⟩
        have n0_ := Aside0.mk (Kd.R_below (zr HO_237003) hb)
        have n1_ := Aside0.mk (Kd.R_below (zr HO_244003) hb)
        have n2_ := Aside0.mk (Kd.R_below (zr HO_251003) hb)
        have n3_ := Aside0.mk (Kd.R_below (zr HO_259003) hb)
        have n4_ := Aside0.mk (Kd.R_below (zr HO265) hb)
        have n5_ := Aside0.mk (blk_below (zb BK213) hb)
        have n6_ := Aside0.mk (blk_below (zb BK214) hb)
        have n7_ := Aside0.mk (blk_below (zb BK236) hb)
        have n8_ := Aside0.mk (blk_below (zb BK243) hb)
        have n9_ := Aside0.mk (blk_below (zb BK250) hb)
        have n10_ := Aside0.mk (blk_below (zb BK258) hb)
        have n11_ := Aside0.mk (below_step (zg HB) hb)
        clear HO_237003
        clear HO_244003
        clear HO_251003
        clear HO_259003
        clear HO265
        clear BK213
        clear BK214
        clear BK236
        clear BK243
        clear BK250
        clear BK258
        clear HB
        have HO_237003 := n0_
        have HO_244003 := n1_
        have HO_251003 := n2_
        have HO_259003 := n3_
        have HO265 := n4_
        have BK213 := n5_
        have BK214 := n6_
        have BK236 := n7_
        have BK243 := n8_
        have BK250 := n9_
        have BK258 := n10_
        have HB := n11_
        clear n0_ n1_ n2_ n3_ n4_ n5_ n6_ n7_ n8_ n9_ n10_ n11_
        (try clear hb)
        (try clear hb2)
        (try clear hk)
        (try clear hi)
        refine hK.out _ _ ⟨(blk_cell BK243.out 0).trans rfl, (blk_cell BK243.out 1).trans rfl, (blk_cell BK243.out 2).trans rfl, (blk_cell BK243.out 3).trans rfl, (blk_cell BK213.out 0).trans rfl, (blk_cell BK213.out 1).trans rfl, (blk_cell BK213.out 2).trans rfl, (blk_cell BK213.out 3).trans rfl⟩ (fun hHeld => ?_)
        clear hK K
        refine norm_ (a' := ?_) ?_ ?_
        rotate_left
        ·
         show Act.put _ (some 57) _ = _
         simp only [Act.put, List.setIfInBounds_toArray, List.set_cons_zero, List.set_cons_succ, i64_w, i32_w]
         rfl
        refine pure_ (i := 4) (N := some 58) (v := ?_) (a' := ?_) #[true, true, true, true, true] rfl rfl (by kernel_rfl) (fun _ _ _ h => h) (Or.inl ⟨by rfl, ?_⟩) ?_ ?_
        rotate_left
        ·
         intro w'
         go_simp
         with_reducible rfl
        rotate_left
        ·
         simp only [Act.put, List.setIfInBounds_toArray, List.set_cons_zero, List.set_cons_succ, i64_w, i32_w]
         rfl
        refine done_ (by kernel_rfl) ?_
        try go_wp2
        have n0_ := Aside0.mk (Kd.R_drew HO_237003.out)
        have n1_ := Aside0.mk (Kd.R_drew HO_244003.out)
        have n2_ := Aside0.mk (Kd.R_drew HO_251003.out)
        have n3_ := Aside0.mk (Kd.R_drew HO_259003.out)
        have n4_ := Aside0.mk (Kd.R_drew HO265.out)
        have n5_ := Aside0.mk (blk_drew BK213.out)
        have n6_ := Aside0.mk (blk_drew BK214.out)
        have n7_ := Aside0.mk (blk_drew BK236.out)
        have n8_ := Aside0.mk (blk_drew BK243.out)
        have n9_ := Aside0.mk (blk_drew BK250.out)
        have n10_ := Aside0.mk (blk_drew BK258.out)
        have n11_ := Aside0.mk (below_drew1 HB.out)
        clear HO_237003
        clear HO_244003
        clear HO_251003
        clear HO_259003
        clear HO265
        clear BK213
        clear BK214
        clear BK236
        clear BK243
        clear BK250
        clear BK258
        clear HB
        have HO_237003 := n0_
        have HO_244003 := n1_
        have HO_251003 := n2_
        have HO_259003 := n3_
        have HO265 := n4_
        have BK213 := n5_
        have BK214 := n6_
        have BK236 := n7_
        have BK243 := n8_
        have BK250 := n9_
        have BK258 := n10_
        have HB := n11_
        clear n0_ n1_ n2_ n3_ n4_ n5_ n6_ n7_ n8_ n9_ n10_ n11_
        refine start_ (n := 5) (S := fun w' => w'.cell? ⟨gb250, 0, none⟩ = some (.int .i64 t244) ∧ w'.cell? ⟨gb250, 1, none⟩ = some (.int .i64 t245) ∧ w'.cell? ⟨gb250, 2, none⟩ = some (.int .i64 t246) ∧ w'.cell? ⟨gb250, 3, none⟩ = some (.slice Ao64 t247.length co64) ∧ w'.cell? ⟨gb214, 0, none⟩ = some (.int .i64 a1_0) ∧ w'.cell? ⟨gb214, 1, none⟩ = some (.int .i64 a1_1) ∧ w'.cell? ⟨gb214, 2, none⟩ = some (.int .i64 a1_2) ∧ w'.cell? ⟨gb214, 3, none⟩ = some (.slice A1_3 l1_3.length c1_3)) (ds := []) #[false, false, false, false, false] (by kernel_rfl) rfl rfl ⟨(blk_cell BK250.out 0).trans rfl, (blk_cell BK250.out 1).trans rfl, (blk_cell BK250.out 2).trans rfl, (blk_cell BK250.out 3).trans rfl, (blk_cell BK214.out 0).trans rfl, (blk_cell BK214.out 1).trans rfl, (blk_cell BK214.out 2).trans rfl, (blk_cell BK214.out 3).trans rfl⟩ (fun hHeld => ?_)
        generalize w114.drew = w115 at HO_237003 HO_244003 HO_251003 HO_259003 HO265 BK213 BK214 BK236 BK243 BK250 BK258 HB hHeld ⊢
        refine take_ (i := 0) (N := some 59) (v := ?_) (a' := ?_) #[true, false, false, false, false] rfl rfl (by kernel_rfl) (fun _ _ _ h => h) (Or.inl ⟨by rfl, ?_⟩) hHeld ?_ ?_
        rotate_left
        ·
         rintro w' ⟨s0, s1, s2, s3, s4, s5, s6, s7⟩
         go_simp
         with_reducible rfl
        rotate_left
        ·
         simp only [Act.put, List.setIfInBounds_toArray, List.set_cons_zero, List.set_cons_succ, i64_w, i32_w]
         rfl
        refine take_ (i := 1) (N := some 60) (v := ?_) (a' := ?_) #[true, true, false, false, false] rfl rfl (by kernel_rfl) (fun _ _ _ h => h) (Or.inl ⟨by rfl, ?_⟩) hHeld ?_ ?_
        rotate_left
        ·
         rintro w' ⟨s0, s1, s2, s3, s4, s5, s6, s7⟩
         go_simp
         with_reducible rfl
        rotate_left
        ·
         simp only [Act.put, List.setIfInBounds_toArray, List.set_cons_zero, List.set_cons_succ, i64_w, i32_w]
         rfl
        refine one_ (i := 2) (N := some 61) #[true, true, true, false, false] rfl rfl (by kernel_rfl) (by decide) (fun K hK => ?_)
        refine goes_ Try.func28 (by kernel_rfl) rfl #[.agg #[.int .i64 a1_0, .int .i64 a1_1, .int .i64 a1_2, .slice A1_3 l1_3.length c1_3]] (by rfl) rfl rfl zar ?_
        with_reducible refine (laws_toDigest.calls kj24 a1_0 a1_1 a1_2 _ _ l1_3 t267 t268 t269 t270 _ ?side1 ?side2 A105.out).mono ?_
        (case side1 => repeat (first | exact (Kd.C_below HR1_3.out HB.out) | (with_reducible refine Kd.C_alloc ?_ _) | (with_reducible refine Kd.C_drewN ?_ _) | (with_reducible refine Kd.C_drew ?_)))
        (case side2 => exact HC1_3.out)
        rintro e w116 ⟨v271, rfl, ho0, hb⟩
        refine ⟨_, rfl, ?_⟩
        have n0_ := Aside0.mk (Kd.R_elder' (zr HO_237003) (Kd.R_base ho0) hb)
        have n1_ := Aside0.mk (Kd.R_elder' (zr HO_244003) (Kd.R_base ho0) hb)
        have n2_ := Aside0.mk (Kd.R_elder' (zr HO_251003) (Kd.R_base ho0) hb)
        have n3_ := Aside0.mk (Kd.R_elder' (zr HO_259003) (Kd.R_base ho0) hb)
        have n4_ := Aside0.mk (Kd.R_elder' (zr HO265) (Kd.R_base ho0) hb)
        have n5_ := Aside0.mk (Kd.R_lower (Kd.R_new' (Kd.R_new' (Kd.R_new' (Kd.R_new' (Kd.R_new' ho0 (Kd.R_lt (zr HO_237003))) (Kd.R_lt (zr HO_244003))) (Kd.R_lt (zr HO_251003))) (Kd.R_lt (zr HO_259003))) (Kd.R_lt (zr HO265))) (below_size (zg HB)))
        have n6_ := Aside0.mk (blk_below (zb BK213) hb)
        have n7_ := Aside0.mk (blk_below (zb BK214) hb)
        have n8_ := Aside0.mk (blk_below (zb BK236) hb)
        have n9_ := Aside0.mk (blk_below (zb BK243) hb)
        have n10_ := Aside0.mk (blk_below (zb BK250) hb)
        have n11_ := Aside0.mk (blk_below (zb BK258) hb)
        have n12_ := Aside0.mk (below_step (zg HB) hb)
        clear HO_237003
        clear HO_244003
        clear HO_251003
        clear HO_259003
        clear HO265
        clear BK213
        clear BK214
        clear BK236
        clear BK243
        clear BK250
        clear BK258
        clear HB
        have HO_237003 := n0_
        have HO_244003 := n1_
        have HO_251003 := n2_
        have HO_259003 := n3_
        have HO265 := n4_
        have HO272 := n5_
        have BK213 := n6_
        have BK214 := n7_
        have BK236 := n8_
        have BK243 := n9_
        have BK250 := n10_
        have BK258 := n11_
        have HB := n12_
        clear n0_ n1_ n2_ n3_ n4_ n5_ n6_ n7_ n8_ n9_ n10_ n11_ n12_
        (try clear hb)
        (try clear hb2)
        (try clear hk)
        (try clear hi)
        (try clear ho0)
        obtain ⟨Ao117, co117, eo117⟩ := Kd.R_slice HO272.out
        (first | subst eo117 | (injection eo117 with f1_ f2_ f3_; have f4_ := f1_.symm; have f5_ := f3_.symm; clear f1_ f2_ f3_; subst f4_; subst f5_))
        refine hK.out _ _ ⟨(blk_cell BK250.out 0).trans rfl, (blk_cell BK250.out 1).trans rfl, (blk_cell BK250.out 2).trans rfl, (blk_cell BK250.out 3).trans rfl, (blk_cell BK214.out 0).trans rfl, (blk_cell BK214.out 1).trans rfl, (blk_cell BK214.out 2).trans rfl, (blk_cell BK214.out 3).trans rfl⟩ (fun hHeld => ?_)
        clear hK K
        refine norm_ (a' := ?_) ?_ ?_
        rotate_left
        ·
         show Act.put _ (some 61) _ = _
         simp only [Act.put, List.setIfInBounds_toArray, List.set_cons_zero, List.set_cons_succ, i64_w, i32_w]
         rfl
        refine one_ (i := 3) (N := some 62) #[true, true, true, true, false] rfl rfl (by kernel_rfl) (by decide) (fun K hK => ?_)
        refine goes_ Try.func21 (by kernel_rfl) rfl #[.agg #[.int .i64 t244, .int .i64 t245, .int .i64 t246, .slice Ao64 t247.length co64], .agg #[.int .i64 t267, .int .i64 t268, .int .i64 t269, .slice Ao117 t270.length co117]] (by rfl) rfl rfl zar ?_
        with_reducible refine (laws_eqDigest.calls kj24 t244 t245 t246 _ _ t247 t267 t268 t269 _ _ t270 true _ ?side1 ?side2 ?side3 ?side4 A106.out).mono ?_
        (case side1 => repeat (first | exact (Kd.R_reads' HO_251003.out).2.2 | (with_reducible refine Kd.C_alloc ?_ _) | (with_reducible refine Kd.C_drewN ?_ _) | (with_reducible refine Kd.C_drew ?_)))
        (case side2 => exact (Kd.R_reads' HO_251003.out).2.1)
        (case side3 => repeat (first | exact (Kd.R_reads' HO272.out).2.2 | (with_reducible refine Kd.C_alloc ?_ _) | (with_reducible refine Kd.C_drewN ?_ _) | (with_reducible refine Kd.C_drew ?_)))
        (case side4 => exact (Kd.R_reads' HO272.out).2.1)
        rintro e w118 ⟨rfl, hb⟩
        refine ⟨_, rfl, ?_⟩
        have n0_ := Aside0.mk (Kd.R_below (zr HO_237003) hb)
        have n1_ := Aside0.mk (Kd.R_below (zr HO_244003) hb)
        have n2_ := Aside0.mk (Kd.R_below (zr HO_251003) hb)
        have n3_ := Aside0.mk (Kd.R_below (zr HO_259003) hb)
        have n4_ := Aside0.mk (Kd.R_below (zr HO265) hb)
        have n5_ := Aside0.mk (Kd.R_below (zr HO272) hb)
        have n6_ := Aside0.mk (blk_below (zb BK213) hb)
        have n7_ := Aside0.mk (blk_below (zb BK214) hb)
        have n8_ := Aside0.mk (blk_below (zb BK236) hb)
        have n9_ := Aside0.mk (blk_below (zb BK243) hb)
        have n10_ := Aside0.mk (blk_below (zb BK250) hb)
        have n11_ := Aside0.mk (blk_below (zb BK258) hb)
        have n12_ := Aside0.mk (below_step (zg HB) hb)
        clear HO_237003
        clear HO_244003
        clear HO_251003
        clear HO_259003
        clear HO265
        clear HO272
        clear BK213
        clear BK214
        clear BK236
        clear BK243
        clear BK250
        clear BK258
        clear HB
        have HO_237003 := n0_
        have HO_244003 := n1_
        have HO_251003 := n2_
        have HO_259003 := n3_
        have HO265 := n4_
        have HO272 := n5_
        have BK213 := n6_
        have BK214 := n7_
        have BK236 := n8_
        have BK243 := n9_
        have BK250 := n10_
        have BK258 := n11_
        have HB := n12_
        clear n0_ n1_ n2_ n3_ n4_ n5_ n6_ n7_ n8_ n9_ n10_ n11_ n12_
        (try clear hb)
        (try clear hb2)
        (try clear hk)
        (try clear hi)
        refine hK.out _ _ ⟨(blk_cell BK250.out 0).trans rfl, (blk_cell BK250.out 1).trans rfl, (blk_cell BK250.out 2).trans rfl, (blk_cell BK250.out 3).trans rfl, (blk_cell BK214.out 0).trans rfl, (blk_cell BK214.out 1).trans rfl, (blk_cell BK214.out 2).trans rfl, (blk_cell BK214.out 3).trans rfl⟩ (fun hHeld => ?_)
        clear hK K
        refine norm_ (a' := ?_) ?_ ?_
        rotate_left
        ·
         show Act.put _ (some 62) _ = _
         simp only [Act.put, List.setIfInBounds_toArray, List.set_cons_zero, List.set_cons_succ, i64_w, i32_w]
         rfl
        refine pure_ (i := 4) (N := some 63) (v := ?_) (a' := ?_) #[true, true, true, true, true] rfl rfl (by kernel_rfl) (fun _ _ _ h => h) (Or.inl ⟨by rfl, ?_⟩) ?_ ?_
        rotate_left
        ·
         intro w'
         go_simp
         with_reducible rfl
        rotate_left
        ·
         simp only [Act.put, List.setIfInBounds_toArray, List.set_cons_zero, List.set_cons_succ, i64_w, i32_w]
         rfl
        refine done_ (by kernel_rfl) ?_
        have hnb119 := NB243_213.out
        have hnc119 := NB213_243.out
        have hnb120 := NB243_214.out
        have hnc120 := NB214_243.out
        have hnb121 := NB243_236.out
        have hnc121 := NB236_243.out
        have hnb122 := NB243_250.out
        have hnc122 := NB250_243.out
        have hnb123 := NB243_258.out
        have hnc123 := NB258_243.out
        have hcz124_0 : w118.cell? ⟨gb243, 0, none⟩ = some (.int .i64 t237) := (blk_cell BK243.out 0).trans rfl
        have hcz124_1 : w118.cell? ⟨gb243, 1, none⟩ = some (.int .i64 t238) := (blk_cell BK243.out 1).trans rfl
        have hcz124_2 : w118.cell? ⟨gb243, 2, none⟩ = some (.int .i64 t239) := (blk_cell BK243.out 2).trans rfl
        have hcz124_3 : w118.cell? ⟨gb243, 3, none⟩ = some (.slice Ao54 t240.length co54) := (blk_cell BK243.out 3).trans rfl
        have hfz124_0 := blk_frozen BK243.out 0
        have hfz124_1 := blk_frozen BK243.out 1
        have hfz124_2 := blk_frozen BK243.out 2
        have hfz124_3 := blk_frozen BK243.out 3
        go_upto_region 21 with (first | ((with_reducible refine gate_callee (f := 24) rfl ?_); refine goesL_ (some 66) rfl rfl Try.func24 (by kernel_rfl) rfl #[.agg #[.int .i64 t237, .int .i64 t238, .int .i64 t239, .slice Ao54 t240.length co54], .int .i64 1] rfl zar ?_; (with_reducible refine (laws_markDigest.calls kj24 t237 t238 t239 (fun k_ => some k_ = (.slice Ao54 t240.length co54 : Value).ownBlock) (.slice Ao54 t240.length co54) t240 1 t274 t275 w _ ?side1 ?side2 A108.out).mono ?_); (case side1 => repeat (first | (with_reducible first | exact HB.out | apply zwA | apply zwN | apply zwD | refine below_set ?_ GE213.out | refine below_set ?_ GE214.out | refine below_set ?_ GE236.out | refine below_set ?_ GE243.out | refine below_set ?_ GE250.out | refine below_set ?_ GE258.out) | exact HB.out)); (case side2 => exact Kd.R_tight rfl HO_244003.out); rintro e w125 ⟨rfl, hy0, hb, hkp⟩; refine ⟨_, rfl, ?_⟩; have n0_ := Aside0.mk (Kd.R_mono (ok' := fun k_ => some k_ ≠ (.slice Ao54 t240.length co54 : Value).ownBlock ∧ some k_ ≠ (.slice Ao64 t247.length co64 : Value).ownBlock ∧ some k_ ≠ (.slice Ao74 t254.length co74 : Value).ownBlock ∧ some k_ ≠ (.slice Ao113 t263.length co113 : Value).ownBlock ∧ some k_ ≠ (.slice Ao117 t270.length co117 : Value).ownBlock) (Kd.R_keptB (HO_237003.out) hkp (fun k_ hk_ hs_ => (hk_.1.1.1) hs_)) (fun k_ hk_ => ⟨hk_.1.1.1.1, hk_.1.1.1.2.1, hk_.1.1.1.2.2, hk_.1.1.2, hk_.1.2⟩)); have n1_ := Aside0.mk (Kd.R_reok rfl hy0 (fun k_ e_ => HO_244003.out.1 k_ e_)); have n2_ := Aside0.mk (Kd.R_mono (ok' := fun k_ => some k_ ≠ (.slice Ao44 t232.length co44 : Value).ownBlock ∧ some k_ ≠ (.slice Ao54 t240.length co54 : Value).ownBlock ∧ some k_ ≠ (.slice Ao74 t254.length co74 : Value).ownBlock ∧ some k_ ≠ (.slice Ao113 t263.length co113 : Value).ownBlock ∧ some k_ ≠ (.slice Ao117 t270.length co117 : Value).ownBlock) (Kd.R_keptB (HO_251003.out) hkp (fun k_ hk_ hs_ => (hk_.1.1.2.1) hs_)) (fun k_ hk_ => ⟨hk_.1.1.1.1, hk_.1.1.1.2.1, hk_.1.1.1.2.2, hk_.1.1.2, hk_.1.2⟩)); have n3_ := Aside0.mk (Kd.R_mono (ok' := fun k_ => some k_ ≠ (.slice Ao44 t232.length co44 : Value).ownBlock ∧ some k_ ≠ (.slice Ao54 t240.length co54 : Value).ownBlock ∧ some k_ ≠ (.slice Ao64 t247.length co64 : Value).ownBlock ∧ some k_ ≠ (.slice Ao113 t263.length co113 : Value).ownBlock ∧ some k_ ≠ (.slice Ao117 t270.length co117 : Value).ownBlock) (Kd.R_keptB (HO_259003.out) hkp (fun k_ hk_ hs_ => (hk_.1.1.2.1) hs_)) (fun k_ hk_ => ⟨hk_.1.1.1.1, hk_.1.1.1.2.1, hk_.1.1.1.2.2, hk_.1.1.2, hk_.1.2⟩)); have n4_ := Aside0.mk (blk_kept (zb BK213) hkp (fun hs_ => (fun e_ => (Kd.R_ne HO_244003.out BK213.out (by decide)) e_) hs_)); have n5_ := Aside0.mk (blk_kept (zb BK214) hkp (fun hs_ => (fun e_ => (Kd.R_ne HO_244003.out BK214.out (by decide)) e_) hs_)); have n6_ := Aside0.mk (blk_kept (zb BK236) hkp (fun hs_ => (fun e_ => (Kd.R_ne HO_244003.out BK236.out (by decide)) e_) hs_)); have n7_ := Aside0.mk (blk_kept (zb BK243) hkp (fun hs_ => (fun e_ => (Kd.R_ne HO_244003.out BK243.out (by decide)) e_) hs_)); have n8_ := Aside0.mk (blk_kept (zb BK250) hkp (fun hs_ => (fun e_ => (Kd.R_ne HO_244003.out BK250.out (by decide)) e_) hs_)); have n9_ := Aside0.mk (blk_kept (zb BK258) hkp (fun hs_ => (fun e_ => (Kd.R_ne HO_244003.out BK258.out (by decide)) e_) hs_)); have n10_ := Aside0.mk (Kd.R_mono (ok' := fun k_ => some k_ ≠ (.slice Ao44 t232.length co44 : Value).ownBlock ∧ some k_ ≠ (.slice Ao54 t240.length co54 : Value).ownBlock ∧ some k_ ≠ (.slice Ao64 t247.length co64 : Value).ownBlock ∧ some k_ ≠ (.slice Ao74 t254.length co74 : Value).ownBlock ∧ some k_ ≠ (.slice Ao117 t270.length co117 : Value).ownBlock) (Kd.R_keptB (HO265.out) hkp (fun k_ hk_ hs_ => (hk_.1.1.1.2) hs_)) (fun k_ hk_ => ⟨hk_.1.1.1.1.1.2, hk_.1.1.1.1.2, hk_.1.1.1.2, hk_.1.1.2, hk_.1.2⟩)); have n11_ := Aside0.mk (Kd.R_mono (ok' := fun k_ => some k_ ≠ (.slice Ao44 t232.length co44 : Value).ownBlock ∧ some k_ ≠ (.slice Ao54 t240.length co54 : Value).ownBlock ∧ some k_ ≠ (.slice Ao64 t247.length co64 : Value).ownBlock ∧ some k_ ≠ (.slice Ao74 t254.length co74 : Value).ownBlock ∧ some k_ ≠ (.slice Ao113 t263.length co113 : Value).ownBlock) (Kd.R_keptB (HO272.out) hkp (fun k_ hk_ hs_ => (hk_.1.1.1.2) hs_)) (fun k_ hk_ => ⟨hk_.1.1.1.1.1.2, hk_.1.1.1.1.2, hk_.1.1.1.2, hk_.1.1.2, hk_.1.2⟩)); have n12_ := Aside0.mk (hb); clear HO_237003; clear HO_244003; clear HO_251003; clear HO_259003; clear BK213; clear BK214; clear BK236; clear BK243; clear BK250; clear BK258; clear HO265; clear HO272; clear HB; have HO_237003 := n0_; have HO_244003 := n1_; have HO_251003 := n2_; have HO_259003 := n3_; have BK213 := n4_; have BK214 := n5_; have BK236 := n6_; have BK243 := n7_; have BK250 := n8_; have BK258 := n9_; have HO265 := n10_; have HO272 := n11_; have HB := n12_; clear n0_ n1_ n2_ n3_ n4_ n5_ n6_ n7_ n8_ n9_ n10_ n11_ n12_; (try clear hb); (try clear hkp); (try clear hy0); have hnb126 := NB250_213.out; have hnc126 := NB213_250.out; have hnb127 := NB250_214.out; have hnc127 := NB214_250.out; have hnb128 := NB250_236.out; have hnc128 := NB236_250.out; have hnb129 := NB250_258.out; have hnc129 := NB258_250.out; have hcz130_0 : w125.cell? ⟨gb250, 0, none⟩ = some (.int .i64 t244) := (blk_cell BK250.out 0).trans rfl; have hcz130_1 : w125.cell? ⟨gb250, 1, none⟩ = some (.int .i64 t245) := (blk_cell BK250.out 1).trans rfl; have hcz130_2 : w125.cell? ⟨gb250, 2, none⟩ = some (.int .i64 t246) := (blk_cell BK250.out 2).trans rfl; have hcz130_3 : w125.cell? ⟨gb250, 3, none⟩ = some (.slice Ao64 t247.length co64) := (blk_cell BK250.out 3).trans rfl; have hfz130_0 := blk_frozen BK250.out 0; have hfz130_1 := blk_frozen BK250.out 1; have hfz130_2 := blk_frozen BK250.out 2; have hfz130_3 := blk_frozen BK250.out 3) | ((with_reducible refine gate_callee (f := 24) rfl ?_); refine goesL_ (some 69) rfl rfl Try.func24 (by kernel_rfl) rfl #[.agg #[.int .i64 t244, .int .i64 t245, .int .i64 t246, .slice Ao64 t247.length co64], .int .i64 t274] rfl zar ?_; (with_reducible refine (laws_markDigest.calls kj24 t244 t245 t246 (fun k_ => some k_ = (.slice Ao64 t247.length co64 : Value).ownBlock) (.slice Ao64 t247.length co64) t247 t274 t276 t277 w _ ?side1 ?side2 A109.out).mono ?_); (case side1 => repeat (first | (with_reducible first | exact HB.out | apply zwA | apply zwN | apply zwD | refine below_set ?_ GE213.out | refine below_set ?_ GE214.out | refine below_set ?_ GE236.out | refine below_set ?_ GE243.out | refine below_set ?_ GE250.out | refine below_set ?_ GE258.out) | exact HB.out)); (case side2 => exact Kd.R_tight rfl HO_251003.out); rintro e w131 ⟨rfl, hy0, hb, hkp⟩; refine ⟨_, rfl, ?_⟩; have n0_ := Aside0.mk (Kd.R_mono (ok' := fun k_ => some k_ ≠ (.slice Ao54 t240.length co54 : Value).ownBlock ∧ some k_ ≠ (.slice Ao64 t247.length co64 : Value).ownBlock ∧ some k_ ≠ (.slice Ao74 t254.length co74 : Value).ownBlock ∧ some k_ ≠ (.slice Ao113 t263.length co113 : Value).ownBlock ∧ some k_ ≠ (.slice Ao117 t270.length co117 : Value).ownBlock) (Kd.R_keptB (HO_237003.out) hkp (fun k_ hk_ hs_ => (hk_.2.1) hs_)) (fun k_ hk_ => ⟨hk_.1.1, hk_.1.2.1, hk_.1.2.2.1, hk_.1.2.2.2.1, hk_.1.2.2.2.2⟩)); have n1_ := Aside0.mk (Kd.R_mono (ok' := fun k_ => some k_ ≠ (.slice Ao44 t232.length co44 : Value).ownBlock ∧ some k_ ≠ (.slice Ao64 t247.length co64 : Value).ownBlock ∧ some k_ ≠ (.slice Ao74 t254.length co74 : Value).ownBlock ∧ some k_ ≠ (.slice Ao113 t263.length co113 : Value).ownBlock ∧ some k_ ≠ (.slice Ao117 t270.length co117 : Value).ownBlock) (Kd.R_keptB (HO_244003.out) hkp (fun k_ hk_ hs_ => (hk_.1.1.2.1) hs_)) (fun k_ hk_ => ⟨hk_.1.1.1.1, hk_.1.1.1.2.1, hk_.1.1.1.2.2, hk_.1.1.2, hk_.1.2⟩)); have n2_ := Aside0.mk (Kd.R_reok rfl hy0 (fun k_ e_ => HO_251003.out.1 k_ e_)); have n3_ := Aside0.mk (Kd.R_mono (ok' := fun k_ => some k_ ≠ (.slice Ao44 t232.length co44 : Value).ownBlock ∧ some k_ ≠ (.slice Ao54 t240.length co54 : Value).ownBlock ∧ some k_ ≠ (.slice Ao64 t247.length co64 : Value).ownBlock ∧ some k_ ≠ (.slice Ao113 t263.length co113 : Value).ownBlock ∧ some k_ ≠ (.slice Ao117 t270.length co117 : Value).ownBlock) (Kd.R_keptB (HO_259003.out) hkp (fun k_ hk_ hs_ => (hk_.2.2.1) hs_)) (fun k_ hk_ => ⟨hk_.1.1, hk_.1.2.1, hk_.1.2.2.1, hk_.1.2.2.2.1, hk_.1.2.2.2.2⟩)); have n4_ := Aside0.mk (blk_kept (zb BK213) hkp (fun hs_ => (fun e_ => (Kd.R_ne HO_251003.out BK213.out (by decide)) e_) hs_)); have n5_ := Aside0.mk (blk_kept (zb BK214) hkp (fun hs_ => (fun e_ => (Kd.R_ne HO_251003.out BK214.out (by decide)) e_) hs_)); have n6_ := Aside0.mk (blk_kept (zb BK236) hkp (fun hs_ => (fun e_ => (Kd.R_ne HO_251003.out BK236.out (by decide)) e_) hs_)); have n7_ := Aside0.mk (blk_kept (zb BK243) hkp (fun hs_ => (fun e_ => (Kd.R_ne HO_251003.out BK243.out (by decide)) e_) hs_)); have n8_ := Aside0.mk (blk_kept (zb BK250) hkp (fun hs_ => (fun e_ => (Kd.R_ne HO_251003.out BK250.out (by decide)) e_) hs_)); have n9_ := Aside0.mk (blk_kept (zb BK258) hkp (fun hs_ => (fun e_ => (Kd.R_ne HO_251003.out BK258.out (by decide)) e_) hs_)); have n10_ := Aside0.mk (Kd.R_mono (ok' := fun k_ => some k_ ≠ (.slice Ao44 t232.length co44 : Value).ownBlock ∧ some k_ ≠ (.slice Ao54 t240.length co54 : Value).ownBlock ∧ some k_ ≠ (.slice Ao64 t247.length co64 : Value).ownBlock ∧ some k_ ≠ (.slice Ao74 t254.length co74 : Value).ownBlock ∧ some k_ ≠ (.slice Ao117 t270.length co117 : Value).ownBlock) (Kd.R_keptB (HO265.out) hkp (fun k_ hk_ hs_ => (hk_.2.2.1) hs_)) (fun k_ hk_ => ⟨hk_.1.1, hk_.1.2.1, hk_.1.2.2.1, hk_.1.2.2.2.1, hk_.1.2.2.2.2⟩)); have n11_ := Aside0.mk (Kd.R_mono (ok' := fun k_ => some k_ ≠ (.slice Ao44 t232.length co44 : Value).ownBlock ∧ some k_ ≠ (.slice Ao54 t240.length co54 : Value).ownBlock ∧ some k_ ≠ (.slice Ao64 t247.length co64 : Value).ownBlock ∧ some k_ ≠ (.slice Ao74 t254.length co74 : Value).ownBlock ∧ some k_ ≠ (.slice Ao113 t263.length co113 : Value).ownBlock) (Kd.R_keptB (HO272.out) hkp (fun k_ hk_ hs_ => (hk_.2.2.1) hs_)) (fun k_ hk_ => ⟨hk_.1.1, hk_.1.2.1, hk_.1.2.2.1, hk_.1.2.2.2.1, hk_.1.2.2.2.2⟩)); have n12_ := Aside0.mk (hb); clear HO_237003; clear HO_244003; clear HO_251003; clear HO_259003; clear BK213; clear BK214; clear BK236; clear BK243; clear BK250; clear BK258; clear HO265; clear HO272; clear HB; have HO_237003 := n0_; have HO_244003 := n1_; have HO_251003 := n2_; have HO_259003 := n3_; have BK213 := n4_; have BK214 := n5_; have BK236 := n6_; have BK243 := n7_; have BK250 := n8_; have BK258 := n9_; have HO265 := n10_; have HO272 := n11_; have HB := n12_; clear n0_ n1_ n2_ n3_ n4_ n5_ n6_ n7_ n8_ n9_ n10_ n11_ n12_; (try clear hb); (try clear hkp); (try clear hy0)))
        (try simp only [Act.put, List.setIfInBounds_toArray, List.set_cons_zero, List.set_cons_succ])
        go_cut [82] (fun v82 wc => ∃ (kq : Nat) (x82_109 : Bool), v82 = .bool x82_109 ∧ Aside0 (laws_FnExactDigestJoin.j1 kq t235 x82_109 a0_0 a0_1 a0_2 l0_3 a1_0 a1_1 a1_2 l1_3 t229 t230 t231 t232 t251 t252 t253 t254 = some r) ∧ Aside0 (kq ≤ kj24) ∧ Aside0 (Kd.R (Kd.int .i64) 3 wc w.heap.size (fun k_ => some k_ ≠ ((.slice Ao54 t240.length co54) : Value).ownBlock ∧ some k_ ≠ ((.slice Ao64 t247.length co64) : Value).ownBlock ∧ some k_ ≠ ((.slice Ao74 t254.length co74) : Value).ownBlock) (.slice Ao44 t232.length co44) t232) ∧ Aside0 (Kd.R (Kd.int .i64) 3 wc w.heap.size (fun k_ => some k_ ≠ ((.slice Ao44 t232.length co44) : Value).ownBlock ∧ some k_ ≠ ((.slice Ao64 t247.length co64) : Value).ownBlock ∧ some k_ ≠ ((.slice Ao74 t254.length co74) : Value).ownBlock) (.slice Ao54 t240.length co54) t275) ∧ Aside0 (Kd.R (Kd.int .i64) 3 wc w.heap.size (fun k_ => some k_ ≠ ((.slice Ao44 t232.length co44) : Value).ownBlock ∧ some k_ ≠ ((.slice Ao54 t240.length co54) : Value).ownBlock ∧ some k_ ≠ ((.slice Ao74 t254.length co74) : Value).ownBlock) (.slice Ao64 t247.length co64) t277) ∧ Aside0 (Kd.R (Kd.int .i64) 3 wc w.heap.size (fun k_ => some k_ ≠ ((.slice Ao44 t232.length co44) : Value).ownBlock ∧ some k_ ≠ ((.slice Ao54 t240.length co54) : Value).ownBlock ∧ some k_ ≠ ((.slice Ao64 t247.length co64) : Value).ownBlock) (.slice Ao74 t254.length co74) t254) ∧ Aside0 (wc.heap[gb213]? = some (.cells #[.int .i64 a0_0, .int .i64 a0_1, .int .i64 a0_2, (.slice A0_3 l0_3.length c0_3)] 46 (0, 0))) ∧ Aside0 (wc.heap[gb214]? = some (.cells #[.int .i64 a1_0, .int .i64 a1_1, .int .i64 a1_2, (.slice A1_3 l1_3.length c1_3)] 46 (0, 0))) ∧ Aside0 (wc.heap[gb236]? = some (.cells #[.int .i64 t229, .int .i64 t230, .int .i64 t231, (.slice Ao44 t232.length co44)] 37 (0, 0))) ∧ Aside0 (wc.heap[gb243]? = some (.cells #[.int .i64 t237, .int .i64 t238, .int .i64 t239, (.slice Ao54 t240.length co54)] 37 (0, 0))) ∧ Aside0 (wc.heap[gb250]? = some (.cells #[.int .i64 t244, .int .i64 t245, .int .i64 t246, (.slice Ao64 t247.length co64)] 37 (0, 0))) ∧ Aside0 (wc.heap[gb258]? = some (.cells #[.int .i64 t251, .int .i64 t252, .int .i64 t253, (.slice Ao74 t254.length co74)] 37 (0, 0))) ∧ Aside0 (Below w.heap.size w wc))
        case first =>
         have H := HC110.out
         clear HC110
         by_cases c132 : t276 < 0
         ·
          rw [if_pos c132] at H
          have c132b0 : decide (t276 < 0) = true := decide_eq_true c132
          clear c132
          (first | rw [c132b0] | (simp only [i64_w, i32_w]; rw [c132b0]) | skip)
          have H' := Aside0.mk H
          clear H
          go_wp2
          go_meet
          case rel => exact ⟨_, (true), (by first | rfl | (simp; done) | (simp [*]; done)), H', ⟨by have := HJ24.out; first | omega | exact Nat.le_refl _⟩, ⟨Kd.R_mono (zr HO_237003) (fun _ hk => ⟨hk.1, ⟨hk.2.1, hk.2.2.1⟩⟩)⟩, ⟨Kd.R_mono (zr HO_244003) (fun _ hk => ⟨hk.1, ⟨hk.2.1, hk.2.2.1⟩⟩)⟩, ⟨Kd.R_mono (zr HO_251003) (fun _ hk => ⟨hk.1, ⟨hk.2.1, hk.2.2.1⟩⟩)⟩, ⟨Kd.R_mono (zr HO_259003) (fun _ hk => ⟨hk.1, ⟨hk.2.1, hk.2.2.1⟩⟩)⟩, ⟨zb BK213⟩, ⟨zb BK214⟩, ⟨zb BK236⟩, ⟨zb BK243⟩, ⟨zb BK250⟩, ⟨zb BK258⟩, ⟨zg HB⟩⟩
         ·
          rw [if_neg c132] at H
          have c132b0 : decide (t276 < 0) = false := decide_eq_false c132
          clear c132
          (first | rw [c132b0] | (simp only [i64_w, i32_w]; rw [c132b0]) | skip)
          replace H := Option.bind_eq_some_iff.mp H
          obtain ⟨t278, A1330, H⟩ := H
          replace H : (if t278 = true then (laws_FnExactDigestJoin.j1 kj24 t235 (t257 != t235) a0_0 a0_1 a0_2 l0_3 a1_0 a1_1 a1_2 l1_3 t229 t230 t231 t232 t251 t252 t253 t254) else (laws_FnExactDigestJoin.j1 kj24 t235 true a0_0 a0_1 a0_2 l0_3 a1_0 a1_1 a1_2 l1_3 t229 t230 t231 t232 t251 t252 t253 t254)) = some r := H
          have A133 := Aside0.mk A1330
          clear A1330
          by_cases c134 : t278 = true
          ·
           subst c134
           have H1 : (laws_FnExactDigestJoin.j1 kj24 t235 (t257 != t235) a0_0 a0_1 a0_2 l0_3 a1_0 a1_1 a1_2 l1_3 t229 t230 t231 t232 t251 t252 t253 t254) = some r := by rw [if_pos rfl] at H; exact H
           clear H
           have H := H1
           clear H1
           have H' := Aside0.mk H
           clear H
           have hnb135 := NB258_213.out
           have hnc135 := NB213_258.out
           have hnb136 := NB258_214.out
           have hnc136 := NB214_258.out
           have hnb137 := NB258_236.out
           have hnc137 := NB236_258.out
           have hnb138 := NB258_243.out
           have hnc138 := NB243_258.out
           have hnb139 := NB258_250.out
           have hnc139 := NB250_258.out
           have hcz140_0 : w131.cell? ⟨gb258, 0, none⟩ = some (.int .i64 t251) := (blk_cell BK258.out 0).trans rfl
           have hcz140_1 : w131.cell? ⟨gb258, 1, none⟩ = some (.int .i64 t252) := (blk_cell BK258.out 1).trans rfl
           have hcz140_2 : w131.cell? ⟨gb258, 2, none⟩ = some (.int .i64 t253) := (blk_cell BK258.out 2).trans rfl
           have hcz140_3 : w131.cell? ⟨gb258, 3, none⟩ = some (.slice Ao74 t254.length co74) := (blk_cell BK258.out 3).trans rfl
           have hfz140_0 := blk_frozen BK258.out 0
           have hfz140_1 := blk_frozen BK258.out 1
           have hfz140_2 := blk_frozen BK258.out 2
           have hfz140_3 := blk_frozen BK258.out 3
           have hnb141 := NB236_213.out
           have hnc141 := NB213_236.out
           have hnb142 := NB236_214.out
           have hnc142 := NB214_236.out
           have hnb143 := NB236_243.out
           have hnc143 := NB243_236.out
           have hnb144 := NB236_250.out
           have hnc144 := NB250_236.out
           have hcz145_0 : w131.cell? ⟨gb236, 0, none⟩ = some (.int .i64 t229) := (blk_cell BK236.out 0).trans rfl
           have hcz145_1 : w131.cell? ⟨gb236, 1, none⟩ = some (.int .i64 t230) := (blk_cell BK236.out 1).trans rfl
           have hcz145_2 : w131.cell? ⟨gb236, 2, none⟩ = some (.int .i64 t231) := (blk_cell BK236.out 2).trans rfl
           have hcz145_3 : w131.cell? ⟨gb236, 3, none⟩ = some (.slice Ao44 t232.length co44) := (blk_cell BK236.out 3).trans rfl
           have hfz145_0 := blk_frozen BK236.out 0
           have hfz145_1 := blk_frozen BK236.out 1
           have hfz145_2 := blk_frozen BK236.out 2
           have hfz145_3 := blk_frozen BK236.out 3
           go_wp2_with (first | (go_at_call 21; (with_reducible refine (laws_eqDigest.calls kj24 t251 t252 t253 _ _ t254 t229 t230 t231 _ _ t232 true _ ?side1 ?side2 ?side3 ?side4 A133.out).mono ?_); (case side1 => repeat (first | exact (Kd.R_reads' HO_259003.out).2.2 | (with_reducible refine Kd.C_alloc ?_ _) | (with_reducible refine Kd.C_drewN ?_ _) | (with_reducible refine Kd.C_drew ?_))); (case side2 => exact (Kd.R_reads' HO_259003.out).2.1); (case side3 => repeat (first | exact (Kd.R_reads' HO_237003.out).2.2 | (with_reducible refine Kd.C_alloc ?_ _) | (with_reducible refine Kd.C_drewN ?_ _) | (with_reducible refine Kd.C_drew ?_))); (case side4 => exact (Kd.R_reads' HO_237003.out).2.1); rintro e w146 ⟨rfl, hb⟩; have n0_ := Aside0.mk (Kd.R_below (zr HO_237003) hb); have n1_ := Aside0.mk (Kd.R_below (zr HO_244003) hb); have n2_ := Aside0.mk (Kd.R_below (zr HO_251003) hb); have n3_ := Aside0.mk (Kd.R_below (zr HO_259003) hb); have n4_ := Aside0.mk (Kd.R_below (zr HO265) hb); have n5_ := Aside0.mk (Kd.R_below (zr HO272) hb); have n6_ := Aside0.mk (blk_below (zb BK213) hb); have n7_ := Aside0.mk (blk_below (zb BK214) hb); have n8_ := Aside0.mk (blk_below (zb BK236) hb); have n9_ := Aside0.mk (blk_below (zb BK243) hb); have n10_ := Aside0.mk (blk_below (zb BK250) hb); have n11_ := Aside0.mk (blk_below (zb BK258) hb); have n12_ := Aside0.mk (below_step (zg HB) hb); clear HO_237003; clear HO_244003; clear HO_251003; clear HO_259003; clear HO265; clear HO272; clear BK213; clear BK214; clear BK236; clear BK243; clear BK250; clear BK258; clear HB; have HO_237003 := n0_; have HO_244003 := n1_; have HO_251003 := n2_; have HO_259003 := n3_; have HO265 := n4_; have HO272 := n5_; have BK213 := n6_; have BK214 := n7_; have BK236 := n8_; have BK243 := n9_; have BK250 := n10_; have BK258 := n11_; have HB := n12_; clear n0_ n1_ n2_ n3_ n4_ n5_ n6_ n7_ n8_ n9_ n10_ n11_ n12_; (try clear hb); (try clear hb2); (try clear hk); (try clear hi)))
           go_meet
           case rel => exact ⟨_, ((t257 != t235)), (by first | rfl | (simp; done) | (simp [*]; done)), H', ⟨by have := HJ24.out; first | omega | exact Nat.le_refl _⟩, ⟨Kd.R_mono (zr HO_237003) (fun _ hk => ⟨hk.1, ⟨hk.2.1, hk.2.2.1⟩⟩)⟩, ⟨Kd.R_mono (zr HO_244003) (fun _ hk => ⟨hk.1, ⟨hk.2.1, hk.2.2.1⟩⟩)⟩, ⟨Kd.R_mono (zr HO_251003) (fun _ hk => ⟨hk.1, ⟨hk.2.1, hk.2.2.1⟩⟩)⟩, ⟨Kd.R_mono (zr HO_259003) (fun _ hk => ⟨hk.1, ⟨hk.2.1, hk.2.2.1⟩⟩)⟩, ⟨zb BK213⟩, ⟨zb BK214⟩, ⟨zb BK236⟩, ⟨zb BK243⟩, ⟨zb BK250⟩, ⟨zb BK258⟩, ⟨zg HB⟩⟩
          ·
           replace c134 := Bool.eq_false_iff.mpr c134
           subst c134
           have H1 : (laws_FnExactDigestJoin.j1 kj24 t235 true a0_0 a0_1 a0_2 l0_3 a1_0 a1_1 a1_2 l1_3 t229 t230 t231 t232 t251 t252 t253 t254) = some r := by rw [if_neg (show ¬ (false = true) by decide)] at H; exact H
           clear H
           have H := H1
           clear H1
           have H' := Aside0.mk H
           clear H
           have hnb147 := NB258_213.out
           have hnc147 := NB213_258.out
           have hnb148 := NB258_214.out
           have hnc148 := NB214_258.out
           have hnb149 := NB258_236.out
           have hnc149 := NB236_258.out
           have hnb150 := NB258_243.out
           have hnc150 := NB243_258.out
           have hnb151 := NB258_250.out
           have hnc151 := NB250_258.out
           have hcz152_0 : w131.cell? ⟨gb258, 0, none⟩ = some (.int .i64 t251) := (blk_cell BK258.out 0).trans rfl
           have hcz152_1 : w131.cell? ⟨gb258, 1, none⟩ = some (.int .i64 t252) := (blk_cell BK258.out 1).trans rfl
           have hcz152_2 : w131.cell? ⟨gb258, 2, none⟩ = some (.int .i64 t253) := (blk_cell BK258.out 2).trans rfl
           have hcz152_3 : w131.cell? ⟨gb258, 3, none⟩ = some (.slice Ao74 t254.length co74) := (blk_cell BK258.out 3).trans rfl
           have hfz152_0 := blk_frozen BK258.out 0
           have hfz152_1 := blk_frozen BK258.out 1
           have hfz152_2 := blk_frozen BK258.out 2
           have hfz152_3 := blk_frozen BK258.out 3
           have hnb153 := NB236_213.out
           have hnc153 := NB213_236.out
           have hnb154 := NB236_214.out
           have hnc154 := NB214_236.out
           have hnb155 := NB236_243.out
           have hnc155 := NB243_236.out
           have hnb156 := NB236_250.out
           have hnc156 := NB250_236.out
           have hcz157_0 : w131.cell? ⟨gb236, 0, none⟩ = some (.int .i64 t229) := (blk_cell BK236.out 0).trans rfl
           have hcz157_1 : w131.cell? ⟨gb236, 1, none⟩ = some (.int .i64 t230) := (blk_cell BK236.out 1).trans rfl
           have hcz157_2 : w131.cell? ⟨gb236, 2, none⟩ = some (.int .i64 t231) := (blk_cell BK236.out 2).trans rfl
           have hcz157_3 : w131.cell? ⟨gb236, 3, none⟩ = some (.slice Ao44 t232.length co44) := (blk_cell BK236.out 3).trans rfl
           have hfz157_0 := blk_frozen BK236.out 0
           have hfz157_1 := blk_frozen BK236.out 1
           have hfz157_2 := blk_frozen BK236.out 2
           have hfz157_3 := blk_frozen BK236.out 3
           go_wp2_with (first | (go_at_call 21; (with_reducible refine (laws_eqDigest.calls kj24 t251 t252 t253 _ _ t254 t229 t230 t231 _ _ t232 false _ ?side1 ?side2 ?side3 ?side4 A133.out).mono ?_); (case side1 => repeat (first | exact (Kd.R_reads' HO_259003.out).2.2 | (with_reducible refine Kd.C_alloc ?_ _) | (with_reducible refine Kd.C_drewN ?_ _) | (with_reducible refine Kd.C_drew ?_))); (case side2 => exact (Kd.R_reads' HO_259003.out).2.1); (case side3 => repeat (first | exact (Kd.R_reads' HO_237003.out).2.2 | (with_reducible refine Kd.C_alloc ?_ _) | (with_reducible refine Kd.C_drewN ?_ _) | (with_reducible refine Kd.C_drew ?_))); (case side4 => exact (Kd.R_reads' HO_237003.out).2.1); rintro e w158 ⟨rfl, hb⟩; have n0_ := Aside0.mk (Kd.R_below (zr HO_237003) hb); have n1_ := Aside0.mk (Kd.R_below (zr HO_244003) hb); have n2_ := Aside0.mk (Kd.R_below (zr HO_251003) hb); have n3_ := Aside0.mk (Kd.R_below (zr HO_259003) hb); have n4_ := Aside0.mk (Kd.R_below (zr HO265) hb); have n5_ := Aside0.mk (Kd.R_below (zr HO272) hb); have n6_ := Aside0.mk (blk_below (zb BK213) hb); have n7_ := Aside0.mk (blk_below (zb BK214) hb); have n8_ := Aside0.mk (blk_below (zb BK236) hb); have n9_ := Aside0.mk (blk_below (zb BK243) hb); have n10_ := Aside0.mk (blk_below (zb BK250) hb); have n11_ := Aside0.mk (blk_below (zb BK258) hb); have n12_ := Aside0.mk (below_step (zg HB) hb); clear HO_237003; clear HO_244003; clear HO_251003; clear HO_259003; clear HO265; clear HO272; clear BK213; clear BK214; clear BK236; clear BK243; clear BK250; clear BK258; clear HB; have HO_237003 := n0_; have HO_244003 := n1_; have HO_251003 := n2_; have HO_259003 := n3_; have HO265 := n4_; have HO272 := n5_; have BK213 := n6_; have BK214 := n7_; have BK236 := n8_; have BK243 := n9_; have BK250 := n10_; have BK258 := n11_; have HB := n12_; clear n0_ n1_ n2_ n3_ n4_ n5_ n6_ n7_ n8_ n9_ n10_ n11_ n12_; (try clear hb); (try clear hb2); (try clear hk); (try clear hi)))
           go_meet
           case rel => exact ⟨_, (true), (by first | rfl | (simp; done) | (simp [*]; done)), H', ⟨by have := HJ24.out; first | omega | exact Nat.le_refl _⟩, ⟨Kd.R_mono (zr HO_237003) (fun _ hk => ⟨hk.1, ⟨hk.2.1, hk.2.2.1⟩⟩)⟩, ⟨Kd.R_mono (zr HO_244003) (fun _ hk => ⟨hk.1, ⟨hk.2.1, hk.2.2.1⟩⟩)⟩, ⟨Kd.R_mono (zr HO_251003) (fun _ hk => ⟨hk.1, ⟨hk.2.1, hk.2.2.1⟩⟩)⟩, ⟨Kd.R_mono (zr HO_259003) (fun _ hk => ⟨hk.1, ⟨hk.2.1, hk.2.2.1⟩⟩)⟩, ⟨zb BK213⟩, ⟨zb BK214⟩, ⟨zb BK236⟩, ⟨zb BK243⟩, ⟨zb BK250⟩, ⟨zb BK258⟩, ⟨zg HB⟩⟩
        case rest =>
         clear HC110
         try clear c1
         try clear c2
         try clear p2
         try clear c10
         try clear c11
         try clear c12
         try clear c13
         try clear c14
         try clear c15
         try clear c21
         try clear c24
         try clear c28
         try clear c101
         try clear c104
         try clear c107
         try clear c119
         try clear c120
         try clear c121
         try clear c122
         try clear c123
         try clear c126
         try clear c127
         try clear c128
         try clear c129
         try clear c132
         try clear c132b0
         try clear c134
         try clear c135
         try clear c136
         try clear c137
         try clear c138
         try clear c139
         try clear c141
         try clear c142
         try clear c143
         try clear c144
         try clear c147
         try clear c148
         try clear c149
         try clear c150
         try clear c151
         try clear c153
         try clear c154
         try clear c155
         try clear c156
         try clear hcz124_0
         try clear hcz124_1
         try clear hcz124_2
         try clear hcz124_3
         try clear hcz130_0
         try clear hcz130_1
         try clear hcz130_2
         try clear hcz130_3
         try clear hcz140_0
         try clear hcz140_1
         try clear hcz140_2
         try clear hcz140_3
         try clear hcz145_0
         try clear hcz145_1
         try clear hcz145_2
         try clear hcz145_3
         try clear hcz152_0
         try clear hcz152_1
         try clear hcz152_2
         try clear hcz152_3
         try clear hcz157_0
         try clear hcz157_1
         try clear hcz157_2
         try clear hcz157_3
         try clear hfz124_0
         try clear hfz124_1
         try clear hfz124_2
         try clear hfz124_3
         try clear hfz130_0
         try clear hfz130_1
         try clear hfz130_2
         try clear hfz130_3
         try clear hfz140_0
         try clear hfz140_1
         try clear hfz140_2
         try clear hfz140_3
         try clear hfz145_0
         try clear hfz145_1
         try clear hfz145_2
         try clear hfz145_3
         try clear hfz152_0
         try clear hfz152_1
         try clear hfz152_2
         try clear hfz152_3
         try clear hfz157_0
         try clear hfz157_1
         try clear hfz157_2
         try clear hfz157_3
         try clear hfz47_3
         try clear hfz53_0
         try clear hfz53_1
         try clear hfz53_2
         try clear hfz53_3
         try clear hfz56_0
         try clear hfz56_1
         try clear hfz56_2
         try clear hfz56_3
         try clear hfz63_0
         try clear hfz63_1
         try clear hfz63_2
         try clear hfz63_3
         try clear hfz65_0
         try clear hfz65_1
         try clear hfz65_2
         try clear hfz65_3
         try clear hfz73_0
         try clear hfz73_1
         try clear hfz73_2
         try clear hfz73_3
         try clear hfz82_0
         try clear hfz82_1
         try clear hfz82_2
         try clear hfz82_3
         try clear hfz87_0
         try clear hfz87_1
         try clear hfz87_2
         try clear hfz87_3
         try clear hfz94_0
         try clear hfz94_1
         try clear hfz94_2
         try clear hfz94_3
         try clear hfz99_0
         try clear hfz99_1
         try clear hfz99_2
         try clear hfz99_3
         obtain ⟨kq, x82_109, rfl, HA, HJ109, HO_237003, HO_244003, HO_251003, HO_259003, BK213, BK214, BK236, BK243, BK250, BK258, HB⟩ := hcut
         rename_i Kz0_ az0_ Kz1_ az1_
         exact laws_FnExactDigestJoin.reg1 k a0_0 a0_1 a0_2 A0_3 c0_3 l0_3 a1_0 a1_1 a1_2 A1_3 c1_3 l1_3 r w hu46 hu37 HR0_3 HC0_3 HR1_3 HC1_3 t215 A3 c4b0 t216 A10 c11b0 t217 t218 t219 t220 A19 t223 t224 t225 t226 A20 t229 t230 t231 t232 t235 A21 t237 t238 t239 t240 A22 t244 t245 t246 t247 A23 t251 t252 t253 t254 t257 A24 gb213 w26 GW213 GE213 gb214 w27 GW214 GE214 NB213_214 NB214_213 hnb28 hnc28 hcz29_0 hcz29_1 hcz29_2 hcz29_3 hfz29_0 hfz29_1 hfz29_2 hfz29_3 w30 hcz31_0 hcz31_1 hcz31_2 hcz31_3 hfz31_0 hfz31_1 hfz31_2 hfz31_3 w32 HT_ HW_ w33 v221 v227 gb236 w40 hS_ GW236 GE236 NB213_236 NB236_213 NB214_236 NB236_214 Ao44 co44 hs41 hfs41 hns41_0 hns41_1 hms41_0 hms41_1 hs42 hfs42 hns42_0 hns42_1 hms42_0 hms42_1 hs43 hfs43 hns43_0 hns43_1 hms43_0 hms43_1 hs45 hfs45 hns45_0 hns45_1 hms45_0 hms45_1 hnb46 hnc46 w48 gb243 w49 GW243 GE243 NB213_243 NB243_213 NB214_243 NB243_214 NB236_243 NB243_236 hnb50 hnc50 hnb51 hnc51 hnb52 hnc52 Ao54 co54 hnb55 hnc55 w57 gb250 w58 GW250 GE250 NB213_250 NB250_213 NB214_250 NB250_214 NB236_250 NB250_236 NB243_250 NB250_243 hnb59 hnc59 hnb60 hnc60 hnb61 hnc61 hnb62 hnc62 Ao64 co64 w66 gb258 w67 GW258 GE258 NB213_258 NB258_213 NB214_258 NB258_214 NB236_258 NB258_236 NB243_258 NB258_243 NB250_258 NB258_250 hnb68 hnc68 hnb69 hnc69 hnb70 hnc70 hnb71 hnc71 hnb72 hnc72 Ao74 co74 HO222 HO228 HO234 HO242 HO249 HO256 kj24 HJ24 t260 t261 t262 t263 A102 A103 t267 t268 t269 t270 A105 A106 t274 t275 A108 t276 t277 A109 w111 w112 Ao113 co113 w114 w115 w116 Ao117 co117 w118 hHeld hnb119 hnc119 hnb120 hnc120 hnb121 hnc121 hnb122 hnc122 hnb123 hnc123 w125 hnb126 hnc126 hnb127 hnc127 hnb128 hnc128 hnb129 hnc129 w131 HO265 HO272 Kz0_ az0_ Kz1_ az1_ wc u17 u18 u19 u20 u21 u22 u23 u24 u25 u26 u27 u28 u29 u30 u31 u32 u33 u34 u35 u36 u37 u38 u39 u40 u41 u42 u43 u44 u45 u46 u47 u48 u49 u50 u51 u52 u53 u54 u55 u56 u57 u58 u59 u60 u61 u62 u63 u64 u65 u66 u67 u68 u69 u70 u71 u72 u73 u74 u75 u76 u77 u78 u79 u80 u81 u83 u84 u85 u86 u87 u88 u89 u90 u91 u92 u93 u94 u95 u96 u97 u98 u99 u100 u101 u102 u103 u104 u105 u106 u107 u108 u109 u110 u111 u112 u113 u114 u115 u116 u117 u118 kq x82_109 HA HJ109 HO_237003 HO_244003 HO_251003 HO_259003 BK213 BK214 BK236 BK243 BK250 BK258 HB rfl
       ·
        replace c107 := Bool.eq_false_iff.mpr c107
        subst c107
        have H1 : (some false) = some r := by rw [if_neg (show ¬ (false = true) by decide)] at H; exact H
        clear H
        have H := H1
        clear H1
        obtain rfl := Option.some.inj H
        try go_wp2
        have n0_ := Aside0.mk (Kd.R_drew HO_237003.out)
        have n1_ := Aside0.mk (Kd.R_drew HO_244003.out)
        have n2_ := Aside0.mk (Kd.R_drew HO_251003.out)
        have n3_ := Aside0.mk (Kd.R_drew HO_259003.out)
        have n4_ := Aside0.mk (blk_drew BK213.out)
        have n5_ := Aside0.mk (blk_drew BK214.out)
        have n6_ := Aside0.mk (blk_drew BK236.out)
        have n7_ := Aside0.mk (blk_drew BK243.out)
        have n8_ := Aside0.mk (blk_drew BK250.out)
        have n9_ := Aside0.mk (blk_drew BK258.out)
        have n10_ := Aside0.mk (below_drew1 HB.out)
        clear HO_237003
        clear HO_244003
        clear HO_251003
        clear HO_259003
        clear BK213
        clear BK214
        clear BK236
        clear BK243
        clear BK250
        clear BK258
        clear HB
        have HO_237003 := n0_
        have HO_244003 := n1_
        have HO_251003 := n2_
        have HO_259003 := n3_
        have BK213 := n4_
        have BK214 := n5_
        have BK236 := n6_
        have BK243 := n7_
        have BK250 := n8_
        have BK258 := n9_
        have HB := n10_
        clear n0_ n1_ n2_ n3_ n4_ n5_ n6_ n7_ n8_ n9_ n10_
        refine start_ (n := 5) (S := fun w' => w'.cell? ⟨gb243, 0, none⟩ = some (.int .i64 t237) ∧ w'.cell? ⟨gb243, 1, none⟩ = some (.int .i64 t238) ∧ w'.cell? ⟨gb243, 2, none⟩ = some (.int .i64 t239) ∧ w'.cell? ⟨gb243, 3, none⟩ = some (.slice Ao54 t240.length co54) ∧ w'.cell? ⟨gb213, 0, none⟩ = some (.int .i64 a0_0) ∧ w'.cell? ⟨gb213, 1, none⟩ = some (.int .i64 a0_1) ∧ w'.cell? ⟨gb213, 2, none⟩ = some (.int .i64 a0_2) ∧ w'.cell? ⟨gb213, 3, none⟩ = some (.slice A0_3 l0_3.length c0_3)) (ds := []) #[false, false, false, false, false] (by kernel_rfl) rfl rfl ⟨(blk_cell BK243.out 0).trans rfl, (blk_cell BK243.out 1).trans rfl, (blk_cell BK243.out 2).trans rfl, (blk_cell BK243.out 3).trans rfl, (blk_cell BK213.out 0).trans rfl, (blk_cell BK213.out 1).trans rfl, (blk_cell BK213.out 2).trans rfl, (blk_cell BK213.out 3).trans rfl⟩ (fun hHeld => ?_)
        generalize wc.drew = w266 at HO_237003 HO_244003 HO_251003 HO_259003 BK213 BK214 BK236 BK243 BK250 BK258 HB hHeld ⊢
        refine take_ (i := 0) (N := some 54) (v := ?_) (a' := ?_) #[true, false, false, false, false] rfl rfl (by kernel_rfl) (fun _ _ _ h => h) (Or.inl ⟨by rfl, ?_⟩) hHeld ?_ ?_
        rotate_left
        ·
         rintro w' ⟨s0, s1, s2, s3, s4, s5, s6, s7⟩
         go_simp
         with_reducible rfl
        rotate_left
        ·
         simp only [Act.put, List.setIfInBounds_toArray, List.set_cons_zero, List.set_cons_succ, i64_w, i32_w]
         rfl
        refine take_ (i := 1) (N := some 55) (v := ?_) (a' := ?_) #[true, true, false, false, false] rfl rfl (by kernel_rfl) (fun _ _ _ h => h) (Or.inl ⟨by rfl, ?_⟩) hHeld ?_ ?_
        rotate_left
        ·
         rintro w' ⟨s0, s1, s2, s3, s4, s5, s6, s7⟩
         go_simp
         with_reducible rfl
        rotate_left
        ·
         simp only [Act.put, List.setIfInBounds_toArray, List.set_cons_zero, List.set_cons_succ, i64_w, i32_w]
         rfl
        refine one_ (i := 2) (N := some 56) #[true, true, true, false, false] rfl rfl (by kernel_rfl) (by decide) (fun K hK => ?_)
        refine goes_ Try.func28 (by kernel_rfl) rfl #[.agg #[.int .i64 a0_0, .int .i64 a0_1, .int .i64 a0_2, .slice A0_3 l0_3.length c0_3]] (by rfl) rfl rfl zar ?_
        with_reducible refine (laws_toDigest.calls kj24 a0_0 a0_1 a0_2 _ _ l0_3 t260 t261 t262 t263 _ ?side1 ?side2 A102.out).mono ?_
        (case side1 => repeat (first | exact (Kd.C_below HR0_3.out HB.out) | (with_reducible refine Kd.C_alloc ?_ _) | (with_reducible refine Kd.C_drewN ?_ _) | (with_reducible refine Kd.C_drew ?_)))
        (case side2 => exact HC0_3.out)
        rintro e w267 ⟨v264, rfl, ho0, hb⟩
        refine ⟨_, rfl, ?_⟩
        have n0_ := Aside0.mk (Kd.R_elder' (zr HO_237003) (Kd.R_base ho0) hb)
        have n1_ := Aside0.mk (Kd.R_elder' (zr HO_244003) (Kd.R_base ho0) hb)
        have n2_ := Aside0.mk (Kd.R_elder' (zr HO_251003) (Kd.R_base ho0) hb)
        have n3_ := Aside0.mk (Kd.R_elder' (zr HO_259003) (Kd.R_base ho0) hb)
        have n4_ := Aside0.mk (Kd.R_lower (Kd.R_new' (Kd.R_new' (Kd.R_new' (Kd.R_new' ho0 (Kd.R_lt (zr HO_237003))) (Kd.R_lt (zr HO_244003))) (Kd.R_lt (zr HO_251003))) (Kd.R_lt (zr HO_259003))) (below_size (zg HB)))
        have n5_ := Aside0.mk (blk_below (zb BK213) hb)
        have n6_ := Aside0.mk (blk_below (zb BK214) hb)
        have n7_ := Aside0.mk (blk_below (zb BK236) hb)
        have n8_ := Aside0.mk (blk_below (zb BK243) hb)
        have n9_ := Aside0.mk (blk_below (zb BK250) hb)
        have n10_ := Aside0.mk (blk_below (zb BK258) hb)
        have n11_ := Aside0.mk (below_step (zg HB) hb)
        clear HO_237003
        clear HO_244003
        clear HO_251003
        clear HO_259003
        clear BK213
        clear BK214
        clear BK236
        clear BK243
        clear BK250
        clear BK258
        clear HB
        have HO_237003 := n0_
        have HO_244003 := n1_
        have HO_251003 := n2_
        have HO_259003 := n3_
        have HO265 := n4_
        have BK213 := n5_
        have BK214 := n6_
        have BK236 := n7_
        have BK243 := n8_
        have BK250 := n9_
        have BK258 := n10_
        have HB := n11_
        clear n0_ n1_ n2_ n3_ n4_ n5_ n6_ n7_ n8_ n9_ n10_ n11_
        (try clear hb)
        (try clear hb2)
        (try clear hk)
        (try clear hi)
        (try clear ho0)
        obtain ⟨Ao268, co268, eo268⟩ := Kd.R_slice HO265.out
        (first | subst eo268 | (injection eo268 with f1_ f2_ f3_; have f4_ := f1_.symm; have f5_ := f3_.symm; clear f1_ f2_ f3_; subst f4_; subst f5_))
        refine hK.out _ _ ⟨(blk_cell BK243.out 0).trans rfl, (blk_cell BK243.out 1).trans rfl, (blk_cell BK243.out 2).trans rfl, (blk_cell BK243.out 3).trans rfl, (blk_cell BK213.out 0).trans rfl, (blk_cell BK213.out 1).trans rfl, (blk_cell BK213.out 2).trans rfl, (blk_cell BK213.out 3).trans rfl⟩ (fun hHeld => ?_)
        clear hK K
        refine norm_ (a' := ?_) ?_ ?_
        rotate_left
        ·
         show Act.put _ (some 56) _ = _
         simp only [Act.put, List.setIfInBounds_toArray, List.set_cons_zero, List.set_cons_succ, i64_w, i32_w]
         rfl
        refine one_ (i := 3) (N := some 57) #[true, true, true, true, false] rfl rfl (by kernel_rfl) (by decide) (fun K hK => ?_)
        refine goes_ Try.func21 (by kernel_rfl) rfl #[.agg #[.int .i64 t237, .int .i64 t238, .int .i64 t239, .slice Ao54 t240.length co54], .agg #[.int .i64 t260, .int .i64 t261, .int .i64 t262, .slice Ao268 t263.length co268]] (by rfl) rfl rfl zar ?_
        with_reducible refine (laws_eqDigest.calls kj24 t237 t238 t239 _ _ t240 t260 t261 t262 _ _ t263 true _ ?side1 ?side2 ?side3 ?side4 A103.out).mono ?_
        (case side1 => repeat (first | exact (Kd.R_reads' HO_244003.out).2.2 | (with_reducible refine Kd.C_alloc ?_ _) | (with_reducible refine Kd.C_drewN ?_ _) | (with_reducible refine Kd.C_drew ?_)))
        (case side2 => exact (Kd.R_reads' HO_244003.out).2.1)
        (case side3 => repeat (first | exact (Kd.R_reads' HO265.out).2.2 | (with_reducible refine Kd.C_alloc ?_ _) | (with_reducible refine Kd.C_drewN ?_ _) | (with_reducible refine Kd.C_drew ?_)))
        (case side4 => exact (Kd.R_reads' HO265.out).2.1)
        rintro e w269 ⟨rfl, hb⟩
        refine ⟨_, rfl, ?_⟩
        have n0_ := Aside0.mk (Kd.R_below (zr HO_237003) hb)
        have n1_ := Aside0.mk (Kd.R_below (zr HO_244003) hb)
        have n2_ := Aside0.mk (Kd.R_below (zr HO_251003) hb)
        have n3_ := Aside0.mk (Kd.R_below (zr HO_259003) hb)
        have n4_ := Aside0.mk (Kd.R_below (zr HO265) hb)
        have n5_ := Aside0.mk (blk_below (zb BK213) hb)
        have n6_ := Aside0.mk (blk_below (zb BK214) hb)
        have n7_ := Aside0.mk (blk_below (zb BK236) hb)
        have n8_ := Aside0.mk (blk_below (zb BK243) hb)
        have n9_ := Aside0.mk (blk_below (zb BK250) hb)
        have n10_ := Aside0.mk (blk_below (zb BK258) hb)
        have n11_ := Aside0.mk (below_step (zg HB) hb)
        clear HO_237003
        clear HO_244003
        clear HO_251003
        clear HO_259003
        clear HO265
        clear BK213
        clear BK214
        clear BK236
        clear BK243
        clear BK250
        clear BK258
        clear HB
        have HO_237003 := n0_
        have HO_244003 := n1_
        have HO_251003 := n2_
        have HO_259003 := n3_
        have HO265 := n4_
        have BK213 := n5_
        have BK214 := n6_
        have BK236 := n7_
        have BK243 := n8_
        have BK250 := n9_
        have BK258 := n10_
        have HB := n11_
        clear n0_ n1_ n2_ n3_ n4_ n5_ n6_ n7_ n8_ n9_ n10_ n11_
        (try clear hb)
        (try clear hb2)
        (try clear hk)
        (try clear hi)
        refine hK.out _ _ ⟨(blk_cell BK243.out 0).trans rfl, (blk_cell BK243.out 1).trans rfl, (blk_cell BK243.out 2).trans rfl, (blk_cell BK243.out 3).trans rfl, (blk_cell BK213.out 0).trans rfl, (blk_cell BK213.out 1).trans rfl, (blk_cell BK213.out 2).trans rfl, (blk_cell BK213.out 3).trans rfl⟩ (fun hHeld => ?_)
        clear hK K
        refine norm_ (a' := ?_) ?_ ?_
        rotate_left
        ·
         show Act.put _ (some 57) _ = _
         simp only [Act.put, List.setIfInBounds_toArray, List.set_cons_zero, List.set_cons_succ, i64_w, i32_w]
         rfl
        refine pure_ (i := 4) (N := some 58) (v := ?_) (a' := ?_) #[true, true, true, true, true] rfl rfl (by kernel_rfl) (fun _ _ _ h => h) (Or.inl ⟨by rfl, ?_⟩) ?_ ?_
        rotate_left
        ·
         intro w'
         go_simp
         with_reducible rfl
        rotate_left
        ·
         simp only [Act.put, List.setIfInBounds_toArray, List.set_cons_zero, List.set_cons_succ, i64_w, i32_w]
         rfl
        refine done_ (by kernel_rfl) ?_
        try go_wp2
        have n0_ := Aside0.mk (Kd.R_drew HO_237003.out)
        have n1_ := Aside0.mk (Kd.R_drew HO_244003.out)
        have n2_ := Aside0.mk (Kd.R_drew HO_251003.out)
        have n3_ := Aside0.mk (Kd.R_drew HO_259003.out)
        have n4_ := Aside0.mk (Kd.R_drew HO265.out)
        have n5_ := Aside0.mk (blk_drew BK213.out)
        have n6_ := Aside0.mk (blk_drew BK214.out)
        have n7_ := Aside0.mk (blk_drew BK236.out)
        have n8_ := Aside0.mk (blk_drew BK243.out)
        have n9_ := Aside0.mk (blk_drew BK250.out)
        have n10_ := Aside0.mk (blk_drew BK258.out)
        have n11_ := Aside0.mk (below_drew1 HB.out)
        clear HO_237003
        clear HO_244003
        clear HO_251003
        clear HO_259003
        clear HO265
        clear BK213
        clear BK214
        clear BK236
        clear BK243
        clear BK250
        clear BK258
        clear HB
        have HO_237003 := n0_
        have HO_244003 := n1_
        have HO_251003 := n2_
        have HO_259003 := n3_
        have HO265 := n4_
        have BK213 := n5_
        have BK214 := n6_
        have BK236 := n7_
        have BK243 := n8_
        have BK250 := n9_
        have BK258 := n10_
        have HB := n11_
        clear n0_ n1_ n2_ n3_ n4_ n5_ n6_ n7_ n8_ n9_ n10_ n11_
        refine start_ (n := 5) (S := fun w' => w'.cell? ⟨gb250, 0, none⟩ = some (.int .i64 t244) ∧ w'.cell? ⟨gb250, 1, none⟩ = some (.int .i64 t245) ∧ w'.cell? ⟨gb250, 2, none⟩ = some (.int .i64 t246) ∧ w'.cell? ⟨gb250, 3, none⟩ = some (.slice Ao64 t247.length co64) ∧ w'.cell? ⟨gb214, 0, none⟩ = some (.int .i64 a1_0) ∧ w'.cell? ⟨gb214, 1, none⟩ = some (.int .i64 a1_1) ∧ w'.cell? ⟨gb214, 2, none⟩ = some (.int .i64 a1_2) ∧ w'.cell? ⟨gb214, 3, none⟩ = some (.slice A1_3 l1_3.length c1_3)) (ds := []) #[false, false, false, false, false] (by kernel_rfl) rfl rfl ⟨(blk_cell BK250.out 0).trans rfl, (blk_cell BK250.out 1).trans rfl, (blk_cell BK250.out 2).trans rfl, (blk_cell BK250.out 3).trans rfl, (blk_cell BK214.out 0).trans rfl, (blk_cell BK214.out 1).trans rfl, (blk_cell BK214.out 2).trans rfl, (blk_cell BK214.out 3).trans rfl⟩ (fun hHeld => ?_)
        generalize w269.drew = w270 at HO_237003 HO_244003 HO_251003 HO_259003 HO265 BK213 BK214 BK236 BK243 BK250 BK258 HB hHeld ⊢
        refine take_ (i := 0) (N := some 59) (v := ?_) (a' := ?_) #[true, false, false, false, false] rfl rfl (by kernel_rfl) (fun _ _ _ h => h) (Or.inl ⟨by rfl, ?_⟩) hHeld ?_ ?_
        rotate_left
        ·
         rintro w' ⟨s0, s1, s2, s3, s4, s5, s6, s7⟩
         go_simp
         with_reducible rfl
        rotate_left
        ·
         simp only [Act.put, List.setIfInBounds_toArray, List.set_cons_zero, List.set_cons_succ, i64_w, i32_w]
         rfl
        refine take_ (i := 1) (N := some 60) (v := ?_) (a' := ?_) #[true, true, false, false, false] rfl rfl (by kernel_rfl) (fun _ _ _ h => h) (Or.inl ⟨by rfl, ?_⟩) hHeld ?_ ?_
        rotate_left
        ·
         rintro w' ⟨s0, s1, s2, s3, s4, s5, s6, s7⟩
         go_simp
         with_reducible rfl
        rotate_left
        ·
         simp only [Act.put, List.setIfInBounds_toArray, List.set_cons_zero, List.set_cons_succ, i64_w, i32_w]
         rfl
        refine one_ (i := 2) (N := some 61) #[true, true, true, false, false] rfl rfl (by kernel_rfl) (by decide) (fun K hK => ?_)
        refine goes_ Try.func28 (by kernel_rfl) rfl #[.agg #[.int .i64 a1_0, .int .i64 a1_1, .int .i64 a1_2, .slice A1_3 l1_3.length c1_3]] (by rfl) rfl rfl zar ?_
        with_reducible refine (laws_toDigest.calls kj24 a1_0 a1_1 a1_2 _ _ l1_3 t267 t268 t269 t270 _ ?side1 ?side2 A105.out).mono ?_
        (case side1 => repeat (first | exact (Kd.C_below HR1_3.out HB.out) | (with_reducible refine Kd.C_alloc ?_ _) | (with_reducible refine Kd.C_drewN ?_ _) | (with_reducible refine Kd.C_drew ?_)))
        (case side2 => exact HC1_3.out)
        rintro e w271 ⟨v271, rfl, ho0, hb⟩
        refine ⟨_, rfl, ?_⟩
        have n0_ := Aside0.mk (Kd.R_elder' (zr HO_237003) (Kd.R_base ho0) hb)
        have n1_ := Aside0.mk (Kd.R_elder' (zr HO_244003) (Kd.R_base ho0) hb)
        have n2_ := Aside0.mk (Kd.R_elder' (zr HO_251003) (Kd.R_base ho0) hb)
        have n3_ := Aside0.mk (Kd.R_elder' (zr HO_259003) (Kd.R_base ho0) hb)
        have n4_ := Aside0.mk (Kd.R_elder' (zr HO265) (Kd.R_base ho0) hb)
        have n5_ := Aside0.mk (Kd.R_lower (Kd.R_new' (Kd.R_new' (Kd.R_new' (Kd.R_new' (Kd.R_new' ho0 (Kd.R_lt (zr HO_237003))) (Kd.R_lt (zr HO_244003))) (Kd.R_lt (zr HO_251003))) (Kd.R_lt (zr HO_259003))) (Kd.R_lt (zr HO265))) (below_size (zg HB)))
        have n6_ := Aside0.mk (blk_below (zb BK213) hb)
        have n7_ := Aside0.mk (blk_below (zb BK214) hb)
        have n8_ := Aside0.mk (blk_below (zb BK236) hb)
        have n9_ := Aside0.mk (blk_below (zb BK243) hb)
        have n10_ := Aside0.mk (blk_below (zb BK250) hb)
        have n11_ := Aside0.mk (blk_below (zb BK258) hb)
        have n12_ := Aside0.mk (below_step (zg HB) hb)
        clear HO_237003
        clear HO_244003
        clear HO_251003
        clear HO_259003
        clear HO265
        clear BK213
        clear BK214
        clear BK236
        clear BK243
        clear BK250
        clear BK258
        clear HB
        have HO_237003 := n0_
        have HO_244003 := n1_
        have HO_251003 := n2_
        have HO_259003 := n3_
        have HO265 := n4_
        have HO272 := n5_
        have BK213 := n6_
        have BK214 := n7_
        have BK236 := n8_
        have BK243 := n9_
        have BK250 := n10_
        have BK258 := n11_
        have HB := n12_
        clear n0_ n1_ n2_ n3_ n4_ n5_ n6_ n7_ n8_ n9_ n10_ n11_ n12_
        (try clear hb)
        (try clear hb2)
        (try clear hk)
        (try clear hi)
        (try clear ho0)
        obtain ⟨Ao272, co272, eo272⟩ := Kd.R_slice HO272.out
        (first | subst eo272 | (injection eo272 with f1_ f2_ f3_; have f4_ := f1_.symm; have f5_ := f3_.symm; clear f1_ f2_ f3_; subst f4_; subst f5_))
        refine hK.out _ _ ⟨(blk_cell BK250.out 0).trans rfl, (blk_cell BK250.out 1).trans rfl, (blk_cell BK250.out 2).trans rfl, (blk_cell BK250.out 3).trans rfl, (blk_cell BK214.out 0).trans rfl, (blk_cell BK214.out 1).trans rfl, (blk_cell BK214.out 2).trans rfl, (blk_cell BK214.out 3).trans rfl⟩ (fun hHeld => ?_)
        clear hK K
        refine norm_ (a' := ?_) ?_ ?_
        rotate_left
        ·
         show Act.put _ (some 61) _ = _
         simp only [Act.put, List.setIfInBounds_toArray, List.set_cons_zero, List.set_cons_succ, i64_w, i32_w]
         rfl
        refine one_ (i := 3) (N := some 62) #[true, true, true, true, false] rfl rfl (by kernel_rfl) (by decide) (fun K hK => ?_)
        refine goes_ Try.func21 (by kernel_rfl) rfl #[.agg #[.int .i64 t244, .int .i64 t245, .int .i64 t246, .slice Ao64 t247.length co64], .agg #[.int .i64 t267, .int .i64 t268, .int .i64 t269, .slice Ao272 t270.length co272]] (by rfl) rfl rfl zar ?_
        with_reducible refine (laws_eqDigest.calls kj24 t244 t245 t246 _ _ t247 t267 t268 t269 _ _ t270 false _ ?side1 ?side2 ?side3 ?side4 A106.out).mono ?_
        (case side1 => repeat (first | exact (Kd.R_reads' HO_251003.out).2.2 | (with_reducible refine Kd.C_alloc ?_ _) | (with_reducible refine Kd.C_drewN ?_ _) | (with_reducible refine Kd.C_drew ?_)))
        (case side2 => exact (Kd.R_reads' HO_251003.out).2.1)
        (case side3 => repeat (first | exact (Kd.R_reads' HO272.out).2.2 | (with_reducible refine Kd.C_alloc ?_ _) | (with_reducible refine Kd.C_drewN ?_ _) | (with_reducible refine Kd.C_drew ?_)))
        (case side4 => exact (Kd.R_reads' HO272.out).2.1)
        rintro e w273 ⟨rfl, hb⟩
        refine ⟨_, rfl, ?_⟩
        have n0_ := Aside0.mk (Kd.R_below (zr HO_237003) hb)
        have n1_ := Aside0.mk (Kd.R_below (zr HO_244003) hb)
        have n2_ := Aside0.mk (Kd.R_below (zr HO_251003) hb)
        have n3_ := Aside0.mk (Kd.R_below (zr HO_259003) hb)
        have n4_ := Aside0.mk (Kd.R_below (zr HO265) hb)
        have n5_ := Aside0.mk (Kd.R_below (zr HO272) hb)
        have n6_ := Aside0.mk (blk_below (zb BK213) hb)
        have n7_ := Aside0.mk (blk_below (zb BK214) hb)
        have n8_ := Aside0.mk (blk_below (zb BK236) hb)
        have n9_ := Aside0.mk (blk_below (zb BK243) hb)
        have n10_ := Aside0.mk (blk_below (zb BK250) hb)
        have n11_ := Aside0.mk (blk_below (zb BK258) hb)
        have n12_ := Aside0.mk (below_step (zg HB) hb)
        clear HO_237003
        clear HO_244003
        clear HO_251003
        clear HO_259003
        clear HO265
        clear HO272
        clear BK213
        clear BK214
        clear BK236
        clear BK243
        clear BK250
        clear BK258
        clear HB
        have HO_237003 := n0_
        have HO_244003 := n1_
        have HO_251003 := n2_
        have HO_259003 := n3_
        have HO265 := n4_
        have HO272 := n5_
        have BK213 := n6_
        have BK214 := n7_
        have BK236 := n8_
        have BK243 := n9_
        have BK250 := n10_
        have BK258 := n11_
        have HB := n12_
        clear n0_ n1_ n2_ n3_ n4_ n5_ n6_ n7_ n8_ n9_ n10_ n11_ n12_
        (try clear hb)
        (try clear hb2)
        (try clear hk)
        (try clear hi)
        refine hK.out _ _ ⟨(blk_cell BK250.out 0).trans rfl, (blk_cell BK250.out 1).trans rfl, (blk_cell BK250.out 2).trans rfl, (blk_cell BK250.out 3).trans rfl, (blk_cell BK214.out 0).trans rfl, (blk_cell BK214.out 1).trans rfl, (blk_cell BK214.out 2).trans rfl, (blk_cell BK214.out 3).trans rfl⟩ (fun hHeld => ?_)
        clear hK K
        refine norm_ (a' := ?_) ?_ ?_
        rotate_left
        ·
         show Act.put _ (some 62) _ = _
         simp only [Act.put, List.setIfInBounds_toArray, List.set_cons_zero, List.set_cons_succ, i64_w, i32_w]
         rfl
        refine pure_ (i := 4) (N := some 63) (v := ?_) (a' := ?_) #[true, true, true, true, true] rfl rfl (by kernel_rfl) (fun _ _ _ h => h) (Or.inl ⟨by rfl, ?_⟩) ?_ ?_
        rotate_left
        ·
         intro w'
         go_simp
         with_reducible rfl
        rotate_left
        ·
         simp only [Act.put, List.setIfInBounds_toArray, List.set_cons_zero, List.set_cons_succ, i64_w, i32_w]
         rfl
        refine done_ (by kernel_rfl) ?_
        try go_wp2
        go_ret
        exact ⟨zre, zg HB⟩
      ·
       replace c104 := Bool.eq_false_iff.mpr c104
       subst c104
       have H1 : (some false) = some r := by rw [if_neg (show ¬ (false = true) by decide)] at H; exact H
       clear H
       have H := H1
       clear H1
       obtain rfl := Option.some.inj H
       try go_wp2
       have n0_ := Aside0.mk (Kd.R_drew HO_237003.out)
       have n1_ := Aside0.mk (Kd.R_drew HO_244003.out)
       have n2_ := Aside0.mk (Kd.R_drew HO_251003.out)
       have n3_ := Aside0.mk (Kd.R_drew HO_259003.out)
       have n4_ := Aside0.mk (blk_drew BK213.out)
       have n5_ := Aside0.mk (blk_drew BK214.out)
       have n6_ := Aside0.mk (blk_drew BK236.out)
       have n7_ := Aside0.mk (blk_drew BK243.out)
       have n8_ := Aside0.mk (blk_drew BK250.out)
       have n9_ := Aside0.mk (blk_drew BK258.out)
       have n10_ := Aside0.mk (below_drew1 HB.out)
       clear HO_237003
       clear HO_244003
       clear HO_251003
       clear HO_259003
       clear BK213
       clear BK214
       clear BK236
       clear BK243
       clear BK250
       clear BK258
       clear HB
       have HO_237003 := n0_
       have HO_244003 := n1_
       have HO_251003 := n2_
       have HO_259003 := n3_
       have BK213 := n4_
       have BK214 := n5_
       have BK236 := n6_
       have BK243 := n7_
       have BK250 := n8_
       have BK258 := n9_
       have HB := n10_
       clear n0_ n1_ n2_ n3_ n4_ n5_ n6_ n7_ n8_ n9_ n10_
       refine start_ (n := 5) (S := fun w' => w'.cell? ⟨gb243, 0, none⟩ = some (.int .i64 t237) ∧ w'.cell? ⟨gb243, 1, none⟩ = some (.int .i64 t238) ∧ w'.cell? ⟨gb243, 2, none⟩ = some (.int .i64 t239) ∧ w'.cell? ⟨gb243, 3, none⟩ = some (.slice Ao54 t240.length co54) ∧ w'.cell? ⟨gb213, 0, none⟩ = some (.int .i64 a0_0) ∧ w'.cell? ⟨gb213, 1, none⟩ = some (.int .i64 a0_1) ∧ w'.cell? ⟨gb213, 2, none⟩ = some (.int .i64 a0_2) ∧ w'.cell? ⟨gb213, 3, none⟩ = some (.slice A0_3 l0_3.length c0_3)) (ds := []) #[false, false, false, false, false] (by kernel_rfl) rfl rfl ⟨(blk_cell BK243.out 0).trans rfl, (blk_cell BK243.out 1).trans rfl, (blk_cell BK243.out 2).trans rfl, (blk_cell BK243.out 3).trans rfl, (blk_cell BK213.out 0).trans rfl, (blk_cell BK213.out 1).trans rfl, (blk_cell BK213.out 2).trans rfl, (blk_cell BK213.out 3).trans rfl⟩ (fun hHeld => ?_)
       generalize wc.drew = w274 at HO_237003 HO_244003 HO_251003 HO_259003 BK213 BK214 BK236 BK243 BK250 BK258 HB hHeld ⊢
       refine take_ (i := 0) (N := some 54) (v := ?_) (a' := ?_) #[true, false, false, false, false] rfl rfl (by kernel_rfl) (fun _ _ _ h => h) (Or.inl ⟨by rfl, ?_⟩) hHeld ?_ ?_
       rotate_left
       ·
        rintro w' ⟨s0, s1, s2, s3, s4, s5, s6, s7⟩
        go_simp
        with_reducible rfl
       rotate_left
       ·
        simp only [Act.put, List.setIfInBounds_toArray, List.set_cons_zero, List.set_cons_succ, i64_w, i32_w]
        rfl
       refine take_ (i := 1) (N := some 55) (v := ?_) (a' := ?_) #[true, true, false, false, false] rfl rfl (by kernel_rfl) (fun _ _ _ h => h) (Or.inl ⟨by rfl, ?_⟩) hHeld ?_ ?_
       rotate_left
       ·
        rintro w' ⟨s0, s1, s2, s3, s4, s5, s6, s7⟩
        go_simp
        with_reducible rfl
       rotate_left
       ·
        simp only [Act.put, List.setIfInBounds_toArray, List.set_cons_zero, List.set_cons_succ, i64_w, i32_w]
        rfl
       refine one_ (i := 2) (N := some 56) #[true, true, true, false, false] rfl rfl (by kernel_rfl) (by decide) (fun K hK => ?_)
       refine goes_ Try.func28 (by kernel_rfl) rfl #[.agg #[.int .i64 a0_0, .int .i64 a0_1, .int .i64 a0_2, .slice A0_3 l0_3.length c0_3]] (by rfl) rfl rfl zar ?_
       with_reducible refine (laws_toDigest.calls kj24 a0_0 a0_1 a0_2 _ _ l0_3 t260 t261 t262 t263 _ ?side1 ?side2 A102.out).mono ?_
       (case side1 => repeat (first | exact (Kd.C_below HR0_3.out HB.out) | (with_reducible refine Kd.C_alloc ?_ _) | (with_reducible refine Kd.C_drewN ?_ _) | (with_reducible refine Kd.C_drew ?_)))
       (case side2 => exact HC0_3.out)
       rintro e w275 ⟨v264, rfl, ho0, hb⟩
       refine ⟨_, rfl, ?_⟩
       have n0_ := Aside0.mk (Kd.R_elder' (zr HO_237003) (Kd.R_base ho0) hb)
       have n1_ := Aside0.mk (Kd.R_elder' (zr HO_244003) (Kd.R_base ho0) hb)
       have n2_ := Aside0.mk (Kd.R_elder' (zr HO_251003) (Kd.R_base ho0) hb)
       have n3_ := Aside0.mk (Kd.R_elder' (zr HO_259003) (Kd.R_base ho0) hb)
       have n4_ := Aside0.mk (Kd.R_lower (Kd.R_new' (Kd.R_new' (Kd.R_new' (Kd.R_new' ho0 (Kd.R_lt (zr HO_237003))) (Kd.R_lt (zr HO_244003))) (Kd.R_lt (zr HO_251003))) (Kd.R_lt (zr HO_259003))) (below_size (zg HB)))
       have n5_ := Aside0.mk (blk_below (zb BK213) hb)
       have n6_ := Aside0.mk (blk_below (zb BK214) hb)
       have n7_ := Aside0.mk (blk_below (zb BK236) hb)
       have n8_ := Aside0.mk (blk_below (zb BK243) hb)
       have n9_ := Aside0.mk (blk_below (zb BK250) hb)
       have n10_ := Aside0.mk (blk_below (zb BK258) hb)
       have n11_ := Aside0.mk (below_step (zg HB) hb)
       clear HO_237003
       clear HO_244003
       clear HO_251003
       clear HO_259003
       clear BK213
       clear BK214
       clear BK236
       clear BK243
       clear BK250
       clear BK258
       clear HB
       have HO_237003 := n0_
       have HO_244003 := n1_
       have HO_251003 := n2_
       have HO_259003 := n3_
       have HO265 := n4_
       have BK213 := n5_
       have BK214 := n6_
       have BK236 := n7_
       have BK243 := n8_
       have BK250 := n9_
       have BK258 := n10_
       have HB := n11_
       clear n0_ n1_ n2_ n3_ n4_ n5_ n6_ n7_ n8_ n9_ n10_ n11_
       (try clear hb)
       (try clear hb2)
       (try clear hk)
       (try clear hi)
       (try clear ho0)
       obtain ⟨Ao276, co276, eo276⟩ := Kd.R_slice HO265.out
       (first | subst eo276 | (injection eo276 with f1_ f2_ f3_; have f4_ := f1_.symm; have f5_ := f3_.symm; clear f1_ f2_ f3_; subst f4_; subst f5_))
       refine hK.out _ _ ⟨(blk_cell BK243.out 0).trans rfl, (blk_cell BK243.out 1).trans rfl, (blk_cell BK243.out 2).trans rfl, (blk_cell BK243.out 3).trans rfl, (blk_cell BK213.out 0).trans rfl, (blk_cell BK213.out 1).trans rfl, (blk_cell BK213.out 2).trans rfl, (blk_cell BK213.out 3).trans rfl⟩ (fun hHeld => ?_)
       clear hK K
       refine norm_ (a' := ?_) ?_ ?_
       rotate_left
       ·
        show Act.put _ (some 56) _ = _
        simp only [Act.put, List.setIfInBounds_toArray, List.set_cons_zero, List.set_cons_succ, i64_w, i32_w]
        rfl
       refine one_ (i := 3) (N := some 57) #[true, true, true, true, false] rfl rfl (by kernel_rfl) (by decide) (fun K hK => ?_)
       refine goes_ Try.func21 (by kernel_rfl) rfl #[.agg #[.int .i64 t237, .int .i64 t238, .int .i64 t239, .slice Ao54 t240.length co54], .agg #[.int .i64 t260, .int .i64 t261, .int .i64 t262, .slice Ao276 t263.length co276]] (by rfl) rfl rfl zar ?_
       with_reducible refine (laws_eqDigest.calls kj24 t237 t238 t239 _ _ t240 t260 t261 t262 _ _ t263 false _ ?side1 ?side2 ?side3 ?side4 A103.out).mono ?_
       (case side1 => repeat (first | exact (Kd.R_reads' HO_244003.out).2.2 | (with_reducible refine Kd.C_alloc ?_ _) | (with_reducible refine Kd.C_drewN ?_ _) | (with_reducible refine Kd.C_drew ?_)))
       (case side2 => exact (Kd.R_reads' HO_244003.out).2.1)
       (case side3 => repeat (first | exact (Kd.R_reads' HO265.out).2.2 | (with_reducible refine Kd.C_alloc ?_ _) | (with_reducible refine Kd.C_drewN ?_ _) | (with_reducible refine Kd.C_drew ?_)))
       (case side4 => exact (Kd.R_reads' HO265.out).2.1)
       rintro e w277 ⟨rfl, hb⟩
       refine ⟨_, rfl, ?_⟩
       have n0_ := Aside0.mk (Kd.R_below (zr HO_237003) hb)
       have n1_ := Aside0.mk (Kd.R_below (zr HO_244003) hb)
       have n2_ := Aside0.mk (Kd.R_below (zr HO_251003) hb)
       have n3_ := Aside0.mk (Kd.R_below (zr HO_259003) hb)
       have n4_ := Aside0.mk (Kd.R_below (zr HO265) hb)
       have n5_ := Aside0.mk (blk_below (zb BK213) hb)
       have n6_ := Aside0.mk (blk_below (zb BK214) hb)
       have n7_ := Aside0.mk (blk_below (zb BK236) hb)
       have n8_ := Aside0.mk (blk_below (zb BK243) hb)
       have n9_ := Aside0.mk (blk_below (zb BK250) hb)
       have n10_ := Aside0.mk (blk_below (zb BK258) hb)
       have n11_ := Aside0.mk (below_step (zg HB) hb)
       clear HO_237003
       clear HO_244003
       clear HO_251003
       clear HO_259003
       clear HO265
       clear BK213
       clear BK214
       clear BK236
       clear BK243
       clear BK250
       clear BK258
       clear HB
       have HO_237003 := n0_
       have HO_244003 := n1_
       have HO_251003 := n2_
       have HO_259003 := n3_
       have HO265 := n4_
       have BK213 := n5_
       have BK214 := n6_
       have BK236 := n7_
       have BK243 := n8_
       have BK250 := n9_
       have BK258 := n10_
       have HB := n11_
       clear n0_ n1_ n2_ n3_ n4_ n5_ n6_ n7_ n8_ n9_ n10_ n11_
       (try clear hb)
       (try clear hb2)
       (try clear hk)
       (try clear hi)
       refine hK.out _ _ ⟨(blk_cell BK243.out 0).trans rfl, (blk_cell BK243.out 1).trans rfl, (blk_cell BK243.out 2).trans rfl, (blk_cell BK243.out 3).trans rfl, (blk_cell BK213.out 0).trans rfl, (blk_cell BK213.out 1).trans rfl, (blk_cell BK213.out 2).trans rfl, (blk_cell BK213.out 3).trans rfl⟩ (fun hHeld => ?_)
       clear hK K
       refine norm_ (a' := ?_) ?_ ?_
       rotate_left
       ·
        show Act.put _ (some 57) _ = _
        simp only [Act.put, List.setIfInBounds_toArray, List.set_cons_zero, List.set_cons_succ, i64_w, i32_w]
        rfl
       refine pure_ (i := 4) (N := some 58) (v := ?_) (a' := ?_) #[true, true, true, true, true] rfl rfl (by kernel_rfl) (fun _ _ _ h => h) (Or.inl ⟨by rfl, ?_⟩) ?_ ?_
       rotate_left
       ·
        intro w'
        go_simp
        with_reducible rfl
       rotate_left
       ·
        simp only [Act.put, List.setIfInBounds_toArray, List.set_cons_zero, List.set_cons_succ, i64_w, i32_w]
        rfl
       refine done_ (by kernel_rfl) ?_
       try go_wp2
       go_ret
       exact ⟨zre, zg HB⟩

end Go.Proofs.Ytchoncnahlcfjaa.XFnExactDigestJoin
