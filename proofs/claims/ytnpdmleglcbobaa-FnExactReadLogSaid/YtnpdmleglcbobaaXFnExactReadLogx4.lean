-- A printed text of this session (wip/x/xprint.py).
import Derived.Test.YtnpdmleglcbobaaXFnExactReadLogx0
import Derived.Test.YtnpdmleglcbobaaXFnExactReadLogx2
import Derived.Test.YtnpdmleglcbobaaXFnExactReadLogx3
namespace Go.Proofs.Ytnpdmleglcbobaa.XFnExactReadLog
open Go.RowKit Go.Proofs.YtnpdmleglcbobaaW.PrintWords Go.Proofs.YtnpdmleglcbobaaW.PrintLast Go.Proofs.YtnpdmleglcbobaaW.PrintMore
attribute [local go_sem] max2_int min2_int max_two min_two max_three min_three max_four min_four   -- for this text's walks alone
set_option linter.unusedVariables false
set_option linter.unusedSimpArgs false

/-! ### impl_ReadDoc: function 19 -/
def impl_ReadDoc.f (k : Nat) (l0 : List Int) : Option (ByteArray × (List (S66)) × Int) := if (l0.length : Int) > 1048576 then (some ((⟨#[]⟩ : ByteArray), ([] : List (S66)), 2)) else ((impl_docReader_doc.f k l0 0 false).bind fun bt152 => (if bt152.2.2.2 = true then (some ((⟨#[]⟩ : ByteArray), ([] : List (S66)), 15)) else (if bt152.2.2.1 = (l0.length : Int) then (some (bt152.1, bt152.2.1, 0)) else (some ((⟨#[]⟩ : ByteArray), ([] : List (S66)), 15)))))
theorem impl_ReadDoc.mono : ∀ a0 k, LeO (impl_ReadDoc.f k a0) (impl_ReadDoc.f (k + 1) a0) := by
 intro a0 k
 unfold impl_ReadDoc.f
 repeat' first
  | (with_reducible exact impl_docReader_doc.mono _ _ _ _)
  | (with_reducible exact LeO.refl _)
  | (with_reducible exact LeO.none _)
  | (with_reducible refine LeO.ite ?_ ?_)
  | (with_reducible refine LeO.bind ?_ (fun _ => ?_))
set_option maxHeartbeats 8000000 in
set_option maxRecDepth 100000 in
theorem impl_ReadDoc.calls (k : Nat) (A0 : Option Addr) (c0 : Nat) (l0 : List Int) (r1 : ByteArray) (r2 : List (S66)) (r3 : Int) (w : World) (hr0 : Kd.C (Kd.int .u8) w A0 l0.length l0) (hc0 : l0.length ≤ c0) (h : impl_ReadDoc.f k l0 = some (r1, r2, r3)) :
 Calls Try.prog 19 #[.slice A0 l0.length c0] w fun e w' => ∃ v1_ : Value, e = .returned (.tuple #[.agg #[.string r1, v1_], .int .i64 r3]) ∧ Kd.S k66 66 w' w.heap.size (fun _ => True) v1_ r2 ∧ Below w.heap.size w w' := by
 have hu31 := Try.underlying31
 have hu78 := Try.underlying78
 have HR0 := Aside0.mk hr0
 have HC0 := Aside0.mk hc0
 clear hr0 hc0
 have HB := Aside0.mk (Below.refl w.heap.size w)
 have H := h
 unfold impl_ReadDoc.f at H
 clear h
 by_cases c2 : (l0.length : Int) > 1048576
 ·rw [if_pos c2] at H
  have c2b0 : decide (1048576 < (l0.length : Int)) = true := decide_eq_true c2
  have c2b1 : decide (1048576 < l0.length) = true := decide_eq_true (by omega)
  clear c2
  simp only [Option.some.injEq, Prod.mk.injEq] at H
  obtain ⟨rfl, rfl, rfl⟩ := H
  go_enter Try.func19, Try.ntmps19
  go_wp2_with (first | ((with_reducible refine gate_dst (N := 2) rfl ?_); (try (refine gate_guard (by rfl) ?_; dsimp only)); refine box_event (by rfl) (N := 2) (by rfl) (cs := #[.string (⟨#[]⟩ : ByteArray), .slice none 0 0]) (t := 31) zgs ?_; intro gb150 hg w3 hbox hb; have BK150 := Aside0.mk (hbox); have GW150 := zge hg (below_size (zh HB)); have GE150 := zge hg (below_size (zh HB)); replace HB := Aside0.mk (below_step (zh HB) hb); clear hb hbox hg; obtain ⟨⟨hcz4_0, hcz4_1⟩, hfz4_0, hfz4_1⟩ := zc2 BK150))
  refine bodyPost_ret (results_ct rfl _ _ gb150 31 #[.string (⟨#[]⟩ : ByteArray), .slice none 0 0] (0, 0) _ rfl (zp BK150) Try.underlying31 rfl (by kernel_rfl)) rfl ?_
  exact ⟨_, zre, by first | exact Kd.S_nil _ _ _ _ _ | exact Kd.N_nil _ _ _ _ _ | exact Kd.V_nil _ _ _ _ _ | exact Kd.Q_nil _ _ _ _ _ | exact Kd.R_nil _ _ _ _ _, zg HB⟩
 rw [if_neg c2] at H
 have c2b0 : decide (1048576 < (l0.length : Int)) = false := decide_eq_false c2
 have c2b1 : decide (1048576 < l0.length) = false := decide_eq_false (by omega)
 clear c2
 replace H := Option.bind_eq_some_iff.mp H
 obtain ⟨⟨t152, t153, t156, t157⟩, A50, H⟩ := H
 try dsimp only at H
 have A5 := Aside0.mk A50
 clear A50
 by_cases c6 : t157 = true
 ·subst c6
  rw [if_pos rfl] at H
  simp only [Option.some.injEq, Prod.mk.injEq] at H
  obtain ⟨rfl, rfl, rfl⟩ := H
  go_enter Try.func19, Try.ntmps19
  go_wp2_with (first | ((with_reducible refine gate_dst (N := 2) rfl ?_); (try (refine gate_guard (by rfl) ?_; dsimp only)); refine box_event (by rfl) (N := 2) (by rfl) (cs := #[.string (⟨#[]⟩ : ByteArray), .slice none 0 0]) (t := 31) zgs ?_; intro gb150 hg w7 hbox hb; have BK150 := Aside0.mk (hbox); have GW150 := zge hg (below_size (zh HB)); have GE150 := zge hg (below_size (zh HB)); replace HB := Aside0.mk (below_step (zh HB) hb); clear hb hbox hg) | ((with_reducible refine gate_dst (N := 12) rfl ?_); (try (refine gate_guard (by rfl) ?_; dsimp only)); refine box_event (by rfl) (N := 12) (by rfl) (cs := #[.slice A0 l0.length c0, .int .i64 0, .bool false]) (t := 78) zgs ?_; intro gb151 hg w8 hbox hb; have HI151 := Aside0.mk ((show IsS78 w w8 gb151 l0 0 false from ⟨_, _, hbox, (by rw [hg]; exact (below_size (zg HB)) : w.heap.size ≤ gb151), ⟨HR0.out, HC0.out⟩⟩)); have GW151 := zge hg (below_size (zg HB)); have GE151 := zge hg (below_size (zg HB)); replace HB := Aside0.mk (below_step (zg HB) hb); have NB150_151 := znl hg (blk_lt (zb BK150)); have NB151_150 := zng hg (blk_lt (zb BK150)); replace BK150 := Aside0.mk (blk_below (zb BK150) hb); clear hb hbox hg) | ((with_reducible refine gate_callee (f := 44) rfl ?_); refine goesL_ (some 14) rfl rfl Try.func44 (by kernel_rfl) rfl #[.pointer (some ⟨gb151, 0, none⟩)] rfl zar ?_; (with_reducible refine (impl_docReader_doc.calls k gb151 l0 0 false t152 t153 t156 true w _ ?side1 ?side2 A5.out).mono ?_); (case side1 => exact zi78 HI151); (case side2 => exact zj78 HB); rintro e w9 ⟨v154, rfl, ho0, hi, hb, hk⟩; refine ⟨_, rfl, ?_⟩; replace BK150 := Aside0.mk (KeepBut.blk hk (g' := gb150) (o := .cells #[.string (⟨#[]⟩ : ByteArray), .slice none 0 0] 31 (0, 0)) (zb BK150) NB150_151.out (by simp)); have HO155 := Aside0.mk (Kd.S_lower ho0 (below_size (zj78 HB))); replace HB := Aside0.mk (hb); replace HI151 := Aside0.mk (hi); (try clear hb ho0); (try clear hb); (try clear hk); (try clear hi)) | ((with_reducible refine gate_dst (N := 5) rfl ?_); (try (refine gate_guard (by rfl) ?_; dsimp only)); refine box_event (by rfl) (N := 5) (by rfl) (cs := #[.string (⟨#[]⟩ : ByteArray), .slice none 0 0]) (t := 31) zgs ?_; intro gb158 hg w10 hbox hb; replace HO155 := Aside0.mk (Kd.S_below (zs HO155) hb); have BK158 := Aside0.mk (hbox); have GW158 := zge hg (below_size (zj78 HB)); have GE158 := zge hg (below_size (zj78 HB)); replace HB := Aside0.mk (below_step (zj78 HB) hb); have NB150_158 := znl hg (blk_lt (zb BK150)); have NB158_150 := zng hg (blk_lt (zb BK150)); replace BK150 := Aside0.mk (blk_below (zb BK150) hb); have NB151_158 := znl hg (IsS78.lt (show IsS78 w _ gb151 l0 t156 true from zi78 HI151)); have NB158_151 := zng hg (IsS78.lt (show IsS78 w _ gb151 l0 t156 true from zi78 HI151)); replace HI151 := Aside0.mk (IsS78.below (zi78 HI151) hb); clear hb hbox hg; have hnb11 := NB158_150.out; have hnc11 := NB150_158.out; have hnb12 := NB158_151.out; have hnc12 := NB151_158.out; obtain ⟨⟨hcz13_0, hcz13_1⟩, hfz13_0, hfz13_1⟩ := zc2 BK158; obtain ⟨Ao14, co14, eo14⟩ := Kd.S_slice HO155.out; subst eo14; obtain ⟨ASz15_0, cSz15_0, HGz15, hgz15, HSz15_0⟩ := HI151.out; have hcz15_0 := cellS78_0 HGz15; have hcz15_1 := cellS78_1 HGz15; have hcz15_2 := cellS78_2 HGz15; have hfz15_1 := blk_frozen HGz15 1; have hfz15_2 := blk_frozen HGz15 2; clear HGz15 hgz15; have hnb16 := NB150_151.out; have hnc16 := NB151_150.out; obtain ⟨⟨hcz17_0, hcz17_1⟩, hfz17_0, hfz17_1⟩ := zc2 BK150))
  refine bodyPost_ret (results_ct rfl _ _ gb150 31 #[.string (⟨#[]⟩ : ByteArray), .slice none 0 0] (0, 0) _ rfl (zp BK150) Try.underlying31 rfl (by kernel_rfl)) rfl ?_
  exact ⟨_, zre, by first | exact Kd.S_nil _ _ _ _ _ | exact Kd.N_nil _ _ _ _ _ | exact Kd.V_nil _ _ _ _ _ | exact Kd.Q_nil _ _ _ _ _ | exact Kd.R_nil _ _ _ _ _, zj78 HB⟩
 replace c6 := Bool.eq_false_iff.mpr c6
 subst c6
 rw [if_neg (show ¬ (false = true) by decide)] at H
 by_cases c18 : t156 = (l0.length : Int)
 rotate_left
 ·rw [if_neg c18] at H
  have c18b0 : (t156 == (l0.length : Int)) = false := beq_eq_false_iff_ne.mpr c18
  have c18b1 : (t156 != (l0.length : Int)) = true := bne_iff_ne.mpr c18
  simp only [Option.some.injEq, Prod.mk.injEq] at H
  obtain ⟨rfl, rfl, rfl⟩ := H
  go_enter Try.func19, Try.ntmps19
  go_wp2_with (first | ((with_reducible refine gate_dst (N := 2) rfl ?_); (try (refine gate_guard (by rfl) ?_; dsimp only)); refine box_event (by rfl) (N := 2) (by rfl) (cs := #[.string (⟨#[]⟩ : ByteArray), .slice none 0 0]) (t := 31) zgs ?_; intro gb150 hg w30 hbox hb; have BK150 := Aside0.mk (hbox); have GW150 := zge hg (below_size (zh HB)); have GE150 := zge hg (below_size (zh HB)); replace HB := Aside0.mk (below_step (zh HB) hb); clear hb hbox hg) | ((with_reducible refine gate_dst (N := 12) rfl ?_); (try (refine gate_guard (by rfl) ?_; dsimp only)); refine box_event (by rfl) (N := 12) (by rfl) (cs := #[.slice A0 l0.length c0, .int .i64 0, .bool false]) (t := 78) zgs ?_; intro gb151 hg w31 hbox hb; have HI151 := Aside0.mk ((show IsS78 w w31 gb151 l0 0 false from ⟨_, _, hbox, (by rw [hg]; exact (below_size (zg HB)) : w.heap.size ≤ gb151), ⟨HR0.out, HC0.out⟩⟩)); have GW151 := zge hg (below_size (zg HB)); have GE151 := zge hg (below_size (zg HB)); replace HB := Aside0.mk (below_step (zg HB) hb); have NB150_151 := znl hg (blk_lt (zb BK150)); have NB151_150 := zng hg (blk_lt (zb BK150)); replace BK150 := Aside0.mk (blk_below (zb BK150) hb); clear hb hbox hg) | ((with_reducible refine gate_callee (f := 44) rfl ?_); refine goesL_ (some 14) rfl rfl Try.func44 (by kernel_rfl) rfl #[.pointer (some ⟨gb151, 0, none⟩)] rfl zar ?_; (with_reducible refine (impl_docReader_doc.calls k gb151 l0 0 false t152 t153 t156 false w _ ?side1 ?side2 A5.out).mono ?_); (case side1 => exact zi78 HI151); (case side2 => exact zj78 HB); rintro e w32 ⟨v154, rfl, ho0, hi, hb, hk⟩; refine ⟨_, rfl, ?_⟩; replace BK150 := Aside0.mk (KeepBut.blk hk (g' := gb150) (o := .cells #[.string (⟨#[]⟩ : ByteArray), .slice none 0 0] 31 (0, 0)) (zb BK150) NB150_151.out (by simp)); have HO155 := Aside0.mk (Kd.S_lower ho0 (below_size (zj78 HB))); replace HB := Aside0.mk (hb); replace HI151 := Aside0.mk (hi); (try clear hb ho0); (try clear hb); (try clear hk); (try clear hi)) | ((with_reducible refine gate_dst (N := 5) rfl ?_); (try (refine gate_guard (by rfl) ?_; dsimp only)); refine box_event (by rfl) (N := 5) (by rfl) (cs := #[.string (⟨#[]⟩ : ByteArray), .slice none 0 0]) (t := 31) zgs ?_; intro gb158 hg w33 hbox hb; replace HO155 := Aside0.mk (Kd.S_below (zs HO155) hb); have BK158 := Aside0.mk (hbox); have GW158 := zge hg (below_size (zj78 HB)); have GE158 := zge hg (below_size (zj78 HB)); replace HB := Aside0.mk (below_step (zj78 HB) hb); have NB150_158 := znl hg (blk_lt (zb BK150)); have NB158_150 := zng hg (blk_lt (zb BK150)); replace BK150 := Aside0.mk (blk_below (zb BK150) hb); have NB151_158 := znl hg (IsS78.lt (show IsS78 w _ gb151 l0 t156 false from zi78 HI151)); have NB158_151 := zng hg (IsS78.lt (show IsS78 w _ gb151 l0 t156 false from zi78 HI151)); replace HI151 := Aside0.mk (IsS78.below (zi78 HI151) hb); clear hb hbox hg; have hnb34 := NB158_150.out; have hnc34 := NB150_158.out; have hnb35 := NB158_151.out; have hnc35 := NB151_158.out; obtain ⟨⟨hcz36_0, hcz36_1⟩, hfz36_0, hfz36_1⟩ := zc2 BK158; obtain ⟨Ao37, co37, eo37⟩ := Kd.S_slice HO155.out; subst eo37; obtain ⟨ASz38_0, cSz38_0, HGz38, hgz38, HSz38_0⟩ := HI151.out; have hcz38_0 := cellS78_0 HGz38; have hcz38_1 := cellS78_1 HGz38; have hcz38_2 := cellS78_2 HGz38; have hfz38_1 := blk_frozen HGz38 1; have hfz38_2 := blk_frozen HGz38 2; clear HGz38 hgz38; have hnb39 := NB150_151.out; have hnc39 := NB151_150.out; obtain ⟨⟨hcz40_0, hcz40_1⟩, hfz40_0, hfz40_1⟩ := zc2 BK150))
  refine bodyPost_ret (results_ct rfl _ _ gb150 31 #[.string (⟨#[]⟩ : ByteArray), .slice none 0 0] (0, 0) _ rfl (zp BK150) Try.underlying31 rfl (by kernel_rfl)) rfl ?_
  exact ⟨_, zre, by first | exact Kd.S_nil _ _ _ _ _ | exact Kd.N_nil _ _ _ _ _ | exact Kd.V_nil _ _ _ _ _ | exact Kd.Q_nil _ _ _ _ _ | exact Kd.R_nil _ _ _ _ _, zj78 HB⟩

 rw [if_pos c18] at H
 have c18b0 : (t156 == (l0.length : Int)) = true := beq_iff_eq.mpr c18
 have c18b1 : (t156 != (l0.length : Int)) = false := bne_eq_false_iff_eq.mpr c18
 clear c18
 simp only [Option.some.injEq, Prod.mk.injEq] at H
 obtain ⟨rfl, rfl, rfl⟩ := H
 go_enter Try.func19, Try.ntmps19
 go_wp2_with (first | ((with_reducible refine gate_dst (N := 2) rfl ?_); (try (refine gate_guard (by rfl) ?_; dsimp only)); refine box_event (by rfl) (N := 2) (by rfl) (cs := #[.string (⟨#[]⟩ : ByteArray), .slice none 0 0]) (t := 31) zgs ?_; intro gb150 hg w19 hbox hb; have BK150 := Aside0.mk (hbox); have GW150 := zge hg (below_size (zh HB)); have GE150 := zge hg (below_size (zh HB)); replace HB := Aside0.mk (below_step (zh HB) hb); clear hb hbox hg) | ((with_reducible refine gate_dst (N := 12) rfl ?_); (try (refine gate_guard (by rfl) ?_; dsimp only)); refine box_event (by rfl) (N := 12) (by rfl) (cs := #[.slice A0 l0.length c0, .int .i64 0, .bool false]) (t := 78) zgs ?_; intro gb151 hg w20 hbox hb; have HI151 := Aside0.mk ((show IsS78 w w20 gb151 l0 0 false from ⟨_, _, hbox, (by rw [hg]; exact (below_size (zg HB)) : w.heap.size ≤ gb151), ⟨HR0.out, HC0.out⟩⟩)); have GW151 := zge hg (below_size (zg HB)); have GE151 := zge hg (below_size (zg HB)); replace HB := Aside0.mk (below_step (zg HB) hb); have NB150_151 := znl hg (blk_lt (zb BK150)); have NB151_150 := zng hg (blk_lt (zb BK150)); replace BK150 := Aside0.mk (blk_below (zb BK150) hb); clear hb hbox hg) | ((with_reducible refine gate_callee (f := 44) rfl ?_); refine goesL_ (some 14) rfl rfl Try.func44 (by kernel_rfl) rfl #[.pointer (some ⟨gb151, 0, none⟩)] rfl zar ?_; (with_reducible refine (impl_docReader_doc.calls k gb151 l0 0 false t152 t153 t156 false w _ ?side1 ?side2 A5.out).mono ?_); (case side1 => exact zi78 HI151); (case side2 => exact zj78 HB); rintro e w21 ⟨v154, rfl, ho0, hi, hb, hk⟩; refine ⟨_, rfl, ?_⟩; replace BK150 := Aside0.mk (KeepBut.blk hk (g' := gb150) (o := .cells #[.string (⟨#[]⟩ : ByteArray), .slice none 0 0] 31 (0, 0)) (zb BK150) NB150_151.out (by simp)); have HO155 := Aside0.mk (Kd.S_lower ho0 (below_size (zj78 HB))); replace HB := Aside0.mk (hb); replace HI151 := Aside0.mk (hi); (try clear hb ho0); (try clear hb); (try clear hk); (try clear hi)) | ((with_reducible refine gate_dst (N := 5) rfl ?_); (try (refine gate_guard (by rfl) ?_; dsimp only)); refine box_event (by rfl) (N := 5) (by rfl) (cs := #[.string (⟨#[]⟩ : ByteArray), .slice none 0 0]) (t := 31) zgs ?_; intro gb158 hg w22 hbox hb; replace HO155 := Aside0.mk (Kd.S_below (zs HO155) hb); have BK158 := Aside0.mk (hbox); have GW158 := zge hg (below_size (zj78 HB)); have GE158 := zge hg (below_size (zj78 HB)); replace HB := Aside0.mk (below_step (zj78 HB) hb); have NB150_158 := znl hg (blk_lt (zb BK150)); have NB158_150 := zng hg (blk_lt (zb BK150)); replace BK150 := Aside0.mk (blk_below (zb BK150) hb); have NB151_158 := znl hg (IsS78.lt (show IsS78 w _ gb151 l0 t156 false from zi78 HI151)); have NB158_151 := zng hg (IsS78.lt (show IsS78 w _ gb151 l0 t156 false from zi78 HI151)); replace HI151 := Aside0.mk (IsS78.below (zi78 HI151) hb); clear hb hbox hg; have hnb23 := NB158_150.out; have hnc23 := NB150_158.out; have hnb24 := NB158_151.out; have hnc24 := NB151_158.out; obtain ⟨⟨hcz25_0, hcz25_1⟩, hfz25_0, hfz25_1⟩ := zc2 BK158; obtain ⟨Ao26, co26, eo26⟩ := Kd.S_slice HO155.out; subst eo26; obtain ⟨ASz27_0, cSz27_0, HGz27, hgz27, HSz27_0⟩ := HI151.out; have hcz27_0 := cellS78_0 HGz27; have hcz27_1 := cellS78_1 HGz27; have hcz27_2 := cellS78_2 HGz27; have hfz27_1 := blk_frozen HGz27 1; have hfz27_2 := blk_frozen HGz27 2; clear HGz27 hgz27; have hnb28 := NB150_151.out; have hnc28 := NB151_150.out; obtain ⟨⟨hcz29_0, hcz29_1⟩, hfz29_0, hfz29_1⟩ := zc2 BK150))
 refine bodyPost_ret (results_ct rfl _ _ gb150 31 #[.string t152, .slice Ao26 t153.length co26] (0, 0) _ rfl (zp BK150) Try.underlying31 rfl (by kernel_rfl)) rfl ?_
 exact ⟨_, zre, by (with_reducible repeat (first | apply Kd.S_alloc | apply Kd.S_drewN | apply Kd.S_drew)); exact Kd.S_mono (Kd.S_far (p := ⟨gb150, 1, none⟩) (Kd.S_far (p := ⟨gb150, 0, none⟩) (Kd.S_far (p := ⟨gb158, 1, none⟩) (Kd.S_far (p := ⟨gb158, 0, none⟩) (Kd.S_types (Kd.S_types HO155.out BK158.out (by decide)) BK150.out (by decide)) (fun _ hk => hk.1.2) (.string t152)) (fun _ hk => hk.1.2) (.slice Ao26 t153.length co26)) (fun _ hk => hk.2) (.string t152)) (fun _ hk => hk.2) (.slice Ao26 t153.length co26)) (fun _ hk => trivial), zj78 HB⟩
/-! ### impl_putInt: function 39 -/
def impl_putInt.l0 : Nat → List Int → Int → Option (List Int)
 | 0, _, _ => none
 | k + 1, x0, x1 => if x1 ≥ 128 then (if x0.length < 140737488355328 then (impl_putInt.l0 k (x0 ++ [Go.bits .or .u8 ((x1) % 256) 128]) (x1 / 128)) else (none)) else (if x0.length < 140737488355328 then (some (x0 ++ [(x1) % 256])) else (none))
def impl_putInt.f (k : Nat) (l0 : List Int) (a1 : Int) : Option (List Int) := impl_putInt.l0 k l0 a1
theorem impl_putInt.mono_l : ∀ k, (∀ y0 y1, LeO (impl_putInt.l0 k y0 y1) (impl_putInt.l0 (k + 1) y0 y1))
 | 0 => fun _ _ r h => by simp [impl_putInt.l0] at h
 | k + 1 => by
  have ih0 := impl_putInt.mono_l k
  ·intro y0 y1
   unfold impl_putInt.l0
   repeat' first
   | (with_reducible exact ih0 _ _)
   | (with_reducible exact LeO.refl _)
   | (with_reducible exact LeO.none _)
   | (with_reducible refine LeO.ite ?_ ?_)
   | (with_reducible refine LeO.bind ?_ (fun _ => ?_))
theorem impl_putInt.mono : ∀ a0 a1 k, LeO (impl_putInt.f k a0 a1) (impl_putInt.f (k + 1) a0 a1) := by
 intro a0 a1 k
 have ih0 := impl_putInt.mono_l k
 unfold impl_putInt.f
 repeat' first
  | (with_reducible exact ih0 _ _)
  | (with_reducible exact LeO.refl _)
  | (with_reducible exact LeO.none _)
  | (with_reducible refine LeO.ite ?_ ?_)
  | (with_reducible refine LeO.bind ?_ (fun _ => ?_))
set_option maxHeartbeats 8000000 in
set_option maxRecDepth 100000 in
theorem impl_putInt.calls (k : Nat) (P0_ : Nat → Prop) (u9000_ : Value) (l0 : List Int) (a1 : Int) (r : List Int) (w0 w : World) (hB : Below w0.heap.size w0 w) (ho0 : Kd.R (Kd.int .u8) 5 w w0.heap.size P0_ u9000_ l0) (h : impl_putInt.f k l0 a1 = some r) :
 Calls Try.prog 39 #[u9000_, .int .i64 a1] w fun e w' => ∃ v0_ : Value, e = .returned (v0_) ∧ Kd.R (Kd.int .u8) 5 w' w0.heap.size (fun k_ => (P0_ k_ ∨ w.heap.size ≤ k_)) v0_ r ∧ Below w0.heap.size w0 w' ∧ Kept w w' (fun k_ => P0_ k_) := by
 have HO0 := Aside0.mk (show Kd.R (Kd.int .u8) 5 w w0.heap.size (fun k_ => (P0_ k_ ∨ w.heap.size ≤ k_)) u9000_ l0 from Kd.R_mono ho0 (fun k_ hk => (.inl hk)))
 have HK := Aside0.mk (Kept.refl w (fun k_ => P0_ k_))
 have HW0 := Aside0.mk hB.size
 have HB := Aside0.mk hB
 clear hB
 have H : (impl_putInt.l0 k l0 a1) = some r := h
 clear h
 have H' := Aside0.mk H
 clear H
 go_enter Try.func39, Try.ntmps39
 go_wp2
 go_loopg [0, 1] k (fun kq v0 v1 w' => ∃ (x0_1 : List Int) (x1_1 : Int), v1 = .int .i64 x1_1 ∧ Aside0 (impl_putInt.l0 kq x0_1 x1_1 = some r) ∧ Aside0 (kq ≤ k) ∧ Aside0 (Kd.R (Kd.int .u8) 5 w' w0.heap.size (fun k_ => (P0_ k_ ∨ w.heap.size ≤ k_)) v0 x0_1) ∧ Aside0 (Kept w w' (fun k_ => P0_ k_)) ∧ Aside0 (Below w0.heap.size w0 w'))
 case atStart => exact ⟨(l0), (a1), zrs, H', ⟨Nat.le_refl _⟩, ⟨zr HO0⟩, ⟨by repeat (first | (with_reducible first | exact HK.out | apply Kept.alloc | apply Kept.drewN | apply Kept.drew) | exact HK.out)⟩, ⟨zh HB⟩⟩
 case round =>
  clear H'
  obtain ⟨x0_1, x1_1, rfl, HA, HK1, HO_0, HK, HB⟩ := hrel
  cases gk with
  | zero => exact absurd HA.out (by simp [impl_putInt.l0])
  | succ k1 =>
   have H := HA.out
   clear HA
   simp only [impl_putInt.l0] at H
   by_cases c3 : x1_1 ≥ 128
   rotate_left
   ·rw [if_neg c3] at H
    have c3b0 : decide (128 ≤ x1_1) = false := decide_eq_false c3
    clear c3
    by_cases c6 : x0_1.length < 140737488355328
    rotate_left
    ·rw [if_neg c6] at H
     exact absurd H (by simp)

    rw [if_pos c6] at H
    have LMc6 := Aside0.mk c6
    clear c6
    obtain ⟨y162, hy162⟩ : ∃ y_ : List Int, y_ = (x0_1 ++ [(x1_1) % 256]) := ⟨_, rfl⟩
    replace H : (some y162) = some r := zby hy162 H
    have Ny162 := Aside0.mk hy162
    clear hy162
    obtain rfl := Option.some.inj H
    go_wp2_with (first | ((with_reducible refine gate_builtin (b := .append) (xs := #[.tmp 15, .tmp 18]) rfl ?_); at_builtin; refine Kd.R_append (Kd.int .u8) (w0 := w0) w0.heap.size rfl (.tmp 15) (.tmp 18) 26 5 (.int .u8 0) 1 rfl Try.underlying26 info5 rfl (by decide) (by omega) u0 x0_1 ((x1_1) % 256) [.int .u8 ((x1_1) % 256)] (fun k_ => (P0_ k_ ∨ w.heap.size ≤ k_)) (fun _ => False) rfl rfl ?aP (fun _ hk => hk.elim) ?aF ?aO ?aB ?aS ?aL ?_; (case aP => exact rfl); (case aB => exact (zh HB)); (case aF => exact (fun k_ hk => (.inr (Nat.le_trans (by first | exact HK.out.1 | exact (show Kept w _ (fun k_ => P0_ k_) from by repeat (first | (with_reducible first | exact HK.out | apply Kept.alloc | apply Kept.drewN | apply Kept.drew) | exact HK.out)).1) hk)))); (case aO => exact (zr HO_0)); (case aS => exact (below_size (zh HB))); (case aL => have := LMc6.out; omega); intro v163 w7 ho hb hg hat; rw [← Ny162.out] at ho; replace HB := Aside0.mk (hb); replace HK := Aside0.mk (Kept.of_grown (S := (fun k_ => P0_ k_)) hg (by repeat (first | (with_reducible first | exact HK.out | apply Kept.alloc | apply Kept.drewN | apply Kept.drew) | exact HK.out)) (fun k_ e_ => (HO_0.out.1 k_ e_))); have HO164 := Aside0.mk (ho); clear HO_0; clear ho hb hg hat))
    go_ret
    exact ⟨_, zre, by (with_reducible repeat (first | apply Kd.R_alloc | apply Kd.R_drewN | apply Kd.R_drew)); exact HO164.out, zh HB, by repeat (first | (with_reducible first | exact HK.out | apply Kept.alloc | apply Kept.drewN | apply Kept.drew) | exact HK.out)⟩
   rw [if_pos c3] at H
   have c3b0 : decide (128 ≤ x1_1) = true := decide_eq_true c3
   clear c3
   by_cases c4 : x0_1.length < 140737488355328
   rotate_left
   ·rw [if_neg c4] at H
    exact absurd H (by simp)
   rw [if_pos c4] at H
   have LMc4 := Aside0.mk c4
   clear c4
   obtain ⟨y159, hy159⟩ : ∃ y_ : List Int, y_ = (x0_1 ++ [Go.bits .or .u8 ((x1_1) % 256) 128]) := ⟨_, rfl⟩
   replace H : (impl_putInt.l0 k1 y159 (x1_1 / 128)) = some r := zby hy159 H
   have Ny159 := Aside0.mk hy159
   clear hy159
   have H' := Aside0.mk H
   clear H
   go_wp2_with (first | ((with_reducible refine gate_builtin (b := .append) (xs := #[.tmp 7, .tmp 11]) rfl ?_); at_builtin; refine Kd.R_append (Kd.int .u8) (w0 := w0) w0.heap.size rfl (.tmp 7) (.tmp 11) 26 5 (.int .u8 0) 1 rfl Try.underlying26 info5 rfl (by decide) (by omega) u0 x0_1 (Go.bits .or .u8 ((x1_1) % 256) 128) [.int .u8 (Go.bits .or .u8 ((x1_1) % 256) 128)] (fun k_ => (P0_ k_ ∨ w.heap.size ≤ k_)) (fun _ => False) rfl rfl ?aP (fun _ hk => hk.elim) ?aF ?aO ?aB ?aS ?aL ?_; (case aP => exact rfl); (case aB => exact (zh HB)); (case aF => exact (fun k_ hk => (.inr (Nat.le_trans (by first | exact HK.out.1 | exact (show Kept w _ (fun k_ => P0_ k_) from by repeat (first | (with_reducible first | exact HK.out | apply Kept.alloc | apply Kept.drewN | apply Kept.drew) | exact HK.out)).1) hk)))); (case aO => exact (zr HO_0)); (case aS => exact (below_size (zh HB))); (case aL => have := LMc4.out; omega); intro v160 w5 ho hb hg hat; rw [← Ny159.out] at ho; replace HB := Aside0.mk (hb); replace HK := Aside0.mk (Kept.of_grown (S := (fun k_ => P0_ k_)) hg (by repeat (first | (with_reducible first | exact HK.out | apply Kept.alloc | apply Kept.drewN | apply Kept.drew) | exact HK.out)) (fun k_ e_ => (HO_0.out.1 k_ e_))); have HO161 := Aside0.mk (ho); clear HO_0; clear ho hb hg hat))
   go_roundg k1
   case measure => have := HK1.out; omega
   case rel => exact ⟨(y159), (x1_1 / 128), zrs, H', ⟨by have := HK1.out; omega⟩, ⟨zr HO161⟩, ⟨by repeat (first | (with_reducible first | exact HK.out | apply Kept.alloc | apply Kept.drewN | apply Kept.drew) | exact HK.out)⟩, ⟨zh HB⟩⟩
/-! ### impl_putText: function 40 -/
def impl_putText.f (k : Nat) (l0 : List Int) (a1 : ByteArray) : Option (List Int) := (impl_putInt.f k l0 (a1.size : Int)).bind fun t165 => (if t165.length + a1.size < 140737488355328 then (some (t165 ++ bytesOf a1)) else (none))
theorem impl_putText.mono : ∀ a0 a1 k, LeO (impl_putText.f k a0 a1) (impl_putText.f (k + 1) a0 a1) := by
 intro a0 a1 k
 unfold impl_putText.f
 repeat' first
  | (with_reducible exact impl_putInt.mono _ _ _)
  | (with_reducible exact LeO.refl _)
  | (with_reducible exact LeO.none _)
  | (with_reducible refine LeO.ite ?_ ?_)
  | (with_reducible refine LeO.bind ?_ (fun _ => ?_))
set_option maxHeartbeats 8000000 in
set_option maxRecDepth 100000 in
theorem impl_putText.calls (k : Nat) (P0_ : Nat → Prop) (u9000_ : Value) (l0 : List Int) (a1 : ByteArray) (r : List Int) (w0 w : World) (hB : Below w0.heap.size w0 w) (ho0 : Kd.R (Kd.int .u8) 5 w w0.heap.size P0_ u9000_ l0) (h : impl_putText.f k l0 a1 = some r) :
 Calls Try.prog 40 #[u9000_, .string a1] w fun e w' => ∃ v0_ : Value, e = .returned (v0_) ∧ Kd.R (Kd.int .u8) 5 w' w0.heap.size (fun k_ => (P0_ k_ ∨ w.heap.size ≤ k_)) v0_ r ∧ Below w0.heap.size w0 w' ∧ Kept w w' (fun k_ => P0_ k_) := by
 have HO0 := Aside0.mk (show Kd.R (Kd.int .u8) 5 w w0.heap.size (fun k_ => (P0_ k_ ∨ w.heap.size ≤ k_)) u9000_ l0 from Kd.R_mono ho0 (fun k_ hk => (.inl hk)))
 have HK := Aside0.mk (Kept.refl w (fun k_ => P0_ k_))
 have HW0 := Aside0.mk hB.size
 have HB := Aside0.mk hB
 clear hB
 have H := h
 unfold impl_putText.f at H
 clear h
 replace H := Option.bind_eq_some_iff.mp H
 obtain ⟨t165, A30, H⟩ := H
 try dsimp only at H
 have A3 := Aside0.mk A30
 clear A30
 by_cases c4 : t165.length + a1.size < 140737488355328
 rotate_left
 ·rw [if_neg c4] at H
  exact absurd H (by simp)

 rw [if_pos c4] at H
 have LMc4 := Aside0.mk c4
 clear c4
 obtain ⟨y168, hy168⟩ : ∃ y_ : List Int, y_ = (t165 ++ bytesOf a1) := ⟨_, rfl⟩
 replace H : (some y168) = some r := zby hy168 H
 have Ny168 := Aside0.mk hy168
 clear hy168
 obtain rfl := Option.some.inj H
 obtain ⟨Ao5, co5, eo5⟩ := Kd.R_slice HO0.out
 subst eo5
 go_enter Try.func40, Try.ntmps40
 go_wp2_with (first | ((with_reducible refine gate_callee (f := 39) rfl ?_); refine goesL_ (some 8) rfl rfl Try.func39 (by kernel_rfl) rfl #[.slice Ao5 l0.length co5, .int .i64 (a1.size : Int)] rfl zar ?_; (with_reducible refine (impl_putInt.calls k (fun k_ => some k_ = (.slice Ao5 l0.length co5 : Value).ownBlock) (.slice Ao5 l0.length co5) l0 (a1.size : Int) t165 w0 _ ?side1 ?side2 A3.out).mono ?_); (case side1 => exact zh HB); (case side2 => exact Kd.R_tight rfl HO0.out); rintro e w6 ⟨v166, rfl, ho0, hb, hkp⟩; refine ⟨_, rfl, ?_⟩; have HO167 := Aside0.mk (Kd.R_mono (ok' := fun k_ => (P0_ k_ ∨ w.heap.size ≤ k_)) ho0 (fun k_ hk_ => Or.elim hk_ (fun hs_ => (HO0.out.1 k_ (hs_).symm)) (fun hn_ => (.inr (Nat.le_trans (by first | exact HK.out.1 | exact (show Kept w _ (fun k_ => P0_ k_) from by repeat (first | (with_reducible first | exact HK.out | apply Kept.alloc | apply Kept.drewN | apply Kept.drew) | exact HK.out)).1) hn_))))); replace HK := Aside0.mk (Kept.then_ (S := (fun k_ => P0_ k_)) (by repeat (first | (with_reducible first | exact HK.out | apply Kept.alloc | apply Kept.drewN | apply Kept.drew) | exact HK.out)) hkp (fun k_ hs_ => (fun e_ => (HO0.out.1 k_ e_.symm)) hs_)); replace HB := Aside0.mk (hb); clear HO0; (try clear hb); (try clear hkp); (try clear ho0)) | (at_builtin; refine Kd.R_append_str (w0 := w0) w0.heap.size rfl (.tmp 8) _ 26 9 5 rfl Try.underlying26 Try.underlying9 info5 v166 t165 a1 (fun k_ => (P0_ k_ ∨ w.heap.size ≤ k_)) rfl rfl ?aF ?aO ?aB ?aS ?aL ?_; (case aB => exact (zh HB)); (case aF => exact (fun k_ hk => (.inr (Nat.le_trans (by first | exact HK.out.1 | exact (show Kept w _ (fun k_ => P0_ k_) from by repeat (first | (with_reducible first | exact HK.out | apply Kept.alloc | apply Kept.drewN | apply Kept.drew) | exact HK.out)).1) hk)))); (case aO => exact (zr HO167)); (case aS => exact (below_size (zh HB))); (case aL => have := LMc4.out; omega); intro v169 w7 ho hb hg hat; rw [← Ny168.out] at ho; replace HB := Aside0.mk (hb); replace HK := Aside0.mk (Kept.of_grown (S := (fun k_ => P0_ k_)) hg (by repeat (first | (with_reducible first | exact HK.out | apply Kept.alloc | apply Kept.drewN | apply Kept.drew) | exact HK.out)) (fun k_ e_ => (HO167.out.1 k_ e_))); have HO170 := Aside0.mk (ho); clear HO167; clear ho hb hg hat))
 go_ret
 exact ⟨_, zre, by (with_reducible repeat (first | apply Kd.R_alloc | apply Kd.R_drewN | apply Kd.R_drew)); exact HO170.out, zh HB, by repeat (first | (with_reducible first | exact HK.out | apply Kept.alloc | apply Kept.drewN | apply Kept.drew) | exact HK.out)⟩
end Go.Proofs.Ytnpdmleglcbobaa.XFnExactReadLog
