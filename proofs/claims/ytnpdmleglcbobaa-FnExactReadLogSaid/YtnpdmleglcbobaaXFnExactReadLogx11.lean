-- A printed text of this session (wip/x/xprint.py).
import Derived.Test.YtnpdmleglcbobaaXFnExactReadLogx0
import Derived.Test.YtnpdmleglcbobaaXFnExactReadLogx9
import Derived.Test.YtnpdmleglcbobaaXFnExactReadLogx10
namespace Go.Proofs.Ytnpdmleglcbobaa.XFnExactReadLog
open Go.RowKit Go.Proofs.YtnpdmleglcbobaaW.PrintWords Go.Proofs.YtnpdmleglcbobaaW.PrintLast Go.Proofs.YtnpdmleglcbobaaW.PrintMore
attribute [local go_sem] max2_int min2_int max_two min_two max_three min_three max_four min_four   -- for this text's walks alone
set_option linter.unusedVariables false
set_option linter.unusedSimpArgs false

/-! ### spec_ReadDoc: function 17 -/
def spec_ReadDoc.f (k : Nat) (l0 : List Int) : Option (ByteArray × (List (S66)) × Int) := if (l0.length : Int) > 1048576 then (some ((⟨#[]⟩ : ByteArray), ([] : List (S66)), 2)) else ((spec_l06Reader_doc.f k l0 0 false).bind fun bt337 => (if bt337.2.2.2 = true then (some ((⟨#[]⟩ : ByteArray), ([] : List (S66)), 15)) else (if bt337.2.2.1 = (l0.length : Int) then (some (bt337.1, bt337.2.1, 0)) else (some ((⟨#[]⟩ : ByteArray), ([] : List (S66)), 15)))))
theorem spec_ReadDoc.mono : ∀ a0 k, LeO (spec_ReadDoc.f k a0) (spec_ReadDoc.f (k + 1) a0) := by
 intro a0 k
 unfold spec_ReadDoc.f
 repeat' first
  | (with_reducible exact spec_l06Reader_doc.mono _ _ _ _)
  | (with_reducible exact LeO.refl _)
  | (with_reducible exact LeO.none _)
  | (with_reducible refine LeO.ite ?_ ?_)
  | (with_reducible refine LeO.bind ?_ (fun _ => ?_))
set_option maxHeartbeats 8000000 in
set_option maxRecDepth 100000 in
theorem spec_ReadDoc.calls (k : Nat) (A0 : Option Addr) (c0 : Nat) (l0 : List Int) (r1 : ByteArray) (r2 : List (S66)) (r3 : Int) (w : World) (hr0 : Kd.C (Kd.int .u8) w A0 l0.length l0) (hc0 : l0.length ≤ c0) (h : spec_ReadDoc.f k l0 = some (r1, r2, r3)) :
 Calls Try.prog 17 #[.slice A0 l0.length c0] w fun e w' => ∃ v1_ : Value, e = .returned (.tuple #[.agg #[.string r1, v1_], .int .i64 r3]) ∧ Kd.S k66 66 w' w.heap.size (fun _ => True) v1_ r2 ∧ Below w.heap.size w w' := by
 have hu31 := Try.underlying31
 have hu74 := Try.underlying74
 have HR0 := Aside0.mk hr0
 have HC0 := Aside0.mk hc0
 clear hr0 hc0
 have HB := Aside0.mk (Below.refl w.heap.size w)
 have H := h
 unfold spec_ReadDoc.f at H
 clear h
 by_cases c2 : (l0.length : Int) > 1048576
 ·rw [if_pos c2] at H
  have c2b0 : decide (1048576 < (l0.length : Int)) = true := decide_eq_true c2
  have c2b1 : decide (1048576 < l0.length) = true := decide_eq_true (by omega)
  clear c2
  simp only [Option.some.injEq, Prod.mk.injEq] at H
  obtain ⟨rfl, rfl, rfl⟩ := H
  go_enter Try.func17, Try.ntmps17
  go_wp2_with (first | ((with_reducible refine gate_dst (N := 2) rfl ?_); (try (refine gate_guard (by rfl) ?_; dsimp only)); refine box_event (by rfl) (N := 2) (by rfl) (cs := #[.string (⟨#[]⟩ : ByteArray), .slice none 0 0]) (t := 31) zgs ?_; intro gb335 hg w3 hbox hb; have BK335 := Aside0.mk (hbox); have GW335 := zge hg (below_size (zh HB)); have GE335 := zge hg (below_size (zh HB)); replace HB := Aside0.mk (below_step (zh HB) hb); clear hb hbox hg; obtain ⟨⟨hcz4_0, hcz4_1⟩, hfz4_0, hfz4_1⟩ := zc2 BK335))
  refine bodyPost_ret (results_ct rfl _ _ gb335 31 #[.string (⟨#[]⟩ : ByteArray), .slice none 0 0] (0, 0) _ rfl (zp BK335) Try.underlying31 rfl (by kernel_rfl)) rfl ?_
  exact ⟨_, zre, by first | exact Kd.S_nil _ _ _ _ _ | exact Kd.N_nil _ _ _ _ _ | exact Kd.V_nil _ _ _ _ _ | exact Kd.Q_nil _ _ _ _ _ | exact Kd.R_nil _ _ _ _ _, zg HB⟩
 rw [if_neg c2] at H
 have c2b0 : decide (1048576 < (l0.length : Int)) = false := decide_eq_false c2
 have c2b1 : decide (1048576 < l0.length) = false := decide_eq_false (by omega)
 clear c2
 replace H := Option.bind_eq_some_iff.mp H
 obtain ⟨⟨t337, t338, t341, t342⟩, A50, H⟩ := H
 try dsimp only at H
 have A5 := Aside0.mk A50
 clear A50
 by_cases c6 : t342 = true
 ·subst c6
  rw [if_pos rfl] at H
  simp only [Option.some.injEq, Prod.mk.injEq] at H
  obtain ⟨rfl, rfl, rfl⟩ := H
  go_enter Try.func17, Try.ntmps17
  go_wp2_with (first | ((with_reducible refine gate_dst (N := 2) rfl ?_); (try (refine gate_guard (by rfl) ?_; dsimp only)); refine box_event (by rfl) (N := 2) (by rfl) (cs := #[.string (⟨#[]⟩ : ByteArray), .slice none 0 0]) (t := 31) zgs ?_; intro gb335 hg w7 hbox hb; have BK335 := Aside0.mk (hbox); have GW335 := zge hg (below_size (zh HB)); have GE335 := zge hg (below_size (zh HB)); replace HB := Aside0.mk (below_step (zh HB) hb); clear hb hbox hg) | ((with_reducible refine gate_dst (N := 12) rfl ?_); (try (refine gate_guard (by rfl) ?_; dsimp only)); refine box_event (by rfl) (N := 12) (by rfl) (cs := #[.slice A0 l0.length c0, .int .i64 0, .bool false]) (t := 74) zgs ?_; intro gb336 hg w8 hbox hb; have HI336 := Aside0.mk ((show IsS74 w w8 gb336 l0 0 false from ⟨_, _, hbox, (by rw [hg]; exact (below_size (zg HB)) : w.heap.size ≤ gb336), ⟨HR0.out, HC0.out⟩⟩)); have GW336 := zge hg (below_size (zg HB)); have GE336 := zge hg (below_size (zg HB)); replace HB := Aside0.mk (below_step (zg HB) hb); have NB335_336 := znl hg (blk_lt (zb BK335)); have NB336_335 := zng hg (blk_lt (zb BK335)); replace BK335 := Aside0.mk (blk_below (zb BK335) hb); clear hb hbox hg) | ((with_reducible refine gate_callee (f := 43) rfl ?_); refine goesL_ (some 14) rfl rfl Try.func43 (by kernel_rfl) rfl #[.pointer (some ⟨gb336, 0, none⟩)] rfl zar ?_; (with_reducible refine (spec_l06Reader_doc.calls k gb336 l0 0 false t337 t338 t341 true w _ ?side1 ?side2 A5.out).mono ?_); (case side1 => exact zi74 HI336); (case side2 => exact zj74 HB); rintro e w9 ⟨v339, rfl, ho0, hi, hb, hk⟩; refine ⟨_, rfl, ?_⟩; replace BK335 := Aside0.mk (KeepBut.blk hk (g' := gb335) (o := .cells #[.string (⟨#[]⟩ : ByteArray), .slice none 0 0] 31 (0, 0)) (zb BK335) NB335_336.out (by simp)); have HO340 := Aside0.mk (Kd.S_lower ho0 (below_size (zj74 HB))); replace HB := Aside0.mk (hb); replace HI336 := Aside0.mk (hi); (try clear hb ho0); (try clear hb); (try clear hk); (try clear hi)) | ((with_reducible refine gate_dst (N := 5) rfl ?_); (try (refine gate_guard (by rfl) ?_; dsimp only)); refine box_event (by rfl) (N := 5) (by rfl) (cs := #[.string (⟨#[]⟩ : ByteArray), .slice none 0 0]) (t := 31) zgs ?_; intro gb343 hg w10 hbox hb; replace HO340 := Aside0.mk (Kd.S_below (zs HO340) hb); have BK343 := Aside0.mk (hbox); have GW343 := zge hg (below_size (zj74 HB)); have GE343 := zge hg (below_size (zj74 HB)); replace HB := Aside0.mk (below_step (zj74 HB) hb); have NB335_343 := znl hg (blk_lt (zb BK335)); have NB343_335 := zng hg (blk_lt (zb BK335)); replace BK335 := Aside0.mk (blk_below (zb BK335) hb); have NB336_343 := znl hg (IsS74.lt (show IsS74 w _ gb336 l0 t341 true from zi74 HI336)); have NB343_336 := zng hg (IsS74.lt (show IsS74 w _ gb336 l0 t341 true from zi74 HI336)); replace HI336 := Aside0.mk (IsS74.below (zi74 HI336) hb); clear hb hbox hg; have hnb11 := NB343_335.out; have hnc11 := NB335_343.out; have hnb12 := NB343_336.out; have hnc12 := NB336_343.out; obtain ⟨⟨hcz13_0, hcz13_1⟩, hfz13_0, hfz13_1⟩ := zc2 BK343; obtain ⟨Ao14, co14, eo14⟩ := Kd.S_slice HO340.out; subst eo14; obtain ⟨ASz15_0, cSz15_0, HGz15, hgz15, HSz15_0⟩ := HI336.out; have hcz15_0 := cellS74_0 HGz15; have hcz15_1 := cellS74_1 HGz15; have hcz15_2 := cellS74_2 HGz15; have hfz15_1 := blk_frozen HGz15 1; have hfz15_2 := blk_frozen HGz15 2; clear HGz15 hgz15; have hnb16 := NB335_336.out; have hnc16 := NB336_335.out; obtain ⟨⟨hcz17_0, hcz17_1⟩, hfz17_0, hfz17_1⟩ := zc2 BK335))
  refine bodyPost_ret (results_ct rfl _ _ gb335 31 #[.string (⟨#[]⟩ : ByteArray), .slice none 0 0] (0, 0) _ rfl (zp BK335) Try.underlying31 rfl (by kernel_rfl)) rfl ?_
  exact ⟨_, zre, by first | exact Kd.S_nil _ _ _ _ _ | exact Kd.N_nil _ _ _ _ _ | exact Kd.V_nil _ _ _ _ _ | exact Kd.Q_nil _ _ _ _ _ | exact Kd.R_nil _ _ _ _ _, zj74 HB⟩
 replace c6 := Bool.eq_false_iff.mpr c6
 subst c6
 rw [if_neg (show ¬ (false = true) by decide)] at H
 by_cases c18 : t341 = (l0.length : Int)
 rotate_left
 ·rw [if_neg c18] at H
  have c18b0 : (t341 == (l0.length : Int)) = false := beq_eq_false_iff_ne.mpr c18
  have c18b1 : (t341 != (l0.length : Int)) = true := bne_iff_ne.mpr c18
  simp only [Option.some.injEq, Prod.mk.injEq] at H
  obtain ⟨rfl, rfl, rfl⟩ := H
  go_enter Try.func17, Try.ntmps17
  go_wp2_with (first | ((with_reducible refine gate_dst (N := 2) rfl ?_); (try (refine gate_guard (by rfl) ?_; dsimp only)); refine box_event (by rfl) (N := 2) (by rfl) (cs := #[.string (⟨#[]⟩ : ByteArray), .slice none 0 0]) (t := 31) zgs ?_; intro gb335 hg w30 hbox hb; have BK335 := Aside0.mk (hbox); have GW335 := zge hg (below_size (zh HB)); have GE335 := zge hg (below_size (zh HB)); replace HB := Aside0.mk (below_step (zh HB) hb); clear hb hbox hg) | ((with_reducible refine gate_dst (N := 12) rfl ?_); (try (refine gate_guard (by rfl) ?_; dsimp only)); refine box_event (by rfl) (N := 12) (by rfl) (cs := #[.slice A0 l0.length c0, .int .i64 0, .bool false]) (t := 74) zgs ?_; intro gb336 hg w31 hbox hb; have HI336 := Aside0.mk ((show IsS74 w w31 gb336 l0 0 false from ⟨_, _, hbox, (by rw [hg]; exact (below_size (zg HB)) : w.heap.size ≤ gb336), ⟨HR0.out, HC0.out⟩⟩)); have GW336 := zge hg (below_size (zg HB)); have GE336 := zge hg (below_size (zg HB)); replace HB := Aside0.mk (below_step (zg HB) hb); have NB335_336 := znl hg (blk_lt (zb BK335)); have NB336_335 := zng hg (blk_lt (zb BK335)); replace BK335 := Aside0.mk (blk_below (zb BK335) hb); clear hb hbox hg) | ((with_reducible refine gate_callee (f := 43) rfl ?_); refine goesL_ (some 14) rfl rfl Try.func43 (by kernel_rfl) rfl #[.pointer (some ⟨gb336, 0, none⟩)] rfl zar ?_; (with_reducible refine (spec_l06Reader_doc.calls k gb336 l0 0 false t337 t338 t341 false w _ ?side1 ?side2 A5.out).mono ?_); (case side1 => exact zi74 HI336); (case side2 => exact zj74 HB); rintro e w32 ⟨v339, rfl, ho0, hi, hb, hk⟩; refine ⟨_, rfl, ?_⟩; replace BK335 := Aside0.mk (KeepBut.blk hk (g' := gb335) (o := .cells #[.string (⟨#[]⟩ : ByteArray), .slice none 0 0] 31 (0, 0)) (zb BK335) NB335_336.out (by simp)); have HO340 := Aside0.mk (Kd.S_lower ho0 (below_size (zj74 HB))); replace HB := Aside0.mk (hb); replace HI336 := Aside0.mk (hi); (try clear hb ho0); (try clear hb); (try clear hk); (try clear hi)) | ((with_reducible refine gate_dst (N := 5) rfl ?_); (try (refine gate_guard (by rfl) ?_; dsimp only)); refine box_event (by rfl) (N := 5) (by rfl) (cs := #[.string (⟨#[]⟩ : ByteArray), .slice none 0 0]) (t := 31) zgs ?_; intro gb343 hg w33 hbox hb; replace HO340 := Aside0.mk (Kd.S_below (zs HO340) hb); have BK343 := Aside0.mk (hbox); have GW343 := zge hg (below_size (zj74 HB)); have GE343 := zge hg (below_size (zj74 HB)); replace HB := Aside0.mk (below_step (zj74 HB) hb); have NB335_343 := znl hg (blk_lt (zb BK335)); have NB343_335 := zng hg (blk_lt (zb BK335)); replace BK335 := Aside0.mk (blk_below (zb BK335) hb); have NB336_343 := znl hg (IsS74.lt (show IsS74 w _ gb336 l0 t341 false from zi74 HI336)); have NB343_336 := zng hg (IsS74.lt (show IsS74 w _ gb336 l0 t341 false from zi74 HI336)); replace HI336 := Aside0.mk (IsS74.below (zi74 HI336) hb); clear hb hbox hg; have hnb34 := NB343_335.out; have hnc34 := NB335_343.out; have hnb35 := NB343_336.out; have hnc35 := NB336_343.out; obtain ⟨⟨hcz36_0, hcz36_1⟩, hfz36_0, hfz36_1⟩ := zc2 BK343; obtain ⟨Ao37, co37, eo37⟩ := Kd.S_slice HO340.out; subst eo37; obtain ⟨ASz38_0, cSz38_0, HGz38, hgz38, HSz38_0⟩ := HI336.out; have hcz38_0 := cellS74_0 HGz38; have hcz38_1 := cellS74_1 HGz38; have hcz38_2 := cellS74_2 HGz38; have hfz38_1 := blk_frozen HGz38 1; have hfz38_2 := blk_frozen HGz38 2; clear HGz38 hgz38; have hnb39 := NB335_336.out; have hnc39 := NB336_335.out; obtain ⟨⟨hcz40_0, hcz40_1⟩, hfz40_0, hfz40_1⟩ := zc2 BK335))
  refine bodyPost_ret (results_ct rfl _ _ gb335 31 #[.string (⟨#[]⟩ : ByteArray), .slice none 0 0] (0, 0) _ rfl (zp BK335) Try.underlying31 rfl (by kernel_rfl)) rfl ?_
  exact ⟨_, zre, by first | exact Kd.S_nil _ _ _ _ _ | exact Kd.N_nil _ _ _ _ _ | exact Kd.V_nil _ _ _ _ _ | exact Kd.Q_nil _ _ _ _ _ | exact Kd.R_nil _ _ _ _ _, zj74 HB⟩

 rw [if_pos c18] at H
 have c18b0 : (t341 == (l0.length : Int)) = true := beq_iff_eq.mpr c18
 have c18b1 : (t341 != (l0.length : Int)) = false := bne_eq_false_iff_eq.mpr c18
 clear c18
 simp only [Option.some.injEq, Prod.mk.injEq] at H
 obtain ⟨rfl, rfl, rfl⟩ := H
 go_enter Try.func17, Try.ntmps17
 go_wp2_with (first | ((with_reducible refine gate_dst (N := 2) rfl ?_); (try (refine gate_guard (by rfl) ?_; dsimp only)); refine box_event (by rfl) (N := 2) (by rfl) (cs := #[.string (⟨#[]⟩ : ByteArray), .slice none 0 0]) (t := 31) zgs ?_; intro gb335 hg w19 hbox hb; have BK335 := Aside0.mk (hbox); have GW335 := zge hg (below_size (zh HB)); have GE335 := zge hg (below_size (zh HB)); replace HB := Aside0.mk (below_step (zh HB) hb); clear hb hbox hg) | ((with_reducible refine gate_dst (N := 12) rfl ?_); (try (refine gate_guard (by rfl) ?_; dsimp only)); refine box_event (by rfl) (N := 12) (by rfl) (cs := #[.slice A0 l0.length c0, .int .i64 0, .bool false]) (t := 74) zgs ?_; intro gb336 hg w20 hbox hb; have HI336 := Aside0.mk ((show IsS74 w w20 gb336 l0 0 false from ⟨_, _, hbox, (by rw [hg]; exact (below_size (zg HB)) : w.heap.size ≤ gb336), ⟨HR0.out, HC0.out⟩⟩)); have GW336 := zge hg (below_size (zg HB)); have GE336 := zge hg (below_size (zg HB)); replace HB := Aside0.mk (below_step (zg HB) hb); have NB335_336 := znl hg (blk_lt (zb BK335)); have NB336_335 := zng hg (blk_lt (zb BK335)); replace BK335 := Aside0.mk (blk_below (zb BK335) hb); clear hb hbox hg) | ((with_reducible refine gate_callee (f := 43) rfl ?_); refine goesL_ (some 14) rfl rfl Try.func43 (by kernel_rfl) rfl #[.pointer (some ⟨gb336, 0, none⟩)] rfl zar ?_; (with_reducible refine (spec_l06Reader_doc.calls k gb336 l0 0 false t337 t338 t341 false w _ ?side1 ?side2 A5.out).mono ?_); (case side1 => exact zi74 HI336); (case side2 => exact zj74 HB); rintro e w21 ⟨v339, rfl, ho0, hi, hb, hk⟩; refine ⟨_, rfl, ?_⟩; replace BK335 := Aside0.mk (KeepBut.blk hk (g' := gb335) (o := .cells #[.string (⟨#[]⟩ : ByteArray), .slice none 0 0] 31 (0, 0)) (zb BK335) NB335_336.out (by simp)); have HO340 := Aside0.mk (Kd.S_lower ho0 (below_size (zj74 HB))); replace HB := Aside0.mk (hb); replace HI336 := Aside0.mk (hi); (try clear hb ho0); (try clear hb); (try clear hk); (try clear hi)) | ((with_reducible refine gate_dst (N := 5) rfl ?_); (try (refine gate_guard (by rfl) ?_; dsimp only)); refine box_event (by rfl) (N := 5) (by rfl) (cs := #[.string (⟨#[]⟩ : ByteArray), .slice none 0 0]) (t := 31) zgs ?_; intro gb343 hg w22 hbox hb; replace HO340 := Aside0.mk (Kd.S_below (zs HO340) hb); have BK343 := Aside0.mk (hbox); have GW343 := zge hg (below_size (zj74 HB)); have GE343 := zge hg (below_size (zj74 HB)); replace HB := Aside0.mk (below_step (zj74 HB) hb); have NB335_343 := znl hg (blk_lt (zb BK335)); have NB343_335 := zng hg (blk_lt (zb BK335)); replace BK335 := Aside0.mk (blk_below (zb BK335) hb); have NB336_343 := znl hg (IsS74.lt (show IsS74 w _ gb336 l0 t341 false from zi74 HI336)); have NB343_336 := zng hg (IsS74.lt (show IsS74 w _ gb336 l0 t341 false from zi74 HI336)); replace HI336 := Aside0.mk (IsS74.below (zi74 HI336) hb); clear hb hbox hg; have hnb23 := NB343_335.out; have hnc23 := NB335_343.out; have hnb24 := NB343_336.out; have hnc24 := NB336_343.out; obtain ⟨⟨hcz25_0, hcz25_1⟩, hfz25_0, hfz25_1⟩ := zc2 BK343; obtain ⟨Ao26, co26, eo26⟩ := Kd.S_slice HO340.out; subst eo26; obtain ⟨ASz27_0, cSz27_0, HGz27, hgz27, HSz27_0⟩ := HI336.out; have hcz27_0 := cellS74_0 HGz27; have hcz27_1 := cellS74_1 HGz27; have hcz27_2 := cellS74_2 HGz27; have hfz27_1 := blk_frozen HGz27 1; have hfz27_2 := blk_frozen HGz27 2; clear HGz27 hgz27; have hnb28 := NB335_336.out; have hnc28 := NB336_335.out; obtain ⟨⟨hcz29_0, hcz29_1⟩, hfz29_0, hfz29_1⟩ := zc2 BK335))
 refine bodyPost_ret (results_ct rfl _ _ gb335 31 #[.string t337, .slice Ao26 t338.length co26] (0, 0) _ rfl (zp BK335) Try.underlying31 rfl (by kernel_rfl)) rfl ?_
 exact ⟨_, zre, by (with_reducible repeat (first | apply Kd.S_alloc | apply Kd.S_drewN | apply Kd.S_drew)); exact Kd.S_mono (Kd.S_far (p := ⟨gb335, 1, none⟩) (Kd.S_far (p := ⟨gb335, 0, none⟩) (Kd.S_far (p := ⟨gb343, 1, none⟩) (Kd.S_far (p := ⟨gb343, 0, none⟩) (Kd.S_types (Kd.S_types HO340.out BK343.out (by decide)) BK335.out (by decide)) (fun _ hk => hk.1.2) (.string t337)) (fun _ hk => hk.1.2) (.slice Ao26 t338.length co26)) (fun _ hk => hk.2) (.string t337)) (fun _ hk => hk.2) (.slice Ao26 t338.length co26)) (fun _ hk => trivial), zj74 HB⟩
end Go.Proofs.Ytnpdmleglcbobaa.XFnExactReadLog
